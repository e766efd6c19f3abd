-- Printed by wip/tools/myprint.py (the printer of the kit, patched by that program; roots chosen by it)
import Derived.Test.YtfkfahdikmfpeaaPFnExactBoostRoundsx0
import Derived.Test.YtfkfahdikmfpeaaPFnExactBoostRoundsx1
import Derived.Test.YtfkfahdikmfpeaaPFnExactBoostRoundsx2
import Derived.Test.YtfkfahdikmfpeaaPFnExactBoostRoundsx3
import Derived.Test.YtfkfahdikmfpeaaPFnExactBoostRoundsx4
import Derived.Test.YtfkfahdikmfpeaaPFnExactBoostRoundsx5
import Derived.Test.YtfkfahdikmfpeaaPFnExactBoostRoundsx6
import Derived.Test.YtfkfahdikmfpeaaPFnExactBoostRoundsx7
import Derived.Test.YtfkfahdikmfpeaaPFnExactBoostRoundsx8
import Derived.Test.YtfkfahdikmfpeaaPFnExactBoostRoundsx9
import Derived.Test.YtfkfahdikmfpeaaPFnExactBoostRoundsx10
import Derived.Test.YtfkfahdikmfpeaaPFnExactBoostRoundsx11
import Derived.Test.YtfkfahdikmfpeaaPFnExactBoostRoundsx12
import Derived.Test.YtfkfahdikmfpeaaPFnExactBoostRoundsx13
import Derived.Test.YtfkfahdikmfpeaaPFnExactBoostRoundsx14
namespace Go.Proofs.Ytfkfahdikmfpeaa.PFnExactBoostRounds
open Go.RowKit Go.Proofs.YtfkfahdikmfpeaaW.PrintWords Go.Proofs.YtfkfahdikmfpeaaW.PrintLast Go.Proofs.YtfkfahdikmfpeaaW.PrintMore
attribute [local go_sem] max2_int min2_int max_two min_two max_three min_three max_four min_four   -- for this text's walks alone
set_option linter.unusedVariables false
set_option linter.unusedSimpArgs false

end Go.Proofs.Ytfkfahdikmfpeaa.PFnExactBoostRounds
