-- Printed by wip/tools/myprint.py (the printer of the kit, patched by that program; roots chosen by it)
import Derived.Test.YtfkfahdikmfpeaaPFnExactBoostBoundx0
import Derived.Test.YtfkfahdikmfpeaaPFnExactBoostBoundx1
import Derived.Test.YtfkfahdikmfpeaaPFnExactBoostBoundx2
import Derived.Test.YtfkfahdikmfpeaaPFnExactBoostBoundx3
import Derived.Test.YtfkfahdikmfpeaaPFnExactBoostBoundx4
import Derived.Test.YtfkfahdikmfpeaaPFnExactBoostBoundx5
import Derived.Test.YtfkfahdikmfpeaaPFnExactBoostBoundx6
import Derived.Test.YtfkfahdikmfpeaaPFnExactBoostBoundx7
import Derived.Test.YtfkfahdikmfpeaaPFnExactBoostBoundx8
import Derived.Test.YtfkfahdikmfpeaaPFnExactBoostBoundx9
import Derived.Test.YtfkfahdikmfpeaaPFnExactBoostBoundx10
import Derived.Test.YtfkfahdikmfpeaaPFnExactBoostBoundx11
import Derived.Test.YtfkfahdikmfpeaaPFnExactBoostBoundx12
import Derived.Test.YtfkfahdikmfpeaaPFnExactBoostBoundx13
import Derived.Test.YtfkfahdikmfpeaaPFnExactBoostBoundx14
namespace Go.Proofs.Ytfkfahdikmfpeaa.PFnExactBoostBound
open Go.RowKit Go.Proofs.YtfkfahdikmfpeaaW.PrintWords Go.Proofs.YtfkfahdikmfpeaaW.PrintLast Go.Proofs.YtfkfahdikmfpeaaW.PrintMore
attribute [local go_sem] max2_int min2_int max_two min_two max_three min_three max_four min_four   -- for this text's walks alone
set_option linter.unusedVariables false
set_option linter.unusedSimpArgs false

end Go.Proofs.Ytfkfahdikmfpeaa.PFnExactBoostBound
