-- Printed by wip/tools/myprint.py (the printer of the kit, patched by that program; roots chosen by it)
import Derived.Test.YtfkfahdikmfpeaaPFnExactSinglePlanex0
import Derived.Test.YtfkfahdikmfpeaaPFnExactSinglePlanex1
import Derived.Test.YtfkfahdikmfpeaaPFnExactSinglePlanex2
import Derived.Test.YtfkfahdikmfpeaaPFnExactSinglePlanex3
import Derived.Test.YtfkfahdikmfpeaaPFnExactSinglePlanex4
import Derived.Test.YtfkfahdikmfpeaaPFnExactSinglePlanex5
import Derived.Test.YtfkfahdikmfpeaaPFnExactSinglePlanex6
import Derived.Test.YtfkfahdikmfpeaaPFnExactSinglePlanex7
import Derived.Test.YtfkfahdikmfpeaaPFnExactSinglePlanex8
import Derived.Test.YtfkfahdikmfpeaaPFnExactSinglePlanex9
import Derived.Test.YtfkfahdikmfpeaaPFnExactSinglePlanex10
import Derived.Test.YtfkfahdikmfpeaaPFnExactSinglePlanex11
import Derived.Test.YtfkfahdikmfpeaaPFnExactSinglePlanex12
import Derived.Test.YtfkfahdikmfpeaaPFnExactSinglePlanex13
import Derived.Test.YtfkfahdikmfpeaaPFnExactSinglePlanex14
namespace Go.Proofs.Ytfkfahdikmfpeaa.PFnExactSinglePlane
open Go.RowKit Go.Proofs.YtfkfahdikmfpeaaW.PrintWords Go.Proofs.YtfkfahdikmfpeaaW.PrintLast Go.Proofs.YtfkfahdikmfpeaaW.PrintMore
attribute [local go_sem] max2_int min2_int max_two min_two max_three min_three max_four min_four   -- for this text's walks alone
set_option linter.unusedVariables false
set_option linter.unusedSimpArgs false

end Go.Proofs.Ytfkfahdikmfpeaa.PFnExactSinglePlane
