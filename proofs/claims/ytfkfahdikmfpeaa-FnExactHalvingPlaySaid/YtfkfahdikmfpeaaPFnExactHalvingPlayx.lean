-- Printed by wip/tools/myprint.py (the printer of the kit, patched by that program; roots chosen by it)
import Derived.Test.YtfkfahdikmfpeaaPFnExactHalvingPlayx0
import Derived.Test.YtfkfahdikmfpeaaPFnExactHalvingPlayx1
import Derived.Test.YtfkfahdikmfpeaaPFnExactHalvingPlayx2
import Derived.Test.YtfkfahdikmfpeaaPFnExactHalvingPlayx3
import Derived.Test.YtfkfahdikmfpeaaPFnExactHalvingPlayx4
import Derived.Test.YtfkfahdikmfpeaaPFnExactHalvingPlayx5
import Derived.Test.YtfkfahdikmfpeaaPFnExactHalvingPlayx6
import Derived.Test.YtfkfahdikmfpeaaPFnExactHalvingPlayx7
import Derived.Test.YtfkfahdikmfpeaaPFnExactHalvingPlayx8
namespace Go.Proofs.Ytfkfahdikmfpeaa.PFnExactHalvingPlay
open Go.RowKit Go.Proofs.YtfkfahdikmfpeaaW.PrintWords Go.Proofs.YtfkfahdikmfpeaaW.PrintLast Go.Proofs.YtfkfahdikmfpeaaW.PrintMore
attribute [local go_sem] max2_int min2_int max_two min_two max_three min_three max_four min_four   -- for this text's walks alone
set_option linter.unusedVariables false
set_option linter.unusedSimpArgs false

end Go.Proofs.Ytfkfahdikmfpeaa.PFnExactHalvingPlay
