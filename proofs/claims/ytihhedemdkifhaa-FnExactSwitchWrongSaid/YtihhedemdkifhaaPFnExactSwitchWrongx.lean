-- Printed by wip/tools/myprint.py (the printer of the kit, patched by that program; roots chosen by it)
import Derived.Test.YtihhedemdkifhaaPFnExactSwitchWrongx0
import Derived.Test.YtihhedemdkifhaaPFnExactSwitchWrongx1
import Derived.Test.YtihhedemdkifhaaPFnExactSwitchWrongx2
import Derived.Test.YtihhedemdkifhaaPFnExactSwitchWrongx3
import Derived.Test.YtihhedemdkifhaaPFnExactSwitchWrongx4
import Derived.Test.YtihhedemdkifhaaPFnExactSwitchWrongx5
import Derived.Test.YtihhedemdkifhaaPFnExactSwitchWrongx6
import Derived.Test.YtihhedemdkifhaaPFnExactSwitchWrongx7
namespace Go.Proofs.Ytihhedemdkifhaa.PFnExactSwitchWrong
open Go.RowKit Go.Proofs.YtihhedemdkifhaaW.PrintWords Go.Proofs.YtihhedemdkifhaaW.PrintLast Go.Proofs.YtihhedemdkifhaaW.PrintMore
attribute [local go_sem] max2_int min2_int max_two min_two max_three min_three max_four min_four   -- for this text's walks alone
set_option linter.unusedVariables false
set_option linter.unusedSimpArgs false

end Go.Proofs.Ytihhedemdkifhaa.PFnExactSwitchWrong
