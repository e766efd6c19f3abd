-- Printed by wip/tools/myprint.py (the printer of the kit, patched by that program; roots chosen by it)
import Derived.Test.YtihhedemdkifhaaPFnExactNearLabelx0
import Derived.Test.YtihhedemdkifhaaPFnExactNearLabelx1
import Derived.Test.YtihhedemdkifhaaPFnExactNearLabelx2
import Derived.Test.YtihhedemdkifhaaPFnExactNearLabelx3
import Derived.Test.YtihhedemdkifhaaPFnExactNearLabelx4
import Derived.Test.YtihhedemdkifhaaPFnExactNearLabelx5
import Derived.Test.YtihhedemdkifhaaPFnExactNearLabelx6
import Derived.Test.YtihhedemdkifhaaPFnExactNearLabelx7
import Derived.Test.YtihhedemdkifhaaPFnExactNearLabelx8
namespace Go.Proofs.Ytihhedemdkifhaa.PFnExactNearLabel
open Go.RowKit Go.Proofs.YtihhedemdkifhaaW.PrintWords Go.Proofs.YtihhedemdkifhaaW.PrintLast Go.Proofs.YtihhedemdkifhaaW.PrintMore
attribute [local go_sem] max2_int min2_int max_two min_two max_three min_three max_four min_four   -- for this text's walks alone
set_option linter.unusedVariables false
set_option linter.unusedSimpArgs false

end Go.Proofs.Ytihhedemdkifhaa.PFnExactNearLabel
