-- Printed by wip/tools/myprint.py (the printer of the kit, patched by that program; roots chosen by it)
import Derived.Test.YtniebbjbihenfaaPFnExactEvaluateNetx0
import Derived.Test.YtniebbjbihenfaaPFnExactEvaluateNetx1
import Derived.Test.YtniebbjbihenfaaPFnExactEvaluateNetx2
import Derived.Test.YtniebbjbihenfaaPFnExactEvaluateNetx3
import Derived.Test.YtniebbjbihenfaaPFnExactEvaluateNetx4
import Derived.Test.YtniebbjbihenfaaPFnExactEvaluateNetx5
import Derived.Test.YtniebbjbihenfaaPFnExactEvaluateNetx6
namespace Go.Proofs.Ytniebbjbihenfaa.PFnExactEvaluateNet
open Go.RowKit Go.Proofs.YtniebbjbihenfaaW.PrintWords Go.Proofs.YtniebbjbihenfaaW.PrintLast Go.Proofs.YtniebbjbihenfaaW.PrintMore
attribute [local go_sem] max2_int min2_int max_two min_two max_three min_three max_four min_four   -- for this text's walks alone
set_option linter.unusedVariables false
set_option linter.unusedSimpArgs false

end Go.Proofs.Ytniebbjbihenfaa.PFnExactEvaluateNet
