-- Printed by wip/tools/myprint.py (the printer of the kit, patched by that program; roots chosen by it)
import Derived.Test.YtniebbjbihenfaaPFnExactKernelRunx0
import Derived.Test.YtniebbjbihenfaaPFnExactKernelRunx1
import Derived.Test.YtniebbjbihenfaaPFnExactKernelRunx2
import Derived.Test.YtniebbjbihenfaaPFnExactKernelRunx3
import Derived.Test.YtniebbjbihenfaaPFnExactKernelRunx4
import Derived.Test.YtniebbjbihenfaaPFnExactKernelRunx5
import Derived.Test.YtniebbjbihenfaaPFnExactKernelRunx6
import Derived.Test.YtniebbjbihenfaaPFnExactKernelRunx7
namespace Go.Proofs.Ytniebbjbihenfaa.PFnExactKernelRun
open Go.RowKit Go.Proofs.YtniebbjbihenfaaW.PrintWords Go.Proofs.YtniebbjbihenfaaW.PrintLast Go.Proofs.YtniebbjbihenfaaW.PrintMore
attribute [local go_sem] max2_int min2_int max_two min_two max_three min_three max_four min_four   -- for this text's walks alone
set_option linter.unusedVariables false
set_option linter.unusedSimpArgs false

end Go.Proofs.Ytniebbjbihenfaa.PFnExactKernelRun
