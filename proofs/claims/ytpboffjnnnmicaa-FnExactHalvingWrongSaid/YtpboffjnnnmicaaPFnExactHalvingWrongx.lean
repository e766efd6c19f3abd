-- Printed by wip/tools/myprint.py (the printer of the kit, patched by that program; roots chosen by it)
import Derived.Test.YtpboffjnnnmicaaPFnExactHalvingWrongx0
import Derived.Test.YtpboffjnnnmicaaPFnExactHalvingWrongx1
import Derived.Test.YtpboffjnnnmicaaPFnExactHalvingWrongx2
import Derived.Test.YtpboffjnnnmicaaPFnExactHalvingWrongx3
import Derived.Test.YtpboffjnnnmicaaPFnExactHalvingWrongx4
import Derived.Test.YtpboffjnnnmicaaPFnExactHalvingWrongx5
namespace Go.Proofs.Ytpboffjnnnmicaa.PFnExactHalvingWrong
open Go.RowKit Go.Proofs.YtpboffjnnnmicaaW.PrintWords Go.Proofs.YtpboffjnnnmicaaW.PrintLast Go.Proofs.YtpboffjnnnmicaaW.PrintMore
attribute [local go_sem] max2_int min2_int max_two min_two max_three min_three max_four min_four   -- for this text's walks alone
set_option linter.unusedVariables false
set_option linter.unusedSimpArgs false

end Go.Proofs.Ytpboffjnnnmicaa.PFnExactHalvingWrong
