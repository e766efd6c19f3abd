-- Printed by wip/tools/myprint.py (the printer of the kit, patched by that program; roots chosen by it)
import Derived.Test.YtihnijfgdffhjaaPFnExactParityNetx0
import Derived.Test.YtihnijfgdffhjaaPFnExactParityNetx1
import Derived.Test.YtihnijfgdffhjaaPFnExactParityNetx2
import Derived.Test.YtihnijfgdffhjaaPFnExactParityNetx3
namespace Go.Proofs.Ytihnijfgdffhjaa.PFnExactParityNet
open Go.RowKit Go.Proofs.YtihnijfgdffhjaaW.PrintWords Go.Proofs.YtihnijfgdffhjaaW.PrintLast Go.Proofs.YtihnijfgdffhjaaW.PrintMore
attribute [local go_sem] max2_int min2_int max_two min_two max_three min_three max_four min_four   -- for this text's walks alone
set_option linter.unusedVariables false
set_option linter.unusedSimpArgs false

end Go.Proofs.Ytihnijfgdffhjaa.PFnExactParityNet
