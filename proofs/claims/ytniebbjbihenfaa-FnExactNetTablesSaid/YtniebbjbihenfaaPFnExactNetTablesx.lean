-- Printed by wip/tools/myprint.py (the printer of the kit, patched by that program; roots chosen by it)
import Derived.Test.YtniebbjbihenfaaPFnExactNetTablesx0
import Derived.Test.YtniebbjbihenfaaPFnExactNetTablesx1
import Derived.Test.YtniebbjbihenfaaPFnExactNetTablesx2
import Derived.Test.YtniebbjbihenfaaPFnExactNetTablesx3
import Derived.Test.YtniebbjbihenfaaPFnExactNetTablesx4
import Derived.Test.YtniebbjbihenfaaPFnExactNetTablesx5
import Derived.Test.YtniebbjbihenfaaPFnExactNetTablesx6
import Derived.Test.YtniebbjbihenfaaPFnExactNetTablesx7
import Derived.Test.YtniebbjbihenfaaPFnExactNetTablesx8
namespace Go.Proofs.Ytniebbjbihenfaa.PFnExactNetTables
open Go.RowKit Go.Proofs.YtniebbjbihenfaaW.PrintWords Go.Proofs.YtniebbjbihenfaaW.PrintLast Go.Proofs.YtniebbjbihenfaaW.PrintMore
attribute [local go_sem] max2_int min2_int max_two min_two max_three min_three max_four min_four   -- for this text's walks alone
set_option linter.unusedVariables false
set_option linter.unusedSimpArgs false

end Go.Proofs.Ytniebbjbihenfaa.PFnExactNetTables
