-- Printed by wip/tools/myprint.py (the printer of the kit, patched by that program; roots chosen by it)
import Derived.Test.YtniebbjbihenfaaPFnExactSidesSamplex0
import Derived.Test.YtniebbjbihenfaaPFnExactSidesSamplex1
import Derived.Test.YtniebbjbihenfaaPFnExactSidesSamplex2
import Derived.Test.YtniebbjbihenfaaPFnExactSidesSamplex3
import Derived.Test.YtniebbjbihenfaaPFnExactSidesSamplex4
import Derived.Test.YtniebbjbihenfaaPFnExactSidesSamplex5
import Derived.Test.YtniebbjbihenfaaPFnExactSidesSamplex6
import Derived.Test.YtniebbjbihenfaaPFnExactSidesSamplex7
import Derived.Test.YtniebbjbihenfaaPFnExactSidesSamplex8
import Derived.Test.YtniebbjbihenfaaPFnExactSidesSamplex9
import Derived.Test.YtniebbjbihenfaaPFnExactSidesSamplex10
import Derived.Test.YtniebbjbihenfaaPFnExactSidesSamplex11
import Derived.Test.YtniebbjbihenfaaPFnExactSidesSamplex12
namespace Go.Proofs.Ytniebbjbihenfaa.PFnExactSidesSample
open Go.RowKit Go.Proofs.YtniebbjbihenfaaW.PrintWords Go.Proofs.YtniebbjbihenfaaW.PrintLast Go.Proofs.YtniebbjbihenfaaW.PrintMore
attribute [local go_sem] max2_int min2_int max_two min_two max_three min_three max_four min_four   -- for this text's walks alone
set_option linter.unusedVariables false
set_option linter.unusedSimpArgs false

end Go.Proofs.Ytniebbjbihenfaa.PFnExactSidesSample
