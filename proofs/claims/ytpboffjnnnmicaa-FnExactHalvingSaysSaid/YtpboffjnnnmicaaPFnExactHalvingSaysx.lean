-- Printed by wip/tools/myprint.py (the printer of the kit, patched by that program; roots chosen by it)
import Derived.Test.YtpboffjnnnmicaaPFnExactHalvingSaysx0
import Derived.Test.YtpboffjnnnmicaaPFnExactHalvingSaysx1
import Derived.Test.YtpboffjnnnmicaaPFnExactHalvingSaysx2
import Derived.Test.YtpboffjnnnmicaaPFnExactHalvingSaysx3
import Derived.Test.YtpboffjnnnmicaaPFnExactHalvingSaysx4
import Derived.Test.YtpboffjnnnmicaaPFnExactHalvingSaysx5
namespace Go.Proofs.Ytpboffjnnnmicaa.PFnExactHalvingSays
open Go.RowKit Go.Proofs.YtpboffjnnnmicaaW.PrintWords Go.Proofs.YtpboffjnnnmicaaW.PrintLast Go.Proofs.YtpboffjnnnmicaaW.PrintMore
attribute [local go_sem] max2_int min2_int max_two min_two max_three min_three max_four min_four   -- for this text's walks alone
set_option linter.unusedVariables false
set_option linter.unusedSimpArgs false

end Go.Proofs.Ytpboffjnnnmicaa.PFnExactHalvingSays
