-- Printed by wip/tools/myprint.py (the printer of the kit, patched by that program; roots chosen by it)
import Derived.Test.YtniebbjbihenfaaPFnExactWeightedMistakesx0
import Derived.Test.YtniebbjbihenfaaPFnExactWeightedMistakesx1
import Derived.Test.YtniebbjbihenfaaPFnExactWeightedMistakesx2
import Derived.Test.YtniebbjbihenfaaPFnExactWeightedMistakesx3
import Derived.Test.YtniebbjbihenfaaPFnExactWeightedMistakesx4
import Derived.Test.YtniebbjbihenfaaPFnExactWeightedMistakesx5
import Derived.Test.YtniebbjbihenfaaPFnExactWeightedMistakesx6
import Derived.Test.YtniebbjbihenfaaPFnExactWeightedMistakesx7
import Derived.Test.YtniebbjbihenfaaPFnExactWeightedMistakesx8
import Derived.Test.YtniebbjbihenfaaPFnExactWeightedMistakesx9
namespace Go.Proofs.Ytniebbjbihenfaa.PFnExactWeightedMistakes
open Go.RowKit Go.Proofs.YtniebbjbihenfaaW.PrintWords Go.Proofs.YtniebbjbihenfaaW.PrintLast Go.Proofs.YtniebbjbihenfaaW.PrintMore
attribute [local go_sem] max2_int min2_int max_two min_two max_three min_three max_four min_four   -- for this text's walks alone
set_option linter.unusedVariables false
set_option linter.unusedSimpArgs false

end Go.Proofs.Ytniebbjbihenfaa.PFnExactWeightedMistakes
