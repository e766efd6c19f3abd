-- Printed by wip/tools/myprint.py (the printer of the kit, patched by that program; roots chosen by it)
import Derived.Test.YtihhedemdkifhaaPFnExactLeftOutMistakesx0
import Derived.Test.YtihhedemdkifhaaPFnExactLeftOutMistakesx1
import Derived.Test.YtihhedemdkifhaaPFnExactLeftOutMistakesx2
import Derived.Test.YtihhedemdkifhaaPFnExactLeftOutMistakesx3
import Derived.Test.YtihhedemdkifhaaPFnExactLeftOutMistakesx4
import Derived.Test.YtihhedemdkifhaaPFnExactLeftOutMistakesx5
import Derived.Test.YtihhedemdkifhaaPFnExactLeftOutMistakesx6
import Derived.Test.YtihhedemdkifhaaPFnExactLeftOutMistakesx7
import Derived.Test.YtihhedemdkifhaaPFnExactLeftOutMistakesx8
import Derived.Test.YtihhedemdkifhaaPFnExactLeftOutMistakesx9
import Derived.Test.YtihhedemdkifhaaPFnExactLeftOutMistakesx10
namespace Go.Proofs.Ytihhedemdkifhaa.PFnExactLeftOutMistakes
open Go.RowKit Go.Proofs.YtihhedemdkifhaaW.PrintWords Go.Proofs.YtihhedemdkifhaaW.PrintLast Go.Proofs.YtihhedemdkifhaaW.PrintMore
attribute [local go_sem] max2_int min2_int max_two min_two max_three min_three max_four min_four   -- for this text's walks alone
set_option linter.unusedVariables false
set_option linter.unusedSimpArgs false

end Go.Proofs.Ytihhedemdkifhaa.PFnExactLeftOutMistakes
