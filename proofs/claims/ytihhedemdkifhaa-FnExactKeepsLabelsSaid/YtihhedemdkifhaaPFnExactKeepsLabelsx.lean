-- Printed by wip/tools/myprint.py (the printer of the kit, patched by that program; roots chosen by it)
import Derived.Test.YtihhedemdkifhaaPFnExactKeepsLabelsx0
import Derived.Test.YtihhedemdkifhaaPFnExactKeepsLabelsx1
import Derived.Test.YtihhedemdkifhaaPFnExactKeepsLabelsx2
import Derived.Test.YtihhedemdkifhaaPFnExactKeepsLabelsx3
import Derived.Test.YtihhedemdkifhaaPFnExactKeepsLabelsx4
import Derived.Test.YtihhedemdkifhaaPFnExactKeepsLabelsx5
import Derived.Test.YtihhedemdkifhaaPFnExactKeepsLabelsx6
import Derived.Test.YtihhedemdkifhaaPFnExactKeepsLabelsx7
import Derived.Test.YtihhedemdkifhaaPFnExactKeepsLabelsx8
import Derived.Test.YtihhedemdkifhaaPFnExactKeepsLabelsx9
namespace Go.Proofs.Ytihhedemdkifhaa.PFnExactKeepsLabels
open Go.RowKit Go.Proofs.YtihhedemdkifhaaW.PrintWords Go.Proofs.YtihhedemdkifhaaW.PrintLast Go.Proofs.YtihhedemdkifhaaW.PrintMore
attribute [local go_sem] max2_int min2_int max_two min_two max_three min_three max_four min_four   -- for this text's walks alone
set_option linter.unusedVariables false
set_option linter.unusedSimpArgs false

end Go.Proofs.Ytihhedemdkifhaa.PFnExactKeepsLabels
