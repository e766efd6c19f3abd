-- Printed by wip/tools/myprint.py (the printer of the kit, patched by that program; roots chosen by it)
import Derived.Test.YtfbncebnngldmaaPFnFamiliesx0
import Derived.Test.YtfbncebnngldmaaPFnFamiliesx1
import Derived.Test.YtfbncebnngldmaaPFnFamiliesx2
import Derived.Test.YtfbncebnngldmaaPFnFamiliesx3
import Derived.Test.YtfbncebnngldmaaPFnFamiliesx4
import Derived.Test.YtfbncebnngldmaaPFnFamiliesx5
import Derived.Test.YtfbncebnngldmaaPFnFamiliesx6
namespace Go.Proofs.Ytfbncebnngldmaa.PFnFamilies
open Go.RowKit Go.Proofs.YtfbncebnngldmaaW.PrintWords Go.Proofs.YtfbncebnngldmaaW.PrintLast Go.Proofs.YtfbncebnngldmaaW.PrintMore
attribute [local go_sem] max2_int min2_int max_two min_two max_three min_three max_four min_four   -- for this text's walks alone
set_option linter.unusedVariables false
set_option linter.unusedSimpArgs false

end Go.Proofs.Ytfbncebnngldmaa.PFnFamilies
