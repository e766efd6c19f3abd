-- Printed by wip/tools/myprint.py (the printer of the kit, patched by that program; roots chosen by it)
import Derived.Test.YtihhedemdkifhaaPFnExactCondensedPlacesx0
import Derived.Test.YtihhedemdkifhaaPFnExactCondensedPlacesx1
import Derived.Test.YtihhedemdkifhaaPFnExactCondensedPlacesx2
import Derived.Test.YtihhedemdkifhaaPFnExactCondensedPlacesx3
import Derived.Test.YtihhedemdkifhaaPFnExactCondensedPlacesx4
import Derived.Test.YtihhedemdkifhaaPFnExactCondensedPlacesx5
import Derived.Test.YtihhedemdkifhaaPFnExactCondensedPlacesx6
import Derived.Test.YtihhedemdkifhaaPFnExactCondensedPlacesx7
import Derived.Test.YtihhedemdkifhaaPFnExactCondensedPlacesx8
import Derived.Test.YtihhedemdkifhaaPFnExactCondensedPlacesx9
import Derived.Test.YtihhedemdkifhaaPFnExactCondensedPlacesx10
import Derived.Test.YtihhedemdkifhaaPFnExactCondensedPlacesx11
namespace Go.Proofs.Ytihhedemdkifhaa.PFnExactCondensedPlaces
open Go.RowKit Go.Proofs.YtihhedemdkifhaaW.PrintWords Go.Proofs.YtihhedemdkifhaaW.PrintLast Go.Proofs.YtihhedemdkifhaaW.PrintMore
attribute [local go_sem] max2_int min2_int max_two min_two max_three min_three max_four min_four   -- for this text's walks alone
set_option linter.unusedVariables false
set_option linter.unusedSimpArgs false

end Go.Proofs.Ytihhedemdkifhaa.PFnExactCondensedPlaces
