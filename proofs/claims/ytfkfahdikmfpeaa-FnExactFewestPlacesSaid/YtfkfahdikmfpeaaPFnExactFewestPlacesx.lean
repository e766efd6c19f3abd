-- Printed by wip/tools/myprint.py (the printer of the kit, patched by that program; roots chosen by it)
import Derived.Test.YtfkfahdikmfpeaaPFnExactFewestPlacesx0
import Derived.Test.YtfkfahdikmfpeaaPFnExactFewestPlacesx1
import Derived.Test.YtfkfahdikmfpeaaPFnExactFewestPlacesx2
import Derived.Test.YtfkfahdikmfpeaaPFnExactFewestPlacesx3
import Derived.Test.YtfkfahdikmfpeaaPFnExactFewestPlacesx4
import Derived.Test.YtfkfahdikmfpeaaPFnExactFewestPlacesx5
import Derived.Test.YtfkfahdikmfpeaaPFnExactFewestPlacesx6
import Derived.Test.YtfkfahdikmfpeaaPFnExactFewestPlacesx7
import Derived.Test.YtfkfahdikmfpeaaPFnExactFewestPlacesx8
import Derived.Test.YtfkfahdikmfpeaaPFnExactFewestPlacesx9
import Derived.Test.YtfkfahdikmfpeaaPFnExactFewestPlacesx10
import Derived.Test.YtfkfahdikmfpeaaPFnExactFewestPlacesx11
import Derived.Test.YtfkfahdikmfpeaaPFnExactFewestPlacesx12
namespace Go.Proofs.Ytfkfahdikmfpeaa.PFnExactFewestPlaces
open Go.RowKit Go.Proofs.YtfkfahdikmfpeaaW.PrintWords Go.Proofs.YtfkfahdikmfpeaaW.PrintLast Go.Proofs.YtfkfahdikmfpeaaW.PrintMore
attribute [local go_sem] max2_int min2_int max_two min_two max_three min_three max_four min_four   -- for this text's walks alone
set_option linter.unusedVariables false
set_option linter.unusedSimpArgs false

end Go.Proofs.Ytfkfahdikmfpeaa.PFnExactFewestPlaces
