-- Printed by wip/tools/myprint.py (the printer of the kit, patched by that program; roots chosen by it)
import Derived.Test.YtfkfahdikmfpeaaPFnExactFittingJuryx0
import Derived.Test.YtfkfahdikmfpeaaPFnExactFittingJuryx1
import Derived.Test.YtfkfahdikmfpeaaPFnExactFittingJuryx2
import Derived.Test.YtfkfahdikmfpeaaPFnExactFittingJuryx3
import Derived.Test.YtfkfahdikmfpeaaPFnExactFittingJuryx4
import Derived.Test.YtfkfahdikmfpeaaPFnExactFittingJuryx5
import Derived.Test.YtfkfahdikmfpeaaPFnExactFittingJuryx6
import Derived.Test.YtfkfahdikmfpeaaPFnExactFittingJuryx7
import Derived.Test.YtfkfahdikmfpeaaPFnExactFittingJuryx8
import Derived.Test.YtfkfahdikmfpeaaPFnExactFittingJuryx9
import Derived.Test.YtfkfahdikmfpeaaPFnExactFittingJuryx10
import Derived.Test.YtfkfahdikmfpeaaPFnExactFittingJuryx11
import Derived.Test.YtfkfahdikmfpeaaPFnExactFittingJuryx12
import Derived.Test.YtfkfahdikmfpeaaPFnExactFittingJuryx13
import Derived.Test.YtfkfahdikmfpeaaPFnExactFittingJuryx14
namespace Go.Proofs.Ytfkfahdikmfpeaa.PFnExactFittingJury
open Go.RowKit Go.Proofs.YtfkfahdikmfpeaaW.PrintWords Go.Proofs.YtfkfahdikmfpeaaW.PrintLast Go.Proofs.YtfkfahdikmfpeaaW.PrintMore
attribute [local go_sem] max2_int min2_int max_two min_two max_three min_three max_four min_four   -- for this text's walks alone
set_option linter.unusedVariables false
set_option linter.unusedSimpArgs false

end Go.Proofs.Ytfkfahdikmfpeaa.PFnExactFittingJury
