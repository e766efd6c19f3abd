-- Printed by wip/tools/myprint.py (the printer of the kit, patched by that program; roots chosen by it)
import Derived.Test.YtfkfahdikmfpeaaPFnExactStumpsOfx0
import Derived.Test.YtfkfahdikmfpeaaPFnExactStumpsOfx1
import Derived.Test.YtfkfahdikmfpeaaPFnExactStumpsOfx2
import Derived.Test.YtfkfahdikmfpeaaPFnExactStumpsOfx3
import Derived.Test.YtfkfahdikmfpeaaPFnExactStumpsOfx4
import Derived.Test.YtfkfahdikmfpeaaPFnExactStumpsOfx5
import Derived.Test.YtfkfahdikmfpeaaPFnExactStumpsOfx6
import Derived.Test.YtfkfahdikmfpeaaPFnExactStumpsOfx7
import Derived.Test.YtfkfahdikmfpeaaPFnExactStumpsOfx8
namespace Go.Proofs.Ytfkfahdikmfpeaa.PFnExactStumpsOf
open Go.RowKit Go.Proofs.YtfkfahdikmfpeaaW.PrintWords Go.Proofs.YtfkfahdikmfpeaaW.PrintLast Go.Proofs.YtfkfahdikmfpeaaW.PrintMore
attribute [local go_sem] max2_int min2_int max_two min_two max_three min_three max_four min_four   -- for this text's walks alone
set_option linter.unusedVariables false
set_option linter.unusedSimpArgs false

end Go.Proofs.Ytfkfahdikmfpeaa.PFnExactStumpsOf
