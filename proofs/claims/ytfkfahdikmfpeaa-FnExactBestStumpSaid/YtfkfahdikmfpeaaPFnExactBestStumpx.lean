-- Printed by wip/tools/myprint.py (the printer of the kit, patched by that program; roots chosen by it)
import Derived.Test.YtfkfahdikmfpeaaPFnExactBestStumpx0
import Derived.Test.YtfkfahdikmfpeaaPFnExactBestStumpx1
import Derived.Test.YtfkfahdikmfpeaaPFnExactBestStumpx2
import Derived.Test.YtfkfahdikmfpeaaPFnExactBestStumpx3
import Derived.Test.YtfkfahdikmfpeaaPFnExactBestStumpx4
import Derived.Test.YtfkfahdikmfpeaaPFnExactBestStumpx5
import Derived.Test.YtfkfahdikmfpeaaPFnExactBestStumpx6
import Derived.Test.YtfkfahdikmfpeaaPFnExactBestStumpx7
import Derived.Test.YtfkfahdikmfpeaaPFnExactBestStumpx8
import Derived.Test.YtfkfahdikmfpeaaPFnExactBestStumpx9
import Derived.Test.YtfkfahdikmfpeaaPFnExactBestStumpx10
import Derived.Test.YtfkfahdikmfpeaaPFnExactBestStumpx11
namespace Go.Proofs.Ytfkfahdikmfpeaa.PFnExactBestStump
open Go.RowKit Go.Proofs.YtfkfahdikmfpeaaW.PrintWords Go.Proofs.YtfkfahdikmfpeaaW.PrintLast Go.Proofs.YtfkfahdikmfpeaaW.PrintMore
attribute [local go_sem] max2_int min2_int max_two min_two max_three min_three max_four min_four   -- for this text's walks alone
set_option linter.unusedVariables false
set_option linter.unusedSimpArgs false

end Go.Proofs.Ytfkfahdikmfpeaa.PFnExactBestStump
