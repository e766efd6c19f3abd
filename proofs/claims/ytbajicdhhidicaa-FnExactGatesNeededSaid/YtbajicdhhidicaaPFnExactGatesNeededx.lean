-- Printed by wip/tools/myprint.py (the printer of the kit, patched by that program; roots chosen by it)
import Derived.Test.YtbajicdhhidicaaPFnExactGatesNeededx0
import Derived.Test.YtbajicdhhidicaaPFnExactGatesNeededx1
import Derived.Test.YtbajicdhhidicaaPFnExactGatesNeededx2
import Derived.Test.YtbajicdhhidicaaPFnExactGatesNeededx3
import Derived.Test.YtbajicdhhidicaaPFnExactGatesNeededx4
import Derived.Test.YtbajicdhhidicaaPFnExactGatesNeededx5
import Derived.Test.YtbajicdhhidicaaPFnExactGatesNeededx6
import Derived.Test.YtbajicdhhidicaaPFnExactGatesNeededx7
import Derived.Test.YtbajicdhhidicaaPFnExactGatesNeededx8
import Derived.Test.YtbajicdhhidicaaPFnExactGatesNeededx9
namespace Go.Proofs.Ytbajicdhhidicaa.PFnExactGatesNeeded
open Go.RowKit Go.Proofs.YtbajicdhhidicaaW.PrintWords Go.Proofs.YtbajicdhhidicaaW.PrintLast Go.Proofs.YtbajicdhhidicaaW.PrintMore
attribute [local go_sem] max2_int min2_int max_two min_two max_three min_three max_four min_four   -- for this text's walks alone
set_option linter.unusedVariables false
set_option linter.unusedSimpArgs false

end Go.Proofs.Ytbajicdhhidicaa.PFnExactGatesNeeded
