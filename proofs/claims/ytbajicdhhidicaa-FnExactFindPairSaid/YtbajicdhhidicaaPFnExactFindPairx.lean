-- Printed by wip/tools/myprint.py (the printer of the kit, patched by that program; roots chosen by it)
import Derived.Test.YtbajicdhhidicaaPFnExactFindPairx0
import Derived.Test.YtbajicdhhidicaaPFnExactFindPairx1
import Derived.Test.YtbajicdhhidicaaPFnExactFindPairx2
import Derived.Test.YtbajicdhhidicaaPFnExactFindPairx3
import Derived.Test.YtbajicdhhidicaaPFnExactFindPairx4
import Derived.Test.YtbajicdhhidicaaPFnExactFindPairx5
import Derived.Test.YtbajicdhhidicaaPFnExactFindPairx6
import Derived.Test.YtbajicdhhidicaaPFnExactFindPairx7
import Derived.Test.YtbajicdhhidicaaPFnExactFindPairx8
namespace Go.Proofs.Ytbajicdhhidicaa.PFnExactFindPair
open Go.RowKit Go.Proofs.YtbajicdhhidicaaW.PrintWords Go.Proofs.YtbajicdhhidicaaW.PrintLast Go.Proofs.YtbajicdhhidicaaW.PrintMore
attribute [local go_sem] max2_int min2_int max_two min_two max_three min_three max_four min_four   -- for this text's walks alone
set_option linter.unusedVariables false
set_option linter.unusedSimpArgs false

end Go.Proofs.Ytbajicdhhidicaa.PFnExactFindPair
