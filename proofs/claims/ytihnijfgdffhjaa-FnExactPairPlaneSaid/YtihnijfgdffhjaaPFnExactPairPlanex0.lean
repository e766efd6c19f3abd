-- Printed by wip/tools/myprint.py (the printer of the kit, patched by that program; roots chosen by it)
import Derived.Test.YtihnijfgdffhjaaProg
import Derived.Below
import Derived.Deep.Draws
import Derived.Deep.AppendLies
import Derived.Maps.AppendAt
import Derived.OwnWalk
import Derived.Laws.BytesArg
import Derived.Laws.MakeOwn
import Derived.Laws.OwnMore
import Derived.Deep.OwnRows
import Derived.Tactics
import Derived.Lib.ConvBytes
import Derived.Laws.Slices
import Derived.WalkKit
import Derived.KernelRfl
import Derived.RowKit3
import Derived.Deep.LoopGhost
import Derived.Deep.QuietTactic
import Derived.BigQuiet
import Derived.WideLaws
import Derived.Deep.DeepCutAuto
import Derived.Deep.CutBlock
import Derived.Deep.RegionHeld3
import Derived.Laws.Rows
import Derived.Lib.AppendStr
import Derived.ArgAppend
import Derived.Laws.IdiomCopy
import Derived.OrdersHeld
import Derived.Laws.BitsLemmas
import Derived.RowKit
import Derived.Test.YtihnijfgdffhjaaWWords
import Derived.Test.YtihnijfgdffhjaaWLast
import Derived.Test.YtihnijfgdffhjaaWTab
import Derived.Test.YtihnijfgdffhjaaWFour
import Derived.Test.YtihnijfgdffhjaaWQPut
import Derived.Test.YtihnijfgdffhjaaWApart
import Derived.Test.YtihnijfgdffhjaaWArr
import Derived.Test.YtihnijfgdffhjaaWZeros
import Derived.Test.YtihnijfgdffhjaaWFoot
import Derived.Test.YtihnijfgdffhjaaWKept
import Derived.Test.YtihnijfgdffhjaaWShare
import Derived.Test.YtihnijfgdffhjaaWN
import Derived.Test.YtihnijfgdffhjaaWFootNe
import Derived.Test.YtihnijfgdffhjaaWAt
import Derived.Test.YtihnijfgdffhjaaWEqStruct
import Derived.Test.YtihnijfgdffhjaaWRepsOne
import Derived.Test.YtihnijfgdffhjaaWInv
import Derived.Test.YtihnijfgdffhjaaWInvWords
import Derived.Test.YtihnijfgdffhjaaWGuard
import Derived.Test.YtihnijfgdffhjaaWNEv
import Derived.Test.YtihnijfgdffhjaaWMore
namespace Go.Proofs.Ytihnijfgdffhjaa.PFnExactPairPlane
open Go.RowKit Go.Proofs.YtihnijfgdffhjaaW.PrintWords Go.Proofs.YtihnijfgdffhjaaW.PrintLast Go.Proofs.YtihnijfgdffhjaaW.PrintMore
attribute [local go_sem] max2_int min2_int max_two min_two max_three min_three max_four min_four   -- for this text's walks alone
set_option linter.unusedVariables false
set_option linter.unusedSimpArgs false



def errW : Option Int → Value
  | none => .nilIface
  | some c => .iface 0 (.int .i64 c)
theorem errW_none : errW none = .nilIface := rfl
theorem errW_some (c : Int) : errW (some c) = .iface 0 (.int .i64 c) := rfl

theorem info3 : (Try.prog.info? 3).map (fun i => (i.zero, i.size, i.bytes)) = some (some (.int .i64 0), 1, 8) := by kernel_rfl
-- the values' own types

end Go.Proofs.Ytihnijfgdffhjaa.PFnExactPairPlane
