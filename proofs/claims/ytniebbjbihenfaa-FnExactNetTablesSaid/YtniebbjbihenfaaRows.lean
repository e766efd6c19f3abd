/-
  No cell of these rows narrows 'for every input' (looked for: loops, veiled, ifaces, maps, wideKeys, modest, calm, conditions, laid).
  DERIVED. THE GIVEN ROWS OF THIS SEAT. 12 by the template 'for every input the law returns true; each argument reads behind the call as it read before'; 0 by the template 'total and deterministic' (their statements: YtniebbjbihenfaaTotals.lean).
  GIVEN WITH THE SEED: the statements are not yours to turn. If you find one false, say at which input.
  Laid BY PROGRAM, IN A SANDBOX (cutbox-rows.mjs): the forced cells as the released guide's own fill.sh prints them over the translation 7db7b05d7f4b6f38… (all of the seat's roots in one cut). By AI agents, Wed Nov 11 2026. No macro, syntax, notation, axiom, sorry.
-/
import Derived.Test.YtniebbjbihenfaaChecked
import GoSem.Claim
import GoSem.ClaimJoined
import GoSem.ClaimMapViews
import Derived.JoinedTies
import Derived.KernelRfl
namespace Go.Proofs.Ytniebbjbihenfaa
/- THE CELL 'sum', in the pinned program and in every row, IS THE sha256 OF THE DUMP (.gsa) THAT YtniebbjbihenfaaProg.lean LOADS. Nothing in Lean hashes anything: it is a label: what it is worth is what the hold of that sum in a sandbox is worth. -/
noncomputable def Try.pinned : Pinned := { name := "ytniebbjbihenfaa", sum := "7db7b05d7f4b6f383002ef7816f942663e00313cd315d7398541d8f7c86e4e26", checked := Try.checked }
namespace Rows
def none {H : Type} : Left H := { results := [], args := [] }

/-- 'laws.FnExactKernelRun': WHATEVER THE INPUT: true; the input reads as it did. -/
def fnExactKernelRunSpec : ChangeSpec := { name := "fnExactKernelRun", fn := fun _ => fun
  | [d1, d2, d3] => { results := [.lit (.bool true)], args := [d1, d2, d3] }
  | _ => none }
def fnExactKernelRunRow : OpenClaim := { program := "ytniebbjbihenfaa", sum := "7db7b05d7f4b6f383002ef7816f942663e00313cd315d7398541d8f7c86e4e26", func := "loop.example/g01135/laws.FnExactKernelRun", spec := "fnExactKernelRun", apart := false }
def FnExactKernelRunSaid : Prop := fnExactKernelRunRow.holds Try.pinned (OpenSpec.ofChange fnExactKernelRunSpec)

/-- ITS FALSE NEIGHBOUR: 'it returns false'. Refute it at one input. -/
def fnExactKernelRunWrong : ChangeSpec := { name := "fnExactKernelRun", fn := fun _ => fun
  | [d1, d2, d3] => { results := [.lit (.bool false)], args := [d1, d2, d3] }
  | _ => none }
def FnExactKernelRunWrongFalsely : Prop := fnExactKernelRunRow.holds Try.pinned (OpenSpec.ofChange fnExactKernelRunWrong)

/-- 'laws.FnExactWeightedMistakes': WHATEVER THE INPUT: true; the input reads as it did. -/
def fnExactWeightedMistakesSpec : ChangeSpec := { name := "fnExactWeightedMistakes", fn := fun _ => fun
  | [d1, d2, d3] => { results := [.lit (.bool true)], args := [d1, d2, d3] }
  | _ => none }
def fnExactWeightedMistakesRow : OpenClaim := { program := "ytniebbjbihenfaa", sum := "7db7b05d7f4b6f383002ef7816f942663e00313cd315d7398541d8f7c86e4e26", func := "loop.example/g01135/laws.FnExactWeightedMistakes", spec := "fnExactWeightedMistakes", apart := false }
def FnExactWeightedMistakesSaid : Prop := fnExactWeightedMistakesRow.holds Try.pinned (OpenSpec.ofChange fnExactWeightedMistakesSpec)

/-- ITS FALSE NEIGHBOUR: 'it returns false'. Refute it at one input. -/
def fnExactWeightedMistakesWrong : ChangeSpec := { name := "fnExactWeightedMistakes", fn := fun _ => fun
  | [d1, d2, d3] => { results := [.lit (.bool false)], args := [d1, d2, d3] }
  | _ => none }
def FnExactWeightedMistakesWrongFalsely : Prop := fnExactWeightedMistakesRow.holds Try.pinned (OpenSpec.ofChange fnExactWeightedMistakesWrong)

/-- 'laws.FnExactMeanPlane': WHATEVER THE INPUT: true; the input reads as it did. -/
def fnExactMeanPlaneSpec : ChangeSpec := { name := "fnExactMeanPlane", fn := fun _ => fun
  | [d] => { results := [.lit (.bool true)], args := [d] }
  | _ => none }
def fnExactMeanPlaneRow : OpenClaim := { program := "ytniebbjbihenfaa", sum := "7db7b05d7f4b6f383002ef7816f942663e00313cd315d7398541d8f7c86e4e26", func := "loop.example/g01135/laws.FnExactMeanPlane", spec := "fnExactMeanPlane", apart := false }
def FnExactMeanPlaneSaid : Prop := fnExactMeanPlaneRow.holds Try.pinned (OpenSpec.ofChange fnExactMeanPlaneSpec)

/-- ITS FALSE NEIGHBOUR: 'it returns false'. Refute it at one input. -/
def fnExactMeanPlaneWrong : ChangeSpec := { name := "fnExactMeanPlane", fn := fun _ => fun
  | [d] => { results := [.lit (.bool false)], args := [d] }
  | _ => none }
def FnExactMeanPlaneWrongFalsely : Prop := fnExactMeanPlaneRow.holds Try.pinned (OpenSpec.ofChange fnExactMeanPlaneWrong)

/-- 'laws.FnExactGatesNeeded': WHATEVER THE INPUT: true; the input reads as it did. -/
def fnExactGatesNeededSpec : ChangeSpec := { name := "fnExactGatesNeeded", fn := fun _ => fun
  | [d1, d2] => { results := [.lit (.bool true)], args := [d1, d2] }
  | _ => none }
def fnExactGatesNeededRow : OpenClaim := { program := "ytniebbjbihenfaa", sum := "7db7b05d7f4b6f383002ef7816f942663e00313cd315d7398541d8f7c86e4e26", func := "loop.example/g01135/laws.FnExactGatesNeeded", spec := "fnExactGatesNeeded", unfollowed := true, recurses := true, apart := false }
def FnExactGatesNeededSaid : Prop := fnExactGatesNeededRow.holds Try.pinned (OpenSpec.ofChange fnExactGatesNeededSpec)

/-- ITS FALSE NEIGHBOUR: 'it returns false'. Refute it at one input. -/
def fnExactGatesNeededWrong : ChangeSpec := { name := "fnExactGatesNeeded", fn := fun _ => fun
  | [d1, d2] => { results := [.lit (.bool false)], args := [d1, d2] }
  | _ => none }
def FnExactGatesNeededWrongFalsely : Prop := fnExactGatesNeededRow.holds Try.pinned (OpenSpec.ofChange fnExactGatesNeededWrong)

/-- 'laws.FnExactFindPair': WHATEVER THE INPUT: true; the input reads as it did. -/
def fnExactFindPairSpec : ChangeSpec := { name := "fnExactFindPair", fn := fun _ => fun
  | [d1, d2] => { results := [.lit (.bool true)], args := [d1, d2] }
  | _ => none }
def fnExactFindPairRow : OpenClaim := { program := "ytniebbjbihenfaa", sum := "7db7b05d7f4b6f383002ef7816f942663e00313cd315d7398541d8f7c86e4e26", func := "loop.example/g01135/laws.FnExactFindPair", spec := "fnExactFindPair", unfollowed := true, recurses := true, apart := false }
def FnExactFindPairSaid : Prop := fnExactFindPairRow.holds Try.pinned (OpenSpec.ofChange fnExactFindPairSpec)

/-- ITS FALSE NEIGHBOUR: 'it returns false'. Refute it at one input. -/
def fnExactFindPairWrong : ChangeSpec := { name := "fnExactFindPair", fn := fun _ => fun
  | [d1, d2] => { results := [.lit (.bool false)], args := [d1, d2] }
  | _ => none }
def FnExactFindPairWrongFalsely : Prop := fnExactFindPairRow.holds Try.pinned (OpenSpec.ofChange fnExactFindPairWrong)

/-- 'laws.FnExactEvaluateNet': WHATEVER THE INPUT: true; the input reads as it did. -/
def fnExactEvaluateNetSpec : ChangeSpec := { name := "fnExactEvaluateNet", fn := fun _ => fun
  | [d1, d2] => { results := [.lit (.bool true)], args := [d1, d2] }
  | _ => none }
def fnExactEvaluateNetRow : OpenClaim := { program := "ytniebbjbihenfaa", sum := "7db7b05d7f4b6f383002ef7816f942663e00313cd315d7398541d8f7c86e4e26", func := "loop.example/g01135/laws.FnExactEvaluateNet", spec := "fnExactEvaluateNet", apart := false }
def FnExactEvaluateNetSaid : Prop := fnExactEvaluateNetRow.holds Try.pinned (OpenSpec.ofChange fnExactEvaluateNetSpec)

/-- ITS FALSE NEIGHBOUR: 'it returns false'. Refute it at one input. -/
def fnExactEvaluateNetWrong : ChangeSpec := { name := "fnExactEvaluateNet", fn := fun _ => fun
  | [d1, d2] => { results := [.lit (.bool false)], args := [d1, d2] }
  | _ => none }
def FnExactEvaluateNetWrongFalsely : Prop := fnExactEvaluateNetRow.holds Try.pinned (OpenSpec.ofChange fnExactEvaluateNetWrong)

/-- 'laws.FnExactSidesSample': WHATEVER THE INPUT: true; the input reads as it did. -/
def fnExactSidesSampleSpec : ChangeSpec := { name := "fnExactSidesSample", fn := fun _ => fun
  | [d1, d2] => { results := [.lit (.bool true)], args := [d1, d2] }
  | _ => none }
def fnExactSidesSampleRow : OpenClaim := { program := "ytniebbjbihenfaa", sum := "7db7b05d7f4b6f383002ef7816f942663e00313cd315d7398541d8f7c86e4e26", func := "loop.example/g01135/laws.FnExactSidesSample", spec := "fnExactSidesSample", apart := false }
def FnExactSidesSampleSaid : Prop := fnExactSidesSampleRow.holds Try.pinned (OpenSpec.ofChange fnExactSidesSampleSpec)

/-- ITS FALSE NEIGHBOUR: 'it returns false'. Refute it at one input. -/
def fnExactSidesSampleWrong : ChangeSpec := { name := "fnExactSidesSample", fn := fun _ => fun
  | [d1, d2] => { results := [.lit (.bool false)], args := [d1, d2] }
  | _ => none }
def FnExactSidesSampleWrongFalsely : Prop := fnExactSidesSampleRow.holds Try.pinned (OpenSpec.ofChange fnExactSidesSampleWrong)

/-- 'laws.FnExactNetTables': WHATEVER THE INPUT: true; the input reads as it did. -/
def fnExactNetTablesSpec : ChangeSpec := { name := "fnExactNetTables", fn := fun _ => fun
  | [d] => { results := [.lit (.bool true)], args := [d] }
  | _ => none }
def fnExactNetTablesRow : OpenClaim := { program := "ytniebbjbihenfaa", sum := "7db7b05d7f4b6f383002ef7816f942663e00313cd315d7398541d8f7c86e4e26", func := "loop.example/g01135/laws.FnExactNetTables", spec := "fnExactNetTables", apart := false }
def FnExactNetTablesSaid : Prop := fnExactNetTablesRow.holds Try.pinned (OpenSpec.ofChange fnExactNetTablesSpec)

/-- ITS FALSE NEIGHBOUR: 'it returns false'. Refute it at one input. -/
def fnExactNetTablesWrong : ChangeSpec := { name := "fnExactNetTables", fn := fun _ => fun
  | [d] => { results := [.lit (.bool false)], args := [d] }
  | _ => none }
def FnExactNetTablesWrongFalsely : Prop := fnExactNetTablesRow.holds Try.pinned (OpenSpec.ofChange fnExactNetTablesWrong)

/-- 'laws.FnExactKeepsLabels': WHATEVER THE INPUT: true; the input reads as it did. -/
def fnExactKeepsLabelsSpec : ChangeSpec := { name := "fnExactKeepsLabels", fn := fun _ => fun
  | [d1, d2] => { results := [.lit (.bool true)], args := [d1, d2] }
  | _ => none }
def fnExactKeepsLabelsRow : OpenClaim := { program := "ytniebbjbihenfaa", sum := "7db7b05d7f4b6f383002ef7816f942663e00313cd315d7398541d8f7c86e4e26", func := "loop.example/g01135/laws.FnExactKeepsLabels", spec := "fnExactKeepsLabels", unfollowed := true, recurses := true, apart := false }
def FnExactKeepsLabelsSaid : Prop := fnExactKeepsLabelsRow.holds Try.pinned (OpenSpec.ofChange fnExactKeepsLabelsSpec)

/-- ITS FALSE NEIGHBOUR: 'it returns false'. Refute it at one input. -/
def fnExactKeepsLabelsWrong : ChangeSpec := { name := "fnExactKeepsLabels", fn := fun _ => fun
  | [d1, d2] => { results := [.lit (.bool false)], args := [d1, d2] }
  | _ => none }
def FnExactKeepsLabelsWrongFalsely : Prop := fnExactKeepsLabelsRow.holds Try.pinned (OpenSpec.ofChange fnExactKeepsLabelsWrong)

/-- 'laws.FnExactNearestPlaces': WHATEVER THE INPUT: true; the input reads as it did. -/
def fnExactNearestPlacesSpec : ChangeSpec := { name := "fnExactNearestPlaces", fn := fun _ => fun
  | [d1, d2, d3] => { results := [.lit (.bool true)], args := [d1, d2, d3] }
  | _ => none }
def fnExactNearestPlacesRow : OpenClaim := { program := "ytniebbjbihenfaa", sum := "7db7b05d7f4b6f383002ef7816f942663e00313cd315d7398541d8f7c86e4e26", func := "loop.example/g01135/laws.FnExactNearestPlaces", spec := "fnExactNearestPlaces", unfollowed := true, recurses := true, apart := false }
def FnExactNearestPlacesSaid : Prop := fnExactNearestPlacesRow.holds Try.pinned (OpenSpec.ofChange fnExactNearestPlacesSpec)

/-- ITS FALSE NEIGHBOUR: 'it returns false'. Refute it at one input. -/
def fnExactNearestPlacesWrong : ChangeSpec := { name := "fnExactNearestPlaces", fn := fun _ => fun
  | [d1, d2, d3] => { results := [.lit (.bool false)], args := [d1, d2, d3] }
  | _ => none }
def FnExactNearestPlacesWrongFalsely : Prop := fnExactNearestPlacesRow.holds Try.pinned (OpenSpec.ofChange fnExactNearestPlacesWrong)

/-- 'laws.FnExactNearLabel': WHATEVER THE INPUT: true; the input reads as it did. -/
def fnExactNearLabelSpec : ChangeSpec := { name := "fnExactNearLabel", fn := fun _ => fun
  | [d1, d2, d3] => { results := [.lit (.bool true)], args := [d1, d2, d3] }
  | _ => none }
def fnExactNearLabelRow : OpenClaim := { program := "ytniebbjbihenfaa", sum := "7db7b05d7f4b6f383002ef7816f942663e00313cd315d7398541d8f7c86e4e26", func := "loop.example/g01135/laws.FnExactNearLabel", spec := "fnExactNearLabel", unfollowed := true, recurses := true, apart := false }
def FnExactNearLabelSaid : Prop := fnExactNearLabelRow.holds Try.pinned (OpenSpec.ofChange fnExactNearLabelSpec)

/-- ITS FALSE NEIGHBOUR: 'it returns false'. Refute it at one input. -/
def fnExactNearLabelWrong : ChangeSpec := { name := "fnExactNearLabel", fn := fun _ => fun
  | [d1, d2, d3] => { results := [.lit (.bool false)], args := [d1, d2, d3] }
  | _ => none }
def FnExactNearLabelWrongFalsely : Prop := fnExactNearLabelRow.holds Try.pinned (OpenSpec.ofChange fnExactNearLabelWrong)

/-- 'laws.FnExactLeftOutMistakes': WHATEVER THE INPUT: true; the input reads as it did. -/
def fnExactLeftOutMistakesSpec : ChangeSpec := { name := "fnExactLeftOutMistakes", fn := fun _ => fun
  | [d1, d2] => { results := [.lit (.bool true)], args := [d1, d2] }
  | _ => none }
def fnExactLeftOutMistakesRow : OpenClaim := { program := "ytniebbjbihenfaa", sum := "7db7b05d7f4b6f383002ef7816f942663e00313cd315d7398541d8f7c86e4e26", func := "loop.example/g01135/laws.FnExactLeftOutMistakes", spec := "fnExactLeftOutMistakes", unfollowed := true, recurses := true, apart := false }
def FnExactLeftOutMistakesSaid : Prop := fnExactLeftOutMistakesRow.holds Try.pinned (OpenSpec.ofChange fnExactLeftOutMistakesSpec)

/-- ITS FALSE NEIGHBOUR: 'it returns false'. Refute it at one input. -/
def fnExactLeftOutMistakesWrong : ChangeSpec := { name := "fnExactLeftOutMistakes", fn := fun _ => fun
  | [d1, d2] => { results := [.lit (.bool false)], args := [d1, d2] }
  | _ => none }
def FnExactLeftOutMistakesWrongFalsely : Prop := fnExactLeftOutMistakesRow.holds Try.pinned (OpenSpec.ofChange fnExactLeftOutMistakesWrong)

/- THE SECOND FORM. 'bulk': how many values and letters a reading holds, each counted each time it is reached (what is shared counts as often as it is met; a slice's spare places count too). A statement '..UptoSaid' is the law's where the arguments, and the package variables that the reading takes, are together of bulk at most 1048576: NARROWER than '..Said'. Prove '..Said' where nothing that the law and all that it calls make is longer than what came in: it says more and counts as full. Else prove '..UptoSaid'. A law counts once. -/
mutual
def uptoBulk {H : Type} : DataW H → Nat
  | .lit (.string bytes) => bytes.length + 1
  | .lit _ => 1
  | .nil => 1
  | .ptr d => uptoBulk d + 1
  | .slice elems spare => uptoBulkAll elems + uptoBulkAll spare + 1
  | .agg parts => uptoBulkAll parts + 1
  | .iface _ d => uptoBulk d + 1
  | .map entries => uptoBulkEntries entries + 1
  | .held _ => 1
def uptoBulkAll {H : Type} : List (DataW H) → Nat
  | [] => 0
  | d :: r => uptoBulk d + uptoBulkAll r
def uptoBulkEntries {H : Type} : List (Lit × DataW H) → Nat
  | [] => 0
  | x :: r => uptoBulkEntry x + uptoBulkEntries r
def uptoBulkEntry {H : Type} : Lit × DataW H → Nat
  | (.string bytes, d) => bytes.length + uptoBulk d + 1
  | (_, d) => uptoBulk d + 1
 end
def uptoSmall : (H : Type) → List (DataW H) → Bool := fun _ ds => decide (uptoBulkAll ds ≤ 1048576)
def OpenSpec.upto (s : _root_.Go.ChangeSpec) : _root_.Go.OpenSpec := { _root_.Go.OpenSpec.ofChange s with cond := some uptoSmall }

/-- 'laws.FnExactKernelRun', WHERE WHAT IT READS IS OF BULK AT MOST 1048576: true; the input reads as it did. -/
def fnExactKernelRunUptoRow : OpenClaim := { program := "ytniebbjbihenfaa", sum := "7db7b05d7f4b6f383002ef7816f942663e00313cd315d7398541d8f7c86e4e26", func := "loop.example/g01135/laws.FnExactKernelRun", spec := "fnExactKernelRun", apart := false, narrowed := true }
def FnExactKernelRunUptoSaid : Prop := fnExactKernelRunUptoRow.holds Try.pinned (OpenSpec.upto fnExactKernelRunSpec)

/-- 'laws.FnExactWeightedMistakes', WHERE WHAT IT READS IS OF BULK AT MOST 1048576: true; the input reads as it did. -/
def fnExactWeightedMistakesUptoRow : OpenClaim := { program := "ytniebbjbihenfaa", sum := "7db7b05d7f4b6f383002ef7816f942663e00313cd315d7398541d8f7c86e4e26", func := "loop.example/g01135/laws.FnExactWeightedMistakes", spec := "fnExactWeightedMistakes", apart := false, narrowed := true }
def FnExactWeightedMistakesUptoSaid : Prop := fnExactWeightedMistakesUptoRow.holds Try.pinned (OpenSpec.upto fnExactWeightedMistakesSpec)

/-- 'laws.FnExactMeanPlane', WHERE WHAT IT READS IS OF BULK AT MOST 1048576: true; the input reads as it did. -/
def fnExactMeanPlaneUptoRow : OpenClaim := { program := "ytniebbjbihenfaa", sum := "7db7b05d7f4b6f383002ef7816f942663e00313cd315d7398541d8f7c86e4e26", func := "loop.example/g01135/laws.FnExactMeanPlane", spec := "fnExactMeanPlane", apart := false, narrowed := true }
def FnExactMeanPlaneUptoSaid : Prop := fnExactMeanPlaneUptoRow.holds Try.pinned (OpenSpec.upto fnExactMeanPlaneSpec)

/-- 'laws.FnExactGatesNeeded', WHERE WHAT IT READS IS OF BULK AT MOST 1048576: true; the input reads as it did. -/
def fnExactGatesNeededUptoRow : OpenClaim := { program := "ytniebbjbihenfaa", sum := "7db7b05d7f4b6f383002ef7816f942663e00313cd315d7398541d8f7c86e4e26", func := "loop.example/g01135/laws.FnExactGatesNeeded", spec := "fnExactGatesNeeded", unfollowed := true, recurses := true, apart := false, narrowed := true }
def FnExactGatesNeededUptoSaid : Prop := fnExactGatesNeededUptoRow.holds Try.pinned (OpenSpec.upto fnExactGatesNeededSpec)

/-- 'laws.FnExactFindPair', WHERE WHAT IT READS IS OF BULK AT MOST 1048576: true; the input reads as it did. -/
def fnExactFindPairUptoRow : OpenClaim := { program := "ytniebbjbihenfaa", sum := "7db7b05d7f4b6f383002ef7816f942663e00313cd315d7398541d8f7c86e4e26", func := "loop.example/g01135/laws.FnExactFindPair", spec := "fnExactFindPair", unfollowed := true, recurses := true, apart := false, narrowed := true }
def FnExactFindPairUptoSaid : Prop := fnExactFindPairUptoRow.holds Try.pinned (OpenSpec.upto fnExactFindPairSpec)

/-- 'laws.FnExactEvaluateNet', WHERE WHAT IT READS IS OF BULK AT MOST 1048576: true; the input reads as it did. -/
def fnExactEvaluateNetUptoRow : OpenClaim := { program := "ytniebbjbihenfaa", sum := "7db7b05d7f4b6f383002ef7816f942663e00313cd315d7398541d8f7c86e4e26", func := "loop.example/g01135/laws.FnExactEvaluateNet", spec := "fnExactEvaluateNet", apart := false, narrowed := true }
def FnExactEvaluateNetUptoSaid : Prop := fnExactEvaluateNetUptoRow.holds Try.pinned (OpenSpec.upto fnExactEvaluateNetSpec)

/-- 'laws.FnExactSidesSample', WHERE WHAT IT READS IS OF BULK AT MOST 1048576: true; the input reads as it did. -/
def fnExactSidesSampleUptoRow : OpenClaim := { program := "ytniebbjbihenfaa", sum := "7db7b05d7f4b6f383002ef7816f942663e00313cd315d7398541d8f7c86e4e26", func := "loop.example/g01135/laws.FnExactSidesSample", spec := "fnExactSidesSample", apart := false, narrowed := true }
def FnExactSidesSampleUptoSaid : Prop := fnExactSidesSampleUptoRow.holds Try.pinned (OpenSpec.upto fnExactSidesSampleSpec)

/-- 'laws.FnExactNetTables', WHERE WHAT IT READS IS OF BULK AT MOST 1048576: true; the input reads as it did. -/
def fnExactNetTablesUptoRow : OpenClaim := { program := "ytniebbjbihenfaa", sum := "7db7b05d7f4b6f383002ef7816f942663e00313cd315d7398541d8f7c86e4e26", func := "loop.example/g01135/laws.FnExactNetTables", spec := "fnExactNetTables", apart := false, narrowed := true }
def FnExactNetTablesUptoSaid : Prop := fnExactNetTablesUptoRow.holds Try.pinned (OpenSpec.upto fnExactNetTablesSpec)

/-- 'laws.FnExactKeepsLabels', WHERE WHAT IT READS IS OF BULK AT MOST 1048576: true; the input reads as it did. -/
def fnExactKeepsLabelsUptoRow : OpenClaim := { program := "ytniebbjbihenfaa", sum := "7db7b05d7f4b6f383002ef7816f942663e00313cd315d7398541d8f7c86e4e26", func := "loop.example/g01135/laws.FnExactKeepsLabels", spec := "fnExactKeepsLabels", unfollowed := true, recurses := true, apart := false, narrowed := true }
def FnExactKeepsLabelsUptoSaid : Prop := fnExactKeepsLabelsUptoRow.holds Try.pinned (OpenSpec.upto fnExactKeepsLabelsSpec)

/-- 'laws.FnExactNearestPlaces', WHERE WHAT IT READS IS OF BULK AT MOST 1048576: true; the input reads as it did. -/
def fnExactNearestPlacesUptoRow : OpenClaim := { program := "ytniebbjbihenfaa", sum := "7db7b05d7f4b6f383002ef7816f942663e00313cd315d7398541d8f7c86e4e26", func := "loop.example/g01135/laws.FnExactNearestPlaces", spec := "fnExactNearestPlaces", unfollowed := true, recurses := true, apart := false, narrowed := true }
def FnExactNearestPlacesUptoSaid : Prop := fnExactNearestPlacesUptoRow.holds Try.pinned (OpenSpec.upto fnExactNearestPlacesSpec)

/-- 'laws.FnExactNearLabel', WHERE WHAT IT READS IS OF BULK AT MOST 1048576: true; the input reads as it did. -/
def fnExactNearLabelUptoRow : OpenClaim := { program := "ytniebbjbihenfaa", sum := "7db7b05d7f4b6f383002ef7816f942663e00313cd315d7398541d8f7c86e4e26", func := "loop.example/g01135/laws.FnExactNearLabel", spec := "fnExactNearLabel", unfollowed := true, recurses := true, apart := false, narrowed := true }
def FnExactNearLabelUptoSaid : Prop := fnExactNearLabelUptoRow.holds Try.pinned (OpenSpec.upto fnExactNearLabelSpec)

/-- 'laws.FnExactLeftOutMistakes', WHERE WHAT IT READS IS OF BULK AT MOST 1048576: true; the input reads as it did. -/
def fnExactLeftOutMistakesUptoRow : OpenClaim := { program := "ytniebbjbihenfaa", sum := "7db7b05d7f4b6f383002ef7816f942663e00313cd315d7398541d8f7c86e4e26", func := "loop.example/g01135/laws.FnExactLeftOutMistakes", spec := "fnExactLeftOutMistakes", unfollowed := true, recurses := true, apart := false, narrowed := true }
def FnExactLeftOutMistakesUptoSaid : Prop := fnExactLeftOutMistakesUptoRow.holds Try.pinned (OpenSpec.upto fnExactLeftOutMistakesSpec)

end Rows
end Go.Proofs.Ytniebbjbihenfaa
