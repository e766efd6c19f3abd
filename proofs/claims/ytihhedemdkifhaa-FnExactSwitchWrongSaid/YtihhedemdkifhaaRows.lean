/-
  No cell of these rows narrows 'for every input' (looked for: loops, veiled, ifaces, maps, wideKeys, modest, calm, conditions, laid).
  DERIVED. THE GIVEN ROWS OF THIS SEAT. 9 by the template 'for every input the law returns true; each argument reads behind the call as it read before'; 0 by the template 'total and deterministic' (their statements: YtihhedemdkifhaaTotals.lean).
  GIVEN WITH THE SEED: the statements are not yours to turn. If you find one false, say at which input.
  Laid BY PROGRAM, IN A SANDBOX (cutbox-rows.mjs): the forced cells as the released guide's own fill.sh prints them over the translation a0e9c7f6bb68cddd… (all of the seat's roots in one cut). By AI agents, Wed Nov 11 2026. No macro, syntax, notation, axiom, sorry.
-/
import Derived.Test.YtihhedemdkifhaaChecked
import GoSem.Claim
import GoSem.ClaimJoined
import GoSem.ClaimMapViews
import Derived.JoinedTies
import Derived.KernelRfl
namespace Go.Proofs.Ytihhedemdkifhaa
/- THE CELL 'sum', in the pinned program and in every row, IS THE sha256 OF THE DUMP (.gsa) THAT YtihhedemdkifhaaProg.lean LOADS. Nothing in Lean hashes anything: it is a label: what it is worth is what the hold of that sum in a sandbox is worth. -/
noncomputable def Try.pinned : Pinned := { name := "ytihhedemdkifhaa", sum := "a0e9c7f6bb68cddd5c42e7dc1af9c86a23185a64e27a5dbd114dc85338675d3c", checked := Try.checked }
namespace Rows
def none {H : Type} : Left H := { results := [], args := [] }

/-- 'laws.FnExactDuelWorst': WHATEVER THE INPUT: true; the input reads as it did. -/
def fnExactDuelWorstSpec : ChangeSpec := { name := "fnExactDuelWorst", fn := fun _ => fun
  | [d] => { results := [.lit (.bool true)], args := [d] }
  | _ => none }
def fnExactDuelWorstRow : OpenClaim := { program := "ytihhedemdkifhaa", sum := "a0e9c7f6bb68cddd5c42e7dc1af9c86a23185a64e27a5dbd114dc85338675d3c", func := "loop.example/g01135/laws.FnExactDuelWorst", spec := "fnExactDuelWorst", unfollowed := true, recurses := true, plainKeys := false, apart := false }
def FnExactDuelWorstSaid : Prop := fnExactDuelWorstRow.holds Try.pinned (OpenSpec.ofChange fnExactDuelWorstSpec)

/-- ITS FALSE NEIGHBOUR: 'it returns false'. Refute it at one input. -/
def fnExactDuelWorstWrong : ChangeSpec := { name := "fnExactDuelWorst", fn := fun _ => fun
  | [d] => { results := [.lit (.bool false)], args := [d] }
  | _ => none }
def FnExactDuelWorstWrongFalsely : Prop := fnExactDuelWorstRow.holds Try.pinned (OpenSpec.ofChange fnExactDuelWorstWrong)

/-- 'laws.FnExactSwitchWrong': WHATEVER THE INPUT: true; the input reads as it did. -/
def fnExactSwitchWrongSpec : ChangeSpec := { name := "fnExactSwitchWrong", fn := fun _ => fun
  | [d1, d2] => { results := [.lit (.bool true)], args := [d1, d2] }
  | _ => none }
def fnExactSwitchWrongRow : OpenClaim := { program := "ytihhedemdkifhaa", sum := "a0e9c7f6bb68cddd5c42e7dc1af9c86a23185a64e27a5dbd114dc85338675d3c", func := "loop.example/g01135/laws.FnExactSwitchWrong", spec := "fnExactSwitchWrong", plainKeys := false, apart := false }
def FnExactSwitchWrongSaid : Prop := fnExactSwitchWrongRow.holds Try.pinned (OpenSpec.ofChange fnExactSwitchWrongSpec)

/-- ITS FALSE NEIGHBOUR: 'it returns false'. Refute it at one input. -/
def fnExactSwitchWrongWrong : ChangeSpec := { name := "fnExactSwitchWrong", fn := fun _ => fun
  | [d1, d2] => { results := [.lit (.bool false)], args := [d1, d2] }
  | _ => none }
def FnExactSwitchWrongWrongFalsely : Prop := fnExactSwitchWrongRow.holds Try.pinned (OpenSpec.ofChange fnExactSwitchWrongWrong)

/-- 'laws.FnExactGatesNeeded': WHATEVER THE INPUT: true; the input reads as it did. -/
def fnExactGatesNeededSpec : ChangeSpec := { name := "fnExactGatesNeeded", fn := fun _ => fun
  | [d1, d2] => { results := [.lit (.bool true)], args := [d1, d2] }
  | _ => none }
def fnExactGatesNeededRow : OpenClaim := { program := "ytihhedemdkifhaa", sum := "a0e9c7f6bb68cddd5c42e7dc1af9c86a23185a64e27a5dbd114dc85338675d3c", func := "loop.example/g01135/laws.FnExactGatesNeeded", spec := "fnExactGatesNeeded", unfollowed := true, recurses := true, plainKeys := false, apart := false }
def FnExactGatesNeededSaid : Prop := fnExactGatesNeededRow.holds Try.pinned (OpenSpec.ofChange fnExactGatesNeededSpec)

/-- ITS FALSE NEIGHBOUR: 'it returns false'. Refute it at one input. -/
def fnExactGatesNeededWrong : ChangeSpec := { name := "fnExactGatesNeeded", fn := fun _ => fun
  | [d1, d2] => { results := [.lit (.bool false)], args := [d1, d2] }
  | _ => none }
def FnExactGatesNeededWrongFalsely : Prop := fnExactGatesNeededRow.holds Try.pinned (OpenSpec.ofChange fnExactGatesNeededWrong)

/-- 'laws.FnExactFindPair': WHATEVER THE INPUT: true; the input reads as it did. -/
def fnExactFindPairSpec : ChangeSpec := { name := "fnExactFindPair", fn := fun _ => fun
  | [d1, d2] => { results := [.lit (.bool true)], args := [d1, d2] }
  | _ => none }
def fnExactFindPairRow : OpenClaim := { program := "ytihhedemdkifhaa", sum := "a0e9c7f6bb68cddd5c42e7dc1af9c86a23185a64e27a5dbd114dc85338675d3c", func := "loop.example/g01135/laws.FnExactFindPair", spec := "fnExactFindPair", unfollowed := true, recurses := true, plainKeys := false, apart := false }
def FnExactFindPairSaid : Prop := fnExactFindPairRow.holds Try.pinned (OpenSpec.ofChange fnExactFindPairSpec)

/-- ITS FALSE NEIGHBOUR: 'it returns false'. Refute it at one input. -/
def fnExactFindPairWrong : ChangeSpec := { name := "fnExactFindPair", fn := fun _ => fun
  | [d1, d2] => { results := [.lit (.bool false)], args := [d1, d2] }
  | _ => none }
def FnExactFindPairWrongFalsely : Prop := fnExactFindPairRow.holds Try.pinned (OpenSpec.ofChange fnExactFindPairWrong)

/-- 'laws.FnExactKeepsLabels': WHATEVER THE INPUT: true; the input reads as it did. -/
def fnExactKeepsLabelsSpec : ChangeSpec := { name := "fnExactKeepsLabels", fn := fun _ => fun
  | [d1, d2] => { results := [.lit (.bool true)], args := [d1, d2] }
  | _ => none }
def fnExactKeepsLabelsRow : OpenClaim := { program := "ytihhedemdkifhaa", sum := "a0e9c7f6bb68cddd5c42e7dc1af9c86a23185a64e27a5dbd114dc85338675d3c", func := "loop.example/g01135/laws.FnExactKeepsLabels", spec := "fnExactKeepsLabels", unfollowed := true, recurses := true, plainKeys := false, apart := false }
def FnExactKeepsLabelsSaid : Prop := fnExactKeepsLabelsRow.holds Try.pinned (OpenSpec.ofChange fnExactKeepsLabelsSpec)

/-- ITS FALSE NEIGHBOUR: 'it returns false'. Refute it at one input. -/
def fnExactKeepsLabelsWrong : ChangeSpec := { name := "fnExactKeepsLabels", fn := fun _ => fun
  | [d1, d2] => { results := [.lit (.bool false)], args := [d1, d2] }
  | _ => none }
def FnExactKeepsLabelsWrongFalsely : Prop := fnExactKeepsLabelsRow.holds Try.pinned (OpenSpec.ofChange fnExactKeepsLabelsWrong)

/-- 'laws.FnExactNearestPlaces': WHATEVER THE INPUT: true; the input reads as it did. -/
def fnExactNearestPlacesSpec : ChangeSpec := { name := "fnExactNearestPlaces", fn := fun _ => fun
  | [d1, d2, d3] => { results := [.lit (.bool true)], args := [d1, d2, d3] }
  | _ => none }
def fnExactNearestPlacesRow : OpenClaim := { program := "ytihhedemdkifhaa", sum := "a0e9c7f6bb68cddd5c42e7dc1af9c86a23185a64e27a5dbd114dc85338675d3c", func := "loop.example/g01135/laws.FnExactNearestPlaces", spec := "fnExactNearestPlaces", unfollowed := true, recurses := true, plainKeys := false, apart := false }
def FnExactNearestPlacesSaid : Prop := fnExactNearestPlacesRow.holds Try.pinned (OpenSpec.ofChange fnExactNearestPlacesSpec)

/-- ITS FALSE NEIGHBOUR: 'it returns false'. Refute it at one input. -/
def fnExactNearestPlacesWrong : ChangeSpec := { name := "fnExactNearestPlaces", fn := fun _ => fun
  | [d1, d2, d3] => { results := [.lit (.bool false)], args := [d1, d2, d3] }
  | _ => none }
def FnExactNearestPlacesWrongFalsely : Prop := fnExactNearestPlacesRow.holds Try.pinned (OpenSpec.ofChange fnExactNearestPlacesWrong)

/-- 'laws.FnExactNearLabel': WHATEVER THE INPUT: true; the input reads as it did. -/
def fnExactNearLabelSpec : ChangeSpec := { name := "fnExactNearLabel", fn := fun _ => fun
  | [d1, d2, d3] => { results := [.lit (.bool true)], args := [d1, d2, d3] }
  | _ => none }
def fnExactNearLabelRow : OpenClaim := { program := "ytihhedemdkifhaa", sum := "a0e9c7f6bb68cddd5c42e7dc1af9c86a23185a64e27a5dbd114dc85338675d3c", func := "loop.example/g01135/laws.FnExactNearLabel", spec := "fnExactNearLabel", unfollowed := true, recurses := true, plainKeys := false, apart := false }
def FnExactNearLabelSaid : Prop := fnExactNearLabelRow.holds Try.pinned (OpenSpec.ofChange fnExactNearLabelSpec)

/-- ITS FALSE NEIGHBOUR: 'it returns false'. Refute it at one input. -/
def fnExactNearLabelWrong : ChangeSpec := { name := "fnExactNearLabel", fn := fun _ => fun
  | [d1, d2, d3] => { results := [.lit (.bool false)], args := [d1, d2, d3] }
  | _ => none }
def FnExactNearLabelWrongFalsely : Prop := fnExactNearLabelRow.holds Try.pinned (OpenSpec.ofChange fnExactNearLabelWrong)

/-- 'laws.FnExactLeftOutMistakes': WHATEVER THE INPUT: true; the input reads as it did. -/
def fnExactLeftOutMistakesSpec : ChangeSpec := { name := "fnExactLeftOutMistakes", fn := fun _ => fun
  | [d1, d2] => { results := [.lit (.bool true)], args := [d1, d2] }
  | _ => none }
def fnExactLeftOutMistakesRow : OpenClaim := { program := "ytihhedemdkifhaa", sum := "a0e9c7f6bb68cddd5c42e7dc1af9c86a23185a64e27a5dbd114dc85338675d3c", func := "loop.example/g01135/laws.FnExactLeftOutMistakes", spec := "fnExactLeftOutMistakes", unfollowed := true, recurses := true, plainKeys := false, apart := false }
def FnExactLeftOutMistakesSaid : Prop := fnExactLeftOutMistakesRow.holds Try.pinned (OpenSpec.ofChange fnExactLeftOutMistakesSpec)

/-- ITS FALSE NEIGHBOUR: 'it returns false'. Refute it at one input. -/
def fnExactLeftOutMistakesWrong : ChangeSpec := { name := "fnExactLeftOutMistakes", fn := fun _ => fun
  | [d1, d2] => { results := [.lit (.bool false)], args := [d1, d2] }
  | _ => none }
def FnExactLeftOutMistakesWrongFalsely : Prop := fnExactLeftOutMistakesRow.holds Try.pinned (OpenSpec.ofChange fnExactLeftOutMistakesWrong)

/-- 'laws.FnExactCondensedPlaces': WHATEVER THE INPUT: true; the input reads as it did. -/
def fnExactCondensedPlacesSpec : ChangeSpec := { name := "fnExactCondensedPlaces", fn := fun _ => fun
  | [d] => { results := [.lit (.bool true)], args := [d] }
  | _ => none }
def fnExactCondensedPlacesRow : OpenClaim := { program := "ytihhedemdkifhaa", sum := "a0e9c7f6bb68cddd5c42e7dc1af9c86a23185a64e27a5dbd114dc85338675d3c", func := "loop.example/g01135/laws.FnExactCondensedPlaces", spec := "fnExactCondensedPlaces", unfollowed := true, recurses := true, plainKeys := false, apart := false }
def FnExactCondensedPlacesSaid : Prop := fnExactCondensedPlacesRow.holds Try.pinned (OpenSpec.ofChange fnExactCondensedPlacesSpec)

/-- ITS FALSE NEIGHBOUR: 'it returns false'. Refute it at one input. -/
def fnExactCondensedPlacesWrong : ChangeSpec := { name := "fnExactCondensedPlaces", fn := fun _ => fun
  | [d] => { results := [.lit (.bool false)], args := [d] }
  | _ => none }
def FnExactCondensedPlacesWrongFalsely : Prop := fnExactCondensedPlacesRow.holds Try.pinned (OpenSpec.ofChange fnExactCondensedPlacesWrong)

/- THE SECOND FORM. 'bulk': how many values and letters a reading holds, each counted each time it is reached (what is shared counts as often as it is met; a slice's spare places count too). A statement '..UptoSaid' is the law's where the arguments, and the package variables that the reading takes, are together of bulk at most 1048576: NARROWER than '..Said'. Prove '..Said' where nothing that the law and all that it calls make is longer than what came in: it says more and counts as full. Else prove '..UptoSaid'. A law counts once. -/
mutual
def uptoBulk {H : Type} : DataW H → Nat
  | .lit (.string bytes) => bytes.length + 1
  | .lit _ => 1
  | .nil => 1
  | .ptr d => uptoBulk d + 1
  | .slice elems spare => uptoBulkAll elems + uptoBulkAll spare + 1
  | .agg parts => uptoBulkAll parts + 1
  | .iface _ d => uptoBulk d + 1
  | .map entries => uptoBulkEntries entries + 1
  | .held _ => 1
def uptoBulkAll {H : Type} : List (DataW H) → Nat
  | [] => 0
  | d :: r => uptoBulk d + uptoBulkAll r
def uptoBulkEntries {H : Type} : List (Lit × DataW H) → Nat
  | [] => 0
  | x :: r => uptoBulkEntry x + uptoBulkEntries r
def uptoBulkEntry {H : Type} : Lit × DataW H → Nat
  | (.string bytes, d) => bytes.length + uptoBulk d + 1
  | (_, d) => uptoBulk d + 1
 end
def uptoSmall : (H : Type) → List (DataW H) → Bool := fun _ ds => decide (uptoBulkAll ds ≤ 1048576)
def OpenSpec.upto (s : _root_.Go.ChangeSpec) : _root_.Go.OpenSpec := { _root_.Go.OpenSpec.ofChange s with cond := some uptoSmall }

/-- 'laws.FnExactDuelWorst', WHERE WHAT IT READS IS OF BULK AT MOST 1048576: true; the input reads as it did. -/
def fnExactDuelWorstUptoRow : OpenClaim := { program := "ytihhedemdkifhaa", sum := "a0e9c7f6bb68cddd5c42e7dc1af9c86a23185a64e27a5dbd114dc85338675d3c", func := "loop.example/g01135/laws.FnExactDuelWorst", spec := "fnExactDuelWorst", unfollowed := true, recurses := true, plainKeys := false, apart := false, narrowed := true }
def FnExactDuelWorstUptoSaid : Prop := fnExactDuelWorstUptoRow.holds Try.pinned (OpenSpec.upto fnExactDuelWorstSpec)

/-- 'laws.FnExactSwitchWrong', WHERE WHAT IT READS IS OF BULK AT MOST 1048576: true; the input reads as it did. -/
def fnExactSwitchWrongUptoRow : OpenClaim := { program := "ytihhedemdkifhaa", sum := "a0e9c7f6bb68cddd5c42e7dc1af9c86a23185a64e27a5dbd114dc85338675d3c", func := "loop.example/g01135/laws.FnExactSwitchWrong", spec := "fnExactSwitchWrong", plainKeys := false, apart := false, narrowed := true }
def FnExactSwitchWrongUptoSaid : Prop := fnExactSwitchWrongUptoRow.holds Try.pinned (OpenSpec.upto fnExactSwitchWrongSpec)

/-- 'laws.FnExactGatesNeeded', WHERE WHAT IT READS IS OF BULK AT MOST 1048576: true; the input reads as it did. -/
def fnExactGatesNeededUptoRow : OpenClaim := { program := "ytihhedemdkifhaa", sum := "a0e9c7f6bb68cddd5c42e7dc1af9c86a23185a64e27a5dbd114dc85338675d3c", func := "loop.example/g01135/laws.FnExactGatesNeeded", spec := "fnExactGatesNeeded", unfollowed := true, recurses := true, plainKeys := false, apart := false, narrowed := true }
def FnExactGatesNeededUptoSaid : Prop := fnExactGatesNeededUptoRow.holds Try.pinned (OpenSpec.upto fnExactGatesNeededSpec)

/-- 'laws.FnExactFindPair', WHERE WHAT IT READS IS OF BULK AT MOST 1048576: true; the input reads as it did. -/
def fnExactFindPairUptoRow : OpenClaim := { program := "ytihhedemdkifhaa", sum := "a0e9c7f6bb68cddd5c42e7dc1af9c86a23185a64e27a5dbd114dc85338675d3c", func := "loop.example/g01135/laws.FnExactFindPair", spec := "fnExactFindPair", unfollowed := true, recurses := true, plainKeys := false, apart := false, narrowed := true }
def FnExactFindPairUptoSaid : Prop := fnExactFindPairUptoRow.holds Try.pinned (OpenSpec.upto fnExactFindPairSpec)

/-- 'laws.FnExactKeepsLabels', WHERE WHAT IT READS IS OF BULK AT MOST 1048576: true; the input reads as it did. -/
def fnExactKeepsLabelsUptoRow : OpenClaim := { program := "ytihhedemdkifhaa", sum := "a0e9c7f6bb68cddd5c42e7dc1af9c86a23185a64e27a5dbd114dc85338675d3c", func := "loop.example/g01135/laws.FnExactKeepsLabels", spec := "fnExactKeepsLabels", unfollowed := true, recurses := true, plainKeys := false, apart := false, narrowed := true }
def FnExactKeepsLabelsUptoSaid : Prop := fnExactKeepsLabelsUptoRow.holds Try.pinned (OpenSpec.upto fnExactKeepsLabelsSpec)

/-- 'laws.FnExactNearestPlaces', WHERE WHAT IT READS IS OF BULK AT MOST 1048576: true; the input reads as it did. -/
def fnExactNearestPlacesUptoRow : OpenClaim := { program := "ytihhedemdkifhaa", sum := "a0e9c7f6bb68cddd5c42e7dc1af9c86a23185a64e27a5dbd114dc85338675d3c", func := "loop.example/g01135/laws.FnExactNearestPlaces", spec := "fnExactNearestPlaces", unfollowed := true, recurses := true, plainKeys := false, apart := false, narrowed := true }
def FnExactNearestPlacesUptoSaid : Prop := fnExactNearestPlacesUptoRow.holds Try.pinned (OpenSpec.upto fnExactNearestPlacesSpec)

/-- 'laws.FnExactNearLabel', WHERE WHAT IT READS IS OF BULK AT MOST 1048576: true; the input reads as it did. -/
def fnExactNearLabelUptoRow : OpenClaim := { program := "ytihhedemdkifhaa", sum := "a0e9c7f6bb68cddd5c42e7dc1af9c86a23185a64e27a5dbd114dc85338675d3c", func := "loop.example/g01135/laws.FnExactNearLabel", spec := "fnExactNearLabel", unfollowed := true, recurses := true, plainKeys := false, apart := false, narrowed := true }
def FnExactNearLabelUptoSaid : Prop := fnExactNearLabelUptoRow.holds Try.pinned (OpenSpec.upto fnExactNearLabelSpec)

/-- 'laws.FnExactLeftOutMistakes', WHERE WHAT IT READS IS OF BULK AT MOST 1048576: true; the input reads as it did. -/
def fnExactLeftOutMistakesUptoRow : OpenClaim := { program := "ytihhedemdkifhaa", sum := "a0e9c7f6bb68cddd5c42e7dc1af9c86a23185a64e27a5dbd114dc85338675d3c", func := "loop.example/g01135/laws.FnExactLeftOutMistakes", spec := "fnExactLeftOutMistakes", unfollowed := true, recurses := true, plainKeys := false, apart := false, narrowed := true }
def FnExactLeftOutMistakesUptoSaid : Prop := fnExactLeftOutMistakesUptoRow.holds Try.pinned (OpenSpec.upto fnExactLeftOutMistakesSpec)

/-- 'laws.FnExactCondensedPlaces', WHERE WHAT IT READS IS OF BULK AT MOST 1048576: true; the input reads as it did. -/
def fnExactCondensedPlacesUptoRow : OpenClaim := { program := "ytihhedemdkifhaa", sum := "a0e9c7f6bb68cddd5c42e7dc1af9c86a23185a64e27a5dbd114dc85338675d3c", func := "loop.example/g01135/laws.FnExactCondensedPlaces", spec := "fnExactCondensedPlaces", unfollowed := true, recurses := true, plainKeys := false, apart := false, narrowed := true }
def FnExactCondensedPlacesUptoSaid : Prop := fnExactCondensedPlacesUptoRow.holds Try.pinned (OpenSpec.upto fnExactCondensedPlacesSpec)

end Rows
end Go.Proofs.Ytihhedemdkifhaa
