/-
  No cell of these rows narrows 'for every input' (looked for: loops, veiled, ifaces, maps, wideKeys, modest, calm, conditions, laid).
  DERIVED. THE GIVEN ROWS OF THIS SEAT. 12 by the template 'for every input the law returns true; each argument reads behind the call as it read before'; 0 by the template 'total and deterministic' (their statements: YtpboffjnnnmicaaTotals.lean).
  GIVEN WITH THE SEED: the statements are not yours to turn. If you find one false, say at which input.
  Laid BY PROGRAM, IN A SANDBOX (cutbox-rows.mjs): the forced cells as the released guide's own fill.sh prints them over the translation c3efd3ef82d27a51… (all of the seat's roots in one cut). By AI agents, Wed Nov 11 2026. No macro, syntax, notation, axiom, sorry.
-/
import Derived.Test.YtpboffjnnnmicaaChecked
import GoSem.Claim
import GoSem.ClaimJoined
import GoSem.ClaimMapViews
import Derived.JoinedTies
import Derived.KernelRfl
namespace Go.Proofs.Ytpboffjnnnmicaa
/- THE CELL 'sum', in the pinned program and in every row, IS THE sha256 OF THE DUMP (.gsa) THAT YtpboffjnnnmicaaProg.lean LOADS. Nothing in Lean hashes anything: it is a label: what it is worth is what the hold of that sum in a sandbox is worth. -/
noncomputable def Try.pinned : Pinned := { name := "ytpboffjnnnmicaa", sum := "c3efd3ef82d27a51c8b24ee09c320700aa457c0650bac9c2b50c03956692a5f8", checked := Try.checked }
namespace Rows
def none {H : Type} : Left H := { results := [], args := [] }

/-- 'laws.FnExactWrongDays': WHATEVER THE INPUT: true; the input reads as it did. -/
def fnExactWrongDaysSpec : ChangeSpec := { name := "fnExactWrongDays", fn := fun _ => fun
  | [d] => { results := [.lit (.bool true)], args := [d] }
  | _ => none }
def fnExactWrongDaysRow : OpenClaim := { program := "ytpboffjnnnmicaa", sum := "c3efd3ef82d27a51c8b24ee09c320700aa457c0650bac9c2b50c03956692a5f8", func := "loop.example/g01135/laws.FnExactWrongDays", spec := "fnExactWrongDays", plainKeys := false, apart := false }
def FnExactWrongDaysSaid : Prop := fnExactWrongDaysRow.holds Try.pinned (OpenSpec.ofChange fnExactWrongDaysSpec)

/-- ITS FALSE NEIGHBOUR: 'it returns false'. Refute it at one input. -/
def fnExactWrongDaysWrong : ChangeSpec := { name := "fnExactWrongDays", fn := fun _ => fun
  | [d] => { results := [.lit (.bool false)], args := [d] }
  | _ => none }
def FnExactWrongDaysWrongFalsely : Prop := fnExactWrongDaysRow.holds Try.pinned (OpenSpec.ofChange fnExactWrongDaysWrong)

/-- 'laws.FnExactForceOf': WHATEVER THE INPUT: true; the input reads as it did. -/
def fnExactForceOfSpec : ChangeSpec := { name := "fnExactForceOf", fn := fun _ => fun
  | [d1, d2, d3, d4] => { results := [.lit (.bool true)], args := [d1, d2, d3, d4] }
  | _ => none }
def fnExactForceOfRow : OpenClaim := { program := "ytpboffjnnnmicaa", sum := "c3efd3ef82d27a51c8b24ee09c320700aa457c0650bac9c2b50c03956692a5f8", func := "loop.example/g01135/laws.FnExactForceOf", spec := "fnExactForceOf", plainKeys := false, apart := false }
def FnExactForceOfSaid : Prop := fnExactForceOfRow.holds Try.pinned (OpenSpec.ofChange fnExactForceOfSpec)

/-- ITS FALSE NEIGHBOUR: 'it returns false'. Refute it at one input. -/
def fnExactForceOfWrong : ChangeSpec := { name := "fnExactForceOf", fn := fun _ => fun
  | [d1, d2, d3, d4] => { results := [.lit (.bool false)], args := [d1, d2, d3, d4] }
  | _ => none }
def FnExactForceOfWrongFalsely : Prop := fnExactForceOfRow.holds Try.pinned (OpenSpec.ofChange fnExactForceOfWrong)

/-- 'laws.FnExactBestExpert': WHATEVER THE INPUT: true; the input reads as it did. -/
def fnExactBestExpertSpec : ChangeSpec := { name := "fnExactBestExpert", fn := fun _ => fun
  | [d] => { results := [.lit (.bool true)], args := [d] }
  | _ => none }
def fnExactBestExpertRow : OpenClaim := { program := "ytpboffjnnnmicaa", sum := "c3efd3ef82d27a51c8b24ee09c320700aa457c0650bac9c2b50c03956692a5f8", func := "loop.example/g01135/laws.FnExactBestExpert", spec := "fnExactBestExpert", plainKeys := false, apart := false }
def FnExactBestExpertSaid : Prop := fnExactBestExpertRow.holds Try.pinned (OpenSpec.ofChange fnExactBestExpertSpec)

/-- ITS FALSE NEIGHBOUR: 'it returns false'. Refute it at one input. -/
def fnExactBestExpertWrong : ChangeSpec := { name := "fnExactBestExpert", fn := fun _ => fun
  | [d] => { results := [.lit (.bool false)], args := [d] }
  | _ => none }
def FnExactBestExpertWrongFalsely : Prop := fnExactBestExpertRow.holds Try.pinned (OpenSpec.ofChange fnExactBestExpertWrong)

/-- 'laws.FnExactGateCount': WHATEVER THE INPUT: true; the input reads as it did. -/
def fnExactGateCountSpec : ChangeSpec := { name := "fnExactGateCount", fn := fun _ => fun
  | [d] => { results := [.lit (.bool true)], args := [d] }
  | _ => none }
def fnExactGateCountRow : OpenClaim := { program := "ytpboffjnnnmicaa", sum := "c3efd3ef82d27a51c8b24ee09c320700aa457c0650bac9c2b50c03956692a5f8", func := "loop.example/g01135/laws.FnExactGateCount", spec := "fnExactGateCount", plainKeys := false, apart := false }
def FnExactGateCountSaid : Prop := fnExactGateCountRow.holds Try.pinned (OpenSpec.ofChange fnExactGateCountSpec)

/-- ITS FALSE NEIGHBOUR: 'it returns false'. Refute it at one input. -/
def fnExactGateCountWrong : ChangeSpec := { name := "fnExactGateCount", fn := fun _ => fun
  | [d] => { results := [.lit (.bool false)], args := [d] }
  | _ => none }
def FnExactGateCountWrongFalsely : Prop := fnExactGateCountRow.holds Try.pinned (OpenSpec.ofChange fnExactGateCountWrong)

/-- 'laws.FnExactKernelSquare': WHATEVER THE INPUT: true; the input reads as it did. -/
def fnExactKernelSquareSpec : ChangeSpec := { name := "fnExactKernelSquare", fn := fun _ => fun
  | [d1, d2, d3] => { results := [.lit (.bool true)], args := [d1, d2, d3] }
  | _ => none }
def fnExactKernelSquareRow : OpenClaim := { program := "ytpboffjnnnmicaa", sum := "c3efd3ef82d27a51c8b24ee09c320700aa457c0650bac9c2b50c03956692a5f8", func := "loop.example/g01135/laws.FnExactKernelSquare", spec := "fnExactKernelSquare", plainKeys := false, apart := false }
def FnExactKernelSquareSaid : Prop := fnExactKernelSquareRow.holds Try.pinned (OpenSpec.ofChange fnExactKernelSquareSpec)

/-- ITS FALSE NEIGHBOUR: 'it returns false'. Refute it at one input. -/
def fnExactKernelSquareWrong : ChangeSpec := { name := "fnExactKernelSquare", fn := fun _ => fun
  | [d1, d2, d3] => { results := [.lit (.bool false)], args := [d1, d2, d3] }
  | _ => none }
def FnExactKernelSquareWrongFalsely : Prop := fnExactKernelSquareRow.holds Try.pinned (OpenSpec.ofChange fnExactKernelSquareWrong)

/-- 'laws.FnExactDuelWorst': WHATEVER THE INPUT: true; the input reads as it did. -/
def fnExactDuelWorstSpec : ChangeSpec := { name := "fnExactDuelWorst", fn := fun _ => fun
  | [d] => { results := [.lit (.bool true)], args := [d] }
  | _ => none }
def fnExactDuelWorstRow : OpenClaim := { program := "ytpboffjnnnmicaa", sum := "c3efd3ef82d27a51c8b24ee09c320700aa457c0650bac9c2b50c03956692a5f8", func := "loop.example/g01135/laws.FnExactDuelWorst", spec := "fnExactDuelWorst", unfollowed := true, recurses := true, plainKeys := false, apart := false }
def FnExactDuelWorstSaid : Prop := fnExactDuelWorstRow.holds Try.pinned (OpenSpec.ofChange fnExactDuelWorstSpec)

/-- ITS FALSE NEIGHBOUR: 'it returns false'. Refute it at one input. -/
def fnExactDuelWorstWrong : ChangeSpec := { name := "fnExactDuelWorst", fn := fun _ => fun
  | [d] => { results := [.lit (.bool false)], args := [d] }
  | _ => none }
def FnExactDuelWorstWrongFalsely : Prop := fnExactDuelWorstRow.holds Try.pinned (OpenSpec.ofChange fnExactDuelWorstWrong)

/-- 'laws.FnExactSwitchWrong': WHATEVER THE INPUT: true; the input reads as it did. -/
def fnExactSwitchWrongSpec : ChangeSpec := { name := "fnExactSwitchWrong", fn := fun _ => fun
  | [d1, d2] => { results := [.lit (.bool true)], args := [d1, d2] }
  | _ => none }
def fnExactSwitchWrongRow : OpenClaim := { program := "ytpboffjnnnmicaa", sum := "c3efd3ef82d27a51c8b24ee09c320700aa457c0650bac9c2b50c03956692a5f8", func := "loop.example/g01135/laws.FnExactSwitchWrong", spec := "fnExactSwitchWrong", plainKeys := false, apart := false }
def FnExactSwitchWrongSaid : Prop := fnExactSwitchWrongRow.holds Try.pinned (OpenSpec.ofChange fnExactSwitchWrongSpec)

/-- ITS FALSE NEIGHBOUR: 'it returns false'. Refute it at one input. -/
def fnExactSwitchWrongWrong : ChangeSpec := { name := "fnExactSwitchWrong", fn := fun _ => fun
  | [d1, d2] => { results := [.lit (.bool false)], args := [d1, d2] }
  | _ => none }
def FnExactSwitchWrongWrongFalsely : Prop := fnExactSwitchWrongRow.holds Try.pinned (OpenSpec.ofChange fnExactSwitchWrongWrong)

/-- 'laws.FnExactMajoritySays': WHATEVER THE INPUT: true; the input reads as it did. -/
def fnExactMajoritySaysSpec : ChangeSpec := { name := "fnExactMajoritySays", fn := fun _ => fun
  | [d] => { results := [.lit (.bool true)], args := [d] }
  | _ => none }
def fnExactMajoritySaysRow : OpenClaim := { program := "ytpboffjnnnmicaa", sum := "c3efd3ef82d27a51c8b24ee09c320700aa457c0650bac9c2b50c03956692a5f8", func := "loop.example/g01135/laws.FnExactMajoritySays", spec := "fnExactMajoritySays", unfollowed := true, recurses := true, plainKeys := false, apart := false }
def FnExactMajoritySaysSaid : Prop := fnExactMajoritySaysRow.holds Try.pinned (OpenSpec.ofChange fnExactMajoritySaysSpec)

/-- ITS FALSE NEIGHBOUR: 'it returns false'. Refute it at one input. -/
def fnExactMajoritySaysWrong : ChangeSpec := { name := "fnExactMajoritySays", fn := fun _ => fun
  | [d] => { results := [.lit (.bool false)], args := [d] }
  | _ => none }
def FnExactMajoritySaysWrongFalsely : Prop := fnExactMajoritySaysRow.holds Try.pinned (OpenSpec.ofChange fnExactMajoritySaysWrong)

/-- 'laws.FnExactHalvingWrong': WHATEVER THE INPUT: true; the input reads as it did. -/
def fnExactHalvingWrongSpec : ChangeSpec := { name := "fnExactHalvingWrong", fn := fun _ => fun
  | [d] => { results := [.lit (.bool true)], args := [d] }
  | _ => none }
def fnExactHalvingWrongRow : OpenClaim := { program := "ytpboffjnnnmicaa", sum := "c3efd3ef82d27a51c8b24ee09c320700aa457c0650bac9c2b50c03956692a5f8", func := "loop.example/g01135/laws.FnExactHalvingWrong", spec := "fnExactHalvingWrong", unfollowed := true, recurses := true, plainKeys := false, apart := false }
def FnExactHalvingWrongSaid : Prop := fnExactHalvingWrongRow.holds Try.pinned (OpenSpec.ofChange fnExactHalvingWrongSpec)

/-- ITS FALSE NEIGHBOUR: 'it returns false'. Refute it at one input. -/
def fnExactHalvingWrongWrong : ChangeSpec := { name := "fnExactHalvingWrong", fn := fun _ => fun
  | [d] => { results := [.lit (.bool false)], args := [d] }
  | _ => none }
def FnExactHalvingWrongWrongFalsely : Prop := fnExactHalvingWrongRow.holds Try.pinned (OpenSpec.ofChange fnExactHalvingWrongWrong)

/-- 'laws.FnExactWeightSum': WHATEVER THE INPUT: true; the input reads as it did. -/
def fnExactWeightSumSpec : ChangeSpec := { name := "fnExactWeightSum", fn := fun _ => fun
  | [d] => { results := [.lit (.bool true)], args := [d] }
  | _ => none }
def fnExactWeightSumRow : OpenClaim := { program := "ytpboffjnnnmicaa", sum := "c3efd3ef82d27a51c8b24ee09c320700aa457c0650bac9c2b50c03956692a5f8", func := "loop.example/g01135/laws.FnExactWeightSum", spec := "fnExactWeightSum", plainKeys := false, apart := false }
def FnExactWeightSumSaid : Prop := fnExactWeightSumRow.holds Try.pinned (OpenSpec.ofChange fnExactWeightSumSpec)

/-- ITS FALSE NEIGHBOUR: 'it returns false'. Refute it at one input. -/
def fnExactWeightSumWrong : ChangeSpec := { name := "fnExactWeightSum", fn := fun _ => fun
  | [d] => { results := [.lit (.bool false)], args := [d] }
  | _ => none }
def FnExactWeightSumWrongFalsely : Prop := fnExactWeightSumRow.holds Try.pinned (OpenSpec.ofChange fnExactWeightSumWrong)

/-- 'laws.FnExactWithOpposites': WHATEVER THE INPUT: true; the input reads as it did. -/
def fnExactWithOppositesSpec : ChangeSpec := { name := "fnExactWithOpposites", fn := fun _ => fun
  | [d] => { results := [.lit (.bool true)], args := [d] }
  | _ => none }
def fnExactWithOppositesRow : OpenClaim := { program := "ytpboffjnnnmicaa", sum := "c3efd3ef82d27a51c8b24ee09c320700aa457c0650bac9c2b50c03956692a5f8", func := "loop.example/g01135/laws.FnExactWithOpposites", spec := "fnExactWithOpposites", plainKeys := false, apart := false }
def FnExactWithOppositesSaid : Prop := fnExactWithOppositesRow.holds Try.pinned (OpenSpec.ofChange fnExactWithOppositesSpec)

/-- ITS FALSE NEIGHBOUR: 'it returns false'. Refute it at one input. -/
def fnExactWithOppositesWrong : ChangeSpec := { name := "fnExactWithOpposites", fn := fun _ => fun
  | [d] => { results := [.lit (.bool false)], args := [d] }
  | _ => none }
def FnExactWithOppositesWrongFalsely : Prop := fnExactWithOppositesRow.holds Try.pinned (OpenSpec.ofChange fnExactWithOppositesWrong)

/-- 'laws.FnExactHalvingSays': WHATEVER THE INPUT: true; the input reads as it did. -/
def fnExactHalvingSaysSpec : ChangeSpec := { name := "fnExactHalvingSays", fn := fun _ => fun
  | [d] => { results := [.lit (.bool true)], args := [d] }
  | _ => none }
def fnExactHalvingSaysRow : OpenClaim := { program := "ytpboffjnnnmicaa", sum := "c3efd3ef82d27a51c8b24ee09c320700aa457c0650bac9c2b50c03956692a5f8", func := "loop.example/g01135/laws.FnExactHalvingSays", spec := "fnExactHalvingSays", unfollowed := true, recurses := true, plainKeys := false, apart := false }
def FnExactHalvingSaysSaid : Prop := fnExactHalvingSaysRow.holds Try.pinned (OpenSpec.ofChange fnExactHalvingSaysSpec)

/-- ITS FALSE NEIGHBOUR: 'it returns false'. Refute it at one input. -/
def fnExactHalvingSaysWrong : ChangeSpec := { name := "fnExactHalvingSays", fn := fun _ => fun
  | [d] => { results := [.lit (.bool false)], args := [d] }
  | _ => none }
def FnExactHalvingSaysWrongFalsely : Prop := fnExactHalvingSaysRow.holds Try.pinned (OpenSpec.ofChange fnExactHalvingSaysWrong)

/- THE SECOND FORM. 'bulk': how many values and letters a reading holds, each counted each time it is reached (what is shared counts as often as it is met; a slice's spare places count too). A statement '..UptoSaid' is the law's where the arguments, and the package variables that the reading takes, are together of bulk at most 1048576: NARROWER than '..Said'. Prove '..Said' where nothing that the law and all that it calls make is longer than what came in: it says more and counts as full. Else prove '..UptoSaid'. A law counts once. -/
mutual
def uptoBulk {H : Type} : DataW H → Nat
  | .lit (.string bytes) => bytes.length + 1
  | .lit _ => 1
  | .nil => 1
  | .ptr d => uptoBulk d + 1
  | .slice elems spare => uptoBulkAll elems + uptoBulkAll spare + 1
  | .agg parts => uptoBulkAll parts + 1
  | .iface _ d => uptoBulk d + 1
  | .map entries => uptoBulkEntries entries + 1
  | .held _ => 1
def uptoBulkAll {H : Type} : List (DataW H) → Nat
  | [] => 0
  | d :: r => uptoBulk d + uptoBulkAll r
def uptoBulkEntries {H : Type} : List (Lit × DataW H) → Nat
  | [] => 0
  | x :: r => uptoBulkEntry x + uptoBulkEntries r
def uptoBulkEntry {H : Type} : Lit × DataW H → Nat
  | (.string bytes, d) => bytes.length + uptoBulk d + 1
  | (_, d) => uptoBulk d + 1
 end
def uptoSmall : (H : Type) → List (DataW H) → Bool := fun _ ds => decide (uptoBulkAll ds ≤ 1048576)
def OpenSpec.upto (s : _root_.Go.ChangeSpec) : _root_.Go.OpenSpec := { _root_.Go.OpenSpec.ofChange s with cond := some uptoSmall }

/-- 'laws.FnExactWrongDays', WHERE WHAT IT READS IS OF BULK AT MOST 1048576: true; the input reads as it did. -/
def fnExactWrongDaysUptoRow : OpenClaim := { program := "ytpboffjnnnmicaa", sum := "c3efd3ef82d27a51c8b24ee09c320700aa457c0650bac9c2b50c03956692a5f8", func := "loop.example/g01135/laws.FnExactWrongDays", spec := "fnExactWrongDays", plainKeys := false, apart := false, narrowed := true }
def FnExactWrongDaysUptoSaid : Prop := fnExactWrongDaysUptoRow.holds Try.pinned (OpenSpec.upto fnExactWrongDaysSpec)

/-- 'laws.FnExactForceOf', WHERE WHAT IT READS IS OF BULK AT MOST 1048576: true; the input reads as it did. -/
def fnExactForceOfUptoRow : OpenClaim := { program := "ytpboffjnnnmicaa", sum := "c3efd3ef82d27a51c8b24ee09c320700aa457c0650bac9c2b50c03956692a5f8", func := "loop.example/g01135/laws.FnExactForceOf", spec := "fnExactForceOf", plainKeys := false, apart := false, narrowed := true }
def FnExactForceOfUptoSaid : Prop := fnExactForceOfUptoRow.holds Try.pinned (OpenSpec.upto fnExactForceOfSpec)

/-- 'laws.FnExactBestExpert', WHERE WHAT IT READS IS OF BULK AT MOST 1048576: true; the input reads as it did. -/
def fnExactBestExpertUptoRow : OpenClaim := { program := "ytpboffjnnnmicaa", sum := "c3efd3ef82d27a51c8b24ee09c320700aa457c0650bac9c2b50c03956692a5f8", func := "loop.example/g01135/laws.FnExactBestExpert", spec := "fnExactBestExpert", plainKeys := false, apart := false, narrowed := true }
def FnExactBestExpertUptoSaid : Prop := fnExactBestExpertUptoRow.holds Try.pinned (OpenSpec.upto fnExactBestExpertSpec)

/-- 'laws.FnExactGateCount', WHERE WHAT IT READS IS OF BULK AT MOST 1048576: true; the input reads as it did. -/
def fnExactGateCountUptoRow : OpenClaim := { program := "ytpboffjnnnmicaa", sum := "c3efd3ef82d27a51c8b24ee09c320700aa457c0650bac9c2b50c03956692a5f8", func := "loop.example/g01135/laws.FnExactGateCount", spec := "fnExactGateCount", plainKeys := false, apart := false, narrowed := true }
def FnExactGateCountUptoSaid : Prop := fnExactGateCountUptoRow.holds Try.pinned (OpenSpec.upto fnExactGateCountSpec)

/-- 'laws.FnExactKernelSquare', WHERE WHAT IT READS IS OF BULK AT MOST 1048576: true; the input reads as it did. -/
def fnExactKernelSquareUptoRow : OpenClaim := { program := "ytpboffjnnnmicaa", sum := "c3efd3ef82d27a51c8b24ee09c320700aa457c0650bac9c2b50c03956692a5f8", func := "loop.example/g01135/laws.FnExactKernelSquare", spec := "fnExactKernelSquare", plainKeys := false, apart := false, narrowed := true }
def FnExactKernelSquareUptoSaid : Prop := fnExactKernelSquareUptoRow.holds Try.pinned (OpenSpec.upto fnExactKernelSquareSpec)

/-- 'laws.FnExactDuelWorst', WHERE WHAT IT READS IS OF BULK AT MOST 1048576: true; the input reads as it did. -/
def fnExactDuelWorstUptoRow : OpenClaim := { program := "ytpboffjnnnmicaa", sum := "c3efd3ef82d27a51c8b24ee09c320700aa457c0650bac9c2b50c03956692a5f8", func := "loop.example/g01135/laws.FnExactDuelWorst", spec := "fnExactDuelWorst", unfollowed := true, recurses := true, plainKeys := false, apart := false, narrowed := true }
def FnExactDuelWorstUptoSaid : Prop := fnExactDuelWorstUptoRow.holds Try.pinned (OpenSpec.upto fnExactDuelWorstSpec)

/-- 'laws.FnExactSwitchWrong', WHERE WHAT IT READS IS OF BULK AT MOST 1048576: true; the input reads as it did. -/
def fnExactSwitchWrongUptoRow : OpenClaim := { program := "ytpboffjnnnmicaa", sum := "c3efd3ef82d27a51c8b24ee09c320700aa457c0650bac9c2b50c03956692a5f8", func := "loop.example/g01135/laws.FnExactSwitchWrong", spec := "fnExactSwitchWrong", plainKeys := false, apart := false, narrowed := true }
def FnExactSwitchWrongUptoSaid : Prop := fnExactSwitchWrongUptoRow.holds Try.pinned (OpenSpec.upto fnExactSwitchWrongSpec)

/-- 'laws.FnExactMajoritySays', WHERE WHAT IT READS IS OF BULK AT MOST 1048576: true; the input reads as it did. -/
def fnExactMajoritySaysUptoRow : OpenClaim := { program := "ytpboffjnnnmicaa", sum := "c3efd3ef82d27a51c8b24ee09c320700aa457c0650bac9c2b50c03956692a5f8", func := "loop.example/g01135/laws.FnExactMajoritySays", spec := "fnExactMajoritySays", unfollowed := true, recurses := true, plainKeys := false, apart := false, narrowed := true }
def FnExactMajoritySaysUptoSaid : Prop := fnExactMajoritySaysUptoRow.holds Try.pinned (OpenSpec.upto fnExactMajoritySaysSpec)

/-- 'laws.FnExactHalvingWrong', WHERE WHAT IT READS IS OF BULK AT MOST 1048576: true; the input reads as it did. -/
def fnExactHalvingWrongUptoRow : OpenClaim := { program := "ytpboffjnnnmicaa", sum := "c3efd3ef82d27a51c8b24ee09c320700aa457c0650bac9c2b50c03956692a5f8", func := "loop.example/g01135/laws.FnExactHalvingWrong", spec := "fnExactHalvingWrong", unfollowed := true, recurses := true, plainKeys := false, apart := false, narrowed := true }
def FnExactHalvingWrongUptoSaid : Prop := fnExactHalvingWrongUptoRow.holds Try.pinned (OpenSpec.upto fnExactHalvingWrongSpec)

/-- 'laws.FnExactWeightSum', WHERE WHAT IT READS IS OF BULK AT MOST 1048576: true; the input reads as it did. -/
def fnExactWeightSumUptoRow : OpenClaim := { program := "ytpboffjnnnmicaa", sum := "c3efd3ef82d27a51c8b24ee09c320700aa457c0650bac9c2b50c03956692a5f8", func := "loop.example/g01135/laws.FnExactWeightSum", spec := "fnExactWeightSum", plainKeys := false, apart := false, narrowed := true }
def FnExactWeightSumUptoSaid : Prop := fnExactWeightSumUptoRow.holds Try.pinned (OpenSpec.upto fnExactWeightSumSpec)

/-- 'laws.FnExactWithOpposites', WHERE WHAT IT READS IS OF BULK AT MOST 1048576: true; the input reads as it did. -/
def fnExactWithOppositesUptoRow : OpenClaim := { program := "ytpboffjnnnmicaa", sum := "c3efd3ef82d27a51c8b24ee09c320700aa457c0650bac9c2b50c03956692a5f8", func := "loop.example/g01135/laws.FnExactWithOpposites", spec := "fnExactWithOpposites", plainKeys := false, apart := false, narrowed := true }
def FnExactWithOppositesUptoSaid : Prop := fnExactWithOppositesUptoRow.holds Try.pinned (OpenSpec.upto fnExactWithOppositesSpec)

/-- 'laws.FnExactHalvingSays', WHERE WHAT IT READS IS OF BULK AT MOST 1048576: true; the input reads as it did. -/
def fnExactHalvingSaysUptoRow : OpenClaim := { program := "ytpboffjnnnmicaa", sum := "c3efd3ef82d27a51c8b24ee09c320700aa457c0650bac9c2b50c03956692a5f8", func := "loop.example/g01135/laws.FnExactHalvingSays", spec := "fnExactHalvingSays", unfollowed := true, recurses := true, plainKeys := false, apart := false, narrowed := true }
def FnExactHalvingSaysUptoSaid : Prop := fnExactHalvingSaysUptoRow.holds Try.pinned (OpenSpec.upto fnExactHalvingSaysSpec)

end Rows
end Go.Proofs.Ytpboffjnnnmicaa
