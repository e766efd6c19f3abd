/-
  No cell of these rows narrows 'for every input' (looked for: loops, veiled, ifaces, maps, wideKeys, modest, calm, conditions, laid).
  DERIVED. THE GIVEN ROWS OF THIS SEAT. 10 by the template 'for every input the law returns true; each argument reads behind the call as it read before'; 0 by the template 'total and deterministic' (their statements: YtfkfahdikmfpeaaTotals.lean).
  GIVEN WITH THE SEED: the statements are not yours to turn. If you find one false, say at which input.
  Laid BY PROGRAM, IN A SANDBOX (cutbox-rows.mjs): the forced cells as the released guide's own fill.sh prints them over the translation 95085c48153917c1… (all of the seat's roots in one cut). By AI agents, Wed Nov 11 2026. No macro, syntax, notation, axiom, sorry.
-/
import Derived.Test.YtfkfahdikmfpeaaChecked
import GoSem.Claim
import GoSem.ClaimJoined
import GoSem.ClaimMapViews
import Derived.JoinedTies
import Derived.KernelRfl
namespace Go.Proofs.Ytfkfahdikmfpeaa
/- THE CELL 'sum', in the pinned program and in every row, IS THE sha256 OF THE DUMP (.gsa) THAT YtfkfahdikmfpeaaProg.lean LOADS. Nothing in Lean hashes anything: it is a label: what it is worth is what the hold of that sum in a sandbox is worth. -/
noncomputable def Try.pinned : Pinned := { name := "ytfkfahdikmfpeaa", sum := "95085c48153917c1c8648f865f98c51a68e534d2eb387a87edfd2e9c66f9cde2", checked := Try.checked }
namespace Rows
def none {H : Type} : Left H := { results := [], args := [] }

/-- 'laws.FnExactNetOfPair': WHATEVER THE INPUT: true; the input reads as it did. -/
def fnExactNetOfPairSpec : ChangeSpec := { name := "fnExactNetOfPair", fn := fun _ => fun
  | [d1, d2] => { results := [.lit (.bool true)], args := [d1, d2] }
  | _ => none }
def fnExactNetOfPairRow : OpenClaim := { program := "ytfkfahdikmfpeaa", sum := "95085c48153917c1c8648f865f98c51a68e534d2eb387a87edfd2e9c66f9cde2", func := "loop.example/g01135/laws.FnExactNetOfPair", spec := "fnExactNetOfPair", unfollowed := true, recurses := true, apart := false }
def FnExactNetOfPairSaid : Prop := fnExactNetOfPairRow.holds Try.pinned (OpenSpec.ofChange fnExactNetOfPairSpec)

/-- ITS FALSE NEIGHBOUR: 'it returns false'. Refute it at one input. -/
def fnExactNetOfPairWrong : ChangeSpec := { name := "fnExactNetOfPair", fn := fun _ => fun
  | [d1, d2] => { results := [.lit (.bool false)], args := [d1, d2] }
  | _ => none }
def FnExactNetOfPairWrongFalsely : Prop := fnExactNetOfPairRow.holds Try.pinned (OpenSpec.ofChange fnExactNetOfPairWrong)

/-- 'laws.FnExactSinglePlane': WHATEVER THE INPUT: true; the input reads as it did. -/
def fnExactSinglePlaneSpec : ChangeSpec := { name := "fnExactSinglePlane", fn := fun _ => fun
  | [d] => { results := [.lit (.bool true)], args := [d] }
  | _ => none }
def fnExactSinglePlaneRow : OpenClaim := { program := "ytfkfahdikmfpeaa", sum := "95085c48153917c1c8648f865f98c51a68e534d2eb387a87edfd2e9c66f9cde2", func := "loop.example/g01135/laws.FnExactSinglePlane", spec := "fnExactSinglePlane", unfollowed := true, recurses := true, apart := false }
def FnExactSinglePlaneSaid : Prop := fnExactSinglePlaneRow.holds Try.pinned (OpenSpec.ofChange fnExactSinglePlaneSpec)

/-- ITS FALSE NEIGHBOUR: 'it returns false'. Refute it at one input. -/
def fnExactSinglePlaneWrong : ChangeSpec := { name := "fnExactSinglePlane", fn := fun _ => fun
  | [d] => { results := [.lit (.bool false)], args := [d] }
  | _ => none }
def FnExactSinglePlaneWrongFalsely : Prop := fnExactSinglePlaneRow.holds Try.pinned (OpenSpec.ofChange fnExactSinglePlaneWrong)

/-- 'laws.FnExactFewestPlaces': WHATEVER THE INPUT: true; the input reads as it did. -/
def fnExactFewestPlacesSpec : ChangeSpec := { name := "fnExactFewestPlaces", fn := fun _ => fun
  | [d] => { results := [.lit (.bool true)], args := [d] }
  | _ => none }
def fnExactFewestPlacesRow : OpenClaim := { program := "ytfkfahdikmfpeaa", sum := "95085c48153917c1c8648f865f98c51a68e534d2eb387a87edfd2e9c66f9cde2", func := "loop.example/g01135/laws.FnExactFewestPlaces", spec := "fnExactFewestPlaces", unfollowed := true, recurses := true, apart := false }
def FnExactFewestPlacesSaid : Prop := fnExactFewestPlacesRow.holds Try.pinned (OpenSpec.ofChange fnExactFewestPlacesSpec)

/-- ITS FALSE NEIGHBOUR: 'it returns false'. Refute it at one input. -/
def fnExactFewestPlacesWrong : ChangeSpec := { name := "fnExactFewestPlaces", fn := fun _ => fun
  | [d] => { results := [.lit (.bool false)], args := [d] }
  | _ => none }
def FnExactFewestPlacesWrongFalsely : Prop := fnExactFewestPlacesRow.holds Try.pinned (OpenSpec.ofChange fnExactFewestPlacesWrong)

/-- 'laws.FnExactTracesOf': WHATEVER THE INPUT: true; the input reads as it did. -/
def fnExactTracesOfSpec : ChangeSpec := { name := "fnExactTracesOf", fn := fun _ => fun
  | [d1, d2] => { results := [.lit (.bool true)], args := [d1, d2] }
  | _ => none }
def fnExactTracesOfRow : OpenClaim := { program := "ytfkfahdikmfpeaa", sum := "95085c48153917c1c8648f865f98c51a68e534d2eb387a87edfd2e9c66f9cde2", func := "loop.example/g01135/laws.FnExactTracesOf", spec := "fnExactTracesOf", unfollowed := true, recurses := true, apart := false }
def FnExactTracesOfSaid : Prop := fnExactTracesOfRow.holds Try.pinned (OpenSpec.ofChange fnExactTracesOfSpec)

/-- ITS FALSE NEIGHBOUR: 'it returns false'. Refute it at one input. -/
def fnExactTracesOfWrong : ChangeSpec := { name := "fnExactTracesOf", fn := fun _ => fun
  | [d1, d2] => { results := [.lit (.bool false)], args := [d1, d2] }
  | _ => none }
def FnExactTracesOfWrongFalsely : Prop := fnExactTracesOfRow.holds Try.pinned (OpenSpec.ofChange fnExactTracesOfWrong)

/-- 'laws.FnExactHalvingPlay': WHATEVER THE INPUT: true; the input reads as it did. -/
def fnExactHalvingPlaySpec : ChangeSpec := { name := "fnExactHalvingPlay", fn := fun _ => fun
  | [d1, d2, d3] => { results := [.lit (.bool true)], args := [d1, d2, d3] }
  | _ => none }
def fnExactHalvingPlayRow : OpenClaim := { program := "ytfkfahdikmfpeaa", sum := "95085c48153917c1c8648f865f98c51a68e534d2eb387a87edfd2e9c66f9cde2", func := "loop.example/g01135/laws.FnExactHalvingPlay", spec := "fnExactHalvingPlay", recurses := true, apart := false }
def FnExactHalvingPlaySaid : Prop := fnExactHalvingPlayRow.holds Try.pinned (OpenSpec.ofChange fnExactHalvingPlaySpec)

/-- ITS FALSE NEIGHBOUR: 'it returns false'. Refute it at one input. -/
def fnExactHalvingPlayWrong : ChangeSpec := { name := "fnExactHalvingPlay", fn := fun _ => fun
  | [d1, d2, d3] => { results := [.lit (.bool false)], args := [d1, d2, d3] }
  | _ => none }
def FnExactHalvingPlayWrongFalsely : Prop := fnExactHalvingPlayRow.holds Try.pinned (OpenSpec.ofChange fnExactHalvingPlayWrong)

/-- 'laws.FnExactStumpsOf': WHATEVER THE INPUT: true; the input reads as it did. -/
def fnExactStumpsOfSpec : ChangeSpec := { name := "fnExactStumpsOf", fn := fun _ => fun
  | [d] => { results := [.lit (.bool true)], args := [d] }
  | _ => none }
def fnExactStumpsOfRow : OpenClaim := { program := "ytfkfahdikmfpeaa", sum := "95085c48153917c1c8648f865f98c51a68e534d2eb387a87edfd2e9c66f9cde2", func := "loop.example/g01135/laws.FnExactStumpsOf", spec := "fnExactStumpsOf", recurses := true, apart := false }
def FnExactStumpsOfSaid : Prop := fnExactStumpsOfRow.holds Try.pinned (OpenSpec.ofChange fnExactStumpsOfSpec)

/-- ITS FALSE NEIGHBOUR: 'it returns false'. Refute it at one input. -/
def fnExactStumpsOfWrong : ChangeSpec := { name := "fnExactStumpsOf", fn := fun _ => fun
  | [d] => { results := [.lit (.bool false)], args := [d] }
  | _ => none }
def FnExactStumpsOfWrongFalsely : Prop := fnExactStumpsOfRow.holds Try.pinned (OpenSpec.ofChange fnExactStumpsOfWrong)

/-- 'laws.FnExactBoostBound': WHATEVER THE INPUT: true; the input reads as it did. -/
def fnExactBoostBoundSpec : ChangeSpec := { name := "fnExactBoostBound", fn := fun _ => fun
  | [d1, d2] => { results := [.lit (.bool true)], args := [d1, d2] }
  | _ => none }
def fnExactBoostBoundRow : OpenClaim := { program := "ytfkfahdikmfpeaa", sum := "95085c48153917c1c8648f865f98c51a68e534d2eb387a87edfd2e9c66f9cde2", func := "loop.example/g01135/laws.FnExactBoostBound", spec := "fnExactBoostBound", recurses := true, apart := false }
def FnExactBoostBoundSaid : Prop := fnExactBoostBoundRow.holds Try.pinned (OpenSpec.ofChange fnExactBoostBoundSpec)

/-- ITS FALSE NEIGHBOUR: 'it returns false'. Refute it at one input. -/
def fnExactBoostBoundWrong : ChangeSpec := { name := "fnExactBoostBound", fn := fun _ => fun
  | [d1, d2] => { results := [.lit (.bool false)], args := [d1, d2] }
  | _ => none }
def FnExactBoostBoundWrongFalsely : Prop := fnExactBoostBoundRow.holds Try.pinned (OpenSpec.ofChange fnExactBoostBoundWrong)

/-- 'laws.FnExactBestStump': WHATEVER THE INPUT: true; the input reads as it did. -/
def fnExactBestStumpSpec : ChangeSpec := { name := "fnExactBestStump", fn := fun _ => fun
  | [d1, d2] => { results := [.lit (.bool true)], args := [d1, d2] }
  | _ => none }
def fnExactBestStumpRow : OpenClaim := { program := "ytfkfahdikmfpeaa", sum := "95085c48153917c1c8648f865f98c51a68e534d2eb387a87edfd2e9c66f9cde2", func := "loop.example/g01135/laws.FnExactBestStump", spec := "fnExactBestStump", recurses := true, apart := false }
def FnExactBestStumpSaid : Prop := fnExactBestStumpRow.holds Try.pinned (OpenSpec.ofChange fnExactBestStumpSpec)

/-- ITS FALSE NEIGHBOUR: 'it returns false'. Refute it at one input. -/
def fnExactBestStumpWrong : ChangeSpec := { name := "fnExactBestStump", fn := fun _ => fun
  | [d1, d2] => { results := [.lit (.bool false)], args := [d1, d2] }
  | _ => none }
def FnExactBestStumpWrongFalsely : Prop := fnExactBestStumpRow.holds Try.pinned (OpenSpec.ofChange fnExactBestStumpWrong)

/-- 'laws.FnExactFittingJury': WHATEVER THE INPUT: true; the input reads as it did. -/
def fnExactFittingJurySpec : ChangeSpec := { name := "fnExactFittingJury", fn := fun _ => fun
  | [d1, d2] => { results := [.lit (.bool true)], args := [d1, d2] }
  | _ => none }
def fnExactFittingJuryRow : OpenClaim := { program := "ytfkfahdikmfpeaa", sum := "95085c48153917c1c8648f865f98c51a68e534d2eb387a87edfd2e9c66f9cde2", func := "loop.example/g01135/laws.FnExactFittingJury", spec := "fnExactFittingJury", unfollowed := true, recurses := true, apart := false }
def FnExactFittingJurySaid : Prop := fnExactFittingJuryRow.holds Try.pinned (OpenSpec.ofChange fnExactFittingJurySpec)

/-- ITS FALSE NEIGHBOUR: 'it returns false'. Refute it at one input. -/
def fnExactFittingJuryWrong : ChangeSpec := { name := "fnExactFittingJury", fn := fun _ => fun
  | [d1, d2] => { results := [.lit (.bool false)], args := [d1, d2] }
  | _ => none }
def FnExactFittingJuryWrongFalsely : Prop := fnExactFittingJuryRow.holds Try.pinned (OpenSpec.ofChange fnExactFittingJuryWrong)

/-- 'laws.FnExactBoostRounds': WHATEVER THE INPUT: true; the input reads as it did. -/
def fnExactBoostRoundsSpec : ChangeSpec := { name := "fnExactBoostRounds", fn := fun _ => fun
  | [d1, d2] => { results := [.lit (.bool true)], args := [d1, d2] }
  | _ => none }
def fnExactBoostRoundsRow : OpenClaim := { program := "ytfkfahdikmfpeaa", sum := "95085c48153917c1c8648f865f98c51a68e534d2eb387a87edfd2e9c66f9cde2", func := "loop.example/g01135/laws.FnExactBoostRounds", spec := "fnExactBoostRounds", recurses := true, apart := false }
def FnExactBoostRoundsSaid : Prop := fnExactBoostRoundsRow.holds Try.pinned (OpenSpec.ofChange fnExactBoostRoundsSpec)

/-- ITS FALSE NEIGHBOUR: 'it returns false'. Refute it at one input. -/
def fnExactBoostRoundsWrong : ChangeSpec := { name := "fnExactBoostRounds", fn := fun _ => fun
  | [d1, d2] => { results := [.lit (.bool false)], args := [d1, d2] }
  | _ => none }
def FnExactBoostRoundsWrongFalsely : Prop := fnExactBoostRoundsRow.holds Try.pinned (OpenSpec.ofChange fnExactBoostRoundsWrong)

/- THE SECOND FORM. 'bulk': how many values and letters a reading holds, each counted each time it is reached (what is shared counts as often as it is met; a slice's spare places count too). A statement '..UptoSaid' is the law's where the arguments, and the package variables that the reading takes, are together of bulk at most 1048576: NARROWER than '..Said'. Prove '..Said' where nothing that the law and all that it calls make is longer than what came in: it says more and counts as full. Else prove '..UptoSaid'. A law counts once. -/
mutual
def uptoBulk {H : Type} : DataW H → Nat
  | .lit (.string bytes) => bytes.length + 1
  | .lit _ => 1
  | .nil => 1
  | .ptr d => uptoBulk d + 1
  | .slice elems spare => uptoBulkAll elems + uptoBulkAll spare + 1
  | .agg parts => uptoBulkAll parts + 1
  | .iface _ d => uptoBulk d + 1
  | .map entries => uptoBulkEntries entries + 1
  | .held _ => 1
def uptoBulkAll {H : Type} : List (DataW H) → Nat
  | [] => 0
  | d :: r => uptoBulk d + uptoBulkAll r
def uptoBulkEntries {H : Type} : List (Lit × DataW H) → Nat
  | [] => 0
  | x :: r => uptoBulkEntry x + uptoBulkEntries r
def uptoBulkEntry {H : Type} : Lit × DataW H → Nat
  | (.string bytes, d) => bytes.length + uptoBulk d + 1
  | (_, d) => uptoBulk d + 1
 end
def uptoSmall : (H : Type) → List (DataW H) → Bool := fun _ ds => decide (uptoBulkAll ds ≤ 1048576)
def OpenSpec.upto (s : _root_.Go.ChangeSpec) : _root_.Go.OpenSpec := { _root_.Go.OpenSpec.ofChange s with cond := some uptoSmall }

/-- 'laws.FnExactNetOfPair', WHERE WHAT IT READS IS OF BULK AT MOST 1048576: true; the input reads as it did. -/
def fnExactNetOfPairUptoRow : OpenClaim := { program := "ytfkfahdikmfpeaa", sum := "95085c48153917c1c8648f865f98c51a68e534d2eb387a87edfd2e9c66f9cde2", func := "loop.example/g01135/laws.FnExactNetOfPair", spec := "fnExactNetOfPair", unfollowed := true, recurses := true, apart := false, narrowed := true }
def FnExactNetOfPairUptoSaid : Prop := fnExactNetOfPairUptoRow.holds Try.pinned (OpenSpec.upto fnExactNetOfPairSpec)

/-- 'laws.FnExactSinglePlane', WHERE WHAT IT READS IS OF BULK AT MOST 1048576: true; the input reads as it did. -/
def fnExactSinglePlaneUptoRow : OpenClaim := { program := "ytfkfahdikmfpeaa", sum := "95085c48153917c1c8648f865f98c51a68e534d2eb387a87edfd2e9c66f9cde2", func := "loop.example/g01135/laws.FnExactSinglePlane", spec := "fnExactSinglePlane", unfollowed := true, recurses := true, apart := false, narrowed := true }
def FnExactSinglePlaneUptoSaid : Prop := fnExactSinglePlaneUptoRow.holds Try.pinned (OpenSpec.upto fnExactSinglePlaneSpec)

/-- 'laws.FnExactFewestPlaces', WHERE WHAT IT READS IS OF BULK AT MOST 1048576: true; the input reads as it did. -/
def fnExactFewestPlacesUptoRow : OpenClaim := { program := "ytfkfahdikmfpeaa", sum := "95085c48153917c1c8648f865f98c51a68e534d2eb387a87edfd2e9c66f9cde2", func := "loop.example/g01135/laws.FnExactFewestPlaces", spec := "fnExactFewestPlaces", unfollowed := true, recurses := true, apart := false, narrowed := true }
def FnExactFewestPlacesUptoSaid : Prop := fnExactFewestPlacesUptoRow.holds Try.pinned (OpenSpec.upto fnExactFewestPlacesSpec)

/-- 'laws.FnExactTracesOf', WHERE WHAT IT READS IS OF BULK AT MOST 1048576: true; the input reads as it did. -/
def fnExactTracesOfUptoRow : OpenClaim := { program := "ytfkfahdikmfpeaa", sum := "95085c48153917c1c8648f865f98c51a68e534d2eb387a87edfd2e9c66f9cde2", func := "loop.example/g01135/laws.FnExactTracesOf", spec := "fnExactTracesOf", unfollowed := true, recurses := true, apart := false, narrowed := true }
def FnExactTracesOfUptoSaid : Prop := fnExactTracesOfUptoRow.holds Try.pinned (OpenSpec.upto fnExactTracesOfSpec)

/-- 'laws.FnExactHalvingPlay', WHERE WHAT IT READS IS OF BULK AT MOST 1048576: true; the input reads as it did. -/
def fnExactHalvingPlayUptoRow : OpenClaim := { program := "ytfkfahdikmfpeaa", sum := "95085c48153917c1c8648f865f98c51a68e534d2eb387a87edfd2e9c66f9cde2", func := "loop.example/g01135/laws.FnExactHalvingPlay", spec := "fnExactHalvingPlay", recurses := true, apart := false, narrowed := true }
def FnExactHalvingPlayUptoSaid : Prop := fnExactHalvingPlayUptoRow.holds Try.pinned (OpenSpec.upto fnExactHalvingPlaySpec)

/-- 'laws.FnExactStumpsOf', WHERE WHAT IT READS IS OF BULK AT MOST 1048576: true; the input reads as it did. -/
def fnExactStumpsOfUptoRow : OpenClaim := { program := "ytfkfahdikmfpeaa", sum := "95085c48153917c1c8648f865f98c51a68e534d2eb387a87edfd2e9c66f9cde2", func := "loop.example/g01135/laws.FnExactStumpsOf", spec := "fnExactStumpsOf", recurses := true, apart := false, narrowed := true }
def FnExactStumpsOfUptoSaid : Prop := fnExactStumpsOfUptoRow.holds Try.pinned (OpenSpec.upto fnExactStumpsOfSpec)

/-- 'laws.FnExactBoostBound', WHERE WHAT IT READS IS OF BULK AT MOST 1048576: true; the input reads as it did. -/
def fnExactBoostBoundUptoRow : OpenClaim := { program := "ytfkfahdikmfpeaa", sum := "95085c48153917c1c8648f865f98c51a68e534d2eb387a87edfd2e9c66f9cde2", func := "loop.example/g01135/laws.FnExactBoostBound", spec := "fnExactBoostBound", recurses := true, apart := false, narrowed := true }
def FnExactBoostBoundUptoSaid : Prop := fnExactBoostBoundUptoRow.holds Try.pinned (OpenSpec.upto fnExactBoostBoundSpec)

/-- 'laws.FnExactBestStump', WHERE WHAT IT READS IS OF BULK AT MOST 1048576: true; the input reads as it did. -/
def fnExactBestStumpUptoRow : OpenClaim := { program := "ytfkfahdikmfpeaa", sum := "95085c48153917c1c8648f865f98c51a68e534d2eb387a87edfd2e9c66f9cde2", func := "loop.example/g01135/laws.FnExactBestStump", spec := "fnExactBestStump", recurses := true, apart := false, narrowed := true }
def FnExactBestStumpUptoSaid : Prop := fnExactBestStumpUptoRow.holds Try.pinned (OpenSpec.upto fnExactBestStumpSpec)

/-- 'laws.FnExactFittingJury', WHERE WHAT IT READS IS OF BULK AT MOST 1048576: true; the input reads as it did. -/
def fnExactFittingJuryUptoRow : OpenClaim := { program := "ytfkfahdikmfpeaa", sum := "95085c48153917c1c8648f865f98c51a68e534d2eb387a87edfd2e9c66f9cde2", func := "loop.example/g01135/laws.FnExactFittingJury", spec := "fnExactFittingJury", unfollowed := true, recurses := true, apart := false, narrowed := true }
def FnExactFittingJuryUptoSaid : Prop := fnExactFittingJuryUptoRow.holds Try.pinned (OpenSpec.upto fnExactFittingJurySpec)

/-- 'laws.FnExactBoostRounds', WHERE WHAT IT READS IS OF BULK AT MOST 1048576: true; the input reads as it did. -/
def fnExactBoostRoundsUptoRow : OpenClaim := { program := "ytfkfahdikmfpeaa", sum := "95085c48153917c1c8648f865f98c51a68e534d2eb387a87edfd2e9c66f9cde2", func := "loop.example/g01135/laws.FnExactBoostRounds", spec := "fnExactBoostRounds", recurses := true, apart := false, narrowed := true }
def FnExactBoostRoundsUptoSaid : Prop := fnExactBoostRoundsUptoRow.holds Try.pinned (OpenSpec.upto fnExactBoostRoundsSpec)

end Rows
end Go.Proofs.Ytfkfahdikmfpeaa
