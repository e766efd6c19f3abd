/-
  No cell of these rows narrows 'for every input' (looked for: loops, veiled, ifaces, maps, wideKeys, modest, calm, conditions, laid).
  DERIVED. THE GIVEN ROWS OF THIS SEAT. 12 by the template 'for every input the law returns true; each argument reads behind the call as it read before'; 0 by the template 'total and deterministic' (their statements: YtihnijfgdffhjaaTotals.lean).
  GIVEN WITH THE SEED: the statements are not yours to turn. If you find one false, say at which input.
  Laid BY PROGRAM, IN A SANDBOX (cutbox-rows.mjs): the forced cells as the released guide's own fill.sh prints them over the translation fa3c132f44765541… (all of the seat's roots in one cut). By AI agents, Wed Nov 11 2026. No macro, syntax, notation, axiom, sorry.
-/
import Derived.Test.YtihnijfgdffhjaaChecked
import GoSem.Claim
import GoSem.ClaimJoined
import GoSem.ClaimMapViews
import Derived.JoinedTies
import Derived.KernelRfl
namespace Go.Proofs.Ytihnijfgdffhjaa
/- THE CELL 'sum', in the pinned program and in every row, IS THE sha256 OF THE DUMP (.gsa) THAT YtihnijfgdffhjaaProg.lean LOADS. Nothing in Lean hashes anything: it is a label: what it is worth is what the hold of that sum in a sandbox is worth. -/
noncomputable def Try.pinned : Pinned := { name := "ytihnijfgdffhjaa", sum := "fa3c132f44765541d78fa5c93ed131a6dc7b2fb954c2c3403a7569aaabe1ae6c", checked := Try.checked }
namespace Rows
def none {H : Type} : Left H := { results := [], args := [] }

/-- 'laws.FnExactIsLives': WHATEVER THE INPUT: true; the input reads as it did. -/
def fnExactIsLivesSpec : ChangeSpec := { name := "fnExactIsLives", fn := fun _ => fun
  | [d] => { results := [.lit (.bool true)], args := [d] }
  | _ => none }
def fnExactIsLivesRow : OpenClaim := { program := "ytihnijfgdffhjaa", sum := "fa3c132f44765541d78fa5c93ed131a6dc7b2fb954c2c3403a7569aaabe1ae6c", func := "loop.example/g01135/laws.FnExactIsLives", spec := "fnExactIsLives", apart := false }
def FnExactIsLivesSaid : Prop := fnExactIsLivesRow.holds Try.pinned (OpenSpec.ofChange fnExactIsLivesSpec)

/-- ITS FALSE NEIGHBOUR: 'it returns false'. Refute it at one input. -/
def fnExactIsLivesWrong : ChangeSpec := { name := "fnExactIsLives", fn := fun _ => fun
  | [d] => { results := [.lit (.bool false)], args := [d] }
  | _ => none }
def FnExactIsLivesWrongFalsely : Prop := fnExactIsLivesRow.holds Try.pinned (OpenSpec.ofChange fnExactIsLivesWrong)

/-- 'laws.FnExactKernelOf': WHATEVER THE INPUT: true; the input reads as it did. -/
def fnExactKernelOfSpec : ChangeSpec := { name := "fnExactKernelOf", fn := fun _ => fun
  | [d1, d2, d3] => { results := [.lit (.bool true)], args := [d1, d2, d3] }
  | _ => none }
def fnExactKernelOfRow : OpenClaim := { program := "ytihnijfgdffhjaa", sum := "fa3c132f44765541d78fa5c93ed131a6dc7b2fb954c2c3403a7569aaabe1ae6c", func := "loop.example/g01135/laws.FnExactKernelOf", spec := "fnExactKernelOf", apart := false }
def FnExactKernelOfSaid : Prop := fnExactKernelOfRow.holds Try.pinned (OpenSpec.ofChange fnExactKernelOfSpec)

/-- ITS FALSE NEIGHBOUR: 'it returns false'. Refute it at one input. -/
def fnExactKernelOfWrong : ChangeSpec := { name := "fnExactKernelOf", fn := fun _ => fun
  | [d1, d2, d3] => { results := [.lit (.bool false)], args := [d1, d2, d3] }
  | _ => none }
def FnExactKernelOfWrongFalsely : Prop := fnExactKernelOfRow.holds Try.pinned (OpenSpec.ofChange fnExactKernelOfWrong)

/-- 'laws.FnExactIsStump': WHATEVER THE INPUT: true; the input reads as it did. -/
def fnExactIsStumpSpec : ChangeSpec := { name := "fnExactIsStump", fn := fun _ => fun
  | [d] => { results := [.lit (.bool true)], args := [d] }
  | _ => none }
def fnExactIsStumpRow : OpenClaim := { program := "ytihnijfgdffhjaa", sum := "fa3c132f44765541d78fa5c93ed131a6dc7b2fb954c2c3403a7569aaabe1ae6c", func := "loop.example/g01135/laws.FnExactIsStump", spec := "fnExactIsStump", apart := false }
def FnExactIsStumpSaid : Prop := fnExactIsStumpRow.holds Try.pinned (OpenSpec.ofChange fnExactIsStumpSpec)

/-- ITS FALSE NEIGHBOUR: 'it returns false'. Refute it at one input. -/
def fnExactIsStumpWrong : ChangeSpec := { name := "fnExactIsStump", fn := fun _ => fun
  | [d] => { results := [.lit (.bool false)], args := [d] }
  | _ => none }
def FnExactIsStumpWrongFalsely : Prop := fnExactIsStumpRow.holds Try.pinned (OpenSpec.ofChange fnExactIsStumpWrong)

/-- 'laws.FnExactCompareNet': WHATEVER THE INPUT: true; the input reads as it did. -/
def fnExactCompareNetSpec : ChangeSpec := { name := "fnExactCompareNet", fn := fun _ => fun
  | [d] => { results := [.lit (.bool true)], args := [d] }
  | _ => none }
def fnExactCompareNetRow : OpenClaim := { program := "ytihnijfgdffhjaa", sum := "fa3c132f44765541d78fa5c93ed131a6dc7b2fb954c2c3403a7569aaabe1ae6c", func := "loop.example/g01135/laws.FnExactCompareNet", spec := "fnExactCompareNet", apart := false }
def FnExactCompareNetSaid : Prop := fnExactCompareNetRow.holds Try.pinned (OpenSpec.ofChange fnExactCompareNetSpec)

/-- ITS FALSE NEIGHBOUR: 'it returns false'. Refute it at one input. -/
def fnExactCompareNetWrong : ChangeSpec := { name := "fnExactCompareNet", fn := fun _ => fun
  | [d] => { results := [.lit (.bool false)], args := [d] }
  | _ => none }
def FnExactCompareNetWrongFalsely : Prop := fnExactCompareNetRow.holds Try.pinned (OpenSpec.ofChange fnExactCompareNetWrong)

/-- 'laws.FnExactChoiceSide': WHATEVER THE INPUT: true; the input reads as it did. -/
def fnExactChoiceSideSpec : ChangeSpec := { name := "fnExactChoiceSide", fn := fun _ => fun
  | [d1, d2, d3, d4] => { results := [.lit (.bool true)], args := [d1, d2, d3, d4] }
  | _ => none }
def fnExactChoiceSideRow : OpenClaim := { program := "ytihnijfgdffhjaa", sum := "fa3c132f44765541d78fa5c93ed131a6dc7b2fb954c2c3403a7569aaabe1ae6c", func := "loop.example/g01135/laws.FnExactChoiceSide", spec := "fnExactChoiceSide", apart := false }
def FnExactChoiceSideSaid : Prop := fnExactChoiceSideRow.holds Try.pinned (OpenSpec.ofChange fnExactChoiceSideSpec)

/-- ITS FALSE NEIGHBOUR: 'it returns false'. Refute it at one input. -/
def fnExactChoiceSideWrong : ChangeSpec := { name := "fnExactChoiceSide", fn := fun _ => fun
  | [d1, d2, d3, d4] => { results := [.lit (.bool false)], args := [d1, d2, d3, d4] }
  | _ => none }
def FnExactChoiceSideWrongFalsely : Prop := fnExactChoiceSideRow.holds Try.pinned (OpenSpec.ofChange fnExactChoiceSideWrong)

/-- 'laws.FnExactIsPanel': WHATEVER THE INPUT: true; the input reads as it did. -/
def fnExactIsPanelSpec : ChangeSpec := { name := "fnExactIsPanel", fn := fun _ => fun
  | [d] => { results := [.lit (.bool true)], args := [d] }
  | _ => none }
def fnExactIsPanelRow : OpenClaim := { program := "ytihnijfgdffhjaa", sum := "fa3c132f44765541d78fa5c93ed131a6dc7b2fb954c2c3403a7569aaabe1ae6c", func := "loop.example/g01135/laws.FnExactIsPanel", spec := "fnExactIsPanel", apart := false }
def FnExactIsPanelSaid : Prop := fnExactIsPanelRow.holds Try.pinned (OpenSpec.ofChange fnExactIsPanelSpec)

/-- ITS FALSE NEIGHBOUR: 'it returns false'. Refute it at one input. -/
def fnExactIsPanelWrong : ChangeSpec := { name := "fnExactIsPanel", fn := fun _ => fun
  | [d] => { results := [.lit (.bool false)], args := [d] }
  | _ => none }
def FnExactIsPanelWrongFalsely : Prop := fnExactIsPanelRow.holds Try.pinned (OpenSpec.ofChange fnExactIsPanelWrong)

/-- 'laws.FnExactMajorityNet': WHATEVER THE INPUT: true; the input reads as it did. -/
def fnExactMajorityNetSpec : ChangeSpec := { name := "fnExactMajorityNet", fn := fun _ => fun
  | [d] => { results := [.lit (.bool true)], args := [d] }
  | _ => none }
def fnExactMajorityNetRow : OpenClaim := { program := "ytihnijfgdffhjaa", sum := "fa3c132f44765541d78fa5c93ed131a6dc7b2fb954c2c3403a7569aaabe1ae6c", func := "loop.example/g01135/laws.FnExactMajorityNet", spec := "fnExactMajorityNet", apart := false }
def FnExactMajorityNetSaid : Prop := fnExactMajorityNetRow.holds Try.pinned (OpenSpec.ofChange fnExactMajorityNetSpec)

/-- ITS FALSE NEIGHBOUR: 'it returns false'. Refute it at one input. -/
def fnExactMajorityNetWrong : ChangeSpec := { name := "fnExactMajorityNet", fn := fun _ => fun
  | [d] => { results := [.lit (.bool false)], args := [d] }
  | _ => none }
def FnExactMajorityNetWrongFalsely : Prop := fnExactMajorityNetRow.holds Try.pinned (OpenSpec.ofChange fnExactMajorityNetWrong)

/-- 'laws.FnExactPairPlane': WHATEVER THE INPUT: true; the input reads as it did. -/
def fnExactPairPlaneSpec : ChangeSpec := { name := "fnExactPairPlane", fn := fun _ => fun
  | [d1, d2] => { results := [.lit (.bool true)], args := [d1, d2] }
  | _ => none }
def fnExactPairPlaneRow : OpenClaim := { program := "ytihnijfgdffhjaa", sum := "fa3c132f44765541d78fa5c93ed131a6dc7b2fb954c2c3403a7569aaabe1ae6c", func := "loop.example/g01135/laws.FnExactPairPlane", spec := "fnExactPairPlane", apart := false }
def FnExactPairPlaneSaid : Prop := fnExactPairPlaneRow.holds Try.pinned (OpenSpec.ofChange fnExactPairPlaneSpec)

/-- ITS FALSE NEIGHBOUR: 'it returns false'. Refute it at one input. -/
def fnExactPairPlaneWrong : ChangeSpec := { name := "fnExactPairPlane", fn := fun _ => fun
  | [d1, d2] => { results := [.lit (.bool false)], args := [d1, d2] }
  | _ => none }
def FnExactPairPlaneWrongFalsely : Prop := fnExactPairPlaneRow.holds Try.pinned (OpenSpec.ofChange fnExactPairPlaneWrong)

/-- 'laws.FnExactParityNet': WHATEVER THE INPUT: true; the input reads as it did. -/
def fnExactParityNetSpec : ChangeSpec := { name := "fnExactParityNet", fn := fun _ => fun
  | [d] => { results := [.lit (.bool true)], args := [d] }
  | _ => none }
def fnExactParityNetRow : OpenClaim := { program := "ytihnijfgdffhjaa", sum := "fa3c132f44765541d78fa5c93ed131a6dc7b2fb954c2c3403a7569aaabe1ae6c", func := "loop.example/g01135/laws.FnExactParityNet", spec := "fnExactParityNet", apart := false }
def FnExactParityNetSaid : Prop := fnExactParityNetRow.holds Try.pinned (OpenSpec.ofChange fnExactParityNetSpec)

/-- ITS FALSE NEIGHBOUR: 'it returns false'. Refute it at one input. -/
def fnExactParityNetWrong : ChangeSpec := { name := "fnExactParityNet", fn := fun _ => fun
  | [d] => { results := [.lit (.bool false)], args := [d] }
  | _ => none }
def FnExactParityNetWrongFalsely : Prop := fnExactParityNetRow.holds Try.pinned (OpenSpec.ofChange fnExactParityNetWrong)

/-- 'laws.FnExactJurySide': WHATEVER THE INPUT: true; the input reads as it did. -/
def fnExactJurySideSpec : ChangeSpec := { name := "fnExactJurySide", fn := fun _ => fun
  | [d1, d2] => { results := [.lit (.bool true)], args := [d1, d2] }
  | _ => none }
def fnExactJurySideRow : OpenClaim := { program := "ytihnijfgdffhjaa", sum := "fa3c132f44765541d78fa5c93ed131a6dc7b2fb954c2c3403a7569aaabe1ae6c", func := "loop.example/g01135/laws.FnExactJurySide", spec := "fnExactJurySide", apart := false }
def FnExactJurySideSaid : Prop := fnExactJurySideRow.holds Try.pinned (OpenSpec.ofChange fnExactJurySideSpec)

/-- ITS FALSE NEIGHBOUR: 'it returns false'. Refute it at one input. -/
def fnExactJurySideWrong : ChangeSpec := { name := "fnExactJurySide", fn := fun _ => fun
  | [d1, d2] => { results := [.lit (.bool false)], args := [d1, d2] }
  | _ => none }
def FnExactJurySideWrongFalsely : Prop := fnExactJurySideRow.holds Try.pinned (OpenSpec.ofChange fnExactJurySideWrong)

/-- 'laws.FnExactUniformHefts': WHATEVER THE INPUT: true; the input reads as it did. -/
def fnExactUniformHeftsSpec : ChangeSpec := { name := "fnExactUniformHefts", fn := fun _ => fun
  | [d1, d2] => { results := [.lit (.bool true)], args := [d1, d2] }
  | _ => none }
def fnExactUniformHeftsRow : OpenClaim := { program := "ytihnijfgdffhjaa", sum := "fa3c132f44765541d78fa5c93ed131a6dc7b2fb954c2c3403a7569aaabe1ae6c", func := "loop.example/g01135/laws.FnExactUniformHefts", spec := "fnExactUniformHefts", apart := false }
def FnExactUniformHeftsSaid : Prop := fnExactUniformHeftsRow.holds Try.pinned (OpenSpec.ofChange fnExactUniformHeftsSpec)

/-- ITS FALSE NEIGHBOUR: 'it returns false'. Refute it at one input. -/
def fnExactUniformHeftsWrong : ChangeSpec := { name := "fnExactUniformHefts", fn := fun _ => fun
  | [d1, d2] => { results := [.lit (.bool false)], args := [d1, d2] }
  | _ => none }
def FnExactUniformHeftsWrongFalsely : Prop := fnExactUniformHeftsRow.holds Try.pinned (OpenSpec.ofChange fnExactUniformHeftsWrong)

/-- 'laws.FnExactIsNet': WHATEVER THE INPUT: true; the input reads as it did. -/
def fnExactIsNetSpec : ChangeSpec := { name := "fnExactIsNet", fn := fun _ => fun
  | [d] => { results := [.lit (.bool true)], args := [d] }
  | _ => none }
def fnExactIsNetRow : OpenClaim := { program := "ytihnijfgdffhjaa", sum := "fa3c132f44765541d78fa5c93ed131a6dc7b2fb954c2c3403a7569aaabe1ae6c", func := "loop.example/g01135/laws.FnExactIsNet", spec := "fnExactIsNet", apart := false }
def FnExactIsNetSaid : Prop := fnExactIsNetRow.holds Try.pinned (OpenSpec.ofChange fnExactIsNetSpec)

/-- ITS FALSE NEIGHBOUR: 'it returns false'. Refute it at one input. -/
def fnExactIsNetWrong : ChangeSpec := { name := "fnExactIsNet", fn := fun _ => fun
  | [d] => { results := [.lit (.bool false)], args := [d] }
  | _ => none }
def FnExactIsNetWrongFalsely : Prop := fnExactIsNetRow.holds Try.pinned (OpenSpec.ofChange fnExactIsNetWrong)

/- THE SECOND FORM. 'bulk': how many values and letters a reading holds, each counted each time it is reached (what is shared counts as often as it is met; a slice's spare places count too). A statement '..UptoSaid' is the law's where the arguments, and the package variables that the reading takes, are together of bulk at most 1048576: NARROWER than '..Said'. Prove '..Said' where nothing that the law and all that it calls make is longer than what came in: it says more and counts as full. Else prove '..UptoSaid'. A law counts once. -/
mutual
def uptoBulk {H : Type} : DataW H → Nat
  | .lit (.string bytes) => bytes.length + 1
  | .lit _ => 1
  | .nil => 1
  | .ptr d => uptoBulk d + 1
  | .slice elems spare => uptoBulkAll elems + uptoBulkAll spare + 1
  | .agg parts => uptoBulkAll parts + 1
  | .iface _ d => uptoBulk d + 1
  | .map entries => uptoBulkEntries entries + 1
  | .held _ => 1
def uptoBulkAll {H : Type} : List (DataW H) → Nat
  | [] => 0
  | d :: r => uptoBulk d + uptoBulkAll r
def uptoBulkEntries {H : Type} : List (Lit × DataW H) → Nat
  | [] => 0
  | x :: r => uptoBulkEntry x + uptoBulkEntries r
def uptoBulkEntry {H : Type} : Lit × DataW H → Nat
  | (.string bytes, d) => bytes.length + uptoBulk d + 1
  | (_, d) => uptoBulk d + 1
 end
def uptoSmall : (H : Type) → List (DataW H) → Bool := fun _ ds => decide (uptoBulkAll ds ≤ 1048576)
def OpenSpec.upto (s : _root_.Go.ChangeSpec) : _root_.Go.OpenSpec := { _root_.Go.OpenSpec.ofChange s with cond := some uptoSmall }

/-- 'laws.FnExactIsLives', WHERE WHAT IT READS IS OF BULK AT MOST 1048576: true; the input reads as it did. -/
def fnExactIsLivesUptoRow : OpenClaim := { program := "ytihnijfgdffhjaa", sum := "fa3c132f44765541d78fa5c93ed131a6dc7b2fb954c2c3403a7569aaabe1ae6c", func := "loop.example/g01135/laws.FnExactIsLives", spec := "fnExactIsLives", apart := false, narrowed := true }
def FnExactIsLivesUptoSaid : Prop := fnExactIsLivesUptoRow.holds Try.pinned (OpenSpec.upto fnExactIsLivesSpec)

/-- 'laws.FnExactKernelOf', WHERE WHAT IT READS IS OF BULK AT MOST 1048576: true; the input reads as it did. -/
def fnExactKernelOfUptoRow : OpenClaim := { program := "ytihnijfgdffhjaa", sum := "fa3c132f44765541d78fa5c93ed131a6dc7b2fb954c2c3403a7569aaabe1ae6c", func := "loop.example/g01135/laws.FnExactKernelOf", spec := "fnExactKernelOf", apart := false, narrowed := true }
def FnExactKernelOfUptoSaid : Prop := fnExactKernelOfUptoRow.holds Try.pinned (OpenSpec.upto fnExactKernelOfSpec)

/-- 'laws.FnExactIsStump', WHERE WHAT IT READS IS OF BULK AT MOST 1048576: true; the input reads as it did. -/
def fnExactIsStumpUptoRow : OpenClaim := { program := "ytihnijfgdffhjaa", sum := "fa3c132f44765541d78fa5c93ed131a6dc7b2fb954c2c3403a7569aaabe1ae6c", func := "loop.example/g01135/laws.FnExactIsStump", spec := "fnExactIsStump", apart := false, narrowed := true }
def FnExactIsStumpUptoSaid : Prop := fnExactIsStumpUptoRow.holds Try.pinned (OpenSpec.upto fnExactIsStumpSpec)

/-- 'laws.FnExactCompareNet', WHERE WHAT IT READS IS OF BULK AT MOST 1048576: true; the input reads as it did. -/
def fnExactCompareNetUptoRow : OpenClaim := { program := "ytihnijfgdffhjaa", sum := "fa3c132f44765541d78fa5c93ed131a6dc7b2fb954c2c3403a7569aaabe1ae6c", func := "loop.example/g01135/laws.FnExactCompareNet", spec := "fnExactCompareNet", apart := false, narrowed := true }
def FnExactCompareNetUptoSaid : Prop := fnExactCompareNetUptoRow.holds Try.pinned (OpenSpec.upto fnExactCompareNetSpec)

/-- 'laws.FnExactChoiceSide', WHERE WHAT IT READS IS OF BULK AT MOST 1048576: true; the input reads as it did. -/
def fnExactChoiceSideUptoRow : OpenClaim := { program := "ytihnijfgdffhjaa", sum := "fa3c132f44765541d78fa5c93ed131a6dc7b2fb954c2c3403a7569aaabe1ae6c", func := "loop.example/g01135/laws.FnExactChoiceSide", spec := "fnExactChoiceSide", apart := false, narrowed := true }
def FnExactChoiceSideUptoSaid : Prop := fnExactChoiceSideUptoRow.holds Try.pinned (OpenSpec.upto fnExactChoiceSideSpec)

/-- 'laws.FnExactIsPanel', WHERE WHAT IT READS IS OF BULK AT MOST 1048576: true; the input reads as it did. -/
def fnExactIsPanelUptoRow : OpenClaim := { program := "ytihnijfgdffhjaa", sum := "fa3c132f44765541d78fa5c93ed131a6dc7b2fb954c2c3403a7569aaabe1ae6c", func := "loop.example/g01135/laws.FnExactIsPanel", spec := "fnExactIsPanel", apart := false, narrowed := true }
def FnExactIsPanelUptoSaid : Prop := fnExactIsPanelUptoRow.holds Try.pinned (OpenSpec.upto fnExactIsPanelSpec)

/-- 'laws.FnExactMajorityNet', WHERE WHAT IT READS IS OF BULK AT MOST 1048576: true; the input reads as it did. -/
def fnExactMajorityNetUptoRow : OpenClaim := { program := "ytihnijfgdffhjaa", sum := "fa3c132f44765541d78fa5c93ed131a6dc7b2fb954c2c3403a7569aaabe1ae6c", func := "loop.example/g01135/laws.FnExactMajorityNet", spec := "fnExactMajorityNet", apart := false, narrowed := true }
def FnExactMajorityNetUptoSaid : Prop := fnExactMajorityNetUptoRow.holds Try.pinned (OpenSpec.upto fnExactMajorityNetSpec)

/-- 'laws.FnExactPairPlane', WHERE WHAT IT READS IS OF BULK AT MOST 1048576: true; the input reads as it did. -/
def fnExactPairPlaneUptoRow : OpenClaim := { program := "ytihnijfgdffhjaa", sum := "fa3c132f44765541d78fa5c93ed131a6dc7b2fb954c2c3403a7569aaabe1ae6c", func := "loop.example/g01135/laws.FnExactPairPlane", spec := "fnExactPairPlane", apart := false, narrowed := true }
def FnExactPairPlaneUptoSaid : Prop := fnExactPairPlaneUptoRow.holds Try.pinned (OpenSpec.upto fnExactPairPlaneSpec)

/-- 'laws.FnExactParityNet', WHERE WHAT IT READS IS OF BULK AT MOST 1048576: true; the input reads as it did. -/
def fnExactParityNetUptoRow : OpenClaim := { program := "ytihnijfgdffhjaa", sum := "fa3c132f44765541d78fa5c93ed131a6dc7b2fb954c2c3403a7569aaabe1ae6c", func := "loop.example/g01135/laws.FnExactParityNet", spec := "fnExactParityNet", apart := false, narrowed := true }
def FnExactParityNetUptoSaid : Prop := fnExactParityNetUptoRow.holds Try.pinned (OpenSpec.upto fnExactParityNetSpec)

/-- 'laws.FnExactJurySide', WHERE WHAT IT READS IS OF BULK AT MOST 1048576: true; the input reads as it did. -/
def fnExactJurySideUptoRow : OpenClaim := { program := "ytihnijfgdffhjaa", sum := "fa3c132f44765541d78fa5c93ed131a6dc7b2fb954c2c3403a7569aaabe1ae6c", func := "loop.example/g01135/laws.FnExactJurySide", spec := "fnExactJurySide", apart := false, narrowed := true }
def FnExactJurySideUptoSaid : Prop := fnExactJurySideUptoRow.holds Try.pinned (OpenSpec.upto fnExactJurySideSpec)

/-- 'laws.FnExactUniformHefts', WHERE WHAT IT READS IS OF BULK AT MOST 1048576: true; the input reads as it did. -/
def fnExactUniformHeftsUptoRow : OpenClaim := { program := "ytihnijfgdffhjaa", sum := "fa3c132f44765541d78fa5c93ed131a6dc7b2fb954c2c3403a7569aaabe1ae6c", func := "loop.example/g01135/laws.FnExactUniformHefts", spec := "fnExactUniformHefts", apart := false, narrowed := true }
def FnExactUniformHeftsUptoSaid : Prop := fnExactUniformHeftsUptoRow.holds Try.pinned (OpenSpec.upto fnExactUniformHeftsSpec)

/-- 'laws.FnExactIsNet', WHERE WHAT IT READS IS OF BULK AT MOST 1048576: true; the input reads as it did. -/
def fnExactIsNetUptoRow : OpenClaim := { program := "ytihnijfgdffhjaa", sum := "fa3c132f44765541d78fa5c93ed131a6dc7b2fb954c2c3403a7569aaabe1ae6c", func := "loop.example/g01135/laws.FnExactIsNet", spec := "fnExactIsNet", apart := false, narrowed := true }
def FnExactIsNetUptoSaid : Prop := fnExactIsNetUptoRow.holds Try.pinned (OpenSpec.upto fnExactIsNetSpec)

end Rows
end Go.Proofs.Ytihnijfgdffhjaa
