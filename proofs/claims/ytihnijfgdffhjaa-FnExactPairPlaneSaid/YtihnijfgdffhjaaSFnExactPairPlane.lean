import Derived.Test.YtihnijfgdffhjaaLb
import Derived.Test.YtihnijfgdffhjaaPFnExactPairPlanex
namespace Go.Proofs.Ytihnijfgdffhjaa.SFnExactPairPlane
open Go.RowKit  Go.Proofs.Ytihnijfgdffhjaa.PFnExactPairPlane Go.Proofs.YtihnijfgdffhjaaW.PrintWords Go.Proofs.YtihnijfgdffhjaaW.PrintLast Go.Proofs.YtihnijfgdffhjaaW.PrintMore
set_option linter.unusedVariables false
/-- What is to be shown of numbers and lists alone: each way through the law, and what its calls come to. -/
def Pure : Prop := ∀ (l0 : List Int) (l1 : List Int),
    (l0.length ≤ maxLen ∧ ∀ x ∈ l0, (Lit.int .i64 x).wf = true) → (l1.length ≤ maxLen ∧ ∀ x ∈ l1, (Lit.int .i64 x).wf = true) →
    (∃ (k : Nat), (1048576 < l0.length)) ∨
    (∃ (k : Nat), (l0.length ≤ 1048576) ∧ (1048576 < l1.length)) ∨
    (∃ (k : Nat) (r1 : List Int) (r3 : List Int) (r5 : List Int) (r6 : Int) (r7 : Bool) (r19 : Int) (r20 : List Int) (r21 : Int) (r22 : List Int) (r29 : Int) (r30 : List Int), (laws_toIntS.f k l0 = some r1) ∧ (laws_toIntS.f k l1 = some r3) ∧ (spec_PairPlane.f k r1 r3 = some (r5, r6, r7)) ∧ (impl_PairPlane.f k r1 r3 = some (r5, r6, r7)) ∧ (laws_eqPlane.f k r5 r6 r5 r6 = some true) ∧ (laws_eqIntS.f k r1 r1 = some true) ∧ (laws_eqIntS.f k r3 r3 = some true) ∧ (laws_markIntS.f k r1 1 = some (r19, r20)) ∧ (laws_markIntS.f k r3 r19 = some (r21, r22)) ∧ (laws_markPlane.f k r5 r6 1 = some (r29, r30)) ∧ (laws_heldPlane.f k r30 r6 1 = some r29) ∧ (l0.length ≤ 1048576) ∧ (l1.length ≤ 1048576) ∧ (0 ≤ r19) ∧ (0 ≤ r21) ∧ (0 ≤ r29))
end Go.Proofs.Ytihnijfgdffhjaa.SFnExactPairPlane
