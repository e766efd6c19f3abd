import Derived.Test.YtfkfahdikmfpeaaLb
import Derived.Test.YtfkfahdikmfpeaaPFnExactBoostRoundsx
import Derived.Test.YtfkfahdikmfpeaaKFnExactBoostRounds
namespace Go.Proofs.Ytfkfahdikmfpeaa.SFnExactBoostRounds
open Go.RowKit Go.Proofs.Ytfkfahdikmfpeaa.KFnExactBoostRounds Go.Proofs.Ytfkfahdikmfpeaa.PFnExactBoostRounds Go.Proofs.YtfkfahdikmfpeaaW.PrintWords Go.Proofs.YtfkfahdikmfpeaaW.PrintLast Go.Proofs.YtfkfahdikmfpeaaW.PrintMore
set_option linter.unusedVariables false
/-- What is to be shown of numbers and lists alone: each way through the law, and what its calls come to. -/
def Pure : Prop := ∀ (l0_0 : List (List Int)) (l0_1 : List Int) (a1 : Int),
    (l0_0.length ≤ maxLen ∧ ∀ x ∈ l0_0, (x.length ≤ maxLen ∧ ∀ y ∈ x, (Lit.int .i64 y).wf = true)) → (l0_1.length ≤ maxLen ∧ ∀ x ∈ l0_1, (Lit.int .i64 x).wf = true) → (Lit.int .i64 a1).wf = true →
    (∃ (k : Nat) (r1 : Int), (laws_szSample.f k l0_0 l0_1 1048576 = some r1) ∧ (r1 < 0)) ∨
    (∃ (k : Nat) (r1 : Int) (r5 : List (List Int)) (r6 : List Int) (r9 : List (S39)) (r10 : List Int) (r11 : Bool) (r25 : Int) (r26 : List (List Int)) (r27 : List Int) (r28 : Int) (r29 : List S39) (r30 : Int) (r31 : List Int), (laws_szSample.f k l0_0 l0_1 1048576 = some r1) ∧ (laws_toSample.f k l0_0 l0_1 = some (r5, r6)) ∧ (spec_BoostRounds.f k r5 r6 a1 = some (r9, r10, r11)) ∧ (impl_BoostRounds.f k r5 r6 a1 = some (r9, r10, r11)) ∧ (laws_eqPlaneS.f k r9 r9 = some true) ∧ (laws_eqIntS.f k r10 r10 = some true) ∧ (laws_eqSample.f k r5 r6 r5 r6 = some true) ∧ (laws_markSample.f k r5 r6 1 = some (r25, r26, r27)) ∧ (laws_markPlaneS.f k r9 1 = some (r28, r29)) ∧ (laws_markIntS.f k r10 r28 = some (r30, r31)) ∧ (laws_heldPlaneS.f k r29 1 = some r28) ∧ (laws_heldIntS.f k r31 r28 = some r30) ∧ (0 ≤ r1) ∧ (0 ≤ r25) ∧ (0 ≤ r28) ∧ (0 ≤ r30))
end Go.Proofs.Ytfkfahdikmfpeaa.SFnExactBoostRounds
