import Derived.Test.YtniebbjbihenfaaLb
import Derived.Test.YtniebbjbihenfaaPFnExactMeanPlanex
import Derived.Test.YtniebbjbihenfaaKFnExactMeanPlane
namespace Go.Proofs.Ytniebbjbihenfaa.SFnExactMeanPlane
open Go.RowKit Go.Proofs.Ytniebbjbihenfaa.KFnExactMeanPlane Go.Proofs.Ytniebbjbihenfaa.PFnExactMeanPlane Go.Proofs.YtniebbjbihenfaaW.PrintWords Go.Proofs.YtniebbjbihenfaaW.PrintLast Go.Proofs.YtniebbjbihenfaaW.PrintMore
set_option linter.unusedVariables false
/-- What is to be shown of numbers and lists alone: each way through the law, and what its calls come to. -/
def Pure : Prop := ∀ (l0_0 : List (List Int)) (l0_1 : List Int),
    (l0_0.length ≤ maxLen ∧ ∀ x ∈ l0_0, (x.length ≤ maxLen ∧ ∀ y ∈ x, (Lit.int .i64 y).wf = true)) → (l0_1.length ≤ maxLen ∧ ∀ x ∈ l0_1, (Lit.int .i64 x).wf = true) →
    (∃ (k : Nat) (r1 : Int), (laws_szSample.f k l0_0 l0_1 1048576 = some r1) ∧ (r1 < 0)) ∨
    (∃ (k : Nat) (r1 : Int) (r5 : List (List Int)) (r6 : List Int) (r9 : List Int) (r10 : Int) (r11 : Bool) (r23 : Int) (r24 : List (List Int)) (r25 : List Int) (r26 : Int) (r27 : List Int), (laws_szSample.f k l0_0 l0_1 1048576 = some r1) ∧ (laws_toSample.f k l0_0 l0_1 = some (r5, r6)) ∧ (spec_MeanPlane.f k r5 r6 = some (r9, r10, r11)) ∧ (impl_MeanPlane.f k r5 r6 = some (r9, r10, r11)) ∧ (laws_eqIntS.f k r9 r9 = some true) ∧ (laws_eqSample.f k r5 r6 r5 r6 = some true) ∧ (laws_markSample.f k r5 r6 1 = some (r23, r24, r25)) ∧ (laws_markIntS.f k r9 1 = some (r26, r27)) ∧ (laws_heldIntS.f k r27 1 = some r26) ∧ (0 ≤ r1) ∧ (0 ≤ r23) ∧ (0 ≤ r26))
end Go.Proofs.Ytniebbjbihenfaa.SFnExactMeanPlane
