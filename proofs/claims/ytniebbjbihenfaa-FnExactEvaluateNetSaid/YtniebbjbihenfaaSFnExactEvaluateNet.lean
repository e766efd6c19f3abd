import Derived.Test.YtniebbjbihenfaaLb
import Derived.Test.YtniebbjbihenfaaPFnExactEvaluateNetx
import Derived.Test.YtniebbjbihenfaaKFnExactEvaluateNet
namespace Go.Proofs.Ytniebbjbihenfaa.SFnExactEvaluateNet
open Go.RowKit Go.Proofs.Ytniebbjbihenfaa.KFnExactEvaluateNet Go.Proofs.Ytniebbjbihenfaa.PFnExactEvaluateNet Go.Proofs.YtniebbjbihenfaaW.PrintWords Go.Proofs.YtniebbjbihenfaaW.PrintLast Go.Proofs.YtniebbjbihenfaaW.PrintMore
set_option linter.unusedVariables false
/-- What is to be shown of numbers and lists alone: each way through the law, and what its calls come to. -/
def Pure : Prop := ∀ (a0_0 : Int) (l0_1 : List (List S37)) (l1 : List Int),
    (Lit.int .i64 a0_0).wf = true → (l0_1.length ≤ maxLen ∧ ∀ x ∈ l0_1, (x.length ≤ maxLen ∧ ∀ y ∈ x, ((y.f0.length ≤ maxLen ∧ ∀ z ∈ y.f0, (Lit.int .i64 z).wf = true) ∧ (Lit.int .i64 y.f1).wf = true))) → (l1.length ≤ maxLen ∧ ∀ x ∈ l1, (Lit.int .i64 x).wf = true) →
    (∃ (k : Nat), (1048576 < l1.length)) ∨
    (∃ (k : Nat) (r1 : Int), (laws_szNet.f k a0_0 l0_1 1048576 = some r1) ∧ (l1.length ≤ 1048576) ∧ (r1 < 0)) ∨
    (∃ (k : Nat) (r1 : Int) (r5 : Int) (r6 : List (List (S42))) (r8 : List Int) (r10 : List Int) (r11 : Bool) (r25 : Int) (r26 : List (List S42)) (r27 : Int) (r28 : List Int) (r29 : Int) (r30 : List Int), (laws_szNet.f k a0_0 l0_1 1048576 = some r1) ∧ (laws_toNet.f k a0_0 l0_1 = some (r5, r6)) ∧ (laws_toIntS.f k l1 = some r8) ∧ (spec_EvaluateNet.f k r5 r6 r8 = some (r10, r11)) ∧ (impl_EvaluateNet.f k r5 r6 r8 = some (r10, r11)) ∧ (laws_eqIntS.f k r10 r10 = some true) ∧ (laws_eqNet.f k r5 r6 r5 r6 = some true) ∧ (laws_eqIntS.f k r8 r8 = some true) ∧ (laws_markNet.f k r5 r6 1 = some (r25, r26)) ∧ (laws_markIntS.f k r8 r25 = some (r27, r28)) ∧ (laws_markIntS.f k r10 1 = some (r29, r30)) ∧ (laws_heldIntS.f k r30 1 = some r29) ∧ (l1.length ≤ 1048576) ∧ (0 ≤ r1) ∧ (0 ≤ r25) ∧ (0 ≤ r27) ∧ (0 ≤ r29))
end Go.Proofs.Ytniebbjbihenfaa.SFnExactEvaluateNet
