import Derived.Test.YtniebbjbihenfaaLb
import Derived.Test.YtniebbjbihenfaaPFnExactWeightedMistakesx
namespace Go.Proofs.Ytniebbjbihenfaa.SFnExactWeightedMistakes
open Go.RowKit Go.Proofs.Ytniebbjbihenfaa.PFnExactWeightedMistakes Go.Proofs.YtniebbjbihenfaaW.PrintWords Go.Proofs.YtniebbjbihenfaaW.PrintLast Go.Proofs.YtniebbjbihenfaaW.PrintMore
set_option linter.unusedVariables false
/-- What is to be shown of numbers and lists alone: each way through the law, and what its calls come to. -/
def Pure : Prop := ∀ (l0_0 : List (List Int)) (l0_1 : List Int) (l1 : List Int) (l2_0 : List Int) (a2_1 : Int),
    (l0_0.length ≤ maxLen ∧ ∀ x ∈ l0_0, (x.length ≤ maxLen ∧ ∀ y ∈ x, (Lit.int .i64 y).wf = true)) → (l0_1.length ≤ maxLen ∧ ∀ x ∈ l0_1, (Lit.int .i64 x).wf = true) → (l1.length ≤ maxLen ∧ ∀ x ∈ l1, (Lit.int .i64 x).wf = true) → (l2_0.length ≤ maxLen ∧ ∀ x ∈ l2_0, (Lit.int .i64 x).wf = true) → (Lit.int .i64 a2_1).wf = true →
    (∃ (k : Nat), (1048576 < l1.length)) ∨
    (∃ (k : Nat) (r1 : Int), (laws_szSample.f k l0_0 l0_1 1048576 = some r1) ∧ (l1.length ≤ 1048576) ∧ (r1 < 0)) ∨
    (∃ (k : Nat) (r1 : Int) (r6 : Int), (laws_szSample.f k l0_0 l0_1 1048576 = some r1) ∧ (laws_szPlane.f l2_0 a2_1 r1 = some r6) ∧ (l1.length ≤ 1048576) ∧ (0 ≤ r1) ∧ (r6 < 0)) ∨
    (∃ (k : Nat) (r1 : Int) (r6 : Int) (r7 : List (List Int)) (r8 : List Int) (r11 : List Int) (r13 : List Int) (r14 : Int) (r16 : Int) (r17 : Bool), (laws_szSample.f k l0_0 l0_1 1048576 = some r1) ∧ (laws_szPlane.f l2_0 a2_1 r1 = some r6) ∧ (laws_toSample.f k l0_0 l0_1 = some (r7, r8)) ∧ (laws_toIntS.f k l1 = some r11) ∧ (laws_toPlane.f k l2_0 a2_1 = some (r13, r14)) ∧ (spec_WeightedMistakes.f k r7 r8 r11 r13 r14 = some (r16, r17)) ∧ (impl_WeightedMistakes.f k r7 r8 r11 r13 r14 = some (r16, r17)) ∧ (laws_eqSample.f k r7 r8 r7 r8 = some true) ∧ (laws_eqIntS.f k r11 r11 = some true) ∧ (laws_eqPlane.f k r13 r14 r13 r14 = some true) ∧ (l1.length ≤ 1048576) ∧ (0 ≤ r1) ∧ (0 ≤ r6))
end Go.Proofs.Ytniebbjbihenfaa.SFnExactWeightedMistakes
