import Derived.Test.YtihhedemdkifhaaLb
import Derived.Test.YtihhedemdkifhaaPFnExactKeepsLabelsx
import Derived.Test.YtihhedemdkifhaaKFnExactKeepsLabels
namespace Go.Proofs.Ytihhedemdkifhaa.SFnExactKeepsLabels
open Go.RowKit Go.Proofs.Ytihhedemdkifhaa.KFnExactKeepsLabels Go.Proofs.Ytihhedemdkifhaa.PFnExactKeepsLabels Go.Proofs.YtihhedemdkifhaaW.PrintWords Go.Proofs.YtihhedemdkifhaaW.PrintLast Go.Proofs.YtihhedemdkifhaaW.PrintMore
set_option linter.unusedVariables false
/-- What is to be shown of numbers and lists alone: each way through the law, and what its calls come to. -/
def Pure : Prop := ∀ (l0_0 : List (List Int)) (l0_1 : List Int) (l1 : List Int),
    (l0_0.length ≤ maxLen ∧ ∀ x ∈ l0_0, (x.length ≤ maxLen ∧ ∀ y ∈ x, (Lit.int .i64 y).wf = true)) → (l0_1.length ≤ maxLen ∧ ∀ x ∈ l0_1, (Lit.int .i64 x).wf = true) → (l1.length ≤ maxLen ∧ ∀ x ∈ l1, (Lit.int .i64 x).wf = true) →
    (∃ (k : Nat), (1048576 < l1.length)) ∨
    (∃ (k : Nat) (r1 : Int), (laws_szSample.f k l0_0 l0_1 1048576 = some r1) ∧ (l1.length ≤ 1048576) ∧ (r1 < 0)) ∨
    (∃ (k : Nat) (r1 : Int) (r5 : List (List Int)) (r6 : List Int) (r9 : List Int) (r11 : Bool) (r12 : Bool), (laws_szSample.f k l0_0 l0_1 1048576 = some r1) ∧ (laws_toSample.f k l0_0 l0_1 = some (r5, r6)) ∧ (laws_toIntS.f k l1 = some r9) ∧ (spec_KeepsLabels.f k r5 r6 r9 = some (r11, r12)) ∧ (impl_KeepsLabels.f k r5 r6 r9 = some (r11, r12)) ∧ (laws_eqSample.f k r5 r6 r5 r6 = some true) ∧ (laws_eqIntS.f k r9 r9 = some true) ∧ (l1.length ≤ 1048576) ∧ (0 ≤ r1))
end Go.Proofs.Ytihhedemdkifhaa.SFnExactKeepsLabels
