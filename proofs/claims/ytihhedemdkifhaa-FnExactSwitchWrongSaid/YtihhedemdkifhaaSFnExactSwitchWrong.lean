import Derived.Test.YtihhedemdkifhaaLb
import Derived.Test.YtihhedemdkifhaaPFnExactSwitchWrongx
import Derived.Test.YtihhedemdkifhaaKFnExactSwitchWrong
namespace Go.Proofs.Ytihhedemdkifhaa.SFnExactSwitchWrong
open Go.RowKit Go.Proofs.Ytihhedemdkifhaa.KFnExactSwitchWrong Go.Proofs.Ytihhedemdkifhaa.PFnExactSwitchWrong Go.Proofs.YtihhedemdkifhaaW.PrintWords Go.Proofs.YtihhedemdkifhaaW.PrintLast Go.Proofs.YtihhedemdkifhaaW.PrintMore
set_option linter.unusedVariables false
/-- What is to be shown of numbers and lists alone: each way through the law, and what its calls come to. -/
def Pure : Prop := ∀ (l0_0 : List (List Int)) (l0_1 : List Int) (a1 : Int),
    (l0_0.length ≤ maxLen ∧ ∀ x ∈ l0_0, (x.length ≤ maxLen ∧ ∀ y ∈ x, (Lit.int .i64 y).wf = true)) → (l0_1.length ≤ maxLen ∧ ∀ x ∈ l0_1, (Lit.int .i64 x).wf = true) → (Lit.int .i64 a1).wf = true →
    (∃ (k : Nat) (r1 : Int), (laws_szPanel.f k l0_0 l0_1 1048576 = some r1) ∧ (r1 < 0)) ∨
    (∃ (k : Nat) (r1 : Int) (r5 : List (List Int)) (r6 : List Int) (r9 : Int) (r10 : Bool), (laws_szPanel.f k l0_0 l0_1 1048576 = some r1) ∧ (laws_toPanel.f k l0_0 l0_1 = some (r5, r6)) ∧ (spec_SwitchWrong.f k r5 r6 a1 = some (r9, r10)) ∧ (impl_SwitchWrong.f k r5 r6 a1 = some (r9, r10)) ∧ (laws_eqPanel.f k r5 r6 r5 r6 = some true) ∧ (0 ≤ r1))
end Go.Proofs.Ytihhedemdkifhaa.SFnExactSwitchWrong
