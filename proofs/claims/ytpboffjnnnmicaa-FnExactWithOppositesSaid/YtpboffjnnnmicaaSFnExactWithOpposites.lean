import Derived.Test.YtpboffjnnnmicaaLb
import Derived.Test.YtpboffjnnnmicaaPFnExactWithOppositesx
import Derived.Test.YtpboffjnnnmicaaKFnExactWithOpposites
namespace Go.Proofs.Ytpboffjnnnmicaa.SFnExactWithOpposites
open Go.RowKit Go.Proofs.Ytpboffjnnnmicaa.KFnExactWithOpposites Go.Proofs.Ytpboffjnnnmicaa.PFnExactWithOpposites Go.Proofs.YtpboffjnnnmicaaW.PrintWords Go.Proofs.YtpboffjnnnmicaaW.PrintLast Go.Proofs.YtpboffjnnnmicaaW.PrintMore
set_option linter.unusedVariables false
/-- What is to be shown of numbers and lists alone: each way through the law, and what its calls come to. -/
def Pure : Prop := ∀ (l0_0 : List (List Int)) (l0_1 : List Int),
    (l0_0.length ≤ maxLen ∧ ∀ x ∈ l0_0, (x.length ≤ maxLen ∧ ∀ y ∈ x, (Lit.int .i64 y).wf = true)) → (l0_1.length ≤ maxLen ∧ ∀ x ∈ l0_1, (Lit.int .i64 x).wf = true) →
    (∃ (k : Nat) (r1 : Int), (laws_szPanel.f k l0_0 l0_1 1048576 = some r1) ∧ (r1 < 0)) ∨
    (∃ (k : Nat) (r1 : Int) (r5 : List (List Int)) (r6 : List Int) (r9 : List (List Int)) (r10 : List Int) (r11 : Bool) (r31 : Int) (r32 : List (List Int)) (r33 : List Int) (r40 : Int) (r41 : List (List Int)) (r42 : List Int), (laws_szPanel.f k l0_0 l0_1 1048576 = some r1) ∧ (laws_toPanel.f k l0_0 l0_1 = some (r5, r6)) ∧ (spec_WithOpposites.f k r5 r6 = some (r9, r10, r11)) ∧ (impl_WithOpposites.f k r5 r6 = some (r9, r10, r11)) ∧ (laws_eqPanel.f k r9 r10 r9 r10 = some true) ∧ (laws_eqPanel.f k r5 r6 r5 r6 = some true) ∧ (laws_markPanel.f k r5 r6 1 = some (r31, r32, r33)) ∧ (laws_markPanel.f k r9 r10 1 = some (r40, r41, r42)) ∧ (laws_heldPanel.f k r41 r42 1 = some r40) ∧ (0 ≤ r1) ∧ (0 ≤ r31) ∧ (0 ≤ r40))
end Go.Proofs.Ytpboffjnnnmicaa.SFnExactWithOpposites
