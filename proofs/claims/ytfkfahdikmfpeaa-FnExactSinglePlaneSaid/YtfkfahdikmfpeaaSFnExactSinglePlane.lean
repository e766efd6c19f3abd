import Derived.Test.YtfkfahdikmfpeaaLb
import Derived.Test.YtfkfahdikmfpeaaPFnExactSinglePlanex
import Derived.Test.YtfkfahdikmfpeaaKFnExactSinglePlane
namespace Go.Proofs.Ytfkfahdikmfpeaa.SFnExactSinglePlane
open Go.RowKit Go.Proofs.Ytfkfahdikmfpeaa.KFnExactSinglePlane Go.Proofs.Ytfkfahdikmfpeaa.PFnExactSinglePlane Go.Proofs.YtfkfahdikmfpeaaW.PrintWords Go.Proofs.YtfkfahdikmfpeaaW.PrintLast Go.Proofs.YtfkfahdikmfpeaaW.PrintMore
set_option linter.unusedVariables false
/-- What is to be shown of numbers and lists alone: each way through the law, and what its calls come to. -/
def Pure : Prop := ∀ (a0_0 : Int) (l0_1 : List (List S146)),
    (Lit.int .i64 a0_0).wf = true → (l0_1.length ≤ maxLen ∧ ∀ x ∈ l0_1, (x.length ≤ maxLen ∧ ∀ y ∈ x, ((y.f0.length ≤ maxLen ∧ ∀ z ∈ y.f0, (Lit.int .i64 z).wf = true) ∧ (Lit.int .i64 y.f1).wf = true))) →
    (∃ (k : Nat) (r1 : Int), (laws_szNet.f k a0_0 l0_1 1048576 = some r1) ∧ (r1 < 0)) ∨
    (∃ (k : Nat) (r1 : Int) (r5 : Int) (r6 : List (List (S39))) (r8 : List Int) (r9 : Int) (r10 : Bool) (r26 : Int) (r27 : List (List S39)) (r34 : Int) (r35 : List Int), (laws_szNet.f k a0_0 l0_1 1048576 = some r1) ∧ (laws_toNet.f k a0_0 l0_1 = some (r5, r6)) ∧ (spec_SinglePlane.f k r5 r6 = some (r8, r9, r10)) ∧ (impl_SinglePlane.f k r5 r6 = some (r8, r9, r10)) ∧ (laws_eqPlane.f k r8 r9 r8 r9 = some true) ∧ (laws_eqNet.f k r5 r6 r5 r6 = some true) ∧ (laws_markNet.f k r5 r6 1 = some (r26, r27)) ∧ (laws_markPlane.f k r8 r9 1 = some (r34, r35)) ∧ (laws_heldPlane.f k r35 r9 1 = some r34) ∧ (0 ≤ r1) ∧ (0 ≤ r26) ∧ (0 ≤ r34))
end Go.Proofs.Ytfkfahdikmfpeaa.SFnExactSinglePlane
