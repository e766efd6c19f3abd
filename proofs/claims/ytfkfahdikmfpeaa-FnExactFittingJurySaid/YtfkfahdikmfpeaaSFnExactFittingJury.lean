import Derived.Test.YtfkfahdikmfpeaaLb
import Derived.Test.YtfkfahdikmfpeaaPFnExactFittingJuryx
import Derived.Test.YtfkfahdikmfpeaaKFnExactFittingJury
namespace Go.Proofs.Ytfkfahdikmfpeaa.SFnExactFittingJury
open Go.RowKit Go.Proofs.Ytfkfahdikmfpeaa.KFnExactFittingJury Go.Proofs.Ytfkfahdikmfpeaa.PFnExactFittingJury Go.Proofs.YtfkfahdikmfpeaaW.PrintWords Go.Proofs.YtfkfahdikmfpeaaW.PrintLast Go.Proofs.YtfkfahdikmfpeaaW.PrintMore
set_option linter.unusedVariables false
/-- What is to be shown of numbers and lists alone: each way through the law, and what its calls come to. -/
def Pure : Prop := ∀ (l0_0 : List (List Int)) (l0_1 : List Int) (a1 : Int),
    (l0_0.length ≤ maxLen ∧ ∀ x ∈ l0_0, (x.length ≤ maxLen ∧ ∀ y ∈ x, (Lit.int .i64 y).wf = true)) → (l0_1.length ≤ maxLen ∧ ∀ x ∈ l0_1, (Lit.int .i64 x).wf = true) → (Lit.int .i64 a1).wf = true →
    (∃ (k : Nat) (r1 : Int), (laws_szSample.f k l0_0 l0_1 1048576 = some r1) ∧ (r1 < 0)) ∨
    (∃ (k : Nat) (r1 : Int) (r5 : List (List Int)) (r6 : List Int) (r9 : List (S39)) (r10 : Bool) (r22 : Int) (r23 : List (List Int)) (r24 : List Int) (r25 : Int) (r26 : List S39), (laws_szSample.f k l0_0 l0_1 1048576 = some r1) ∧ (laws_toSample.f k l0_0 l0_1 = some (r5, r6)) ∧ (spec_FittingJury.f k r5 r6 a1 = some (r9, r10)) ∧ (impl_FittingJury.f k r5 r6 a1 = some (r9, r10)) ∧ (laws_eqPlaneS.f k r9 r9 = some true) ∧ (laws_eqSample.f k r5 r6 r5 r6 = some true) ∧ (laws_markSample.f k r5 r6 1 = some (r22, r23, r24)) ∧ (laws_markPlaneS.f k r9 1 = some (r25, r26)) ∧ (laws_heldPlaneS.f k r26 1 = some r25) ∧ (0 ≤ r1) ∧ (0 ≤ r22) ∧ (0 ≤ r25))
end Go.Proofs.Ytfkfahdikmfpeaa.SFnExactFittingJury
