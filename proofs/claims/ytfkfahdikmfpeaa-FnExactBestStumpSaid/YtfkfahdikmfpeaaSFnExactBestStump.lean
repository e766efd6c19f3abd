import Derived.Test.YtfkfahdikmfpeaaLb
import Derived.Test.YtfkfahdikmfpeaaPFnExactBestStumpx
import Derived.Test.YtfkfahdikmfpeaaKFnExactBestStump
namespace Go.Proofs.Ytfkfahdikmfpeaa.SFnExactBestStump
open Go.RowKit Go.Proofs.Ytfkfahdikmfpeaa.KFnExactBestStump Go.Proofs.Ytfkfahdikmfpeaa.PFnExactBestStump Go.Proofs.YtfkfahdikmfpeaaW.PrintWords Go.Proofs.YtfkfahdikmfpeaaW.PrintLast Go.Proofs.YtfkfahdikmfpeaaW.PrintMore
set_option linter.unusedVariables false
/-- What is to be shown of numbers and lists alone: each way through the law, and what its calls come to. -/
def Pure : Prop := ∀ (l0_0 : List (List Int)) (l0_1 : List Int) (l1 : List Int),
    (l0_0.length ≤ maxLen ∧ ∀ x ∈ l0_0, (x.length ≤ maxLen ∧ ∀ y ∈ x, (Lit.int .i64 y).wf = true)) → (l0_1.length ≤ maxLen ∧ ∀ x ∈ l0_1, (Lit.int .i64 x).wf = true) → (l1.length ≤ maxLen ∧ ∀ x ∈ l1, (Lit.int .i64 x).wf = true) →
    (∃ (k : Nat), (1048576 < l1.length)) ∨
    (∃ (k : Nat) (r1 : Int), (laws_szSample.f k l0_0 l0_1 1048576 = some r1) ∧ (l1.length ≤ 1048576) ∧ (r1 < 0)) ∨
    (∃ (k : Nat) (r1 : Int) (r5 : List (List Int)) (r6 : List Int) (r9 : List Int) (r11 : List Int) (r12 : Int) (r13 : Bool) (r35 : Int) (r36 : List (List Int)) (r37 : List Int) (r38 : Int) (r39 : List Int) (r46 : Int) (r47 : List Int), (laws_szSample.f k l0_0 l0_1 1048576 = some r1) ∧ (laws_toSample.f k l0_0 l0_1 = some (r5, r6)) ∧ (laws_toIntS.f k l1 = some r9) ∧ (spec_BestStump.f k r5 r6 r9 = some (r11, r12, r13)) ∧ (impl_BestStump.f k r5 r6 r9 = some (r11, r12, r13)) ∧ (laws_eqPlane.f k r11 r12 r11 r12 = some true) ∧ (laws_eqSample.f k r5 r6 r5 r6 = some true) ∧ (laws_eqIntS.f k r9 r9 = some true) ∧ (laws_markSample.f k r5 r6 1 = some (r35, r36, r37)) ∧ (laws_markIntS.f k r9 r35 = some (r38, r39)) ∧ (laws_markPlane.f k r11 r12 1 = some (r46, r47)) ∧ (laws_heldPlane.f k r47 r12 1 = some r46) ∧ (l1.length ≤ 1048576) ∧ (0 ≤ r1) ∧ (0 ≤ r35) ∧ (0 ≤ r38) ∧ (0 ≤ r46))
end Go.Proofs.Ytfkfahdikmfpeaa.SFnExactBestStump
