import Derived.Test.YtihnijfgdffhjaaLb
import Derived.Test.YtihnijfgdffhjaaPFnExactJurySidex
namespace Go.Proofs.Ytihnijfgdffhjaa.SFnExactJurySide
open Go.RowKit  Go.Proofs.Ytihnijfgdffhjaa.PFnExactJurySide Go.Proofs.YtihnijfgdffhjaaW.PrintWords Go.Proofs.YtihnijfgdffhjaaW.PrintLast Go.Proofs.YtihnijfgdffhjaaW.PrintMore
set_option linter.unusedVariables false
/-- What is to be shown of numbers and lists alone: each way through the law, and what its calls come to. -/
def Pure : Prop := ∀ (l0 : List S30) (l1 : List Int),
    (l0.length ≤ maxLen ∧ ∀ x ∈ l0, ((x.f0.length ≤ maxLen ∧ ∀ y ∈ x.f0, (Lit.int .i64 y).wf = true) ∧ (Lit.int .i64 x.f1).wf = true)) → (l1.length ≤ maxLen ∧ ∀ x ∈ l1, (Lit.int .i64 x).wf = true) →
    (∃ (k : Nat), (1048576 < l1.length)) ∨
    (∃ (k : Nat) (r1 : Int), (laws_szPlaneS.f k l0 1048576 = some r1) ∧ (l1.length ≤ 1048576) ∧ (r1 < 0)) ∨
    (∃ (k : Nat) (r1 : Int) (r2 : List (S33)) (r4 : List Int) (r6 : Int) (r7 : Bool), (laws_szPlaneS.f k l0 1048576 = some r1) ∧ (laws_toPlaneS.f k l0 = some r2) ∧ (laws_toIntS.f k l1 = some r4) ∧ (spec_JurySide.f k r2 r4 = some (r6, r7)) ∧ (impl_JurySide.f k r2 r4 = some (r6, r7)) ∧ (laws_eqPlaneS.f k r2 r2 = some true) ∧ (laws_eqIntS.f k r4 r4 = some true) ∧ (l1.length ≤ 1048576) ∧ (0 ≤ r1))
end Go.Proofs.Ytihnijfgdffhjaa.SFnExactJurySide
