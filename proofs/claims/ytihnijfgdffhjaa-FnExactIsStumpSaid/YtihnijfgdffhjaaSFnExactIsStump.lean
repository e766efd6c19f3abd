import Derived.Test.YtihnijfgdffhjaaLb
import Derived.Test.YtihnijfgdffhjaaPFnExactIsStumpx3
namespace Go.Proofs.Ytihnijfgdffhjaa.SFnExactIsStump
open Go.RowKit Go.Proofs.Ytihnijfgdffhjaa.PFnExactIsStump Go.Proofs.YtihnijfgdffhjaaW.PrintWords Go.Proofs.YtihnijfgdffhjaaW.PrintLast Go.Proofs.YtihnijfgdffhjaaW.PrintMore
set_option linter.unusedVariables false
/-- What is to be shown of numbers and lists alone: each way through the law, and what its calls come to. -/
def Pure : Prop := ∀ (l0_0 : List Int) (a0_1 : Int),
    (l0_0.length ≤ maxLen ∧ ∀ x ∈ l0_0, (Lit.int .i64 x).wf = true) → (Lit.int .i64 a0_1).wf = true →
    (∃ (k : Nat) (r1 : Int), (laws_szPlane.f l0_0 a0_1 1048576 = some r1) ∧ (r1 < 0)) ∨
    (∃ (k : Nat) (r1 : Int) (r5 : List Int) (r6 : Int) (r8 : Bool), (laws_szPlane.f l0_0 a0_1 1048576 = some r1) ∧ (laws_toPlane.f k l0_0 a0_1 = some (r5, r6)) ∧ (spec_IsStump.f k r5 r6 = some r8) ∧ (impl_IsStump.f k r5 r6 = some r8) ∧ (laws_eqPlane.f k r5 r6 r5 r6 = some true) ∧ (0 ≤ r1))
end Go.Proofs.Ytihnijfgdffhjaa.SFnExactIsStump
