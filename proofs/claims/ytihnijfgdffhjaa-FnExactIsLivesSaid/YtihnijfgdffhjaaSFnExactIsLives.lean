import Derived.Test.YtihnijfgdffhjaaLb
import Derived.Test.YtihnijfgdffhjaaPFnExactIsLivesx
namespace Go.Proofs.Ytihnijfgdffhjaa.SFnExactIsLives
open Go.RowKit Go.Proofs.Ytihnijfgdffhjaa.PFnExactIsLives Go.Proofs.YtihnijfgdffhjaaW.PrintWords Go.Proofs.YtihnijfgdffhjaaW.PrintLast Go.Proofs.YtihnijfgdffhjaaW.PrintMore
set_option linter.unusedVariables false
/-- What is to be shown of numbers and lists alone: each way through the law, and what its calls come to. -/
def Pure : Prop := ∀ (l0 : List Int),
    (l0.length ≤ maxLen ∧ ∀ x ∈ l0, (Lit.int .i64 x).wf = true) →
    (∃ (k : Nat), (1048576 < l0.length)) ∨
    (∃ (k : Nat) (r1 : List Int) (r3 : Bool), (laws_toIntS.f k l0 = some r1) ∧ (spec_IsLives.f k r1 = some r3) ∧ (impl_IsLives.f k r1 = some r3) ∧ (laws_eqIntS.f k r1 r1 = some true) ∧ (l0.length ≤ 1048576))
end Go.Proofs.Ytihnijfgdffhjaa.SFnExactIsLives
