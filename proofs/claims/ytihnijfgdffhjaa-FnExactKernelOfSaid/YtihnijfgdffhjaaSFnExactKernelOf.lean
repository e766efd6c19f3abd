import Derived.Test.YtihnijfgdffhjaaLb
import Derived.Test.YtihnijfgdffhjaaPFnExactKernelOfx
namespace Go.Proofs.Ytihnijfgdffhjaa.SFnExactKernelOf
open Go.RowKit Go.Proofs.Ytihnijfgdffhjaa.PFnExactKernelOf Go.Proofs.YtihnijfgdffhjaaW.PrintWords Go.Proofs.YtihnijfgdffhjaaW.PrintLast Go.Proofs.YtihnijfgdffhjaaW.PrintMore
set_option linter.unusedVariables false
/-- What is to be shown of numbers and lists alone: each way through the law, and what its calls come to. -/
def Pure : Prop := ∀ (l0 : List Int) (l1 : List Int) (a2 : Int),
    (l0.length ≤ maxLen ∧ ∀ x ∈ l0, (Lit.int .i64 x).wf = true) → (l1.length ≤ maxLen ∧ ∀ x ∈ l1, (Lit.int .i64 x).wf = true) → (Lit.int .i64 a2).wf = true →
    (∃ (k : Nat), (1048576 < l0.length)) ∨
    (∃ (k : Nat), (l0.length ≤ 1048576) ∧ (1048576 < l1.length)) ∨
    (∃ (k : Nat) (r1 : List Int) (r3 : List Int) (r5 : Int) (r6 : Bool), (laws_toIntS.f k l0 = some r1) ∧ (laws_toIntS.f k l1 = some r3) ∧ (spec_KernelOf.f k r1 r3 a2 = some (r5, r6)) ∧ (impl_KernelOf.f k r1 r3 a2 = some (r5, r6)) ∧ (laws_eqIntS.f k r1 r1 = some true) ∧ (laws_eqIntS.f k r3 r3 = some true) ∧ (l0.length ≤ 1048576) ∧ (l1.length ≤ 1048576))
end Go.Proofs.Ytihnijfgdffhjaa.SFnExactKernelOf
