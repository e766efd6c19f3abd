import Derived.Test.YtpboffjnnnmicaaLb
import Derived.Test.YtpboffjnnnmicaaPFnExactWeightSumx
namespace Go.Proofs.Ytpboffjnnnmicaa.SFnExactWeightSum
open Go.RowKit  Go.Proofs.Ytpboffjnnnmicaa.PFnExactWeightSum Go.Proofs.YtpboffjnnnmicaaW.PrintWords Go.Proofs.YtpboffjnnnmicaaW.PrintLast Go.Proofs.YtpboffjnnnmicaaW.PrintMore
set_option linter.unusedVariables false
/-- What is to be shown of numbers and lists alone: each way through the law, and what its calls come to. -/
def Pure : Prop := ∀ (a0_0 : Int) (l0_1 : List (List S119)),
    (Lit.int .i64 a0_0).wf = true → (l0_1.length ≤ maxLen ∧ ∀ x ∈ l0_1, (x.length ≤ maxLen ∧ ∀ y ∈ x, ((y.f0.length ≤ maxLen ∧ ∀ z ∈ y.f0, (Lit.int .i64 z).wf = true) ∧ (Lit.int .i64 y.f1).wf = true))) →
    (∃ (k : Nat) (r1 : Int), (laws_szNet.f k a0_0 l0_1 1048576 = some r1) ∧ (r1 < 0)) ∨
    (∃ (k : Nat) (r1 : Int) (r5 : Int) (r6 : List (List (S98))) (r8 : Int) (r9 : Bool), (laws_szNet.f k a0_0 l0_1 1048576 = some r1) ∧ (laws_toNet.f k a0_0 l0_1 = some (r5, r6)) ∧ (spec_WeightSum.f k r5 r6 = some (r8, r9)) ∧ (impl_WeightSum.f k r5 r6 = some (r8, r9)) ∧ (laws_eqNet.f k r5 r6 r5 r6 = some true) ∧ (0 ≤ r1))
end Go.Proofs.Ytpboffjnnnmicaa.SFnExactWeightSum
