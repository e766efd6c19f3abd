import Derived.Test.YtihnijfgdffhjaaLb
import Derived.Test.YtihnijfgdffhjaaPFnExactParityNetx
import Derived.Test.YtihnijfgdffhjaaKFnExactParityNet
namespace Go.Proofs.Ytihnijfgdffhjaa.SFnExactParityNet
open Go.RowKit Go.Proofs.Ytihnijfgdffhjaa.KFnExactParityNet Go.Proofs.Ytihnijfgdffhjaa.PFnExactParityNet Go.Proofs.YtihnijfgdffhjaaW.PrintWords Go.Proofs.YtihnijfgdffhjaaW.PrintLast Go.Proofs.YtihnijfgdffhjaaW.PrintMore
set_option linter.unusedVariables false
/-- What is to be shown of numbers and lists alone: each way through the law, and what its calls come to. -/
def Pure : Prop := ∀ (a0 : Int),
    (Lit.int .i64 a0).wf = true →
    (∃ (k : Nat) (r1 : Int) (r2 : List (List (S33))) (r3 : Bool) (r13 : Int) (r14 : List (List S33)), (spec_ParityNet.f k a0 = some (r1, r2, r3)) ∧ (impl_ParityNet.f k a0 = some (r1, r2, r3)) ∧ (laws_eqNet.f k r1 r2 r1 r2 = some true) ∧ (laws_markNet.f k r1 r2 1 = some (r13, r14)) ∧ (laws_heldNet.f k r1 r14 1 = some r13) ∧ (0 ≤ r13))
end Go.Proofs.Ytihnijfgdffhjaa.SFnExactParityNet
