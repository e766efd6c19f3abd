import Derived.Test.YtniebbjbihenfaaLb
import Derived.Test.YtniebbjbihenfaaPFnExactNetTablesx
import Derived.Test.YtniebbjbihenfaaKFnExactNetTables
namespace Go.Proofs.Ytniebbjbihenfaa.SFnExactNetTables
open Go.RowKit Go.Proofs.Ytniebbjbihenfaa.KFnExactNetTables Go.Proofs.Ytniebbjbihenfaa.PFnExactNetTables Go.Proofs.YtniebbjbihenfaaW.PrintWords Go.Proofs.YtniebbjbihenfaaW.PrintLast Go.Proofs.YtniebbjbihenfaaW.PrintMore
set_option linter.unusedVariables false
/-- What is to be shown of numbers and lists alone: each way through the law, and what its calls come to. -/
def Pure : Prop := ∀ (a0_0 : Int) (l0_1 : List (List S37)),
    (Lit.int .i64 a0_0).wf = true → (l0_1.length ≤ maxLen ∧ ∀ x ∈ l0_1, (x.length ≤ maxLen ∧ ∀ y ∈ x, ((y.f0.length ≤ maxLen ∧ ∀ z ∈ y.f0, (Lit.int .i64 z).wf = true) ∧ (Lit.int .i64 y.f1).wf = true))) →
    (∃ (k : Nat) (r1 : Int), (laws_szNet.f k a0_0 l0_1 1048576 = some r1) ∧ (r1 < 0)) ∨
    (∃ (k : Nat) (r1 : Int) (r5 : Int) (r6 : List (List (S42))) (r8 : List (List Int)) (r9 : Bool) (r19 : Int) (r20 : List (List S42)) (r21 : Int) (r22 : List (List Int)), (laws_szNet.f k a0_0 l0_1 1048576 = some r1) ∧ (laws_toNet.f k a0_0 l0_1 = some (r5, r6)) ∧ (spec_NetTables.f k r5 r6 = some (r8, r9)) ∧ (impl_NetTables.f k r5 r6 = some (r8, r9)) ∧ (laws_eqIntSS.f k r8 r8 = some true) ∧ (laws_eqNet.f k r5 r6 r5 r6 = some true) ∧ (laws_markNet.f k r5 r6 1 = some (r19, r20)) ∧ (laws_markIntSS.f k r8 1 = some (r21, r22)) ∧ (laws_heldIntSS.f k r22 1 = some r21) ∧ (0 ≤ r1) ∧ (0 ≤ r19) ∧ (0 ≤ r21))
end Go.Proofs.Ytniebbjbihenfaa.SFnExactNetTables
