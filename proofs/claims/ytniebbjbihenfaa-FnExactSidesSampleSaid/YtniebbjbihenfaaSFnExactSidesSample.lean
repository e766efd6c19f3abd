import Derived.Test.YtniebbjbihenfaaLb
import Derived.Test.YtniebbjbihenfaaPFnExactSidesSamplex
import Derived.Test.YtniebbjbihenfaaKFnExactSidesSample
namespace Go.Proofs.Ytniebbjbihenfaa.SFnExactSidesSample
open Go.RowKit Go.Proofs.Ytniebbjbihenfaa.KFnExactSidesSample Go.Proofs.Ytniebbjbihenfaa.PFnExactSidesSample Go.Proofs.YtniebbjbihenfaaW.PrintWords Go.Proofs.YtniebbjbihenfaaW.PrintLast Go.Proofs.YtniebbjbihenfaaW.PrintMore
set_option linter.unusedVariables false
/-- What is to be shown of numbers and lists alone: each way through the law, and what its calls come to. -/
def Pure : Prop := ∀ (l0_0 : List (List Int)) (l0_1 : List Int) (l1 : List S37),
    (l0_0.length ≤ maxLen ∧ ∀ x ∈ l0_0, (x.length ≤ maxLen ∧ ∀ y ∈ x, (Lit.int .i64 y).wf = true)) → (l0_1.length ≤ maxLen ∧ ∀ x ∈ l0_1, (Lit.int .i64 x).wf = true) → (l1.length ≤ maxLen ∧ ∀ x ∈ l1, ((x.f0.length ≤ maxLen ∧ ∀ y ∈ x.f0, (Lit.int .i64 y).wf = true) ∧ (Lit.int .i64 x.f1).wf = true)) →
    (∃ (k : Nat) (r1 : Int), (laws_szSample.f k l0_0 l0_1 1048576 = some r1) ∧ (r1 < 0)) ∨
    (∃ (k : Nat) (r1 : Int) (r3 : Int), (laws_szSample.f k l0_0 l0_1 1048576 = some r1) ∧ (laws_szPlaneS.f k l1 r1 = some r3) ∧ (0 ≤ r1) ∧ (r3 < 0)) ∨
    (∃ (k : Nat) (r1 : Int) (r3 : Int) (r6 : List (List Int)) (r7 : List Int) (r10 : List (S42)) (r12 : List (List Int)) (r13 : List Int) (r14 : Bool) (r38 : Int) (r39 : List (List Int)) (r40 : List Int) (r41 : Int) (r42 : List S42) (r49 : Int) (r50 : List (List Int)) (r51 : List Int), (laws_szSample.f k l0_0 l0_1 1048576 = some r1) ∧ (laws_szPlaneS.f k l1 r1 = some r3) ∧ (laws_toSample.f k l0_0 l0_1 = some (r6, r7)) ∧ (laws_toPlaneS.f k l1 = some r10) ∧ (spec_SidesSample.f k r6 r7 r10 = some (r12, r13, r14)) ∧ (impl_SidesSample.f k r6 r7 r10 = some (r12, r13, r14)) ∧ (laws_eqSample.f k r12 r13 r12 r13 = some true) ∧ (laws_eqSample.f k r6 r7 r6 r7 = some true) ∧ (laws_eqPlaneS.f k r10 r10 = some true) ∧ (laws_markSample.f k r6 r7 1 = some (r38, r39, r40)) ∧ (laws_markPlaneS.f k r10 r38 = some (r41, r42)) ∧ (laws_markSample.f k r12 r13 1 = some (r49, r50, r51)) ∧ (laws_heldSample.f k r50 r51 1 = some r49) ∧ (0 ≤ r1) ∧ (0 ≤ r3) ∧ (0 ≤ r38) ∧ (0 ≤ r41) ∧ (0 ≤ r49))
end Go.Proofs.Ytniebbjbihenfaa.SFnExactSidesSample
