import Derived.Test.YtbajicdhhidicaaLb
import Derived.Test.YtbajicdhhidicaaPFnExactGatesNeededx
namespace Go.Proofs.Ytbajicdhhidicaa.SFnExactGatesNeeded
open Go.RowKit  Go.Proofs.Ytbajicdhhidicaa.PFnExactGatesNeeded Go.Proofs.YtbajicdhhidicaaW.PrintWords Go.Proofs.YtbajicdhhidicaaW.PrintLast Go.Proofs.YtbajicdhhidicaaW.PrintMore
set_option linter.unusedVariables false
/-- What is to be shown of numbers and lists alone: each way through the law, and what its calls come to. -/
def Pure : Prop := ∀ (a0 : Int) (l1 : List Int),
    (Lit.int .i64 a0).wf = true → (l1.length ≤ maxLen ∧ ∀ x ∈ l1, (Lit.int .i64 x).wf = true) →
    (∃ (k : Nat), (1048576 < l1.length)) ∨
    (∃ (k : Nat) (r1 : List Int) (r3 : Int) (r4 : Bool), (laws_toIntS.f k l1 = some r1) ∧ (spec_GatesNeeded.f k a0 r1 = some (r3, r4)) ∧ (impl_GatesNeeded.f k a0 r1 = some (r3, r4)) ∧ (laws_eqIntS.f k r1 r1 = some true) ∧ (l1.length ≤ 1048576))
end Go.Proofs.Ytbajicdhhidicaa.SFnExactGatesNeeded
