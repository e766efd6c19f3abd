import Derived.Test.YtbajicdhhidicaaLb
import Derived.Test.YtbajicdhhidicaaPFnExactFindPairx
import Derived.Test.YtbajicdhhidicaaKFnExactFindPair
namespace Go.Proofs.Ytbajicdhhidicaa.SFnExactFindPair
open Go.RowKit Go.Proofs.Ytbajicdhhidicaa.KFnExactFindPair Go.Proofs.Ytbajicdhhidicaa.PFnExactFindPair Go.Proofs.YtbajicdhhidicaaW.PrintWords Go.Proofs.YtbajicdhhidicaaW.PrintLast Go.Proofs.YtbajicdhhidicaaW.PrintMore
set_option linter.unusedVariables false
/-- What is to be shown of numbers and lists alone: each way through the law, and what its calls come to. -/
def Pure : Prop := ∀ (a0 : Int) (l1 : List Int),
    (Lit.int .i64 a0).wf = true → (l1.length ≤ maxLen ∧ ∀ x ∈ l1, (Lit.int .i64 x).wf = true) →
    (∃ (k : Nat), (1048576 < l1.length)) ∨
    (∃ (k : Nat) (r1 : List Int) (r3 : List (List Int)) (r4 : Bool) (r9 : Int) (r10 : List Int) (r11 : Int) (r12 : List (List Int)), (laws_toIntS.f k l1 = some r1) ∧ (spec_FindPair.f k a0 r1 = some (r3, r4)) ∧ (impl_FindPair.f k a0 r1 = some (r3, r4)) ∧ (laws_eqIntSS.f k r3 r3 = some true) ∧ (laws_eqIntS.f k r1 r1 = some true) ∧ (laws_markIntS.f k r1 1 = some (r9, r10)) ∧ (laws_markIntSS.f k r3 1 = some (r11, r12)) ∧ (laws_heldIntSS.f k r12 1 = some r11) ∧ (l1.length ≤ 1048576) ∧ (0 ≤ r9) ∧ (0 ≤ r11))
end Go.Proofs.Ytbajicdhhidicaa.SFnExactFindPair
