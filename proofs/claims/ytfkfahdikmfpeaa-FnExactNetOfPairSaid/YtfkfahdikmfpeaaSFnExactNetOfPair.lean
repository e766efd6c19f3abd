import Derived.Test.YtfkfahdikmfpeaaLb
import Derived.Test.YtfkfahdikmfpeaaPFnExactNetOfPairx
import Derived.Test.YtfkfahdikmfpeaaKFnExactNetOfPair
namespace Go.Proofs.Ytfkfahdikmfpeaa.SFnExactNetOfPair
open Go.RowKit Go.Proofs.Ytfkfahdikmfpeaa.KFnExactNetOfPair Go.Proofs.Ytfkfahdikmfpeaa.PFnExactNetOfPair Go.Proofs.YtfkfahdikmfpeaaW.PrintWords Go.Proofs.YtfkfahdikmfpeaaW.PrintLast Go.Proofs.YtfkfahdikmfpeaaW.PrintMore
set_option linter.unusedVariables false
/-- What is to be shown of numbers and lists alone: each way through the law, and what its calls come to. -/
def Pure : Prop := ∀ (a0 : Int) (l1 : List Int),
    (Lit.int .i64 a0).wf = true → (l1.length ≤ maxLen ∧ ∀ x ∈ l1, (Lit.int .i64 x).wf = true) →
    (∃ (k : Nat), (1048576 < l1.length)) ∨
    (∃ (k : Nat) (r1 : List Int) (r3 : Int) (r4 : List (List (S39))) (r5 : Bool) (r15 : Int) (r16 : List Int) (r23 : Int) (r24 : List (List S39)), (laws_toIntS.f k l1 = some r1) ∧ (spec_NetOfPair.f k a0 r1 = some (r3, r4, r5)) ∧ (impl_NetOfPair.f k a0 r1 = some (r3, r4, r5)) ∧ (laws_eqNet.f k r3 r4 r3 r4 = some true) ∧ (laws_eqIntS.f k r1 r1 = some true) ∧ (laws_markIntS.f k r1 1 = some (r15, r16)) ∧ (laws_markNet.f k r3 r4 1 = some (r23, r24)) ∧ (laws_heldNet.f k r3 r24 1 = some r23) ∧ (l1.length ≤ 1048576) ∧ (0 ≤ r15) ∧ (0 ≤ r23))
end Go.Proofs.Ytfkfahdikmfpeaa.SFnExactNetOfPair
