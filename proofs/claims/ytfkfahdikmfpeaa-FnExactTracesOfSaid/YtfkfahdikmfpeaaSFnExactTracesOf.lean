import Derived.Test.YtfkfahdikmfpeaaLb
import Derived.Test.YtfkfahdikmfpeaaPFnExactTracesOfx
import Derived.Test.YtfkfahdikmfpeaaKFnExactTracesOf
namespace Go.Proofs.Ytfkfahdikmfpeaa.SFnExactTracesOf
open Go.RowKit Go.Proofs.Ytfkfahdikmfpeaa.KFnExactTracesOf Go.Proofs.Ytfkfahdikmfpeaa.PFnExactTracesOf Go.Proofs.YtfkfahdikmfpeaaW.PrintWords Go.Proofs.YtfkfahdikmfpeaaW.PrintLast Go.Proofs.YtfkfahdikmfpeaaW.PrintMore
set_option linter.unusedVariables false
/-- What is to be shown of numbers and lists alone: each way through the law, and what its calls come to. -/
def Pure : Prop := ∀ (l0 : List (List Int)) (l1 : List Int),
    (l0.length ≤ maxLen ∧ ∀ x ∈ l0, (x.length ≤ maxLen ∧ ∀ y ∈ x, (Lit.int .i64 y).wf = true)) → (l1.length ≤ maxLen ∧ ∀ x ∈ l1, (Lit.int .i64 x).wf = true) →
    (∃ (k : Nat), (1048576 < l1.length)) ∨
    (∃ (k : Nat) (r1 : Int), (laws_szIntSS.f k l0 1048576 = some r1) ∧ (l1.length ≤ 1048576) ∧ (r1 < 0)) ∨
    (∃ (k : Nat) (r1 : Int) (r2 : List (List Int)) (r4 : List Int) (r6 : List (List Int)) (r7 : Bool) (r14 : Int) (r15 : List (List Int)) (r16 : Int) (r17 : List Int) (r18 : Int) (r19 : List (List Int)), (laws_szIntSS.f k l0 1048576 = some r1) ∧ (laws_toIntSS.f k l0 = some r2) ∧ (laws_toIntS.f k l1 = some r4) ∧ (spec_TracesOf.f k r2 r4 = some (r6, r7)) ∧ (impl_TracesOf.f k r2 r4 = some (r6, r7)) ∧ (laws_eqIntSS.f k r6 r6 = some true) ∧ (laws_eqIntSS.f k r2 r2 = some true) ∧ (laws_eqIntS.f k r4 r4 = some true) ∧ (laws_markIntSS.f k r2 1 = some (r14, r15)) ∧ (laws_markIntS.f k r4 r14 = some (r16, r17)) ∧ (laws_markIntSS.f k r6 1 = some (r18, r19)) ∧ (laws_heldIntSS.f k r19 1 = some r18) ∧ (l1.length ≤ 1048576) ∧ (0 ≤ r1) ∧ (0 ≤ r14) ∧ (0 ≤ r16) ∧ (0 ≤ r18))
end Go.Proofs.Ytfkfahdikmfpeaa.SFnExactTracesOf
