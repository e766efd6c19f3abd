import Derived.Test.YtpknkpbellchgaaLb
import Derived.Test.YtpknkpbellchgaaPFnExactDuelWorstx
import Derived.Test.YtpknkpbellchgaaKFnExactDuelWorst
namespace Go.Proofs.Ytpknkpbellchgaa.SFnExactDuelWorst
open Go.RowKit Go.Proofs.Ytpknkpbellchgaa.KFnExactDuelWorst Go.Proofs.Ytpknkpbellchgaa.PFnExactDuelWorst Go.Proofs.YtpknkpbellchgaaW.PrintWords Go.Proofs.YtpknkpbellchgaaW.PrintLast Go.Proofs.YtpknkpbellchgaaW.PrintMore
set_option linter.unusedVariables false
/-- What is to be shown of numbers and lists alone: each way through the law, and what its calls come to. -/
def Pure : Prop := ∀ (l0 : List Int),
    (l0.length ≤ maxLen ∧ ∀ x ∈ l0, (Lit.int .i64 x).wf = true) →
    (∃ (k : Nat), (1048576 < l0.length)) ∨
    (∃ (k : Nat) (r1 : List Int) (r3 : Int) (r4 : Bool), (laws_toIntS.f k l0 = some r1) ∧ (spec_DuelWorst.f k r1 = some (r3, r4)) ∧ (impl_DuelWorst.f k r1 = some (r3, r4)) ∧ (laws_eqIntS.f k r1 r1 = some true) ∧ (l0.length ≤ 1048576))
end Go.Proofs.Ytpknkpbellchgaa.SFnExactDuelWorst
