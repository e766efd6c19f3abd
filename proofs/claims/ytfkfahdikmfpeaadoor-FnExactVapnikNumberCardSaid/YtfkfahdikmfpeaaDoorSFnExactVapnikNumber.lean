import Derived.Test.YtfkfahdikmfpeaaDoorLb
import Derived.Test.YtfkfahdikmfpeaaDoorPFnExactVapnikNumberx
import Derived.Test.YtfkfahdikmfpeaaDoorKFnExactVapnikNumber
namespace Go.Proofs.YtfkfahdikmfpeaaDoor.SFnExactVapnikNumber
open Go.RowKit Go.Proofs.YtfkfahdikmfpeaaDoor.KFnExactVapnikNumber Go.Proofs.YtfkfahdikmfpeaaDoor.PFnExactVapnikNumber Go.Proofs.YtfkfahdikmfpeaaDoorW.PrintWords Go.Proofs.YtfkfahdikmfpeaaDoorW.PrintLast Go.Proofs.YtfkfahdikmfpeaaDoorW.PrintMore
set_option linter.unusedVariables false
/-- What is to be shown of numbers and lists alone: each way through the law, and what its calls come to. -/
def Pure : Prop := ∀ (l0 : List (List Int)),
    (l0.length ≤ maxLen ∧ ∀ x ∈ l0, (x.length ≤ maxLen ∧ ∀ y ∈ x, (Lit.int .i64 y).wf = true)) →
    (∃ (k : Nat) (r1 : Int), (laws_szIntSS.f k l0 1048576 = some r1) ∧ (r1 < 0)) ∨
    (∃ (k : Nat) (r1 : Int) (r2 : List (List Int)) (r4 : Int) (r5 : Bool), (laws_szIntSS.f k l0 1048576 = some r1) ∧ (laws_toIntSS.f k l0 = some r2) ∧ (spec_VapnikNumber.f k r2 = some (r4, r5)) ∧ (impl_VapnikNumber.f k r2 = some (r4, r5)) ∧ (laws_eqIntSS.f k r2 r2 = some true) ∧ (0 ≤ r1))
end Go.Proofs.YtfkfahdikmfpeaaDoor.SFnExactVapnikNumber
