import Derived.Test.YtfkfahdikmfpeaaDoorLb
import Derived.Test.YtfkfahdikmfpeaaDoorPFnExactShatteredSetsx
import Derived.Test.YtfkfahdikmfpeaaDoorKFnExactShatteredSets
namespace Go.Proofs.YtfkfahdikmfpeaaDoor.SFnExactShatteredSets
open Go.RowKit Go.Proofs.YtfkfahdikmfpeaaDoor.KFnExactShatteredSets Go.Proofs.YtfkfahdikmfpeaaDoor.PFnExactShatteredSets Go.Proofs.YtfkfahdikmfpeaaDoorW.PrintWords Go.Proofs.YtfkfahdikmfpeaaDoorW.PrintLast Go.Proofs.YtfkfahdikmfpeaaDoorW.PrintMore
set_option linter.unusedVariables false
/-- What is to be shown of numbers and lists alone: each way through the law, and what its calls come to. -/
def Pure : Prop := ∀ (l0 : List (List Int)),
    (l0.length ≤ maxLen ∧ ∀ x ∈ l0, (x.length ≤ maxLen ∧ ∀ y ∈ x, (Lit.int .i64 y).wf = true)) →
    (∃ (k : Nat) (r1 : Int), (laws_szIntSS.f k l0 1048576 = some r1) ∧ (r1 < 0)) ∨
    (∃ (k : Nat) (r1 : Int) (r2 : List (List Int)) (r4 : List (List Int)) (r5 : Bool) (r10 : Int) (r11 : List (List Int)) (r12 : Int) (r13 : List (List Int)), (laws_szIntSS.f k l0 1048576 = some r1) ∧ (laws_toIntSS.f k l0 = some r2) ∧ (spec_ShatteredSets.f k r2 = some (r4, r5)) ∧ (impl_ShatteredSets.f k r2 = some (r4, r5)) ∧ (laws_eqIntSS.f k r4 r4 = some true) ∧ (laws_eqIntSS.f k r2 r2 = some true) ∧ (laws_markIntSS.f k r2 1 = some (r10, r11)) ∧ (laws_markIntSS.f k r4 1 = some (r12, r13)) ∧ (laws_heldIntSS.f k r13 1 = some r12) ∧ (0 ≤ r1) ∧ (0 ≤ r10) ∧ (0 ≤ r12))
end Go.Proofs.YtfkfahdikmfpeaaDoor.SFnExactShatteredSets
