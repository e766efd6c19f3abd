import Derived.Test.YtihnijfgdffhjaaLb
import Derived.Test.YtihnijfgdffhjaaPFnExactChoiceSidex3
namespace Go.Proofs.Ytihnijfgdffhjaa.SFnExactChoiceSide
open Go.RowKit Go.Proofs.Ytihnijfgdffhjaa.PFnExactChoiceSide Go.Proofs.YtihnijfgdffhjaaW.PrintWords Go.Proofs.YtihnijfgdffhjaaW.PrintLast Go.Proofs.YtihnijfgdffhjaaW.PrintMore
set_option linter.unusedVariables false
/-- What is to be shown of numbers and lists alone: each way through the law, and what its calls come to. -/
def Pure : Prop := ∀ (l0_0 : List Int) (a0_1 : Int) (l1_0 : List Int) (a1_1 : Int) (l2_0 : List Int) (a2_1 : Int) (l3 : List Int),
    (l0_0.length ≤ maxLen ∧ ∀ x ∈ l0_0, (Lit.int .i64 x).wf = true) → (Lit.int .i64 a0_1).wf = true → (l1_0.length ≤ maxLen ∧ ∀ x ∈ l1_0, (Lit.int .i64 x).wf = true) → (Lit.int .i64 a1_1).wf = true → (l2_0.length ≤ maxLen ∧ ∀ x ∈ l2_0, (Lit.int .i64 x).wf = true) → (Lit.int .i64 a2_1).wf = true → (l3.length ≤ maxLen ∧ ∀ x ∈ l3, (Lit.int .i64 x).wf = true) →
    (∃ (k : Nat), (1048576 < l3.length)) ∨
    (∃ (k : Nat) (r1 : Int), (laws_szPlane.f l0_0 a0_1 1048576 = some r1) ∧ (l3.length ≤ 1048576) ∧ (r1 < 0)) ∨
    (∃ (k : Nat) (r1 : Int) (r7 : Int), (laws_szPlane.f l0_0 a0_1 1048576 = some r1) ∧ (laws_szPlane.f l1_0 a1_1 r1 = some r7) ∧ (l3.length ≤ 1048576) ∧ (0 ≤ r1) ∧ (r7 < 0)) ∨
    (∃ (k : Nat) (r1 : Int) (r7 : Int) (r10 : Int), (laws_szPlane.f l0_0 a0_1 1048576 = some r1) ∧ (laws_szPlane.f l1_0 a1_1 r1 = some r7) ∧ (laws_szPlane.f l2_0 a2_1 r7 = some r10) ∧ (l3.length ≤ 1048576) ∧ (0 ≤ r1) ∧ (0 ≤ r7) ∧ (r10 < 0)) ∨
    (∃ (k : Nat) (r1 : Int) (r7 : Int) (r10 : Int) (r11 : List Int) (r12 : Int) (r14 : List Int) (r15 : Int) (r17 : List Int) (r18 : Int) (r20 : List Int) (r22 : Int) (r23 : Bool), (laws_szPlane.f l0_0 a0_1 1048576 = some r1) ∧ (laws_szPlane.f l1_0 a1_1 r1 = some r7) ∧ (laws_szPlane.f l2_0 a2_1 r7 = some r10) ∧ (laws_toPlane.f k l0_0 a0_1 = some (r11, r12)) ∧ (laws_toPlane.f k l1_0 a1_1 = some (r14, r15)) ∧ (laws_toPlane.f k l2_0 a2_1 = some (r17, r18)) ∧ (laws_toIntS.f k l3 = some r20) ∧ (spec_ChoiceSide.f k r11 r12 r14 r15 r17 r18 r20 = some (r22, r23)) ∧ (impl_ChoiceSide.f k r11 r12 r14 r15 r17 r18 r20 = some (r22, r23)) ∧ (laws_eqPlane.f k r11 r12 r11 r12 = some true) ∧ (laws_eqPlane.f k r14 r15 r14 r15 = some true) ∧ (laws_eqPlane.f k r17 r18 r17 r18 = some true) ∧ (laws_eqIntS.f k r20 r20 = some true) ∧ (l3.length ≤ 1048576) ∧ (0 ≤ r1) ∧ (0 ≤ r7) ∧ (0 ≤ r10))
end Go.Proofs.Ytihnijfgdffhjaa.SFnExactChoiceSide
