/- FnExactChoiceSide: for every input the law returns true, and each argument reads behind the call as it read before. No condition but those of the given row. -/
import Derived.Test.YtihnijfgdffhjaaRows
import Derived.Test.YtihnijfgdffhjaaGFnExactChoiceSide
import Derived.Test.YtihnijfgdffhjaaQFnExactChoiceSide
import Derived.Test.YtihnijfgdffhjaaOp
import Derived.WalkKit
import Derived.ProofKit
import Derived.OpenShut
import Derived.ShutString
import Derived.ChangeOld
import Derived.Below
import Derived.SizedLaws
namespace Go.Proofs.Ytihnijfgdffhjaa.RowFnExactChoiceSide
open Go.ChangeShapes Go.WideShapes Go.ChangeAt Go.RowKit Go.Proofs.Ytihnijfgdffhjaa Go.Proofs.Ytihnijfgdffhjaa.PFnExactChoiceSide Go.Proofs.YtihnijfgdffhjaaW.PrintWords
set_option linter.unusedVariables false
set_option linter.unusedSimpArgs false
theorem own : ownKnob Try.prog.godebug = none := by kernel_rfl
theorem laidOut : laidOutB Try.prog = true := by kernel_rfl
theorem walk (A0_0 : Option Addr) (c0_0 : Nat) (l0_0 : List Int) (a0_1 : Int) (A1_0 : Option Addr) (c1_0 : Nat) (l1_0 : List Int) (a1_1 : Int) (A2_0 : Option Addr) (c2_0 : Nat) (l2_0 : List Int) (a2_1 : Int) (A3 : Option Addr) (c3 : Nat) (l3 : List Int) (w : World) (hr0_0 : Kd.C (Kd.int .i64) w A0_0 l0_0.length l0_0) (hc0_0 : l0_0.length ≤ c0_0) (hr1_0 : Kd.C (Kd.int .i64) w A1_0 l1_0.length l1_0) (hc1_0 : l1_0.length ≤ c1_0) (hr2_0 : Kd.C (Kd.int .i64) w A2_0 l2_0.length l2_0) (hc2_0 : l2_0.length ≤ c2_0) (hr3 : Kd.C (Kd.int .i64) w A3 l3.length l3) (hc3 : l3.length ≤ c3) (g0 : (l0_0.length ≤ maxLen ∧ ∀ x ∈ l0_0, (Lit.int .i64 x).wf = true)) (g1 : (Lit.int .i64 a0_1).wf = true) (g2 : (l1_0.length ≤ maxLen ∧ ∀ x ∈ l1_0, (Lit.int .i64 x).wf = true)) (g3 : (Lit.int .i64 a1_1).wf = true) (g4 : (l2_0.length ≤ maxLen ∧ ∀ x ∈ l2_0, (Lit.int .i64 x).wf = true)) (g5 : (Lit.int .i64 a2_1).wf = true) (g6 : (l3.length ≤ maxLen ∧ ∀ x ∈ l3, (Lit.int .i64 x).wf = true)) :
    Calls Try.prog 7 #[.agg #[.slice A0_0 l0_0.length c0_0, .int .i64 a0_1], .agg #[.slice A1_0 l1_0.length c1_0, .int .i64 a1_1], .agg #[.slice A2_0 l2_0.length c2_0, .int .i64 a2_1], .slice A3 l3.length c3] w fun e w' => e = .returned (.bool true) ∧ Below w.heap.size w w' := by
  rcases QFnExactChoiceSide.pure l0_0 a0_1 l1_0 a1_1 l2_0 a2_1 l3 g0 g1 g2 g3 g4 g5 g6 with ⟨k, q0⟩ | ⟨k, r1, h1, q0, q1⟩ | ⟨k, r1, r7, h1, h2, q0, q1, q2⟩ | ⟨k, r1, r7, r10, h1, h2, h3, q0, q1, q2, q3⟩ | ⟨k, r1, r7, r10, r11, r12, r14, r15, r17, r18, r20, r22, r23, h1, h2, h3, h4, h5, h6, h7, h8, h9, h10, h11, h12, h13, q0, q1, q2, q3⟩
  · exact GFnExactChoiceSide.big0 k A0_0 c0_0 l0_0 a0_1 A1_0 c1_0 l1_0 a1_1 A2_0 c2_0 l2_0 a2_1 A3 c3 l3  w hr0_0 hc0_0 hr1_0 hc1_0 hr2_0 hc2_0 hr3 hc3  q0
  · exact GFnExactChoiceSide.big1 k A0_0 c0_0 l0_0 a0_1 A1_0 c1_0 l1_0 a1_1 A2_0 c2_0 l2_0 a2_1 A3 c3 l3 r1 w hr0_0 hc0_0 hr1_0 hc1_0 hr2_0 hc2_0 hr3 hc3 h1 q0 q1
  · exact GFnExactChoiceSide.big2 k A0_0 c0_0 l0_0 a0_1 A1_0 c1_0 l1_0 a1_1 A2_0 c2_0 l2_0 a2_1 A3 c3 l3 r1 r7 w hr0_0 hc0_0 hr1_0 hc1_0 hr2_0 hc2_0 hr3 hc3 h1 h2 q0 q1 q2
  · exact GFnExactChoiceSide.big3 k A0_0 c0_0 l0_0 a0_1 A1_0 c1_0 l1_0 a1_1 A2_0 c2_0 l2_0 a2_1 A3 c3 l3 r1 r7 r10 w hr0_0 hc0_0 hr1_0 hc1_0 hr2_0 hc2_0 hr3 hc3 h1 h2 h3 q0 q1 q2 q3
  · exact GFnExactChoiceSide.good k A0_0 c0_0 l0_0 a0_1 A1_0 c1_0 l1_0 a1_1 A2_0 c2_0 l2_0 a2_1 A3 c3 l3 r1 r7 r10 r11 r12 r14 r15 r17 r18 r20 r22 r23 w hr0_0 hc0_0 hr1_0 hc1_0 hr2_0 hc2_0 hr3 hc3 h1 h2 h3 h4 h5 h6 h7 h8 h9 h10 h11 h12 h13 q0 q1 q2 q3
set_option maxRecDepth 100000 in
theorem lifted (os : Os) (started : os.Started) (H : Type) (enc : TypeId × Value → H) :
    ReturnsInHanded {} Try.checked os 7 .any (Rows.fnExactChoiceSideSpec.pre6 enc Try.prog Try.f7 Rows.fnExactChoiceSideRow.domain false) (Rows.fnExactChoiceSideSpec.post enc Try.prog Try.f7 false true false false) := by
  refine returnsInHanded_of_change_sized (C := Try.checked) own started (by kernel_rfl) Try.func7
    (ChangeSpec.witness6 (enc := enc) (C := Try.checked) false ⟨#[], #[.agg #[.slice none 0 0, .int .i64 0], .agg #[.slice none 0 0, .int .i64 0], .agg #[.slice none 0 0, .int .i64 0], .slice none 0 0], []⟩ 8 (by kernel_rfl) (by kernel_rfl) (by kernel_rfl) (by kernel_rfl)) ?_
  intro W base args ds gs before hval0 hW hcnd hsz0 _
  have hval : ∀ (j : Nat) t v, Try.f7.params[j]? = some t → args[j]? = some v → Value.okWide Try.prog W .any base t v := hval0
  have hW' := hW
  obtain ⟨p, q, hA0, hV, rfl, hfz, hnd⟩ := hW
  have hA : DataW.TrodAll enc Try.prog W 0 (fun _ => true) true Try.f7.params.toList args.toList ds p := hA0
  rw [Try.params7] at hA hval
  obtain ⟨v0, vs0, d0, ds0, p0, q0, hargs, rfl, rfl, h0, r0⟩ := trodAll_cons hA
  obtain ⟨v1, vs1, d1, ds1, p1, q1, rfl, rfl, rfl, h1, r1⟩ := trodAll_cons r0
  obtain ⟨v2, vs2, d2, ds2, p2, q2, rfl, rfl, rfl, h2, r2⟩ := trodAll_cons r1
  obtain ⟨v3, vs3, d3, ds3, p3, q3, rfl, rfl, rfl, h3, r3⟩ := trodAll_cons r2
  obtain ⟨rfl, rfl, rfl⟩ := trodAll_nil r3
  obtain rfl : args = #[v0, v1, v2, v3] := by cases args; simp_all
  obtain ⟨rfl, rfl⟩ := trodVars_none hV
  have k0 := h0
  have lt0 : ∀ x ∈ p0, x.block < W.heap.size := by obtain ⟨m, hm⟩ := k0; exact DataW.trod_lt m _ _ _ hm
  obtain ⟨x0, hx0, gx0⟩ := Op.opens_arg (Op.opens_struct2 (a := (Kd.slice 3 (Kd.int .i64))) (b := (Kd.int .i64)) Try.underlying30 ⟨rfl, rfl, by kernel_rfl, by kernel_rfl, by kernel_rfl⟩ (Op.opens_slice (d := (Kd.int .i64)) Try.underlying22 (by kernel_rfl) (Op.opens_int Try.underlying3)) (Op.opens_int Try.underlying3)) h0
  obtain ⟨cs0, rfl, hs0⟩ := okWide_struct Try.underlying30 (hval 0 30 v0 rfl rfl)
  obtain ⟨u0, w0, e0, ⟨A0_0, c0_0, rfl, lc0_0, hr0_0⟩, rfl⟩ := hx0
  obtain rfl := Op.agg_of e0
  have k1 := h1
  have lt1 : ∀ x ∈ p1, x.block < W.heap.size := by obtain ⟨m, hm⟩ := k1; exact DataW.trod_lt m _ _ _ hm
  obtain ⟨x1, hx1, gx1⟩ := Op.opens_arg (Op.opens_struct2 (a := (Kd.slice 3 (Kd.int .i64))) (b := (Kd.int .i64)) Try.underlying30 ⟨rfl, rfl, by kernel_rfl, by kernel_rfl, by kernel_rfl⟩ (Op.opens_slice (d := (Kd.int .i64)) Try.underlying22 (by kernel_rfl) (Op.opens_int Try.underlying3)) (Op.opens_int Try.underlying3)) h1
  obtain ⟨cs1, rfl, hs1⟩ := okWide_struct Try.underlying30 (hval 1 30 v1 rfl rfl)
  obtain ⟨u1, w1, e1, ⟨A1_0, c1_0, rfl, lc1_0, hr1_0⟩, rfl⟩ := hx1
  obtain rfl := Op.agg_of e1
  have k2 := h2
  have lt2 : ∀ x ∈ p2, x.block < W.heap.size := by obtain ⟨m, hm⟩ := k2; exact DataW.trod_lt m _ _ _ hm
  obtain ⟨x2, hx2, gx2⟩ := Op.opens_arg (Op.opens_struct2 (a := (Kd.slice 3 (Kd.int .i64))) (b := (Kd.int .i64)) Try.underlying30 ⟨rfl, rfl, by kernel_rfl, by kernel_rfl, by kernel_rfl⟩ (Op.opens_slice (d := (Kd.int .i64)) Try.underlying22 (by kernel_rfl) (Op.opens_int Try.underlying3)) (Op.opens_int Try.underlying3)) h2
  obtain ⟨cs2, rfl, hs2⟩ := okWide_struct Try.underlying30 (hval 2 30 v2 rfl rfl)
  obtain ⟨u2, w2, e2, ⟨A2_0, c2_0, rfl, lc2_0, hr2_0⟩, rfl⟩ := hx2
  obtain rfl := Op.agg_of e2
  have k3 := h3
  have lt3 : ∀ x ∈ p3, x.block < W.heap.size := by obtain ⟨m, hm⟩ := k3; exact DataW.trod_lt m _ _ _ hm
  obtain ⟨x3, hx3, gx3⟩ := Op.opens_arg (Op.opens_slice (d := (Kd.int .i64)) Try.underlying22 (by kernel_rfl) (Op.opens_int Try.underlying3)) h3
  obtain ⟨A3, len3, cap3, rfl⟩ := okWide_slice Try.underlying22 (hval 3 22 v3 rfl rfl)
  obtain ⟨A', c', e3, lc3, hr3⟩ := hx3
  have e3' : [Value.slice A3 len3 cap3] = [Value.slice A' x3.length c'] := e3
  injection e3' with e3' _
  injection e3' with eA eL eC
  subst eA eL eC
  refine (walk A0_0 c0_0 x0.1 x0.2 A1_0 c1_0 x1.1 x1.2 A2_0 c2_0 x2.1 x2.2 A3 cap3 x3 W hr0_0 lc0_0 hr1_0 lc1_0 hr2_0 lc2_0 hr3 lc3 gx0.1 gx0.2 gx1.1 gx1.2 gx2.1 gx2.2 gx3).mono fun e W' ⟨he, bel⟩ => ?_
  subst he
  exact ⟨_, rfl, _, _, _, [], _, [], hW', trodAll_mk1 (shut_bool Try.underlying4 _), (trodAll_cons_mk (Below.trod laidOut (by kernel_rfl) (of_decide_eq_true (by kernel_rfl)) k0 bel lt0) (trodAll_cons_mk (Below.trod laidOut (by kernel_rfl) (of_decide_eq_true (by kernel_rfl)) k1 bel lt1) (trodAll_cons_mk (Below.trod laidOut (by kernel_rfl) (of_decide_eq_true (by kernel_rfl)) k2 bel lt2) (trodAll_cons_mk (Below.trod laidOut (by kernel_rfl) (of_decide_eq_true (by kernel_rfl)) k3 bel lt3) trodAll_mk0)))), rfl, bel.frame _, fun h => by cases h⟩
theorem over : Rows.fnExactChoiceSideRow.holds Try.pinned (OpenSpec.ofChange Rows.fnExactChoiceSideSpec) :=
  OpenClaim.holds_of_wide 7 Try.f7 rfl rfl rfl rfl rfl rfl rfl ⟨rfl, rfl, rfl, rfl, rfl⟩ rfl rfl rfl rfl rfl (by kernel_rfl) Try.func7 (by kernel_rfl)
    (of_decide_eq_true (by kernel_rfl)) (by unfold Func.isWrapper; first | (rw [if_pos (by decide +kernel)]; kernel_rfl) | (rw [if_neg (by decide +kernel)]; exact ⟨rfl, rfl⟩))
    (fun os started H enc _ => lifted os started H enc)
end Go.Proofs.Ytihnijfgdffhjaa.RowFnExactChoiceSide
namespace Go.Proofs.Ytihnijfgdffhjaa
/-- The row, under a short name, for the claim. -/
theorem fnExactChoiceSide_holds : Rows.FnExactChoiceSideSaid := RowFnExactChoiceSide.over
#print axioms fnExactChoiceSide_holds
end Go.Proofs.Ytihnijfgdffhjaa
