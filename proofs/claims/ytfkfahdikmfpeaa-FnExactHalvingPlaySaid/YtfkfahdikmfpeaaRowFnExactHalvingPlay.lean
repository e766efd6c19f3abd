/- FnExactHalvingPlay: for every input the law returns true, and each argument reads behind the call as it read before. No condition but those of the given row. -/
import Derived.Test.YtfkfahdikmfpeaaRows
import Derived.Test.YtfkfahdikmfpeaaGFnExactHalvingPlay
import Derived.Test.YtfkfahdikmfpeaaQFnExactHalvingPlay
import Derived.Test.YtfkfahdikmfpeaaOp
import Derived.WalkKit
import Derived.ProofKit
import Derived.OpenShut
import Derived.ShutString
import Derived.ChangeOld
import Derived.Below
import Derived.SizedLaws
namespace Go.Proofs.Ytfkfahdikmfpeaa.RowFnExactHalvingPlay
open Go.ChangeShapes Go.WideShapes Go.ChangeAt Go.RowKit Go.Proofs.Ytfkfahdikmfpeaa.KFnExactHalvingPlay Go.Proofs.Ytfkfahdikmfpeaa Go.Proofs.Ytfkfahdikmfpeaa.PFnExactHalvingPlay Go.Proofs.YtfkfahdikmfpeaaW.PrintWords
set_option linter.unusedVariables false
set_option linter.unusedSimpArgs false
theorem own : ownKnob Try.prog.godebug = none := by kernel_rfl
theorem laidOut : laidOutB Try.prog = true := by kernel_rfl
theorem walk (A0 : Option Addr) (c0 : Nat) (l0 : List (List Int)) (a1 : Int) (A2 : Option Addr) (c2 : Nat) (l2 : List Int) (w : World) (hr0 : Kd.C (Kd.slice 3 (Kd.int .i64)) w A0 l0.length l0) (hc0 : l0.length ≤ c0) (hr2 : Kd.C (Kd.int .i64) w A2 l2.length l2) (hc2 : l2.length ≤ c2) (g0 : (l0.length ≤ maxLen ∧ ∀ x ∈ l0, (x.length ≤ maxLen ∧ ∀ y ∈ x, (Lit.int .i64 y).wf = true))) (g1 : (Lit.int .i64 a1).wf = true) (g2 : (l2.length ≤ maxLen ∧ ∀ x ∈ l2, (Lit.int .i64 x).wf = true)) :
    Calls Try.prog 7 #[.slice A0 l0.length c0, .int .i64 a1, .slice A2 l2.length c2] w fun e w' => e = .returned (.bool true) ∧ Below w.heap.size w w' := by
  rcases QFnExactHalvingPlay.pure l0 a1 l2 g0 g1 g2 with ⟨k, q0⟩ | ⟨k, r1, h1, q0, q1⟩ | ⟨k, r1, r2, r4, r6, r7, r14, r15, r16, r17, r18, r19, h1, h2, h3, h4, h5, h6, h7, h8, h9, h10, h11, h12, q0, q1, q2, q3, q4⟩
  · exact GFnExactHalvingPlay.big0 k A0 c0 l0 a1 A2 c2 l2  w hr0 hc0 hr2 hc2  q0
  · exact GFnExactHalvingPlay.big1 k A0 c0 l0 a1 A2 c2 l2 r1 w hr0 hc0 hr2 hc2 h1 q0 q1
  · exact GFnExactHalvingPlay.good k A0 c0 l0 a1 A2 c2 l2 r1 r2 r4 r6 r7 r14 r15 r16 r17 r18 r19 w hr0 hc0 hr2 hc2 h1 h2 h3 h4 h5 h6 h7 h8 h9 h10 h11 h12 q0 q1 q2 q3 q4
set_option maxRecDepth 100000 in
theorem lifted (os : Os) (started : os.Started) (H : Type) (enc : TypeId × Value → H) :
    ReturnsInHanded {} Try.checked os 7 .any (Rows.fnExactHalvingPlaySpec.pre6 enc Try.prog Try.f7 Rows.fnExactHalvingPlayRow.domain false) (Rows.fnExactHalvingPlaySpec.post enc Try.prog Try.f7 false true false false) := by
  refine returnsInHanded_of_change_sized (C := Try.checked) own started (by kernel_rfl) Try.func7
    (ChangeSpec.witness6 (enc := enc) (C := Try.checked) false ⟨#[], #[.slice none 0 0, .int .i64 0, .slice none 0 0], []⟩ 8 (by kernel_rfl) (by kernel_rfl) (by kernel_rfl) (by kernel_rfl)) ?_
  intro W base args ds gs before hval0 hW hcnd hsz0 _
  have hval : ∀ (j : Nat) t v, Try.f7.params[j]? = some t → args[j]? = some v → Value.okWide Try.prog W .any base t v := hval0
  have hW' := hW
  obtain ⟨p, q, hA0, hV, rfl, hfz, hnd⟩ := hW
  have hA : DataW.TrodAll enc Try.prog W 0 (fun _ => true) true Try.f7.params.toList args.toList ds p := hA0
  rw [Try.params7] at hA hval
  obtain ⟨v0, vs0, d0, ds0, p0, q0, hargs, rfl, rfl, h0, r0⟩ := trodAll_cons hA
  obtain ⟨v1, vs1, d1, ds1, p1, q1, rfl, rfl, rfl, h1, r1⟩ := trodAll_cons r0
  obtain ⟨v2, vs2, d2, ds2, p2, q2, rfl, rfl, rfl, h2, r2⟩ := trodAll_cons r1
  obtain ⟨rfl, rfl, rfl⟩ := trodAll_nil r2
  obtain rfl : args = #[v0, v1, v2] := by cases args; simp_all
  obtain ⟨rfl, rfl⟩ := trodVars_none hV
  have k0 := h0
  have lt0 : ∀ x ∈ p0, x.block < W.heap.size := by obtain ⟨m, hm⟩ := k0; exact DataW.trod_lt m _ _ _ hm
  obtain ⟨x0, hx0, gx0⟩ := Op.opens_arg (Op.opens_slice (d := (Kd.slice 3 (Kd.int .i64))) Try.underlying46 (by kernel_rfl) (Op.opens_slice (d := (Kd.int .i64)) Try.underlying22 (by kernel_rfl) (Op.opens_int Try.underlying3))) h0
  obtain ⟨A0, len0, cap0, rfl⟩ := okWide_slice Try.underlying46 (hval 0 46 v0 rfl rfl)
  obtain ⟨A', c', e0, lc0, hr0⟩ := hx0
  have e0' : [Value.slice A0 len0 cap0] = [Value.slice A' x0.length c'] := e0
  injection e0' with e0' _
  injection e0' with eA eL eC
  subst eA eL eC
  have k1 := h1
  have lt1 : ∀ x ∈ p1, x.block < W.heap.size := by obtain ⟨m, hm⟩ := k1; exact DataW.trod_lt m _ _ _ hm
  obtain ⟨x1, hx1, gx1⟩ := Op.opens_arg (Op.opens_int Try.underlying3) h1
  obtain ⟨a1, rfl⟩ := okWide_int Try.underlying3 (hval 1 3 v1 rfl rfl)
  obtain rfl : a1 = x1 := by have e : [Value.int .i64 a1] = [Value.int .i64 x1] := hx1; injection e with e _; injection e
  have k2 := h2
  have lt2 : ∀ x ∈ p2, x.block < W.heap.size := by obtain ⟨m, hm⟩ := k2; exact DataW.trod_lt m _ _ _ hm
  obtain ⟨x2, hx2, gx2⟩ := Op.opens_arg (Op.opens_slice (d := (Kd.int .i64)) Try.underlying22 (by kernel_rfl) (Op.opens_int Try.underlying3)) h2
  obtain ⟨A2, len2, cap2, rfl⟩ := okWide_slice Try.underlying22 (hval 2 22 v2 rfl rfl)
  obtain ⟨A', c', e2, lc2, hr2⟩ := hx2
  have e2' : [Value.slice A2 len2 cap2] = [Value.slice A' x2.length c'] := e2
  injection e2' with e2' _
  injection e2' with eA eL eC
  subst eA eL eC
  refine (walk A0 cap0 x0 a1 A2 cap2 x2 W hr0 lc0 hr2 lc2 gx0 gx1 gx2).mono fun e W' ⟨he, bel⟩ => ?_
  subst he
  exact ⟨_, rfl, _, _, _, [], _, [], hW', trodAll_mk1 (shut_bool Try.underlying4 _), (trodAll_cons_mk (Below.trod laidOut (by kernel_rfl) (of_decide_eq_true (by kernel_rfl)) k0 bel lt0) (trodAll_cons_mk (Below.trod laidOut (by kernel_rfl) (of_decide_eq_true (by kernel_rfl)) k1 bel lt1) (trodAll_cons_mk (Below.trod laidOut (by kernel_rfl) (of_decide_eq_true (by kernel_rfl)) k2 bel lt2) trodAll_mk0))), rfl, bel.frame _, fun h => by cases h⟩
theorem over : Rows.fnExactHalvingPlayRow.holds Try.pinned (OpenSpec.ofChange Rows.fnExactHalvingPlaySpec) :=
  OpenClaim.holds_of_wide 7 Try.f7 rfl rfl rfl rfl rfl rfl rfl ⟨rfl, rfl, rfl, rfl, rfl⟩ rfl rfl rfl rfl rfl (by kernel_rfl) Try.func7 (by kernel_rfl)
    (of_decide_eq_true (by kernel_rfl)) (by unfold Func.isWrapper; first | (rw [if_pos (by decide +kernel)]; kernel_rfl) | (rw [if_neg (by decide +kernel)]; exact ⟨rfl, rfl⟩))
    (fun os started H enc _ => lifted os started H enc)
end Go.Proofs.Ytfkfahdikmfpeaa.RowFnExactHalvingPlay
namespace Go.Proofs.Ytfkfahdikmfpeaa
/-- The row, under a short name, for the claim. -/
theorem fnExactHalvingPlay_holds : Rows.FnExactHalvingPlaySaid := RowFnExactHalvingPlay.over
#print axioms fnExactHalvingPlay_holds
end Go.Proofs.Ytfkfahdikmfpeaa
