/- FnExactTracesOf: for every input the law returns true, and each argument reads behind the call as it read before. No condition but those of the given row. -/
import Derived.Test.YtfkfahdikmfpeaaRows
import Derived.Test.YtfkfahdikmfpeaaGFnExactTracesOf
import Derived.Test.YtfkfahdikmfpeaaQFnExactTracesOf
import Derived.Test.YtfkfahdikmfpeaaOp
import Derived.WalkKit
import Derived.ProofKit
import Derived.OpenShut
import Derived.ShutString
import Derived.ChangeOld
import Derived.Below
import Derived.SizedLaws
namespace Go.Proofs.Ytfkfahdikmfpeaa.RowFnExactTracesOf
open Go.ChangeShapes Go.WideShapes Go.ChangeAt Go.RowKit Go.Proofs.Ytfkfahdikmfpeaa.KFnExactTracesOf Go.Proofs.Ytfkfahdikmfpeaa Go.Proofs.Ytfkfahdikmfpeaa.PFnExactTracesOf Go.Proofs.YtfkfahdikmfpeaaW.PrintWords
set_option linter.unusedVariables false
set_option linter.unusedSimpArgs false
theorem own : ownKnob Try.prog.godebug = none := by kernel_rfl
theorem laidOut : laidOutB Try.prog = true := by kernel_rfl
theorem walk (A0 : Option Addr) (c0 : Nat) (l0 : List (List Int)) (A1 : Option Addr) (c1 : Nat) (l1 : List Int) (w : World) (hr0 : Kd.C (Kd.slice 3 (Kd.int .i64)) w A0 l0.length l0) (hc0 : l0.length ≤ c0) (hr1 : Kd.C (Kd.int .i64) w A1 l1.length l1) (hc1 : l1.length ≤ c1) (g0 : (l0.length ≤ maxLen ∧ ∀ x ∈ l0, (x.length ≤ maxLen ∧ ∀ y ∈ x, (Lit.int .i64 y).wf = true))) (g1 : (l1.length ≤ maxLen ∧ ∀ x ∈ l1, (Lit.int .i64 x).wf = true)) :
    Calls Try.prog 6 #[.slice A0 l0.length c0, .slice A1 l1.length c1] w fun e w' => e = .returned (.bool true) ∧ Below w.heap.size w w' := by
  rcases QFnExactTracesOf.pure l0 l1 g0 g1 with ⟨k, q0⟩ | ⟨k, r1, h1, q0, q1⟩ | ⟨k, r1, r2, r4, r6, r7, r14, r15, r16, r17, r18, r19, h1, h2, h3, h4, h5, h6, h7, h8, h9, h10, h11, h12, q0, q1, q2, q3, q4⟩
  · exact GFnExactTracesOf.big0 k A0 c0 l0 A1 c1 l1  w hr0 hc0 hr1 hc1  q0
  · exact GFnExactTracesOf.big1 k A0 c0 l0 A1 c1 l1 r1 w hr0 hc0 hr1 hc1 h1 q0 q1
  · exact GFnExactTracesOf.good k A0 c0 l0 A1 c1 l1 r1 r2 r4 r6 r7 r14 r15 r16 r17 r18 r19 w hr0 hc0 hr1 hc1 h1 h2 h3 h4 h5 h6 h7 h8 h9 h10 h11 h12 q0 q1 q2 q3 q4
set_option maxRecDepth 100000 in
theorem lifted (os : Os) (started : os.Started) (H : Type) (enc : TypeId × Value → H) :
    ReturnsInHanded {} Try.checked os 6 .any (Rows.fnExactTracesOfSpec.pre6 enc Try.prog Try.f6 Rows.fnExactTracesOfRow.domain false) (Rows.fnExactTracesOfSpec.post enc Try.prog Try.f6 false true false false) := by
  refine returnsInHanded_of_change_sized (C := Try.checked) own started (by kernel_rfl) Try.func6
    (ChangeSpec.witness6 (enc := enc) (C := Try.checked) false ⟨#[], #[.slice none 0 0, .slice none 0 0], []⟩ 8 (by kernel_rfl) (by kernel_rfl) (by kernel_rfl) (by kernel_rfl)) ?_
  intro W base args ds gs before hval0 hW hcnd hsz0 _
  have hval : ∀ (j : Nat) t v, Try.f6.params[j]? = some t → args[j]? = some v → Value.okWide Try.prog W .any base t v := hval0
  have hW' := hW
  obtain ⟨p, q, hA0, hV, rfl, hfz, hnd⟩ := hW
  have hA : DataW.TrodAll enc Try.prog W 0 (fun _ => true) true Try.f6.params.toList args.toList ds p := hA0
  rw [Try.params6] at hA hval
  obtain ⟨v0, vs0, d0, ds0, p0, q0, hargs, rfl, rfl, h0, r0⟩ := trodAll_cons hA
  obtain ⟨v1, vs1, d1, ds1, p1, q1, rfl, rfl, rfl, h1, r1⟩ := trodAll_cons r0
  obtain ⟨rfl, rfl, rfl⟩ := trodAll_nil r1
  obtain rfl : args = #[v0, v1] := by cases args; simp_all
  obtain ⟨rfl, rfl⟩ := trodVars_none hV
  have k0 := h0
  have lt0 : ∀ x ∈ p0, x.block < W.heap.size := by obtain ⟨m, hm⟩ := k0; exact DataW.trod_lt m _ _ _ hm
  obtain ⟨x0, hx0, gx0⟩ := Op.opens_arg (Op.opens_slice (d := (Kd.slice 3 (Kd.int .i64))) Try.underlying46 (by kernel_rfl) (Op.opens_slice (d := (Kd.int .i64)) Try.underlying22 (by kernel_rfl) (Op.opens_int Try.underlying3))) h0
  obtain ⟨A0, len0, cap0, rfl⟩ := okWide_slice Try.underlying46 (hval 0 46 v0 rfl rfl)
  obtain ⟨A', c', e0, lc0, hr0⟩ := hx0
  have e0' : [Value.slice A0 len0 cap0] = [Value.slice A' x0.length c'] := e0
  injection e0' with e0' _
  injection e0' with eA eL eC
  subst eA eL eC
  have k1 := h1
  have lt1 : ∀ x ∈ p1, x.block < W.heap.size := by obtain ⟨m, hm⟩ := k1; exact DataW.trod_lt m _ _ _ hm
  obtain ⟨x1, hx1, gx1⟩ := Op.opens_arg (Op.opens_slice (d := (Kd.int .i64)) Try.underlying22 (by kernel_rfl) (Op.opens_int Try.underlying3)) h1
  obtain ⟨A1, len1, cap1, rfl⟩ := okWide_slice Try.underlying22 (hval 1 22 v1 rfl rfl)
  obtain ⟨A', c', e1, lc1, hr1⟩ := hx1
  have e1' : [Value.slice A1 len1 cap1] = [Value.slice A' x1.length c'] := e1
  injection e1' with e1' _
  injection e1' with eA eL eC
  subst eA eL eC
  refine (walk A0 cap0 x0 A1 cap1 x1 W hr0 lc0 hr1 lc1 gx0 gx1).mono fun e W' ⟨he, bel⟩ => ?_
  subst he
  exact ⟨_, rfl, _, _, _, [], _, [], hW', trodAll_mk1 (shut_bool Try.underlying4 _), (trodAll_cons_mk (Below.trod laidOut (by kernel_rfl) (of_decide_eq_true (by kernel_rfl)) k0 bel lt0) (trodAll_cons_mk (Below.trod laidOut (by kernel_rfl) (of_decide_eq_true (by kernel_rfl)) k1 bel lt1) trodAll_mk0)), rfl, bel.frame _, fun h => by cases h⟩
theorem over : Rows.fnExactTracesOfRow.holds Try.pinned (OpenSpec.ofChange Rows.fnExactTracesOfSpec) :=
  OpenClaim.holds_of_wide 6 Try.f6 rfl rfl rfl rfl rfl rfl rfl ⟨rfl, rfl, rfl, rfl, rfl⟩ rfl rfl rfl rfl rfl (by kernel_rfl) Try.func6 (by kernel_rfl)
    (of_decide_eq_true (by kernel_rfl)) (by unfold Func.isWrapper; first | (rw [if_pos (by decide +kernel)]; kernel_rfl) | (rw [if_neg (by decide +kernel)]; exact ⟨rfl, rfl⟩))
    (fun os started H enc _ => lifted os started H enc)
end Go.Proofs.Ytfkfahdikmfpeaa.RowFnExactTracesOf
namespace Go.Proofs.Ytfkfahdikmfpeaa
/-- The row, under a short name, for the claim. -/
theorem fnExactTracesOf_holds : Rows.FnExactTracesOfSaid := RowFnExactTracesOf.over
#print axioms fnExactTracesOf_holds
end Go.Proofs.Ytfkfahdikmfpeaa
