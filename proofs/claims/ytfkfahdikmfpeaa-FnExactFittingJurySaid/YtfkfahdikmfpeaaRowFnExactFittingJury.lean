/- FnExactFittingJury: for every input the law returns true, and each argument reads behind the call as it read before. No condition but those of the given row. -/
import Derived.Test.YtfkfahdikmfpeaaRows
import Derived.Test.YtfkfahdikmfpeaaGFnExactFittingJury
import Derived.Test.YtfkfahdikmfpeaaQFnExactFittingJury
import Derived.Test.YtfkfahdikmfpeaaOp
import Derived.WalkKit
import Derived.ProofKit
import Derived.OpenShut
import Derived.ShutString
import Derived.ChangeOld
import Derived.Below
import Derived.SizedLaws
namespace Go.Proofs.Ytfkfahdikmfpeaa.RowFnExactFittingJury
open Go.ChangeShapes Go.WideShapes Go.ChangeAt Go.RowKit Go.Proofs.Ytfkfahdikmfpeaa.KFnExactFittingJury Go.Proofs.Ytfkfahdikmfpeaa Go.Proofs.Ytfkfahdikmfpeaa.PFnExactFittingJury Go.Proofs.YtfkfahdikmfpeaaW.PrintWords
set_option linter.unusedVariables false
set_option linter.unusedSimpArgs false
theorem own : ownKnob Try.prog.godebug = none := by kernel_rfl
theorem laidOut : laidOutB Try.prog = true := by kernel_rfl
theorem walk (A0_0 : Option Addr) (c0_0 : Nat) (l0_0 : List (List Int)) (A0_1 : Option Addr) (c0_1 : Nat) (l0_1 : List Int) (a1 : Int) (w : World) (hr0_0 : Kd.C (Kd.slice 3 (Kd.int .i64)) w A0_0 l0_0.length l0_0) (hc0_0 : l0_0.length ≤ c0_0) (hr0_1 : Kd.C (Kd.int .i64) w A0_1 l0_1.length l0_1) (hc0_1 : l0_1.length ≤ c0_1) (g0 : (l0_0.length ≤ maxLen ∧ ∀ x ∈ l0_0, (x.length ≤ maxLen ∧ ∀ y ∈ x, (Lit.int .i64 y).wf = true))) (g1 : (l0_1.length ≤ maxLen ∧ ∀ x ∈ l0_1, (Lit.int .i64 x).wf = true)) (g2 : (Lit.int .i64 a1).wf = true) :
    Calls Try.prog 11 #[.agg #[.slice A0_0 l0_0.length c0_0, .slice A0_1 l0_1.length c0_1], .int .i64 a1] w fun e w' => e = .returned (.bool true) ∧ Below w.heap.size w w' := by
  rcases QFnExactFittingJury.pure l0_0 l0_1 a1 g0 g1 g2 with ⟨k, r1, h1, q0⟩ | ⟨k, r1, r5, r6, r9, r10, r22, r23, r24, r25, r26, h1, h2, h3, h4, h5, h6, h7, h8, h9, q0, q1, q2⟩
  · exact GFnExactFittingJury.big0 k A0_0 c0_0 l0_0 A0_1 c0_1 l0_1 a1 r1 w hr0_0 hc0_0 hr0_1 hc0_1 h1 q0
  · exact GFnExactFittingJury.good k A0_0 c0_0 l0_0 A0_1 c0_1 l0_1 a1 r1 r5 r6 r9 r10 r22 r23 r24 r25 r26 w hr0_0 hc0_0 hr0_1 hc0_1 h1 h2 h3 h4 h5 h6 h7 h8 h9 q0 q1 q2
set_option maxRecDepth 100000 in
theorem lifted (os : Os) (started : os.Started) (H : Type) (enc : TypeId × Value → H) :
    ReturnsInHanded {} Try.checked os 11 .any (Rows.fnExactFittingJurySpec.pre6 enc Try.prog Try.f11 Rows.fnExactFittingJuryRow.domain false) (Rows.fnExactFittingJurySpec.post enc Try.prog Try.f11 false true false false) := by
  refine returnsInHanded_of_change_sized (C := Try.checked) own started (by kernel_rfl) Try.func11
    (ChangeSpec.witness6 (enc := enc) (C := Try.checked) false ⟨#[], #[.agg #[.slice none 0 0, .slice none 0 0], .int .i64 0], []⟩ 8 (by kernel_rfl) (by kernel_rfl) (by kernel_rfl) (by kernel_rfl)) ?_
  intro W base args ds gs before hval0 hW hcnd hsz0 _
  have hval : ∀ (j : Nat) t v, Try.f11.params[j]? = some t → args[j]? = some v → Value.okWide Try.prog W .any base t v := hval0
  have hW' := hW
  obtain ⟨p, q, hA0, hV, rfl, hfz, hnd⟩ := hW
  have hA : DataW.TrodAll enc Try.prog W 0 (fun _ => true) true Try.f11.params.toList args.toList ds p := hA0
  rw [Try.params11] at hA hval
  obtain ⟨v0, vs0, d0, ds0, p0, q0, hargs, rfl, rfl, h0, r0⟩ := trodAll_cons hA
  obtain ⟨v1, vs1, d1, ds1, p1, q1, rfl, rfl, rfl, h1, r1⟩ := trodAll_cons r0
  obtain ⟨rfl, rfl, rfl⟩ := trodAll_nil r1
  obtain rfl : args = #[v0, v1] := by cases args; simp_all
  obtain ⟨rfl, rfl⟩ := trodVars_none hV
  have k0 := h0
  have lt0 : ∀ x ∈ p0, x.block < W.heap.size := by obtain ⟨m, hm⟩ := k0; exact DataW.trod_lt m _ _ _ hm
  obtain ⟨x0, hx0, gx0⟩ := Op.opens_arg (Op.opens_struct2 (a := (Kd.slice 22 (Kd.slice 3 (Kd.int .i64)))) (b := (Kd.slice 3 (Kd.int .i64))) Try.underlying48 ⟨rfl, rfl, by kernel_rfl, by kernel_rfl, by kernel_rfl⟩ (Op.opens_slice (d := (Kd.slice 3 (Kd.int .i64))) Try.underlying46 (by kernel_rfl) (Op.opens_slice (d := (Kd.int .i64)) Try.underlying22 (by kernel_rfl) (Op.opens_int Try.underlying3))) (Op.opens_slice (d := (Kd.int .i64)) Try.underlying22 (by kernel_rfl) (Op.opens_int Try.underlying3))) h0
  obtain ⟨cs0, rfl, hs0⟩ := okWide_struct Try.underlying48 (hval 0 48 v0 rfl rfl)
  obtain ⟨u0, w0, e0, ⟨A0_0, c0_0, rfl, lc0_0, hr0_0⟩, ⟨A0_1, c0_1, rfl, lc0_1, hr0_1⟩⟩ := hx0
  obtain rfl := Op.agg_of e0
  have k1 := h1
  have lt1 : ∀ x ∈ p1, x.block < W.heap.size := by obtain ⟨m, hm⟩ := k1; exact DataW.trod_lt m _ _ _ hm
  obtain ⟨x1, hx1, gx1⟩ := Op.opens_arg (Op.opens_int Try.underlying3) h1
  obtain ⟨a1, rfl⟩ := okWide_int Try.underlying3 (hval 1 3 v1 rfl rfl)
  obtain rfl : a1 = x1 := by have e : [Value.int .i64 a1] = [Value.int .i64 x1] := hx1; injection e with e _; injection e
  refine (walk A0_0 c0_0 x0.1 A0_1 c0_1 x0.2 a1 W hr0_0 lc0_0 hr0_1 lc0_1 gx0.1 gx0.2 gx1).mono fun e W' ⟨he, bel⟩ => ?_
  subst he
  exact ⟨_, rfl, _, _, _, [], _, [], hW', trodAll_mk1 (shut_bool Try.underlying4 _), (trodAll_cons_mk (Below.trod laidOut (by kernel_rfl) (of_decide_eq_true (by kernel_rfl)) k0 bel lt0) (trodAll_cons_mk (Below.trod laidOut (by kernel_rfl) (of_decide_eq_true (by kernel_rfl)) k1 bel lt1) trodAll_mk0)), rfl, bel.frame _, fun h => by cases h⟩
theorem over : Rows.fnExactFittingJuryRow.holds Try.pinned (OpenSpec.ofChange Rows.fnExactFittingJurySpec) :=
  OpenClaim.holds_of_wide 11 Try.f11 rfl rfl rfl rfl rfl rfl rfl ⟨rfl, rfl, rfl, rfl, rfl⟩ rfl rfl rfl rfl rfl (by kernel_rfl) Try.func11 (by kernel_rfl)
    (of_decide_eq_true (by kernel_rfl)) (by unfold Func.isWrapper; first | (rw [if_pos (by decide +kernel)]; kernel_rfl) | (rw [if_neg (by decide +kernel)]; exact ⟨rfl, rfl⟩))
    (fun os started H enc _ => lifted os started H enc)
end Go.Proofs.Ytfkfahdikmfpeaa.RowFnExactFittingJury
namespace Go.Proofs.Ytfkfahdikmfpeaa
/-- The row, under a short name, for the claim. -/
theorem fnExactFittingJury_holds : Rows.FnExactFittingJurySaid := RowFnExactFittingJury.over
#print axioms fnExactFittingJury_holds
end Go.Proofs.Ytfkfahdikmfpeaa
