/- FnExactSinglePlane: for every input the law returns true, and each argument reads behind the call as it read before. No condition but those of the given row. -/
import Derived.Test.YtfkfahdikmfpeaaRows
import Derived.Test.YtfkfahdikmfpeaaGFnExactSinglePlane
import Derived.Test.YtfkfahdikmfpeaaQFnExactSinglePlane
import Derived.Test.YtfkfahdikmfpeaaOp
import Derived.WalkKit
import Derived.ProofKit
import Derived.OpenShut
import Derived.ShutString
import Derived.ChangeOld
import Derived.Below
import Derived.SizedLaws
namespace Go.Proofs.Ytfkfahdikmfpeaa.RowFnExactSinglePlane
open Go.ChangeShapes Go.WideShapes Go.ChangeAt Go.RowKit Go.Proofs.Ytfkfahdikmfpeaa.KFnExactSinglePlane Go.Proofs.Ytfkfahdikmfpeaa Go.Proofs.Ytfkfahdikmfpeaa.PFnExactSinglePlane Go.Proofs.YtfkfahdikmfpeaaW.PrintWords
set_option linter.unusedVariables false
set_option linter.unusedSimpArgs false
theorem own : ownKnob Try.prog.godebug = none := by kernel_rfl
theorem laidOut : laidOutB Try.prog = true := by kernel_rfl
theorem walk (a0_0 : Int) (A0_1 : Option Addr) (c0_1 : Nat) (l0_1 : List (List S146)) (w : World) (hr0_1 : Kd.C (Kd.slice 146 k146) w A0_1 l0_1.length l0_1) (hc0_1 : l0_1.length ≤ c0_1) (g0 : (Lit.int .i64 a0_0).wf = true) (g1 : (l0_1.length ≤ maxLen ∧ ∀ x ∈ l0_1, (x.length ≤ maxLen ∧ ∀ y ∈ x, ((y.f0.length ≤ maxLen ∧ ∀ z ∈ y.f0, (Lit.int .i64 z).wf = true) ∧ (Lit.int .i64 y.f1).wf = true)))) :
    Calls Try.prog 4 #[.agg #[.int .i64 a0_0, .slice A0_1 l0_1.length c0_1]] w fun e w' => e = .returned (.bool true) ∧ Below w.heap.size w w' := by
  rcases QFnExactSinglePlane.pure a0_0 l0_1 g0 g1 with ⟨k, r1, h1, q0⟩ | ⟨k, r1, r5, r6, r8, r9, r10, r26, r27, r34, r35, h1, h2, h3, h4, h5, h6, h7, h8, h9, q0, q1, q2⟩
  · exact GFnExactSinglePlane.big0 k a0_0 A0_1 c0_1 l0_1 r1 w hr0_1 hc0_1 h1 q0
  · exact GFnExactSinglePlane.good k a0_0 A0_1 c0_1 l0_1 r1 r5 r6 r8 r9 r10 r26 r27 r34 r35 w hr0_1 hc0_1 h1 h2 h3 h4 h5 h6 h7 h8 h9 q0 q1 q2
set_option maxRecDepth 100000 in
theorem lifted (os : Os) (started : os.Started) (H : Type) (enc : TypeId × Value → H) :
    ReturnsInHanded {} Try.checked os 4 .any (Rows.fnExactSinglePlaneSpec.pre6 enc Try.prog Try.f4 Rows.fnExactSinglePlaneRow.domain false) (Rows.fnExactSinglePlaneSpec.post enc Try.prog Try.f4 false true false false) := by
  refine returnsInHanded_of_change_sized (C := Try.checked) own started (by kernel_rfl) Try.func4
    (ChangeSpec.witness6 (enc := enc) (C := Try.checked) false ⟨#[], #[.agg #[.int .i64 0, .slice none 0 0]], []⟩ 8 (by kernel_rfl) (by kernel_rfl) (by kernel_rfl) (by kernel_rfl)) ?_
  intro W base args ds gs before hval0 hW hcnd hsz0 _
  have hval : ∀ (j : Nat) t v, Try.f4.params[j]? = some t → args[j]? = some v → Value.okWide Try.prog W .any base t v := hval0
  have hW' := hW
  obtain ⟨p, q, hA0, hV, rfl, hfz, hnd⟩ := hW
  have hA : DataW.TrodAll enc Try.prog W 0 (fun _ => true) true Try.f4.params.toList args.toList ds p := hA0
  rw [Try.params4] at hA hval
  obtain ⟨v0, vs0, d0, ds0, p0, q0, hargs, rfl, rfl, h0, r0⟩ := trodAll_cons hA
  obtain ⟨rfl, rfl, rfl⟩ := trodAll_nil r0
  obtain rfl : args = #[v0] := by cases args; simp_all
  obtain ⟨rfl, rfl⟩ := trodVars_none hV
  haveI : Inhabited S146 := ⟨z146⟩
  have k0 := h0
  have lt0 : ∀ x ∈ p0, x.block < W.heap.size := by obtain ⟨m, hm⟩ := k0; exact DataW.trod_lt m _ _ _ hm
  obtain ⟨x0, hx0, gx0⟩ := Op.opens_arg (Op.opens_struct2 (a := (Kd.int .i64)) (b := (Kd.slice 118 (Kd.slice 146 k146))) Try.underlying36 ⟨rfl, rfl, by kernel_rfl, by kernel_rfl, by kernel_rfl⟩ (Op.opens_int Try.underlying3) (Op.opens_slice (d := (Kd.slice 146 k146)) Try.underlying34 (by kernel_rfl) (Op.opens_slice (d := k146) Try.underlying118 (by kernel_rfl) (Op.opens_iso (f := fun x : S146 => (x.f0, x.f1)) (fun p => (⟨p.1, p.2⟩ : S146)) (fun _ => rfl) (Op.opens_struct2 (a := (Kd.slice 3 (Kd.int .i64))) (b := (Kd.int .i64)) Try.underlying146 ⟨rfl, rfl, by kernel_rfl, by kernel_rfl, by kernel_rfl⟩ (Op.opens_slice (d := (Kd.int .i64)) Try.underlying22 (by kernel_rfl) (Op.opens_int Try.underlying3)) (Op.opens_int Try.underlying3)))))) h0
  obtain ⟨cs0, rfl, hs0⟩ := okWide_struct Try.underlying36 (hval 0 36 v0 rfl rfl)
  obtain ⟨u0, w0, e0, rfl, ⟨A0_1, c0_1, rfl, lc0_1, hr0_1⟩⟩ := hx0
  obtain rfl := Op.agg_of e0
  refine (walk x0.1 A0_1 c0_1 x0.2 W hr0_1 lc0_1 gx0.1 gx0.2).mono fun e W' ⟨he, bel⟩ => ?_
  subst he
  exact ⟨_, rfl, _, _, _, [], _, [], hW', trodAll_mk1 (shut_bool Try.underlying4 _), (trodAll_cons_mk (Below.trod laidOut (by kernel_rfl) (of_decide_eq_true (by kernel_rfl)) k0 bel lt0) trodAll_mk0), rfl, bel.frame _, fun h => by cases h⟩
theorem over : Rows.fnExactSinglePlaneRow.holds Try.pinned (OpenSpec.ofChange Rows.fnExactSinglePlaneSpec) :=
  OpenClaim.holds_of_wide 4 Try.f4 rfl rfl rfl rfl rfl rfl rfl ⟨rfl, rfl, rfl, rfl, rfl⟩ rfl rfl rfl rfl rfl (by kernel_rfl) Try.func4 (by kernel_rfl)
    (of_decide_eq_true (by kernel_rfl)) (by unfold Func.isWrapper; first | (rw [if_pos (by decide +kernel)]; kernel_rfl) | (rw [if_neg (by decide +kernel)]; exact ⟨rfl, rfl⟩))
    (fun os started H enc _ => lifted os started H enc)
end Go.Proofs.Ytfkfahdikmfpeaa.RowFnExactSinglePlane
namespace Go.Proofs.Ytfkfahdikmfpeaa
/-- The row, under a short name, for the claim. -/
theorem fnExactSinglePlane_holds : Rows.FnExactSinglePlaneSaid := RowFnExactSinglePlane.over
#print axioms fnExactSinglePlane_holds
end Go.Proofs.Ytfkfahdikmfpeaa
