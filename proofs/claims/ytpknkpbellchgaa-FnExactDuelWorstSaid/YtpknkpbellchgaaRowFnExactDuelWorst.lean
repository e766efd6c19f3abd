/- FnExactDuelWorst: for every input the law returns true, and each argument reads behind the call as it read before. No condition but those of the given row. -/
import Derived.Test.YtpknkpbellchgaaRows
import Derived.Test.YtpknkpbellchgaaGFnExactDuelWorst
import Derived.Test.YtpknkpbellchgaaQFnExactDuelWorst
import Derived.Test.YtpknkpbellchgaaOp
import Derived.WalkKit
import Derived.ProofKit
import Derived.OpenShut
import Derived.ShutString
import Derived.ChangeOld
import Derived.Below
import Derived.SizedLaws
namespace Go.Proofs.Ytpknkpbellchgaa.RowFnExactDuelWorst
open Go.ChangeShapes Go.WideShapes Go.ChangeAt Go.RowKit Go.Proofs.Ytpknkpbellchgaa.KFnExactDuelWorst Go.Proofs.Ytpknkpbellchgaa Go.Proofs.Ytpknkpbellchgaa.PFnExactDuelWorst Go.Proofs.YtpknkpbellchgaaW.PrintWords
set_option linter.unusedVariables false
set_option linter.unusedSimpArgs false
theorem own : ownKnob Try.prog.godebug = none := by kernel_rfl
theorem laidOut : laidOutB Try.prog = true := by kernel_rfl
theorem walk (A0 : Option Addr) (c0 : Nat) (l0 : List Int) (w : World) (hr0 : Kd.C (Kd.int .i64) w A0 l0.length l0) (hc0 : l0.length ≤ c0) (g0 : (l0.length ≤ maxLen ∧ ∀ x ∈ l0, (Lit.int .i64 x).wf = true)) :
    Calls Try.prog 3 #[.slice A0 l0.length c0] w fun e w' => e = .returned (.bool true) ∧ Below w.heap.size w w' := by
  rcases QFnExactDuelWorst.pure l0 g0 with ⟨k, q0⟩ | ⟨k, r1, r3, r4, h1, h2, h3, h4, q0⟩
  · exact GFnExactDuelWorst.big0 k A0 c0 l0  w hr0 hc0  q0
  · exact GFnExactDuelWorst.good k A0 c0 l0 r1 r3 r4 w hr0 hc0 h1 h2 h3 h4 q0
set_option maxRecDepth 100000 in
theorem lifted (os : Os) (started : os.Started) (H : Type) (enc : TypeId × Value → H) :
    ReturnsInHanded {} Try.checked os 3 .any (Rows.fnExactDuelWorstSpec.pre6 enc Try.prog Try.f3 Rows.fnExactDuelWorstRow.domain false) (Rows.fnExactDuelWorstSpec.post enc Try.prog Try.f3 false true false false) := by
  refine returnsInHanded_of_change_sized (C := Try.checked) own started (by kernel_rfl) Try.func3
    (ChangeSpec.witness6 (enc := enc) (C := Try.checked) false ⟨#[], #[.slice none 0 0], []⟩ 8 (by kernel_rfl) (by kernel_rfl) (by kernel_rfl) (by kernel_rfl)) ?_
  intro W base args ds gs before hval0 hW hcnd hsz0 _
  have hval : ∀ (j : Nat) t v, Try.f3.params[j]? = some t → args[j]? = some v → Value.okWide Try.prog W .any base t v := hval0
  have hW' := hW
  obtain ⟨p, q, hA0, hV, rfl, hfz, hnd⟩ := hW
  have hA : DataW.TrodAll enc Try.prog W 0 (fun _ => true) true Try.f3.params.toList args.toList ds p := hA0
  rw [Try.params3] at hA hval
  obtain ⟨v0, vs0, d0, ds0, p0, q0, hargs, rfl, rfl, h0, r0⟩ := trodAll_cons hA
  obtain ⟨rfl, rfl, rfl⟩ := trodAll_nil r0
  obtain rfl : args = #[v0] := by cases args; simp_all
  obtain ⟨rfl, rfl⟩ := trodVars_none hV
  have k0 := h0
  have lt0 : ∀ x ∈ p0, x.block < W.heap.size := by obtain ⟨m, hm⟩ := k0; exact DataW.trod_lt m _ _ _ hm
  obtain ⟨x0, hx0, gx0⟩ := Op.opens_arg (Op.opens_slice (d := (Kd.int .i64)) Try.underlying22 (by kernel_rfl) (Op.opens_int Try.underlying3)) h0
  obtain ⟨A0, len0, cap0, rfl⟩ := okWide_slice Try.underlying22 (hval 0 22 v0 rfl rfl)
  obtain ⟨A', c', e0, lc0, hr0⟩ := hx0
  have e0' : [Value.slice A0 len0 cap0] = [Value.slice A' x0.length c'] := e0
  injection e0' with e0' _
  injection e0' with eA eL eC
  subst eA eL eC
  refine (walk A0 cap0 x0 W hr0 lc0 gx0).mono fun e W' ⟨he, bel⟩ => ?_
  subst he
  exact ⟨_, rfl, _, _, _, [], _, [], hW', trodAll_mk1 (shut_bool Try.underlying4 _), (trodAll_cons_mk (Below.trod laidOut (by kernel_rfl) (of_decide_eq_true (by kernel_rfl)) k0 bel lt0) trodAll_mk0), rfl, bel.frame _, fun h => by cases h⟩
theorem over : Rows.fnExactDuelWorstRow.holds Try.pinned (OpenSpec.ofChange Rows.fnExactDuelWorstSpec) :=
  OpenClaim.holds_of_wide 3 Try.f3 rfl rfl rfl rfl rfl rfl rfl ⟨rfl, rfl, rfl, rfl, rfl⟩ rfl rfl rfl rfl rfl (by kernel_rfl) Try.func3 (by kernel_rfl)
    (of_decide_eq_true (by kernel_rfl)) (by unfold Func.isWrapper; first | (rw [if_pos (by decide +kernel)]; kernel_rfl) | (rw [if_neg (by decide +kernel)]; exact ⟨rfl, rfl⟩))
    (fun os started H enc _ => lifted os started H enc)
end Go.Proofs.Ytpknkpbellchgaa.RowFnExactDuelWorst
namespace Go.Proofs.Ytpknkpbellchgaa
/-- The row, under a short name, for the claim. -/
theorem fnExactDuelWorst_holds : Rows.FnExactDuelWorstSaid := RowFnExactDuelWorst.over
#print axioms fnExactDuelWorst_holds
end Go.Proofs.Ytpknkpbellchgaa
