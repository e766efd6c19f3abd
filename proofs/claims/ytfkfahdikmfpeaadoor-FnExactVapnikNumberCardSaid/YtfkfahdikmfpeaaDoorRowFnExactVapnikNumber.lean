/- FnExactVapnikNumber: for every input the law returns true, and each argument reads behind the call as it read before. No condition but those of the given row. -/
import Derived.Test.YtfkfahdikmfpeaaDoorRows
import Derived.Test.YtfkfahdikmfpeaaDoorGFnExactVapnikNumber
import Derived.Test.YtfkfahdikmfpeaaDoorQFnExactVapnikNumber
import Derived.Test.YtfkfahdikmfpeaaDoorOp
import Derived.Test.YtfkfahdikmfpeaaDoorLd
import Derived.Test.YtfkfahdikmfpeaaDoorCards
import Derived.Test.YtfkfahdikmfpeaaDoorTie
import Derived.WalkKit
import Derived.ProofKit
import Derived.OpenShut
import Derived.ShutString
import Derived.ChangeOld
import Derived.Below
import Derived.SizedLaws
namespace Go.Proofs.YtfkfahdikmfpeaaDoor.RowFnExactVapnikNumber
open Go.ChangeShapes Go.WideShapes Go.ChangeAt Go.RowKit Go.Proofs.YtfkfahdikmfpeaaDoor.KFnExactVapnikNumber Go.Proofs.YtfkfahdikmfpeaaDoor Go.Proofs.YtfkfahdikmfpeaaDoor.PFnExactVapnikNumber Go.Proofs.YtfkfahdikmfpeaaDoorW.PrintWords
set_option linter.unusedVariables false
set_option linter.unusedSimpArgs false
theorem own : ownKnob Tryd.prog.godebug = none := by kernel_rfl
theorem laidOut : laidOutB Tryd.prog = true := by kernel_rfl
theorem walk (A0 : Option Addr) (c0 : Nat) (l0 : List (List Int)) (w : World) (hr0 : Kd.C (Kd.slice 3 (Kd.int .i64)) w A0 l0.length l0) (hc0 : l0.length ≤ c0) (HTab : Aside0 (TabAt 1 Go.Lib.deBruijn64tab w)) (g0 : (l0.length ≤ maxLen ∧ ∀ x ∈ l0, (x.length ≤ maxLen ∧ ∀ y ∈ x, (Lit.int .i64 y).wf = true))) :
    Calls Tryd.prog 3 #[.slice A0 l0.length c0] w fun e w' => e = .returned (.bool true) ∧ Below w.heap.size w w' := by
  rcases QFnExactVapnikNumber.pure l0 g0 with ⟨k, r1, h1, q0⟩ | ⟨k, r1, r2, r4, r5, h1, h2, h3, h4, h5, q0⟩
  · exact GFnExactVapnikNumber.big0 k A0 c0 l0 r1 w hr0 hc0 HTab h1 q0
  · exact GFnExactVapnikNumber.good k A0 c0 l0 r1 r2 r4 r5 w hr0 hc0 HTab h1 h2 h3 h4 h5 q0
set_option maxRecDepth 100000 in
theorem lifted (os : Os) (started : os.Started) (H : Type) (enc : TypeId × Value → H) :
    ReturnsInHanded {} Tryd.checked os 3 .any (fun w args => (Rows.fnExactVapnikNumberSpec.pre enc Tryd.prog Tryd.f3 Rows.fnExactVapnikNumberRow.domain false w args ∧ laidMet Tryd.prog Rows.fnExactVapnikNumberRow.laid w) ∧ sizedMet enc Tryd.prog Tryd.f3 (OpenSpec.ofChange Rows.fnExactVapnikNumberSpec) false w args) (Rows.fnExactVapnikNumberSpec.post enc Tryd.prog Tryd.f3 false true false false) := by
  refine returnsInHanded_of_change_and (C := Tryd.checked) (X := fun w _ => laidMet Tryd.prog Rows.fnExactVapnikNumberRow.laid w) (fun _ _ _ hh h => h.of_heap hh) own started (by kernel_rfl) Tryd.func3
    (ChangeSpec.witness_at (enc := enc) (C := Tryd.checked) (os := os) (X := fun w _ => laidMet Tryd.prog Rows.fnExactVapnikNumberRow.laid w) false (Ld.laidWorld os) #[.slice none 0 0] 8 rfl (by kernel_rfl) (by kernel_rfl) (by kernel_rfl) (by kernel_rfl) (by kernel_rfl) (Ld.laid_met os _)) ?_
  intro W base args ds gs before hval0 hW hcnd hsz0 hL _
  have hval : ∀ (j : Nat) t v, Tryd.f3.params[j]? = some t → args[j]? = some v → Value.okWide Tryd.prog W .any base t v := hval0
  have hW' := hW
  obtain ⟨p, q, hA0, hV, rfl, hfz, hnd⟩ := hW
  have hA : DataW.TrodAll enc Tryd.prog W 0 (fun _ => true) true Tryd.f3.params.toList args.toList ds p := hA0
  rw [Tryd.params3] at hA hval
  obtain ⟨v0, vs0, d0, ds0, p0, q0, hargs, rfl, rfl, h0, r0⟩ := trodAll_cons hA
  obtain ⟨rfl, rfl, rfl⟩ := trodAll_nil r0
  obtain rfl : args = #[v0] := by cases args; simp_all
  obtain ⟨rfl, rfl⟩ := trodVars_none hV
  have k0 := h0
  have lt0 : ∀ x ∈ p0, x.block < W.heap.size := by obtain ⟨m, hm⟩ := k0; exact DataW.trod_lt m _ _ _ hm
  obtain ⟨x0, hx0, gx0⟩ := Op.opens_arg (Op.opens_slice (d := (Kd.slice 3 (Kd.int .i64))) Tryd.underlying22 (by kernel_rfl) (Op.opens_slice (d := (Kd.int .i64)) Tryd.underlying32 (by kernel_rfl) (Op.opens_int Tryd.underlying3))) h0
  obtain ⟨A0, len0, cap0, rfl⟩ := okWide_slice Tryd.underlying22 (hval 0 22 v0 rfl rfl)
  obtain ⟨A', c', e0, lc0, hr0⟩ := hx0
  have e0' : [Value.slice A0 len0 cap0] = [Value.slice A' x0.length c'] := e0
  injection e0' with e0' _
  injection e0' with eA eL eC
  subst eA eL eC
  refine (walk A0 cap0 x0 W hr0 lc0 ⟨Ld.tab_of_laid hL⟩ gx0).mono fun e W' ⟨he, bel⟩ => ?_
  subst he
  exact ⟨_, rfl, _, _, _, [], _, [], hW', trodAll_mk1 (shut_bool Tryd.underlying4 _), (trodAll_cons_mk (Below.trod laidOut (by kernel_rfl) (of_decide_eq_true (by kernel_rfl)) k0 bel lt0) trodAll_mk0), rfl, bel.frame _, fun h => by cases h⟩
theorem over : Rows.fnExactVapnikNumberRow.holds Tryd.pinned (OpenSpec.ofChange Rows.fnExactVapnikNumberSpec) :=
  OpenClaim.holds_of_wide 3 Tryd.f3 rfl rfl rfl rfl rfl rfl rfl ⟨rfl, rfl, rfl, rfl, rfl⟩ rfl rfl rfl rfl rfl (by kernel_rfl) Tryd.func3 (by kernel_rfl)
    (of_decide_eq_true (by kernel_rfl)) (by unfold Func.isWrapper; first | (rw [if_pos (by decide +kernel)]; kernel_rfl) | (rw [if_neg (by decide +kernel)]; exact ⟨rfl, rfl⟩))
    (fun os started H enc _ => lifted os started H enc)
end Go.Proofs.YtfkfahdikmfpeaaDoor.RowFnExactVapnikNumber
namespace Go.Proofs.YtfkfahdikmfpeaaDoor
open Go in
/-- The card, under a short name, for the claim. -/
theorem fnExactVapnikNumber_holds : Rows.FnExactVapnikNumberCardSaid :=
  Claim7.holds_tied_plain_at .later [] [.data, .data] true (true, "bdb018352aea4c3c0f47c2943781a7bd5db1616db5c245c879a1477a68d71967") false
    RowFnExactVapnikNumber.over (fun _ h => by cases h) (by kernel_rfl) (fun _ h => by cases h) fnExactVapnikNumber_row_tie rfl ⟨rfl, rfl⟩ (by kernel_rfl) rfl
    (fun f fn hf hfn => by
      obtain rfl : f = 3 := Option.some.inj ((show Tryd.prog.funcNamed "loop.example/g01135/laws.FnExactVapnikNumber" = some 3 by kernel_rfl).symm.trans hf) |>.symm
      obtain rfl : fn = Tryd.f3 := (Option.some.inj (Tryd.func3.symm.trans hfn)).symm
      exact ⟨by kernel_rfl, fun j t ht => by
        rw [Tryd.params3] at ht
        have h3 : t = 22 := by
          rcases j with _ | j
          · simpa using ht.symm
          · simp at ht
        subst h3
        exact (show Tryd.prog.wantsStandIn 22 = false by kernel_rfl)⟩)
    (by kernel_rfl)
#print axioms fnExactVapnikNumber_holds
end Go.Proofs.YtfkfahdikmfpeaaDoor
