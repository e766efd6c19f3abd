/- The functions of the laws that mark rows of rows: what their calls do. -/
import Derived.Test.YtfkfahdikmfpeaaDoorPFnExactShatteredSetsx
import Derived.Test.YtfkfahdikmfpeaaDoorMc
import Derived.Test.YtfkfahdikmfpeaaDoorSl
namespace Go.Proofs.YtfkfahdikmfpeaaDoor.KFnExactShatteredSets
open Go.RowKit Go.Proofs.YtfkfahdikmfpeaaDoor.Sl Go.Proofs.YtfkfahdikmfpeaaDoor.Sh Go.Proofs.YtfkfahdikmfpeaaDoor.Mc Go.Proofs.YtfkfahdikmfpeaaDoor.PFnExactShatteredSets Go.Proofs.YtfkfahdikmfpeaaDoorW.PrintWords Go.Proofs.YtfkfahdikmfpeaaDoorW.PrintLast Go.Proofs.YtfkfahdikmfpeaaDoorW.PrintMore
set_option linter.unusedVariables false
set_option linter.unusedSimpArgs false
def rdR {α : Type} (xs : List (List α)) (i : Int) : List α := xs.getD i.toNat []
theorem rdR_nat {α : Type} (xs : List (List α)) (i : Nat) : rdR xs (i : Int) = xs.getD i [] := by simp [rdR]
/-! ### laws_markIntSS: function 12 -/
def laws_markIntSS.l0 : Nat → List (List Int) → Int → Int → Option (Int × List (List Int))
 | 0, _, _, _ => none
 | k + 1, x0, x1, x5 => if x5 < (x0.length : Int) then (if 0 ≤ x5 then ((laws_markIntS.f k (rdR x0 x5) x1).bind fun b => laws_markIntSS.l0 k (x0.set (x5 : Int).toNat b.2) b.1 (wrap64 (x5 + 1))) else none) else some (x1, x0)
def laws_markIntSS.f (k : Nat) (l0 : List (List Int)) (a1 : Int) : Option (Int × List (List Int)) := laws_markIntSS.l0 k l0 a1 0
set_option maxHeartbeats 8000000 in
set_option maxRecDepth 100000 in
theorem laws_markIntSS.calls (k : Nat) (P0_ : Nat → Prop) (u9000_ : Value) (l0 : List (List Int)) (a1 : Int) (r1 : Int) (r2 : List (List Int)) (w0 w : World) (hB : Below w0.heap.size w0 w) (ho0 : Kd.S (Kd.slice 3 (Kd.int .i64)) 32 w w0.heap.size P0_ u9000_ l0) (h : laws_markIntSS.f k l0 a1 = some (r1, r2)) :
 Calls Tryd.prog 12 #[u9000_, .int .i64 a1] w fun e w' => e = .returned (.int .i64 r1) ∧ Kd.S (Kd.slice 3 (Kd.int .i64)) 32 w' w0.heap.size (fun k_ => (P0_ k_ ∨ w.heap.size ≤ k_)) u9000_ r2 ∧ Below w0.heap.size w0 w' ∧ Kept w w' (fun k_ => P0_ k_) := by
 have HO0 := Aside0.mk (show Kd.S (Kd.slice 3 (Kd.int .i64)) 32 w w0.heap.size (fun k_ => (P0_ k_ ∨ w.heap.size ≤ k_)) u9000_ l0 from Kd.S_mono ho0 (fun k_ hk => (.inl hk))); have HK := Aside0.mk (Kept.refl w (fun k_ => P0_ k_)); have HB := Aside0.mk hB; clear hB ho0; have H' := Aside0.mk (show laws_markIntSS.l0 k l0 a1 0 = some (r1, r2) from h); clear h; go_enter Tryd.func12, Tryd.ntmps12; go_wp2; go_loopg [1, 5] k (fun kq v1 v5 w' => ∃ (x0_1 : List (List Int)) (x1_1 : Int) (x5_1 : Int), v1 = .int .i64 x1_1 ∧ v5 = .int .i64 x5_1 ∧ Aside0 (laws_markIntSS.l0 kq x0_1 x1_1 x5_1 = some (r1, r2)) ∧ Aside0 (kq ≤ k) ∧ Aside0 (Kd.S (Kd.slice 3 (Kd.int .i64)) 32 w' w0.heap.size (fun k_ => (P0_ k_ ∨ w.heap.size ≤ k_)) u9000_ x0_1) ∧ Aside0 (Kept w w' (fun k_ => P0_ k_)) ∧ Aside0 (Below w0.heap.size w0 w'))
 case atStart => exact ⟨l0, a1, 0, rfl, rfl, H', ⟨Nat.le_refl _⟩, HO0, HK, HB⟩
 case round =>
  clear H' HO0 HK HB; obtain ⟨x0_1, x1_1, x5_1, rfl, rfl, HA, HK1, HO, HK, HB⟩ := hrel; cases gk with
  | zero => exact absurd HA.out (by simp [laws_markIntSS.l0])
  | succ k1 =>
   have H := HA.out; clear HA; simp only [laws_markIntSS.l0] at H; obtain ⟨A6, c6, e6⟩ := Kd.S_slice HO.out; subst e6; by_cases c3 : x5_1 < (x0_1.length : Int)
   · rw [if_pos c3] at H; by_cases c4 : 0 ≤ x5_1
     · rw [if_pos c4] at H; obtain ⟨⟨t1, t2⟩, hf, H⟩ := Option.bind_eq_some_iff.mp H; have HF := Aside0.mk hf; have H' := Aside0.mk H; clear hf H; obtain ⟨g, cap, eg, gb, gl, cl, hcl⟩ := Kd.S_form HO.out (by omega); injection eg with ea _ ec
       subst ea ec; have GG := Aside0.mk hcl; clear gb gl hcl; obtain ⟨oki, c, hc1, hM, hcell, hoki, hH⟩ := Kd.S_lend HO.out ([] : List Int) x5_1 c4 c3; obtain ⟨v, rfl, hR⟩ := hM; have hx : wr.cell? ⟨g, x5_1.toNat, none⟩ = some v := by have := hcell 0 v rfl; rwa [show x5_1.toNat * (Kd.slice 3 (Kd.int .i64)).sz + 0 = x5_1.toNat from by show x5_1.toNat * 1 + 0 = _; omega] at this
       have HH := Aside0.mk hH; have HR := Aside0.mk hR; have HI := Aside0.mk hoki; clear hH hR hoki hcell hc1; have c3b : decide (x5_1 < (x0_1.length : Int)) = true := decide_eq_true c3; have c4b : decide (0 ≤ x5_1) = true := decide_eq_true c4; have p5 := eq_true c4; have q5 := eq_true c3; clear c3 c4; go_wp2_with (fail)
       refine (laws_markIntS.calls k1 oki v (rdR x0_1 x5_1) x1_1 t1 t2 w0 wr HB.out HR.out HF.out).mono ?_; rintro e w1 ⟨rfl, hR1, hB1, hK1⟩; have HO1 := Aside0.mk (Kd.H_back (Kd.H_step (Kd.H_widen HH.out) (fun k_ _ hn_ hl_ => hK1.2 k_ hl_ (fun h_ => hn_ (.inl h_)))) (x' := t2) (okp := fun k_ => oki k_ ∨ wr.heap.size ≤ k_) ⟨v, rfl, hR1⟩ (fun k_ h_ => h_.elim .inl (fun h2_ => .inr ⟨.inr (Nat.le_trans HK.out.1 h2_), h2_⟩))); have HK2 := Aside0.mk (Kept.then_ HK.out hK1 (fun k_ h_ => (HI.out k_ h_).1)); have HB2 := Aside0.mk hB1; clear HO HK HB HH HR hR1 hB1 hK1 hx; go_wp2; go_roundg k1
       case measure => have := HK1.out; omega
       case rel => exact ⟨_, t1, wrap64 (x5_1 + 1), rfl, rfl, H', ⟨by have := HK1.out; omega⟩, HO1, HK2, HB2⟩
     · rw [if_neg c4] at H; exact absurd H (by simp)
   · rw [if_neg c3] at H; simp only [Option.some.injEq, Prod.mk.injEq] at H; obtain ⟨rfl, rfl⟩ := H; have c3b : decide (x5_1 < (x0_1.length : Int)) = false := decide_eq_false c3; clear c3; go_wp2; go_ret
     exact ⟨rfl, HO.out, HB.out, HK.out⟩
end Go.Proofs.YtfkfahdikmfpeaaDoor.KFnExactShatteredSets
