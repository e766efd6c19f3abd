/- The functions of the laws that mark rows of rows: what their calls do. -/
import Derived.Test.YtfkfahdikmfpeaaPFnExactNetOfPairx
import Derived.Test.YtfkfahdikmfpeaaMc
import Derived.Test.YtfkfahdikmfpeaaSl
namespace Go.Proofs.Ytfkfahdikmfpeaa.KFnExactNetOfPair
open Go.RowKit Go.Proofs.Ytfkfahdikmfpeaa.Sl Go.Proofs.Ytfkfahdikmfpeaa.Sh Go.Proofs.Ytfkfahdikmfpeaa.Mc Go.Proofs.Ytfkfahdikmfpeaa.PFnExactNetOfPair Go.Proofs.YtfkfahdikmfpeaaW.PrintWords Go.Proofs.YtfkfahdikmfpeaaW.PrintLast Go.Proofs.YtfkfahdikmfpeaaW.PrintMore
set_option linter.unusedVariables false
set_option maxHeartbeats 8000000
set_option maxRecDepth 100000
set_option linter.unusedSimpArgs false
def rdR {α : Type} (xs : List (List α)) (i : Int) : List α := xs.getD i.toNat []
theorem rdR_nat {α : Type} (xs : List (List α)) (i : Nat) : rdR xs (i : Int) = xs.getD i [] := by simp [rdR]
def laws_markPlaneS.l0 : Nat → List S39 → Int → Int → Option (Int × List S39)
 | 0, _, _, _ => none
 | k + 1, x0, x1, x5 => if x5 < (x0.length : Int) then (if 0 ≤ x5 then ((laws_markIntS.f k (rd_T39 x0 x5).f0 x1).bind fun b => laws_markPlaneS.l0 k (x0.set (x5 : Int).toNat ⟨b.2, b.1⟩) (wrap64 (b.1 + 1)) (wrap64 (x5 + 1))) else none) else some (x1, x0)
def laws_markPlaneS.f (k : Nat) (l0 : List S39) (a1 : Int) : Option (Int × List S39) := laws_markPlaneS.l0 k l0 a1 0
theorem laws_markPlaneS.calls (k : Nat) (P0_ : Nat → Prop) (u9000_ : Value) (l0 : List S39) (a1 : Int) (r1 : Int) (r2 : List S39) (w0 w : World) (hB : Below w0.heap.size w0 w) (ho0 : Kd.S k39 39 w w0.heap.size P0_ u9000_ l0) (h : laws_markPlaneS.f k l0 a1 = some (r1, r2)) :
 Calls Try.prog 47 #[u9000_, .int .i64 a1] w fun e w' => e = .returned (.int .i64 r1) ∧ Kd.S k39 39 w' w0.heap.size (fun k_ => (P0_ k_ ∨ w.heap.size ≤ k_)) u9000_ r2 ∧ Below w0.heap.size w0 w' ∧ Kept w w' (fun k_ => P0_ k_) := by
 have HO0 := Aside0.mk (show Kd.S k39 39 w w0.heap.size (fun k_ => (P0_ k_ ∨ w.heap.size ≤ k_)) u9000_ l0 from Kd.S_mono ho0 (fun k_ hk => (.inl hk))); have HK := Aside0.mk (Kept.refl w (fun k_ => P0_ k_)); have HB := Aside0.mk hB; have HG0 := Aside0.mk (fun k_ (h_ : u9000_.ownBlock = some k_) => (Kd.S_R ho0).1 k_ h_); clear hB ho0; have H' := Aside0.mk (show laws_markPlaneS.l0 k l0 a1 0 = some (r1, r2) from h); clear h; go_enter Try.func47, Try.ntmps47; go_wp2; go_loopg [1, 5] k (fun kq v1 v5 w' => ∃ (x0_1 : List S39) (x1_1 : Int) (x5_1 : Int), v1 = .int .i64 x1_1 ∧ v5 = .int .i64 x5_1 ∧ Aside0 (laws_markPlaneS.l0 kq x0_1 x1_1 x5_1 = some (r1, r2)) ∧ Aside0 (kq ≤ k) ∧ Aside0 (Kd.S k39 39 w' w0.heap.size (fun k_ => (P0_ k_ ∨ w.heap.size ≤ k_)) u9000_ x0_1) ∧ Aside0 (Kept w w' (fun k_ => P0_ k_)) ∧ Aside0 (Below w0.heap.size w0 w'))
 case atStart => exact ⟨l0, a1, 0, rfl, rfl, H', ⟨Nat.le_refl _⟩, HO0, HK, HB⟩
 case round =>
  clear H' HO0 HK HB; obtain ⟨x0_1, x1_1, x5_1, rfl, rfl, HA, HK1, HO, HK, HB⟩ := hrel; cases gk with
  | zero => exact absurd HA.out (by simp [laws_markPlaneS.l0])
  | succ k1 =>
   have H := HA.out; clear HA; simp only [laws_markPlaneS.l0] at H; obtain ⟨A6, c6, e6⟩ := Kd.S_slice HO.out; subst e6; by_cases c3 : x5_1 < (x0_1.length : Int)
   · rw [if_pos c3] at H; by_cases c4 : 0 ≤ x5_1
     · rw [if_pos c4] at H; obtain ⟨⟨t1, t2⟩, hf, H⟩ := Option.bind_eq_some_iff.mp H; have HF := Aside0.mk hf; have H' := Aside0.mk H; clear hf H; obtain ⟨g, cap, eg, gb, gl, cl, hcl⟩ := Kd.S_form HO.out (by omega); injection eg with ea _ ec
       subst ea ec; have GG := Aside0.mk hcl; have GE := Aside0.mk gb; clear gb gl hcl; obtain ⟨oki, c, hc1, hM, hcell, hoki, hH⟩ := Kd.S_lend HO.out z39 x5_1 c4 c3; obtain ⟨v, rfl, hR⟩ := k39_openM hM; have hx : wr.cell? ⟨g, x5_1.toNat * 2, none⟩ = some v := hcell 0 v rfl; have HH := Aside0.mk hH; have HR := Aside0.mk (show Kd.R (Kd.int .i64) 3 wr w0.heap.size oki v (rd_T39 x0_1 x5_1).f0 from hR); have HI := Aside0.mk hoki; clear hH hR hM hoki hcell hc1; have C3 := Aside0.mk c3; have C4 := Aside0.mk c4; have c3b : decide (x5_1 < (x0_1.length : Int)) = true := decide_eq_true c3; have c4b : decide (0 ≤ x5_1) = true := decide_eq_true c4; have p5 := eq_true c4; have q5 := eq_true c3; clear c3 c4; go_wp2_with (fail)
       refine (laws_markIntS.calls k1 oki v (rd_T39 x0_1 x5_1).f0 x1_1 t1 t2 w0 wr HB.out HR.out HF.out).mono ?_; rintro e w1 ⟨rfl, hR1, hB1, hK1⟩; have HO1 := Aside0.mk (Kd.H_back (Kd.H_step (Kd.H_widen HH.out) (fun k_ _ hn_ hl_ => hK1.2 k_ hl_ (fun h_ => hn_ (.inl h_)))) (x' := (⟨t2, (rd_T39 x0_1 x5_1).f1⟩ : S39)) (okp := fun k_ => oki k_ ∨ wr.heap.size ≤ k_) (k39_mkM _ _ _ (⟨t2, (rd_T39 x0_1 x5_1).f1⟩ : S39) hR1) (fun k_ h_ => h_.elim .inl (fun h2_ => .inr ⟨.inr (Nat.le_trans HK.out.1 h2_), h2_⟩))); have HK2 := Aside0.mk (Kept.then_ HK.out hK1 (fun k_ h_ => (HI.out k_ h_).1)); have HB2 := Aside0.mk hB1; clear HO HK HB HH HR hR1 hB1 hK1 hx; have c3' : x5_1 < ((x0_1.set x5_1.toNat (⟨t2, (rd_T39 x0_1 x5_1).f1⟩ : S39)).length : Int) := by rw [List.length_set]; exact C3.out
       obtain ⟨oki2, cc, hcl2, hM2, hcc2, hfr2, hoki2, hH2⟩ := Kd.S_elem HO1.out z39 x5_1 C4.out C3.out; have hget : (x0_1.set x5_1.toNat (⟨t2, (rd_T39 x0_1 x5_1).f1⟩ : S39)).getD x5_1.toNat z39 = (⟨t2, (rd_T39 x0_1 x5_1).f1⟩ : S39) := by
        have := C3.out; have := C4.out; simp [List.getD_eq_getElem?_getD, show x5_1.toNat < x0_1.length by omega]
       rw [hget] at hM2; obtain ⟨v2, rfl, hR2⟩ := k39_openM hM2; have HP := Kd.S_seg0 hH2 C4.out C3.out (seg := [.int .i64 t1]) (j := 1) (show 1 + 1 ≤ 2 from by decide) (x' := (⟨t2, t1⟩ : S39)) (k39_mkM _ _ _ (⟨t2, t1⟩ : S39) hR2) (fun _ hk => hk); rw [List.set_set] at HP; have hx1 : w1.cell? ⟨g, x5_1.toNat * 2 + 1, none⟩ = some (.int .i64 (rd_T39 x0_1 x5_1).f1) := hcc2 1 _ rfl; have hf1 : w1.frozen? ⟨g, x5_1.toNat * 2 + 1, none⟩ = false := hfr2 1; have HGB := Aside0.mk (show P0_ g from HG0.out g rfl); clear hcl2 hM2 hcc2 hfr2 hoki2 hH2 hget c3' hR2; go_wp2_with (fail)
       have HS2 := Aside0.mk (show Kd.S k39 39 (w1.setCell ⟨g, x5_1.toNat * 2 + 1, none⟩ (.int .i64 t1)) w0.heap.size (fun k_ => (P0_ k_ ∨ w.heap.size ≤ k_)) (.slice (some ⟨g, 0, none⟩) x0_1.length c6) (x0_1.set x5_1.toNat (⟨t2, t1⟩ : S39)) from HP.1); have HK3 := Aside0.mk (Kept.of_grown (S := (fun k_ => P0_ k_)) (show w1.grownBy (w1.setCell ⟨g, x5_1.toNat * 2 + 1, none⟩ (.int .i64 t1)) (some g) from HP.2) HK2.out (fun k_ e_ => by have e2_ : g = k_ := (by injection e_); rw [← e2_]; exact .inl HGB.out)); have HB3 := Aside0.mk (show Below w0.heap.size w0 (w1.setCell ⟨g, x5_1.toNat * 2 + 1, none⟩ (.int .i64 t1)) from below_set HB2.out GE.out); go_roundg k1
       case measure => have := HK1.out; omega
       case rel => exact ⟨_, wrap64 (t1 + 1), wrap64 (x5_1 + 1), rfl, rfl, H', ⟨by have := HK1.out; omega⟩, HS2, HK3, HB3⟩
     · rw [if_neg c4] at H; exact absurd H (by simp)
   · rw [if_neg c3] at H; simp only [Option.some.injEq, Prod.mk.injEq] at H; obtain ⟨rfl, rfl⟩ := H; have c3b : decide (x5_1 < (x0_1.length : Int)) = false := decide_eq_false c3; clear c3; go_wp2; go_ret
     exact ⟨rfl, HO.out, HB.out, HK.out⟩
def laws_markPlaneSS.l0 : Nat → List (List S39) → Int → Int → Option (Int × List (List S39))
 | 0, _, _, _ => none
 | k + 1, x0, x1, x5 => if x5 < (x0.length : Int) then (if 0 ≤ x5 then ((laws_markPlaneS.f k (rdR x0 x5) x1).bind fun b => laws_markPlaneSS.l0 k (x0.set (x5 : Int).toNat b.2) b.1 (wrap64 (x5 + 1))) else none) else some (x1, x0)
def laws_markPlaneSS.f (k : Nat) (l0 : List (List S39)) (a1 : Int) : Option (Int × List (List S39)) := laws_markPlaneSS.l0 k l0 a1 0
theorem laws_markPlaneSS.calls (k : Nat) (P0_ : Nat → Prop) (u9000_ : Value) (l0 : List (List S39)) (a1 : Int) (r1 : Int) (r2 : List (List S39)) (w0 w : World) (hB : Below w0.heap.size w0 w) (ho0 : Kd.S (Kd.sliceS 39 k39) 65 w w0.heap.size P0_ u9000_ l0) (h : laws_markPlaneSS.f k l0 a1 = some (r1, r2)) :
 Calls Try.prog 63 #[u9000_, .int .i64 a1] w fun e w' => e = .returned (.int .i64 r1) ∧ Kd.S (Kd.sliceS 39 k39) 65 w' w0.heap.size (fun k_ => (P0_ k_ ∨ w.heap.size ≤ k_)) u9000_ r2 ∧ Below w0.heap.size w0 w' ∧ Kept w w' (fun k_ => P0_ k_) := by
 have HO0 := Aside0.mk (show Kd.S (Kd.sliceS 39 k39) 65 w w0.heap.size (fun k_ => (P0_ k_ ∨ w.heap.size ≤ k_)) u9000_ l0 from Kd.S_mono ho0 (fun k_ hk => (.inl hk))); have HK := Aside0.mk (Kept.refl w (fun k_ => P0_ k_)); have HB := Aside0.mk hB; clear hB ho0; have H' := Aside0.mk (show laws_markPlaneSS.l0 k l0 a1 0 = some (r1, r2) from h); clear h; go_enter Try.func63, Try.ntmps63; go_wp2; go_loopg [1, 5] k (fun kq v1 v5 w' => ∃ (x0_1 : List (List S39)) (x1_1 : Int) (x5_1 : Int), v1 = .int .i64 x1_1 ∧ v5 = .int .i64 x5_1 ∧ Aside0 (laws_markPlaneSS.l0 kq x0_1 x1_1 x5_1 = some (r1, r2)) ∧ Aside0 (kq ≤ k) ∧ Aside0 (Kd.S (Kd.sliceS 39 k39) 65 w' w0.heap.size (fun k_ => (P0_ k_ ∨ w.heap.size ≤ k_)) u9000_ x0_1) ∧ Aside0 (Kept w w' (fun k_ => P0_ k_)) ∧ Aside0 (Below w0.heap.size w0 w'))
 case atStart => exact ⟨l0, a1, 0, rfl, rfl, H', ⟨Nat.le_refl _⟩, HO0, HK, HB⟩
 case round =>
  clear H' HO0 HK HB; obtain ⟨x0_1, x1_1, x5_1, rfl, rfl, HA, HK1, HO, HK, HB⟩ := hrel; cases gk with
  | zero => exact absurd HA.out (by simp [laws_markPlaneSS.l0])
  | succ k1 =>
   have H := HA.out; clear HA; simp only [laws_markPlaneSS.l0] at H; obtain ⟨A6, c6, e6⟩ := Kd.S_slice HO.out; subst e6; by_cases c3 : x5_1 < (x0_1.length : Int)
   · rw [if_pos c3] at H; by_cases c4 : 0 ≤ x5_1
     · rw [if_pos c4] at H; obtain ⟨⟨t1, t2⟩, hf, H⟩ := Option.bind_eq_some_iff.mp H; have HF := Aside0.mk hf; have H' := Aside0.mk H; clear hf H; obtain ⟨g, cap, eg, gb, gl, cl, hcl⟩ := Kd.S_form HO.out (by omega); injection eg with ea _ ec
       subst ea ec; have GG := Aside0.mk hcl; clear gb gl hcl; obtain ⟨oki, c, hc1, hM, hcell, hoki, hH⟩ := Kd.S_lend HO.out ([] : List S39) x5_1 c4 c3; obtain ⟨v, rfl, hR⟩ := hM; have hx : wr.cell? ⟨g, x5_1.toNat, none⟩ = some v := by have := hcell 0 v rfl; rwa [show x5_1.toNat * (Kd.sliceS 39 k39).sz + 0 = x5_1.toNat from by show x5_1.toNat * 1 + 0 = _; omega] at this
       have HH := Aside0.mk hH; have HR := Aside0.mk hR; have HI := Aside0.mk hoki; clear hH hR hoki hcell hc1; have c3b : decide (x5_1 < (x0_1.length : Int)) = true := decide_eq_true c3; have c4b : decide (0 ≤ x5_1) = true := decide_eq_true c4; have p5 := eq_true c4; have q5 := eq_true c3; clear c3 c4; go_wp2_with (fail)
       refine (laws_markPlaneS.calls k1 oki v (rdR x0_1 x5_1) x1_1 t1 t2 w0 wr HB.out HR.out HF.out).mono ?_; rintro e w1 ⟨rfl, hR1, hB1, hK1⟩; have HO1 := Aside0.mk (Kd.H_back (Kd.H_step (Kd.H_widen HH.out) (fun k_ _ hn_ hl_ => hK1.2 k_ hl_ (fun h_ => hn_ (.inl h_)))) (x' := t2) (okp := fun k_ => oki k_ ∨ wr.heap.size ≤ k_) ⟨v, rfl, hR1⟩ (fun k_ h_ => h_.elim .inl (fun h2_ => .inr ⟨.inr (Nat.le_trans HK.out.1 h2_), h2_⟩))); have HK2 := Aside0.mk (Kept.then_ HK.out hK1 (fun k_ h_ => (HI.out k_ h_).1)); have HB2 := Aside0.mk hB1; clear HO HK HB HH HR hR1 hB1 hK1 hx; go_wp2; go_roundg k1
       case measure => have := HK1.out; omega
       case rel => exact ⟨_, t1, wrap64 (x5_1 + 1), rfl, rfl, H', ⟨by have := HK1.out; omega⟩, HO1, HK2, HB2⟩
     · rw [if_neg c4] at H; exact absurd H (by simp)
   · rw [if_neg c3] at H; simp only [Option.some.injEq, Prod.mk.injEq] at H; obtain ⟨rfl, rfl⟩ := H; have c3b : decide (x5_1 < (x0_1.length : Int)) = false := decide_eq_false c3; clear c3; go_wp2; go_ret
     exact ⟨rfl, HO.out, HB.out, HK.out⟩
def laws_markNet.f (k : Nat) (a0_0 : Int) (l0_1 : List (List S39)) (a1 : Int) : Option (Int × List (List S39)) := laws_markPlaneSS.f k l0_1 a1
theorem laws_markNet.calls (k : Nat) (a0_0 : Int) (P0_1_ : Nat → Prop) (u9001_ : Value) (l0_1 : List (List S39)) (a1 : Int) (r1 : Int) (r2 : List (List S39)) (w0 w : World) (hB : Below w0.heap.size w0 w) (ho0_1 : Kd.S (Kd.sliceS 39 k39) 65 w w0.heap.size P0_1_ u9001_ l0_1) (h : laws_markNet.f k a0_0 l0_1 a1 = some (r1, r2)) :
 Calls Try.prog 19 #[.agg #[.int .i64 a0_0, u9001_], .int .i64 a1] w fun e w' => e = .returned (.int .i64 r1) ∧ Kd.S (Kd.sliceS 39 k39) 65 w' w0.heap.size (fun k_ => (P0_1_ k_ ∨ w.heap.size ≤ k_)) u9001_ r2 ∧ Below w0.heap.size w0 w' ∧ Kept w w' (fun k_ => P0_1_ k_) := by
 have hu := Try.underlying25; have HB := Aside0.mk hB; have HO0 := Aside0.mk ho0_1; have HF := Aside0.mk (show laws_markPlaneSS.f k l0_1 a1 = some (r1, r2) from h); clear h hB ho0_1; obtain ⟨A0, c0, e0⟩ := Kd.S_slice HO0.out; subst e0; replace HO0 := Aside0.mk (Kd.S_mono (ok' := fun k_ => P0_1_ k_ ∧ k_ < w.heap.size) (Kd.S_bound HO0.out) (fun k_ h_ => ⟨h_.1, h_.2.2.1⟩)); go_enter Try.func19, Try.ntmps19; go_wp2_with (fail)
 refine (laws_markPlaneSS.calls k (fun k_ => P0_1_ k_ ∧ k_ < w.heap.size) _ l0_1 a1 r1 r2 w0 _ (bB HB) (pS HO0) HF.out).mono ?_; rintro e w1 ⟨rfl, hs, hb, hk⟩; have hw1 : w.heap.size + 1 ≤ w1.heap.size := by simpa using hk.1
 have HK1 := Aside0.mk (Kept.then_ (Kept.of_below (below_alloc (Below.refl _ _) (.cells #[.int .i64 a0_0, .slice A0 l0_1.length c0] 25 (0, 0))) (fun k_ => P0_1_ k_)) hk (fun k_ h_ => .inl h_.1)); have HS := Aside0.mk (Kd.S_mono (ok' := fun k_ => P0_1_ k_ ∨ w.heap.size ≤ k_) hs (fun k_ h_ => h_.elim (fun a_ => .inl a_.1) (fun z_ => .inr (by have : w.heap.size + 1 ≤ k_ := (by simpa using z_); omega)))); have HB1 := Aside0.mk hb; clear hs hb hk hw1; go_wp2_with (fail)
 go_ret
 exact ⟨rfl, HS.out, HB1.out, HK1.out⟩
end Go.Proofs.Ytfkfahdikmfpeaa.KFnExactNetOfPair
