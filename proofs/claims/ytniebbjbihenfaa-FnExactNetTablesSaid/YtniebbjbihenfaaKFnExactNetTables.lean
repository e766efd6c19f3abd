/- The functions of the laws that mark rows of rows: what their calls do. -/
import Derived.Test.YtniebbjbihenfaaPFnExactNetTablesx
import Derived.Test.YtniebbjbihenfaaMc
import Derived.Test.YtniebbjbihenfaaSl
namespace Go.Proofs.Ytniebbjbihenfaa.KFnExactNetTables
open Go.RowKit Go.Proofs.Ytniebbjbihenfaa.Sl Go.Proofs.Ytniebbjbihenfaa.Sh Go.Proofs.Ytniebbjbihenfaa.Mc Go.Proofs.Ytniebbjbihenfaa.PFnExactNetTables Go.Proofs.YtniebbjbihenfaaW.PrintWords Go.Proofs.YtniebbjbihenfaaW.PrintLast Go.Proofs.YtniebbjbihenfaaW.PrintMore
set_option linter.unusedVariables false
set_option linter.unusedSimpArgs false
def rdR {α : Type} (xs : List (List α)) (i : Int) : List α := xs.getD i.toNat []
theorem rdR_nat {α : Type} (xs : List (List α)) (i : Nat) : rdR xs (i : Int) = xs.getD i [] := by simp [rdR]
/-! ### laws_markIntSS: function 37 -/
def laws_markIntSS.l0 : Nat → List (List Int) → Int → Int → Option (Int × List (List Int))
 | 0, _, _, _ => none
 | k + 1, x0, x1, x5 => if x5 < (x0.length : Int) then (if 0 ≤ x5 then ((laws_markIntS.f k (rdR x0 x5) x1).bind fun b => laws_markIntSS.l0 k (x0.set (x5 : Int).toNat b.2) b.1 (wrap64 (x5 + 1))) else none) else some (x1, x0)
def laws_markIntSS.f (k : Nat) (l0 : List (List Int)) (a1 : Int) : Option (Int × List (List Int)) := laws_markIntSS.l0 k l0 a1 0
set_option maxHeartbeats 8000000 in
set_option maxRecDepth 100000 in
theorem laws_markIntSS.calls (k : Nat) (P0_ : Nat → Prop) (u9000_ : Value) (l0 : List (List Int)) (a1 : Int) (r1 : Int) (r2 : List (List Int)) (w0 w : World) (hB : Below w0.heap.size w0 w) (ho0 : Kd.S (Kd.slice 3 (Kd.int .i64)) 23 w w0.heap.size P0_ u9000_ l0) (h : laws_markIntSS.f k l0 a1 = some (r1, r2)) :
 Calls Try.prog 37 #[u9000_, .int .i64 a1] w fun e w' => e = .returned (.int .i64 r1) ∧ Kd.S (Kd.slice 3 (Kd.int .i64)) 23 w' w0.heap.size (fun k_ => (P0_ k_ ∨ w.heap.size ≤ k_)) u9000_ r2 ∧ Below w0.heap.size w0 w' ∧ Kept w w' (fun k_ => P0_ k_) := by
 have HO0 := Aside0.mk (show Kd.S (Kd.slice 3 (Kd.int .i64)) 23 w w0.heap.size (fun k_ => (P0_ k_ ∨ w.heap.size ≤ k_)) u9000_ l0 from Kd.S_mono ho0 (fun k_ hk => (.inl hk)))
 have HK := Aside0.mk (Kept.refl w (fun k_ => P0_ k_))
 have HB := Aside0.mk hB
 clear hB ho0
 have H' := Aside0.mk (show laws_markIntSS.l0 k l0 a1 0 = some (r1, r2) from h)
 clear h
 go_enter Try.func37, Try.ntmps37
 go_wp2
 go_loopg [1, 5] k (fun kq v1 v5 w' => ∃ (x0_1 : List (List Int)) (x1_1 : Int) (x5_1 : Int), v1 = .int .i64 x1_1 ∧ v5 = .int .i64 x5_1 ∧ Aside0 (laws_markIntSS.l0 kq x0_1 x1_1 x5_1 = some (r1, r2)) ∧ Aside0 (kq ≤ k) ∧ Aside0 (Kd.S (Kd.slice 3 (Kd.int .i64)) 23 w' w0.heap.size (fun k_ => (P0_ k_ ∨ w.heap.size ≤ k_)) u9000_ x0_1) ∧ Aside0 (Kept w w' (fun k_ => P0_ k_)) ∧ Aside0 (Below w0.heap.size w0 w'))
 case atStart => exact ⟨l0, a1, 0, rfl, rfl, H', ⟨Nat.le_refl _⟩, HO0, HK, HB⟩
 case round =>
  clear H' HO0 HK HB
  obtain ⟨x0_1, x1_1, x5_1, rfl, rfl, HA, HK1, HO, HK, HB⟩ := hrel
  cases gk with
  | zero => exact absurd HA.out (by simp [laws_markIntSS.l0])
  | succ k1 =>
   have H := HA.out
   clear HA
   simp only [laws_markIntSS.l0] at H
   obtain ⟨A6, c6, e6⟩ := Kd.S_slice HO.out
   subst e6
   by_cases c3 : x5_1 < (x0_1.length : Int)
   · rw [if_pos c3] at H
     by_cases c4 : 0 ≤ x5_1
     · rw [if_pos c4] at H
       obtain ⟨⟨t1, t2⟩, hf, H⟩ := Option.bind_eq_some_iff.mp H
       have HF := Aside0.mk hf
       have H' := Aside0.mk H
       clear hf H
       obtain ⟨g, cap, eg, gb, gl, cl, hcl⟩ := Kd.S_form HO.out (by omega)
       injection eg with ea _ ec
       subst ea ec
       have GG := Aside0.mk hcl
       clear gb gl hcl
       obtain ⟨oki, c, hc1, hM, hcell, hoki, hH⟩ := Kd.S_lend HO.out ([] : List Int) x5_1 c4 c3
       obtain ⟨v, rfl, hR⟩ := hM
       have hx : wr.cell? ⟨g, x5_1.toNat, none⟩ = some v := by have := hcell 0 v rfl; rwa [show x5_1.toNat * (Kd.slice 3 (Kd.int .i64)).sz + 0 = x5_1.toNat from by show x5_1.toNat * 1 + 0 = _; omega] at this
       have HH := Aside0.mk hH
       have HR := Aside0.mk hR
       have HI := Aside0.mk hoki
       clear hH hR hoki hcell hc1
       have c3b : decide (x5_1 < (x0_1.length : Int)) = true := decide_eq_true c3
       have c4b : decide (0 ≤ x5_1) = true := decide_eq_true c4
       have p5 := eq_true c4
       have q5 := eq_true c3
       clear c3 c4
       go_wp2_with (fail)
       refine (laws_markIntS.calls k1 oki v (rdR x0_1 x5_1) x1_1 t1 t2 w0 wr HB.out HR.out HF.out).mono ?_
       rintro e w1 ⟨rfl, hR1, hB1, hK1⟩
       have HO1 := Aside0.mk (Kd.H_back (Kd.H_step (Kd.H_widen HH.out) (fun k_ _ hn_ hl_ => hK1.2 k_ hl_ (fun h_ => hn_ (.inl h_)))) (x' := t2) (okp := fun k_ => oki k_ ∨ wr.heap.size ≤ k_) ⟨v, rfl, hR1⟩ (fun k_ h_ => h_.elim .inl (fun h2_ => .inr ⟨.inr (Nat.le_trans HK.out.1 h2_), h2_⟩)))
       have HK2 := Aside0.mk (Kept.then_ HK.out hK1 (fun k_ h_ => (HI.out k_ h_).1))
       have HB2 := Aside0.mk hB1
       clear HO HK HB HH HR hR1 hB1 hK1 hx
       go_wp2
       go_roundg k1
       case measure => have := HK1.out; omega
       case rel => exact ⟨_, t1, wrap64 (x5_1 + 1), rfl, rfl, H', ⟨by have := HK1.out; omega⟩, HO1, HK2, HB2⟩
     · rw [if_neg c4] at H
       exact absurd H (by simp)
   · rw [if_neg c3] at H
     simp only [Option.some.injEq, Prod.mk.injEq] at H
     obtain ⟨rfl, rfl⟩ := H
     have c3b : decide (x5_1 < (x0_1.length : Int)) = false := decide_eq_false c3
     clear c3
     go_wp2
     go_ret
     exact ⟨rfl, HO.out, HB.out, HK.out⟩
/-! ### laws_markPlaneS: function 50 -/
def laws_markPlaneS.l0 : Nat → List S42 → Int → Int → Option (Int × List S42)
 | 0, _, _, _ => none
 | k + 1, x0, x1, x5 => if x5 < (x0.length : Int) then (if 0 ≤ x5 then ((laws_markIntS.f k (rd_T42 x0 x5).f0 x1).bind fun b => laws_markPlaneS.l0 k (x0.set (x5 : Int).toNat ⟨b.2, b.1⟩) (wrap64 (b.1 + 1)) (wrap64 (x5 + 1))) else none) else some (x1, x0)
def laws_markPlaneS.f (k : Nat) (l0 : List S42) (a1 : Int) : Option (Int × List S42) := laws_markPlaneS.l0 k l0 a1 0
set_option maxHeartbeats 8000000 in
set_option maxRecDepth 100000 in
theorem laws_markPlaneS.calls (k : Nat) (P0_ : Nat → Prop) (u9000_ : Value) (l0 : List S42) (a1 : Int) (r1 : Int) (r2 : List S42) (w0 w : World) (hB : Below w0.heap.size w0 w) (ho0 : Kd.S k42 42 w w0.heap.size P0_ u9000_ l0) (h : laws_markPlaneS.f k l0 a1 = some (r1, r2)) :
 Calls Try.prog 50 #[u9000_, .int .i64 a1] w fun e w' => e = .returned (.int .i64 r1) ∧ Kd.S k42 42 w' w0.heap.size (fun k_ => (P0_ k_ ∨ w.heap.size ≤ k_)) u9000_ r2 ∧ Below w0.heap.size w0 w' ∧ Kept w w' (fun k_ => P0_ k_) := by
 have HO0 := Aside0.mk (show Kd.S k42 42 w w0.heap.size (fun k_ => (P0_ k_ ∨ w.heap.size ≤ k_)) u9000_ l0 from Kd.S_mono ho0 (fun k_ hk => (.inl hk)))
 have HK := Aside0.mk (Kept.refl w (fun k_ => P0_ k_))
 have HB := Aside0.mk hB
 have HG0 := Aside0.mk (fun k_ (h_ : u9000_.ownBlock = some k_) => (Kd.S_R ho0).1 k_ h_)
 clear hB ho0
 have H' := Aside0.mk (show laws_markPlaneS.l0 k l0 a1 0 = some (r1, r2) from h)
 clear h
 go_enter Try.func50, Try.ntmps50
 go_wp2
 go_loopg [1, 5] k (fun kq v1 v5 w' => ∃ (x0_1 : List S42) (x1_1 : Int) (x5_1 : Int), v1 = .int .i64 x1_1 ∧ v5 = .int .i64 x5_1 ∧ Aside0 (laws_markPlaneS.l0 kq x0_1 x1_1 x5_1 = some (r1, r2)) ∧ Aside0 (kq ≤ k) ∧ Aside0 (Kd.S k42 42 w' w0.heap.size (fun k_ => (P0_ k_ ∨ w.heap.size ≤ k_)) u9000_ x0_1) ∧ Aside0 (Kept w w' (fun k_ => P0_ k_)) ∧ Aside0 (Below w0.heap.size w0 w'))
 case atStart => exact ⟨l0, a1, 0, rfl, rfl, H', ⟨Nat.le_refl _⟩, HO0, HK, HB⟩
 case round =>
  clear H' HO0 HK HB
  obtain ⟨x0_1, x1_1, x5_1, rfl, rfl, HA, HK1, HO, HK, HB⟩ := hrel
  cases gk with
  | zero => exact absurd HA.out (by simp [laws_markPlaneS.l0])
  | succ k1 =>
   have H := HA.out
   clear HA
   simp only [laws_markPlaneS.l0] at H
   obtain ⟨A6, c6, e6⟩ := Kd.S_slice HO.out
   subst e6
   by_cases c3 : x5_1 < (x0_1.length : Int)
   · rw [if_pos c3] at H
     by_cases c4 : 0 ≤ x5_1
     · rw [if_pos c4] at H
       obtain ⟨⟨t1, t2⟩, hf, H⟩ := Option.bind_eq_some_iff.mp H
       have HF := Aside0.mk hf
       have H' := Aside0.mk H
       clear hf H
       obtain ⟨g, cap, eg, gb, gl, cl, hcl⟩ := Kd.S_form HO.out (by omega)
       injection eg with ea _ ec
       subst ea ec
       have GG := Aside0.mk hcl
       have GE := Aside0.mk gb
       clear gb gl hcl
       obtain ⟨oki, c, hc1, hM, hcell, hoki, hH⟩ := Kd.S_lend HO.out z42 x5_1 c4 c3
       obtain ⟨v, rfl, hR⟩ := k42_openM hM
       have hx : wr.cell? ⟨g, x5_1.toNat * 2, none⟩ = some v := hcell 0 v rfl
       have HH := Aside0.mk hH
       have HR := Aside0.mk (show Kd.R (Kd.int .i64) 3 wr w0.heap.size oki v (rd_T42 x0_1 x5_1).f0 from hR)
       have HI := Aside0.mk hoki
       clear hH hR hM hoki hcell hc1
       have C3 := Aside0.mk c3
       have C4 := Aside0.mk c4
       have c3b : decide (x5_1 < (x0_1.length : Int)) = true := decide_eq_true c3
       have c4b : decide (0 ≤ x5_1) = true := decide_eq_true c4
       have p5 := eq_true c4
       have q5 := eq_true c3
       clear c3 c4
       go_wp2_with (fail)
       refine (laws_markIntS.calls k1 oki v (rd_T42 x0_1 x5_1).f0 x1_1 t1 t2 w0 wr HB.out HR.out HF.out).mono ?_
       rintro e w1 ⟨rfl, hR1, hB1, hK1⟩
       have HO1 := Aside0.mk (Kd.H_back (Kd.H_step (Kd.H_widen HH.out) (fun k_ _ hn_ hl_ => hK1.2 k_ hl_ (fun h_ => hn_ (.inl h_)))) (x' := (⟨t2, (rd_T42 x0_1 x5_1).f1⟩ : S42)) (okp := fun k_ => oki k_ ∨ wr.heap.size ≤ k_) (k42_mkM _ _ _ (⟨t2, (rd_T42 x0_1 x5_1).f1⟩ : S42) hR1) (fun k_ h_ => h_.elim .inl (fun h2_ => .inr ⟨.inr (Nat.le_trans HK.out.1 h2_), h2_⟩)))
       have HK2 := Aside0.mk (Kept.then_ HK.out hK1 (fun k_ h_ => (HI.out k_ h_).1))
       have HB2 := Aside0.mk hB1
       clear HO HK HB HH HR hR1 hB1 hK1 hx
       have c3' : x5_1 < ((x0_1.set x5_1.toNat (⟨t2, (rd_T42 x0_1 x5_1).f1⟩ : S42)).length : Int) := by rw [List.length_set]; exact C3.out
       obtain ⟨oki2, cc, hcl2, hM2, hcc2, hfr2, hoki2, hH2⟩ := Kd.S_elem HO1.out z42 x5_1 C4.out C3.out
       have hget : (x0_1.set x5_1.toNat (⟨t2, (rd_T42 x0_1 x5_1).f1⟩ : S42)).getD x5_1.toNat z42 = (⟨t2, (rd_T42 x0_1 x5_1).f1⟩ : S42) := by
        have := C3.out
        have := C4.out
        simp [List.getD_eq_getElem?_getD, show x5_1.toNat < x0_1.length by omega]
       rw [hget] at hM2
       obtain ⟨v2, rfl, hR2⟩ := k42_openM hM2
       have HP := Kd.S_seg0 hH2 C4.out C3.out (seg := [.int .i64 t1]) (j := 1) (show 1 + 1 ≤ 2 from by decide) (x' := (⟨t2, t1⟩ : S42)) (k42_mkM _ _ _ (⟨t2, t1⟩ : S42) hR2) (fun _ hk => hk)
       rw [List.set_set] at HP
       have hx1 : w1.cell? ⟨g, x5_1.toNat * 2 + 1, none⟩ = some (.int .i64 (rd_T42 x0_1 x5_1).f1) := hcc2 1 _ rfl
       have hf1 : w1.frozen? ⟨g, x5_1.toNat * 2 + 1, none⟩ = false := hfr2 1
       have HGB := Aside0.mk (show P0_ g from HG0.out g rfl)
       clear hcl2 hM2 hcc2 hfr2 hoki2 hH2 hget c3' hR2
       go_wp2_with (fail)
       have HS2 := Aside0.mk (show Kd.S k42 42 (w1.setCell ⟨g, x5_1.toNat * 2 + 1, none⟩ (.int .i64 t1)) w0.heap.size (fun k_ => (P0_ k_ ∨ w.heap.size ≤ k_)) (.slice (some ⟨g, 0, none⟩) x0_1.length c6) (x0_1.set x5_1.toNat (⟨t2, t1⟩ : S42)) from HP.1)
       have HK3 := Aside0.mk (Kept.of_grown (S := (fun k_ => P0_ k_)) (show w1.grownBy (w1.setCell ⟨g, x5_1.toNat * 2 + 1, none⟩ (.int .i64 t1)) (some g) from HP.2) HK2.out (fun k_ e_ => by have e2_ : g = k_ := (by injection e_); rw [← e2_]; exact .inl HGB.out))
       have HB3 := Aside0.mk (show Below w0.heap.size w0 (w1.setCell ⟨g, x5_1.toNat * 2 + 1, none⟩ (.int .i64 t1)) from below_set HB2.out GE.out)
       go_roundg k1
       case measure => have := HK1.out; omega
       case rel => exact ⟨_, wrap64 (t1 + 1), wrap64 (x5_1 + 1), rfl, rfl, H', ⟨by have := HK1.out; omega⟩, HS2, HK3, HB3⟩
     · rw [if_neg c4] at H
       exact absurd H (by simp)
   · rw [if_neg c3] at H
     simp only [Option.some.injEq, Prod.mk.injEq] at H
     obtain ⟨rfl, rfl⟩ := H
     have c3b : decide (x5_1 < (x0_1.length : Int)) = false := decide_eq_false c3
     clear c3
     go_wp2
     go_ret
     exact ⟨rfl, HO.out, HB.out, HK.out⟩
/-! ### laws_markPlaneSS: function 102 -/
def laws_markPlaneSS.l0 : Nat → List (List S42) → Int → Int → Option (Int × List (List S42))
 | 0, _, _, _ => none
 | k + 1, x0, x1, x5 => if x5 < (x0.length : Int) then (if 0 ≤ x5 then ((laws_markPlaneS.f k (rdR x0 x5) x1).bind fun b => laws_markPlaneSS.l0 k (x0.set (x5 : Int).toNat b.2) b.1 (wrap64 (x5 + 1))) else none) else some (x1, x0)
def laws_markPlaneSS.f (k : Nat) (l0 : List (List S42)) (a1 : Int) : Option (Int × List (List S42)) := laws_markPlaneSS.l0 k l0 a1 0
set_option maxHeartbeats 8000000 in
set_option maxRecDepth 100000 in
theorem laws_markPlaneSS.calls (k : Nat) (P0_ : Nat → Prop) (u9000_ : Value) (l0 : List (List S42)) (a1 : Int) (r1 : Int) (r2 : List (List S42)) (w0 w : World) (hB : Below w0.heap.size w0 w) (ho0 : Kd.S (Kd.sliceS 42 k42) 71 w w0.heap.size P0_ u9000_ l0) (h : laws_markPlaneSS.f k l0 a1 = some (r1, r2)) :
 Calls Try.prog 102 #[u9000_, .int .i64 a1] w fun e w' => e = .returned (.int .i64 r1) ∧ Kd.S (Kd.sliceS 42 k42) 71 w' w0.heap.size (fun k_ => (P0_ k_ ∨ w.heap.size ≤ k_)) u9000_ r2 ∧ Below w0.heap.size w0 w' ∧ Kept w w' (fun k_ => P0_ k_) := by
 have HO0 := Aside0.mk (show Kd.S (Kd.sliceS 42 k42) 71 w w0.heap.size (fun k_ => (P0_ k_ ∨ w.heap.size ≤ k_)) u9000_ l0 from Kd.S_mono ho0 (fun k_ hk => (.inl hk)))
 have HK := Aside0.mk (Kept.refl w (fun k_ => P0_ k_))
 have HB := Aside0.mk hB
 clear hB ho0
 have H' := Aside0.mk (show laws_markPlaneSS.l0 k l0 a1 0 = some (r1, r2) from h)
 clear h
 go_enter Try.func102, Try.ntmps102
 go_wp2
 go_loopg [1, 5] k (fun kq v1 v5 w' => ∃ (x0_1 : List (List S42)) (x1_1 : Int) (x5_1 : Int), v1 = .int .i64 x1_1 ∧ v5 = .int .i64 x5_1 ∧ Aside0 (laws_markPlaneSS.l0 kq x0_1 x1_1 x5_1 = some (r1, r2)) ∧ Aside0 (kq ≤ k) ∧ Aside0 (Kd.S (Kd.sliceS 42 k42) 71 w' w0.heap.size (fun k_ => (P0_ k_ ∨ w.heap.size ≤ k_)) u9000_ x0_1) ∧ Aside0 (Kept w w' (fun k_ => P0_ k_)) ∧ Aside0 (Below w0.heap.size w0 w'))
 case atStart => exact ⟨l0, a1, 0, rfl, rfl, H', ⟨Nat.le_refl _⟩, HO0, HK, HB⟩
 case round =>
  clear H' HO0 HK HB
  obtain ⟨x0_1, x1_1, x5_1, rfl, rfl, HA, HK1, HO, HK, HB⟩ := hrel
  cases gk with
  | zero => exact absurd HA.out (by simp [laws_markPlaneSS.l0])
  | succ k1 =>
   have H := HA.out
   clear HA
   simp only [laws_markPlaneSS.l0] at H
   obtain ⟨A6, c6, e6⟩ := Kd.S_slice HO.out
   subst e6
   by_cases c3 : x5_1 < (x0_1.length : Int)
   · rw [if_pos c3] at H
     by_cases c4 : 0 ≤ x5_1
     · rw [if_pos c4] at H
       obtain ⟨⟨t1, t2⟩, hf, H⟩ := Option.bind_eq_some_iff.mp H
       have HF := Aside0.mk hf
       have H' := Aside0.mk H
       clear hf H
       obtain ⟨g, cap, eg, gb, gl, cl, hcl⟩ := Kd.S_form HO.out (by omega)
       injection eg with ea _ ec
       subst ea ec
       have GG := Aside0.mk hcl
       clear gb gl hcl
       obtain ⟨oki, c, hc1, hM, hcell, hoki, hH⟩ := Kd.S_lend HO.out ([] : List S42) x5_1 c4 c3
       obtain ⟨v, rfl, hR⟩ := hM
       have hx : wr.cell? ⟨g, x5_1.toNat, none⟩ = some v := by have := hcell 0 v rfl; rwa [show x5_1.toNat * (Kd.sliceS 42 k42).sz + 0 = x5_1.toNat from by show x5_1.toNat * 1 + 0 = _; omega] at this
       have HH := Aside0.mk hH
       have HR := Aside0.mk hR
       have HI := Aside0.mk hoki
       clear hH hR hoki hcell hc1
       have c3b : decide (x5_1 < (x0_1.length : Int)) = true := decide_eq_true c3
       have c4b : decide (0 ≤ x5_1) = true := decide_eq_true c4
       have p5 := eq_true c4
       have q5 := eq_true c3
       clear c3 c4
       go_wp2_with (fail)
       refine (laws_markPlaneS.calls k1 oki v (rdR x0_1 x5_1) x1_1 t1 t2 w0 wr HB.out HR.out HF.out).mono ?_
       rintro e w1 ⟨rfl, hR1, hB1, hK1⟩
       have HO1 := Aside0.mk (Kd.H_back (Kd.H_step (Kd.H_widen HH.out) (fun k_ _ hn_ hl_ => hK1.2 k_ hl_ (fun h_ => hn_ (.inl h_)))) (x' := t2) (okp := fun k_ => oki k_ ∨ wr.heap.size ≤ k_) ⟨v, rfl, hR1⟩ (fun k_ h_ => h_.elim .inl (fun h2_ => .inr ⟨.inr (Nat.le_trans HK.out.1 h2_), h2_⟩)))
       have HK2 := Aside0.mk (Kept.then_ HK.out hK1 (fun k_ h_ => (HI.out k_ h_).1))
       have HB2 := Aside0.mk hB1
       clear HO HK HB HH HR hR1 hB1 hK1 hx
       go_wp2
       go_roundg k1
       case measure => have := HK1.out; omega
       case rel => exact ⟨_, t1, wrap64 (x5_1 + 1), rfl, rfl, H', ⟨by have := HK1.out; omega⟩, HO1, HK2, HB2⟩
     · rw [if_neg c4] at H
       exact absurd H (by simp)
   · rw [if_neg c3] at H
     simp only [Option.some.injEq, Prod.mk.injEq] at H
     obtain ⟨rfl, rfl⟩ := H
     have c3b : decide (x5_1 < (x0_1.length : Int)) = false := decide_eq_false c3
     clear c3
     go_wp2
     go_ret
     exact ⟨rfl, HO.out, HB.out, HK.out⟩
/-! ### laws_markNet: function 44 -/
def laws_markNet.f (k : Nat) (a0_0 : Int) (l0_1 : List (List S42)) (a1 : Int) : Option (Int × List (List S42)) := laws_markPlaneSS.f k l0_1 a1
set_option maxHeartbeats 8000000 in
set_option maxRecDepth 100000 in
theorem laws_markNet.calls (k : Nat) (a0_0 : Int) (P0_1_ : Nat → Prop) (u9001_ : Value) (l0_1 : List (List S42)) (a1 : Int) (r1 : Int) (r2 : List (List S42)) (w0 w : World) (hB : Below w0.heap.size w0 w) (ho0_1 : Kd.S (Kd.sliceS 42 k42) 71 w w0.heap.size P0_1_ u9001_ l0_1) (h : laws_markNet.f k a0_0 l0_1 a1 = some (r1, r2)) :
 Calls Try.prog 44 #[.agg #[.int .i64 a0_0, u9001_], .int .i64 a1] w fun e w' => e = .returned (.int .i64 r1) ∧ Kd.S (Kd.sliceS 42 k42) 71 w' w0.heap.size (fun k_ => (P0_1_ k_ ∨ w.heap.size ≤ k_)) u9001_ r2 ∧ Below w0.heap.size w0 w' ∧ Kept w w' (fun k_ => P0_1_ k_) := by
 have hu := Try.underlying62
 have HB := Aside0.mk hB
 have HO0 := Aside0.mk ho0_1
 have HF := Aside0.mk (show laws_markPlaneSS.f k l0_1 a1 = some (r1, r2) from h)
 clear h hB ho0_1
 obtain ⟨A0, c0, e0⟩ := Kd.S_slice HO0.out
 subst e0
 replace HO0 := Aside0.mk (Kd.S_mono (ok' := fun k_ => P0_1_ k_ ∧ k_ < w.heap.size) (Kd.S_bound HO0.out) (fun k_ h_ => ⟨h_.1, h_.2.2.1⟩))
 go_enter Try.func44, Try.ntmps44
 go_wp2_with (fail)
 refine (laws_markPlaneSS.calls k (fun k_ => P0_1_ k_ ∧ k_ < w.heap.size) _ l0_1 a1 r1 r2 w0 _ (bB HB) (pS HO0) HF.out).mono ?_
 rintro e w1 ⟨rfl, hs, hb, hk⟩
 have hw1 : w.heap.size + 1 ≤ w1.heap.size := by simpa using hk.1
 have HK1 := Aside0.mk (Kept.then_ (Kept.of_below (below_alloc (Below.refl _ _) (.cells #[.int .i64 a0_0, .slice A0 l0_1.length c0] 62 (0, 0))) (fun k_ => P0_1_ k_)) hk (fun k_ h_ => .inl h_.1))
 have HS := Aside0.mk (Kd.S_mono (ok' := fun k_ => P0_1_ k_ ∨ w.heap.size ≤ k_) hs (fun k_ h_ => h_.elim (fun a_ => .inl a_.1) (fun z_ => .inr (by have : w.heap.size + 1 ≤ k_ := (by simpa using z_); omega))))
 have HB1 := Aside0.mk hb
 clear hs hb hk hw1
 go_wp2_with (fail)
 go_ret
 exact ⟨rfl, HS.out, HB1.out, HK1.out⟩
set_option maxHeartbeats 8000000 in
set_option maxRecDepth 100000 in
theorem laws_toPlaneSS.callsS (k : Nat) (A0 : Option Addr) (c0 : Nat) (l0 : List (List (S37))) (r : List (List (S42))) (w : World) (hr0 : Kd.C (Kd.slice 37 k37) w A0 l0.length l0) (hc0 : l0.length ≤ c0) (h : laws_toPlaneSS.f k l0 = some r) :
 Calls Try.prog 97 #[.slice A0 l0.length c0] w fun e w' => ∃ v0_ : Value, e = .returned (v0_) ∧ Kd.S (Kd.sliceS 42 k42) 71 w' w.heap.size (fun _ => True) v0_ r ∧ Below w.heap.size w w' := by
 have HR0 := Aside0.mk hr0
 have HC0 := Aside0.mk hc0
 clear hr0 hc0
 have HB := Aside0.mk (Below.refl w.heap.size w)
 have H : (if 0 ≤ (l0.length : Int) then (if ((l0.length : Int) : Int).toNat ≤ 11728124029610 then (laws_toPlaneSS.l0 k l0 (List.replicate ((l0.length : Int) : Int).toNat []) 0) else (none)) else (none)) = some r := h
 clear h
 by_cases c2 : 0 ≤ (l0.length : Int)
 · rw [if_pos c2] at H
   have c2b0 := eq_true c2
   have c2b1 : decide (0 ≤ (l0.length : Int)) = true := decide_eq_true c2
   clear c2
   by_cases c3 : ((l0.length : Int) : Int).toNat ≤ 11728124029610
   · rw [if_pos c3] at H
     have c3b0 := eq_true c3
     have c3b1 : decide (((l0.length : Int) : Int).toNat ≤ 11728124029610) = true := decide_eq_true c3
     clear c3
     obtain ⟨y139, hy139⟩ : ∃ y_ : List (List (S42)), y_ = (List.replicate ((l0.length : Int) : Int).toNat []) := ⟨_, rfl⟩
     replace H : (laws_toPlaneSS.l0 k l0 y139 0) = some r := by first | (rw [hy139]; with_reducible exact H) | (have H2_ := (Option.bind_some _ _).symm.trans H; rw [hy139]; with_reducible exact H2_) | (have H2_ := (Option.bind_some _ _).symm.trans H; with_reducible exact H2_) | with_reducible exact H | (rw [hy139]; exact H) | exact H
     have Ny139 := Aside0.mk hy139
     clear hy139
     have H' := Aside0.mk H
     clear H
     go_enter Try.func97, Try.ntmps97
     go_wp2_with (first | ((with_reducible refine gate_dst (N := 7) rfl ?_); refine Kd.S_make (Kd.sliceS 42 k42) _ 71 rfl (N := 7) rfl 60 _ _ rfl (l0.length : Int) rfl rfl Try.underlying60 (.slice none 0 0) 24 info71 rfl (by decide) (by omega) [] (ok := fun _ => True) (okp := fun _ => True) ⟨_, rfl, Kd.S_nil _ _ _ _ _⟩ (fun _ hk => hk) trivial (of_decide_eq_true aS) (Nat.le_trans (Nat.mul_le_mul_right _ (of_decide_eq_true aS : (l0.length : Int).toNat ≤ 11728124029610)) (by omega)) (Below.refl _ _) (Nat.le_refl _) ?_; intro v140 w4 ho5 hb hg_ hnew_; clear hg_ hnew_; (first | rw [← Ny139.out] at ho5 | (simp only [Int.reduceToNat] at ho5; rw [← Ny139.out] at ho5)); have n0_ := Aside0.mk (Kd.S_lower ho5 (below_size (bB HB))); have n1_ := Aside0.mk (below_step (bB HB) hb); clear HB; have HO141 := n0_; have HB := n1_; clear n0_ n1_; clear hb ho5))
     go_loopg [4] k (fun kq v4 w' => ∃ (x3_1 : List (List (S42))) (x4_1 : Int), v4 = .int .i64 x4_1 ∧ Aside0 (laws_toPlaneSS.l0 kq l0 x3_1 x4_1 = some r) ∧ Aside0 (kq ≤ k) ∧ Aside0 (Kd.S (Kd.sliceS 42 k42) 71 w' w.heap.size (fun _ => True) v140 x3_1) ∧ Aside0 (Below w.heap.size w w'))
     case atStart => exact ⟨(y139), (0), rD, H', ⟨Nat.le_refl _⟩, ⟨pS HO141⟩, ⟨bB HB⟩⟩
     case round =>
      clear H'
      try clear c2
      try clear c2b0
      try clear c2b1
      try clear p2
      try clear c3
      try clear c3b0
      try clear c3b1
      obtain ⟨x3_1, x4_1, rfl, HA, HK1, HO_3, HB⟩ := hrel
      cases gk with
      | zero => exact absurd HA.out (by simp [laws_toPlaneSS.l0])
      | succ k1 =>
       have H := HA.out
       clear HA
       simp only [laws_toPlaneSS.l0] at H
       by_cases c6 : x4_1 < (l0.length : Int)
       · rw [if_pos c6] at H
         have c6b0 : decide (x4_1 < (l0.length : Int)) = true := decide_eq_true c6
         clear c6
         by_cases c7 : 0 ≤ x4_1
         · rw [if_pos c7] at H
           have c7b0 : decide (0 ≤ x4_1) = true := decide_eq_true c7
           clear c7
           replace H := Option.bind_eq_some_iff.mp H
           obtain ⟨t143, A80, H⟩ := H
           replace H : (if x4_1 < (x3_1.length : Int) then (laws_toPlaneSS.l0 k1 l0 (x3_1.set (x4_1 : Int).toNat t143) (wrap64 (x4_1 + 1))) else (none)) = some r := H
           have A8 := Aside0.mk A80
           clear A80
           by_cases c9 : x4_1 < (x3_1.length : Int)
           · rw [if_pos c9] at H
             have c9b0 : decide (x4_1 < (x3_1.length : Int)) = true := decide_eq_true c9
             clear c9
             obtain ⟨y146, hy146⟩ : ∃ y_ : List (List (S42)), y_ = (x3_1.set (x4_1 : Int).toNat t143) := ⟨_, rfl⟩
             replace H : (laws_toPlaneSS.l0 k1 l0 y146 (wrap64 (x4_1 + 1))) = some r := by first | (rw [hy146]; with_reducible exact H) | (have H2_ := (Option.bind_some _ _).symm.trans H; rw [hy146]; with_reducible exact H2_) | (have H2_ := (Option.bind_some _ _).symm.trans H; with_reducible exact H2_) | with_reducible exact H | (rw [hy146]; exact H) | exact H
             have Ny146 := Aside0.mk hy146
             clear hy146
             have H' := Aside0.mk H
             clear H
             have p142 : 0 ≤ (x4_1 : Int) := of_decide_eq_true aS
             have q142 : x4_1 < (l0.length : Int) := of_decide_eq_true aS
             obtain ⟨ad142, A142_0, c142_0, e142, hx142_0, hl142_0, hi142_0⟩ := at_L3 HR0.out x4_1 p142 q142
             cases e142
             replace hx142_0 := (HB.out.cell (World.block_lt_of_cell? w _ hx142_0)).trans hx142_0
             have HR142_0 := Aside0.mk hi142_0
             have HC142_0 := Aside0.mk hl142_0
             clear hi142_0 hl142_0
             replace p142 := eq_true p142
             replace q142 := eq_true q142
             go_wp2_with (fail)
             refine calls_of_args (args' := #[.slice A142_0 (rd_L3 l0 x4_1).length c142_0]) (by first | rfl | ((try simp only [List.map_toArray, List.map_cons, List.map_nil]); first | done | rfl | (simp only [List.length_drop, List.length_take]; rfl))) ?_
             (with_reducible refine (laws_toPlaneS.calls k1 _ _ (rd_L3 l0 x4_1) t143 _ ?side1 ?side2 A8.out).mono ?_)
             (case side1 => exact cB HR142_0 HB)
             (case side2 => exact HC142_0.out)
             rintro e w11 ⟨v144, rfl, ho0, hb⟩
             obtain ⟨Av, cv, ev⟩ := Kd.S_slice ho0
             subst ev
             have p10 : 0 ≤ (x4_1 : Int) := of_decide_eq_true aS
             have q10 : (x4_1 : Int) < ((x3_1.length : Int) : Int) := of_decide_eq_true aS
             obtain ⟨go10, co10, eo10, gb10, gl10, cl10, HG10⟩ := Kd.S_form HO_3.out (by omega)
             (first | cases eo10 | (injection eo10 with ea_ en_ ec_; (first | subst ea_ | (injection ea_ with ea_; subst ea_)); subst ec_; clear en_))
             obtain ⟨⟨cc10, hx10_0⟩, hf10_0, hgb10, hS10, hG10⟩ := put_new (e' := 71) (g := go10) (n := x3_1.length) (cap := co10) (xs := x3_1) (base := w.heap.size) (pS HO_3) ho0 hb (below_size (bB HB)) p10 q10
             have n2_ := Aside0.mk (below_step (bB HB) hb)
             clear HO_3 HB ho0 hb gb10 gl10 HG10
             have HB := n2_
             have GB10 := Aside0.mk hgb10
             have HS10 := Aside0.mk hS10
             clear n2_ hgb10 hS10 hG10
             replace p10 := eq_true p10
             replace q10 := eq_true q10
             go_wp2_with (first | ((with_reducible refine gate_store (t := 71) (p := 21) rfl ?_); refine store_event (t := 71) (p := 21) (v := ?vo_w) (w1 := (w11.setCell ⟨go10, (x4_1 : Int).toNat, none⟩ ((.slice Av t143.length cv : Value)))) ?hg ?ho ?hn ?hr ?_; (case ho => rfl); (case hg => rfl); (case hn => rfl); (case hr => first | (go_simp; done) | (go_simp; rfl)); intro w13 hw; have hp_ : Kd.S (Kd.sliceS 42 k42) 71 w13 w.heap.size (fun _ => True) (.slice (some ⟨go10, 0, none⟩) x3_1.length co10) y146 := (by rw [hw, Ny146.out]; exact HS10.out); have n0_ := Aside0.mk (hp_); have n1_ := Aside0.mk ((by rw [hw]; exact below_set (HB.out) GB10.out : Below w.heap.size w w13)); clear HB HS10; have HO_3 := n0_; have HB := n1_; clear n0_ n1_; clear hw hp_))
             go_roundg k1
             case measure => have := HK1.out; omega
             case rel => exact ⟨(y146), (wrap64 (x4_1 + 1)), rD, H', ⟨by have := HK1.out; omega⟩, ⟨pS HO_3⟩, ⟨bB HB⟩⟩
           · rw [if_neg c9] at H
             exact absurd H (by simp)
         · rw [if_neg c7] at H
           exact absurd H (by simp)
       · rw [if_neg c6] at H
         have c6b0 : decide (x4_1 < (l0.length : Int)) = false := decide_eq_false c6
         clear c6
         obtain rfl := Option.some.inj H
         go_wp2
         go_ret
         exact ⟨_, eW, by (with_reducible repeat (first | apply Kd.S_alloc | apply Kd.S_drewN | apply Kd.S_drew)); exact HO_3.out, bB HB⟩
   · rw [if_neg c3] at H
     exact absurd H (by simp)
 · rw [if_neg c2] at H
   exact absurd H (by simp)

set_option maxHeartbeats 8000000 in
set_option maxRecDepth 100000 in
theorem laws_toNet.callsS (k : Nat) (a0_0 : Int) (A0_1 : Option Addr) (c0_1 : Nat) (l0_1 : List (List (S37))) (r1 : Int) (r2 : List (List (S42))) (w : World) (hr0_1 : Kd.C (Kd.slice 37 k37) w A0_1 l0_1.length l0_1) (hc0_1 : l0_1.length ≤ c0_1) (h : laws_toNet.f k a0_0 l0_1 = some (r1, r2)) :
 Calls Try.prog 41 #[.agg #[.int .i64 a0_0, .slice A0_1 l0_1.length c0_1]] w fun e w' => ∃ v1_ : Value, e = .returned (.agg #[.int .i64 r1, v1_]) ∧ Kd.S (Kd.sliceS 42 k42) 71 w' w.heap.size (fun _ => True) v1_ r2 ∧ Below w.heap.size w w' := by
 have hu56 := Try.underlying56
 have hu62 := Try.underlying62
 have HR0_1 := Aside0.mk hr0_1
 have HC0_1 := Aside0.mk hc0_1
 clear hr0_1 hc0_1
 have HB := Aside0.mk (Below.refl w.heap.size w)
 have H : ((laws_toPlaneSS.f k l0_1).bind fun t150 => (some (a0_0, t150))) = some (r1, r2) := h
 clear h
 replace H := Option.bind_eq_some_iff.mp H
 obtain ⟨t150, A20, H⟩ := H
 replace H : (some (a0_0, t150)) = some (r1, r2) := H
 have A2 := Aside0.mk A20
 clear A20
 simp only [Option.some.injEq, Prod.mk.injEq] at H
 obtain ⟨rfl, rfl⟩ := H
 go_enter Try.func41, Try.ntmps41
 go_wp2_with (first | ((with_reducible refine gate_dst (N := 1) rfl ?_); refine box_event ?hg (N := 1) ?hd (cs := #[.int .i64 a0_0, .slice A0_1 l0_1.length c0_1]) (t := 56) ?hr ?_; (case hd => rfl); (case hg => rfl); (case hr => first | (go_simp; done) | (go_simp; rfl)); intro gb147 hg w3 hbox hb; have n0_ := Aside0.mk (below_step (bB HB) hb); have n1_ := Aside0.mk (hbox); have n2_ := Aside0.mk ((by rw [hg]; exact (below_size (bB HB)) : w.heap.size ≤ gb147)); have n3_ := Aside0.mk ((by rw [hg]; exact (below_size (bB HB)) : w.heap.size ≤ gb147)); clear HB; have HB := n0_; have BK147 := n1_; have GW147 := n2_; have GE147 := n3_; clear n0_ n1_ n2_ n3_; clear hb hbox hg) | ((with_reducible refine gate_dst (N := 2) rfl ?_); refine box_event ?hg (N := 2) ?hd (cs := #[.int .i64 0, .slice none 0 0]) (t := 62) ?hr ?_; (case hd => rfl); (case hg => rfl); (case hr => first | (go_simp; done) | (go_simp; rfl)); intro gb148 hg w4 hbox hb; have n0_ := Aside0.mk (blk_below (g := gb147) (o := .cells #[.int .i64 a0_0, .slice A0_1 l0_1.length c0_1] 56 (0, 0)) (pB BK147) hb); have n1_ := Aside0.mk (below_step (bC HB GE147) hb); have n2_ := Aside0.mk (hbox); have n3_ := Aside0.mk ((by rw [hg]; exact (below_size (bC HB GE147)) : w.heap.size ≤ gb148)); have n4_ := Aside0.mk ((by rw [hg]; exact (below_size (bC HB GE147)) : w.heap.size ≤ gb148)); have n5_ := Aside0.mk ((by rw [hg]; exact Nat.ne_of_lt (blk_lt (g := gb147) (o := .cells #[.int .i64 a0_0, .slice A0_1 l0_1.length c0_1] 56 (0, 0)) (pB BK147)) : gb147 ≠ gb148)); have n6_ := Aside0.mk ((by rw [hg]; exact Nat.ne_of_gt (blk_lt (g := gb147) (o := .cells #[.int .i64 a0_0, .slice A0_1 l0_1.length c0_1] 56 (0, 0)) (pB BK147)) : gb148 ≠ gb147)); clear BK147; clear HB; have BK147 := n0_; have HB := n1_; have BK148 := n2_; have GW148 := n3_; have GE148 := n4_; have NB147_148 := n5_; have NB148_147 := n6_; clear n0_ n1_ n2_ n3_ n4_ n5_ n6_; clear hb hbox hg) | ((with_reducible refine gate_dst (N := 3) rfl ?_); refine box_event ?hg (N := 3) ?hd (cs := #[.int .i64 0, .slice none 0 0]) (t := 62) ?hr ?_; (case hd => rfl); (case hg => rfl); (case hr => first | (go_simp; done) | (go_simp; rfl)); intro gb149 hg w5 hbox hb; have n0_ := Aside0.mk (blk_below (g := gb147) (o := .cells #[.int .i64 a0_0, .slice A0_1 l0_1.length c0_1] 56 (0, 0)) (pB BK147) hb); have n1_ := Aside0.mk (blk_below (g := gb148) (o := .cells #[.int .i64 0, .slice none 0 0] 62 (0, 0)) (pB BK148) hb); have n2_ := Aside0.mk (below_step (bD HB GE147 GE148) hb); have n3_ := Aside0.mk (hbox); have n4_ := Aside0.mk ((by rw [hg]; exact (below_size (bD HB GE147 GE148)) : w.heap.size ≤ gb149)); have n5_ := Aside0.mk ((by rw [hg]; exact (below_size (bD HB GE147 GE148)) : w.heap.size ≤ gb149)); have n6_ := Aside0.mk ((by rw [hg]; exact Nat.ne_of_lt (blk_lt (g := gb147) (o := .cells #[.int .i64 a0_0, .slice A0_1 l0_1.length c0_1] 56 (0, 0)) (pB BK147)) : gb147 ≠ gb149)); have n7_ := Aside0.mk ((by rw [hg]; exact Nat.ne_of_gt (blk_lt (g := gb147) (o := .cells #[.int .i64 a0_0, .slice A0_1 l0_1.length c0_1] 56 (0, 0)) (pB BK147)) : gb149 ≠ gb147)); have n8_ := Aside0.mk ((by rw [hg]; exact Nat.ne_of_lt (blk_lt (g := gb148) (o := .cells #[.int .i64 0, .slice none 0 0] 62 (0, 0)) (pB BK148)) : gb148 ≠ gb149)); have n9_ := Aside0.mk ((by rw [hg]; exact Nat.ne_of_gt (blk_lt (g := gb148) (o := .cells #[.int .i64 0, .slice none 0 0] 62 (0, 0)) (pB BK148)) : gb149 ≠ gb148)); clear BK147; clear BK148; clear HB; have BK147 := n0_; have BK148 := n1_; have HB := n2_; have BK149 := n3_; have GW149 := n4_; have GE149 := n5_; have NB147_149 := n6_; have NB149_147 := n7_; have NB148_149 := n8_; have NB149_148 := n9_; clear n0_ n1_ n2_ n3_ n4_ n5_ n6_ n7_ n8_ n9_; clear hb hbox hg; have hnb6 := NB147_148.out; have hnc6 := NB148_147.out; have hnb7 := NB147_149.out; have hnc7 := NB149_147.out; have hcz8_0 : w5.cell? ⟨gb147, 0, none⟩ = some (.int .i64 a0_0) := (blk_cell BK147.out 0).trans rfl; have hcz8_1 : w5.cell? ⟨gb147, 1, none⟩ = some (.slice A0_1 l0_1.length c0_1) := (blk_cell BK147.out 1).trans rfl; have hfz8_0 := blk_frozen BK147.out 0; have hfz8_1 := blk_frozen BK147.out 1; have hnb9 := NB149_148.out; have hnc9 := NB148_149.out; have hcz10_0 : w5.cell? ⟨gb149, 0, none⟩ = some (.int .i64 0) := (blk_cell BK149.out 0).trans rfl; have hcz10_1 : w5.cell? ⟨gb149, 1, none⟩ = some (.slice none 0 0) := (blk_cell BK149.out 1).trans rfl; have hfz10_0 := blk_frozen BK149.out 0; have hfz10_1 := blk_frozen BK149.out 1) | ((with_reducible refine gate_callee (f := 97) rfl ?_); refine goesL_ (some 9) rfl rfl Try.func97 (by kernel_rfl) rfl #[.slice A0_1 l0_1.length c0_1] rfl aT ?_; (with_reducible refine (laws_toPlaneSS.callsS k _ _ l0_1 t150 _ ?side1 ?side2 A2.out).mono ?_); (case side1 => exact Kd.C_below HR0_1.out (bE HB GE147 GE148 GE149)); (case side2 => exact HC0_1.out); rintro e w11 ⟨v151, rfl, ho0, hb⟩; refine ⟨_, rfl, ?_⟩; have n0_ := Aside0.mk (Kd.S_lower ho0 (below_size (bE HB GE147 GE148 GE149))); have n1_ := Aside0.mk (blk_below (g := gb147) (o := .cells #[.int .i64 a0_0, .slice A0_1 l0_1.length c0_1] 56 (0, 0)) (by (with_reducible repeat (first | refine blk_drewN ?_ _ | refine blk_drew ?_ | refine blk_alloc ?_ _)); refine blk_far ?_ NB147_149.out _; (with_reducible repeat (first | refine blk_drewN ?_ _ | refine blk_drew ?_ | refine blk_alloc ?_ _)); exact BK147.out) hb); have n2_ := Aside0.mk (blk_below (g := gb148) (o := .cells #[.int .i64 0, .slice none 0 0] 62 (0, 0)) (by (with_reducible repeat (first | refine blk_drewN ?_ _ | refine blk_drew ?_ | refine blk_alloc ?_ _)); refine blk_far ?_ NB148_149.out _; (with_reducible repeat (first | refine blk_drewN ?_ _ | refine blk_drew ?_ | refine blk_alloc ?_ _)); exact BK148.out) hb); have n3_ := Aside0.mk (blk_below (g := gb149) (o := .cells #[.int .i64 a0_0, .slice none 0 0] 62 (0, 0)) (by (with_reducible repeat (first | refine blk_drewN ?_ _ | refine blk_drew ?_ | refine blk_alloc ?_ _)); refine blk_put (cs := #[.int .i64 0, .slice none 0 0]) ?_ 0 _ rfl; (with_reducible repeat (first | refine blk_drewN ?_ _ | refine blk_drew ?_ | refine blk_alloc ?_ _)); exact BK149.out) hb); have n4_ := Aside0.mk (below_step (bE HB GE147 GE148 GE149) hb); clear BK147; clear BK148; clear BK149; clear HB; have HO152 := n0_; have BK147 := n1_; have BK148 := n2_; have BK149 := n3_; have HB := n4_; clear n0_ n1_ n2_ n3_ n4_; (try clear hb); (try clear hb2); (try clear hk); (try clear hi); (try clear ho0); obtain ⟨Ao12, co12, eo12⟩ := Kd.S_slice HO152.out; subst eo12; have hcz13_0 : w11.cell? ⟨gb149, 0, none⟩ = some (.int .i64 a0_0) := (blk_cell BK149.out 0).trans rfl; have hcz13_1 : w11.cell? ⟨gb149, 1, none⟩ = some (.slice none 0 0) := (blk_cell BK149.out 1).trans rfl; have hfz13_0 := blk_frozen BK149.out 0; have hfz13_1 := blk_frozen BK149.out 1; have hcz14_0 : w11.cell? ⟨gb148, 0, none⟩ = some (.int .i64 0) := (blk_cell BK148.out 0).trans rfl; have hcz14_1 : w11.cell? ⟨gb148, 1, none⟩ = some (.slice none 0 0) := (blk_cell BK148.out 1).trans rfl; have hfz14_0 := blk_frozen BK148.out 0; have hfz14_1 := blk_frozen BK148.out 1))
 refine bodyPost_ret (results_cell_row rfl _ _ gb148 62 #[.int .i64 a0_0, .slice Ao12 t150.length co12] (0, 0) _ rfl (by (with_reducible repeat (first | refine blk_drewN ?_ _ | refine blk_drew ?_ | refine blk_alloc ?_ _)); refine blk_put (cs := #[.int .i64 a0_0, .slice none 0 0]) ?_ 1 _ rfl; (with_reducible repeat (first | refine blk_drewN ?_ _ | refine blk_drew ?_ | refine blk_alloc ?_ _)); refine blk_put (cs := #[.int .i64 0, .slice none 0 0]) ?_ 0 _ rfl; (with_reducible repeat (first | refine blk_drewN ?_ _ | refine blk_drew ?_ | refine blk_alloc ?_ _)); refine blk_far ?_ NB148_149.out _; (with_reducible repeat (first | refine blk_drewN ?_ _ | refine blk_drew ?_ | refine blk_alloc ?_ _)); exact BK148.out) Try.underlying62 rfl (by kernel_rfl)) rfl ?_
 exact ⟨_, eW, by (with_reducible repeat (first | apply Kd.S_alloc | apply Kd.S_drewN | apply Kd.S_drew)); exact Kd.S_mono (Kd.S_far (p := ⟨gb148, 1, none⟩) (Kd.S_far (p := ⟨gb148, 0, none⟩) (Kd.S_far (p := ⟨gb149, 1, none⟩) (Kd.S_types (Kd.S_types HO152.out BK149.out (by decide)) BK148.out (by decide)) (fun _ hk => hk.1.2) (.slice Ao12 t150.length co12)) (fun _ hk => hk.2) (.int .i64 a0_0)) (fun _ hk => hk.2) (.slice Ao12 t150.length co12)) (fun _ hk => trivial), bE HB GE147 GE148 GE149⟩

end Go.Proofs.Ytniebbjbihenfaa.KFnExactNetTables
