/- The functions of the laws that mark rows of rows: what their calls do. -/
import Derived.Test.YtihnijfgdffhjaaPFnExactParityNetx
import Derived.Test.YtihnijfgdffhjaaMc
import Derived.Test.YtihnijfgdffhjaaSl
namespace Go.Proofs.Ytihnijfgdffhjaa.KFnExactParityNet
open Go.RowKit Go.Proofs.Ytihnijfgdffhjaa.Sl Go.Proofs.Ytihnijfgdffhjaa.Sh Go.Proofs.Ytihnijfgdffhjaa.Mc Go.Proofs.Ytihnijfgdffhjaa.PFnExactParityNet Go.Proofs.YtihnijfgdffhjaaW.PrintWords Go.Proofs.YtihnijfgdffhjaaW.PrintLast Go.Proofs.YtihnijfgdffhjaaW.PrintMore
set_option linter.unusedVariables false
set_option linter.unusedSimpArgs false
def rdR {α : Type} (xs : List (List α)) (i : Int) : List α := xs.getD i.toNat []
theorem rdR_nat {α : Type} (xs : List (List α)) (i : Nat) : rdR xs (i : Int) = xs.getD i [] := by simp [rdR]
/-! ### laws_markPlaneS: function 110 -/
def laws_markPlaneS.l0 : Nat → List S33 → Int → Int → Option (Int × List S33)
 | 0, _, _, _ => none
 | k + 1, x0, x1, x5 => if x5 < (x0.length : Int) then (if 0 ≤ x5 then ((laws_markIntS.f k (rd_T33 x0 x5).f0 x1).bind fun b => laws_markPlaneS.l0 k (x0.set (x5 : Int).toNat ⟨b.2, b.1⟩) (wrap64 (b.1 + 1)) (wrap64 (x5 + 1))) else none) else some (x1, x0)
def laws_markPlaneS.f (k : Nat) (l0 : List S33) (a1 : Int) : Option (Int × List S33) := laws_markPlaneS.l0 k l0 a1 0
set_option maxHeartbeats 8000000 in
set_option maxRecDepth 100000 in
theorem laws_markPlaneS.calls (k : Nat) (P0_ : Nat → Prop) (u9000_ : Value) (l0 : List S33) (a1 : Int) (r1 : Int) (r2 : List S33) (w0 w : World) (hB : Below w0.heap.size w0 w) (ho0 : Kd.S k33 33 w w0.heap.size P0_ u9000_ l0) (h : laws_markPlaneS.f k l0 a1 = some (r1, r2)) :
 Calls Try.prog 110 #[u9000_, .int .i64 a1] w fun e w' => e = .returned (.int .i64 r1) ∧ Kd.S k33 33 w' w0.heap.size (fun k_ => (P0_ k_ ∨ w.heap.size ≤ k_)) u9000_ r2 ∧ Below w0.heap.size w0 w' ∧ Kept w w' (fun k_ => P0_ k_) := by
 have HO0 := Aside0.mk (show Kd.S k33 33 w w0.heap.size (fun k_ => (P0_ k_ ∨ w.heap.size ≤ k_)) u9000_ l0 from Kd.S_mono ho0 (fun k_ hk => (.inl hk)))
 have HK := Aside0.mk (Kept.refl w (fun k_ => P0_ k_))
 have HB := Aside0.mk hB
 have HG0 := Aside0.mk (fun k_ (h_ : u9000_.ownBlock = some k_) => (Kd.S_R ho0).1 k_ h_)
 clear hB ho0
 have H' := Aside0.mk (show laws_markPlaneS.l0 k l0 a1 0 = some (r1, r2) from h)
 clear h
 go_enter Try.func110, Try.ntmps110
 go_wp2
 go_loopg [1, 5] k (fun kq v1 v5 w' => ∃ (x0_1 : List S33) (x1_1 : Int) (x5_1 : Int), v1 = .int .i64 x1_1 ∧ v5 = .int .i64 x5_1 ∧ Aside0 (laws_markPlaneS.l0 kq x0_1 x1_1 x5_1 = some (r1, r2)) ∧ Aside0 (kq ≤ k) ∧ Aside0 (Kd.S k33 33 w' w0.heap.size (fun k_ => (P0_ k_ ∨ w.heap.size ≤ k_)) u9000_ x0_1) ∧ Aside0 (Kept w w' (fun k_ => P0_ k_)) ∧ Aside0 (Below w0.heap.size w0 w'))
 case atStart => exact ⟨l0, a1, 0, rfl, rfl, H', ⟨Nat.le_refl _⟩, HO0, HK, HB⟩
 case round =>
  clear H' HO0 HK HB
  obtain ⟨x0_1, x1_1, x5_1, rfl, rfl, HA, HK1, HO, HK, HB⟩ := hrel
  cases gk with
  | zero => exact absurd HA.out (by simp [laws_markPlaneS.l0])
  | succ k1 =>
   have H := HA.out
   clear HA
   simp only [laws_markPlaneS.l0] at H
   obtain ⟨A6, c6, e6⟩ := Kd.S_slice HO.out
   subst e6
   by_cases c3 : x5_1 < (x0_1.length : Int)
   · rw [if_pos c3] at H
     by_cases c4 : 0 ≤ x5_1
     · rw [if_pos c4] at H
       obtain ⟨⟨t1, t2⟩, hf, H⟩ := Option.bind_eq_some_iff.mp H
       have HF := Aside0.mk hf
       have H' := Aside0.mk H
       clear hf H
       obtain ⟨g, cap, eg, gb, gl, cl, hcl⟩ := Kd.S_form HO.out (by omega)
       injection eg with ea _ ec
       subst ea ec
       have GG := Aside0.mk hcl
       have GE := Aside0.mk gb
       clear gb gl hcl
       obtain ⟨oki, c, hc1, hM, hcell, hoki, hH⟩ := Kd.S_lend HO.out z33 x5_1 c4 c3
       obtain ⟨v, rfl, hR⟩ := k33_openM hM
       have hx : wr.cell? ⟨g, x5_1.toNat * 2, none⟩ = some v := hcell 0 v rfl
       have HH := Aside0.mk hH
       have HR := Aside0.mk (show Kd.R (Kd.int .i64) 3 wr w0.heap.size oki v (rd_T33 x0_1 x5_1).f0 from hR)
       have HI := Aside0.mk hoki
       clear hH hR hM hoki hcell hc1
       have C3 := Aside0.mk c3
       have C4 := Aside0.mk c4
       have c3b : decide (x5_1 < (x0_1.length : Int)) = true := decide_eq_true c3
       have c4b : decide (0 ≤ x5_1) = true := decide_eq_true c4
       have p5 := eq_true c4
       have q5 := eq_true c3
       clear c3 c4
       go_wp2_with (fail)
       refine (laws_markIntS.calls k1 oki v (rd_T33 x0_1 x5_1).f0 x1_1 t1 t2 w0 wr HB.out HR.out HF.out).mono ?_
       rintro e w1 ⟨rfl, hR1, hB1, hK1⟩
       have HO1 := Aside0.mk (Kd.H_back (Kd.H_step (Kd.H_widen HH.out) (fun k_ _ hn_ hl_ => hK1.2 k_ hl_ (fun h_ => hn_ (.inl h_)))) (x' := (⟨t2, (rd_T33 x0_1 x5_1).f1⟩ : S33)) (okp := fun k_ => oki k_ ∨ wr.heap.size ≤ k_) (k33_mkM _ _ _ (⟨t2, (rd_T33 x0_1 x5_1).f1⟩ : S33) hR1) (fun k_ h_ => h_.elim .inl (fun h2_ => .inr ⟨.inr (Nat.le_trans HK.out.1 h2_), h2_⟩)))
       have HK2 := Aside0.mk (Kept.then_ HK.out hK1 (fun k_ h_ => (HI.out k_ h_).1))
       have HB2 := Aside0.mk hB1
       clear HO HK HB HH HR hR1 hB1 hK1 hx
       have c3' : x5_1 < ((x0_1.set x5_1.toNat (⟨t2, (rd_T33 x0_1 x5_1).f1⟩ : S33)).length : Int) := by rw [List.length_set]; exact C3.out
       obtain ⟨oki2, cc, hcl2, hM2, hcc2, hfr2, hoki2, hH2⟩ := Kd.S_elem HO1.out z33 x5_1 C4.out C3.out
       have hget : (x0_1.set x5_1.toNat (⟨t2, (rd_T33 x0_1 x5_1).f1⟩ : S33)).getD x5_1.toNat z33 = (⟨t2, (rd_T33 x0_1 x5_1).f1⟩ : S33) := by
        have := C3.out
        have := C4.out
        simp [List.getD_eq_getElem?_getD, show x5_1.toNat < x0_1.length by omega]
       rw [hget] at hM2
       obtain ⟨v2, rfl, hR2⟩ := k33_openM hM2
       have HP := Kd.S_seg0 hH2 C4.out C3.out (seg := [.int .i64 t1]) (j := 1) (show 1 + 1 ≤ 2 from by decide) (x' := (⟨t2, t1⟩ : S33)) (k33_mkM _ _ _ (⟨t2, t1⟩ : S33) hR2) (fun _ hk => hk)
       rw [List.set_set] at HP
       have hx1 : w1.cell? ⟨g, x5_1.toNat * 2 + 1, none⟩ = some (.int .i64 (rd_T33 x0_1 x5_1).f1) := hcc2 1 _ rfl
       have hf1 : w1.frozen? ⟨g, x5_1.toNat * 2 + 1, none⟩ = false := hfr2 1
       have HGB := Aside0.mk (show P0_ g from HG0.out g rfl)
       clear hcl2 hM2 hcc2 hfr2 hoki2 hH2 hget c3' hR2
       go_wp2_with (fail)
       have HS2 := Aside0.mk (show Kd.S k33 33 (w1.setCell ⟨g, x5_1.toNat * 2 + 1, none⟩ (.int .i64 t1)) w0.heap.size (fun k_ => (P0_ k_ ∨ w.heap.size ≤ k_)) (.slice (some ⟨g, 0, none⟩) x0_1.length c6) (x0_1.set x5_1.toNat (⟨t2, t1⟩ : S33)) from HP.1)
       have HK3 := Aside0.mk (Kept.of_grown (S := (fun k_ => P0_ k_)) (show w1.grownBy (w1.setCell ⟨g, x5_1.toNat * 2 + 1, none⟩ (.int .i64 t1)) (some g) from HP.2) HK2.out (fun k_ e_ => by have e2_ : g = k_ := (by injection e_); rw [← e2_]; exact .inl HGB.out))
       have HB3 := Aside0.mk (show Below w0.heap.size w0 (w1.setCell ⟨g, x5_1.toNat * 2 + 1, none⟩ (.int .i64 t1)) from below_set HB2.out GE.out)
       go_roundg k1
       case measure => have := HK1.out; omega
       case rel => exact ⟨_, wrap64 (t1 + 1), wrap64 (x5_1 + 1), rfl, rfl, H', ⟨by have := HK1.out; omega⟩, HS2, HK3, HB3⟩
     · rw [if_neg c4] at H
       exact absurd H (by simp)
   · rw [if_neg c3] at H
     simp only [Option.some.injEq, Prod.mk.injEq] at H
     obtain ⟨rfl, rfl⟩ := H
     have c3b : decide (x5_1 < (x0_1.length : Int)) = false := decide_eq_false c3
     clear c3
     go_wp2
     go_ret
     exact ⟨rfl, HO.out, HB.out, HK.out⟩
/-! ### laws_markPlaneSS: function 80 -/
def laws_markPlaneSS.l0 : Nat → List (List S33) → Int → Int → Option (Int × List (List S33))
 | 0, _, _, _ => none
 | k + 1, x0, x1, x5 => if x5 < (x0.length : Int) then (if 0 ≤ x5 then ((laws_markPlaneS.f k (rdR x0 x5) x1).bind fun b => laws_markPlaneSS.l0 k (x0.set (x5 : Int).toNat b.2) b.1 (wrap64 (x5 + 1))) else none) else some (x1, x0)
def laws_markPlaneSS.f (k : Nat) (l0 : List (List S33)) (a1 : Int) : Option (Int × List (List S33)) := laws_markPlaneSS.l0 k l0 a1 0
set_option maxHeartbeats 8000000 in
set_option maxRecDepth 100000 in
theorem laws_markPlaneSS.calls (k : Nat) (P0_ : Nat → Prop) (u9000_ : Value) (l0 : List (List S33)) (a1 : Int) (r1 : Int) (r2 : List (List S33)) (w0 w : World) (hB : Below w0.heap.size w0 w) (ho0 : Kd.S (Kd.sliceS 33 k33) 63 w w0.heap.size P0_ u9000_ l0) (h : laws_markPlaneSS.f k l0 a1 = some (r1, r2)) :
 Calls Try.prog 80 #[u9000_, .int .i64 a1] w fun e w' => e = .returned (.int .i64 r1) ∧ Kd.S (Kd.sliceS 33 k33) 63 w' w0.heap.size (fun k_ => (P0_ k_ ∨ w.heap.size ≤ k_)) u9000_ r2 ∧ Below w0.heap.size w0 w' ∧ Kept w w' (fun k_ => P0_ k_) := by
 have HO0 := Aside0.mk (show Kd.S (Kd.sliceS 33 k33) 63 w w0.heap.size (fun k_ => (P0_ k_ ∨ w.heap.size ≤ k_)) u9000_ l0 from Kd.S_mono ho0 (fun k_ hk => (.inl hk)))
 have HK := Aside0.mk (Kept.refl w (fun k_ => P0_ k_))
 have HB := Aside0.mk hB
 clear hB ho0
 have H' := Aside0.mk (show laws_markPlaneSS.l0 k l0 a1 0 = some (r1, r2) from h)
 clear h
 go_enter Try.func80, Try.ntmps80
 go_wp2
 go_loopg [1, 5] k (fun kq v1 v5 w' => ∃ (x0_1 : List (List S33)) (x1_1 : Int) (x5_1 : Int), v1 = .int .i64 x1_1 ∧ v5 = .int .i64 x5_1 ∧ Aside0 (laws_markPlaneSS.l0 kq x0_1 x1_1 x5_1 = some (r1, r2)) ∧ Aside0 (kq ≤ k) ∧ Aside0 (Kd.S (Kd.sliceS 33 k33) 63 w' w0.heap.size (fun k_ => (P0_ k_ ∨ w.heap.size ≤ k_)) u9000_ x0_1) ∧ Aside0 (Kept w w' (fun k_ => P0_ k_)) ∧ Aside0 (Below w0.heap.size w0 w'))
 case atStart => exact ⟨l0, a1, 0, rfl, rfl, H', ⟨Nat.le_refl _⟩, HO0, HK, HB⟩
 case round =>
  clear H' HO0 HK HB
  obtain ⟨x0_1, x1_1, x5_1, rfl, rfl, HA, HK1, HO, HK, HB⟩ := hrel
  cases gk with
  | zero => exact absurd HA.out (by simp [laws_markPlaneSS.l0])
  | succ k1 =>
   have H := HA.out
   clear HA
   simp only [laws_markPlaneSS.l0] at H
   obtain ⟨A6, c6, e6⟩ := Kd.S_slice HO.out
   subst e6
   by_cases c3 : x5_1 < (x0_1.length : Int)
   · rw [if_pos c3] at H
     by_cases c4 : 0 ≤ x5_1
     · rw [if_pos c4] at H
       obtain ⟨⟨t1, t2⟩, hf, H⟩ := Option.bind_eq_some_iff.mp H
       have HF := Aside0.mk hf
       have H' := Aside0.mk H
       clear hf H
       obtain ⟨g, cap, eg, gb, gl, cl, hcl⟩ := Kd.S_form HO.out (by omega)
       injection eg with ea _ ec
       subst ea ec
       have GG := Aside0.mk hcl
       clear gb gl hcl
       obtain ⟨oki, c, hc1, hM, hcell, hoki, hH⟩ := Kd.S_lend HO.out ([] : List S33) x5_1 c4 c3
       obtain ⟨v, rfl, hR⟩ := hM
       have hx : wr.cell? ⟨g, x5_1.toNat, none⟩ = some v := by have := hcell 0 v rfl; rwa [show x5_1.toNat * (Kd.sliceS 33 k33).sz + 0 = x5_1.toNat from by show x5_1.toNat * 1 + 0 = _; omega] at this
       have HH := Aside0.mk hH
       have HR := Aside0.mk hR
       have HI := Aside0.mk hoki
       clear hH hR hoki hcell hc1
       have c3b : decide (x5_1 < (x0_1.length : Int)) = true := decide_eq_true c3
       have c4b : decide (0 ≤ x5_1) = true := decide_eq_true c4
       have p5 := eq_true c4
       have q5 := eq_true c3
       clear c3 c4
       go_wp2_with (fail)
       refine (laws_markPlaneS.calls k1 oki v (rdR x0_1 x5_1) x1_1 t1 t2 w0 wr HB.out HR.out HF.out).mono ?_
       rintro e w1 ⟨rfl, hR1, hB1, hK1⟩
       have HO1 := Aside0.mk (Kd.H_back (Kd.H_step (Kd.H_widen HH.out) (fun k_ _ hn_ hl_ => hK1.2 k_ hl_ (fun h_ => hn_ (.inl h_)))) (x' := t2) (okp := fun k_ => oki k_ ∨ wr.heap.size ≤ k_) ⟨v, rfl, hR1⟩ (fun k_ h_ => h_.elim .inl (fun h2_ => .inr ⟨.inr (Nat.le_trans HK.out.1 h2_), h2_⟩)))
       have HK2 := Aside0.mk (Kept.then_ HK.out hK1 (fun k_ h_ => (HI.out k_ h_).1))
       have HB2 := Aside0.mk hB1
       clear HO HK HB HH HR hR1 hB1 hK1 hx
       go_wp2
       go_roundg k1
       case measure => have := HK1.out; omega
       case rel => exact ⟨_, t1, wrap64 (x5_1 + 1), rfl, rfl, H', ⟨by have := HK1.out; omega⟩, HO1, HK2, HB2⟩
     · rw [if_neg c4] at H
       exact absurd H (by simp)
   · rw [if_neg c3] at H
     simp only [Option.some.injEq, Prod.mk.injEq] at H
     obtain ⟨rfl, rfl⟩ := H
     have c3b : decide (x5_1 < (x0_1.length : Int)) = false := decide_eq_false c3
     clear c3
     go_wp2
     go_ret
     exact ⟨rfl, HO.out, HB.out, HK.out⟩
/-! ### laws_markNet: function 29 -/
def laws_markNet.f (k : Nat) (a0_0 : Int) (l0_1 : List (List S33)) (a1 : Int) : Option (Int × List (List S33)) := laws_markPlaneSS.f k l0_1 a1
set_option maxHeartbeats 8000000 in
set_option maxRecDepth 100000 in
theorem laws_markNet.calls (k : Nat) (a0_0 : Int) (P0_1_ : Nat → Prop) (u9001_ : Value) (l0_1 : List (List S33)) (a1 : Int) (r1 : Int) (r2 : List (List S33)) (w0 w : World) (hB : Below w0.heap.size w0 w) (ho0_1 : Kd.S (Kd.sliceS 33 k33) 63 w w0.heap.size P0_1_ u9001_ l0_1) (h : laws_markNet.f k a0_0 l0_1 a1 = some (r1, r2)) :
 Calls Try.prog 29 #[.agg #[.int .i64 a0_0, u9001_], .int .i64 a1] w fun e w' => e = .returned (.int .i64 r1) ∧ Kd.S (Kd.sliceS 33 k33) 63 w' w0.heap.size (fun k_ => (P0_1_ k_ ∨ w.heap.size ≤ k_)) u9001_ r2 ∧ Below w0.heap.size w0 w' ∧ Kept w w' (fun k_ => P0_1_ k_) := by
 have hu := Try.underlying39
 have HB := Aside0.mk hB
 have HO0 := Aside0.mk ho0_1
 have HF := Aside0.mk (show laws_markPlaneSS.f k l0_1 a1 = some (r1, r2) from h)
 clear h hB ho0_1
 obtain ⟨A0, c0, e0⟩ := Kd.S_slice HO0.out
 subst e0
 replace HO0 := Aside0.mk (Kd.S_mono (ok' := fun k_ => P0_1_ k_ ∧ k_ < w.heap.size) (Kd.S_bound HO0.out) (fun k_ h_ => ⟨h_.1, h_.2.2.1⟩))
 go_enter Try.func29, Try.ntmps29
 go_wp2_with (fail)
 refine (laws_markPlaneSS.calls k (fun k_ => P0_1_ k_ ∧ k_ < w.heap.size) _ l0_1 a1 r1 r2 w0 _ (bB HB) (pS HO0) HF.out).mono ?_
 rintro e w1 ⟨rfl, hs, hb, hk⟩
 have hw1 : w.heap.size + 1 ≤ w1.heap.size := by simpa using hk.1
 have HK1 := Aside0.mk (Kept.then_ (Kept.of_below (below_alloc (Below.refl _ _) (.cells #[.int .i64 a0_0, .slice A0 l0_1.length c0] 39 (0, 0))) (fun k_ => P0_1_ k_)) hk (fun k_ h_ => .inl h_.1))
 have HS := Aside0.mk (Kd.S_mono (ok' := fun k_ => P0_1_ k_ ∨ w.heap.size ≤ k_) hs (fun k_ h_ => h_.elim (fun a_ => .inl a_.1) (fun z_ => .inr (by have : w.heap.size + 1 ≤ k_ := (by simpa using z_); omega))))
 have HB1 := Aside0.mk hb
 clear hs hb hk hw1
 go_wp2_with (fail)
 go_ret
 exact ⟨rfl, HS.out, HB1.out, HK1.out⟩
set_option maxHeartbeats 8000000 in
set_option maxRecDepth 100000 in
theorem impl_ParityNet.callsS (k : Nat) (a0 : Int) (r1 : Int) (r2 : List (List (S33))) (r3 : Bool) (w : World) (h : impl_ParityNet.f k a0 = some (r1, r2, r3)) :
 Calls Try.prog 46 #[.int .i64 a0] w fun e w' => ∃ v1_ : Value, e = .returned (.tuple #[.agg #[.int .i64 r1, v1_], .bool r3]) ∧ Kd.S (Kd.sliceS 33 k33) 63 w' w.heap.size (fun _ => True) v1_ r2 ∧ Below w.heap.size w w' := by
 have hu39 := Try.underlying39
 have hu33 := Try.underlying33
 have HB := Aside0.mk (Below.refl w.heap.size w)
 have H : ((impl_within.f a0 1 4).bind fun t166 => (if t166 = true then (impl_ParityNet.l0 k a0 (([] : List (S33))) a0 0 ([] : List Int) 1) else (some (0, ([] : List (List (S33))), false)))) = some (r1, r2, r3) := h
 clear h
 replace H := Option.bind_eq_some_iff.mp H
 obtain ⟨t166, A20, H⟩ := H
 replace H : (if t166 = true then (impl_ParityNet.l0 k a0 (([] : List (S33))) a0 0 ([] : List Int) 1) else (some (0, ([] : List (List (S33))), false))) = some (r1, r2, r3) := H
 have A2 := Aside0.mk A20
 clear A20
 by_cases c3 : t166 = true
 · subst c3
   have H1 : (impl_ParityNet.l0 k a0 (([] : List (S33))) a0 0 ([] : List Int) 1) = some (r1, r2, r3) := by rw [if_pos rfl] at H; exact H
   clear H
   have H := H1
   clear H1
   obtain ⟨y167, hy167⟩ : ∃ y_ : List (S33), y_ = (([] : List (S33))) := ⟨_, rfl⟩
   replace H : (impl_ParityNet.l0 k a0 y167 a0 0 ([] : List Int) 1) = some (r1, r2, r3) := by first | (rw [hy167]; with_reducible exact H) | (have H2_ := (Option.bind_some _ _).symm.trans H; rw [hy167]; with_reducible exact H2_) | (have H2_ := (Option.bind_some _ _).symm.trans H; with_reducible exact H2_) | with_reducible exact H | (rw [hy167]; exact H) | exact H
   have Ny167 := Aside0.mk hy167
   clear hy167
   have H' := Aside0.mk H
   clear H
   go_enter Try.func46, Try.ntmps46
   go_wp2_with (first | ((with_reducible refine gate_dst (N := 2) rfl ?_); refine box_event ?hg (N := 2) ?hd (cs := #[.int .i64 0, .slice none 0 0]) (t := 39) ?hr ?_; (case hd => rfl); (case hg => rfl); (case hr => first | (go_simp; done) | (go_simp; rfl)); intro gb165 hg w4 hbox hb; have n0_ := Aside0.mk (below_step (bB HB) hb); have n1_ := Aside0.mk (hbox); have n2_ := Aside0.mk ((by rw [hg]; exact (below_size (bB HB)) : w.heap.size ≤ gb165)); have n3_ := Aside0.mk ((by rw [hg]; exact (below_size (bB HB)) : w.heap.size ≤ gb165)); clear HB; have HB := n0_; have BK165 := n1_; have GW165 := n2_; have GE165 := n3_; clear n0_ n1_ n2_ n3_; clear hb hbox hg) | ((with_reducible refine gate_callee (f := 65) rfl ?_); refine goesL_ (some 8) rfl rfl Try.func65 (by kernel_rfl) rfl #[.int .i64 a0, .int .i64 1, .int .i64 4] rfl aT ?_; (with_reducible refine (impl_within.calls a0 1 4 true _ A2.out).mono ?_); rintro e w' ⟨rfl, ⟨nd, rfl⟩⟩; refine ⟨_, rfl, ?_⟩; (try (rw [drewN_self w4]; generalize hq_ : World.drewN w4 _ = w4; have n0_ : Aside0 (w4.heap[gb165]? = some (.cells #[.int .i64 0, .slice none 0 0] 39 (0, 0))) := ⟨by rw [← hq_]; exact (pB BK165)⟩; have n1_ : Aside0 (Below w.heap.size w w4) := ⟨by rw [← hq_]; exact (bC HB GE165)⟩; clear BK165 HB hq_; have BK165 := n0_; have HB := n1_; clear n0_ n1_))) | ((with_reducible refine gate_dst (N := 11) rfl ?_); refine Kd.S_lit k33 _ 33 ?hg (N := 11) ?hd (xs := ([] : List (S33))) (inner := []) (ok := fun _ => True) (okp := fun _ => True) ?hr ?hp (fun _ hk => hk) trivial (Below.refl _ _) (Nat.le_refl _) (by simp) ?_; (case hd => rfl); (case hg => rfl); (case hr => first | (go_simp; done) | (go_simp; rfl)); (case hp => exact (Reps.none _ _)); intro v168 w5 ho6 hb hg_ hnew_; clear hg_ hnew_; (first | rw [← Ny167.out] at ho6 | (simp only [Int.reduceToNat] at ho6; rw [← Ny167.out] at ho6)); have n0_ := Aside0.mk (Kd.S_lower ho6 (below_size (bC HB GE165))); have n1_ := Aside0.mk (blk_below (g := gb165) (o := .cells #[.int .i64 0, .slice none 0 0] 39 (0, 0)) (pB BK165) hb); have n2_ := Aside0.mk (below_step (bC HB GE165) hb); clear BK165; clear HB; have HO169 := n0_; have BK165 := n1_; have HB := n2_; clear n0_ n1_ n2_; clear hb ho6) | ((with_reducible refine gate_dst (N := 5) rfl ?_); refine box_event ?hg (N := 5) ?hd (cs := #[.slice none 0 0, .int .i64 0]) (t := 33) ?hr ?_; (case hd => rfl); (case hg => rfl); (case hr => first | (go_simp; done) | (go_simp; rfl)); intro gb170 hg w7 hbox hb; have n0_ := Aside0.mk (Kd.S_below (Kd.S_elderB (pS HO169) gb170 (Nat.le_of_eq hg.symm)) hb); have n1_ := Aside0.mk (blk_below (g := gb165) (o := .cells #[.int .i64 0, .slice none 0 0] 39 (0, 0)) (pB BK165) hb); have n2_ := Aside0.mk (below_step (bC HB GE165) hb); have n3_ := Aside0.mk (hbox); have n4_ := Aside0.mk ((by rw [hg]; exact (below_size (bC HB GE165)) : w.heap.size ≤ gb170)); have n5_ := Aside0.mk ((by rw [hg]; exact (below_size (bC HB GE165)) : w.heap.size ≤ gb170)); have n6_ := Aside0.mk ((by rw [hg]; exact Nat.ne_of_lt (blk_lt (g := gb165) (o := .cells #[.int .i64 0, .slice none 0 0] 39 (0, 0)) (pB BK165)) : gb165 ≠ gb170)); have n7_ := Aside0.mk ((by rw [hg]; exact Nat.ne_of_gt (blk_lt (g := gb165) (o := .cells #[.int .i64 0, .slice none 0 0] 39 (0, 0)) (pB BK165)) : gb170 ≠ gb165)); clear HO169; clear BK165; clear HB; have HO169 := n0_; have BK165 := n1_; have HB := n2_; have BK170 := n3_; have GW170 := n4_; have GE170 := n5_; have NB165_170 := n6_; have NB170_165 := n7_; clear n0_ n1_ n2_ n3_ n4_ n5_ n6_ n7_; clear hb hbox hg; have hnb8 := NB170_165.out; have hnc8 := NB165_170.out; have hcz9_0 : w7.cell? ⟨gb170, 0, none⟩ = some (.slice none 0 0) := (blk_cell BK170.out 0).trans rfl; have hcz9_1 : w7.cell? ⟨gb170, 1, none⟩ = some (.int .i64 0) := (blk_cell BK170.out 1).trans rfl; have hfz9_0 := blk_frozen BK170.out 0; have hfz9_1 := blk_frozen BK170.out 1))
   go_loopg [4, 14] k (fun kq v4 v14 w' => ∃ (x4_1 : List (S33)) (x14_1 : Int) (x171000_1 : List Int) (u171000 : Value), v14 = .int .i64 x14_1 ∧ Aside0 (impl_ParityNet.l0 kq a0 x4_1 a0 x14_1 x171000_1 1 = some (r1, r2, r3)) ∧ Aside0 (kq ≤ k) ∧ Aside0 (Kd.S k33 33 w' w.heap.size (fun k_ => some k_ ≠ (u171000 : Value).ownBlock ∧ k_ ≠ gb170) v4 x4_1) ∧ Aside0 (Kd.R (Kd.int .i64) 3 w' w.heap.size (fun _ => True) u171000 x171000_1) ∧ Aside0 (w'.heap[gb165]? = some (.cells #[.int .i64 0, (.slice none 0 0)] 39 (0, 0))) ∧ Aside0 (w'.heap[gb170]? = some (.cells #[u171000, .int .i64 1] 33 (0, 0))) ∧ Aside0 (Below w.heap.size w w'))
   case atStart => exact ⟨(y167), (0), (([] : List Int)), (.slice none 0 0), rD, H', ⟨Nat.le_refl _⟩, ⟨by (with_reducible repeat (first | apply Kd.S_alloc | apply Kd.S_drewN | apply Kd.S_drew)); exact Kd.S_mono (Kd.S_far (p := ⟨gb170, 1, none⟩) (Kd.S_far (p := ⟨gb170, 0, none⟩) (Kd.S_mono HO169.out (fun k_ hk => (⟨hk, hk.2⟩ : _ ∧ k_ ≠ gb170))) (fun _ hk => hk.2) (.slice none 0 0)) (fun _ hk => hk.2) (.int .i64 1)) (fun _ hk => ⟨(by simp [Value.ownBlock]), hk.1.2⟩)⟩, ⟨by first | exact Kd.R_nil _ _ _ _ _ | exact Kd.N_nil _ _ _ _ _ | exact Kd.V_nil _ _ _ _ _ | exact Kd.Q_nil _ _ _ _ _ | exact Kd.S_nil _ _ _ _ _⟩, ⟨by (with_reducible repeat (first | refine blk_drewN ?_ _ | refine blk_drew ?_ | refine blk_alloc ?_ _)); refine blk_far ?_ NB165_170.out _; (with_reducible repeat (first | refine blk_drewN ?_ _ | refine blk_drew ?_ | refine blk_alloc ?_ _)); refine blk_far ?_ NB165_170.out _; (with_reducible repeat (first | refine blk_drewN ?_ _ | refine blk_drew ?_ | refine blk_alloc ?_ _)); exact BK165.out⟩, ⟨by (with_reducible repeat (first | refine blk_drewN ?_ _ | refine blk_drew ?_ | refine blk_alloc ?_ _)); refine blk_put (cs := #[.slice none 0 0, .int .i64 0]) ?_ 1 _ rfl; (with_reducible repeat (first | refine blk_drewN ?_ _ | refine blk_drew ?_ | refine blk_alloc ?_ _)); refine blk_put (cs := #[.slice none 0 0, .int .i64 0]) ?_ 0 _ rfl; (with_reducible repeat (first | refine blk_drewN ?_ _ | refine blk_drew ?_ | refine blk_alloc ?_ _)); exact BK170.out⟩, ⟨bD HB GE165 GE170⟩⟩
   case round =>
    clear H'
    try clear p2
    try clear c3
    try clear c4
    try clear c6
    try clear c8
    try clear hcz9_0
    try clear hcz9_1
    try clear hfz9_0
    try clear hfz9_1
    obtain ⟨x4_1, x14_1, x171000_1, u171000, rfl, HA, HK1, HO_4, HO_171000, BK165, BK170, HB⟩ := hrel
    cases gk with
    | zero => exact absurd HA.out (by simp [impl_ParityNet.l0])
    | succ k1 =>
     have H := HA.out
     clear HA
     simp only [impl_ParityNet.l0] at H
     by_cases c10 : x14_1 < a0
     · rw [if_pos c10] at H
       have c10b0 : decide (x14_1 < a0) = true := decide_eq_true c10
       clear c10
       replace H := Option.bind_eq_some_iff.mp H
       obtain ⟨t171, A110, H⟩ := H
       replace H : (if x4_1.length < 4398046511104 then (if x171000_1.length < 17592186044416 then (impl_ParityNet.l0 k1 a0 (x4_1 ++ [(⟨t171, wrap64 (x14_1 + 1)⟩ : S33)]) a0 (wrap64 (x14_1 + 1)) (x171000_1 ++ [wrap64 (1 - (wrap64 (2 * (Int.tmod x14_1 2))))]) 1) else (none)) else (none)) = some (r1, r2, r3) := H
       have A11 := Aside0.mk A110
       clear A110
       by_cases c12 : x4_1.length < 4398046511104
       · rw [if_pos c12] at H
         have LMc12 := Aside0.mk c12
         clear c12
         obtain ⟨y174, hy174⟩ : ∃ y_ : List (S33), y_ = (x4_1 ++ [(⟨t171, wrap64 (x14_1 + 1)⟩ : S33)]) := ⟨_, rfl⟩
         replace H : (if x171000_1.length < 17592186044416 then (impl_ParityNet.l0 k1 a0 y174 a0 (wrap64 (x14_1 + 1)) (x171000_1 ++ [wrap64 (1 - (wrap64 (2 * (Int.tmod x14_1 2))))]) 1) else (none)) = some (r1, r2, r3) := by first | (rw [hy174]; with_reducible exact H) | (have H2_ := (Option.bind_some _ _).symm.trans H; rw [hy174]; with_reducible exact H2_) | (have H2_ := (Option.bind_some _ _).symm.trans H; with_reducible exact H2_) | with_reducible exact H | (rw [hy174]; exact H) | exact H
         have Ny174 := Aside0.mk hy174
         clear hy174
         by_cases c13 : x171000_1.length < 17592186044416
         · rw [if_pos c13] at H
           have LMc13 := Aside0.mk c13
           clear c13
           obtain ⟨y177, hy177⟩ : ∃ y_ : List Int, y_ = (x171000_1 ++ [wrap64 (1 - (wrap64 (2 * (Int.tmod x14_1 2))))]) := ⟨_, rfl⟩
           replace H : (impl_ParityNet.l0 k1 a0 y174 a0 (wrap64 (x14_1 + 1)) y177 1) = some (r1, r2, r3) := by first | (rw [hy177]; with_reducible exact H) | (have H2_ := (Option.bind_some _ _).symm.trans H; rw [hy177]; with_reducible exact H2_) | (have H2_ := (Option.bind_some _ _).symm.trans H; with_reducible exact H2_) | with_reducible exact H | (rw [hy177]; exact H) | exact H
           have Ny177 := Aside0.mk hy177
           clear hy177
           have H' := Aside0.mk H
           clear H
           go_wp2_with (first | ((with_reducible refine gate_callee (f := 92) rfl ?_); refine goesL_ (some 19) rfl rfl Try.func92 (by kernel_rfl) rfl #[.int .i64 a0] rfl aT ?_; (with_reducible refine (impl_ones.calls k1 a0 t171 _ A11.out).mono ?_); rintro e w14 ⟨v172, rfl, ho0, hb⟩; refine ⟨_, rfl, ?_⟩; have n0_ := Aside0.mk (Kd.S_elder' (pS HO_4) (Kd.R_base ho0) hb); have n1_ := Aside0.mk (Kd.R_elder' (pR HO_171000) (Kd.R_base ho0) hb); have n2_ := Aside0.mk (Kd.R_lower (Kd.R_new' ho0 (Kd.R_lt (pR HO_171000))) (below_size (bD HB GE165 GE170))); have n3_ := Aside0.mk (blk_below (g := gb165) (o := .cells #[.int .i64 0, .slice none 0 0] 39 (0, 0)) (pB BK165) hb); have n4_ := Aside0.mk (blk_below (g := gb170) (o := .cells #[u171000, .int .i64 1] 33 (0, 0)) (pB BK170) hb); have n5_ := Aside0.mk (below_step (bD HB GE165 GE170) hb); clear HO_4; clear HO_171000; clear BK165; clear BK170; clear HB; have HO_4 := n0_; have HO_171000 := n1_; have HO173 := n2_; have BK165 := n3_; have BK170 := n4_; have HB := n5_; clear n0_ n1_ n2_ n3_ n4_ n5_; (try clear hb); (try clear hb2); (try clear hk); (try clear hi); (try clear ho0); obtain ⟨Ao15, co15, eo15⟩ := Kd.R_slice HO173.out; subst eo15) | ((with_reducible refine gate_builtin (b := .append) (xs := #[.tmp 17, .tmp 23]) rfl ?_); at_builtin; refine Kd.S_append k33 (w0 := w) w.heap.size rfl (.tmp 17) (.tmp 23) 63 33 (.agg #[(.slice none 0 0), (.int .i64 0)]) 32 rfl Try.underlying63 info33 rfl (by decide) (by omega) u4 x4_1 (⟨t171, wrap64 (x14_1 + 1)⟩ : S33) [.slice Ao15 t171.length co15, .int .i64 (wrap64 (x14_1 + 1))] (fun k_ => some k_ ≠ (u171000 : Value).ownBlock ∧ k_ ≠ gb170) (fun k_ => some k_ = (.slice Ao15 t171.length co15 : Value).ownBlock) rfl rfl ?aP (fun k_ hk_ => ((Kd.R_mono (ok' := fun k_ => ((fun k_ => some k_ ≠ (u171000 : Value).ownBlock ∧ k_ ≠ gb170)) k_ ∧ some k_ ≠ (u4 : Value).ownBlock) (Kd.R_types (Kd.R_apart' (HO173.out) (Kd.S_typed HO_4.out) (by decide)) BK170.out (by decide)) (fun k_ hk => ⟨⟨hk.1.1.2, hk.2⟩, hk.1.2⟩))).1 k_ hk_.symm) ?aF ?aO ?aB ?aS ?aL ?_; (case aP => exact k33_mkM _ _ _ (⟨t171, wrap64 (x14_1 + 1)⟩ : S33) (Kd.R_mono (Kd.R_tight rfl (Kd.R_mono (ok' := fun k_ => ((fun k_ => some k_ ≠ (u171000 : Value).ownBlock ∧ k_ ≠ gb170)) k_ ∧ some k_ ≠ (u4 : Value).ownBlock) (Kd.R_types (Kd.R_apart' (HO173.out) (Kd.S_typed HO_4.out) (by decide)) BK170.out (by decide)) (fun k_ hk => ⟨⟨hk.1.1.2, hk.2⟩, hk.1.2⟩))) (fun _ h_ => h_))); (case aB => exact (bD HB GE165 GE170)); (case aF => exact (fun k_ hk => ⟨Kd.fresh' (Kd.R_lt (pR HO_171000)) k_ hk, Kd.freshB (g := gb170) (o := .cells #[u171000, .int .i64 1] 33 (0, 0)) (pB BK170) k_ hk⟩)); (case aO => exact (by (with_reducible repeat (first | apply Kd.S_alloc | apply Kd.S_drewN | apply Kd.S_drew)); exact Kd.S_mono HO_4.out (fun k_ hk => ⟨⟨hk.1.1, hk.1.2⟩, fun e_ => hk.2 e_⟩))); (case aS => exact (below_size (bD HB GE165 GE170))); (case aL => have := LMc12.out; omega); intro v175 w16 ho hb hg hat; rw [← Ny174.out] at ho; have n0_ := Aside0.mk (Kd.R_over' (pR HO_171000) (Kd.S_typed (pS HO_4)) (by decide) hg); have n1_ := Aside0.mk (blk_grown (g := gb165) (o := .cells #[.int .i64 0, .slice none 0 0] 39 (0, 0)) (pB BK165) hg (Kd.S_ne HO_4.out BK165.out (by decide))); have n2_ := Aside0.mk (blk_grown (g := gb170) (o := .cells #[u171000, .int .i64 1] 33 (0, 0)) (pB BK170) hg (Kd.S_away HO_4.out (fun _ hk => hk.1.2))); have n3_ := Aside0.mk (hb); have n4_ := Aside0.mk (ho); clear HO_171000; clear BK165; clear BK170; clear HB; clear HO_4; clear HO173; have HO_171000 := n0_; have BK165 := n1_; have BK170 := n2_; have HB := n3_; have HO176 := n4_; clear n0_ n1_ n2_ n3_ n4_; clear ho hb hg hat; have hnb17 := NB170_165.out; have hnc17 := NB165_170.out; have hcz18_0 : w16.cell? ⟨gb170, 0, none⟩ = some (u171000) := (blk_cell BK170.out 0).trans rfl; have hcz18_1 : w16.cell? ⟨gb170, 1, none⟩ = some (.int .i64 1) := (blk_cell BK170.out 1).trans rfl; have hfz18_0 := blk_frozen BK170.out 0; have hfz18_1 := blk_frozen BK170.out 1) | ((with_reducible refine gate_builtin (b := .append) (xs := #[.tmp 26, .tmp 31]) rfl ?_); at_builtin; refine Kd.R_append (Kd.int .i64) (w0 := w) w.heap.size rfl (.tmp 26) (.tmp 31) 22 3 (.int .i64 0) 8 rfl Try.underlying22 info3 rfl (by decide) (by omega) u171000 x171000_1 (wrap64 (1 - (wrap64 (2 * (Int.tmod x14_1 2))))) [.int .i64 (wrap64 (1 - (wrap64 (2 * (Int.tmod x14_1 2)))))] (fun _ => True) (fun _ => False) rfl rfl ?aP (fun _ hk => hk.elim) ?aF ?aO ?aB ?aS ?aL ?_; (case aP => exact rfl); (case aB => exact (bD HB GE165 GE170)); (case aF => exact (fun _ _ => trivial)); (case aO => exact (by (with_reducible repeat (first | apply Kd.R_alloc | apply Kd.R_drewN | apply Kd.R_drew)); exact Kd.R_mono HO_171000.out (fun _ hk => trivial))); (case aS => exact (below_size (bD HB GE165 GE170))); (case aL => have := LMc13.out; omega); intro v178 w19 ho hb hg hat; rw [← Ny177.out] at ho; have n0_ := Aside0.mk (blk_grown (g := gb165) (o := .cells #[.int .i64 0, .slice none 0 0] 39 (0, 0)) (pB BK165) hg (Kd.R_ne HO_171000.out BK165.out (by decide))); have n1_ := Aside0.mk (blk_grown (g := gb170) (o := .cells #[u171000, .int .i64 1] 33 (0, 0)) (pB BK170) hg (Kd.R_ne HO_171000.out BK170.out (by decide))); have n2_ := Aside0.mk (Kd.S_after (ok := (fun k_ => k_ ≠ gb170)) (by (with_reducible repeat (first | apply Kd.S_alloc | apply Kd.S_drewN | apply Kd.S_drew)); exact Kd.S_mono HO176.out (fun _ hk => ⟨hk.2, hk.1⟩)) hg hat); have n3_ := Aside0.mk (hb); have n4_ := Aside0.mk (ho); clear BK165; clear BK170; clear HO176; clear HB; clear HO_171000; have BK165 := n0_; have BK170 := n1_; have HO176 := n2_; have HB := n3_; have HO179 := n4_; clear n0_ n1_ n2_ n3_ n4_; clear ho hb hg hat; obtain ⟨Ao20, co20, eo20⟩ := Kd.R_slice HO179.out; subst eo20; have hcz21_0 : w19.cell? ⟨gb170, 0, none⟩ = some (u171000) := (blk_cell BK170.out 0).trans rfl; have hcz21_1 : w19.cell? ⟨gb170, 1, none⟩ = some (.int .i64 1) := (blk_cell BK170.out 1).trans rfl; have hfz21_0 := blk_frozen BK170.out 0; have hfz21_1 := blk_frozen BK170.out 1))
           go_roundg k1
           case measure => have := HK1.out; omega
           case rel => exact ⟨(y174), (wrap64 (x14_1 + 1)), (y177), (.slice Ao20 y177.length co20), rD, H', ⟨by have := HK1.out; omega⟩, ⟨by (with_reducible repeat (first | apply Kd.S_alloc | apply Kd.S_drewN | apply Kd.S_drew)); exact Kd.S_mono (Kd.S_far (p := ⟨gb170, 0, none⟩) (Kd.S_mono HO176.out (fun k_ hk => (⟨hk, hk.1⟩ : _ ∧ k_ ≠ gb170))) (fun _ hk => hk.2) (.slice Ao20 y177.length co20)) (fun _ hk => ⟨hk.1.2, hk.1.1⟩)⟩, ⟨by (with_reducible repeat (first | apply Kd.R_alloc | apply Kd.R_drewN | apply Kd.R_drew)); exact Kd.R_mono (Kd.R_far (p := ⟨gb170, 0, none⟩) (Kd.R_types HO179.out BK170.out (by decide)) (fun _ hk => hk.2) (.slice Ao20 y177.length co20)) (fun _ hk => trivial)⟩, ⟨by (with_reducible repeat (first | refine blk_drewN ?_ _ | refine blk_drew ?_ | refine blk_alloc ?_ _)); refine blk_far ?_ NB165_170.out _; (with_reducible repeat (first | refine blk_drewN ?_ _ | refine blk_drew ?_ | refine blk_alloc ?_ _)); exact BK165.out⟩, ⟨by (with_reducible repeat (first | refine blk_drewN ?_ _ | refine blk_drew ?_ | refine blk_alloc ?_ _)); refine blk_put (cs := #[u171000, .int .i64 1]) ?_ 0 _ rfl; (with_reducible repeat (first | refine blk_drewN ?_ _ | refine blk_drew ?_ | refine blk_alloc ?_ _)); exact BK170.out⟩, ⟨bD HB GE165 GE170⟩⟩
         · rw [if_neg c13] at H
           exact absurd H (by simp)
       · rw [if_neg c12] at H
         exact absurd H (by simp)
     · rw [if_neg c10] at H
       have c10b0 : decide (x14_1 < a0) = false := decide_eq_false c10
       clear c10
       obtain ⟨y180, hy180⟩ : ∃ y_ : List (S33), y_ = (([(⟨x171000_1, 1⟩ : S33)] : List (S33))) := ⟨_, rfl⟩
       replace H : (some (a0, (([x4_1, y180] : List (List (S33)))), true)) = some (r1, r2, r3) := by first | (rw [hy180]; with_reducible exact H) | (have H2_ := (Option.bind_some _ _).symm.trans H; rw [hy180]; with_reducible exact H2_) | (have H2_ := (Option.bind_some _ _).symm.trans H; with_reducible exact H2_) | with_reducible exact H | (rw [hy180]; exact H) | exact H
       have Ny180 := Aside0.mk hy180
       clear hy180
       obtain ⟨y183, hy183⟩ : ∃ y_ : List (List (S33)), y_ = (([x4_1, y180] : List (List (S33)))) := ⟨_, rfl⟩
       replace H : (some (a0, y183, true)) = some (r1, r2, r3) := by first | (rw [hy183]; with_reducible exact H) | (have H2_ := (Option.bind_some _ _).symm.trans H; rw [hy183]; with_reducible exact H2_) | (have H2_ := (Option.bind_some _ _).symm.trans H; with_reducible exact H2_) | with_reducible exact H | (rw [hy183]; exact H) | exact H
       have Ny183 := Aside0.mk hy183
       clear hy183
       simp only [Option.some.injEq, Prod.mk.injEq] at H
       obtain ⟨rfl, rfl, rfl⟩ := H
       have hnb22 := NB170_165.out
       have hnc22 := NB165_170.out
       have hcz23_0 : wr.cell? ⟨gb170, 0, none⟩ = some (u171000) := (blk_cell BK170.out 0).trans rfl
       have hcz23_1 : wr.cell? ⟨gb170, 1, none⟩ = some (.int .i64 1) := (blk_cell BK170.out 1).trans rfl
       have hfz23_0 := blk_frozen BK170.out 0
       have hfz23_1 := blk_frozen BK170.out 1
       obtain ⟨Ao24, co24, eo24⟩ := Kd.R_slice HO_171000.out
       subst eo24
       go_wp2_with (first | ((with_reducible refine gate_dst (N := 38) rfl ?_); refine lit1 k33 w.heap.size 33 ?hg (N := 38) ?hd (x := (⟨x171000_1, 1⟩ : S33)) (inner := [.slice Ao24 x171000_1.length co24, .int .i64 1]) (okx := fun k_ => some k_ = (.slice Ao24 x171000_1.length co24 : Value).ownBlock) (ok := fun k_ => some k_ = (.slice Ao24 x171000_1.length co24 : Value).ownBlock ∨ wr.heap.size ≤ k_) ?hr ?hp (fun _ hk => .inl hk) (.inr (Nat.le_refl _)) (below_size (bD HB GE165 GE170)) ?_; (case hd => rfl); (case hg => rfl); (case hr => first | (go_simp; done) | (go_simp; rfl)); (case hp => exact k33_mkM _ _ _ (⟨x171000_1, 1⟩ : S33) (Kd.R_tight rfl (pR HO_171000))); intro v181 w25 ho26 hb hbs_; (first | rw [← Ny180.out] at ho26 | (simp only [Int.reduceToNat] at ho26; rw [← Ny180.out] at ho26)); have n0_ := Aside0.mk (Kd.S_old (pS HO_4) hb); have n1_ := Aside0.mk (Kd.R_below (pR HO_171000) hb); have n2_ := Aside0.mk (ho26); have n3_ := Aside0.mk (blk_below (g := gb165) (o := .cells #[.int .i64 0, .slice none 0 0] 39 (0, 0)) (pB BK165) hb); have n4_ := Aside0.mk (blk_below (g := gb170) (o := .cells #[.slice Ao24 x171000_1.length co24, .int .i64 1] 33 (0, 0)) (pB BK170) hb); have n5_ := Aside0.mk (below_step (bD HB GE165 GE170) hb); clear HO_4; clear HO_171000; clear BK165; clear BK170; clear HB; have HO_4 := n0_; have HO_171000 := n1_; have HO182 := n2_; have BK165 := n3_; have BK170 := n4_; have HB := n5_; clear n0_ n1_ n2_ n3_ n4_ n5_; clear hb ho26; obtain ⟨Ao27, co27, eo27⟩ := Kd.S_slice HO_4.out; subst eo27; obtain ⟨Ao28, co28, eo28⟩ := Kd.S_slice HO182.out; subst eo28) | ((with_reducible refine gate_dst (N := 39) rfl ?_); refine lit2 (Kd.sliceS 33 k33) w.heap.size 63 ?hg (N := 39) ?hd (x := x4_1) (y := y180) (inner := [.slice Ao27 x4_1.length co27, .slice Ao28 y180.length co28]) (ix := [.slice Ao27 x4_1.length co27]) (iy := [.slice Ao28 y180.length co28]) (okx := fun k_ => (some k_ ≠ (.slice Ao24 x171000_1.length co24 : Value).ownBlock ∧ k_ ≠ gb170) ∧ k_ < wr.heap.size) (oky := fun k_ => some k_ = (.slice Ao24 x171000_1.length co24 : Value).ownBlock ∨ wr.heap.size ≤ k_) rfl ?hr ⟨_, rfl, pS HO_4⟩ ⟨_, rfl, pS HO182⟩ (fun k_ hk_ hq_ => hq_.elim (fun z_ => hk_.1.1 z_) (fun z_ => Nat.lt_irrefl _ (Nat.lt_of_lt_of_le hk_.2 z_))) (below_size (bD HB GE165 GE170)) ?_; (case hd => rfl); (case hg => rfl); (case hr => first | (go_simp; done) | (go_simp; rfl)); intro v184 w29 ho30 hb hbs_; (first | rw [← Ny183.out] at ho30 | (simp only [Int.reduceToNat] at ho30; rw [← Ny183.out] at ho30)); have n0_ := Aside0.mk (Kd.S_below (pS HO_4) hb); have n1_ := Aside0.mk (Kd.R_below (pR HO_171000) hb); have n2_ := Aside0.mk (Kd.S_below (pS HO182) hb); have n3_ := Aside0.mk (ho30); have n4_ := Aside0.mk (blk_below (g := gb165) (o := .cells #[.int .i64 0, .slice none 0 0] 39 (0, 0)) (pB BK165) hb); have n5_ := Aside0.mk (blk_below (g := gb170) (o := .cells #[.slice Ao24 x171000_1.length co24, .int .i64 1] 33 (0, 0)) (pB BK170) hb); have n6_ := Aside0.mk (below_step (bD HB GE165 GE170) hb); clear HO_4; clear HO_171000; clear HO182; clear BK165; clear BK170; clear HB; have HO_4 := n0_; have HO_171000 := n1_; have HO182 := n2_; have HO185 := n3_; have BK165 := n4_; have BK170 := n5_; have HB := n6_; clear n0_ n1_ n2_ n3_ n4_ n5_ n6_; clear hb ho30; obtain ⟨Ao31, co31, eo31⟩ := Kd.S_slice HO185.out; subst eo31; have hcz32_0 : w29.cell? ⟨gb165, 0, none⟩ = some (.int .i64 0) := (blk_cell BK165.out 0).trans rfl; have hcz32_1 : w29.cell? ⟨gb165, 1, none⟩ = some (.slice none 0 0) := (blk_cell BK165.out 1).trans rfl; have hfz32_0 := blk_frozen BK165.out 0; have hfz32_1 := blk_frozen BK165.out 1))
       refine bodyPost_ret (results_ct rfl _ _ gb165 39 #[.int .i64 a0, .slice Ao31 y183.length co31] (0, 0) _ rfl (by (with_reducible repeat (first | refine blk_drewN ?_ _ | refine blk_drew ?_ | refine blk_alloc ?_ _)); refine blk_put (cs := #[.int .i64 a0, .slice none 0 0]) ?_ 1 _ rfl; (with_reducible repeat (first | refine blk_drewN ?_ _ | refine blk_drew ?_ | refine blk_alloc ?_ _)); refine blk_put (cs := #[.int .i64 0, .slice none 0 0]) ?_ 0 _ rfl; (with_reducible repeat (first | refine blk_drewN ?_ _ | refine blk_drew ?_ | refine blk_alloc ?_ _)); exact BK165.out) Try.underlying39 rfl (by kernel_rfl)) rfl ?_
       exact ⟨_, eW, by (with_reducible repeat (first | apply Kd.S_alloc | apply Kd.S_drewN | apply Kd.S_drew)); exact Kd.S_mono (Kd.S_far (p := ⟨gb165, 1, none⟩) (Kd.S_far (p := ⟨gb165, 0, none⟩) (Kd.S_types HO185.out BK165.out (by decide)) (fun _ hk => hk.2) (.int .i64 a0)) (fun _ hk => hk.2) (.slice Ao31 y183.length co31)) (fun _ hk => trivial), bD HB GE165 GE170⟩
 · replace c3 := Bool.eq_false_iff.mpr c3
   subst c3
   have H1 : (some (0, ([] : List (List (S33))), false)) = some (r1, r2, r3) := by rw [if_neg (show ¬ (false = true) by decide)] at H; exact H
   clear H
   have H := H1
   clear H1
   simp only [Option.some.injEq, Prod.mk.injEq] at H
   obtain ⟨rfl, rfl, rfl⟩ := H
   go_enter Try.func46, Try.ntmps46
   go_wp2_with (first | ((with_reducible refine gate_dst (N := 2) rfl ?_); refine box_event ?hg (N := 2) ?hd (cs := #[.int .i64 0, .slice none 0 0]) (t := 39) ?hr ?_; (case hd => rfl); (case hg => rfl); (case hr => first | (go_simp; done) | (go_simp; rfl)); intro gb165 hg w33 hbox hb; have n0_ := Aside0.mk (below_step (bB HB) hb); have n1_ := Aside0.mk (hbox); have n2_ := Aside0.mk ((by rw [hg]; exact (below_size (bB HB)) : w.heap.size ≤ gb165)); have n3_ := Aside0.mk ((by rw [hg]; exact (below_size (bB HB)) : w.heap.size ≤ gb165)); clear HB; have HB := n0_; have BK165 := n1_; have GW165 := n2_; have GE165 := n3_; clear n0_ n1_ n2_ n3_; clear hb hbox hg) | ((with_reducible refine gate_callee (f := 65) rfl ?_); refine goesL_ (some 8) rfl rfl Try.func65 (by kernel_rfl) rfl #[.int .i64 a0, .int .i64 1, .int .i64 4] rfl aT ?_; (with_reducible refine (impl_within.calls a0 1 4 false _ A2.out).mono ?_); rintro e w' ⟨rfl, ⟨nd, rfl⟩⟩; refine ⟨_, rfl, ?_⟩; (try (rw [drewN_self w33]; generalize hq_ : World.drewN w33 _ = w33; have n0_ : Aside0 (w33.heap[gb165]? = some (.cells #[.int .i64 0, .slice none 0 0] 39 (0, 0))) := ⟨by rw [← hq_]; exact (pB BK165)⟩; have n1_ : Aside0 (Below w.heap.size w w33) := ⟨by rw [← hq_]; exact (bC HB GE165)⟩; clear BK165 HB hq_; have BK165 := n0_; have HB := n1_; clear n0_ n1_)); have hcz34_0 : w33.cell? ⟨gb165, 0, none⟩ = some (.int .i64 0) := (blk_cell BK165.out 0).trans rfl; have hcz34_1 : w33.cell? ⟨gb165, 1, none⟩ = some (.slice none 0 0) := (blk_cell BK165.out 1).trans rfl; have hfz34_0 := blk_frozen BK165.out 0; have hfz34_1 := blk_frozen BK165.out 1))
   refine bodyPost_ret (results_ct rfl _ _ gb165 39 #[.int .i64 0, .slice none 0 0] (0, 0) _ rfl (by (with_reducible repeat (first | refine blk_drewN ?_ _ | refine blk_drew ?_ | refine blk_alloc ?_ _)); refine blk_put (cs := #[.int .i64 0, .slice none 0 0]) ?_ 1 _ rfl; (with_reducible repeat (first | refine blk_drewN ?_ _ | refine blk_drew ?_ | refine blk_alloc ?_ _)); refine blk_put (cs := #[.int .i64 0, .slice none 0 0]) ?_ 0 _ rfl; (with_reducible repeat (first | refine blk_drewN ?_ _ | refine blk_drew ?_ | refine blk_alloc ?_ _)); exact BK165.out) Try.underlying39 rfl (by kernel_rfl)) rfl ?_
   exact ⟨_, eW, by first | exact Kd.S_nil _ _ _ _ _ | exact Kd.N_nil _ _ _ _ _ | exact Kd.V_nil _ _ _ _ _ | exact Kd.Q_nil _ _ _ _ _ | exact Kd.R_nil _ _ _ _ _, bC HB GE165⟩

end Go.Proofs.Ytihnijfgdffhjaa.KFnExactParityNet
