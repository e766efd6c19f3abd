/- The functions of the laws that mark rows of rows: what their calls do. -/
import Derived.Test.YtihnijfgdffhjaaPFnExactMajorityNetx
import Derived.Test.YtihnijfgdffhjaaMc
import Derived.Test.YtihnijfgdffhjaaSl
namespace Go.Proofs.Ytihnijfgdffhjaa.KFnExactMajorityNet
open Go.RowKit Go.Proofs.Ytihnijfgdffhjaa.Sl Go.Proofs.Ytihnijfgdffhjaa.Sh Go.Proofs.Ytihnijfgdffhjaa.Mc Go.Proofs.Ytihnijfgdffhjaa.PFnExactMajorityNet Go.Proofs.YtihnijfgdffhjaaW.PrintWords Go.Proofs.YtihnijfgdffhjaaW.PrintLast Go.Proofs.YtihnijfgdffhjaaW.PrintMore
set_option linter.unusedVariables false
set_option linter.unusedSimpArgs false
def rdR {α : Type} (xs : List (List α)) (i : Int) : List α := xs.getD i.toNat []
theorem rdR_nat {α : Type} (xs : List (List α)) (i : Nat) : rdR xs (i : Int) = xs.getD i [] := by simp [rdR]
/-! ### laws_markPlaneS: function 110 -/
def laws_markPlaneS.l0 : Nat → List S33 → Int → Int → Option (Int × List S33)
 | 0, _, _, _ => none
 | k + 1, x0, x1, x5 => if x5 < (x0.length : Int) then (if 0 ≤ x5 then ((laws_markIntS.f k (rd_T33 x0 x5).f0 x1).bind fun b => laws_markPlaneS.l0 k (x0.set (x5 : Int).toNat ⟨b.2, b.1⟩) (wrap64 (b.1 + 1)) (wrap64 (x5 + 1))) else none) else some (x1, x0)
def laws_markPlaneS.f (k : Nat) (l0 : List S33) (a1 : Int) : Option (Int × List S33) := laws_markPlaneS.l0 k l0 a1 0
set_option maxHeartbeats 8000000 in
set_option maxRecDepth 100000 in
theorem laws_markPlaneS.calls (k : Nat) (P0_ : Nat → Prop) (u9000_ : Value) (l0 : List S33) (a1 : Int) (r1 : Int) (r2 : List S33) (w0 w : World) (hB : Below w0.heap.size w0 w) (ho0 : Kd.S k33 33 w w0.heap.size P0_ u9000_ l0) (h : laws_markPlaneS.f k l0 a1 = some (r1, r2)) :
 Calls Try.prog 110 #[u9000_, .int .i64 a1] w fun e w' => e = .returned (.int .i64 r1) ∧ Kd.S k33 33 w' w0.heap.size (fun k_ => (P0_ k_ ∨ w.heap.size ≤ k_)) u9000_ r2 ∧ Below w0.heap.size w0 w' ∧ Kept w w' (fun k_ => P0_ k_) := by
 have HO0 := Aside0.mk (show Kd.S k33 33 w w0.heap.size (fun k_ => (P0_ k_ ∨ w.heap.size ≤ k_)) u9000_ l0 from Kd.S_mono ho0 (fun k_ hk => (.inl hk)))
 have HK := Aside0.mk (Kept.refl w (fun k_ => P0_ k_))
 have HB := Aside0.mk hB
 have HG0 := Aside0.mk (fun k_ (h_ : u9000_.ownBlock = some k_) => (Kd.S_R ho0).1 k_ h_)
 clear hB ho0
 have H' := Aside0.mk (show laws_markPlaneS.l0 k l0 a1 0 = some (r1, r2) from h)
 clear h
 go_enter Try.func110, Try.ntmps110
 go_wp2
 go_loopg [1, 5] k (fun kq v1 v5 w' => ∃ (x0_1 : List S33) (x1_1 : Int) (x5_1 : Int), v1 = .int .i64 x1_1 ∧ v5 = .int .i64 x5_1 ∧ Aside0 (laws_markPlaneS.l0 kq x0_1 x1_1 x5_1 = some (r1, r2)) ∧ Aside0 (kq ≤ k) ∧ Aside0 (Kd.S k33 33 w' w0.heap.size (fun k_ => (P0_ k_ ∨ w.heap.size ≤ k_)) u9000_ x0_1) ∧ Aside0 (Kept w w' (fun k_ => P0_ k_)) ∧ Aside0 (Below w0.heap.size w0 w'))
 case atStart => exact ⟨l0, a1, 0, rfl, rfl, H', ⟨Nat.le_refl _⟩, HO0, HK, HB⟩
 case round =>
  clear H' HO0 HK HB
  obtain ⟨x0_1, x1_1, x5_1, rfl, rfl, HA, HK1, HO, HK, HB⟩ := hrel
  cases gk with
  | zero => exact absurd HA.out (by simp [laws_markPlaneS.l0])
  | succ k1 =>
   have H := HA.out
   clear HA
   simp only [laws_markPlaneS.l0] at H
   obtain ⟨A6, c6, e6⟩ := Kd.S_slice HO.out
   subst e6
   by_cases c3 : x5_1 < (x0_1.length : Int)
   · rw [if_pos c3] at H
     by_cases c4 : 0 ≤ x5_1
     · rw [if_pos c4] at H
       obtain ⟨⟨t1, t2⟩, hf, H⟩ := Option.bind_eq_some_iff.mp H
       have HF := Aside0.mk hf
       have H' := Aside0.mk H
       clear hf H
       obtain ⟨g, cap, eg, gb, gl, cl, hcl⟩ := Kd.S_form HO.out (by omega)
       injection eg with ea _ ec
       subst ea ec
       have GG := Aside0.mk hcl
       have GE := Aside0.mk gb
       clear gb gl hcl
       obtain ⟨oki, c, hc1, hM, hcell, hoki, hH⟩ := Kd.S_lend HO.out z33 x5_1 c4 c3
       obtain ⟨v, rfl, hR⟩ := k33_openM hM
       have hx : wr.cell? ⟨g, x5_1.toNat * 2, none⟩ = some v := hcell 0 v rfl
       have HH := Aside0.mk hH
       have HR := Aside0.mk (show Kd.R (Kd.int .i64) 3 wr w0.heap.size oki v (rd_T33 x0_1 x5_1).f0 from hR)
       have HI := Aside0.mk hoki
       clear hH hR hM hoki hcell hc1
       have C3 := Aside0.mk c3
       have C4 := Aside0.mk c4
       have c3b : decide (x5_1 < (x0_1.length : Int)) = true := decide_eq_true c3
       have c4b : decide (0 ≤ x5_1) = true := decide_eq_true c4
       have p5 := eq_true c4
       have q5 := eq_true c3
       clear c3 c4
       go_wp2_with (fail)
       refine (laws_markIntS.calls k1 oki v (rd_T33 x0_1 x5_1).f0 x1_1 t1 t2 w0 wr HB.out HR.out HF.out).mono ?_
       rintro e w1 ⟨rfl, hR1, hB1, hK1⟩
       have HO1 := Aside0.mk (Kd.H_back (Kd.H_step (Kd.H_widen HH.out) (fun k_ _ hn_ hl_ => hK1.2 k_ hl_ (fun h_ => hn_ (.inl h_)))) (x' := (⟨t2, (rd_T33 x0_1 x5_1).f1⟩ : S33)) (okp := fun k_ => oki k_ ∨ wr.heap.size ≤ k_) (k33_mkM _ _ _ (⟨t2, (rd_T33 x0_1 x5_1).f1⟩ : S33) hR1) (fun k_ h_ => h_.elim .inl (fun h2_ => .inr ⟨.inr (Nat.le_trans HK.out.1 h2_), h2_⟩)))
       have HK2 := Aside0.mk (Kept.then_ HK.out hK1 (fun k_ h_ => (HI.out k_ h_).1))
       have HB2 := Aside0.mk hB1
       clear HO HK HB HH HR hR1 hB1 hK1 hx
       have c3' : x5_1 < ((x0_1.set x5_1.toNat (⟨t2, (rd_T33 x0_1 x5_1).f1⟩ : S33)).length : Int) := by rw [List.length_set]; exact C3.out
       obtain ⟨oki2, cc, hcl2, hM2, hcc2, hfr2, hoki2, hH2⟩ := Kd.S_elem HO1.out z33 x5_1 C4.out C3.out
       have hget : (x0_1.set x5_1.toNat (⟨t2, (rd_T33 x0_1 x5_1).f1⟩ : S33)).getD x5_1.toNat z33 = (⟨t2, (rd_T33 x0_1 x5_1).f1⟩ : S33) := by
        have := C3.out
        have := C4.out
        simp [List.getD_eq_getElem?_getD, show x5_1.toNat < x0_1.length by omega]
       rw [hget] at hM2
       obtain ⟨v2, rfl, hR2⟩ := k33_openM hM2
       have HP := Kd.S_seg0 hH2 C4.out C3.out (seg := [.int .i64 t1]) (j := 1) (show 1 + 1 ≤ 2 from by decide) (x' := (⟨t2, t1⟩ : S33)) (k33_mkM _ _ _ (⟨t2, t1⟩ : S33) hR2) (fun _ hk => hk)
       rw [List.set_set] at HP
       have hx1 : w1.cell? ⟨g, x5_1.toNat * 2 + 1, none⟩ = some (.int .i64 (rd_T33 x0_1 x5_1).f1) := hcc2 1 _ rfl
       have hf1 : w1.frozen? ⟨g, x5_1.toNat * 2 + 1, none⟩ = false := hfr2 1
       have HGB := Aside0.mk (show P0_ g from HG0.out g rfl)
       clear hcl2 hM2 hcc2 hfr2 hoki2 hH2 hget c3' hR2
       go_wp2_with (fail)
       have HS2 := Aside0.mk (show Kd.S k33 33 (w1.setCell ⟨g, x5_1.toNat * 2 + 1, none⟩ (.int .i64 t1)) w0.heap.size (fun k_ => (P0_ k_ ∨ w.heap.size ≤ k_)) (.slice (some ⟨g, 0, none⟩) x0_1.length c6) (x0_1.set x5_1.toNat (⟨t2, t1⟩ : S33)) from HP.1)
       have HK3 := Aside0.mk (Kept.of_grown (S := (fun k_ => P0_ k_)) (show w1.grownBy (w1.setCell ⟨g, x5_1.toNat * 2 + 1, none⟩ (.int .i64 t1)) (some g) from HP.2) HK2.out (fun k_ e_ => by have e2_ : g = k_ := (by injection e_); rw [← e2_]; exact .inl HGB.out))
       have HB3 := Aside0.mk (show Below w0.heap.size w0 (w1.setCell ⟨g, x5_1.toNat * 2 + 1, none⟩ (.int .i64 t1)) from below_set HB2.out GE.out)
       go_roundg k1
       case measure => have := HK1.out; omega
       case rel => exact ⟨_, wrap64 (t1 + 1), wrap64 (x5_1 + 1), rfl, rfl, H', ⟨by have := HK1.out; omega⟩, HS2, HK3, HB3⟩
     · rw [if_neg c4] at H
       exact absurd H (by simp)
   · rw [if_neg c3] at H
     simp only [Option.some.injEq, Prod.mk.injEq] at H
     obtain ⟨rfl, rfl⟩ := H
     have c3b : decide (x5_1 < (x0_1.length : Int)) = false := decide_eq_false c3
     clear c3
     go_wp2
     go_ret
     exact ⟨rfl, HO.out, HB.out, HK.out⟩
/-! ### laws_markPlaneSS: function 80 -/
def laws_markPlaneSS.l0 : Nat → List (List S33) → Int → Int → Option (Int × List (List S33))
 | 0, _, _, _ => none
 | k + 1, x0, x1, x5 => if x5 < (x0.length : Int) then (if 0 ≤ x5 then ((laws_markPlaneS.f k (rdR x0 x5) x1).bind fun b => laws_markPlaneSS.l0 k (x0.set (x5 : Int).toNat b.2) b.1 (wrap64 (x5 + 1))) else none) else some (x1, x0)
def laws_markPlaneSS.f (k : Nat) (l0 : List (List S33)) (a1 : Int) : Option (Int × List (List S33)) := laws_markPlaneSS.l0 k l0 a1 0
set_option maxHeartbeats 8000000 in
set_option maxRecDepth 100000 in
theorem laws_markPlaneSS.calls (k : Nat) (P0_ : Nat → Prop) (u9000_ : Value) (l0 : List (List S33)) (a1 : Int) (r1 : Int) (r2 : List (List S33)) (w0 w : World) (hB : Below w0.heap.size w0 w) (ho0 : Kd.S (Kd.sliceS 33 k33) 63 w w0.heap.size P0_ u9000_ l0) (h : laws_markPlaneSS.f k l0 a1 = some (r1, r2)) :
 Calls Try.prog 80 #[u9000_, .int .i64 a1] w fun e w' => e = .returned (.int .i64 r1) ∧ Kd.S (Kd.sliceS 33 k33) 63 w' w0.heap.size (fun k_ => (P0_ k_ ∨ w.heap.size ≤ k_)) u9000_ r2 ∧ Below w0.heap.size w0 w' ∧ Kept w w' (fun k_ => P0_ k_) := by
 have HO0 := Aside0.mk (show Kd.S (Kd.sliceS 33 k33) 63 w w0.heap.size (fun k_ => (P0_ k_ ∨ w.heap.size ≤ k_)) u9000_ l0 from Kd.S_mono ho0 (fun k_ hk => (.inl hk)))
 have HK := Aside0.mk (Kept.refl w (fun k_ => P0_ k_))
 have HB := Aside0.mk hB
 clear hB ho0
 have H' := Aside0.mk (show laws_markPlaneSS.l0 k l0 a1 0 = some (r1, r2) from h)
 clear h
 go_enter Try.func80, Try.ntmps80
 go_wp2
 go_loopg [1, 5] k (fun kq v1 v5 w' => ∃ (x0_1 : List (List S33)) (x1_1 : Int) (x5_1 : Int), v1 = .int .i64 x1_1 ∧ v5 = .int .i64 x5_1 ∧ Aside0 (laws_markPlaneSS.l0 kq x0_1 x1_1 x5_1 = some (r1, r2)) ∧ Aside0 (kq ≤ k) ∧ Aside0 (Kd.S (Kd.sliceS 33 k33) 63 w' w0.heap.size (fun k_ => (P0_ k_ ∨ w.heap.size ≤ k_)) u9000_ x0_1) ∧ Aside0 (Kept w w' (fun k_ => P0_ k_)) ∧ Aside0 (Below w0.heap.size w0 w'))
 case atStart => exact ⟨l0, a1, 0, rfl, rfl, H', ⟨Nat.le_refl _⟩, HO0, HK, HB⟩
 case round =>
  clear H' HO0 HK HB
  obtain ⟨x0_1, x1_1, x5_1, rfl, rfl, HA, HK1, HO, HK, HB⟩ := hrel
  cases gk with
  | zero => exact absurd HA.out (by simp [laws_markPlaneSS.l0])
  | succ k1 =>
   have H := HA.out
   clear HA
   simp only [laws_markPlaneSS.l0] at H
   obtain ⟨A6, c6, e6⟩ := Kd.S_slice HO.out
   subst e6
   by_cases c3 : x5_1 < (x0_1.length : Int)
   · rw [if_pos c3] at H
     by_cases c4 : 0 ≤ x5_1
     · rw [if_pos c4] at H
       obtain ⟨⟨t1, t2⟩, hf, H⟩ := Option.bind_eq_some_iff.mp H
       have HF := Aside0.mk hf
       have H' := Aside0.mk H
       clear hf H
       obtain ⟨g, cap, eg, gb, gl, cl, hcl⟩ := Kd.S_form HO.out (by omega)
       injection eg with ea _ ec
       subst ea ec
       have GG := Aside0.mk hcl
       clear gb gl hcl
       obtain ⟨oki, c, hc1, hM, hcell, hoki, hH⟩ := Kd.S_lend HO.out ([] : List S33) x5_1 c4 c3
       obtain ⟨v, rfl, hR⟩ := hM
       have hx : wr.cell? ⟨g, x5_1.toNat, none⟩ = some v := by have := hcell 0 v rfl; rwa [show x5_1.toNat * (Kd.sliceS 33 k33).sz + 0 = x5_1.toNat from by show x5_1.toNat * 1 + 0 = _; omega] at this
       have HH := Aside0.mk hH
       have HR := Aside0.mk hR
       have HI := Aside0.mk hoki
       clear hH hR hoki hcell hc1
       have c3b : decide (x5_1 < (x0_1.length : Int)) = true := decide_eq_true c3
       have c4b : decide (0 ≤ x5_1) = true := decide_eq_true c4
       have p5 := eq_true c4
       have q5 := eq_true c3
       clear c3 c4
       go_wp2_with (fail)
       refine (laws_markPlaneS.calls k1 oki v (rdR x0_1 x5_1) x1_1 t1 t2 w0 wr HB.out HR.out HF.out).mono ?_
       rintro e w1 ⟨rfl, hR1, hB1, hK1⟩
       have HO1 := Aside0.mk (Kd.H_back (Kd.H_step (Kd.H_widen HH.out) (fun k_ _ hn_ hl_ => hK1.2 k_ hl_ (fun h_ => hn_ (.inl h_)))) (x' := t2) (okp := fun k_ => oki k_ ∨ wr.heap.size ≤ k_) ⟨v, rfl, hR1⟩ (fun k_ h_ => h_.elim .inl (fun h2_ => .inr ⟨.inr (Nat.le_trans HK.out.1 h2_), h2_⟩)))
       have HK2 := Aside0.mk (Kept.then_ HK.out hK1 (fun k_ h_ => (HI.out k_ h_).1))
       have HB2 := Aside0.mk hB1
       clear HO HK HB HH HR hR1 hB1 hK1 hx
       go_wp2
       go_roundg k1
       case measure => have := HK1.out; omega
       case rel => exact ⟨_, t1, wrap64 (x5_1 + 1), rfl, rfl, H', ⟨by have := HK1.out; omega⟩, HO1, HK2, HB2⟩
     · rw [if_neg c4] at H
       exact absurd H (by simp)
   · rw [if_neg c3] at H
     simp only [Option.some.injEq, Prod.mk.injEq] at H
     obtain ⟨rfl, rfl⟩ := H
     have c3b : decide (x5_1 < (x0_1.length : Int)) = false := decide_eq_false c3
     clear c3
     go_wp2
     go_ret
     exact ⟨rfl, HO.out, HB.out, HK.out⟩
/-! ### laws_markNet: function 29 -/
def laws_markNet.f (k : Nat) (a0_0 : Int) (l0_1 : List (List S33)) (a1 : Int) : Option (Int × List (List S33)) := laws_markPlaneSS.f k l0_1 a1
set_option maxHeartbeats 8000000 in
set_option maxRecDepth 100000 in
theorem laws_markNet.calls (k : Nat) (a0_0 : Int) (P0_1_ : Nat → Prop) (u9001_ : Value) (l0_1 : List (List S33)) (a1 : Int) (r1 : Int) (r2 : List (List S33)) (w0 w : World) (hB : Below w0.heap.size w0 w) (ho0_1 : Kd.S (Kd.sliceS 33 k33) 63 w w0.heap.size P0_1_ u9001_ l0_1) (h : laws_markNet.f k a0_0 l0_1 a1 = some (r1, r2)) :
 Calls Try.prog 29 #[.agg #[.int .i64 a0_0, u9001_], .int .i64 a1] w fun e w' => e = .returned (.int .i64 r1) ∧ Kd.S (Kd.sliceS 33 k33) 63 w' w0.heap.size (fun k_ => (P0_1_ k_ ∨ w.heap.size ≤ k_)) u9001_ r2 ∧ Below w0.heap.size w0 w' ∧ Kept w w' (fun k_ => P0_1_ k_) := by
 have hu := Try.underlying39
 have HB := Aside0.mk hB
 have HO0 := Aside0.mk ho0_1
 have HF := Aside0.mk (show laws_markPlaneSS.f k l0_1 a1 = some (r1, r2) from h)
 clear h hB ho0_1
 obtain ⟨A0, c0, e0⟩ := Kd.S_slice HO0.out
 subst e0
 replace HO0 := Aside0.mk (Kd.S_mono (ok' := fun k_ => P0_1_ k_ ∧ k_ < w.heap.size) (Kd.S_bound HO0.out) (fun k_ h_ => ⟨h_.1, h_.2.2.1⟩))
 go_enter Try.func29, Try.ntmps29
 go_wp2_with (fail)
 refine (laws_markPlaneSS.calls k (fun k_ => P0_1_ k_ ∧ k_ < w.heap.size) _ l0_1 a1 r1 r2 w0 _ (bB HB) (pS HO0) HF.out).mono ?_
 rintro e w1 ⟨rfl, hs, hb, hk⟩
 have hw1 : w.heap.size + 1 ≤ w1.heap.size := by simpa using hk.1
 have HK1 := Aside0.mk (Kept.then_ (Kept.of_below (below_alloc (Below.refl _ _) (.cells #[.int .i64 a0_0, .slice A0 l0_1.length c0] 39 (0, 0))) (fun k_ => P0_1_ k_)) hk (fun k_ h_ => .inl h_.1))
 have HS := Aside0.mk (Kd.S_mono (ok' := fun k_ => P0_1_ k_ ∨ w.heap.size ≤ k_) hs (fun k_ h_ => h_.elim (fun a_ => .inl a_.1) (fun z_ => .inr (by have : w.heap.size + 1 ≤ k_ := (by simpa using z_); omega))))
 have HB1 := Aside0.mk hb
 clear hs hb hk hw1
 go_wp2_with (fail)
 go_ret
 exact ⟨rfl, HS.out, HB1.out, HK1.out⟩
set_option maxHeartbeats 8000000 in
set_option maxRecDepth 100000 in
theorem impl_MajorityNet.callsS (k : Nat) (a0 : Int) (r1 : Int) (r2 : List (List (S33))) (r3 : Bool) (w : World) (h : impl_MajorityNet.f k a0 = some (r1, r2, r3)) :
 Calls Try.prog 39 #[.int .i64 a0] w fun e w' => ∃ v1_ : Value, e = .returned (.tuple #[.agg #[.int .i64 r1, v1_], .bool r3]) ∧ Kd.S (Kd.sliceS 33 k33) 63 w' w.heap.size (fun _ => True) v1_ r2 ∧ Below w.heap.size w w' := by
 have hu39 := Try.underlying39
 have hu33 := Try.underlying33
 have HB := Aside0.mk (Below.refl w.heap.size w)
 have H : ((impl_within.f a0 1 4).bind fun t157 => (if t157 = true then ((impl_ones.f k a0).bind fun t158 => (some (a0, (([(([(⟨t158, wrap64 ((wrap64 (Int.tdiv a0 2)) + 1)⟩ : S33)] : List (S33)))] : List (List (S33)))), true))) else (some (0, ([] : List (List (S33))), false)))) = some (r1, r2, r3) := h
 clear h
 replace H := Option.bind_eq_some_iff.mp H
 obtain ⟨t157, A20, H⟩ := H
 replace H : (if t157 = true then ((impl_ones.f k a0).bind fun t158 => (some (a0, (([(([(⟨t158, wrap64 ((wrap64 (Int.tdiv a0 2)) + 1)⟩ : S33)] : List (S33)))] : List (List (S33)))), true))) else (some (0, ([] : List (List (S33))), false))) = some (r1, r2, r3) := H
 have A2 := Aside0.mk A20
 clear A20
 by_cases c3 : t157 = true
 · subst c3
   have H1 : ((impl_ones.f k a0).bind fun t158 => (some (a0, (([(([(⟨t158, wrap64 ((wrap64 (Int.tdiv a0 2)) + 1)⟩ : S33)] : List (S33)))] : List (List (S33)))), true))) = some (r1, r2, r3) := by rw [if_pos rfl] at H; exact H
   clear H
   have H := H1
   clear H1
   replace H := Option.bind_eq_some_iff.mp H
   obtain ⟨t158, A40, H⟩ := H
   replace H : (some (a0, (([(([(⟨t158, wrap64 ((wrap64 (Int.tdiv a0 2)) + 1)⟩ : S33)] : List (S33)))] : List (List (S33)))), true)) = some (r1, r2, r3) := H
   have A4 := Aside0.mk A40
   clear A40
   obtain ⟨y161, hy161⟩ : ∃ y_ : List (S33), y_ = (([(⟨t158, wrap64 ((wrap64 (Int.tdiv a0 2)) + 1)⟩ : S33)] : List (S33))) := ⟨_, rfl⟩
   replace H : (some (a0, (([y161] : List (List (S33)))), true)) = some (r1, r2, r3) := by first | (rw [hy161]; with_reducible exact H) | (have H2_ := (Option.bind_some _ _).symm.trans H; rw [hy161]; with_reducible exact H2_) | (have H2_ := (Option.bind_some _ _).symm.trans H; with_reducible exact H2_) | with_reducible exact H | (rw [hy161]; exact H) | exact H
   have Ny161 := Aside0.mk hy161
   clear hy161
   obtain ⟨y164, hy164⟩ : ∃ y_ : List (List (S33)), y_ = (([y161] : List (List (S33)))) := ⟨_, rfl⟩
   replace H : (some (a0, y164, true)) = some (r1, r2, r3) := by first | (rw [hy164]; with_reducible exact H) | (have H2_ := (Option.bind_some _ _).symm.trans H; rw [hy164]; with_reducible exact H2_) | (have H2_ := (Option.bind_some _ _).symm.trans H; with_reducible exact H2_) | with_reducible exact H | (rw [hy164]; exact H) | exact H
   have Ny164 := Aside0.mk hy164
   clear hy164
   simp only [Option.some.injEq, Prod.mk.injEq] at H
   obtain ⟨rfl, rfl, rfl⟩ := H
   go_enter Try.func39, Try.ntmps39
   go_wp2_with (first | ((with_reducible refine gate_dst (N := 2) rfl ?_); refine box_event ?hg (N := 2) ?hd (cs := #[.int .i64 0, .slice none 0 0]) (t := 39) ?hr ?_; (case hd => rfl); (case hg => rfl); (case hr => first | (go_simp; done) | (go_simp; rfl)); intro gb156 hg w5 hbox hb; have n0_ := Aside0.mk (below_step (bB HB) hb); have n1_ := Aside0.mk (hbox); have n2_ := Aside0.mk ((by rw [hg]; exact (below_size (bB HB)) : w.heap.size ≤ gb156)); have n3_ := Aside0.mk ((by rw [hg]; exact (below_size (bB HB)) : w.heap.size ≤ gb156)); clear HB; have HB := n0_; have BK156 := n1_; have GW156 := n2_; have GE156 := n3_; clear n0_ n1_ n2_ n3_; clear hb hbox hg) | ((with_reducible refine gate_callee (f := 65) rfl ?_); refine goesL_ (some 5) rfl rfl Try.func65 (by kernel_rfl) rfl #[.int .i64 a0, .int .i64 1, .int .i64 4] rfl aT ?_; (with_reducible refine (impl_within.calls a0 1 4 true _ A2.out).mono ?_); rintro e w' ⟨rfl, ⟨nd, rfl⟩⟩; refine ⟨_, rfl, ?_⟩; (try (rw [drewN_self w5]; generalize hq_ : World.drewN w5 _ = w5; have n0_ : Aside0 (w5.heap[gb156]? = some (.cells #[.int .i64 0, .slice none 0 0] 39 (0, 0))) := ⟨by rw [← hq_]; exact (pB BK156)⟩; have n1_ : Aside0 (Below w.heap.size w w5) := ⟨by rw [← hq_]; exact (bC HB GE156)⟩; clear BK156 HB hq_; have BK156 := n0_; have HB := n1_; clear n0_ n1_))) | ((with_reducible refine gate_callee (f := 92) rfl ?_); refine goesL_ (some 10) rfl rfl Try.func92 (by kernel_rfl) rfl #[.int .i64 a0] rfl aT ?_; (with_reducible refine (impl_ones.calls k a0 t158 _ A4.out).mono ?_); rintro e w6 ⟨v159, rfl, ho0, hb⟩; refine ⟨_, rfl, ?_⟩; have n0_ := Aside0.mk (Kd.R_lower (Kd.R_newM (M := fun k_ => (w.heap.size ≤ k_)) ho0 (below_size (bC HB GE156)) (fun k_ h_ => h_)) (below_size (bC HB GE156))); have n1_ := Aside0.mk (blk_below (g := gb156) (o := .cells #[.int .i64 0, .slice none 0 0] 39 (0, 0)) (pB BK156) hb); have n2_ := Aside0.mk (below_step (bC HB GE156) hb); clear BK156; clear HB; have HO160 := n0_; have BK156 := n1_; have HB := n2_; clear n0_ n1_ n2_; (try clear hb); (try clear hb2); (try clear hk); (try clear hi); (try clear ho0); obtain ⟨Ao7, co7, eo7⟩ := Kd.R_slice HO160.out; subst eo7) | ((with_reducible refine gate_dst (N := 15) rfl ?_); refine lit1 k33 w.heap.size 33 ?hg (N := 15) ?hd (x := (⟨t158, wrap64 ((wrap64 (Int.tdiv a0 2)) + 1)⟩ : S33)) (inner := [.slice Ao7 t158.length co7, .int .i64 (wrap64 ((wrap64 (Int.tdiv a0 2)) + 1))]) (okx := (fun k_ => (w.heap.size ≤ k_) ∧ k_ ≠ gb156)) (ok := (fun k_ => (w.heap.size ≤ k_) ∧ k_ ≠ gb156)) ?hr ?hp (fun _ hk => hk) ((show ∀ k_, w6.heap.size ≤ k_ → (fun k_ => (w.heap.size ≤ k_) ∧ k_ ≠ gb156) k_ from fun k_ hk => ⟨(Nat.le_trans (below_size (bC HB GE156)) hk), Kd.freshB (g := gb156) (o := .cells #[.int .i64 0, .slice none 0 0] 39 (0, 0)) (pB BK156) k_ hk⟩) _ (Nat.le_refl _)) (below_size (bC HB GE156)) ?_; (case hd => rfl); (case hg => rfl); (case hr => first | (go_simp; done) | (go_simp; rfl)); (case hp => exact k33_mkM _ _ _ (⟨t158, wrap64 ((wrap64 (Int.tdiv a0 2)) + 1)⟩ : S33) (Kd.R_mono (ok' := (fun k_ => (w.heap.size ≤ k_) ∧ k_ ≠ gb156)) (Kd.R_types (HO160.out) BK156.out (by decide)) (fun k_ hk => ⟨hk.1.1, hk.2⟩))); intro v162 w8 ho9 hb hbs_; (first | rw [← Ny161.out] at ho9 | (simp only [Int.reduceToNat] at ho9; rw [← Ny161.out] at ho9)); have n0_ := Aside0.mk (ho9); have n1_ := Aside0.mk (blk_below (g := gb156) (o := .cells #[.int .i64 0, .slice none 0 0] 39 (0, 0)) (pB BK156) hb); have n2_ := Aside0.mk (below_step (bC HB GE156) hb); clear BK156; clear HB; clear HO160; have HO163 := n0_; have BK156 := n1_; have HB := n2_; clear n0_ n1_ n2_; clear hb ho9; obtain ⟨Ao10, co10, eo10⟩ := Kd.S_slice HO163.out; subst eo10) | ((with_reducible refine gate_dst (N := 16) rfl ?_); refine lit1 (Kd.sliceS 33 k33) w.heap.size 63 ?hg (N := 16) ?hd (x := y161) (inner := [.slice Ao10 y161.length co10]) (okx := (fun k_ => (w.heap.size ≤ k_) ∧ k_ ≠ gb156)) (ok := (fun k_ => (w.heap.size ≤ k_) ∧ k_ ≠ gb156)) ?hr ?hp (fun _ hk => hk) ((show ∀ k_, w8.heap.size ≤ k_ → (fun k_ => (w.heap.size ≤ k_) ∧ k_ ≠ gb156) k_ from fun k_ hk => ⟨(Nat.le_trans (below_size (bC HB GE156)) hk), Kd.freshB (g := gb156) (o := .cells #[.int .i64 0, .slice none 0 0] 39 (0, 0)) (pB BK156) k_ hk⟩) _ (Nat.le_refl _)) (below_size (bC HB GE156)) ?_; (case hd => rfl); (case hg => rfl); (case hr => first | (go_simp; done) | (go_simp; rfl)); (case hp => exact ⟨_, rfl, (Kd.S_mono (ok' := (fun k_ => (w.heap.size ≤ k_) ∧ k_ ≠ gb156)) (HO163.out) (fun k_ hk => ⟨hk.1, hk.2⟩))⟩); intro v165 w11 ho12 hb hbs_; (first | rw [← Ny164.out] at ho12 | (simp only [Int.reduceToNat] at ho12; rw [← Ny164.out] at ho12)); have n0_ := Aside0.mk (ho12); have n1_ := Aside0.mk (blk_below (g := gb156) (o := .cells #[.int .i64 0, .slice none 0 0] 39 (0, 0)) (pB BK156) hb); have n2_ := Aside0.mk (below_step (bC HB GE156) hb); clear BK156; clear HB; clear HO163; have HO166 := n0_; have BK156 := n1_; have HB := n2_; clear n0_ n1_ n2_; clear hb ho12; obtain ⟨Ao13, co13, eo13⟩ := Kd.S_slice HO166.out; subst eo13; have hcz14_0 : w11.cell? ⟨gb156, 0, none⟩ = some (.int .i64 0) := (blk_cell BK156.out 0).trans rfl; have hcz14_1 : w11.cell? ⟨gb156, 1, none⟩ = some (.slice none 0 0) := (blk_cell BK156.out 1).trans rfl; have hfz14_0 := blk_frozen BK156.out 0; have hfz14_1 := blk_frozen BK156.out 1))
   refine bodyPost_ret (results_ct rfl _ _ gb156 39 #[.int .i64 a0, .slice Ao13 y164.length co13] (0, 0) _ rfl (by (with_reducible repeat (first | refine blk_drewN ?_ _ | refine blk_drew ?_ | refine blk_alloc ?_ _)); refine blk_put (cs := #[.int .i64 a0, .slice none 0 0]) ?_ 1 _ rfl; (with_reducible repeat (first | refine blk_drewN ?_ _ | refine blk_drew ?_ | refine blk_alloc ?_ _)); refine blk_put (cs := #[.int .i64 0, .slice none 0 0]) ?_ 0 _ rfl; (with_reducible repeat (first | refine blk_drewN ?_ _ | refine blk_drew ?_ | refine blk_alloc ?_ _)); exact BK156.out) Try.underlying39 rfl (by kernel_rfl)) rfl ?_
   exact ⟨_, eW, by (with_reducible repeat (first | apply Kd.S_alloc | apply Kd.S_drewN | apply Kd.S_drew)); exact Kd.S_mono (Kd.S_far (p := ⟨gb156, 1, none⟩) (Kd.S_far (p := ⟨gb156, 0, none⟩) (Kd.S_mono HO166.out (fun k_ hk => (⟨hk, hk.2⟩ : _ ∧ k_ ≠ gb156))) (fun _ hk => hk.2) (.int .i64 a0)) (fun _ hk => hk.2) (.slice Ao13 y164.length co13)) (fun _ _ => trivial), bC HB GE156⟩
 · replace c3 := Bool.eq_false_iff.mpr c3
   subst c3
   have H1 : (some (0, ([] : List (List (S33))), false)) = some (r1, r2, r3) := by rw [if_neg (show ¬ (false = true) by decide)] at H; exact H
   clear H
   have H := H1
   clear H1
   simp only [Option.some.injEq, Prod.mk.injEq] at H
   obtain ⟨rfl, rfl, rfl⟩ := H
   go_enter Try.func39, Try.ntmps39
   go_wp2_with (first | ((with_reducible refine gate_dst (N := 2) rfl ?_); refine box_event ?hg (N := 2) ?hd (cs := #[.int .i64 0, .slice none 0 0]) (t := 39) ?hr ?_; (case hd => rfl); (case hg => rfl); (case hr => first | (go_simp; done) | (go_simp; rfl)); intro gb156 hg w15 hbox hb; have n0_ := Aside0.mk (below_step (bB HB) hb); have n1_ := Aside0.mk (hbox); have n2_ := Aside0.mk ((by rw [hg]; exact (below_size (bB HB)) : w.heap.size ≤ gb156)); have n3_ := Aside0.mk ((by rw [hg]; exact (below_size (bB HB)) : w.heap.size ≤ gb156)); clear HB; have HB := n0_; have BK156 := n1_; have GW156 := n2_; have GE156 := n3_; clear n0_ n1_ n2_ n3_; clear hb hbox hg) | ((with_reducible refine gate_callee (f := 65) rfl ?_); refine goesL_ (some 5) rfl rfl Try.func65 (by kernel_rfl) rfl #[.int .i64 a0, .int .i64 1, .int .i64 4] rfl aT ?_; (with_reducible refine (impl_within.calls a0 1 4 false _ A2.out).mono ?_); rintro e w' ⟨rfl, ⟨nd, rfl⟩⟩; refine ⟨_, rfl, ?_⟩; (try (rw [drewN_self w15]; generalize hq_ : World.drewN w15 _ = w15; have n0_ : Aside0 (w15.heap[gb156]? = some (.cells #[.int .i64 0, .slice none 0 0] 39 (0, 0))) := ⟨by rw [← hq_]; exact (pB BK156)⟩; have n1_ : Aside0 (Below w.heap.size w w15) := ⟨by rw [← hq_]; exact (bC HB GE156)⟩; clear BK156 HB hq_; have BK156 := n0_; have HB := n1_; clear n0_ n1_)); have hcz16_0 : w15.cell? ⟨gb156, 0, none⟩ = some (.int .i64 0) := (blk_cell BK156.out 0).trans rfl; have hcz16_1 : w15.cell? ⟨gb156, 1, none⟩ = some (.slice none 0 0) := (blk_cell BK156.out 1).trans rfl; have hfz16_0 := blk_frozen BK156.out 0; have hfz16_1 := blk_frozen BK156.out 1))
   refine bodyPost_ret (results_ct rfl _ _ gb156 39 #[.int .i64 0, .slice none 0 0] (0, 0) _ rfl (by (with_reducible repeat (first | refine blk_drewN ?_ _ | refine blk_drew ?_ | refine blk_alloc ?_ _)); refine blk_put (cs := #[.int .i64 0, .slice none 0 0]) ?_ 1 _ rfl; (with_reducible repeat (first | refine blk_drewN ?_ _ | refine blk_drew ?_ | refine blk_alloc ?_ _)); refine blk_put (cs := #[.int .i64 0, .slice none 0 0]) ?_ 0 _ rfl; (with_reducible repeat (first | refine blk_drewN ?_ _ | refine blk_drew ?_ | refine blk_alloc ?_ _)); exact BK156.out) Try.underlying39 rfl (by kernel_rfl)) rfl ?_
   exact ⟨_, eW, by first | exact Kd.R_nil _ _ _ _ _ | exact Kd.S_nil _ _ _ _ _ | exact Kd.V_nil _ _ _ _ _ | exact Kd.Q_nil _ _ _ _ _ | exact Kd.S_nil _ _ _ _ _, bC HB GE156⟩

-- NOT PRINTED: function 9 (laws_FnExactMajorityNet)

end Go.Proofs.Ytihnijfgdffhjaa.KFnExactMajorityNet
