/- The functions of the laws that mark rows of rows: what their calls do. -/
import Derived.Test.YtihnijfgdffhjaaPFnExactCompareNetx
import Derived.Test.YtihnijfgdffhjaaMc
import Derived.Test.YtihnijfgdffhjaaSl
namespace Go.Proofs.Ytihnijfgdffhjaa.KFnExactCompareNet
open Go.RowKit Go.Proofs.Ytihnijfgdffhjaa.Sl Go.Proofs.Ytihnijfgdffhjaa.Sh Go.Proofs.Ytihnijfgdffhjaa.Mc Go.Proofs.Ytihnijfgdffhjaa.PFnExactCompareNet Go.Proofs.YtihnijfgdffhjaaW.PrintWords Go.Proofs.YtihnijfgdffhjaaW.PrintLast Go.Proofs.YtihnijfgdffhjaaW.PrintMore
set_option linter.unusedVariables false
set_option linter.unusedSimpArgs false
def rdR {α : Type} (xs : List (List α)) (i : Int) : List α := xs.getD i.toNat []
theorem rdR_nat {α : Type} (xs : List (List α)) (i : Nat) : rdR xs (i : Int) = xs.getD i [] := by simp [rdR]
/-! ### laws_markPlaneS: function 110 -/
def laws_markPlaneS.l0 : Nat → List S33 → Int → Int → Option (Int × List S33)
 | 0, _, _, _ => none
 | k + 1, x0, x1, x5 => if x5 < (x0.length : Int) then (if 0 ≤ x5 then ((laws_markIntS.f k (rd_T33 x0 x5).f0 x1).bind fun b => laws_markPlaneS.l0 k (x0.set (x5 : Int).toNat ⟨b.2, b.1⟩) (wrap64 (b.1 + 1)) (wrap64 (x5 + 1))) else none) else some (x1, x0)
def laws_markPlaneS.f (k : Nat) (l0 : List S33) (a1 : Int) : Option (Int × List S33) := laws_markPlaneS.l0 k l0 a1 0
set_option maxHeartbeats 8000000 in
set_option maxRecDepth 100000 in
theorem laws_markPlaneS.calls (k : Nat) (P0_ : Nat → Prop) (u9000_ : Value) (l0 : List S33) (a1 : Int) (r1 : Int) (r2 : List S33) (w0 w : World) (hB : Below w0.heap.size w0 w) (ho0 : Kd.S k33 33 w w0.heap.size P0_ u9000_ l0) (h : laws_markPlaneS.f k l0 a1 = some (r1, r2)) :
 Calls Try.prog 110 #[u9000_, .int .i64 a1] w fun e w' => e = .returned (.int .i64 r1) ∧ Kd.S k33 33 w' w0.heap.size (fun k_ => (P0_ k_ ∨ w.heap.size ≤ k_)) u9000_ r2 ∧ Below w0.heap.size w0 w' ∧ Kept w w' (fun k_ => P0_ k_) := by
 have HO0 := Aside0.mk (show Kd.S k33 33 w w0.heap.size (fun k_ => (P0_ k_ ∨ w.heap.size ≤ k_)) u9000_ l0 from Kd.S_mono ho0 (fun k_ hk => (.inl hk)))
 have HK := Aside0.mk (Kept.refl w (fun k_ => P0_ k_))
 have HB := Aside0.mk hB
 have HG0 := Aside0.mk (fun k_ (h_ : u9000_.ownBlock = some k_) => (Kd.S_R ho0).1 k_ h_)
 clear hB ho0
 have H' := Aside0.mk (show laws_markPlaneS.l0 k l0 a1 0 = some (r1, r2) from h)
 clear h
 go_enter Try.func110, Try.ntmps110
 go_wp2
 go_loopg [1, 5] k (fun kq v1 v5 w' => ∃ (x0_1 : List S33) (x1_1 : Int) (x5_1 : Int), v1 = .int .i64 x1_1 ∧ v5 = .int .i64 x5_1 ∧ Aside0 (laws_markPlaneS.l0 kq x0_1 x1_1 x5_1 = some (r1, r2)) ∧ Aside0 (kq ≤ k) ∧ Aside0 (Kd.S k33 33 w' w0.heap.size (fun k_ => (P0_ k_ ∨ w.heap.size ≤ k_)) u9000_ x0_1) ∧ Aside0 (Kept w w' (fun k_ => P0_ k_)) ∧ Aside0 (Below w0.heap.size w0 w'))
 case atStart => exact ⟨l0, a1, 0, rfl, rfl, H', ⟨Nat.le_refl _⟩, HO0, HK, HB⟩
 case round =>
  clear H' HO0 HK HB
  obtain ⟨x0_1, x1_1, x5_1, rfl, rfl, HA, HK1, HO, HK, HB⟩ := hrel
  cases gk with
  | zero => exact absurd HA.out (by simp [laws_markPlaneS.l0])
  | succ k1 =>
   have H := HA.out
   clear HA
   simp only [laws_markPlaneS.l0] at H
   obtain ⟨A6, c6, e6⟩ := Kd.S_slice HO.out
   subst e6
   by_cases c3 : x5_1 < (x0_1.length : Int)
   · rw [if_pos c3] at H
     by_cases c4 : 0 ≤ x5_1
     · rw [if_pos c4] at H
       obtain ⟨⟨t1, t2⟩, hf, H⟩ := Option.bind_eq_some_iff.mp H
       have HF := Aside0.mk hf
       have H' := Aside0.mk H
       clear hf H
       obtain ⟨g, cap, eg, gb, gl, cl, hcl⟩ := Kd.S_form HO.out (by omega)
       injection eg with ea _ ec
       subst ea ec
       have GG := Aside0.mk hcl
       have GE := Aside0.mk gb
       clear gb gl hcl
       obtain ⟨oki, c, hc1, hM, hcell, hoki, hH⟩ := Kd.S_lend HO.out z33 x5_1 c4 c3
       obtain ⟨v, rfl, hR⟩ := k33_openM hM
       have hx : wr.cell? ⟨g, x5_1.toNat * 2, none⟩ = some v := hcell 0 v rfl
       have HH := Aside0.mk hH
       have HR := Aside0.mk (show Kd.R (Kd.int .i64) 3 wr w0.heap.size oki v (rd_T33 x0_1 x5_1).f0 from hR)
       have HI := Aside0.mk hoki
       clear hH hR hM hoki hcell hc1
       have C3 := Aside0.mk c3
       have C4 := Aside0.mk c4
       have c3b : decide (x5_1 < (x0_1.length : Int)) = true := decide_eq_true c3
       have c4b : decide (0 ≤ x5_1) = true := decide_eq_true c4
       have p5 := eq_true c4
       have q5 := eq_true c3
       clear c3 c4
       go_wp2_with (fail)
       refine (laws_markIntS.calls k1 oki v (rd_T33 x0_1 x5_1).f0 x1_1 t1 t2 w0 wr HB.out HR.out HF.out).mono ?_
       rintro e w1 ⟨rfl, hR1, hB1, hK1⟩
       have HO1 := Aside0.mk (Kd.H_back (Kd.H_step (Kd.H_widen HH.out) (fun k_ _ hn_ hl_ => hK1.2 k_ hl_ (fun h_ => hn_ (.inl h_)))) (x' := (⟨t2, (rd_T33 x0_1 x5_1).f1⟩ : S33)) (okp := fun k_ => oki k_ ∨ wr.heap.size ≤ k_) (k33_mkM _ _ _ (⟨t2, (rd_T33 x0_1 x5_1).f1⟩ : S33) hR1) (fun k_ h_ => h_.elim .inl (fun h2_ => .inr ⟨.inr (Nat.le_trans HK.out.1 h2_), h2_⟩)))
       have HK2 := Aside0.mk (Kept.then_ HK.out hK1 (fun k_ h_ => (HI.out k_ h_).1))
       have HB2 := Aside0.mk hB1
       clear HO HK HB HH HR hR1 hB1 hK1 hx
       have c3' : x5_1 < ((x0_1.set x5_1.toNat (⟨t2, (rd_T33 x0_1 x5_1).f1⟩ : S33)).length : Int) := by rw [List.length_set]; exact C3.out
       obtain ⟨oki2, cc, hcl2, hM2, hcc2, hfr2, hoki2, hH2⟩ := Kd.S_elem HO1.out z33 x5_1 C4.out C3.out
       have hget : (x0_1.set x5_1.toNat (⟨t2, (rd_T33 x0_1 x5_1).f1⟩ : S33)).getD x5_1.toNat z33 = (⟨t2, (rd_T33 x0_1 x5_1).f1⟩ : S33) := by
        have := C3.out
        have := C4.out
        simp [List.getD_eq_getElem?_getD, show x5_1.toNat < x0_1.length by omega]
       rw [hget] at hM2
       obtain ⟨v2, rfl, hR2⟩ := k33_openM hM2
       have HP := Kd.S_seg0 hH2 C4.out C3.out (seg := [.int .i64 t1]) (j := 1) (show 1 + 1 ≤ 2 from by decide) (x' := (⟨t2, t1⟩ : S33)) (k33_mkM _ _ _ (⟨t2, t1⟩ : S33) hR2) (fun _ hk => hk)
       rw [List.set_set] at HP
       have hx1 : w1.cell? ⟨g, x5_1.toNat * 2 + 1, none⟩ = some (.int .i64 (rd_T33 x0_1 x5_1).f1) := hcc2 1 _ rfl
       have hf1 : w1.frozen? ⟨g, x5_1.toNat * 2 + 1, none⟩ = false := hfr2 1
       have HGB := Aside0.mk (show P0_ g from HG0.out g rfl)
       clear hcl2 hM2 hcc2 hfr2 hoki2 hH2 hget c3' hR2
       go_wp2_with (fail)
       have HS2 := Aside0.mk (show Kd.S k33 33 (w1.setCell ⟨g, x5_1.toNat * 2 + 1, none⟩ (.int .i64 t1)) w0.heap.size (fun k_ => (P0_ k_ ∨ w.heap.size ≤ k_)) (.slice (some ⟨g, 0, none⟩) x0_1.length c6) (x0_1.set x5_1.toNat (⟨t2, t1⟩ : S33)) from HP.1)
       have HK3 := Aside0.mk (Kept.of_grown (S := (fun k_ => P0_ k_)) (show w1.grownBy (w1.setCell ⟨g, x5_1.toNat * 2 + 1, none⟩ (.int .i64 t1)) (some g) from HP.2) HK2.out (fun k_ e_ => by have e2_ : g = k_ := (by injection e_); rw [← e2_]; exact .inl HGB.out))
       have HB3 := Aside0.mk (show Below w0.heap.size w0 (w1.setCell ⟨g, x5_1.toNat * 2 + 1, none⟩ (.int .i64 t1)) from below_set HB2.out GE.out)
       go_roundg k1
       case measure => have := HK1.out; omega
       case rel => exact ⟨_, wrap64 (t1 + 1), wrap64 (x5_1 + 1), rfl, rfl, H', ⟨by have := HK1.out; omega⟩, HS2, HK3, HB3⟩
     · rw [if_neg c4] at H
       exact absurd H (by simp)
   · rw [if_neg c3] at H
     simp only [Option.some.injEq, Prod.mk.injEq] at H
     obtain ⟨rfl, rfl⟩ := H
     have c3b : decide (x5_1 < (x0_1.length : Int)) = false := decide_eq_false c3
     clear c3
     go_wp2
     go_ret
     exact ⟨rfl, HO.out, HB.out, HK.out⟩
/-! ### laws_markPlaneSS: function 80 -/
def laws_markPlaneSS.l0 : Nat → List (List S33) → Int → Int → Option (Int × List (List S33))
 | 0, _, _, _ => none
 | k + 1, x0, x1, x5 => if x5 < (x0.length : Int) then (if 0 ≤ x5 then ((laws_markPlaneS.f k (rdR x0 x5) x1).bind fun b => laws_markPlaneSS.l0 k (x0.set (x5 : Int).toNat b.2) b.1 (wrap64 (x5 + 1))) else none) else some (x1, x0)
def laws_markPlaneSS.f (k : Nat) (l0 : List (List S33)) (a1 : Int) : Option (Int × List (List S33)) := laws_markPlaneSS.l0 k l0 a1 0
set_option maxHeartbeats 8000000 in
set_option maxRecDepth 100000 in
theorem laws_markPlaneSS.calls (k : Nat) (P0_ : Nat → Prop) (u9000_ : Value) (l0 : List (List S33)) (a1 : Int) (r1 : Int) (r2 : List (List S33)) (w0 w : World) (hB : Below w0.heap.size w0 w) (ho0 : Kd.S (Kd.sliceS 33 k33) 63 w w0.heap.size P0_ u9000_ l0) (h : laws_markPlaneSS.f k l0 a1 = some (r1, r2)) :
 Calls Try.prog 80 #[u9000_, .int .i64 a1] w fun e w' => e = .returned (.int .i64 r1) ∧ Kd.S (Kd.sliceS 33 k33) 63 w' w0.heap.size (fun k_ => (P0_ k_ ∨ w.heap.size ≤ k_)) u9000_ r2 ∧ Below w0.heap.size w0 w' ∧ Kept w w' (fun k_ => P0_ k_) := by
 have HO0 := Aside0.mk (show Kd.S (Kd.sliceS 33 k33) 63 w w0.heap.size (fun k_ => (P0_ k_ ∨ w.heap.size ≤ k_)) u9000_ l0 from Kd.S_mono ho0 (fun k_ hk => (.inl hk)))
 have HK := Aside0.mk (Kept.refl w (fun k_ => P0_ k_))
 have HB := Aside0.mk hB
 clear hB ho0
 have H' := Aside0.mk (show laws_markPlaneSS.l0 k l0 a1 0 = some (r1, r2) from h)
 clear h
 go_enter Try.func80, Try.ntmps80
 go_wp2
 go_loopg [1, 5] k (fun kq v1 v5 w' => ∃ (x0_1 : List (List S33)) (x1_1 : Int) (x5_1 : Int), v1 = .int .i64 x1_1 ∧ v5 = .int .i64 x5_1 ∧ Aside0 (laws_markPlaneSS.l0 kq x0_1 x1_1 x5_1 = some (r1, r2)) ∧ Aside0 (kq ≤ k) ∧ Aside0 (Kd.S (Kd.sliceS 33 k33) 63 w' w0.heap.size (fun k_ => (P0_ k_ ∨ w.heap.size ≤ k_)) u9000_ x0_1) ∧ Aside0 (Kept w w' (fun k_ => P0_ k_)) ∧ Aside0 (Below w0.heap.size w0 w'))
 case atStart => exact ⟨l0, a1, 0, rfl, rfl, H', ⟨Nat.le_refl _⟩, HO0, HK, HB⟩
 case round =>
  clear H' HO0 HK HB
  obtain ⟨x0_1, x1_1, x5_1, rfl, rfl, HA, HK1, HO, HK, HB⟩ := hrel
  cases gk with
  | zero => exact absurd HA.out (by simp [laws_markPlaneSS.l0])
  | succ k1 =>
   have H := HA.out
   clear HA
   simp only [laws_markPlaneSS.l0] at H
   obtain ⟨A6, c6, e6⟩ := Kd.S_slice HO.out
   subst e6
   by_cases c3 : x5_1 < (x0_1.length : Int)
   · rw [if_pos c3] at H
     by_cases c4 : 0 ≤ x5_1
     · rw [if_pos c4] at H
       obtain ⟨⟨t1, t2⟩, hf, H⟩ := Option.bind_eq_some_iff.mp H
       have HF := Aside0.mk hf
       have H' := Aside0.mk H
       clear hf H
       obtain ⟨g, cap, eg, gb, gl, cl, hcl⟩ := Kd.S_form HO.out (by omega)
       injection eg with ea _ ec
       subst ea ec
       have GG := Aside0.mk hcl
       clear gb gl hcl
       obtain ⟨oki, c, hc1, hM, hcell, hoki, hH⟩ := Kd.S_lend HO.out ([] : List S33) x5_1 c4 c3
       obtain ⟨v, rfl, hR⟩ := hM
       have hx : wr.cell? ⟨g, x5_1.toNat, none⟩ = some v := by have := hcell 0 v rfl; rwa [show x5_1.toNat * (Kd.sliceS 33 k33).sz + 0 = x5_1.toNat from by show x5_1.toNat * 1 + 0 = _; omega] at this
       have HH := Aside0.mk hH
       have HR := Aside0.mk hR
       have HI := Aside0.mk hoki
       clear hH hR hoki hcell hc1
       have c3b : decide (x5_1 < (x0_1.length : Int)) = true := decide_eq_true c3
       have c4b : decide (0 ≤ x5_1) = true := decide_eq_true c4
       have p5 := eq_true c4
       have q5 := eq_true c3
       clear c3 c4
       go_wp2_with (fail)
       refine (laws_markPlaneS.calls k1 oki v (rdR x0_1 x5_1) x1_1 t1 t2 w0 wr HB.out HR.out HF.out).mono ?_
       rintro e w1 ⟨rfl, hR1, hB1, hK1⟩
       have HO1 := Aside0.mk (Kd.H_back (Kd.H_step (Kd.H_widen HH.out) (fun k_ _ hn_ hl_ => hK1.2 k_ hl_ (fun h_ => hn_ (.inl h_)))) (x' := t2) (okp := fun k_ => oki k_ ∨ wr.heap.size ≤ k_) ⟨v, rfl, hR1⟩ (fun k_ h_ => h_.elim .inl (fun h2_ => .inr ⟨.inr (Nat.le_trans HK.out.1 h2_), h2_⟩)))
       have HK2 := Aside0.mk (Kept.then_ HK.out hK1 (fun k_ h_ => (HI.out k_ h_).1))
       have HB2 := Aside0.mk hB1
       clear HO HK HB HH HR hR1 hB1 hK1 hx
       go_wp2
       go_roundg k1
       case measure => have := HK1.out; omega
       case rel => exact ⟨_, t1, wrap64 (x5_1 + 1), rfl, rfl, H', ⟨by have := HK1.out; omega⟩, HO1, HK2, HB2⟩
     · rw [if_neg c4] at H
       exact absurd H (by simp)
   · rw [if_neg c3] at H
     simp only [Option.some.injEq, Prod.mk.injEq] at H
     obtain ⟨rfl, rfl⟩ := H
     have c3b : decide (x5_1 < (x0_1.length : Int)) = false := decide_eq_false c3
     clear c3
     go_wp2
     go_ret
     exact ⟨rfl, HO.out, HB.out, HK.out⟩
/-! ### laws_markNet: function 29 -/
def laws_markNet.f (k : Nat) (a0_0 : Int) (l0_1 : List (List S33)) (a1 : Int) : Option (Int × List (List S33)) := laws_markPlaneSS.f k l0_1 a1
set_option maxHeartbeats 8000000 in
set_option maxRecDepth 100000 in
theorem laws_markNet.calls (k : Nat) (a0_0 : Int) (P0_1_ : Nat → Prop) (u9001_ : Value) (l0_1 : List (List S33)) (a1 : Int) (r1 : Int) (r2 : List (List S33)) (w0 w : World) (hB : Below w0.heap.size w0 w) (ho0_1 : Kd.S (Kd.sliceS 33 k33) 63 w w0.heap.size P0_1_ u9001_ l0_1) (h : laws_markNet.f k a0_0 l0_1 a1 = some (r1, r2)) :
 Calls Try.prog 29 #[.agg #[.int .i64 a0_0, u9001_], .int .i64 a1] w fun e w' => e = .returned (.int .i64 r1) ∧ Kd.S (Kd.sliceS 33 k33) 63 w' w0.heap.size (fun k_ => (P0_1_ k_ ∨ w.heap.size ≤ k_)) u9001_ r2 ∧ Below w0.heap.size w0 w' ∧ Kept w w' (fun k_ => P0_1_ k_) := by
 have hu := Try.underlying39
 have HB := Aside0.mk hB
 have HO0 := Aside0.mk ho0_1
 have HF := Aside0.mk (show laws_markPlaneSS.f k l0_1 a1 = some (r1, r2) from h)
 clear h hB ho0_1
 obtain ⟨A0, c0, e0⟩ := Kd.S_slice HO0.out
 subst e0
 replace HO0 := Aside0.mk (Kd.S_mono (ok' := fun k_ => P0_1_ k_ ∧ k_ < w.heap.size) (Kd.S_bound HO0.out) (fun k_ h_ => ⟨h_.1, h_.2.2.1⟩))
 go_enter Try.func29, Try.ntmps29
 go_wp2_with (fail)
 refine (laws_markPlaneSS.calls k (fun k_ => P0_1_ k_ ∧ k_ < w.heap.size) _ l0_1 a1 r1 r2 w0 _ (bB HB) (pS HO0) HF.out).mono ?_
 rintro e w1 ⟨rfl, hs, hb, hk⟩
 have hw1 : w.heap.size + 1 ≤ w1.heap.size := by simpa using hk.1
 have HK1 := Aside0.mk (Kept.then_ (Kept.of_below (below_alloc (Below.refl _ _) (.cells #[.int .i64 a0_0, .slice A0 l0_1.length c0] 39 (0, 0))) (fun k_ => P0_1_ k_)) hk (fun k_ h_ => .inl h_.1))
 have HS := Aside0.mk (Kd.S_mono (ok' := fun k_ => P0_1_ k_ ∨ w.heap.size ≤ k_) hs (fun k_ h_ => h_.elim (fun a_ => .inl a_.1) (fun z_ => .inr (by have : w.heap.size + 1 ≤ k_ := (by simpa using z_); omega))))
 have HB1 := Aside0.mk hb
 clear hs hb hk hw1
 go_wp2_with (fail)
 go_ret
 exact ⟨rfl, HS.out, HB1.out, HK1.out⟩
set_option maxHeartbeats 8000000 in
set_option maxRecDepth 100000 in
theorem impl_CompareNet.callsS (a0 : Int) (r1 : Int) (r2 : List (List (S33))) (r3 : Bool) (w : World) (h : impl_CompareNet.f a0 = some (r1, r2, r3)) :
 Calls Try.prog 27 #[.int .i64 a0] w fun e w' => ∃ v1_ : Value, e = .returned (.tuple #[.agg #[.int .i64 r1, v1_], .bool r3]) ∧ Kd.S (Kd.sliceS 33 k33) 63 w' w.heap.size (fun _ => True) v1_ r2 ∧ Below w.heap.size w w' := by
 have hu39 := Try.underlying39
 have hu33 := Try.underlying33
 have HB := Aside0.mk (Below.refl w.heap.size w)
 have H : ((impl_within.f a0 1 2).bind fun t127 => (if t127 = true then ((some (([1, (-1), 2, (-2)] : List Int) : List Int)).bind fun y128 => (if 0 ≤ (wrap64 (2 * a0)) then (if (wrap64 (2 * a0)) ≤ (y128.length : Int) then (some (wrap64 (2 * a0), (([(([(⟨(y128.take ((wrap64 (2 * a0)) : Int).toNat), 0⟩ : S33)] : List (S33)))] : List (List (S33)))), true)) else (none)) else (none))) else (some (0, ([] : List (List (S33))), false)))) = some (r1, r2, r3) := h
 clear h
 replace H := Option.bind_eq_some_iff.mp H
 obtain ⟨t127, A20, H⟩ := H
 replace H : (if t127 = true then ((some (([1, (-1), 2, (-2)] : List Int) : List Int)).bind fun y128 => (if 0 ≤ (wrap64 (2 * a0)) then (if (wrap64 (2 * a0)) ≤ (y128.length : Int) then (some (wrap64 (2 * a0), (([(([(⟨(y128.take ((wrap64 (2 * a0)) : Int).toNat), 0⟩ : S33)] : List (S33)))] : List (List (S33)))), true)) else (none)) else (none))) else (some (0, ([] : List (List (S33))), false))) = some (r1, r2, r3) := H
 have A2 := Aside0.mk A20
 clear A20
 by_cases c3 : t127 = true
 · subst c3
   have H1 : ((some (([1, (-1), 2, (-2)] : List Int) : List Int)).bind fun y128 => (if 0 ≤ (wrap64 (2 * a0)) then (if (wrap64 (2 * a0)) ≤ (y128.length : Int) then (some (wrap64 (2 * a0), (([(([(⟨(y128.take ((wrap64 (2 * a0)) : Int).toNat), 0⟩ : S33)] : List (S33)))] : List (List (S33)))), true)) else (none)) else (none))) = some (r1, r2, r3) := by rw [if_pos rfl] at H; exact H
   clear H
   have H := H1
   clear H1
   obtain ⟨y128, hy128⟩ : ∃ y_ : List Int, y_ = (([1, (-1), 2, (-2)] : List Int)) := ⟨_, rfl⟩
   replace H : (if 0 ≤ (wrap64 (2 * a0)) then (if (wrap64 (2 * a0)) ≤ (y128.length : Int) then (some (wrap64 (2 * a0), (([(([(⟨(y128.take ((wrap64 (2 * a0)) : Int).toNat), 0⟩ : S33)] : List (S33)))] : List (List (S33)))), true)) else (none)) else (none)) = some (r1, r2, r3) := by first | (rw [hy128]; with_reducible exact H) | (have H2_ := (Option.bind_some _ _).symm.trans H; rw [hy128]; with_reducible exact H2_) | (have H2_ := (Option.bind_some _ _).symm.trans H; with_reducible exact H2_) | with_reducible exact H | (rw [hy128]; exact H) | exact H
   have Ny128 := Aside0.mk hy128
   clear hy128
   obtain ⟨ji4, hji4⟩ : ∃ j_ : Int, (wrap64 (2 * a0)) = j_ := ⟨_, rfl⟩
   replace H : (if 0 ≤ (ji4) then (if (ji4) ≤ (y128.length : Int) then (some (ji4, (([(([(⟨(y128.take ((ji4) : Int).toNat), 0⟩ : S33)] : List (S33)))] : List (List (S33)))), true)) else (none)) else (none)) = some (r1, r2, r3) := by first | (rw [hji4] at H; exact H) | (simp only [hji4] at H ⊢; exact H)
   (try rw [hji4] at A2)
   have hji4w : (IntKind.i64.wrap (2 * a0)) = ji4 := (i64_w _).trans hji4
   by_cases c5 : 0 ≤ (ji4)
   · rw [if_pos c5] at H
     have c5b0 := eq_true c5
     have c5b1 : decide (0 ≤ (ji4)) = true := decide_eq_true c5
     clear c5
     by_cases c6 : (ji4) ≤ (y128.length : Int)
     · rw [if_pos c6] at H
       have c6b0 := eq_true c6
       have c6b1 : decide ((ji4) ≤ (y128.length : Int)) = true := decide_eq_true c6
       clear c6
       obtain ⟨y131, hy131⟩ : ∃ y_ : List Int, y_ = (y128.take ((ji4) : Int).toNat) := ⟨_, rfl⟩
       replace H : (some (ji4, (([(([(⟨y131, 0⟩ : S33)] : List (S33)))] : List (List (S33)))), true)) = some (r1, r2, r3) := by first | (rw [hy131]; with_reducible exact H) | (have H2_ := (Option.bind_some _ _).symm.trans H; rw [hy131]; with_reducible exact H2_) | (have H2_ := (Option.bind_some _ _).symm.trans H; with_reducible exact H2_) | with_reducible exact H | (rw [hy131]; exact H) | exact H
       have Ny131 := Aside0.mk hy131
       clear hy131
       obtain ⟨y136, hy136⟩ : ∃ y_ : List (S33), y_ = (([(⟨y131, 0⟩ : S33)] : List (S33))) := ⟨_, rfl⟩
       replace H : (some (ji4, (([y136] : List (List (S33)))), true)) = some (r1, r2, r3) := by first | (rw [hy136]; with_reducible exact H) | (have H2_ := (Option.bind_some _ _).symm.trans H; rw [hy136]; with_reducible exact H2_) | (have H2_ := (Option.bind_some _ _).symm.trans H; with_reducible exact H2_) | with_reducible exact H | (rw [hy136]; exact H) | exact H
       have Ny136 := Aside0.mk hy136
       clear hy136
       obtain ⟨y139, hy139⟩ : ∃ y_ : List (List (S33)), y_ = (([y136] : List (List (S33)))) := ⟨_, rfl⟩
       replace H : (some (ji4, y139, true)) = some (r1, r2, r3) := by first | (rw [hy139]; with_reducible exact H) | (have H2_ := (Option.bind_some _ _).symm.trans H; rw [hy139]; with_reducible exact H2_) | (have H2_ := (Option.bind_some _ _).symm.trans H; with_reducible exact H2_) | with_reducible exact H | (rw [hy139]; exact H) | exact H
       have Ny139 := Aside0.mk hy139
       clear hy139
       simp only [Option.some.injEq, Prod.mk.injEq] at H
       obtain ⟨rfl, rfl, rfl⟩ := H
       go_enter Try.func27, Try.ntmps27
       go_wp2_with (first | ((with_reducible refine gate_dst (N := 2) rfl ?_); refine box_event ?hg (N := 2) ?hd (cs := #[.int .i64 0, .slice none 0 0]) (t := 39) ?hr ?_; (case hd => rfl); (case hg => rfl); (case hr => first | (go_simp; done) | (go_simp; rfl)); intro gb126 hg w7 hbox hb; have n0_ := Aside0.mk (below_step (bB HB) hb); have n1_ := Aside0.mk (hbox); have n2_ := Aside0.mk ((by rw [hg]; exact (below_size (bB HB)) : w.heap.size ≤ gb126)); have n3_ := Aside0.mk ((by rw [hg]; exact (below_size (bB HB)) : w.heap.size ≤ gb126)); clear HB; have HB := n0_; have BK126 := n1_; have GW126 := n2_; have GE126 := n3_; clear n0_ n1_ n2_ n3_; clear hb hbox hg) | ((with_reducible refine gate_callee (f := 65) rfl ?_); refine goesL_ (some 6) rfl rfl Try.func65 (by kernel_rfl) rfl #[.int .i64 a0, .int .i64 1, .int .i64 2] rfl aT ?_; (with_reducible refine (impl_within.calls a0 1 2 true _ A2.out).mono ?_); rintro e w' ⟨rfl, ⟨nd, rfl⟩⟩; refine ⟨_, rfl, ?_⟩; (try (rw [drewN_self w7]; generalize hq_ : World.drewN w7 _ = w7; have n0_ : Aside0 (w7.heap[gb126]? = some (.cells #[.int .i64 0, .slice none 0 0] 39 (0, 0))) := ⟨by rw [← hq_]; exact (pB BK126)⟩; have n1_ : Aside0 (Below w.heap.size w w7) := ⟨by rw [← hq_]; exact (bC HB GE126)⟩; clear BK126 HB hq_; have BK126 := n0_; have HB := n1_; clear n0_ n1_))) | ((with_reducible refine gate_dst (N := 9) rfl ?_); refine Kd.R_lit (Kd.int .i64) _ 3 ?hg (N := 9) ?hd (xs := ([1, (-1), 2, (-2)] : List Int)) (inner := [.int .i64 1, .int .i64 (-1), .int .i64 2, .int .i64 (-2)]) (ok := fun _ => True) (okp := fun _ => True) ?hr ?hp (fun _ hk => hk) trivial (Below.refl _ _) (Nat.le_refl _) (by simp) ?_; (case hd => rfl); (case hg => rfl); (case hr => first | (go_simp; done) | (go_simp; rfl)); (case hp => exact (Reps.one (show Kd.M (Kd.int .i64) _ _ _ 1 [.int .i64 1] from rfl) (Reps.one (show Kd.M (Kd.int .i64) _ _ _ (-1) [.int .i64 (-1)] from rfl) (Reps.one (show Kd.M (Kd.int .i64) _ _ _ 2 [.int .i64 2] from rfl) (Reps.one (show Kd.M (Kd.int .i64) _ _ _ (-2) [.int .i64 (-2)] from rfl) (Reps.none _ _)))))); intro v129 w8 ho9 hb hg_ hnew_; clear hg_ hnew_; (first | rw [← Ny128.out] at ho9 | (simp only [Int.reduceToNat] at ho9; rw [← Ny128.out] at ho9)); have n0_ := Aside0.mk (Kd.R_lower (Kd.R_newM (M := fun k_ => (w.heap.size ≤ k_)) ho9 (below_size (bC HB GE126)) (fun k_ h_ => h_)) (below_size (bC HB GE126))); have n1_ := Aside0.mk (blk_below (g := gb126) (o := .cells #[.int .i64 0, .slice none 0 0] 39 (0, 0)) (pB BK126) hb); have n2_ := Aside0.mk (below_step (bC HB GE126) hb); clear BK126; clear HB; have HO130 := n0_; have BK126 := n1_; have HB := n2_; clear n0_ n1_ n2_; clear hb ho9; obtain ⟨Ao11, co11, eo11⟩ := Kd.R_slice HO130.out; subst eo11; have q10 : ((ji4) : Int) ≤ ((y128.length : Int) : Int) := of_decide_eq_true aS; obtain ⟨i010, hi010, _, hsz10, _⟩ := info_parts info3; have hroom10 : y128.length ≤ co11 := (Kd.R_reads' HO130.out).2.1; have hC10 : Kd.F (Kd.int .i64) _ _ Ao11 y128.length y128 := (Kd.V_at (base := w.heap.size) (Kd.R_V (Kd.R_types (HO130.out) BK126.out (by decide)))).2.2; have hcut10 := cut_to (P := Try.prog) 22 3 .i64 Try.underlying22 hi010 Ao11 y128.length co11 (ji4) (of_decide_eq_true aS) q10 hroom10; have hr10 := Kd.F_take (m := ((ji4) : Int).toNat) hC10 (by omega); have hy10 : y131.length = ((ji4) : Int).toNat := (by rw [Ny131.out, List.length_take]; omega); rw [← Ny131.out] at hr10; rw [← hy10] at hcut10; have HO135 := Aside0.mk (show Kd.V (Kd.int .i64) 3 _ w.heap.size _ (.slice Ao11 y131.length co11) y131 from Kd.V_mk (by omega) hr10); have HC135 := Aside0.mk (show y131.length ≤ co11 from by omega); clear hr10 hC10 hroom10 hi010 hsz10; have KY10 := Aside0.mk hy10; clear hy10; replace q10 := eq_true q10) | ((with_reducible refine gate_dst (N := 17) rfl ?_); refine lit1 k33 w.heap.size 33 ?hg (N := 17) ?hd (x := (⟨y131, 0⟩ : S33)) (inner := [.slice Ao11 y131.length co11, .int .i64 0]) (okx := (fun k_ => (w.heap.size ≤ k_) ∧ k_ ≠ gb126)) (ok := (fun k_ => (w.heap.size ≤ k_) ∧ k_ ≠ gb126)) ?hr ?hp (fun _ hk => hk) ((show ∀ k_, w8.heap.size ≤ k_ → (fun k_ => (w.heap.size ≤ k_) ∧ k_ ≠ gb126) k_ from fun k_ hk => ⟨(Nat.le_trans (below_size (bC HB GE126)) hk), Kd.freshB (g := gb126) (o := .cells #[.int .i64 0, .slice none 0 0] 39 (0, 0)) (pB BK126) k_ hk⟩) _ (Nat.le_refl _)) (below_size (bC HB GE126)) ?_; (case hd => rfl); (case hg => rfl); (case hr => first | (go_simp; done) | (go_simp; rfl)); (case hp => exact k33_mkM _ _ _ (⟨y131, 0⟩ : S33) (cut_R (Kd.R_mono (Kd.R_types (HO130.out) BK126.out (by decide)) (fun k_ hk => ⟨hk.1.1, hk.2⟩)) Ny131.out KY10.out)); intro v137 w12 ho13 hb hbs_; (first | rw [← Ny136.out] at ho13 | (simp only [Int.reduceToNat] at ho13; rw [← Ny136.out] at ho13)); have n0_ := Aside0.mk (Kd.R_below (pR HO130) hb); have n1_ := Aside0.mk (Kd.V_elder' (by (with_reducible repeat (first | apply Kd.V_alloc | apply Kd.V_drewN | apply Kd.V_drew)); exact HO135.out) hbs_ hb); have n2_ := Aside0.mk (ho13); have n3_ := Aside0.mk (blk_below (g := gb126) (o := .cells #[.int .i64 0, .slice none 0 0] 39 (0, 0)) (pB BK126) hb); have n4_ := Aside0.mk (below_step (bC HB GE126) hb); clear HO130; clear HO135; clear BK126; clear HB; have HO130 := n0_; have HO135 := n1_; have HO138 := n2_; have BK126 := n3_; have HB := n4_; clear n0_ n1_ n2_ n3_ n4_; clear hb ho13; obtain ⟨Ao14, co14, eo14⟩ := Kd.S_slice HO138.out; subst eo14) | ((with_reducible refine gate_dst (N := 18) rfl ?_); refine lit1 (Kd.sliceS 33 k33) w.heap.size 63 ?hg (N := 18) ?hd (x := y136) (inner := [.slice Ao14 y136.length co14]) (okx := (fun k_ => (w.heap.size ≤ k_) ∧ k_ ≠ gb126)) (ok := (fun k_ => (w.heap.size ≤ k_) ∧ k_ ≠ gb126)) ?hr ?hp (fun _ hk => hk) ((show ∀ k_, w12.heap.size ≤ k_ → (fun k_ => (w.heap.size ≤ k_) ∧ k_ ≠ gb126) k_ from fun k_ hk => ⟨(Nat.le_trans (below_size (bC HB GE126)) hk), Kd.freshB (g := gb126) (o := .cells #[.int .i64 0, .slice none 0 0] 39 (0, 0)) (pB BK126) k_ hk⟩) _ (Nat.le_refl _)) (below_size (bC HB GE126)) ?_; (case hd => rfl); (case hg => rfl); (case hr => first | (go_simp; done) | (go_simp; rfl)); (case hp => exact ⟨_, rfl, (Kd.S_mono (ok' := (fun k_ => (w.heap.size ≤ k_) ∧ k_ ≠ gb126)) (HO138.out) (fun k_ hk => ⟨hk.1, hk.2⟩))⟩); intro v140 w15 ho16 hb hbs_; (first | rw [← Ny139.out] at ho16 | (simp only [Int.reduceToNat] at ho16; rw [← Ny139.out] at ho16)); have n0_ := Aside0.mk (Kd.R_below (pR HO130) hb); have n1_ := Aside0.mk (Kd.V_elder' (by (with_reducible repeat (first | apply Kd.V_alloc | apply Kd.V_drewN | apply Kd.V_drew)); exact HO135.out) hbs_ hb); have n2_ := Aside0.mk (ho16); have n3_ := Aside0.mk (blk_below (g := gb126) (o := .cells #[.int .i64 0, .slice none 0 0] 39 (0, 0)) (pB BK126) hb); have n4_ := Aside0.mk (below_step (bC HB GE126) hb); clear HO130; clear HO135; clear BK126; clear HB; clear HO138; have HO130 := n0_; have HO135 := n1_; have HO141 := n2_; have BK126 := n3_; have HB := n4_; clear n0_ n1_ n2_ n3_ n4_; clear hb ho16; obtain ⟨Ao17, co17, eo17⟩ := Kd.S_slice HO141.out; subst eo17; have hcz18_0 : w15.cell? ⟨gb126, 0, none⟩ = some (.int .i64 0) := (blk_cell BK126.out 0).trans rfl; have hcz18_1 : w15.cell? ⟨gb126, 1, none⟩ = some (.slice none 0 0) := (blk_cell BK126.out 1).trans rfl; have hfz18_0 := blk_frozen BK126.out 0; have hfz18_1 := blk_frozen BK126.out 1))
       refine bodyPost_ret (results_ct rfl _ _ gb126 39 #[.int .i64 ji4, .slice Ao17 y139.length co17] (0, 0) _ rfl (by (with_reducible repeat (first | refine blk_drewN ?_ _ | refine blk_drew ?_ | refine blk_alloc ?_ _)); refine blk_put (cs := #[.int .i64 ji4, .slice none 0 0]) ?_ 1 _ rfl; (with_reducible repeat (first | refine blk_drewN ?_ _ | refine blk_drew ?_ | refine blk_alloc ?_ _)); refine blk_put (cs := #[.int .i64 0, .slice none 0 0]) ?_ 0 _ rfl; (with_reducible repeat (first | refine blk_drewN ?_ _ | refine blk_drew ?_ | refine blk_alloc ?_ _)); exact BK126.out) Try.underlying39 rfl (by kernel_rfl)) rfl ?_
       exact ⟨_, by first | rfl | (simp [errW_none, errW_some] <;> rfl) | (simp only [← hji4]; first | rfl | (simp [errW_none, errW_some] <;> rfl)) | (simp [*, errW_none, errW_some] <;> rfl), by (with_reducible repeat (first | apply Kd.S_alloc | apply Kd.S_drewN | apply Kd.S_drew)); exact Kd.S_mono (Kd.S_far (p := ⟨gb126, 1, none⟩) (Kd.S_far (p := ⟨gb126, 0, none⟩) (Kd.S_mono HO141.out (fun k_ hk => (⟨hk, hk.2⟩ : _ ∧ k_ ≠ gb126))) (fun _ hk => hk.2) (.int .i64 ji4)) (fun _ hk => hk.2) (.slice Ao17 y139.length co17)) (fun _ _ => trivial), bC HB GE126⟩
     · rw [if_neg c6] at H
       exact absurd H (by simp)
   · rw [if_neg c5] at H
     exact absurd H (by simp)
 · replace c3 := Bool.eq_false_iff.mpr c3
   subst c3
   have H1 : (some (0, ([] : List (List (S33))), false)) = some (r1, r2, r3) := by rw [if_neg (show ¬ (false = true) by decide)] at H; exact H
   clear H
   have H := H1
   clear H1
   simp only [Option.some.injEq, Prod.mk.injEq] at H
   obtain ⟨rfl, rfl, rfl⟩ := H
   go_enter Try.func27, Try.ntmps27
   go_wp2_with (first | ((with_reducible refine gate_dst (N := 2) rfl ?_); refine box_event ?hg (N := 2) ?hd (cs := #[.int .i64 0, .slice none 0 0]) (t := 39) ?hr ?_; (case hd => rfl); (case hg => rfl); (case hr => first | (go_simp; done) | (go_simp; rfl)); intro gb126 hg w19 hbox hb; have n0_ := Aside0.mk (below_step (bB HB) hb); have n1_ := Aside0.mk (hbox); have n2_ := Aside0.mk ((by rw [hg]; exact (below_size (bB HB)) : w.heap.size ≤ gb126)); have n3_ := Aside0.mk ((by rw [hg]; exact (below_size (bB HB)) : w.heap.size ≤ gb126)); clear HB; have HB := n0_; have BK126 := n1_; have GW126 := n2_; have GE126 := n3_; clear n0_ n1_ n2_ n3_; clear hb hbox hg) | ((with_reducible refine gate_callee (f := 65) rfl ?_); refine goesL_ (some 6) rfl rfl Try.func65 (by kernel_rfl) rfl #[.int .i64 a0, .int .i64 1, .int .i64 2] rfl aT ?_; (with_reducible refine (impl_within.calls a0 1 2 false _ A2.out).mono ?_); rintro e w' ⟨rfl, ⟨nd, rfl⟩⟩; refine ⟨_, rfl, ?_⟩; (try (rw [drewN_self w19]; generalize hq_ : World.drewN w19 _ = w19; have n0_ : Aside0 (w19.heap[gb126]? = some (.cells #[.int .i64 0, .slice none 0 0] 39 (0, 0))) := ⟨by rw [← hq_]; exact (pB BK126)⟩; have n1_ : Aside0 (Below w.heap.size w w19) := ⟨by rw [← hq_]; exact (bC HB GE126)⟩; clear BK126 HB hq_; have BK126 := n0_; have HB := n1_; clear n0_ n1_)); have hcz20_0 : w19.cell? ⟨gb126, 0, none⟩ = some (.int .i64 0) := (blk_cell BK126.out 0).trans rfl; have hcz20_1 : w19.cell? ⟨gb126, 1, none⟩ = some (.slice none 0 0) := (blk_cell BK126.out 1).trans rfl; have hfz20_0 := blk_frozen BK126.out 0; have hfz20_1 := blk_frozen BK126.out 1))
   refine bodyPost_ret (results_ct rfl _ _ gb126 39 #[.int .i64 0, .slice none 0 0] (0, 0) _ rfl (by (with_reducible repeat (first | refine blk_drewN ?_ _ | refine blk_drew ?_ | refine blk_alloc ?_ _)); refine blk_put (cs := #[.int .i64 0, .slice none 0 0]) ?_ 1 _ rfl; (with_reducible repeat (first | refine blk_drewN ?_ _ | refine blk_drew ?_ | refine blk_alloc ?_ _)); refine blk_put (cs := #[.int .i64 0, .slice none 0 0]) ?_ 0 _ rfl; (with_reducible repeat (first | refine blk_drewN ?_ _ | refine blk_drew ?_ | refine blk_alloc ?_ _)); exact BK126.out) Try.underlying39 rfl (by kernel_rfl)) rfl ?_
   exact ⟨_, eW, by first | exact Kd.R_nil _ _ _ _ _ | exact Kd.S_nil _ _ _ _ _ | exact Kd.V_nil _ _ _ _ _ | exact Kd.Q_nil _ _ _ _ _ | exact Kd.S_nil _ _ _ _ _, bC HB GE126⟩

end Go.Proofs.Ytihnijfgdffhjaa.KFnExactCompareNet
