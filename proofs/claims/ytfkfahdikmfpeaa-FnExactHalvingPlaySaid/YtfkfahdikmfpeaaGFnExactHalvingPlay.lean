import Derived.Test.YtfkfahdikmfpeaaPFnExactHalvingPlayx
import Derived.Test.YtfkfahdikmfpeaaKFnExactHalvingPlay
import Derived.Test.YtfkfahdikmfpeaaMc
import Derived.Test.YtfkfahdikmfpeaaSh
namespace Go.Proofs.Ytfkfahdikmfpeaa.GFnExactHalvingPlay
open Go.RowKit Go.Proofs.Ytfkfahdikmfpeaa.Sh Go.Proofs.Ytfkfahdikmfpeaa.KFnExactHalvingPlay Go.Proofs.Ytfkfahdikmfpeaa.Mc Go.Proofs.Ytfkfahdikmfpeaa.PFnExactHalvingPlay Go.Proofs.YtfkfahdikmfpeaaW.PrintWords Go.Proofs.YtfkfahdikmfpeaaW.PrintLast Go.Proofs.YtfkfahdikmfpeaaW.PrintMore
set_option linter.unusedVariables false
set_option linter.unusedSimpArgs false
set_option maxHeartbeats 8000000 in
set_option maxRecDepth 100000 in
theorem big0 (k : Nat) (A0 : Option Addr) (c0 : Nat) (l0 : List (List Int)) (a1 : Int) (A2 : Option Addr) (c2 : Nat) (l2 : List Int)  (w : World) (hr0 : Kd.C (Kd.slice 3 (Kd.int .i64)) w A0 l0.length l0) (hc0 : l0.length ≤ c0) (hr2 : Kd.C (Kd.int .i64) w A2 l2.length l2) (hc2 : l2.length ≤ c2)  (q0 : 1048576 < l2.length) :
 Calls Try.prog 7 #[.slice A0 l0.length c0, .int .i64 a1, .slice A2 l2.length c2] w fun e w' => e = .returned (.bool true) ∧ Below w.heap.size w w' := by
 have HR0 := Aside0.mk hr0
 have HC0 := Aside0.mk hc0
 clear hr0 hc0
 have HR2 := Aside0.mk hr2
 have HC2 := Aside0.mk hc2
 clear hr2 hc2
 have HB := Aside0.mk (Below.refl w.heap.size w)
 have d0 : decide (1048576 < l2.length) = true := decide_eq_true (by omega)
 have e0 : decide ((l2.length : Int) > 1048576) = true := decide_eq_true (by omega)
 clear q0
 go_enter Try.func7, Try.ntmps7
 go_wp2_with (fail)
 go_ret
 exact ⟨rfl, (bB HB)⟩


set_option maxHeartbeats 8000000 in
set_option maxRecDepth 100000 in
theorem big1 (k : Nat) (A0 : Option Addr) (c0 : Nat) (l0 : List (List Int)) (a1 : Int) (A2 : Option Addr) (c2 : Nat) (l2 : List Int) (r1 : Int) (w : World) (hr0 : Kd.C (Kd.slice 3 (Kd.int .i64)) w A0 l0.length l0) (hc0 : l0.length ≤ c0) (hr2 : Kd.C (Kd.int .i64) w A2 l2.length l2) (hc2 : l2.length ≤ c2) (h1 : laws_szIntSS.f k l0 1048576 = some r1) (q0 : l2.length ≤ 1048576) (q1 : r1 < 0) :
 Calls Try.prog 7 #[.slice A0 l0.length c0, .int .i64 a1, .slice A2 l2.length c2] w fun e w' => e = .returned (.bool true) ∧ Below w.heap.size w w' := by
 have HR0 := Aside0.mk hr0
 have HC0 := Aside0.mk hc0
 clear hr0 hc0
 have HR2 := Aside0.mk hr2
 have HC2 := Aside0.mk hc2
 clear hr2 hc2
 have HB := Aside0.mk (Below.refl w.heap.size w)
 replace h1 := Aside0.mk h1
 have d0 : decide (1048576 < l2.length) = false := decide_eq_false (by omega)
 have e0 : decide ((l2.length : Int) > 1048576) = false := decide_eq_false (by omega)
 have d1 : decide (r1 < 0) = true := decide_eq_true (by omega)
 clear q0 q1
 go_enter Try.func7, Try.ntmps7
 go_wp2_with (fail)
 (with_reducible refine (laws_szIntSS.calls k _ _ l0 1048576 r1 _ ?side1 ?side2 h1.out).mono ?_)
 (case side1 => exact cB HR0 HB); (case side2 => exact HC0.out)
 rintro e w1 ⟨rfl, hd⟩
 have hb := hd.below
 have N1 := Aside0.mk (show w.heap.size + 0 ≤ w1.heap.size from Nat.le_trans nL hb.size)
 replace HB := Aside0.mk (below_step (bB HB) hb)
 clear hd hb
 go_wp2_with (fail)
 go_ret
 exact ⟨rfl, (bB HB)⟩


set_option maxHeartbeats 8000000 in
set_option maxRecDepth 100000 in
theorem good (k : Nat) (A0 : Option Addr) (c0 : Nat) (l0 : List (List Int)) (a1 : Int) (A2 : Option Addr) (c2 : Nat) (l2 : List Int) (r1 : Int) (r2 : List (List Int)) (r4 : List Int) (r6 : List Int) (r7 : Bool) (r14 : Int) (r15 : List (List Int)) (r16 : Int) (r17 : List Int) (r18 : Int) (r19 : List Int) (w : World) (hr0 : Kd.C (Kd.slice 3 (Kd.int .i64)) w A0 l0.length l0) (hc0 : l0.length ≤ c0) (hr2 : Kd.C (Kd.int .i64) w A2 l2.length l2) (hc2 : l2.length ≤ c2) (h1 : laws_szIntSS.f k l0 1048576 = some r1) (h2 : laws_toIntSS.f k l0 = some r2) (h3 : laws_toIntS.f k l2 = some r4) (h4 : spec_HalvingPlay.f k r2 a1 r4 = some (r6, r7)) (h5 : impl_HalvingPlay.f k r2 a1 r4 = some (r6, r7)) (h6 : laws_eqIntS.f k r6 r6 = some true) (h7 : laws_eqIntSS.f k r2 r2 = some true) (h8 : laws_eqIntS.f k r4 r4 = some true) (h9 : laws_markIntSS.f k r2 1 = some (r14, r15)) (h10 : laws_markIntS.f k r4 r14 = some (r16, r17)) (h11 : laws_markIntS.f k r6 1 = some (r18, r19)) (h12 : laws_heldIntS.f k r19 1 = some r18) (q0 : l2.length ≤ 1048576) (q1 : 0 ≤ r1) (q2 : 0 ≤ r14) (q3 : 0 ≤ r16) (q4 : 0 ≤ r18) :
 Calls Try.prog 7 #[.slice A0 l0.length c0, .int .i64 a1, .slice A2 l2.length c2] w fun e w' => e = .returned (.bool true) ∧ Below w.heap.size w w' := by
 have HR0 := Aside0.mk hr0
 have HC0 := Aside0.mk hc0
 clear hr0 hc0
 have HR2 := Aside0.mk hr2
 have HC2 := Aside0.mk hc2
 clear hr2 hc2
 have HB := Aside0.mk (Below.refl w.heap.size w)
 replace h1 := Aside0.mk h1
 replace h2 := Aside0.mk h2
 replace h3 := Aside0.mk h3
 replace h4 := Aside0.mk h4
 replace h5 := Aside0.mk h5
 replace h6 := Aside0.mk h6
 replace h7 := Aside0.mk h7
 replace h8 := Aside0.mk h8
 replace h9 := Aside0.mk h9
 replace h10 := Aside0.mk h10
 replace h11 := Aside0.mk h11
 replace h12 := Aside0.mk h12
 have d0 : decide (1048576 < l2.length) = false := decide_eq_false (by omega)
 have e0 : decide ((l2.length : Int) > 1048576) = false := decide_eq_false (by omega)
 have d1 : decide (r1 < 0) = false := decide_eq_false (by omega)
 have d2 : decide (r14 < 0) = false := decide_eq_false (by omega)
 have d3 : decide (r16 < 0) = false := decide_eq_false (by omega)
 have d4 : decide (r18 < 0) = false := decide_eq_false (by omega)
 clear q0 q1 q2 q3 q4
 go_enter Try.func7, Try.ntmps7
 go_wp2_with (fail)
 (with_reducible refine (laws_szIntSS.calls k _ _ l0 1048576 r1 _ ?side1 ?side2 h1.out).mono ?_)
 (case side1 => exact cB HR0 HB); (case side2 => exact HC0.out)
 rintro e w1 ⟨rfl, hd⟩
 have hb := hd.below
 have N1 := Aside0.mk (show w.heap.size + 0 ≤ w1.heap.size from Nat.le_trans nL hb.size)
 replace HB := Aside0.mk (below_step (bB HB) hb)
 clear hd hb
 go_wp2_with (fail)
 (with_reducible refine (laws_toIntSS.calls k _ _ l0 r2 _ ?side1 ?side2 h2.out).mono ?_)
 (case side1 => exact cB HR0 HB); (case side2 => exact HC0.out)
 rintro e w2 ⟨v3, rfl, ho0, hb⟩
 have N2 := Aside0.mk (show w1.heap.size + 0 ≤ w2.heap.size from Nat.le_trans nL hb.size)
 replace HB := Aside0.mk (below_step (bB HB) hb)
 have HO3 := Aside0.mk (S_ivl (b0 := w1.heap.size) ho0 nL)
 clear hb ho0
 obtain ⟨Ao3, co3, eo3⟩ := Kd.S_slice HO3.out
 subst eo3
 go_wp2_with (fail)
 (with_reducible refine (laws_toIntS.calls k _ _ l2 r4 _ ?side1 ?side2 h3.out).mono ?_)
 (case side1 => exact cB HR2 HB); (case side2 => exact HC2.out)
 rintro e w3 ⟨v5, rfl, ho0, hb⟩
 replace HO3 := Aside0.mk (Kd.S_below (pS HO3) hb)
 have N3 := Aside0.mk (show w2.heap.size + 0 ≤ w3.heap.size from Nat.le_trans nL hb.size)
 replace HB := Aside0.mk (below_step (bB HB) hb)
 have HO5 := Aside0.mk (R_ivl (b0 := w2.heap.size) (Kd.R_tight rfl ho0) nL)
 clear hb ho0
 obtain ⟨Ao5, co5, eo5⟩ := Kd.R_slice HO5.out
 subst eo5
 go_wp2_with (fail)
 (with_reducible refine (spec_HalvingPlay.calls k _ _ r2 a1 _ _ r4 r6 r7 _ ?side1 ?side2 ?side3 ?side4 h4.out).mono ?_)
 (case side1 => exact cS HO3); (case side2 => exact (Kd.S_reads' HO3.out).2.1); (case side3 => exact cR HO5); (case side4 => exact (Kd.R_reads' HO5.out).2.1)
 rintro e w4 ⟨v8, rfl, ho0, hb⟩
 replace HO3 := Aside0.mk (Kd.S_below (pS HO3) hb)
 replace HO5 := Aside0.mk (Kd.R_below (pR HO5) hb)
 have N4 := Aside0.mk (show w3.heap.size + 0 ≤ w4.heap.size from Nat.le_trans nL hb.size)
 replace HB := Aside0.mk (below_step (bB HB) hb)
 have HO8 := Aside0.mk (R_ivl (b0 := w3.heap.size) (Kd.R_tight rfl ho0) nL)
 clear hb ho0
 obtain ⟨Ao8, co8, eo8⟩ := Kd.R_slice HO8.out
 subst eo8
 go_wp2_with (fail)
 (with_reducible refine (laws_toIntSS.calls k _ _ l0 r2 _ ?side1 ?side2 h2.out).mono ?_)
 (case side1 => exact cB HR0 HB); (case side2 => exact HC0.out)
 rintro e w5 ⟨v9, rfl, ho0, hb⟩
 replace HO8 := Aside0.mk (Kd.R_below (pR HO8) hb)
 have N5 := Aside0.mk (show w4.heap.size + 0 ≤ w5.heap.size from Nat.le_trans nL hb.size)
 replace HB := Aside0.mk (below_step (bB HB) hb)
 have HO9 := Aside0.mk (S_ivl (b0 := w4.heap.size) ho0 nL)
 clear hb ho0
 obtain ⟨Ao9, co9, eo9⟩ := Kd.S_slice HO9.out
 subst eo9
 go_wp2_with (fail)
 (with_reducible refine (laws_toIntS.calls k _ _ l2 r4 _ ?side1 ?side2 h3.out).mono ?_)
 (case side1 => exact cB HR2 HB); (case side2 => exact HC2.out)
 rintro e w6 ⟨v10, rfl, ho0, hb⟩
 replace HO8 := Aside0.mk (Kd.R_below (pR HO8) hb)
 replace HO9 := Aside0.mk (Kd.S_below (pS HO9) hb)
 have N6 := Aside0.mk (show w5.heap.size + 0 ≤ w6.heap.size from Nat.le_trans nL hb.size)
 replace HB := Aside0.mk (below_step (bB HB) hb)
 have HO10 := Aside0.mk (R_ivl (b0 := w5.heap.size) (Kd.R_tight rfl ho0) nL)
 clear hb ho0
 obtain ⟨Ao10, co10, eo10⟩ := Kd.R_slice HO10.out
 subst eo10
 go_wp2_with (fail)
 (with_reducible refine (impl_HalvingPlay.calls k _ _ r2 a1 _ _ r4 r6 r7 _ ?side1 ?side2 ?side3 ?side4 h5.out).mono ?_)
 (case side1 => exact cS HO9); (case side2 => exact (Kd.S_reads' HO9.out).2.1); (case side3 => exact cR HO10); (case side4 => exact (Kd.R_reads' HO10.out).2.1)
 rintro e w7 ⟨v11, rfl, ho0, hb⟩
 replace HO8 := Aside0.mk (Kd.R_below (pR HO8) hb)
 replace HO9 := Aside0.mk (Kd.S_below (pS HO9) hb)
 replace HO10 := Aside0.mk (Kd.R_below (pR HO10) hb)
 have N7 := Aside0.mk (show w6.heap.size + 0 ≤ w7.heap.size from Nat.le_trans nL hb.size)
 replace HB := Aside0.mk (below_step (bB HB) hb)
 have HO11 := Aside0.mk (R_ivl (b0 := w6.heap.size) (Kd.R_tight rfl ho0) nL)
 clear hb ho0
 obtain ⟨Ao11, co11, eo11⟩ := Kd.R_slice HO11.out
 subst eo11
 go_wp2_with (fail)
 (with_reducible refine (laws_eqIntS.calls k _ _ r6 _ _ r6 true _ ?side1 ?side2 ?side3 ?side4 h6.out).mono ?_)
 (case side1 => exact cR HO11); (case side2 => exact (Kd.R_reads' HO11.out).2.1); (case side3 => exact cR HO8); (case side4 => exact (Kd.R_reads' HO8.out).2.1)
 rintro e w8 ⟨rfl, hd⟩
 have hb := hd.below
 replace HO8 := Aside0.mk (Kd.R_below (pR HO8) hb)
 replace HO9 := Aside0.mk (Kd.S_below (pS HO9) hb)
 replace HO10 := Aside0.mk (Kd.R_below (pR HO10) hb)
 replace HO11 := Aside0.mk (Kd.R_below (pR HO11) hb)
 have N8 := Aside0.mk (show w7.heap.size + 0 ≤ w8.heap.size from Nat.le_trans nL hb.size)
 replace HB := Aside0.mk (below_step (bB HB) hb)
 clear hd hb
 go_wp2_with (fail)
 (with_reducible refine (laws_toIntSS.calls k _ _ l0 r2 _ ?side1 ?side2 h2.out).mono ?_)
 (case side1 => exact cB HR0 HB); (case side2 => exact HC0.out)
 rintro e w9 ⟨v12, rfl, ho0, hb⟩
 replace HO8 := Aside0.mk (Kd.R_below (pR HO8) hb)
 replace HO9 := Aside0.mk (Kd.S_below (pS HO9) hb)
 replace HO10 := Aside0.mk (Kd.R_below (pR HO10) hb)
 replace HO11 := Aside0.mk (Kd.R_below (pR HO11) hb)
 have N9 := Aside0.mk (show w8.heap.size + 0 ≤ w9.heap.size from Nat.le_trans nL hb.size)
 replace HB := Aside0.mk (below_step (bB HB) hb)
 have HO12 := Aside0.mk (S_ivl (b0 := w8.heap.size) ho0 nL)
 clear hb ho0
 obtain ⟨Ao12, co12, eo12⟩ := Kd.S_slice HO12.out
 subst eo12
 go_wp2_with (fail)
 (with_reducible refine (laws_eqIntSS.calls k _ _ r2 _ _ r2 true _ ?side1 ?side2 ?side3 ?side4 h7.out).mono ?_)
 (case side1 => exact cS HO9); (case side2 => exact (Kd.S_reads' HO9.out).2.1); (case side3 => exact cS HO12); (case side4 => exact (Kd.S_reads' HO12.out).2.1)
 rintro e w10 ⟨rfl, hd⟩
 have hb := hd.below
 replace HO8 := Aside0.mk (Kd.R_below (pR HO8) hb)
 replace HO9 := Aside0.mk (Kd.S_below (pS HO9) hb)
 replace HO10 := Aside0.mk (Kd.R_below (pR HO10) hb)
 replace HO11 := Aside0.mk (Kd.R_below (pR HO11) hb)
 replace HO12 := Aside0.mk (Kd.S_below (pS HO12) hb)
 have N10 := Aside0.mk (show w9.heap.size + 0 ≤ w10.heap.size from Nat.le_trans nL hb.size)
 replace HB := Aside0.mk (below_step (bB HB) hb)
 clear hd hb
 go_wp2_with (fail)
 (with_reducible refine (laws_toIntS.calls k _ _ l2 r4 _ ?side1 ?side2 h3.out).mono ?_)
 (case side1 => exact cB HR2 HB); (case side2 => exact HC2.out)
 rintro e w11 ⟨v13, rfl, ho0, hb⟩
 replace HO8 := Aside0.mk (Kd.R_below (pR HO8) hb)
 replace HO9 := Aside0.mk (Kd.S_below (pS HO9) hb)
 replace HO10 := Aside0.mk (Kd.R_below (pR HO10) hb)
 replace HO11 := Aside0.mk (Kd.R_below (pR HO11) hb)
 have N11 := Aside0.mk (show w10.heap.size + 0 ≤ w11.heap.size from Nat.le_trans nL hb.size)
 replace HB := Aside0.mk (below_step (bB HB) hb)
 have HO13 := Aside0.mk (R_ivl (b0 := w10.heap.size) (Kd.R_tight rfl ho0) nL)
 clear hb ho0
 obtain ⟨Ao13, co13, eo13⟩ := Kd.R_slice HO13.out
 subst eo13
 go_wp2_with (fail)
 (with_reducible refine (laws_eqIntS.calls k _ _ r4 _ _ r4 true _ ?side1 ?side2 ?side3 ?side4 h8.out).mono ?_)
 (case side1 => exact cR HO10); (case side2 => exact (Kd.R_reads' HO10.out).2.1); (case side3 => exact cR HO13); (case side4 => exact (Kd.R_reads' HO13.out).2.1)
 rintro e w12 ⟨rfl, hd⟩
 have hb := hd.below
 replace HO8 := Aside0.mk (Kd.R_below (pR HO8) hb)
 replace HO9 := Aside0.mk (Kd.S_below (pS HO9) hb)
 replace HO10 := Aside0.mk (Kd.R_below (pR HO10) hb)
 replace HO11 := Aside0.mk (Kd.R_below (pR HO11) hb)
 replace HO13 := Aside0.mk (Kd.R_below (pR HO13) hb)
 have N12 := Aside0.mk (show w11.heap.size + 0 ≤ w12.heap.size from Nat.le_trans nL hb.size)
 replace HB := Aside0.mk (below_step (bB HB) hb)
 clear hd hb
 go_wp2_with (fail)
 (with_reducible refine (laws_markIntSS.calls k (fun k_ => True ∧ w4.heap.size ≤ k_ ∧ k_ < w5.heap.size) (.slice Ao9 r2.length co9) r2 1 r14 r15 w _ ?side1 ?side2 h9.out).mono ?_)
 (case side1 => exact bB HB); (case side2 => refine Kd.S_lower (pS HO9) ?_; have := N1.out; have := N2.out; have := N3.out; have := N4.out; omega)
 rintro e w13 ⟨rfl, ho0, hB1, hK1⟩
 replace HO8 := Aside0.mk (Kd.R_step (pR HO8) (fun k_ (ho_ : some k_ = (.slice Ao8 r6.length co8 : Value).ownBlock ∧ w3.heap.size ≤ k_ ∧ k_ < w4.heap.size) hl_ => hK1.2 k_ hl_ (fun (hs_ : (True ∧ w4.heap.size ≤ k_ ∧ k_ < w5.heap.size)) => by have ha_ := ho_.2; have hb_ := hs_.2; have := N1.out; have := N2.out; have := N3.out; have := N4.out; have := N5.out; have := N6.out; have := N7.out; have := N8.out; have := N9.out; have := N10.out; have := N11.out; have := N12.out; omega)))
 replace HO10 := Aside0.mk (Kd.R_step (pR HO10) (fun k_ (ho_ : some k_ = (.slice Ao10 r4.length co10 : Value).ownBlock ∧ w5.heap.size ≤ k_ ∧ k_ < w6.heap.size) hl_ => hK1.2 k_ hl_ (fun (hs_ : (True ∧ w4.heap.size ≤ k_ ∧ k_ < w5.heap.size)) => by have ha_ := ho_.2; have hb_ := hs_.2; have := N1.out; have := N2.out; have := N3.out; have := N4.out; have := N5.out; have := N6.out; have := N7.out; have := N8.out; have := N9.out; have := N10.out; have := N11.out; have := N12.out; omega)))
 replace HO11 := Aside0.mk (Kd.R_step (pR HO11) (fun k_ (ho_ : some k_ = (.slice Ao11 r6.length co11 : Value).ownBlock ∧ w6.heap.size ≤ k_ ∧ k_ < w7.heap.size) hl_ => hK1.2 k_ hl_ (fun (hs_ : (True ∧ w4.heap.size ≤ k_ ∧ k_ < w5.heap.size)) => by have ha_ := ho_.2; have hb_ := hs_.2; have := N1.out; have := N2.out; have := N3.out; have := N4.out; have := N5.out; have := N6.out; have := N7.out; have := N8.out; have := N9.out; have := N10.out; have := N11.out; have := N12.out; omega)))
 have N13 := Aside0.mk (show w12.heap.size ≤ w13.heap.size from Nat.le_trans nL hK1.1)
 replace HB := Aside0.mk hB1
 replace HO9 := Aside0.mk (Kd.S_mono (ok' := fun k_ => (True ∧ w4.heap.size ≤ k_ ∧ k_ < w5.heap.size) ∨ w12.heap.size ≤ k_) ho0 (fun k_ h_ => h_.imp id (fun z_ => Nat.le_trans nL z_)))
 clear hK1 ho0 hB1
 go_wp2_with (fail)
 (with_reducible refine (laws_markIntS.calls k (fun k_ => some k_ = (.slice Ao10 r4.length co10 : Value).ownBlock ∧ w5.heap.size ≤ k_ ∧ k_ < w6.heap.size) (.slice Ao10 r4.length co10) r4 r14 r16 r17 w _ ?side1 ?side2 h10.out).mono ?_)
 (case side1 => exact bB HB); (case side2 => refine Kd.R_lower (pR HO10) ?_; have := N1.out; have := N2.out; have := N3.out; have := N4.out; have := N5.out; omega)
 rintro e w14 ⟨rfl, ho0, hB1, hK1⟩
 replace HO8 := Aside0.mk (Kd.R_step (pR HO8) (fun k_ (ho_ : some k_ = (.slice Ao8 r6.length co8 : Value).ownBlock ∧ w3.heap.size ≤ k_ ∧ k_ < w4.heap.size) hl_ => hK1.2 k_ hl_ (fun (hs_ : (some k_ = (.slice Ao10 r4.length co10 : Value).ownBlock ∧ w5.heap.size ≤ k_ ∧ k_ < w6.heap.size)) => by have ha_ := ho_.2; have hb_ := hs_.2; have := N1.out; have := N2.out; have := N3.out; have := N4.out; have := N5.out; have := N6.out; have := N7.out; have := N8.out; have := N9.out; have := N10.out; have := N11.out; have := N12.out; have := N13.out; omega)))
 replace HO11 := Aside0.mk (Kd.R_step (pR HO11) (fun k_ (ho_ : some k_ = (.slice Ao11 r6.length co11 : Value).ownBlock ∧ w6.heap.size ≤ k_ ∧ k_ < w7.heap.size) hl_ => hK1.2 k_ hl_ (fun (hs_ : (some k_ = (.slice Ao10 r4.length co10 : Value).ownBlock ∧ w5.heap.size ≤ k_ ∧ k_ < w6.heap.size)) => by have ha_ := ho_.2; have hb_ := hs_.2; have := N1.out; have := N2.out; have := N3.out; have := N4.out; have := N5.out; have := N6.out; have := N7.out; have := N8.out; have := N9.out; have := N10.out; have := N11.out; have := N12.out; have := N13.out; omega)))
 have N14 := Aside0.mk (show w13.heap.size ≤ w14.heap.size from Nat.le_trans nL hK1.1)
 replace HB := Aside0.mk hB1
 replace HO10 := Aside0.mk (Kd.R_mono (ok' := fun k_ => (some k_ = (.slice Ao10 r4.length co10 : Value).ownBlock ∧ w5.heap.size ≤ k_ ∧ k_ < w6.heap.size) ∨ w13.heap.size ≤ k_) ho0 (fun k_ h_ => h_.imp id (fun z_ => Nat.le_trans nL z_)))
 clear hK1 ho0 hB1
 go_wp2_with (fail)
 (with_reducible refine (laws_eqIntS.calls k _ _ r6 _ _ r6 true _ ?side1 ?side2 ?side3 ?side4 h6.out).mono ?_)
 (case side1 => exact cR HO11); (case side2 => exact (Kd.R_reads' HO11.out).2.1); (case side3 => exact cR HO8); (case side4 => exact (Kd.R_reads' HO8.out).2.1)
 rintro e w15 ⟨rfl, hd⟩
 have hb := hd.below
 replace HO8 := Aside0.mk (Kd.R_below (pR HO8) hb)
 replace HO11 := Aside0.mk (Kd.R_below (pR HO11) hb)
 have N15 := Aside0.mk (show w14.heap.size + 0 ≤ w15.heap.size from Nat.le_trans nL hb.size)
 replace HB := Aside0.mk (below_step (bB HB) hb)
 clear hd hb
 go_wp2_with (fail)
 (with_reducible refine (laws_markIntS.calls k (fun k_ => some k_ = (.slice Ao11 r6.length co11 : Value).ownBlock ∧ w6.heap.size ≤ k_ ∧ k_ < w7.heap.size) (.slice Ao11 r6.length co11) r6 1 r18 r19 w _ ?side1 ?side2 h11.out).mono ?_)
 (case side1 => exact bB HB); (case side2 => refine Kd.R_lower (pR HO11) ?_; have := N1.out; have := N2.out; have := N3.out; have := N4.out; have := N5.out; have := N6.out; omega)
 rintro e w16 ⟨rfl, ho0, hB1, hK1⟩
 replace HO8 := Aside0.mk (Kd.R_step (pR HO8) (fun k_ (ho_ : some k_ = (.slice Ao8 r6.length co8 : Value).ownBlock ∧ w3.heap.size ≤ k_ ∧ k_ < w4.heap.size) hl_ => hK1.2 k_ hl_ (fun (hs_ : (some k_ = (.slice Ao11 r6.length co11 : Value).ownBlock ∧ w6.heap.size ≤ k_ ∧ k_ < w7.heap.size)) => by have ha_ := ho_.2; have hb_ := hs_.2; have := N1.out; have := N2.out; have := N3.out; have := N4.out; have := N5.out; have := N6.out; have := N7.out; have := N8.out; have := N9.out; have := N10.out; have := N11.out; have := N12.out; have := N13.out; have := N14.out; have := N15.out; omega)))
 have N16 := Aside0.mk (show w15.heap.size ≤ w16.heap.size from Nat.le_trans nL hK1.1)
 replace HB := Aside0.mk hB1
 replace HO11 := Aside0.mk (Kd.R_mono (ok' := fun k_ => (some k_ = (.slice Ao11 r6.length co11 : Value).ownBlock ∧ w6.heap.size ≤ k_ ∧ k_ < w7.heap.size) ∨ w15.heap.size ≤ k_) ho0 (fun k_ h_ => h_.imp id (fun z_ => Nat.le_trans nL z_)))
 clear hK1 ho0 hB1
 go_wp2_with (fail)
 refine calls_of_args (args' := #[.slice Ao11 r19.length co11, .int .i64 1]) (by rw [(Kd.R_reads' HO11.out).1]) ?_
 (with_reducible refine (laws_heldIntS.calls k _ _ r19 1 r18 _ ?side1 ?side2 h12.out).mono ?_)
 (case side1 => exact cR HO11); (case side2 => have e_ := Kd.R_reads' HO11.out; rw [← e_.1]; exact e_.2.1)
 rintro e w17 ⟨rfl, hd⟩
 have hb := hd.below
 replace HO8 := Aside0.mk (Kd.R_below (pR HO8) hb)
 replace HO11 := Aside0.mk (Kd.R_below (pR HO11) hb)
 have N17 := Aside0.mk (show w16.heap.size + 0 ≤ w17.heap.size from Nat.le_trans nL hb.size)
 replace HB := Aside0.mk (below_step (bB HB) hb)
 clear hd hb
 go_wp2_with (fail)
 (with_reducible refine (laws_toIntSS.calls k _ _ l0 r2 _ ?side1 ?side2 h2.out).mono ?_)
 (case side1 => exact cB HR0 HB); (case side2 => exact HC0.out)
 rintro e w18 ⟨v20, rfl, ho0, hb⟩
 replace HO8 := Aside0.mk (Kd.R_below (pR HO8) hb)
 replace HO11 := Aside0.mk (Kd.R_below (pR HO11) hb)
 have N18 := Aside0.mk (show w17.heap.size + 0 ≤ w18.heap.size from Nat.le_trans nL hb.size)
 replace HB := Aside0.mk (below_step (bB HB) hb)
 have HO20 := Aside0.mk (S_ivl (b0 := w17.heap.size) ho0 nL)
 clear hb ho0
 obtain ⟨Ao20, co20, eo20⟩ := Kd.S_slice HO20.out
 subst eo20
 go_wp2_with (fail)
 (with_reducible refine (laws_toIntS.calls k _ _ l2 r4 _ ?side1 ?side2 h3.out).mono ?_)
 (case side1 => exact cB HR2 HB); (case side2 => exact HC2.out)
 rintro e w19 ⟨v21, rfl, ho0, hb⟩
 replace HO8 := Aside0.mk (Kd.R_below (pR HO8) hb)
 replace HO11 := Aside0.mk (Kd.R_below (pR HO11) hb)
 replace HO20 := Aside0.mk (Kd.S_below (pS HO20) hb)
 have N19 := Aside0.mk (show w18.heap.size + 0 ≤ w19.heap.size from Nat.le_trans nL hb.size)
 replace HB := Aside0.mk (below_step (bB HB) hb)
 have HO21 := Aside0.mk (R_ivl (b0 := w18.heap.size) (Kd.R_tight rfl ho0) nL)
 clear hb ho0
 obtain ⟨Ao21, co21, eo21⟩ := Kd.R_slice HO21.out
 subst eo21
 go_wp2_with (fail)
 (with_reducible refine (impl_HalvingPlay.calls k _ _ r2 a1 _ _ r4 r6 r7 _ ?side1 ?side2 ?side3 ?side4 h5.out).mono ?_)
 (case side1 => exact cS HO20); (case side2 => exact (Kd.S_reads' HO20.out).2.1); (case side3 => exact cR HO21); (case side4 => exact (Kd.R_reads' HO21.out).2.1)
 rintro e w20 ⟨v22, rfl, ho0, hb⟩
 replace HO8 := Aside0.mk (Kd.R_below (pR HO8) hb)
 replace HO11 := Aside0.mk (Kd.R_below (pR HO11) hb)
 replace HO20 := Aside0.mk (Kd.S_below (pS HO20) hb)
 replace HO21 := Aside0.mk (Kd.R_below (pR HO21) hb)
 have N20 := Aside0.mk (show w19.heap.size + 0 ≤ w20.heap.size from Nat.le_trans nL hb.size)
 replace HB := Aside0.mk (below_step (bB HB) hb)
 have HO22 := Aside0.mk (R_ivl (b0 := w19.heap.size) (Kd.R_tight rfl ho0) nL)
 clear hb ho0
 obtain ⟨Ao22, co22, eo22⟩ := Kd.R_slice HO22.out
 subst eo22
 go_wp2_with (fail)
 (with_reducible refine (laws_eqIntS.calls k _ _ r6 _ _ r6 true _ ?side1 ?side2 ?side3 ?side4 h6.out).mono ?_)
 (case side1 => exact cR HO22); (case side2 => exact (Kd.R_reads' HO22.out).2.1); (case side3 => exact cR HO8); (case side4 => exact (Kd.R_reads' HO8.out).2.1)
 rintro e w21 ⟨rfl, hd⟩
 have hb := hd.below
 replace HO8 := Aside0.mk (Kd.R_below (pR HO8) hb)
 replace HO11 := Aside0.mk (Kd.R_below (pR HO11) hb)
 replace HO22 := Aside0.mk (Kd.R_below (pR HO22) hb)
 have N21 := Aside0.mk (show w20.heap.size + 0 ≤ w21.heap.size from Nat.le_trans nL hb.size)
 replace HB := Aside0.mk (below_step (bB HB) hb)
 clear hd hb
 go_wp2_with (fail)
 refine calls_of_args (args' := #[.slice Ao11 r19.length co11, .int .i64 1]) (by rw [(Kd.R_reads' HO11.out).1]) ?_
 (with_reducible refine (laws_heldIntS.calls k _ _ r19 1 r18 _ ?side1 ?side2 h12.out).mono ?_)
 (case side1 => exact cR HO11); (case side2 => have e_ := Kd.R_reads' HO11.out; rw [← e_.1]; exact e_.2.1)
 rintro e w22 ⟨rfl, hd⟩
 have hb := hd.below
 replace HO11 := Aside0.mk (Kd.R_below (pR HO11) hb)
 have N22 := Aside0.mk (show w21.heap.size + 0 ≤ w22.heap.size from Nat.le_trans nL hb.size)
 replace HB := Aside0.mk (below_step (bB HB) hb)
 clear hd hb
 go_wp2_with (fail)
 go_ret
 exact ⟨rfl, (bB HB)⟩

end Go.Proofs.Ytfkfahdikmfpeaa.GFnExactHalvingPlay
