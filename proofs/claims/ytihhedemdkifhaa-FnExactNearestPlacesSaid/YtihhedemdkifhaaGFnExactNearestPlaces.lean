import Derived.Test.YtihhedemdkifhaaPFnExactNearestPlacesx
import Derived.Test.YtihhedemdkifhaaKFnExactNearestPlaces
import Derived.Test.YtihhedemdkifhaaMc
import Derived.Test.YtihhedemdkifhaaSh
namespace Go.Proofs.Ytihhedemdkifhaa.GFnExactNearestPlaces
open Go.RowKit Go.Proofs.Ytihhedemdkifhaa.Sh Go.Proofs.Ytihhedemdkifhaa.KFnExactNearestPlaces Go.Proofs.Ytihhedemdkifhaa.Mc Go.Proofs.Ytihhedemdkifhaa.PFnExactNearestPlaces Go.Proofs.YtihhedemdkifhaaW.PrintWords Go.Proofs.YtihhedemdkifhaaW.PrintLast Go.Proofs.YtihhedemdkifhaaW.PrintMore
set_option linter.unusedVariables false
set_option linter.unusedSimpArgs false
set_option maxHeartbeats 8000000 in
set_option maxRecDepth 100000 in
theorem big0 (k : Nat) (A0_0 : Option Addr) (c0_0 : Nat) (l0_0 : List (List Int)) (A0_1 : Option Addr) (c0_1 : Nat) (l0_1 : List Int) (A1 : Option Addr) (c1 : Nat) (l1 : List Int) (a2 : Int)  (w : World) (hr0_0 : Kd.C (Kd.slice 3 (Kd.int .i64)) w A0_0 l0_0.length l0_0) (hc0_0 : l0_0.length ≤ c0_0) (hr0_1 : Kd.C (Kd.int .i64) w A0_1 l0_1.length l0_1) (hc0_1 : l0_1.length ≤ c0_1) (hr1 : Kd.C (Kd.int .i64) w A1 l1.length l1) (hc1 : l1.length ≤ c1)  (q0 : 1048576 < l1.length) :
 Calls Try.prog 8 #[.agg #[.slice A0_0 l0_0.length c0_0, .slice A0_1 l0_1.length c0_1], .slice A1 l1.length c1, .int .i64 a2] w fun e w' => e = .returned (.bool true) ∧ Below w.heap.size w w' := by
 have HR0_0 := Aside0.mk hr0_0
 have HC0_0 := Aside0.mk hc0_0
 clear hr0_0 hc0_0
 have HR0_1 := Aside0.mk hr0_1
 have HC0_1 := Aside0.mk hc0_1
 clear hr0_1 hc0_1
 have HR1 := Aside0.mk hr1
 have HC1 := Aside0.mk hc1
 clear hr1 hc1
 have HB := Aside0.mk (Below.refl w.heap.size w)
 have d0 : decide (1048576 < l1.length) = true := decide_eq_true (by omega)
 have e0 : decide ((l1.length : Int) > 1048576) = true := decide_eq_true (by omega)
 clear q0
 go_enter Try.func8, Try.ntmps8
 go_wp2_with (fail)
 go_ret
 exact ⟨rfl, (bB HB)⟩


set_option maxHeartbeats 8000000 in
set_option maxRecDepth 100000 in
theorem big1 (k : Nat) (A0_0 : Option Addr) (c0_0 : Nat) (l0_0 : List (List Int)) (A0_1 : Option Addr) (c0_1 : Nat) (l0_1 : List Int) (A1 : Option Addr) (c1 : Nat) (l1 : List Int) (a2 : Int) (r1 : Int) (w : World) (hr0_0 : Kd.C (Kd.slice 3 (Kd.int .i64)) w A0_0 l0_0.length l0_0) (hc0_0 : l0_0.length ≤ c0_0) (hr0_1 : Kd.C (Kd.int .i64) w A0_1 l0_1.length l0_1) (hc0_1 : l0_1.length ≤ c0_1) (hr1 : Kd.C (Kd.int .i64) w A1 l1.length l1) (hc1 : l1.length ≤ c1) (h1 : laws_szSample.f k l0_0 l0_1 1048576 = some r1) (q0 : l1.length ≤ 1048576) (q1 : r1 < 0) :
 Calls Try.prog 8 #[.agg #[.slice A0_0 l0_0.length c0_0, .slice A0_1 l0_1.length c0_1], .slice A1 l1.length c1, .int .i64 a2] w fun e w' => e = .returned (.bool true) ∧ Below w.heap.size w w' := by
 have HR0_0 := Aside0.mk hr0_0
 have HC0_0 := Aside0.mk hc0_0
 clear hr0_0 hc0_0
 have HR0_1 := Aside0.mk hr0_1
 have HC0_1 := Aside0.mk hc0_1
 clear hr0_1 hc0_1
 have HR1 := Aside0.mk hr1
 have HC1 := Aside0.mk hc1
 clear hr1 hc1
 have HB := Aside0.mk (Below.refl w.heap.size w)
 replace h1 := Aside0.mk h1
 have d0 : decide (1048576 < l1.length) = false := decide_eq_false (by omega)
 have e0 : decide ((l1.length : Int) > 1048576) = false := decide_eq_false (by omega)
 have d1 : decide (r1 < 0) = true := decide_eq_true (by omega)
 clear q0 q1
 go_enter Try.func8, Try.ntmps8
 go_wp2_with (fail)
 (with_reducible refine (laws_szSample.calls k _ _ l0_0 _ _ l0_1 1048576 r1 _ ?side1 ?side2 ?side3 ?side4 h1.out).mono ?_)
 (case side1 => exact cB HR0_0 HB); (case side2 => exact HC0_0.out); (case side3 => exact cB HR0_1 HB); (case side4 => exact HC0_1.out)
 rintro e w1 ⟨rfl, hb⟩
 have BK2 := Aside0.mk (blk_below (g := w.heap.size) (o := .cells #[.slice A0_0 l0_0.length c0_0, .slice A0_1 l0_1.length c0_1] 45 (0, 0)) (by repeat (first | exact blk_at _ (by first | rfl | (simp; done)) | refine blk_alloc ?_ _ | refine blk_drew ?_ | refine blk_drewN ?_ _)) hb)
 have N1 := Aside0.mk (show w.heap.size + 1 ≤ w1.heap.size from Nat.le_trans nL hb.size)
 replace HB := Aside0.mk (below_step (bB HB) hb)
 clear hb
 have hcz3 : w1.cell? ⟨w.heap.size, 0, none⟩ = some (.slice A0_0 l0_0.length c0_0) := (blk_cell BK2.out 0).trans rfl
 have hcz4 : w1.cell? ⟨w.heap.size, 1, none⟩ = some (.slice A0_1 l0_1.length c0_1) := (blk_cell BK2.out 1).trans rfl
 go_wp2_with (fail)
 go_ret
 exact ⟨rfl, (bB HB)⟩


set_option maxHeartbeats 8000000 in
set_option maxRecDepth 100000 in
theorem good (k : Nat) (A0_0 : Option Addr) (c0_0 : Nat) (l0_0 : List (List Int)) (A0_1 : Option Addr) (c0_1 : Nat) (l0_1 : List Int) (A1 : Option Addr) (c1 : Nat) (l1 : List Int) (a2 : Int) (r1 : Int) (r5 : List (List Int)) (r6 : List Int) (r9 : List Int) (r11 : List Int) (r12 : Bool) (r28 : Int) (r29 : List (List Int)) (r30 : List Int) (r31 : Int) (r32 : List Int) (r33 : Int) (r34 : List Int) (w : World) (hr0_0 : Kd.C (Kd.slice 3 (Kd.int .i64)) w A0_0 l0_0.length l0_0) (hc0_0 : l0_0.length ≤ c0_0) (hr0_1 : Kd.C (Kd.int .i64) w A0_1 l0_1.length l0_1) (hc0_1 : l0_1.length ≤ c0_1) (hr1 : Kd.C (Kd.int .i64) w A1 l1.length l1) (hc1 : l1.length ≤ c1) (h1 : laws_szSample.f k l0_0 l0_1 1048576 = some r1) (h2 : laws_toSample.f k l0_0 l0_1 = some (r5, r6)) (h3 : laws_toIntS.f k l1 = some r9) (h4 : spec_NearestPlaces.f k r5 r6 r9 a2 = some (r11, r12)) (h5 : impl_NearestPlaces.f k r5 r6 r9 a2 = some (r11, r12)) (h6 : laws_eqIntS.f k r11 r11 = some true) (h7 : laws_eqSample.f k r5 r6 r5 r6 = some true) (h8 : laws_eqIntS.f k r9 r9 = some true) (h9 : laws_markSample.f k r5 r6 1 = some (r28, r29, r30)) (h10 : laws_markIntS.f k r9 r28 = some (r31, r32)) (h11 : laws_markIntS.f k r11 1 = some (r33, r34)) (h12 : laws_heldIntS.f k r34 1 = some r33) (q0 : l1.length ≤ 1048576) (q1 : 0 ≤ r1) (q2 : 0 ≤ r28) (q3 : 0 ≤ r31) (q4 : 0 ≤ r33) :
 Calls Try.prog 8 #[.agg #[.slice A0_0 l0_0.length c0_0, .slice A0_1 l0_1.length c0_1], .slice A1 l1.length c1, .int .i64 a2] w fun e w' => e = .returned (.bool true) ∧ Below w.heap.size w w' := by
 have HR0_0 := Aside0.mk hr0_0
 have HC0_0 := Aside0.mk hc0_0
 clear hr0_0 hc0_0
 have HR0_1 := Aside0.mk hr0_1
 have HC0_1 := Aside0.mk hc0_1
 clear hr0_1 hc0_1
 have HR1 := Aside0.mk hr1
 have HC1 := Aside0.mk hc1
 clear hr1 hc1
 have HB := Aside0.mk (Below.refl w.heap.size w)
 replace h1 := Aside0.mk h1
 replace h2 := Aside0.mk h2
 replace h3 := Aside0.mk h3
 replace h4 := Aside0.mk h4
 replace h5 := Aside0.mk h5
 replace h6 := Aside0.mk h6
 replace h7 := Aside0.mk h7
 replace h8 := Aside0.mk h8
 replace h9 := Aside0.mk h9
 replace h10 := Aside0.mk h10
 replace h11 := Aside0.mk h11
 replace h12 := Aside0.mk h12
 have d0 : decide (1048576 < l1.length) = false := decide_eq_false (by omega)
 have e0 : decide ((l1.length : Int) > 1048576) = false := decide_eq_false (by omega)
 have d1 : decide (r1 < 0) = false := decide_eq_false (by omega)
 have d2 : decide (r28 < 0) = false := decide_eq_false (by omega)
 have d3 : decide (r31 < 0) = false := decide_eq_false (by omega)
 have d4 : decide (r33 < 0) = false := decide_eq_false (by omega)
 clear q0 q1 q2 q3 q4
 go_enter Try.func8, Try.ntmps8
 go_wp2_with (fail)
 (with_reducible refine (laws_szSample.calls k _ _ l0_0 _ _ l0_1 1048576 r1 _ ?side1 ?side2 ?side3 ?side4 h1.out).mono ?_)
 (case side1 => exact cB HR0_0 HB); (case side2 => exact HC0_0.out); (case side3 => exact cB HR0_1 HB); (case side4 => exact HC0_1.out)
 rintro e w1 ⟨rfl, hb⟩
 have BK2 := Aside0.mk (blk_below (g := w.heap.size) (o := .cells #[.slice A0_0 l0_0.length c0_0, .slice A0_1 l0_1.length c0_1] 45 (0, 0)) (by repeat (first | exact blk_at _ (by first | rfl | (simp; done)) | refine blk_alloc ?_ _ | refine blk_drew ?_ | refine blk_drewN ?_ _)) hb)
 have N1 := Aside0.mk (show w.heap.size + 1 ≤ w1.heap.size from Nat.le_trans nL hb.size)
 replace HB := Aside0.mk (below_step (bB HB) hb)
 clear hb
 have hcz3 : w1.cell? ⟨w.heap.size, 0, none⟩ = some (.slice A0_0 l0_0.length c0_0) := (blk_cell BK2.out 0).trans rfl
 have hcz4 : w1.cell? ⟨w.heap.size, 1, none⟩ = some (.slice A0_1 l0_1.length c0_1) := (blk_cell BK2.out 1).trans rfl
 go_wp2_with (fail)
 (with_reducible refine (laws_toSample.calls k _ _ l0_0 _ _ l0_1 r5 r6 _ ?side1 ?side2 ?side3 ?side4 h2.out).mono ?_)
 (case side1 => exact cB HR0_0 HB); (case side2 => exact HC0_0.out); (case side3 => exact cB HR0_1 HB); (case side4 => exact HC0_1.out)
 rintro e w2 ⟨v7, v8, rfl, ho0, ho1, hb⟩
 replace BK2 := Aside0.mk (blk_below (g := w.heap.size) (o := .cells #[.slice A0_0 l0_0.length c0_0, .slice A0_1 l0_1.length c0_1] 45 (0, 0)) (pB BK2) hb)
 have N2 := Aside0.mk (show w1.heap.size + 0 ≤ w2.heap.size from Nat.le_trans nL hb.size)
 replace HB := Aside0.mk (below_step (bB HB) hb)
 have HO7 := Aside0.mk (S_ivl (b0 := w1.heap.size) ho0 nL)
 have HO8 := Aside0.mk (R_ivl (b0 := w1.heap.size) (Kd.R_tight rfl ho1) nL)
 clear hb ho0 ho1
 obtain ⟨Ao7, co7, eo7⟩ := Kd.S_slice HO7.out
 subst eo7
 obtain ⟨Ao8, co8, eo8⟩ := Kd.R_slice HO8.out
 subst eo8
 clear hcz3 hcz4
 go_wp2_with (fail)
 (with_reducible refine (laws_toIntS.calls k _ _ l1 r9 _ ?side1 ?side2 h3.out).mono ?_)
 (case side1 => exact cB HR1 HB); (case side2 => exact HC1.out)
 rintro e w3 ⟨v10, rfl, ho0, hb⟩
 replace HO7 := Aside0.mk (Kd.S_below (pS HO7) hb)
 replace HO8 := Aside0.mk (Kd.R_below (pR HO8) hb)
 replace BK2 := Aside0.mk (blk_below (g := w.heap.size) (o := .cells #[.slice A0_0 l0_0.length c0_0, .slice A0_1 l0_1.length c0_1] 45 (0, 0)) (pB BK2) hb)
 have N3 := Aside0.mk (show w2.heap.size + 0 ≤ w3.heap.size from Nat.le_trans nL hb.size)
 replace HB := Aside0.mk (below_step (bB HB) hb)
 have HO10 := Aside0.mk (R_ivl (b0 := w2.heap.size) (Kd.R_tight rfl ho0) nL)
 clear hb ho0
 obtain ⟨Ao10, co10, eo10⟩ := Kd.R_slice HO10.out
 subst eo10
 go_wp2_with (fail)
 (with_reducible refine (spec_NearestPlaces.calls k _ _ r5 _ _ r6 _ _ r9 a2 r11 r12 _ ?side1 ?side2 ?side3 ?side4 ?side5 ?side6 h4.out).mono ?_)
 (case side1 => exact cS HO7); (case side2 => exact (Kd.S_reads' HO7.out).2.1); (case side3 => exact cR HO8); (case side4 => exact (Kd.R_reads' HO8.out).2.1); (case side5 => exact cR HO10); (case side6 => exact (Kd.R_reads' HO10.out).2.1)
 rintro e w4 ⟨v13, rfl, ho0, hb⟩
 replace HO7 := Aside0.mk (Kd.S_below (pS HO7) hb)
 replace HO8 := Aside0.mk (Kd.R_below (pR HO8) hb)
 replace HO10 := Aside0.mk (Kd.R_below (pR HO10) hb)
 replace BK2 := Aside0.mk (blk_below (g := w.heap.size) (o := .cells #[.slice A0_0 l0_0.length c0_0, .slice A0_1 l0_1.length c0_1] 45 (0, 0)) (pB BK2) hb)
 have N4 := Aside0.mk (show w3.heap.size + 0 ≤ w4.heap.size from Nat.le_trans nL hb.size)
 replace HB := Aside0.mk (below_step (bB HB) hb)
 have HO13 := Aside0.mk (R_ivl (b0 := w3.heap.size) (Kd.R_tight rfl ho0) nL)
 clear hb ho0
 obtain ⟨Ao13, co13, eo13⟩ := Kd.R_slice HO13.out
 subst eo13
 have hcz14 : w4.cell? ⟨w.heap.size, 0, none⟩ = some (.slice A0_0 l0_0.length c0_0) := (blk_cell BK2.out 0).trans rfl
 have hcz15 : w4.cell? ⟨w.heap.size, 1, none⟩ = some (.slice A0_1 l0_1.length c0_1) := (blk_cell BK2.out 1).trans rfl
 go_wp2_with (fail)
 (with_reducible refine (laws_toSample.calls k _ _ l0_0 _ _ l0_1 r5 r6 _ ?side1 ?side2 ?side3 ?side4 h2.out).mono ?_)
 (case side1 => exact cB HR0_0 HB); (case side2 => exact HC0_0.out); (case side3 => exact cB HR0_1 HB); (case side4 => exact HC0_1.out)
 rintro e w5 ⟨v16, v17, rfl, ho0, ho1, hb⟩
 replace HO13 := Aside0.mk (Kd.R_below (pR HO13) hb)
 replace BK2 := Aside0.mk (blk_below (g := w.heap.size) (o := .cells #[.slice A0_0 l0_0.length c0_0, .slice A0_1 l0_1.length c0_1] 45 (0, 0)) (pB BK2) hb)
 have N5 := Aside0.mk (show w4.heap.size + 0 ≤ w5.heap.size from Nat.le_trans nL hb.size)
 replace HB := Aside0.mk (below_step (bB HB) hb)
 have HO16 := Aside0.mk (S_ivl (b0 := w4.heap.size) ho0 nL)
 have HO17 := Aside0.mk (R_ivl (b0 := w4.heap.size) (Kd.R_tight rfl ho1) nL)
 clear hb ho0 ho1
 obtain ⟨Ao16, co16, eo16⟩ := Kd.S_slice HO16.out
 subst eo16
 obtain ⟨Ao17, co17, eo17⟩ := Kd.R_slice HO17.out
 subst eo17
 clear hcz14 hcz15
 go_wp2_with (fail)
 (with_reducible refine (laws_toIntS.calls k _ _ l1 r9 _ ?side1 ?side2 h3.out).mono ?_)
 (case side1 => exact cB HR1 HB); (case side2 => exact HC1.out)
 rintro e w6 ⟨v18, rfl, ho0, hb⟩
 replace HO13 := Aside0.mk (Kd.R_below (pR HO13) hb)
 replace HO16 := Aside0.mk (Kd.S_below (pS HO16) hb)
 replace HO17 := Aside0.mk (Kd.R_below (pR HO17) hb)
 replace BK2 := Aside0.mk (blk_below (g := w.heap.size) (o := .cells #[.slice A0_0 l0_0.length c0_0, .slice A0_1 l0_1.length c0_1] 45 (0, 0)) (pB BK2) hb)
 have BK19 := Aside0.mk (blk_below (g := w5.heap.size) (o := .cells #[.slice Ao16 r5.length co16, .slice Ao17 r6.length co17] 49 (0, 0)) (by repeat (first | exact blk_at _ (by first | rfl | (simp; done)) | refine blk_alloc ?_ _ | refine blk_drew ?_ | refine blk_drewN ?_ _)) hb)
 have N6 := Aside0.mk (show w5.heap.size + 1 ≤ w6.heap.size from Nat.le_trans nL hb.size)
 replace HB := Aside0.mk (below_step (bB HB) hb)
 have HO18 := Aside0.mk (R_ivl (b0 := (w5.heap.size + 1)) (Kd.R_tight rfl ho0) nL)
 clear hb ho0
 obtain ⟨Ao18, co18, eo18⟩ := Kd.R_slice HO18.out
 subst eo18
 have hcz20 : w6.cell? ⟨w5.heap.size, 0, none⟩ = some (.slice Ao16 r5.length co16) := (blk_cell BK19.out 0).trans rfl
 have hcz21 : w6.cell? ⟨w5.heap.size, 1, none⟩ = some (.slice Ao17 r6.length co17) := (blk_cell BK19.out 1).trans rfl
 go_wp2_with (fail)
 (with_reducible refine (impl_NearestPlaces.calls k _ _ r5 _ _ r6 _ _ r9 a2 r11 r12 _ ?side1 ?side2 ?side3 ?side4 ?side5 ?side6 h5.out).mono ?_)
 (case side1 => exact cS HO16); (case side2 => exact (Kd.S_reads' HO16.out).2.1); (case side3 => exact cR HO17); (case side4 => exact (Kd.R_reads' HO17.out).2.1); (case side5 => exact cR HO18); (case side6 => exact (Kd.R_reads' HO18.out).2.1)
 rintro e w7 ⟨v22, rfl, ho0, hb⟩
 replace HO13 := Aside0.mk (Kd.R_below (pR HO13) hb)
 replace HO16 := Aside0.mk (Kd.S_below (pS HO16) hb)
 replace HO17 := Aside0.mk (Kd.R_below (pR HO17) hb)
 replace HO18 := Aside0.mk (Kd.R_below (pR HO18) hb)
 replace BK2 := Aside0.mk (blk_below (g := w.heap.size) (o := .cells #[.slice A0_0 l0_0.length c0_0, .slice A0_1 l0_1.length c0_1] 45 (0, 0)) (pB BK2) hb)
 replace BK19 := Aside0.mk (blk_below (g := w5.heap.size) (o := .cells #[.slice Ao16 r5.length co16, .slice Ao17 r6.length co17] 49 (0, 0)) (pB BK19) hb)
 have N7 := Aside0.mk (show w6.heap.size + 0 ≤ w7.heap.size from Nat.le_trans nL hb.size)
 replace HB := Aside0.mk (below_step (bB HB) hb)
 have HO22 := Aside0.mk (R_ivl (b0 := w6.heap.size) (Kd.R_tight rfl ho0) nL)
 clear hb ho0
 obtain ⟨Ao22, co22, eo22⟩ := Kd.R_slice HO22.out
 subst eo22
 clear hcz20 hcz21
 go_wp2_with (fail)
 (with_reducible refine (laws_eqIntS.calls k _ _ r11 _ _ r11 true _ ?side1 ?side2 ?side3 ?side4 h6.out).mono ?_)
 (case side1 => exact cR HO22); (case side2 => exact (Kd.R_reads' HO22.out).2.1); (case side3 => exact cR HO13); (case side4 => exact (Kd.R_reads' HO13.out).2.1)
 rintro e w8 ⟨rfl, hd⟩
 have hb := hd.below
 replace HO13 := Aside0.mk (Kd.R_below (pR HO13) hb)
 replace HO16 := Aside0.mk (Kd.S_below (pS HO16) hb)
 replace HO17 := Aside0.mk (Kd.R_below (pR HO17) hb)
 replace HO18 := Aside0.mk (Kd.R_below (pR HO18) hb)
 replace HO22 := Aside0.mk (Kd.R_below (pR HO22) hb)
 replace BK2 := Aside0.mk (blk_below (g := w.heap.size) (o := .cells #[.slice A0_0 l0_0.length c0_0, .slice A0_1 l0_1.length c0_1] 45 (0, 0)) (pB BK2) hb)
 replace BK19 := Aside0.mk (blk_below (g := w5.heap.size) (o := .cells #[.slice Ao16 r5.length co16, .slice Ao17 r6.length co17] 49 (0, 0)) (pB BK19) hb)
 have N8 := Aside0.mk (show w7.heap.size + 0 ≤ w8.heap.size from Nat.le_trans nL hb.size)
 replace HB := Aside0.mk (below_step (bB HB) hb)
 clear hd hb
 go_wp2_with (fail)
 replace HO13 := Aside0.mk (Kd.R_drew HO13.out)
 replace HO16 := Aside0.mk (Kd.S_drew HO16.out)
 replace HO17 := Aside0.mk (Kd.R_drew HO17.out)
 replace HO18 := Aside0.mk (Kd.R_drew HO18.out)
 replace HO22 := Aside0.mk (Kd.R_drew HO22.out)
 replace BK2 := Aside0.mk (blk_drew BK2.out)
 replace BK19 := Aside0.mk (blk_drew BK19.out)
 replace HB := Aside0.mk (below_drew1 HB.out)
 refine start_ (n := 5) (S := fun w' => w'.cell? ⟨w5.heap.size, 0, none⟩ = some (.slice Ao16 r5.length co16) ∧ w'.cell? ⟨w5.heap.size, 1, none⟩ = some (.slice Ao17 r6.length co17) ∧ w'.cell? ⟨w.heap.size, 0, none⟩ = some (.slice A0_0 l0_0.length c0_0) ∧ w'.cell? ⟨w.heap.size, 1, none⟩ = some (.slice A0_1 l0_1.length c0_1)) (ds := []) #[false, false, false, false, false] (by kernel_rfl) rfl rfl ⟨(blk_cell BK19.out 0).trans rfl, (blk_cell BK19.out 1).trans rfl, (blk_cell BK2.out 0).trans rfl, (blk_cell BK2.out 1).trans rfl⟩ (fun hHeld => ?_)
 have N9 := Aside0.mk (show w8.heap.size ≤ w8.drew.heap.size from Nat.le_refl _)
 generalize w8.drew = w9 at HB HO13 HO16 HO17 HO18 HO22 BK2 BK19 N9 hHeld ⊢
 refine take_ (i := 0) (N := some 56) (v := ?_) (a' := ?_) #[true, false, false, false, false] rfl rfl (by kernel_rfl) (fun _ _ _ h => h) (Or.inl ⟨by rfl, ?_⟩) hHeld ?_ ?_
 rotate_left
 · rintro w' ⟨s0, s1, s2, s3⟩
   go_simp
   with_reducible rfl
 rotate_left
 · exact aP
 refine take_ (i := 1) (N := some 57) (v := ?_) (a' := ?_) #[true, true, false, false, false] rfl rfl (by kernel_rfl) (fun _ _ _ h => h) (Or.inl ⟨by rfl, ?_⟩) hHeld ?_ ?_
 rotate_left
 · rintro w' ⟨s0, s1, s2, s3⟩
   go_simp
   with_reducible rfl
 rotate_left
 · exact aP
 refine one_ (i := 2) (N := some 58) #[true, true, true, false, false] rfl rfl (by kernel_rfl) (by decide) (fun K hK => ?_)
 refine goes_ Try.func31 (by kernel_rfl) rfl #[.agg #[.slice A0_0 l0_0.length c0_0, .slice A0_1 l0_1.length c0_1]] (by rfl) rfl rfl aT ?_
 (with_reducible refine (laws_toSample.calls k _ _ l0_0 _ _ l0_1 r5 r6 _ ?side1 ?side2 ?side3 ?side4 h2.out).mono ?_)
 (case side1 => exact cB HR0_0 HB); (case side2 => exact HC0_0.out); (case side3 => exact cB HR0_1 HB); (case side4 => exact HC0_1.out)
 rintro e w10 ⟨v23, v24, rfl, ho0, ho1, hb⟩; refine ⟨_, rfl, ?_⟩
 replace HO13 := Aside0.mk (Kd.R_below (pR HO13) hb)
 replace HO16 := Aside0.mk (Kd.S_below (pS HO16) hb)
 replace HO17 := Aside0.mk (Kd.R_below (pR HO17) hb)
 replace HO18 := Aside0.mk (Kd.R_below (pR HO18) hb)
 replace HO22 := Aside0.mk (Kd.R_below (pR HO22) hb)
 replace BK2 := Aside0.mk (blk_below (g := w.heap.size) (o := .cells #[.slice A0_0 l0_0.length c0_0, .slice A0_1 l0_1.length c0_1] 45 (0, 0)) (pB BK2) hb)
 replace BK19 := Aside0.mk (blk_below (g := w5.heap.size) (o := .cells #[.slice Ao16 r5.length co16, .slice Ao17 r6.length co17] 49 (0, 0)) (pB BK19) hb)
 have N10 := Aside0.mk (show w9.heap.size + 0 ≤ w10.heap.size from Nat.le_trans nL hb.size)
 replace HB := Aside0.mk (below_step (bB HB) hb)
 have HO23 := Aside0.mk (S_ivl (b0 := w9.heap.size) ho0 nL)
 have HO24 := Aside0.mk (R_ivl (b0 := w9.heap.size) (Kd.R_tight rfl ho1) nL)
 clear hb ho0 ho1
 obtain ⟨Ao23, co23, eo23⟩ := Kd.S_slice HO23.out
 subst eo23
 obtain ⟨Ao24, co24, eo24⟩ := Kd.R_slice HO24.out
 subst eo24
 refine hK.out _ _ ⟨(blk_cell BK19.out 0).trans rfl, (blk_cell BK19.out 1).trans rfl, (blk_cell BK2.out 0).trans rfl, (blk_cell BK2.out 1).trans rfl⟩ (fun hHeld => ?_)
 clear hK K
 refine norm_ (a' := ?_) ?_ ?_
 rotate_left
 · show Act.put _ (some 58) _ = _
   simp only [Act.put, List.setIfInBounds_toArray, List.set_cons_zero, List.set_cons_succ, i64_w, i32_w]
   rfl
 refine one_ (i := 3) (N := some 59) #[true, true, true, true, false] rfl rfl (by kernel_rfl) (by decide) (fun K hK => ?_)
 refine goes_ Try.func33 (by kernel_rfl) rfl #[.agg #[.slice Ao16 r5.length co16, .slice Ao17 r6.length co17], .agg #[.slice Ao23 r5.length co23, .slice Ao24 r6.length co24]] (by rfl) rfl rfl aT ?_
 (with_reducible refine (laws_eqSample.calls k _ _ r5 _ _ r6 _ _ r5 _ _ r6 true _ ?side1 ?side2 ?side3 ?side4 ?side5 ?side6 ?side7 ?side8 h7.out).mono ?_)
 (case side1 => exact cS HO16); (case side2 => exact (Kd.S_reads' HO16.out).2.1); (case side3 => exact cR HO17); (case side4 => exact (Kd.R_reads' HO17.out).2.1); (case side5 => exact cS HO23); (case side6 => exact (Kd.S_reads' HO23.out).2.1); (case side7 => exact cR HO24); (case side8 => exact (Kd.R_reads' HO24.out).2.1)
 rintro e w11 ⟨rfl, hb⟩; refine ⟨_, rfl, ?_⟩
 replace HO13 := Aside0.mk (Kd.R_below (pR HO13) hb)
 replace HO16 := Aside0.mk (Kd.S_below (pS HO16) hb)
 replace HO17 := Aside0.mk (Kd.R_below (pR HO17) hb)
 replace HO18 := Aside0.mk (Kd.R_below (pR HO18) hb)
 replace HO22 := Aside0.mk (Kd.R_below (pR HO22) hb)
 replace HO23 := Aside0.mk (Kd.S_below (pS HO23) hb)
 replace HO24 := Aside0.mk (Kd.R_below (pR HO24) hb)
 replace BK2 := Aside0.mk (blk_below (g := w.heap.size) (o := .cells #[.slice A0_0 l0_0.length c0_0, .slice A0_1 l0_1.length c0_1] 45 (0, 0)) (pB BK2) hb)
 replace BK19 := Aside0.mk (blk_below (g := w5.heap.size) (o := .cells #[.slice Ao16 r5.length co16, .slice Ao17 r6.length co17] 49 (0, 0)) (pB BK19) hb)
 have N11 := Aside0.mk (show w10.heap.size + 0 ≤ w11.heap.size from Nat.le_trans nL hb.size)
 replace HB := Aside0.mk (below_step (bB HB) hb)
 clear hb
 refine hK.out _ _ ⟨(blk_cell BK19.out 0).trans rfl, (blk_cell BK19.out 1).trans rfl, (blk_cell BK2.out 0).trans rfl, (blk_cell BK2.out 1).trans rfl⟩ (fun hHeld => ?_)
 clear hK K
 refine norm_ (a' := ?_) ?_ ?_
 rotate_left
 · show Act.put _ (some 59) _ = _
   simp only [Act.put, List.setIfInBounds_toArray, List.set_cons_zero, List.set_cons_succ, i64_w, i32_w]
   rfl
 refine pure_ (i := 4) (N := some 60) (v := ?_) (a' := ?_) #[true, true, true, true, true] rfl rfl (by kernel_rfl) (fun _ _ _ h => h) (Or.inl ⟨by rfl, ?_⟩) ?_ ?_
 rotate_left
 · intro w'
   go_simp
   with_reducible rfl
 rotate_left
 · exact aP
 refine done_ (by kernel_rfl) ?_
 go_wp2_with (fail)
 (with_reducible refine (laws_toIntS.calls k _ _ l1 r9 _ ?side1 ?side2 h3.out).mono ?_)
 (case side1 => exact cB HR1 HB); (case side2 => exact HC1.out)
 rintro e w12 ⟨v25, rfl, ho0, hb⟩
 replace HO13 := Aside0.mk (Kd.R_below (pR HO13) hb)
 replace HO16 := Aside0.mk (Kd.S_below (pS HO16) hb)
 replace HO17 := Aside0.mk (Kd.R_below (pR HO17) hb)
 replace HO18 := Aside0.mk (Kd.R_below (pR HO18) hb)
 replace HO22 := Aside0.mk (Kd.R_below (pR HO22) hb)
 replace BK2 := Aside0.mk (blk_below (g := w.heap.size) (o := .cells #[.slice A0_0 l0_0.length c0_0, .slice A0_1 l0_1.length c0_1] 45 (0, 0)) (pB BK2) hb)
 replace BK19 := Aside0.mk (blk_below (g := w5.heap.size) (o := .cells #[.slice Ao16 r5.length co16, .slice Ao17 r6.length co17] 49 (0, 0)) (pB BK19) hb)
 have N12 := Aside0.mk (show w11.heap.size + 0 ≤ w12.heap.size from Nat.le_trans nL hb.size)
 replace HB := Aside0.mk (below_step (bB HB) hb)
 have HO25 := Aside0.mk (R_ivl (b0 := w11.heap.size) (Kd.R_tight rfl ho0) nL)
 clear hb ho0
 obtain ⟨Ao25, co25, eo25⟩ := Kd.R_slice HO25.out
 subst eo25
 go_wp2_with (fail)
 (with_reducible refine (laws_eqIntS.calls k _ _ r9 _ _ r9 true _ ?side1 ?side2 ?side3 ?side4 h8.out).mono ?_)
 (case side1 => exact cR HO18); (case side2 => exact (Kd.R_reads' HO18.out).2.1); (case side3 => exact cR HO25); (case side4 => exact (Kd.R_reads' HO25.out).2.1)
 rintro e w13 ⟨rfl, hd⟩
 have hb := hd.below
 replace HO13 := Aside0.mk (Kd.R_below (pR HO13) hb)
 replace HO16 := Aside0.mk (Kd.S_below (pS HO16) hb)
 replace HO17 := Aside0.mk (Kd.R_below (pR HO17) hb)
 replace HO18 := Aside0.mk (Kd.R_below (pR HO18) hb)
 replace HO22 := Aside0.mk (Kd.R_below (pR HO22) hb)
 replace HO25 := Aside0.mk (Kd.R_below (pR HO25) hb)
 replace BK2 := Aside0.mk (blk_below (g := w.heap.size) (o := .cells #[.slice A0_0 l0_0.length c0_0, .slice A0_1 l0_1.length c0_1] 45 (0, 0)) (pB BK2) hb)
 replace BK19 := Aside0.mk (blk_below (g := w5.heap.size) (o := .cells #[.slice Ao16 r5.length co16, .slice Ao17 r6.length co17] 49 (0, 0)) (pB BK19) hb)
 have N13 := Aside0.mk (show w12.heap.size + 0 ≤ w13.heap.size from Nat.le_trans nL hb.size)
 replace HB := Aside0.mk (below_step (bB HB) hb)
 clear hd hb
 have hcz26 : w13.cell? ⟨w5.heap.size, 0, none⟩ = some (.slice Ao16 r5.length co16) := (blk_cell BK19.out 0).trans rfl
 have hcz27 : w13.cell? ⟨w5.heap.size, 1, none⟩ = some (.slice Ao17 r6.length co17) := (blk_cell BK19.out 1).trans rfl
 go_wp2_with (fail)
 (with_reducible refine (laws_markSample.calls k (fun k_ => some k_ ≠ (.slice Ao17 r6.length co17 : Value).ownBlock ∧ w4.heap.size ≤ k_ ∧ k_ < w5.heap.size) (.slice Ao16 r5.length co16) r5 (fun k_ => some k_ = (.slice Ao17 r6.length co17 : Value).ownBlock ∧ w4.heap.size ≤ k_ ∧ k_ < w5.heap.size) (.slice Ao17 r6.length co17) r6 1 r28 r29 r30 w _ ?side1 ?side2 ?side3 ?side4 h9.out).mono ?_)
 (case side1 => exact bB HB); (case side2 => refine Kd.S_lower (pS HO16) ?_; have := N1.out; have := N2.out; have := N3.out; have := N4.out; omega); (case side3 => refine Kd.R_lower (pR HO17) ?_; have := N1.out; have := N2.out; have := N3.out; have := N4.out; omega); (case side4 => exact fun k_ p_ q_ => p_.1 (q_.1 : _))
 rintro e w14 ⟨rfl, ho0, ho1, hB1, hK1⟩
 replace HO13 := Aside0.mk (Kd.R_step (pR HO13) (fun k_ (ho_ : some k_ = (.slice Ao13 r11.length co13 : Value).ownBlock ∧ w3.heap.size ≤ k_ ∧ k_ < w4.heap.size) hl_ => hK1.2 k_ hl_ (fun (hs_ : (some k_ ≠ (.slice Ao17 r6.length co17 : Value).ownBlock ∧ w4.heap.size ≤ k_ ∧ k_ < w5.heap.size) ∨ (some k_ = (.slice Ao17 r6.length co17 : Value).ownBlock ∧ w4.heap.size ≤ k_ ∧ k_ < w5.heap.size)) => by have ha_ := ho_.2; have hb_ := (hs_.imp (fun y_ => y_.2) (fun y_ => y_.2)); have := N1.out; have := N2.out; have := N3.out; have := N4.out; have := N5.out; have := N6.out; have := N7.out; have := N8.out; have := N9.out; have := N10.out; have := N11.out; have := N12.out; have := N13.out; first | omega | exact hs_.1 ho_.1 | exact ho_.1 hs_.1 | (rcases ho_ with h1_ | h1_ <;> first | exact h1_.1 hs_.1 | exact hs_.1 h1_.1 | omega) | (rcases hs_ with h2_ | h2_ <;> first | exact h2_.1 ho_.1 | exact ho_.1 h2_.1 | omega) | (rcases ho_ with h1_ | h1_ <;> rcases hs_ with h2_ | h2_ <;> first | exact h1_.1 h2_.1 | exact h2_.1 h1_.1 | omega))))
 replace HO18 := Aside0.mk (Kd.R_step (pR HO18) (fun k_ (ho_ : some k_ = (.slice Ao18 r9.length co18 : Value).ownBlock ∧ (w5.heap.size + 1) ≤ k_ ∧ k_ < w6.heap.size) hl_ => hK1.2 k_ hl_ (fun (hs_ : (some k_ ≠ (.slice Ao17 r6.length co17 : Value).ownBlock ∧ w4.heap.size ≤ k_ ∧ k_ < w5.heap.size) ∨ (some k_ = (.slice Ao17 r6.length co17 : Value).ownBlock ∧ w4.heap.size ≤ k_ ∧ k_ < w5.heap.size)) => by have ha_ := ho_.2; have hb_ := (hs_.imp (fun y_ => y_.2) (fun y_ => y_.2)); have := N1.out; have := N2.out; have := N3.out; have := N4.out; have := N5.out; have := N6.out; have := N7.out; have := N8.out; have := N9.out; have := N10.out; have := N11.out; have := N12.out; have := N13.out; first | omega | exact hs_.1 ho_.1 | exact ho_.1 hs_.1 | (rcases ho_ with h1_ | h1_ <;> first | exact h1_.1 hs_.1 | exact hs_.1 h1_.1 | omega) | (rcases hs_ with h2_ | h2_ <;> first | exact h2_.1 ho_.1 | exact ho_.1 h2_.1 | omega) | (rcases ho_ with h1_ | h1_ <;> rcases hs_ with h2_ | h2_ <;> first | exact h1_.1 h2_.1 | exact h2_.1 h1_.1 | omega))))
 replace HO22 := Aside0.mk (Kd.R_step (pR HO22) (fun k_ (ho_ : some k_ = (.slice Ao22 r11.length co22 : Value).ownBlock ∧ w6.heap.size ≤ k_ ∧ k_ < w7.heap.size) hl_ => hK1.2 k_ hl_ (fun (hs_ : (some k_ ≠ (.slice Ao17 r6.length co17 : Value).ownBlock ∧ w4.heap.size ≤ k_ ∧ k_ < w5.heap.size) ∨ (some k_ = (.slice Ao17 r6.length co17 : Value).ownBlock ∧ w4.heap.size ≤ k_ ∧ k_ < w5.heap.size)) => by have ha_ := ho_.2; have hb_ := (hs_.imp (fun y_ => y_.2) (fun y_ => y_.2)); have := N1.out; have := N2.out; have := N3.out; have := N4.out; have := N5.out; have := N6.out; have := N7.out; have := N8.out; have := N9.out; have := N10.out; have := N11.out; have := N12.out; have := N13.out; first | omega | exact hs_.1 ho_.1 | exact ho_.1 hs_.1 | (rcases ho_ with h1_ | h1_ <;> first | exact h1_.1 hs_.1 | exact hs_.1 h1_.1 | omega) | (rcases hs_ with h2_ | h2_ <;> first | exact h2_.1 ho_.1 | exact ho_.1 h2_.1 | omega) | (rcases ho_ with h1_ | h1_ <;> rcases hs_ with h2_ | h2_ <;> first | exact h1_.1 h2_.1 | exact h2_.1 h1_.1 | omega))))
 replace BK2 := Aside0.mk (blk_kept (pB BK2) hK1 (fun hs_ => by have hs2_ : (some (w.heap.size) ≠ (.slice Ao17 r6.length co17 : Value).ownBlock ∧ w4.heap.size ≤ (w.heap.size) ∧ (w.heap.size) < w5.heap.size) ∨ (some (w.heap.size) = (.slice Ao17 r6.length co17 : Value).ownBlock ∧ w4.heap.size ≤ (w.heap.size) ∧ (w.heap.size) < w5.heap.size) := hs_; have hb_ := (hs2_.imp (fun y_ => y_.2) (fun y_ => y_.2)); have := N1.out; have := N2.out; have := N3.out; have := N4.out; have := N5.out; have := N6.out; have := N7.out; have := N8.out; have := N9.out; have := N10.out; have := N11.out; have := N12.out; have := N13.out; omega))
 replace BK19 := Aside0.mk (blk_kept (pB BK19) hK1 (fun hs_ => by have hs2_ : (some (w5.heap.size) ≠ (.slice Ao17 r6.length co17 : Value).ownBlock ∧ w4.heap.size ≤ (w5.heap.size) ∧ (w5.heap.size) < w5.heap.size) ∨ (some (w5.heap.size) = (.slice Ao17 r6.length co17 : Value).ownBlock ∧ w4.heap.size ≤ (w5.heap.size) ∧ (w5.heap.size) < w5.heap.size) := hs_; have hb_ := (hs2_.imp (fun y_ => y_.2) (fun y_ => y_.2)); have := N1.out; have := N2.out; have := N3.out; have := N4.out; have := N5.out; have := N6.out; have := N7.out; have := N8.out; have := N9.out; have := N10.out; have := N11.out; have := N12.out; have := N13.out; omega))
 have N14 := Aside0.mk (show w13.heap.size ≤ w14.heap.size from Nat.le_trans nL hK1.1)
 replace HB := Aside0.mk hB1
 replace HO16 := Aside0.mk (Kd.S_mono (ok' := fun k_ => (some k_ ≠ (.slice Ao17 r6.length co17 : Value).ownBlock ∧ w4.heap.size ≤ k_ ∧ k_ < w5.heap.size) ∨ w13.heap.size ≤ k_) ho0 (fun k_ h_ => h_.imp id (fun z_ => Nat.le_trans nL z_)))
 replace HO17 := Aside0.mk (Kd.R_mono (ok' := fun k_ => (some k_ = (.slice Ao17 r6.length co17 : Value).ownBlock ∧ w4.heap.size ≤ k_ ∧ k_ < w5.heap.size) ∨ w13.heap.size ≤ k_) ho1 (fun k_ h_ => h_.imp id (fun z_ => Nat.le_trans nL z_)))
 clear hK1 ho0 ho1 hB1
 clear hcz26 hcz27
 go_wp2_with (fail)
 (with_reducible refine (laws_markIntS.calls k (fun k_ => some k_ = (.slice Ao18 r9.length co18 : Value).ownBlock ∧ (w5.heap.size + 1) ≤ k_ ∧ k_ < w6.heap.size) (.slice Ao18 r9.length co18) r9 r28 r31 r32 w _ ?side1 ?side2 h10.out).mono ?_)
 (case side1 => exact bB HB); (case side2 => refine Kd.R_lower (pR HO18) ?_; have := N1.out; have := N2.out; have := N3.out; have := N4.out; have := N5.out; omega)
 rintro e w15 ⟨rfl, ho0, hB1, hK1⟩
 replace HO13 := Aside0.mk (Kd.R_step (pR HO13) (fun k_ (ho_ : some k_ = (.slice Ao13 r11.length co13 : Value).ownBlock ∧ w3.heap.size ≤ k_ ∧ k_ < w4.heap.size) hl_ => hK1.2 k_ hl_ (fun (hs_ : (some k_ = (.slice Ao18 r9.length co18 : Value).ownBlock ∧ (w5.heap.size + 1) ≤ k_ ∧ k_ < w6.heap.size)) => by have ha_ := ho_.2; have hb_ := hs_.2; have := N1.out; have := N2.out; have := N3.out; have := N4.out; have := N5.out; have := N6.out; have := N7.out; have := N8.out; have := N9.out; have := N10.out; have := N11.out; have := N12.out; have := N13.out; have := N14.out; first | omega | exact hs_.1 ho_.1 | exact ho_.1 hs_.1 | (rcases ho_ with h1_ | h1_ <;> first | exact h1_.1 hs_.1 | exact hs_.1 h1_.1 | omega) | (rcases hs_ with h2_ | h2_ <;> first | exact h2_.1 ho_.1 | exact ho_.1 h2_.1 | omega) | (rcases ho_ with h1_ | h1_ <;> rcases hs_ with h2_ | h2_ <;> first | exact h1_.1 h2_.1 | exact h2_.1 h1_.1 | omega))))
 replace HO22 := Aside0.mk (Kd.R_step (pR HO22) (fun k_ (ho_ : some k_ = (.slice Ao22 r11.length co22 : Value).ownBlock ∧ w6.heap.size ≤ k_ ∧ k_ < w7.heap.size) hl_ => hK1.2 k_ hl_ (fun (hs_ : (some k_ = (.slice Ao18 r9.length co18 : Value).ownBlock ∧ (w5.heap.size + 1) ≤ k_ ∧ k_ < w6.heap.size)) => by have ha_ := ho_.2; have hb_ := hs_.2; have := N1.out; have := N2.out; have := N3.out; have := N4.out; have := N5.out; have := N6.out; have := N7.out; have := N8.out; have := N9.out; have := N10.out; have := N11.out; have := N12.out; have := N13.out; have := N14.out; first | omega | exact hs_.1 ho_.1 | exact ho_.1 hs_.1 | (rcases ho_ with h1_ | h1_ <;> first | exact h1_.1 hs_.1 | exact hs_.1 h1_.1 | omega) | (rcases hs_ with h2_ | h2_ <;> first | exact h2_.1 ho_.1 | exact ho_.1 h2_.1 | omega) | (rcases ho_ with h1_ | h1_ <;> rcases hs_ with h2_ | h2_ <;> first | exact h1_.1 h2_.1 | exact h2_.1 h1_.1 | omega))))
 replace BK2 := Aside0.mk (blk_kept (pB BK2) hK1 (fun hs_ => by have hs2_ : (some (w.heap.size) = (.slice Ao18 r9.length co18 : Value).ownBlock ∧ (w5.heap.size + 1) ≤ (w.heap.size) ∧ (w.heap.size) < w6.heap.size) := hs_; have hb_ := hs2_.2; have := N1.out; have := N2.out; have := N3.out; have := N4.out; have := N5.out; have := N6.out; have := N7.out; have := N8.out; have := N9.out; have := N10.out; have := N11.out; have := N12.out; have := N13.out; have := N14.out; omega))
 replace BK19 := Aside0.mk (blk_kept (pB BK19) hK1 (fun hs_ => by have hs2_ : (some (w5.heap.size) = (.slice Ao18 r9.length co18 : Value).ownBlock ∧ (w5.heap.size + 1) ≤ (w5.heap.size) ∧ (w5.heap.size) < w6.heap.size) := hs_; have hb_ := hs2_.2; have := N1.out; have := N2.out; have := N3.out; have := N4.out; have := N5.out; have := N6.out; have := N7.out; have := N8.out; have := N9.out; have := N10.out; have := N11.out; have := N12.out; have := N13.out; have := N14.out; omega))
 have N15 := Aside0.mk (show w14.heap.size ≤ w15.heap.size from Nat.le_trans nL hK1.1)
 replace HB := Aside0.mk hB1
 replace HO18 := Aside0.mk (Kd.R_mono (ok' := fun k_ => (some k_ = (.slice Ao18 r9.length co18 : Value).ownBlock ∧ (w5.heap.size + 1) ≤ k_ ∧ k_ < w6.heap.size) ∨ w14.heap.size ≤ k_) ho0 (fun k_ h_ => h_.imp id (fun z_ => Nat.le_trans nL z_)))
 clear hK1 ho0 hB1
 go_wp2_with (fail)
 (with_reducible refine (laws_eqIntS.calls k _ _ r11 _ _ r11 true _ ?side1 ?side2 ?side3 ?side4 h6.out).mono ?_)
 (case side1 => exact cR HO22); (case side2 => exact (Kd.R_reads' HO22.out).2.1); (case side3 => exact cR HO13); (case side4 => exact (Kd.R_reads' HO13.out).2.1)
 rintro e w16 ⟨rfl, hd⟩
 have hb := hd.below
 replace HO13 := Aside0.mk (Kd.R_below (pR HO13) hb)
 replace HO22 := Aside0.mk (Kd.R_below (pR HO22) hb)
 replace BK2 := Aside0.mk (blk_below (g := w.heap.size) (o := .cells #[.slice A0_0 l0_0.length c0_0, .slice A0_1 l0_1.length c0_1] 45 (0, 0)) (pB BK2) hb)
 replace BK19 := Aside0.mk (blk_below (g := w5.heap.size) (o := .cells #[.slice Ao16 r5.length co16, .slice Ao17 r6.length co17] 49 (0, 0)) (pB BK19) hb)
 have N16 := Aside0.mk (show w15.heap.size + 0 ≤ w16.heap.size from Nat.le_trans nL hb.size)
 replace HB := Aside0.mk (below_step (bB HB) hb)
 clear hd hb
 go_wp2_with (fail)
 (with_reducible refine (laws_markIntS.calls k (fun k_ => some k_ = (.slice Ao22 r11.length co22 : Value).ownBlock ∧ w6.heap.size ≤ k_ ∧ k_ < w7.heap.size) (.slice Ao22 r11.length co22) r11 1 r33 r34 w _ ?side1 ?side2 h11.out).mono ?_)
 (case side1 => exact bB HB); (case side2 => refine Kd.R_lower (pR HO22) ?_; have := N1.out; have := N2.out; have := N3.out; have := N4.out; have := N5.out; have := N6.out; omega)
 rintro e w17 ⟨rfl, ho0, hB1, hK1⟩
 replace HO13 := Aside0.mk (Kd.R_step (pR HO13) (fun k_ (ho_ : some k_ = (.slice Ao13 r11.length co13 : Value).ownBlock ∧ w3.heap.size ≤ k_ ∧ k_ < w4.heap.size) hl_ => hK1.2 k_ hl_ (fun (hs_ : (some k_ = (.slice Ao22 r11.length co22 : Value).ownBlock ∧ w6.heap.size ≤ k_ ∧ k_ < w7.heap.size)) => by have ha_ := ho_.2; have hb_ := hs_.2; have := N1.out; have := N2.out; have := N3.out; have := N4.out; have := N5.out; have := N6.out; have := N7.out; have := N8.out; have := N9.out; have := N10.out; have := N11.out; have := N12.out; have := N13.out; have := N14.out; have := N15.out; have := N16.out; first | omega | exact hs_.1 ho_.1 | exact ho_.1 hs_.1 | (rcases ho_ with h1_ | h1_ <;> first | exact h1_.1 hs_.1 | exact hs_.1 h1_.1 | omega) | (rcases hs_ with h2_ | h2_ <;> first | exact h2_.1 ho_.1 | exact ho_.1 h2_.1 | omega) | (rcases ho_ with h1_ | h1_ <;> rcases hs_ with h2_ | h2_ <;> first | exact h1_.1 h2_.1 | exact h2_.1 h1_.1 | omega))))
 replace BK2 := Aside0.mk (blk_kept (pB BK2) hK1 (fun hs_ => by have hs2_ : (some (w.heap.size) = (.slice Ao22 r11.length co22 : Value).ownBlock ∧ w6.heap.size ≤ (w.heap.size) ∧ (w.heap.size) < w7.heap.size) := hs_; have hb_ := hs2_.2; have := N1.out; have := N2.out; have := N3.out; have := N4.out; have := N5.out; have := N6.out; have := N7.out; have := N8.out; have := N9.out; have := N10.out; have := N11.out; have := N12.out; have := N13.out; have := N14.out; have := N15.out; have := N16.out; omega))
 replace BK19 := Aside0.mk (blk_kept (pB BK19) hK1 (fun hs_ => by have hs2_ : (some (w5.heap.size) = (.slice Ao22 r11.length co22 : Value).ownBlock ∧ w6.heap.size ≤ (w5.heap.size) ∧ (w5.heap.size) < w7.heap.size) := hs_; have hb_ := hs2_.2; have := N1.out; have := N2.out; have := N3.out; have := N4.out; have := N5.out; have := N6.out; have := N7.out; have := N8.out; have := N9.out; have := N10.out; have := N11.out; have := N12.out; have := N13.out; have := N14.out; have := N15.out; have := N16.out; omega))
 have N17 := Aside0.mk (show w16.heap.size ≤ w17.heap.size from Nat.le_trans nL hK1.1)
 replace HB := Aside0.mk hB1
 replace HO22 := Aside0.mk (Kd.R_mono (ok' := fun k_ => (some k_ = (.slice Ao22 r11.length co22 : Value).ownBlock ∧ w6.heap.size ≤ k_ ∧ k_ < w7.heap.size) ∨ w16.heap.size ≤ k_) ho0 (fun k_ h_ => h_.imp id (fun z_ => Nat.le_trans nL z_)))
 clear hK1 ho0 hB1
 go_wp2_with (fail)
 refine calls_of_args (args' := #[.slice Ao22 r34.length co22, .int .i64 1]) (by rw [(Kd.R_reads' HO22.out).1]) ?_
 (with_reducible refine (laws_heldIntS.calls k _ _ r34 1 r33 _ ?side1 ?side2 h12.out).mono ?_)
 (case side1 => exact cR HO22); (case side2 => have e_ := Kd.R_reads' HO22.out; rw [← e_.1]; exact e_.2.1)
 rintro e w18 ⟨rfl, hd⟩
 have hb := hd.below
 replace HO13 := Aside0.mk (Kd.R_below (pR HO13) hb)
 replace HO22 := Aside0.mk (Kd.R_below (pR HO22) hb)
 replace BK2 := Aside0.mk (blk_below (g := w.heap.size) (o := .cells #[.slice A0_0 l0_0.length c0_0, .slice A0_1 l0_1.length c0_1] 45 (0, 0)) (pB BK2) hb)
 replace BK19 := Aside0.mk (blk_below (g := w5.heap.size) (o := .cells #[.slice Ao16 r5.length co16, .slice Ao17 r6.length co17] 49 (0, 0)) (pB BK19) hb)
 have N18 := Aside0.mk (show w17.heap.size + 0 ≤ w18.heap.size from Nat.le_trans nL hb.size)
 replace HB := Aside0.mk (below_step (bB HB) hb)
 clear hd hb
 have hcz35 : w18.cell? ⟨w.heap.size, 0, none⟩ = some (.slice A0_0 l0_0.length c0_0) := (blk_cell BK2.out 0).trans rfl
 have hcz36 : w18.cell? ⟨w.heap.size, 1, none⟩ = some (.slice A0_1 l0_1.length c0_1) := (blk_cell BK2.out 1).trans rfl
 go_wp2_with (fail)
 (with_reducible refine (laws_toSample.calls k _ _ l0_0 _ _ l0_1 r5 r6 _ ?side1 ?side2 ?side3 ?side4 h2.out).mono ?_)
 (case side1 => exact cB HR0_0 HB); (case side2 => exact HC0_0.out); (case side3 => exact cB HR0_1 HB); (case side4 => exact HC0_1.out)
 rintro e w19 ⟨v37, v38, rfl, ho0, ho1, hb⟩
 replace HO13 := Aside0.mk (Kd.R_below (pR HO13) hb)
 replace HO22 := Aside0.mk (Kd.R_below (pR HO22) hb)
 replace BK2 := Aside0.mk (blk_below (g := w.heap.size) (o := .cells #[.slice A0_0 l0_0.length c0_0, .slice A0_1 l0_1.length c0_1] 45 (0, 0)) (pB BK2) hb)
 replace BK19 := Aside0.mk (blk_below (g := w5.heap.size) (o := .cells #[.slice Ao16 r5.length co16, .slice Ao17 r6.length co17] 49 (0, 0)) (pB BK19) hb)
 have N19 := Aside0.mk (show w18.heap.size + 0 ≤ w19.heap.size from Nat.le_trans nL hb.size)
 replace HB := Aside0.mk (below_step (bB HB) hb)
 have HO37 := Aside0.mk (S_ivl (b0 := w18.heap.size) ho0 nL)
 have HO38 := Aside0.mk (R_ivl (b0 := w18.heap.size) (Kd.R_tight rfl ho1) nL)
 clear hb ho0 ho1
 obtain ⟨Ao37, co37, eo37⟩ := Kd.S_slice HO37.out
 subst eo37
 obtain ⟨Ao38, co38, eo38⟩ := Kd.R_slice HO38.out
 subst eo38
 clear hcz35 hcz36
 go_wp2_with (fail)
 (with_reducible refine (laws_toIntS.calls k _ _ l1 r9 _ ?side1 ?side2 h3.out).mono ?_)
 (case side1 => exact cB HR1 HB); (case side2 => exact HC1.out)
 rintro e w20 ⟨v39, rfl, ho0, hb⟩
 replace HO13 := Aside0.mk (Kd.R_below (pR HO13) hb)
 replace HO22 := Aside0.mk (Kd.R_below (pR HO22) hb)
 replace HO37 := Aside0.mk (Kd.S_below (pS HO37) hb)
 replace HO38 := Aside0.mk (Kd.R_below (pR HO38) hb)
 replace BK2 := Aside0.mk (blk_below (g := w.heap.size) (o := .cells #[.slice A0_0 l0_0.length c0_0, .slice A0_1 l0_1.length c0_1] 45 (0, 0)) (pB BK2) hb)
 replace BK19 := Aside0.mk (blk_below (g := w5.heap.size) (o := .cells #[.slice Ao16 r5.length co16, .slice Ao17 r6.length co17] 49 (0, 0)) (pB BK19) hb)
 have N20 := Aside0.mk (show w19.heap.size + 0 ≤ w20.heap.size from Nat.le_trans nL hb.size)
 replace HB := Aside0.mk (below_step (bB HB) hb)
 have HO39 := Aside0.mk (R_ivl (b0 := w19.heap.size) (Kd.R_tight rfl ho0) nL)
 clear hb ho0
 obtain ⟨Ao39, co39, eo39⟩ := Kd.R_slice HO39.out
 subst eo39
 go_wp2_with (fail)
 (with_reducible refine (impl_NearestPlaces.calls k _ _ r5 _ _ r6 _ _ r9 a2 r11 r12 _ ?side1 ?side2 ?side3 ?side4 ?side5 ?side6 h5.out).mono ?_)
 (case side1 => exact cS HO37); (case side2 => exact (Kd.S_reads' HO37.out).2.1); (case side3 => exact cR HO38); (case side4 => exact (Kd.R_reads' HO38.out).2.1); (case side5 => exact cR HO39); (case side6 => exact (Kd.R_reads' HO39.out).2.1)
 rintro e w21 ⟨v40, rfl, ho0, hb⟩
 replace HO13 := Aside0.mk (Kd.R_below (pR HO13) hb)
 replace HO22 := Aside0.mk (Kd.R_below (pR HO22) hb)
 replace HO37 := Aside0.mk (Kd.S_below (pS HO37) hb)
 replace HO38 := Aside0.mk (Kd.R_below (pR HO38) hb)
 replace HO39 := Aside0.mk (Kd.R_below (pR HO39) hb)
 replace BK2 := Aside0.mk (blk_below (g := w.heap.size) (o := .cells #[.slice A0_0 l0_0.length c0_0, .slice A0_1 l0_1.length c0_1] 45 (0, 0)) (pB BK2) hb)
 replace BK19 := Aside0.mk (blk_below (g := w5.heap.size) (o := .cells #[.slice Ao16 r5.length co16, .slice Ao17 r6.length co17] 49 (0, 0)) (pB BK19) hb)
 have N21 := Aside0.mk (show w20.heap.size + 0 ≤ w21.heap.size from Nat.le_trans nL hb.size)
 replace HB := Aside0.mk (below_step (bB HB) hb)
 have HO40 := Aside0.mk (R_ivl (b0 := w20.heap.size) (Kd.R_tight rfl ho0) nL)
 clear hb ho0
 obtain ⟨Ao40, co40, eo40⟩ := Kd.R_slice HO40.out
 subst eo40
 go_wp2_with (fail)
 (with_reducible refine (laws_eqIntS.calls k _ _ r11 _ _ r11 true _ ?side1 ?side2 ?side3 ?side4 h6.out).mono ?_)
 (case side1 => exact cR HO40); (case side2 => exact (Kd.R_reads' HO40.out).2.1); (case side3 => exact cR HO13); (case side4 => exact (Kd.R_reads' HO13.out).2.1)
 rintro e w22 ⟨rfl, hd⟩
 have hb := hd.below
 replace HO13 := Aside0.mk (Kd.R_below (pR HO13) hb)
 replace HO22 := Aside0.mk (Kd.R_below (pR HO22) hb)
 replace HO40 := Aside0.mk (Kd.R_below (pR HO40) hb)
 replace BK2 := Aside0.mk (blk_below (g := w.heap.size) (o := .cells #[.slice A0_0 l0_0.length c0_0, .slice A0_1 l0_1.length c0_1] 45 (0, 0)) (pB BK2) hb)
 replace BK19 := Aside0.mk (blk_below (g := w5.heap.size) (o := .cells #[.slice Ao16 r5.length co16, .slice Ao17 r6.length co17] 49 (0, 0)) (pB BK19) hb)
 have N22 := Aside0.mk (show w21.heap.size + 0 ≤ w22.heap.size from Nat.le_trans nL hb.size)
 replace HB := Aside0.mk (below_step (bB HB) hb)
 clear hd hb
 go_wp2_with (fail)
 refine calls_of_args (args' := #[.slice Ao22 r34.length co22, .int .i64 1]) (by rw [(Kd.R_reads' HO22.out).1]) ?_
 (with_reducible refine (laws_heldIntS.calls k _ _ r34 1 r33 _ ?side1 ?side2 h12.out).mono ?_)
 (case side1 => exact cR HO22); (case side2 => have e_ := Kd.R_reads' HO22.out; rw [← e_.1]; exact e_.2.1)
 rintro e w23 ⟨rfl, hd⟩
 have hb := hd.below
 replace HO22 := Aside0.mk (Kd.R_below (pR HO22) hb)
 replace BK2 := Aside0.mk (blk_below (g := w.heap.size) (o := .cells #[.slice A0_0 l0_0.length c0_0, .slice A0_1 l0_1.length c0_1] 45 (0, 0)) (pB BK2) hb)
 replace BK19 := Aside0.mk (blk_below (g := w5.heap.size) (o := .cells #[.slice Ao16 r5.length co16, .slice Ao17 r6.length co17] 49 (0, 0)) (pB BK19) hb)
 have N23 := Aside0.mk (show w22.heap.size + 0 ≤ w23.heap.size from Nat.le_trans nL hb.size)
 replace HB := Aside0.mk (below_step (bB HB) hb)
 clear hd hb
 go_wp2_with (fail)
 go_ret
 exact ⟨rfl, (bB HB)⟩

end Go.Proofs.Ytihhedemdkifhaa.GFnExactNearestPlaces
