import Derived.Test.YtfkfahdikmfpeaaPFnExactBestStumpx
import Derived.Test.YtfkfahdikmfpeaaKFnExactBestStump
import Derived.Test.YtfkfahdikmfpeaaMc
import Derived.Test.YtfkfahdikmfpeaaSh
namespace Go.Proofs.Ytfkfahdikmfpeaa.GFnExactBestStump
open Go.RowKit Go.Proofs.Ytfkfahdikmfpeaa.Sh Go.Proofs.Ytfkfahdikmfpeaa.KFnExactBestStump Go.Proofs.Ytfkfahdikmfpeaa.Mc Go.Proofs.Ytfkfahdikmfpeaa.PFnExactBestStump Go.Proofs.YtfkfahdikmfpeaaW.PrintWords Go.Proofs.YtfkfahdikmfpeaaW.PrintLast Go.Proofs.YtfkfahdikmfpeaaW.PrintMore
set_option linter.unusedVariables false
set_option linter.unusedSimpArgs false
set_option maxHeartbeats 8000000 in
set_option maxRecDepth 100000 in
theorem big0 (k : Nat) (A0_0 : Option Addr) (c0_0 : Nat) (l0_0 : List (List Int)) (A0_1 : Option Addr) (c0_1 : Nat) (l0_1 : List Int) (A1 : Option Addr) (c1 : Nat) (l1 : List Int)  (w : World) (hr0_0 : Kd.C (Kd.slice 3 (Kd.int .i64)) w A0_0 l0_0.length l0_0) (hc0_0 : l0_0.length ≤ c0_0) (hr0_1 : Kd.C (Kd.int .i64) w A0_1 l0_1.length l0_1) (hc0_1 : l0_1.length ≤ c0_1) (hr1 : Kd.C (Kd.int .i64) w A1 l1.length l1) (hc1 : l1.length ≤ c1)  (q0 : 1048576 < l1.length) :
 Calls Try.prog 10 #[.agg #[.slice A0_0 l0_0.length c0_0, .slice A0_1 l0_1.length c0_1], .slice A1 l1.length c1] w fun e w' => e = .returned (.bool true) ∧ Below w.heap.size w w' := by
 have HR0_0 := Aside0.mk hr0_0
 have HC0_0 := Aside0.mk hc0_0
 clear hr0_0 hc0_0
 have HR0_1 := Aside0.mk hr0_1
 have HC0_1 := Aside0.mk hc0_1
 clear hr0_1 hc0_1
 have HR1 := Aside0.mk hr1
 have HC1 := Aside0.mk hc1
 clear hr1 hc1
 have HB := Aside0.mk (Below.refl w.heap.size w)
 have d0 : decide (1048576 < l1.length) = true := decide_eq_true (by omega)
 have e0 : decide ((l1.length : Int) > 1048576) = true := decide_eq_true (by omega)
 clear q0
 go_enter Try.func10, Try.ntmps10
 go_wp2_with (fail)
 go_ret
 exact ⟨rfl, (bB HB)⟩


set_option maxHeartbeats 8000000 in
set_option maxRecDepth 100000 in
theorem big1 (k : Nat) (A0_0 : Option Addr) (c0_0 : Nat) (l0_0 : List (List Int)) (A0_1 : Option Addr) (c0_1 : Nat) (l0_1 : List Int) (A1 : Option Addr) (c1 : Nat) (l1 : List Int) (r1 : Int) (w : World) (hr0_0 : Kd.C (Kd.slice 3 (Kd.int .i64)) w A0_0 l0_0.length l0_0) (hc0_0 : l0_0.length ≤ c0_0) (hr0_1 : Kd.C (Kd.int .i64) w A0_1 l0_1.length l0_1) (hc0_1 : l0_1.length ≤ c0_1) (hr1 : Kd.C (Kd.int .i64) w A1 l1.length l1) (hc1 : l1.length ≤ c1) (h1 : laws_szSample.f k l0_0 l0_1 1048576 = some r1) (q0 : l1.length ≤ 1048576) (q1 : r1 < 0) :
 Calls Try.prog 10 #[.agg #[.slice A0_0 l0_0.length c0_0, .slice A0_1 l0_1.length c0_1], .slice A1 l1.length c1] w fun e w' => e = .returned (.bool true) ∧ Below w.heap.size w w' := by
 have HR0_0 := Aside0.mk hr0_0
 have HC0_0 := Aside0.mk hc0_0
 clear hr0_0 hc0_0
 have HR0_1 := Aside0.mk hr0_1
 have HC0_1 := Aside0.mk hc0_1
 clear hr0_1 hc0_1
 have HR1 := Aside0.mk hr1
 have HC1 := Aside0.mk hc1
 clear hr1 hc1
 have HB := Aside0.mk (Below.refl w.heap.size w)
 replace h1 := Aside0.mk h1
 have d0 : decide (1048576 < l1.length) = false := decide_eq_false (by omega)
 have e0 : decide ((l1.length : Int) > 1048576) = false := decide_eq_false (by omega)
 have d1 : decide (r1 < 0) = true := decide_eq_true (by omega)
 clear q0 q1
 go_enter Try.func10, Try.ntmps10
 go_wp2_with (fail)
 (with_reducible refine (laws_szSample.calls k _ _ l0_0 _ _ l0_1 1048576 r1 _ ?side1 ?side2 ?side3 ?side4 h1.out).mono ?_)
 (case side1 => exact cB HR0_0 HB); (case side2 => exact HC0_0.out); (case side3 => exact cB HR0_1 HB); (case side4 => exact HC0_1.out)
 rintro e w1 ⟨rfl, hb⟩
 have BK2 := Aside0.mk (blk_below (g := w.heap.size) (o := .cells #[.slice A0_0 l0_0.length c0_0, .slice A0_1 l0_1.length c0_1] 48 (0, 0)) (by repeat (first | exact blk_at _ (by first | rfl | (simp; done)) | refine blk_alloc ?_ _ | refine blk_drew ?_ | refine blk_drewN ?_ _)) hb)
 have N1 := Aside0.mk (show w.heap.size + 1 ≤ w1.heap.size from Nat.le_trans nL hb.size)
 replace HB := Aside0.mk (below_step (bB HB) hb)
 clear hb
 have hcz3 : w1.cell? ⟨w.heap.size, 0, none⟩ = some (.slice A0_0 l0_0.length c0_0) := (blk_cell BK2.out 0).trans rfl
 have hcz4 : w1.cell? ⟨w.heap.size, 1, none⟩ = some (.slice A0_1 l0_1.length c0_1) := (blk_cell BK2.out 1).trans rfl
 go_wp2_with (fail)
 go_ret
 exact ⟨rfl, (bB HB)⟩


set_option maxHeartbeats 8000000 in
set_option maxRecDepth 100000 in
theorem good (k : Nat) (A0_0 : Option Addr) (c0_0 : Nat) (l0_0 : List (List Int)) (A0_1 : Option Addr) (c0_1 : Nat) (l0_1 : List Int) (A1 : Option Addr) (c1 : Nat) (l1 : List Int) (r1 : Int) (r5 : List (List Int)) (r6 : List Int) (r9 : List Int) (r11 : List Int) (r12 : Int) (r13 : Bool) (r35 : Int) (r36 : List (List Int)) (r37 : List Int) (r38 : Int) (r39 : List Int) (r46 : Int) (r47 : List Int) (w : World) (hr0_0 : Kd.C (Kd.slice 3 (Kd.int .i64)) w A0_0 l0_0.length l0_0) (hc0_0 : l0_0.length ≤ c0_0) (hr0_1 : Kd.C (Kd.int .i64) w A0_1 l0_1.length l0_1) (hc0_1 : l0_1.length ≤ c0_1) (hr1 : Kd.C (Kd.int .i64) w A1 l1.length l1) (hc1 : l1.length ≤ c1) (h1 : laws_szSample.f k l0_0 l0_1 1048576 = some r1) (h2 : laws_toSample.f k l0_0 l0_1 = some (r5, r6)) (h3 : laws_toIntS.f k l1 = some r9) (h4 : spec_BestStump.f k r5 r6 r9 = some (r11, r12, r13)) (h5 : impl_BestStump.f k r5 r6 r9 = some (r11, r12, r13)) (h6 : laws_eqPlane.f k r11 r12 r11 r12 = some true) (h7 : laws_eqSample.f k r5 r6 r5 r6 = some true) (h8 : laws_eqIntS.f k r9 r9 = some true) (h9 : laws_markSample.f k r5 r6 1 = some (r35, r36, r37)) (h10 : laws_markIntS.f k r9 r35 = some (r38, r39)) (h11 : laws_markPlane.f k r11 r12 1 = some (r46, r47)) (h12 : laws_heldPlane.f k r47 r12 1 = some r46) (q0 : l1.length ≤ 1048576) (q1 : 0 ≤ r1) (q2 : 0 ≤ r35) (q3 : 0 ≤ r38) (q4 : 0 ≤ r46) :
 Calls Try.prog 10 #[.agg #[.slice A0_0 l0_0.length c0_0, .slice A0_1 l0_1.length c0_1], .slice A1 l1.length c1] w fun e w' => e = .returned (.bool true) ∧ Below w.heap.size w w' := by
 have HR0_0 := Aside0.mk hr0_0
 have HC0_0 := Aside0.mk hc0_0
 clear hr0_0 hc0_0
 have HR0_1 := Aside0.mk hr0_1
 have HC0_1 := Aside0.mk hc0_1
 clear hr0_1 hc0_1
 have HR1 := Aside0.mk hr1
 have HC1 := Aside0.mk hc1
 clear hr1 hc1
 have HB := Aside0.mk (Below.refl w.heap.size w)
 replace h1 := Aside0.mk h1
 replace h2 := Aside0.mk h2
 replace h3 := Aside0.mk h3
 replace h4 := Aside0.mk h4
 replace h5 := Aside0.mk h5
 replace h6 := Aside0.mk h6
 replace h7 := Aside0.mk h7
 replace h8 := Aside0.mk h8
 replace h9 := Aside0.mk h9
 replace h10 := Aside0.mk h10
 replace h11 := Aside0.mk h11
 replace h12 := Aside0.mk h12
 have d0 : decide (1048576 < l1.length) = false := decide_eq_false (by omega)
 have e0 : decide ((l1.length : Int) > 1048576) = false := decide_eq_false (by omega)
 have d1 : decide (r1 < 0) = false := decide_eq_false (by omega)
 have d2 : decide (r35 < 0) = false := decide_eq_false (by omega)
 have d3 : decide (r38 < 0) = false := decide_eq_false (by omega)
 have d4 : decide (r46 < 0) = false := decide_eq_false (by omega)
 clear q0 q1 q2 q3 q4
 go_enter Try.func10, Try.ntmps10
 go_wp2_with (fail)
 (with_reducible refine (laws_szSample.calls k _ _ l0_0 _ _ l0_1 1048576 r1 _ ?side1 ?side2 ?side3 ?side4 h1.out).mono ?_)
 (case side1 => exact cB HR0_0 HB); (case side2 => exact HC0_0.out); (case side3 => exact cB HR0_1 HB); (case side4 => exact HC0_1.out)
 rintro e w1 ⟨rfl, hb⟩
 have BK2 := Aside0.mk (blk_below (g := w.heap.size) (o := .cells #[.slice A0_0 l0_0.length c0_0, .slice A0_1 l0_1.length c0_1] 48 (0, 0)) (by repeat (first | exact blk_at _ (by first | rfl | (simp; done)) | refine blk_alloc ?_ _ | refine blk_drew ?_ | refine blk_drewN ?_ _)) hb)
 have N1 := Aside0.mk (show w.heap.size + 1 ≤ w1.heap.size from Nat.le_trans nL hb.size)
 replace HB := Aside0.mk (below_step (bB HB) hb)
 clear hb
 have hcz3 : w1.cell? ⟨w.heap.size, 0, none⟩ = some (.slice A0_0 l0_0.length c0_0) := (blk_cell BK2.out 0).trans rfl
 have hcz4 : w1.cell? ⟨w.heap.size, 1, none⟩ = some (.slice A0_1 l0_1.length c0_1) := (blk_cell BK2.out 1).trans rfl
 go_wp2_with (fail)
 (with_reducible refine (laws_toSample.calls k _ _ l0_0 _ _ l0_1 r5 r6 _ ?side1 ?side2 ?side3 ?side4 h2.out).mono ?_)
 (case side1 => exact cB HR0_0 HB); (case side2 => exact HC0_0.out); (case side3 => exact cB HR0_1 HB); (case side4 => exact HC0_1.out)
 rintro e w2 ⟨v7, v8, rfl, ho0, ho1, hb⟩
 replace BK2 := Aside0.mk (blk_below (g := w.heap.size) (o := .cells #[.slice A0_0 l0_0.length c0_0, .slice A0_1 l0_1.length c0_1] 48 (0, 0)) (pB BK2) hb)
 have N2 := Aside0.mk (show w1.heap.size + 0 ≤ w2.heap.size from Nat.le_trans nL hb.size)
 replace HB := Aside0.mk (below_step (bB HB) hb)
 have HO7 := Aside0.mk (S_ivl (b0 := w1.heap.size) ho0 nL)
 have HO8 := Aside0.mk (R_ivl (b0 := w1.heap.size) (Kd.R_tight rfl ho1) nL)
 clear hb ho0 ho1
 obtain ⟨Ao7, co7, eo7⟩ := Kd.S_slice HO7.out
 subst eo7
 obtain ⟨Ao8, co8, eo8⟩ := Kd.R_slice HO8.out
 subst eo8
 clear hcz3 hcz4
 go_wp2_with (fail)
 (with_reducible refine (laws_toIntS.calls k _ _ l1 r9 _ ?side1 ?side2 h3.out).mono ?_)
 (case side1 => exact cB HR1 HB); (case side2 => exact HC1.out)
 rintro e w3 ⟨v10, rfl, ho0, hb⟩
 replace HO7 := Aside0.mk (Kd.S_below (pS HO7) hb)
 replace HO8 := Aside0.mk (Kd.R_below (pR HO8) hb)
 replace BK2 := Aside0.mk (blk_below (g := w.heap.size) (o := .cells #[.slice A0_0 l0_0.length c0_0, .slice A0_1 l0_1.length c0_1] 48 (0, 0)) (pB BK2) hb)
 have N3 := Aside0.mk (show w2.heap.size + 0 ≤ w3.heap.size from Nat.le_trans nL hb.size)
 replace HB := Aside0.mk (below_step (bB HB) hb)
 have HO10 := Aside0.mk (R_ivl (b0 := w2.heap.size) (Kd.R_tight rfl ho0) nL)
 clear hb ho0
 obtain ⟨Ao10, co10, eo10⟩ := Kd.R_slice HO10.out
 subst eo10
 go_wp2_with (fail)
 (with_reducible refine (spec_BestStump.calls k _ _ r5 _ _ r6 _ _ r9 r11 r12 r13 _ ?side1 ?side2 ?side3 ?side4 ?side5 ?side6 h4.out).mono ?_)
 (case side1 => exact cS HO7); (case side2 => exact (Kd.S_reads' HO7.out).2.1); (case side3 => exact cR HO8); (case side4 => exact (Kd.R_reads' HO8.out).2.1); (case side5 => exact cR HO10); (case side6 => exact (Kd.R_reads' HO10.out).2.1)
 rintro e w4 ⟨v14, rfl, ho0, hb⟩
 replace HO7 := Aside0.mk (Kd.S_below (pS HO7) hb)
 replace HO8 := Aside0.mk (Kd.R_below (pR HO8) hb)
 replace HO10 := Aside0.mk (Kd.R_below (pR HO10) hb)
 replace BK2 := Aside0.mk (blk_below (g := w.heap.size) (o := .cells #[.slice A0_0 l0_0.length c0_0, .slice A0_1 l0_1.length c0_1] 48 (0, 0)) (pB BK2) hb)
 have N4 := Aside0.mk (show w3.heap.size + 0 ≤ w4.heap.size from Nat.le_trans nL hb.size)
 replace HB := Aside0.mk (below_step (bB HB) hb)
 have HO14 := Aside0.mk (R_ivl (b0 := w3.heap.size) (Kd.R_tight rfl ho0) nL)
 clear hb ho0
 obtain ⟨Ao14, co14, eo14⟩ := Kd.R_slice HO14.out
 subst eo14
 have hne15 := blk_lt BK2.out
 have hcz16 : w4.cell? ⟨w.heap.size, 0, none⟩ = some (.slice A0_0 l0_0.length c0_0) := (blk_cell BK2.out 0).trans rfl
 have hcz17 : w4.cell? ⟨w.heap.size, 1, none⟩ = some (.slice A0_1 l0_1.length c0_1) := (blk_cell BK2.out 1).trans rfl
 go_wp2_with (fail)
 (with_reducible refine (laws_toSample.calls k _ _ l0_0 _ _ l0_1 r5 r6 _ ?side1 ?side2 ?side3 ?side4 h2.out).mono ?_)
 (case side1 => exact cB HR0_0 HB); (case side2 => exact HC0_0.out); (case side3 => exact cB HR0_1 HB); (case side4 => exact HC0_1.out)
 rintro e w5 ⟨v18, v19, rfl, ho0, ho1, hb⟩
 replace HO14 := Aside0.mk (Kd.R_below (pR HO14) hb)
 replace BK2 := Aside0.mk (blk_below (g := w.heap.size) (o := .cells #[.slice A0_0 l0_0.length c0_0, .slice A0_1 l0_1.length c0_1] 48 (0, 0)) (pB BK2) hb)
 have BK20 := Aside0.mk (blk_below (g := w4.heap.size) (o := .cells #[.slice Ao14 r11.length co14, .int .i64 r12] 39 (0, 0)) (by repeat (first | exact blk_at _ (by first | rfl | (simp; done)) | refine blk_alloc ?_ _ | refine blk_drew ?_ | refine blk_drewN ?_ _)) hb)
 have N5 := Aside0.mk (show w4.heap.size + 1 ≤ w5.heap.size from Nat.le_trans nL hb.size)
 replace HB := Aside0.mk (below_step (bB HB) hb)
 have HO18 := Aside0.mk (S_ivl (b0 := (w4.heap.size + 1)) ho0 nL)
 have HO19 := Aside0.mk (R_ivl (b0 := (w4.heap.size + 1)) (Kd.R_tight rfl ho1) nL)
 clear hb ho0 ho1
 obtain ⟨Ao18, co18, eo18⟩ := Kd.S_slice HO18.out
 subst eo18
 obtain ⟨Ao19, co19, eo19⟩ := Kd.R_slice HO19.out
 subst eo19
 clear hne15 hcz16 hcz17
 go_wp2_with (fail)
 (with_reducible refine (laws_toIntS.calls k _ _ l1 r9 _ ?side1 ?side2 h3.out).mono ?_)
 (case side1 => exact cB HR1 HB); (case side2 => exact HC1.out)
 rintro e w6 ⟨v21, rfl, ho0, hb⟩
 replace HO14 := Aside0.mk (Kd.R_below (pR HO14) hb)
 replace HO18 := Aside0.mk (Kd.S_below (pS HO18) hb)
 replace HO19 := Aside0.mk (Kd.R_below (pR HO19) hb)
 replace BK2 := Aside0.mk (blk_below (g := w.heap.size) (o := .cells #[.slice A0_0 l0_0.length c0_0, .slice A0_1 l0_1.length c0_1] 48 (0, 0)) (pB BK2) hb)
 replace BK20 := Aside0.mk (blk_below (g := w4.heap.size) (o := .cells #[.slice Ao14 r11.length co14, .int .i64 r12] 39 (0, 0)) (pB BK20) hb)
 have BK22 := Aside0.mk (blk_below (g := w5.heap.size) (o := .cells #[.slice Ao18 r5.length co18, .slice Ao19 r6.length co19] 52 (0, 0)) (by repeat (first | exact blk_at _ (by first | rfl | (simp; done)) | refine blk_alloc ?_ _ | refine blk_drew ?_ | refine blk_drewN ?_ _)) hb)
 have N6 := Aside0.mk (show w5.heap.size + 1 ≤ w6.heap.size from Nat.le_trans nL hb.size)
 replace HB := Aside0.mk (below_step (bB HB) hb)
 have HO21 := Aside0.mk (R_ivl (b0 := (w5.heap.size + 1)) (Kd.R_tight rfl ho0) nL)
 clear hb ho0
 obtain ⟨Ao21, co21, eo21⟩ := Kd.R_slice HO21.out
 subst eo21
 have hcz23 : w6.cell? ⟨w5.heap.size, 0, none⟩ = some (.slice Ao18 r5.length co18) := (blk_cell BK22.out 0).trans rfl
 have hcz24 : w6.cell? ⟨w5.heap.size, 1, none⟩ = some (.slice Ao19 r6.length co19) := (blk_cell BK22.out 1).trans rfl
 go_wp2_with (fail)
 (with_reducible refine (impl_BestStump.calls k _ _ r5 _ _ r6 _ _ r9 r11 r12 r13 _ ?side1 ?side2 ?side3 ?side4 ?side5 ?side6 h5.out).mono ?_)
 (case side1 => exact cS HO18); (case side2 => exact (Kd.S_reads' HO18.out).2.1); (case side3 => exact cR HO19); (case side4 => exact (Kd.R_reads' HO19.out).2.1); (case side5 => exact cR HO21); (case side6 => exact (Kd.R_reads' HO21.out).2.1)
 rintro e w7 ⟨v25, rfl, ho0, hb⟩
 replace HO14 := Aside0.mk (Kd.R_below (pR HO14) hb)
 replace HO18 := Aside0.mk (Kd.S_below (pS HO18) hb)
 replace HO19 := Aside0.mk (Kd.R_below (pR HO19) hb)
 replace HO21 := Aside0.mk (Kd.R_below (pR HO21) hb)
 replace BK2 := Aside0.mk (blk_below (g := w.heap.size) (o := .cells #[.slice A0_0 l0_0.length c0_0, .slice A0_1 l0_1.length c0_1] 48 (0, 0)) (pB BK2) hb)
 replace BK20 := Aside0.mk (blk_below (g := w4.heap.size) (o := .cells #[.slice Ao14 r11.length co14, .int .i64 r12] 39 (0, 0)) (pB BK20) hb)
 replace BK22 := Aside0.mk (blk_below (g := w5.heap.size) (o := .cells #[.slice Ao18 r5.length co18, .slice Ao19 r6.length co19] 52 (0, 0)) (pB BK22) hb)
 have N7 := Aside0.mk (show w6.heap.size + 0 ≤ w7.heap.size from Nat.le_trans nL hb.size)
 replace HB := Aside0.mk (below_step (bB HB) hb)
 have HO25 := Aside0.mk (R_ivl (b0 := w6.heap.size) (Kd.R_tight rfl ho0) nL)
 clear hb ho0
 obtain ⟨Ao25, co25, eo25⟩ := Kd.R_slice HO25.out
 subst eo25
 clear hcz23 hcz24
 have hne26 := blk_lt BK20.out
 have hcz27 : w7.cell? ⟨w4.heap.size, 0, none⟩ = some (.slice Ao14 r11.length co14) := (blk_cell BK20.out 0).trans rfl
 have hcz28 : w7.cell? ⟨w4.heap.size, 1, none⟩ = some (.int .i64 r12) := (blk_cell BK20.out 1).trans rfl
 go_wp2_with (fail)
 (with_reducible refine (laws_eqPlane.calls k _ _ r11 r12 _ _ r11 r12 true _ ?side1 ?side2 ?side3 ?side4 h6.out).mono ?_)
 (case side1 => exact cR HO25); (case side2 => exact (Kd.R_reads' HO25.out).2.1); (case side3 => exact cR HO14); (case side4 => exact (Kd.R_reads' HO14.out).2.1)
 rintro e w8 ⟨rfl, hb⟩
 replace HO14 := Aside0.mk (Kd.R_below (pR HO14) hb)
 replace HO18 := Aside0.mk (Kd.S_below (pS HO18) hb)
 replace HO19 := Aside0.mk (Kd.R_below (pR HO19) hb)
 replace HO21 := Aside0.mk (Kd.R_below (pR HO21) hb)
 replace HO25 := Aside0.mk (Kd.R_below (pR HO25) hb)
 replace BK2 := Aside0.mk (blk_below (g := w.heap.size) (o := .cells #[.slice A0_0 l0_0.length c0_0, .slice A0_1 l0_1.length c0_1] 48 (0, 0)) (pB BK2) hb)
 replace BK20 := Aside0.mk (blk_below (g := w4.heap.size) (o := .cells #[.slice Ao14 r11.length co14, .int .i64 r12] 39 (0, 0)) (pB BK20) hb)
 replace BK22 := Aside0.mk (blk_below (g := w5.heap.size) (o := .cells #[.slice Ao18 r5.length co18, .slice Ao19 r6.length co19] 52 (0, 0)) (pB BK22) hb)
 have BK29 := Aside0.mk (blk_below (g := w7.heap.size) (o := .cells #[.slice Ao25 r11.length co25, .int .i64 r12] 39 (0, 0)) (by repeat (first | exact blk_at _ (by first | rfl | (simp; done)) | refine blk_alloc ?_ _ | refine blk_drew ?_ | refine blk_drewN ?_ _)) hb)
 have N8 := Aside0.mk (show w7.heap.size + 1 ≤ w8.heap.size from Nat.le_trans nL hb.size)
 replace HB := Aside0.mk (below_step (bB HB) hb)
 clear hb
 clear hne26 hcz27 hcz28
 go_wp2_with (fail)
 replace HO14 := Aside0.mk (Kd.R_drew HO14.out)
 replace HO18 := Aside0.mk (Kd.S_drew HO18.out)
 replace HO19 := Aside0.mk (Kd.R_drew HO19.out)
 replace HO21 := Aside0.mk (Kd.R_drew HO21.out)
 replace HO25 := Aside0.mk (Kd.R_drew HO25.out)
 replace BK2 := Aside0.mk (blk_drew BK2.out)
 replace BK20 := Aside0.mk (blk_drew BK20.out)
 replace BK22 := Aside0.mk (blk_drew BK22.out)
 replace BK29 := Aside0.mk (blk_drew BK29.out)
 replace HB := Aside0.mk (below_drew1 HB.out)
 refine start_ (n := 5) (S := fun w' => w'.cell? ⟨w5.heap.size, 0, none⟩ = some (.slice Ao18 r5.length co18) ∧ w'.cell? ⟨w5.heap.size, 1, none⟩ = some (.slice Ao19 r6.length co19) ∧ w'.cell? ⟨w.heap.size, 0, none⟩ = some (.slice A0_0 l0_0.length c0_0) ∧ w'.cell? ⟨w.heap.size, 1, none⟩ = some (.slice A0_1 l0_1.length c0_1)) (ds := []) #[false, false, false, false, false] (by kernel_rfl) rfl rfl ⟨(blk_cell BK22.out 0).trans rfl, (blk_cell BK22.out 1).trans rfl, (blk_cell BK2.out 0).trans rfl, (blk_cell BK2.out 1).trans rfl⟩ (fun hHeld => ?_)
 have N9 := Aside0.mk (show w8.heap.size ≤ w8.drew.heap.size from Nat.le_refl _)
 generalize w8.drew = w9 at HB HO14 HO18 HO19 HO21 HO25 BK2 BK20 BK22 BK29 N9 hHeld ⊢
 refine take_ (i := 0) (N := some 52) (v := ?_) (a' := ?_) #[true, false, false, false, false] rfl rfl (by kernel_rfl) (fun _ _ _ h => h) (Or.inl ⟨by rfl, ?_⟩) hHeld ?_ ?_
 rotate_left
 · rintro w' ⟨s0, s1, s2, s3⟩
   go_simp
   with_reducible rfl
 rotate_left
 · exact aP
 refine take_ (i := 1) (N := some 53) (v := ?_) (a' := ?_) #[true, true, false, false, false] rfl rfl (by kernel_rfl) (fun _ _ _ h => h) (Or.inl ⟨by rfl, ?_⟩) hHeld ?_ ?_
 rotate_left
 · rintro w' ⟨s0, s1, s2, s3⟩
   go_simp
   with_reducible rfl
 rotate_left
 · exact aP
 refine one_ (i := 2) (N := some 54) #[true, true, true, false, false] rfl rfl (by kernel_rfl) (by decide) (fun K hK => ?_)
 refine goes_ Try.func30 (by kernel_rfl) rfl #[.agg #[.slice A0_0 l0_0.length c0_0, .slice A0_1 l0_1.length c0_1]] (by rfl) rfl rfl aT ?_
 (with_reducible refine (laws_toSample.calls k _ _ l0_0 _ _ l0_1 r5 r6 _ ?side1 ?side2 ?side3 ?side4 h2.out).mono ?_)
 (case side1 => exact cB HR0_0 HB); (case side2 => exact HC0_0.out); (case side3 => exact cB HR0_1 HB); (case side4 => exact HC0_1.out)
 rintro e w10 ⟨v30, v31, rfl, ho0, ho1, hb⟩; refine ⟨_, rfl, ?_⟩
 replace HO14 := Aside0.mk (Kd.R_below (pR HO14) hb)
 replace HO18 := Aside0.mk (Kd.S_below (pS HO18) hb)
 replace HO19 := Aside0.mk (Kd.R_below (pR HO19) hb)
 replace HO21 := Aside0.mk (Kd.R_below (pR HO21) hb)
 replace HO25 := Aside0.mk (Kd.R_below (pR HO25) hb)
 replace BK2 := Aside0.mk (blk_below (g := w.heap.size) (o := .cells #[.slice A0_0 l0_0.length c0_0, .slice A0_1 l0_1.length c0_1] 48 (0, 0)) (pB BK2) hb)
 replace BK20 := Aside0.mk (blk_below (g := w4.heap.size) (o := .cells #[.slice Ao14 r11.length co14, .int .i64 r12] 39 (0, 0)) (pB BK20) hb)
 replace BK22 := Aside0.mk (blk_below (g := w5.heap.size) (o := .cells #[.slice Ao18 r5.length co18, .slice Ao19 r6.length co19] 52 (0, 0)) (pB BK22) hb)
 replace BK29 := Aside0.mk (blk_below (g := w7.heap.size) (o := .cells #[.slice Ao25 r11.length co25, .int .i64 r12] 39 (0, 0)) (pB BK29) hb)
 have N10 := Aside0.mk (show w9.heap.size + 0 ≤ w10.heap.size from Nat.le_trans nL hb.size)
 replace HB := Aside0.mk (below_step (bB HB) hb)
 have HO30 := Aside0.mk (S_ivl (b0 := w9.heap.size) ho0 nL)
 have HO31 := Aside0.mk (R_ivl (b0 := w9.heap.size) (Kd.R_tight rfl ho1) nL)
 clear hb ho0 ho1
 obtain ⟨Ao30, co30, eo30⟩ := Kd.S_slice HO30.out
 subst eo30
 obtain ⟨Ao31, co31, eo31⟩ := Kd.R_slice HO31.out
 subst eo31
 refine hK.out _ _ ⟨(blk_cell BK22.out 0).trans rfl, (blk_cell BK22.out 1).trans rfl, (blk_cell BK2.out 0).trans rfl, (blk_cell BK2.out 1).trans rfl⟩ (fun hHeld => ?_)
 clear hK K
 refine norm_ (a' := ?_) ?_ ?_
 rotate_left
 · show Act.put _ (some 54) _ = _
   simp only [Act.put, List.setIfInBounds_toArray, List.set_cons_zero, List.set_cons_succ, i64_w, i32_w]
   rfl
 refine one_ (i := 3) (N := some 55) #[true, true, true, true, false] rfl rfl (by kernel_rfl) (by decide) (fun K hK => ?_)
 refine goes_ Try.func32 (by kernel_rfl) rfl #[.agg #[.slice Ao18 r5.length co18, .slice Ao19 r6.length co19], .agg #[.slice Ao30 r5.length co30, .slice Ao31 r6.length co31]] (by rfl) rfl rfl aT ?_
 (with_reducible refine (laws_eqSample.calls k _ _ r5 _ _ r6 _ _ r5 _ _ r6 true _ ?side1 ?side2 ?side3 ?side4 ?side5 ?side6 ?side7 ?side8 h7.out).mono ?_)
 (case side1 => exact cS HO18); (case side2 => exact (Kd.S_reads' HO18.out).2.1); (case side3 => exact cR HO19); (case side4 => exact (Kd.R_reads' HO19.out).2.1); (case side5 => exact cS HO30); (case side6 => exact (Kd.S_reads' HO30.out).2.1); (case side7 => exact cR HO31); (case side8 => exact (Kd.R_reads' HO31.out).2.1)
 rintro e w11 ⟨rfl, hb⟩; refine ⟨_, rfl, ?_⟩
 replace HO14 := Aside0.mk (Kd.R_below (pR HO14) hb)
 replace HO18 := Aside0.mk (Kd.S_below (pS HO18) hb)
 replace HO19 := Aside0.mk (Kd.R_below (pR HO19) hb)
 replace HO21 := Aside0.mk (Kd.R_below (pR HO21) hb)
 replace HO25 := Aside0.mk (Kd.R_below (pR HO25) hb)
 replace HO30 := Aside0.mk (Kd.S_below (pS HO30) hb)
 replace HO31 := Aside0.mk (Kd.R_below (pR HO31) hb)
 replace BK2 := Aside0.mk (blk_below (g := w.heap.size) (o := .cells #[.slice A0_0 l0_0.length c0_0, .slice A0_1 l0_1.length c0_1] 48 (0, 0)) (pB BK2) hb)
 replace BK20 := Aside0.mk (blk_below (g := w4.heap.size) (o := .cells #[.slice Ao14 r11.length co14, .int .i64 r12] 39 (0, 0)) (pB BK20) hb)
 replace BK22 := Aside0.mk (blk_below (g := w5.heap.size) (o := .cells #[.slice Ao18 r5.length co18, .slice Ao19 r6.length co19] 52 (0, 0)) (pB BK22) hb)
 replace BK29 := Aside0.mk (blk_below (g := w7.heap.size) (o := .cells #[.slice Ao25 r11.length co25, .int .i64 r12] 39 (0, 0)) (pB BK29) hb)
 have N11 := Aside0.mk (show w10.heap.size + 0 ≤ w11.heap.size from Nat.le_trans nL hb.size)
 replace HB := Aside0.mk (below_step (bB HB) hb)
 clear hb
 refine hK.out _ _ ⟨(blk_cell BK22.out 0).trans rfl, (blk_cell BK22.out 1).trans rfl, (blk_cell BK2.out 0).trans rfl, (blk_cell BK2.out 1).trans rfl⟩ (fun hHeld => ?_)
 clear hK K
 refine norm_ (a' := ?_) ?_ ?_
 rotate_left
 · show Act.put _ (some 55) _ = _
   simp only [Act.put, List.setIfInBounds_toArray, List.set_cons_zero, List.set_cons_succ, i64_w, i32_w]
   rfl
 refine pure_ (i := 4) (N := some 56) (v := ?_) (a' := ?_) #[true, true, true, true, true] rfl rfl (by kernel_rfl) (fun _ _ _ h => h) (Or.inl ⟨by rfl, ?_⟩) ?_ ?_
 rotate_left
 · intro w'
   go_simp
   with_reducible rfl
 rotate_left
 · exact aP
 refine done_ (by kernel_rfl) ?_
 go_wp2_with (fail)
 (with_reducible refine (laws_toIntS.calls k _ _ l1 r9 _ ?side1 ?side2 h3.out).mono ?_)
 (case side1 => exact cB HR1 HB); (case side2 => exact HC1.out)
 rintro e w12 ⟨v32, rfl, ho0, hb⟩
 replace HO14 := Aside0.mk (Kd.R_below (pR HO14) hb)
 replace HO18 := Aside0.mk (Kd.S_below (pS HO18) hb)
 replace HO19 := Aside0.mk (Kd.R_below (pR HO19) hb)
 replace HO21 := Aside0.mk (Kd.R_below (pR HO21) hb)
 replace HO25 := Aside0.mk (Kd.R_below (pR HO25) hb)
 replace BK2 := Aside0.mk (blk_below (g := w.heap.size) (o := .cells #[.slice A0_0 l0_0.length c0_0, .slice A0_1 l0_1.length c0_1] 48 (0, 0)) (pB BK2) hb)
 replace BK20 := Aside0.mk (blk_below (g := w4.heap.size) (o := .cells #[.slice Ao14 r11.length co14, .int .i64 r12] 39 (0, 0)) (pB BK20) hb)
 replace BK22 := Aside0.mk (blk_below (g := w5.heap.size) (o := .cells #[.slice Ao18 r5.length co18, .slice Ao19 r6.length co19] 52 (0, 0)) (pB BK22) hb)
 replace BK29 := Aside0.mk (blk_below (g := w7.heap.size) (o := .cells #[.slice Ao25 r11.length co25, .int .i64 r12] 39 (0, 0)) (pB BK29) hb)
 have N12 := Aside0.mk (show w11.heap.size + 0 ≤ w12.heap.size from Nat.le_trans nL hb.size)
 replace HB := Aside0.mk (below_step (bB HB) hb)
 have HO32 := Aside0.mk (R_ivl (b0 := w11.heap.size) (Kd.R_tight rfl ho0) nL)
 clear hb ho0
 obtain ⟨Ao32, co32, eo32⟩ := Kd.R_slice HO32.out
 subst eo32
 go_wp2_with (fail)
 (with_reducible refine (laws_eqIntS.calls k _ _ r9 _ _ r9 true _ ?side1 ?side2 ?side3 ?side4 h8.out).mono ?_)
 (case side1 => exact cR HO21); (case side2 => exact (Kd.R_reads' HO21.out).2.1); (case side3 => exact cR HO32); (case side4 => exact (Kd.R_reads' HO32.out).2.1)
 rintro e w13 ⟨rfl, hd⟩
 have hb := hd.below
 replace HO14 := Aside0.mk (Kd.R_below (pR HO14) hb)
 replace HO18 := Aside0.mk (Kd.S_below (pS HO18) hb)
 replace HO19 := Aside0.mk (Kd.R_below (pR HO19) hb)
 replace HO21 := Aside0.mk (Kd.R_below (pR HO21) hb)
 replace HO25 := Aside0.mk (Kd.R_below (pR HO25) hb)
 replace HO32 := Aside0.mk (Kd.R_below (pR HO32) hb)
 replace BK2 := Aside0.mk (blk_below (g := w.heap.size) (o := .cells #[.slice A0_0 l0_0.length c0_0, .slice A0_1 l0_1.length c0_1] 48 (0, 0)) (pB BK2) hb)
 replace BK20 := Aside0.mk (blk_below (g := w4.heap.size) (o := .cells #[.slice Ao14 r11.length co14, .int .i64 r12] 39 (0, 0)) (pB BK20) hb)
 replace BK22 := Aside0.mk (blk_below (g := w5.heap.size) (o := .cells #[.slice Ao18 r5.length co18, .slice Ao19 r6.length co19] 52 (0, 0)) (pB BK22) hb)
 replace BK29 := Aside0.mk (blk_below (g := w7.heap.size) (o := .cells #[.slice Ao25 r11.length co25, .int .i64 r12] 39 (0, 0)) (pB BK29) hb)
 have N13 := Aside0.mk (show w12.heap.size + 0 ≤ w13.heap.size from Nat.le_trans nL hb.size)
 replace HB := Aside0.mk (below_step (bB HB) hb)
 clear hd hb
 have hcz33 : w13.cell? ⟨w5.heap.size, 0, none⟩ = some (.slice Ao18 r5.length co18) := (blk_cell BK22.out 0).trans rfl
 have hcz34 : w13.cell? ⟨w5.heap.size, 1, none⟩ = some (.slice Ao19 r6.length co19) := (blk_cell BK22.out 1).trans rfl
 go_wp2_with (fail)
 (with_reducible refine (laws_markSample.calls k (fun k_ => some k_ ≠ (.slice Ao19 r6.length co19 : Value).ownBlock ∧ (w4.heap.size + 1) ≤ k_ ∧ k_ < w5.heap.size) (.slice Ao18 r5.length co18) r5 (fun k_ => some k_ = (.slice Ao19 r6.length co19 : Value).ownBlock ∧ (w4.heap.size + 1) ≤ k_ ∧ k_ < w5.heap.size) (.slice Ao19 r6.length co19) r6 1 r35 r36 r37 w _ ?side1 ?side2 ?side3 ?side4 h9.out).mono ?_)
 (case side1 => exact bB HB); (case side2 => refine Kd.S_lower (pS HO18) ?_; have := N1.out; have := N2.out; have := N3.out; have := N4.out; omega); (case side3 => refine Kd.R_lower (pR HO19) ?_; have := N1.out; have := N2.out; have := N3.out; have := N4.out; omega); (case side4 => exact fun k_ p_ q_ => p_.1 (q_.1 : _))
 rintro e w14 ⟨rfl, ho0, ho1, hB1, hK1⟩
 replace HO14 := Aside0.mk (Kd.R_step (pR HO14) (fun k_ (ho_ : some k_ = (.slice Ao14 r11.length co14 : Value).ownBlock ∧ w3.heap.size ≤ k_ ∧ k_ < w4.heap.size) hl_ => hK1.2 k_ hl_ (fun (hs_ : (some k_ ≠ (.slice Ao19 r6.length co19 : Value).ownBlock ∧ (w4.heap.size + 1) ≤ k_ ∧ k_ < w5.heap.size) ∨ (some k_ = (.slice Ao19 r6.length co19 : Value).ownBlock ∧ (w4.heap.size + 1) ≤ k_ ∧ k_ < w5.heap.size)) => by have ha_ := ho_.2; have hb_ := (hs_.imp (fun y_ => y_.2) (fun y_ => y_.2)); have := N1.out; have := N2.out; have := N3.out; have := N4.out; have := N5.out; have := N6.out; have := N7.out; have := N8.out; have := N9.out; have := N10.out; have := N11.out; have := N12.out; have := N13.out; omega)))
 replace HO21 := Aside0.mk (Kd.R_step (pR HO21) (fun k_ (ho_ : some k_ = (.slice Ao21 r9.length co21 : Value).ownBlock ∧ (w5.heap.size + 1) ≤ k_ ∧ k_ < w6.heap.size) hl_ => hK1.2 k_ hl_ (fun (hs_ : (some k_ ≠ (.slice Ao19 r6.length co19 : Value).ownBlock ∧ (w4.heap.size + 1) ≤ k_ ∧ k_ < w5.heap.size) ∨ (some k_ = (.slice Ao19 r6.length co19 : Value).ownBlock ∧ (w4.heap.size + 1) ≤ k_ ∧ k_ < w5.heap.size)) => by have ha_ := ho_.2; have hb_ := (hs_.imp (fun y_ => y_.2) (fun y_ => y_.2)); have := N1.out; have := N2.out; have := N3.out; have := N4.out; have := N5.out; have := N6.out; have := N7.out; have := N8.out; have := N9.out; have := N10.out; have := N11.out; have := N12.out; have := N13.out; omega)))
 replace HO25 := Aside0.mk (Kd.R_step (pR HO25) (fun k_ (ho_ : some k_ = (.slice Ao25 r11.length co25 : Value).ownBlock ∧ w6.heap.size ≤ k_ ∧ k_ < w7.heap.size) hl_ => hK1.2 k_ hl_ (fun (hs_ : (some k_ ≠ (.slice Ao19 r6.length co19 : Value).ownBlock ∧ (w4.heap.size + 1) ≤ k_ ∧ k_ < w5.heap.size) ∨ (some k_ = (.slice Ao19 r6.length co19 : Value).ownBlock ∧ (w4.heap.size + 1) ≤ k_ ∧ k_ < w5.heap.size)) => by have ha_ := ho_.2; have hb_ := (hs_.imp (fun y_ => y_.2) (fun y_ => y_.2)); have := N1.out; have := N2.out; have := N3.out; have := N4.out; have := N5.out; have := N6.out; have := N7.out; have := N8.out; have := N9.out; have := N10.out; have := N11.out; have := N12.out; have := N13.out; omega)))
 replace BK2 := Aside0.mk (blk_kept (pB BK2) hK1 (fun hs_ => by have hs2_ : (some (w.heap.size) ≠ (.slice Ao19 r6.length co19 : Value).ownBlock ∧ (w4.heap.size + 1) ≤ (w.heap.size) ∧ (w.heap.size) < w5.heap.size) ∨ (some (w.heap.size) = (.slice Ao19 r6.length co19 : Value).ownBlock ∧ (w4.heap.size + 1) ≤ (w.heap.size) ∧ (w.heap.size) < w5.heap.size) := hs_; have hb_ := (hs2_.imp (fun y_ => y_.2) (fun y_ => y_.2)); have := N1.out; have := N2.out; have := N3.out; have := N4.out; have := N5.out; have := N6.out; have := N7.out; have := N8.out; have := N9.out; have := N10.out; have := N11.out; have := N12.out; have := N13.out; omega))
 replace BK20 := Aside0.mk (blk_kept (pB BK20) hK1 (fun hs_ => by have hs2_ : (some (w4.heap.size) ≠ (.slice Ao19 r6.length co19 : Value).ownBlock ∧ (w4.heap.size + 1) ≤ (w4.heap.size) ∧ (w4.heap.size) < w5.heap.size) ∨ (some (w4.heap.size) = (.slice Ao19 r6.length co19 : Value).ownBlock ∧ (w4.heap.size + 1) ≤ (w4.heap.size) ∧ (w4.heap.size) < w5.heap.size) := hs_; have hb_ := (hs2_.imp (fun y_ => y_.2) (fun y_ => y_.2)); have := N1.out; have := N2.out; have := N3.out; have := N4.out; have := N5.out; have := N6.out; have := N7.out; have := N8.out; have := N9.out; have := N10.out; have := N11.out; have := N12.out; have := N13.out; omega))
 replace BK22 := Aside0.mk (blk_kept (pB BK22) hK1 (fun hs_ => by have hs2_ : (some (w5.heap.size) ≠ (.slice Ao19 r6.length co19 : Value).ownBlock ∧ (w4.heap.size + 1) ≤ (w5.heap.size) ∧ (w5.heap.size) < w5.heap.size) ∨ (some (w5.heap.size) = (.slice Ao19 r6.length co19 : Value).ownBlock ∧ (w4.heap.size + 1) ≤ (w5.heap.size) ∧ (w5.heap.size) < w5.heap.size) := hs_; have hb_ := (hs2_.imp (fun y_ => y_.2) (fun y_ => y_.2)); have := N1.out; have := N2.out; have := N3.out; have := N4.out; have := N5.out; have := N6.out; have := N7.out; have := N8.out; have := N9.out; have := N10.out; have := N11.out; have := N12.out; have := N13.out; omega))
 replace BK29 := Aside0.mk (blk_kept (pB BK29) hK1 (fun hs_ => by have hs2_ : (some (w7.heap.size) ≠ (.slice Ao19 r6.length co19 : Value).ownBlock ∧ (w4.heap.size + 1) ≤ (w7.heap.size) ∧ (w7.heap.size) < w5.heap.size) ∨ (some (w7.heap.size) = (.slice Ao19 r6.length co19 : Value).ownBlock ∧ (w4.heap.size + 1) ≤ (w7.heap.size) ∧ (w7.heap.size) < w5.heap.size) := hs_; have hb_ := (hs2_.imp (fun y_ => y_.2) (fun y_ => y_.2)); have := N1.out; have := N2.out; have := N3.out; have := N4.out; have := N5.out; have := N6.out; have := N7.out; have := N8.out; have := N9.out; have := N10.out; have := N11.out; have := N12.out; have := N13.out; omega))
 have N14 := Aside0.mk (show w13.heap.size ≤ w14.heap.size from Nat.le_trans nL hK1.1)
 replace HB := Aside0.mk hB1
 replace HO18 := Aside0.mk (Kd.S_mono (ok' := fun k_ => (some k_ ≠ (.slice Ao19 r6.length co19 : Value).ownBlock ∧ (w4.heap.size + 1) ≤ k_ ∧ k_ < w5.heap.size) ∨ w13.heap.size ≤ k_) ho0 (fun k_ h_ => h_.imp id (fun z_ => Nat.le_trans nL z_)))
 replace HO19 := Aside0.mk (Kd.R_mono (ok' := fun k_ => (some k_ = (.slice Ao19 r6.length co19 : Value).ownBlock ∧ (w4.heap.size + 1) ≤ k_ ∧ k_ < w5.heap.size) ∨ w13.heap.size ≤ k_) ho1 (fun k_ h_ => h_.imp id (fun z_ => Nat.le_trans nL z_)))
 clear hK1 ho0 ho1 hB1
 clear hcz33 hcz34
 go_wp2_with (fail)
 (with_reducible refine (laws_markIntS.calls k (fun k_ => some k_ = (.slice Ao21 r9.length co21 : Value).ownBlock ∧ (w5.heap.size + 1) ≤ k_ ∧ k_ < w6.heap.size) (.slice Ao21 r9.length co21) r9 r35 r38 r39 w _ ?side1 ?side2 h10.out).mono ?_)
 (case side1 => exact bB HB); (case side2 => refine Kd.R_lower (pR HO21) ?_; have := N1.out; have := N2.out; have := N3.out; have := N4.out; have := N5.out; omega)
 rintro e w15 ⟨rfl, ho0, hB1, hK1⟩
 replace HO14 := Aside0.mk (Kd.R_step (pR HO14) (fun k_ (ho_ : some k_ = (.slice Ao14 r11.length co14 : Value).ownBlock ∧ w3.heap.size ≤ k_ ∧ k_ < w4.heap.size) hl_ => hK1.2 k_ hl_ (fun (hs_ : (some k_ = (.slice Ao21 r9.length co21 : Value).ownBlock ∧ (w5.heap.size + 1) ≤ k_ ∧ k_ < w6.heap.size)) => by have ha_ := ho_.2; have hb_ := hs_.2; have := N1.out; have := N2.out; have := N3.out; have := N4.out; have := N5.out; have := N6.out; have := N7.out; have := N8.out; have := N9.out; have := N10.out; have := N11.out; have := N12.out; have := N13.out; have := N14.out; omega)))
 replace HO25 := Aside0.mk (Kd.R_step (pR HO25) (fun k_ (ho_ : some k_ = (.slice Ao25 r11.length co25 : Value).ownBlock ∧ w6.heap.size ≤ k_ ∧ k_ < w7.heap.size) hl_ => hK1.2 k_ hl_ (fun (hs_ : (some k_ = (.slice Ao21 r9.length co21 : Value).ownBlock ∧ (w5.heap.size + 1) ≤ k_ ∧ k_ < w6.heap.size)) => by have ha_ := ho_.2; have hb_ := hs_.2; have := N1.out; have := N2.out; have := N3.out; have := N4.out; have := N5.out; have := N6.out; have := N7.out; have := N8.out; have := N9.out; have := N10.out; have := N11.out; have := N12.out; have := N13.out; have := N14.out; omega)))
 replace BK2 := Aside0.mk (blk_kept (pB BK2) hK1 (fun hs_ => by have hs2_ : (some (w.heap.size) = (.slice Ao21 r9.length co21 : Value).ownBlock ∧ (w5.heap.size + 1) ≤ (w.heap.size) ∧ (w.heap.size) < w6.heap.size) := hs_; have hb_ := hs2_.2; have := N1.out; have := N2.out; have := N3.out; have := N4.out; have := N5.out; have := N6.out; have := N7.out; have := N8.out; have := N9.out; have := N10.out; have := N11.out; have := N12.out; have := N13.out; have := N14.out; omega))
 replace BK20 := Aside0.mk (blk_kept (pB BK20) hK1 (fun hs_ => by have hs2_ : (some (w4.heap.size) = (.slice Ao21 r9.length co21 : Value).ownBlock ∧ (w5.heap.size + 1) ≤ (w4.heap.size) ∧ (w4.heap.size) < w6.heap.size) := hs_; have hb_ := hs2_.2; have := N1.out; have := N2.out; have := N3.out; have := N4.out; have := N5.out; have := N6.out; have := N7.out; have := N8.out; have := N9.out; have := N10.out; have := N11.out; have := N12.out; have := N13.out; have := N14.out; omega))
 replace BK22 := Aside0.mk (blk_kept (pB BK22) hK1 (fun hs_ => by have hs2_ : (some (w5.heap.size) = (.slice Ao21 r9.length co21 : Value).ownBlock ∧ (w5.heap.size + 1) ≤ (w5.heap.size) ∧ (w5.heap.size) < w6.heap.size) := hs_; have hb_ := hs2_.2; have := N1.out; have := N2.out; have := N3.out; have := N4.out; have := N5.out; have := N6.out; have := N7.out; have := N8.out; have := N9.out; have := N10.out; have := N11.out; have := N12.out; have := N13.out; have := N14.out; omega))
 replace BK29 := Aside0.mk (blk_kept (pB BK29) hK1 (fun hs_ => by have hs2_ : (some (w7.heap.size) = (.slice Ao21 r9.length co21 : Value).ownBlock ∧ (w5.heap.size + 1) ≤ (w7.heap.size) ∧ (w7.heap.size) < w6.heap.size) := hs_; have hb_ := hs2_.2; have := N1.out; have := N2.out; have := N3.out; have := N4.out; have := N5.out; have := N6.out; have := N7.out; have := N8.out; have := N9.out; have := N10.out; have := N11.out; have := N12.out; have := N13.out; have := N14.out; omega))
 have N15 := Aside0.mk (show w14.heap.size ≤ w15.heap.size from Nat.le_trans nL hK1.1)
 replace HB := Aside0.mk hB1
 replace HO21 := Aside0.mk (Kd.R_mono (ok' := fun k_ => (some k_ = (.slice Ao21 r9.length co21 : Value).ownBlock ∧ (w5.heap.size + 1) ≤ k_ ∧ k_ < w6.heap.size) ∨ w14.heap.size ≤ k_) ho0 (fun k_ h_ => h_.imp id (fun z_ => Nat.le_trans nL z_)))
 clear hK1 ho0 hB1
 have hcz40 : w15.cell? ⟨w7.heap.size, 0, none⟩ = some (.slice Ao25 r11.length co25) := (blk_cell BK29.out 0).trans rfl
 have hcz41 : w15.cell? ⟨w7.heap.size, 1, none⟩ = some (.int .i64 r12) := (blk_cell BK29.out 1).trans rfl
 have hcz42 : w15.cell? ⟨w4.heap.size, 0, none⟩ = some (.slice Ao14 r11.length co14) := (blk_cell BK20.out 0).trans rfl
 have hcz43 : w15.cell? ⟨w4.heap.size, 1, none⟩ = some (.int .i64 r12) := (blk_cell BK20.out 1).trans rfl
 go_wp2_with (fail)
 (with_reducible refine (laws_eqPlane.calls k _ _ r11 r12 _ _ r11 r12 true _ ?side1 ?side2 ?side3 ?side4 h6.out).mono ?_)
 (case side1 => exact cR HO25); (case side2 => exact (Kd.R_reads' HO25.out).2.1); (case side3 => exact cR HO14); (case side4 => exact (Kd.R_reads' HO14.out).2.1)
 rintro e w16 ⟨rfl, hb⟩
 replace HO14 := Aside0.mk (Kd.R_below (pR HO14) hb)
 replace HO25 := Aside0.mk (Kd.R_below (pR HO25) hb)
 replace BK2 := Aside0.mk (blk_below (g := w.heap.size) (o := .cells #[.slice A0_0 l0_0.length c0_0, .slice A0_1 l0_1.length c0_1] 48 (0, 0)) (pB BK2) hb)
 replace BK20 := Aside0.mk (blk_below (g := w4.heap.size) (o := .cells #[.slice Ao14 r11.length co14, .int .i64 r12] 39 (0, 0)) (pB BK20) hb)
 replace BK22 := Aside0.mk (blk_below (g := w5.heap.size) (o := .cells #[.slice Ao18 r5.length co18, .slice Ao19 r6.length co19] 52 (0, 0)) (pB BK22) hb)
 replace BK29 := Aside0.mk (blk_below (g := w7.heap.size) (o := .cells #[.slice Ao25 r11.length co25, .int .i64 r12] 39 (0, 0)) (pB BK29) hb)
 have N16 := Aside0.mk (show w15.heap.size + 0 ≤ w16.heap.size from Nat.le_trans nL hb.size)
 replace HB := Aside0.mk (below_step (bB HB) hb)
 clear hb
 clear hcz40 hcz41 hcz42 hcz43
 have hcz44 : w16.cell? ⟨w7.heap.size, 0, none⟩ = some (.slice Ao25 r11.length co25) := (blk_cell BK29.out 0).trans rfl
 have hcz45 : w16.cell? ⟨w7.heap.size, 1, none⟩ = some (.int .i64 r12) := (blk_cell BK29.out 1).trans rfl
 go_wp2_with (fail)
 (with_reducible refine (laws_markPlane.calls k (fun k_ => some k_ = (.slice Ao25 r11.length co25 : Value).ownBlock ∧ w6.heap.size ≤ k_ ∧ k_ < w7.heap.size) (.slice Ao25 r11.length co25) r11 r12 1 r46 r47 w _ ?side1 ?side2 h11.out).mono ?_)
 (case side1 => exact bB HB); (case side2 => refine Kd.R_lower (pR HO25) ?_; have := N1.out; have := N2.out; have := N3.out; have := N4.out; have := N5.out; have := N6.out; omega)
 rintro e w17 ⟨rfl, ho0, hB1, hK1⟩
 replace HO14 := Aside0.mk (Kd.R_step (pR HO14) (fun k_ (ho_ : some k_ = (.slice Ao14 r11.length co14 : Value).ownBlock ∧ w3.heap.size ≤ k_ ∧ k_ < w4.heap.size) hl_ => hK1.2 k_ hl_ (fun (hs_ : (some k_ = (.slice Ao25 r11.length co25 : Value).ownBlock ∧ w6.heap.size ≤ k_ ∧ k_ < w7.heap.size)) => by have ha_ := ho_.2; have hb_ := hs_.2; have := N1.out; have := N2.out; have := N3.out; have := N4.out; have := N5.out; have := N6.out; have := N7.out; have := N8.out; have := N9.out; have := N10.out; have := N11.out; have := N12.out; have := N13.out; have := N14.out; have := N15.out; have := N16.out; omega)))
 replace BK2 := Aside0.mk (blk_kept (pB BK2) hK1 (fun hs_ => by have hs2_ : (some (w.heap.size) = (.slice Ao25 r11.length co25 : Value).ownBlock ∧ w6.heap.size ≤ (w.heap.size) ∧ (w.heap.size) < w7.heap.size) := hs_; have hb_ := hs2_.2; have := N1.out; have := N2.out; have := N3.out; have := N4.out; have := N5.out; have := N6.out; have := N7.out; have := N8.out; have := N9.out; have := N10.out; have := N11.out; have := N12.out; have := N13.out; have := N14.out; have := N15.out; have := N16.out; omega))
 replace BK20 := Aside0.mk (blk_kept (pB BK20) hK1 (fun hs_ => by have hs2_ : (some (w4.heap.size) = (.slice Ao25 r11.length co25 : Value).ownBlock ∧ w6.heap.size ≤ (w4.heap.size) ∧ (w4.heap.size) < w7.heap.size) := hs_; have hb_ := hs2_.2; have := N1.out; have := N2.out; have := N3.out; have := N4.out; have := N5.out; have := N6.out; have := N7.out; have := N8.out; have := N9.out; have := N10.out; have := N11.out; have := N12.out; have := N13.out; have := N14.out; have := N15.out; have := N16.out; omega))
 replace BK22 := Aside0.mk (blk_kept (pB BK22) hK1 (fun hs_ => by have hs2_ : (some (w5.heap.size) = (.slice Ao25 r11.length co25 : Value).ownBlock ∧ w6.heap.size ≤ (w5.heap.size) ∧ (w5.heap.size) < w7.heap.size) := hs_; have hb_ := hs2_.2; have := N1.out; have := N2.out; have := N3.out; have := N4.out; have := N5.out; have := N6.out; have := N7.out; have := N8.out; have := N9.out; have := N10.out; have := N11.out; have := N12.out; have := N13.out; have := N14.out; have := N15.out; have := N16.out; omega))
 replace BK29 := Aside0.mk (blk_kept (pB BK29) hK1 (fun hs_ => by have hs2_ : (some (w7.heap.size) = (.slice Ao25 r11.length co25 : Value).ownBlock ∧ w6.heap.size ≤ (w7.heap.size) ∧ (w7.heap.size) < w7.heap.size) := hs_; have hb_ := hs2_.2; have := N1.out; have := N2.out; have := N3.out; have := N4.out; have := N5.out; have := N6.out; have := N7.out; have := N8.out; have := N9.out; have := N10.out; have := N11.out; have := N12.out; have := N13.out; have := N14.out; have := N15.out; have := N16.out; omega))
 have N17 := Aside0.mk (show w16.heap.size ≤ w17.heap.size from Nat.le_trans nL hK1.1)
 replace HB := Aside0.mk hB1
 replace HO25 := Aside0.mk (Kd.R_mono (ok' := fun k_ => (some k_ = (.slice Ao25 r11.length co25 : Value).ownBlock ∧ w6.heap.size ≤ k_ ∧ k_ < w7.heap.size) ∨ w16.heap.size ≤ k_) ho0 (fun k_ h_ => h_.imp id (fun z_ => Nat.le_trans nL z_)))
 clear hK1 ho0 hB1
 clear hcz44 hcz45
 have hcz48 : w17.cell? ⟨w7.heap.size, 0, none⟩ = some (.slice Ao25 r11.length co25) := (blk_cell BK29.out 0).trans rfl
 have hcz49 : w17.cell? ⟨w7.heap.size, 1, none⟩ = some (.int .i64 r12) := (blk_cell BK29.out 1).trans rfl
 go_wp2_with (fail)
 refine calls_of_args (args' := #[.agg #[.slice Ao25 r47.length co25, .int .i64 r12], .int .i64 1]) (by rw [(Kd.R_reads' HO25.out).1]) ?_
 (with_reducible refine (laws_heldPlane.calls k _ _ r47 r12 1 r46 _ ?side1 ?side2 h12.out).mono ?_)
 (case side1 => exact cR HO25); (case side2 => have e_ := Kd.R_reads' HO25.out; rw [← e_.1]; exact e_.2.1)
 rintro e w18 ⟨rfl, hb⟩
 replace HO14 := Aside0.mk (Kd.R_below (pR HO14) hb)
 replace HO25 := Aside0.mk (Kd.R_below (pR HO25) hb)
 replace BK2 := Aside0.mk (blk_below (g := w.heap.size) (o := .cells #[.slice A0_0 l0_0.length c0_0, .slice A0_1 l0_1.length c0_1] 48 (0, 0)) (pB BK2) hb)
 replace BK20 := Aside0.mk (blk_below (g := w4.heap.size) (o := .cells #[.slice Ao14 r11.length co14, .int .i64 r12] 39 (0, 0)) (pB BK20) hb)
 replace BK22 := Aside0.mk (blk_below (g := w5.heap.size) (o := .cells #[.slice Ao18 r5.length co18, .slice Ao19 r6.length co19] 52 (0, 0)) (pB BK22) hb)
 replace BK29 := Aside0.mk (blk_below (g := w7.heap.size) (o := .cells #[.slice Ao25 r11.length co25, .int .i64 r12] 39 (0, 0)) (pB BK29) hb)
 have N18 := Aside0.mk (show w17.heap.size + 0 ≤ w18.heap.size from Nat.le_trans nL hb.size)
 replace HB := Aside0.mk (below_step (bB HB) hb)
 clear hb
 clear hcz48 hcz49
 have hcz50 : w18.cell? ⟨w.heap.size, 0, none⟩ = some (.slice A0_0 l0_0.length c0_0) := (blk_cell BK2.out 0).trans rfl
 have hcz51 : w18.cell? ⟨w.heap.size, 1, none⟩ = some (.slice A0_1 l0_1.length c0_1) := (blk_cell BK2.out 1).trans rfl
 go_wp2_with (fail)
 (with_reducible refine (laws_toSample.calls k _ _ l0_0 _ _ l0_1 r5 r6 _ ?side1 ?side2 ?side3 ?side4 h2.out).mono ?_)
 (case side1 => exact cB HR0_0 HB); (case side2 => exact HC0_0.out); (case side3 => exact cB HR0_1 HB); (case side4 => exact HC0_1.out)
 rintro e w19 ⟨v52, v53, rfl, ho0, ho1, hb⟩
 replace HO14 := Aside0.mk (Kd.R_below (pR HO14) hb)
 replace HO25 := Aside0.mk (Kd.R_below (pR HO25) hb)
 replace BK2 := Aside0.mk (blk_below (g := w.heap.size) (o := .cells #[.slice A0_0 l0_0.length c0_0, .slice A0_1 l0_1.length c0_1] 48 (0, 0)) (pB BK2) hb)
 replace BK20 := Aside0.mk (blk_below (g := w4.heap.size) (o := .cells #[.slice Ao14 r11.length co14, .int .i64 r12] 39 (0, 0)) (pB BK20) hb)
 replace BK22 := Aside0.mk (blk_below (g := w5.heap.size) (o := .cells #[.slice Ao18 r5.length co18, .slice Ao19 r6.length co19] 52 (0, 0)) (pB BK22) hb)
 replace BK29 := Aside0.mk (blk_below (g := w7.heap.size) (o := .cells #[.slice Ao25 r11.length co25, .int .i64 r12] 39 (0, 0)) (pB BK29) hb)
 have N19 := Aside0.mk (show w18.heap.size + 0 ≤ w19.heap.size from Nat.le_trans nL hb.size)
 replace HB := Aside0.mk (below_step (bB HB) hb)
 have HO52 := Aside0.mk (S_ivl (b0 := w18.heap.size) ho0 nL)
 have HO53 := Aside0.mk (R_ivl (b0 := w18.heap.size) (Kd.R_tight rfl ho1) nL)
 clear hb ho0 ho1
 obtain ⟨Ao52, co52, eo52⟩ := Kd.S_slice HO52.out
 subst eo52
 obtain ⟨Ao53, co53, eo53⟩ := Kd.R_slice HO53.out
 subst eo53
 clear hcz50 hcz51
 go_wp2_with (fail)
 (with_reducible refine (laws_toIntS.calls k _ _ l1 r9 _ ?side1 ?side2 h3.out).mono ?_)
 (case side1 => exact cB HR1 HB); (case side2 => exact HC1.out)
 rintro e w20 ⟨v54, rfl, ho0, hb⟩
 replace HO14 := Aside0.mk (Kd.R_below (pR HO14) hb)
 replace HO25 := Aside0.mk (Kd.R_below (pR HO25) hb)
 replace HO52 := Aside0.mk (Kd.S_below (pS HO52) hb)
 replace HO53 := Aside0.mk (Kd.R_below (pR HO53) hb)
 replace BK2 := Aside0.mk (blk_below (g := w.heap.size) (o := .cells #[.slice A0_0 l0_0.length c0_0, .slice A0_1 l0_1.length c0_1] 48 (0, 0)) (pB BK2) hb)
 replace BK20 := Aside0.mk (blk_below (g := w4.heap.size) (o := .cells #[.slice Ao14 r11.length co14, .int .i64 r12] 39 (0, 0)) (pB BK20) hb)
 replace BK22 := Aside0.mk (blk_below (g := w5.heap.size) (o := .cells #[.slice Ao18 r5.length co18, .slice Ao19 r6.length co19] 52 (0, 0)) (pB BK22) hb)
 replace BK29 := Aside0.mk (blk_below (g := w7.heap.size) (o := .cells #[.slice Ao25 r11.length co25, .int .i64 r12] 39 (0, 0)) (pB BK29) hb)
 have N20 := Aside0.mk (show w19.heap.size + 0 ≤ w20.heap.size from Nat.le_trans nL hb.size)
 replace HB := Aside0.mk (below_step (bB HB) hb)
 have HO54 := Aside0.mk (R_ivl (b0 := w19.heap.size) (Kd.R_tight rfl ho0) nL)
 clear hb ho0
 obtain ⟨Ao54, co54, eo54⟩ := Kd.R_slice HO54.out
 subst eo54
 go_wp2_with (fail)
 (with_reducible refine (impl_BestStump.calls k _ _ r5 _ _ r6 _ _ r9 r11 r12 r13 _ ?side1 ?side2 ?side3 ?side4 ?side5 ?side6 h5.out).mono ?_)
 (case side1 => exact cS HO52); (case side2 => exact (Kd.S_reads' HO52.out).2.1); (case side3 => exact cR HO53); (case side4 => exact (Kd.R_reads' HO53.out).2.1); (case side5 => exact cR HO54); (case side6 => exact (Kd.R_reads' HO54.out).2.1)
 rintro e w21 ⟨v55, rfl, ho0, hb⟩
 replace HO14 := Aside0.mk (Kd.R_below (pR HO14) hb)
 replace HO25 := Aside0.mk (Kd.R_below (pR HO25) hb)
 replace HO52 := Aside0.mk (Kd.S_below (pS HO52) hb)
 replace HO53 := Aside0.mk (Kd.R_below (pR HO53) hb)
 replace HO54 := Aside0.mk (Kd.R_below (pR HO54) hb)
 replace BK2 := Aside0.mk (blk_below (g := w.heap.size) (o := .cells #[.slice A0_0 l0_0.length c0_0, .slice A0_1 l0_1.length c0_1] 48 (0, 0)) (pB BK2) hb)
 replace BK20 := Aside0.mk (blk_below (g := w4.heap.size) (o := .cells #[.slice Ao14 r11.length co14, .int .i64 r12] 39 (0, 0)) (pB BK20) hb)
 replace BK22 := Aside0.mk (blk_below (g := w5.heap.size) (o := .cells #[.slice Ao18 r5.length co18, .slice Ao19 r6.length co19] 52 (0, 0)) (pB BK22) hb)
 replace BK29 := Aside0.mk (blk_below (g := w7.heap.size) (o := .cells #[.slice Ao25 r11.length co25, .int .i64 r12] 39 (0, 0)) (pB BK29) hb)
 have N21 := Aside0.mk (show w20.heap.size + 0 ≤ w21.heap.size from Nat.le_trans nL hb.size)
 replace HB := Aside0.mk (below_step (bB HB) hb)
 have HO55 := Aside0.mk (R_ivl (b0 := w20.heap.size) (Kd.R_tight rfl ho0) nL)
 clear hb ho0
 obtain ⟨Ao55, co55, eo55⟩ := Kd.R_slice HO55.out
 subst eo55
 have hne56 := blk_lt BK20.out
 have hcz57 : w21.cell? ⟨w4.heap.size, 0, none⟩ = some (.slice Ao14 r11.length co14) := (blk_cell BK20.out 0).trans rfl
 have hcz58 : w21.cell? ⟨w4.heap.size, 1, none⟩ = some (.int .i64 r12) := (blk_cell BK20.out 1).trans rfl
 go_wp2_with (fail)
 (with_reducible refine (laws_eqPlane.calls k _ _ r11 r12 _ _ r11 r12 true _ ?side1 ?side2 ?side3 ?side4 h6.out).mono ?_)
 (case side1 => exact cR HO55); (case side2 => exact (Kd.R_reads' HO55.out).2.1); (case side3 => exact cR HO14); (case side4 => exact (Kd.R_reads' HO14.out).2.1)
 rintro e w22 ⟨rfl, hb⟩
 replace HO14 := Aside0.mk (Kd.R_below (pR HO14) hb)
 replace HO25 := Aside0.mk (Kd.R_below (pR HO25) hb)
 replace HO55 := Aside0.mk (Kd.R_below (pR HO55) hb)
 replace BK2 := Aside0.mk (blk_below (g := w.heap.size) (o := .cells #[.slice A0_0 l0_0.length c0_0, .slice A0_1 l0_1.length c0_1] 48 (0, 0)) (pB BK2) hb)
 replace BK20 := Aside0.mk (blk_below (g := w4.heap.size) (o := .cells #[.slice Ao14 r11.length co14, .int .i64 r12] 39 (0, 0)) (pB BK20) hb)
 replace BK22 := Aside0.mk (blk_below (g := w5.heap.size) (o := .cells #[.slice Ao18 r5.length co18, .slice Ao19 r6.length co19] 52 (0, 0)) (pB BK22) hb)
 replace BK29 := Aside0.mk (blk_below (g := w7.heap.size) (o := .cells #[.slice Ao25 r11.length co25, .int .i64 r12] 39 (0, 0)) (pB BK29) hb)
 have BK59 := Aside0.mk (blk_below (g := w21.heap.size) (o := .cells #[.slice Ao55 r11.length co55, .int .i64 r12] 39 (0, 0)) (by repeat (first | exact blk_at _ (by first | rfl | (simp; done)) | refine blk_alloc ?_ _ | refine blk_drew ?_ | refine blk_drewN ?_ _)) hb)
 have N22 := Aside0.mk (show w21.heap.size + 1 ≤ w22.heap.size from Nat.le_trans nL hb.size)
 replace HB := Aside0.mk (below_step (bB HB) hb)
 clear hb
 clear hne56 hcz57 hcz58
 have hcz60 : w22.cell? ⟨w7.heap.size, 0, none⟩ = some (.slice Ao25 r11.length co25) := (blk_cell BK29.out 0).trans rfl
 have hcz61 : w22.cell? ⟨w7.heap.size, 1, none⟩ = some (.int .i64 r12) := (blk_cell BK29.out 1).trans rfl
 go_wp2_with (fail)
 refine calls_of_args (args' := #[.agg #[.slice Ao25 r47.length co25, .int .i64 r12], .int .i64 1]) (by rw [(Kd.R_reads' HO25.out).1]) ?_
 (with_reducible refine (laws_heldPlane.calls k _ _ r47 r12 1 r46 _ ?side1 ?side2 h12.out).mono ?_)
 (case side1 => exact cR HO25); (case side2 => have e_ := Kd.R_reads' HO25.out; rw [← e_.1]; exact e_.2.1)
 rintro e w23 ⟨rfl, hb⟩
 replace HO25 := Aside0.mk (Kd.R_below (pR HO25) hb)
 replace BK2 := Aside0.mk (blk_below (g := w.heap.size) (o := .cells #[.slice A0_0 l0_0.length c0_0, .slice A0_1 l0_1.length c0_1] 48 (0, 0)) (pB BK2) hb)
 replace BK20 := Aside0.mk (blk_below (g := w4.heap.size) (o := .cells #[.slice Ao14 r11.length co14, .int .i64 r12] 39 (0, 0)) (pB BK20) hb)
 replace BK22 := Aside0.mk (blk_below (g := w5.heap.size) (o := .cells #[.slice Ao18 r5.length co18, .slice Ao19 r6.length co19] 52 (0, 0)) (pB BK22) hb)
 replace BK29 := Aside0.mk (blk_below (g := w7.heap.size) (o := .cells #[.slice Ao25 r11.length co25, .int .i64 r12] 39 (0, 0)) (pB BK29) hb)
 replace BK59 := Aside0.mk (blk_below (g := w21.heap.size) (o := .cells #[.slice Ao55 r11.length co55, .int .i64 r12] 39 (0, 0)) (pB BK59) hb)
 have N23 := Aside0.mk (show w22.heap.size + 0 ≤ w23.heap.size from Nat.le_trans nL hb.size)
 replace HB := Aside0.mk (below_step (bB HB) hb)
 clear hb
 clear hcz60 hcz61
 go_wp2_with (fail)
 go_ret
 exact ⟨rfl, (bB HB)⟩

end Go.Proofs.Ytfkfahdikmfpeaa.GFnExactBestStump
