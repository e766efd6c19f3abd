import Derived.Test.YtniebbjbihenfaaPFnExactSidesSamplex
import Derived.Test.YtniebbjbihenfaaKFnExactSidesSample
import Derived.Test.YtniebbjbihenfaaMc
import Derived.Test.YtniebbjbihenfaaSh
namespace Go.Proofs.Ytniebbjbihenfaa.GFnExactSidesSample
open Go.RowKit Go.Proofs.Ytniebbjbihenfaa.Sh Go.Proofs.Ytniebbjbihenfaa.KFnExactSidesSample Go.Proofs.Ytniebbjbihenfaa.Mc Go.Proofs.Ytniebbjbihenfaa.PFnExactSidesSample Go.Proofs.YtniebbjbihenfaaW.PrintWords Go.Proofs.YtniebbjbihenfaaW.PrintLast Go.Proofs.YtniebbjbihenfaaW.PrintMore
set_option linter.unusedVariables false
set_option linter.unusedSimpArgs false
set_option maxHeartbeats 8000000 in
set_option maxRecDepth 100000 in
theorem big0 (k : Nat) (A0_0 : Option Addr) (c0_0 : Nat) (l0_0 : List (List Int)) (A0_1 : Option Addr) (c0_1 : Nat) (l0_1 : List Int) (A1 : Option Addr) (c1 : Nat) (l1 : List S37) (r1 : Int) (w : World) (hr0_0 : Kd.C (Kd.slice 3 (Kd.int .i64)) w A0_0 l0_0.length l0_0) (hc0_0 : l0_0.length ≤ c0_0) (hr0_1 : Kd.C (Kd.int .i64) w A0_1 l0_1.length l0_1) (hc0_1 : l0_1.length ≤ c0_1) (hr1 : Kd.C k37 w A1 l1.length l1) (hc1 : l1.length ≤ c1) (h1 : laws_szSample.f k l0_0 l0_1 1048576 = some r1) (q0 : r1 < 0) :
 Calls Try.prog 9 #[.agg #[.slice A0_0 l0_0.length c0_0, .slice A0_1 l0_1.length c0_1], .slice A1 l1.length c1] w fun e w' => e = .returned (.bool true) ∧ Below w.heap.size w w' := by
 have HR0_0 := Aside0.mk hr0_0
 have HC0_0 := Aside0.mk hc0_0
 clear hr0_0 hc0_0
 have HR0_1 := Aside0.mk hr0_1
 have HC0_1 := Aside0.mk hc0_1
 clear hr0_1 hc0_1
 have HR1 := Aside0.mk hr1
 have HC1 := Aside0.mk hc1
 clear hr1 hc1
 have HB := Aside0.mk (Below.refl w.heap.size w)
 replace h1 := Aside0.mk h1
 have d0 : decide (r1 < 0) = true := decide_eq_true (by omega)
 clear q0
 go_enter Try.func9, Try.ntmps9
 go_wp2_with (fail)
 (with_reducible refine (laws_szSample.calls k _ _ l0_0 _ _ l0_1 1048576 r1 _ ?side1 ?side2 ?side3 ?side4 h1.out).mono ?_)
 (case side1 => exact cB HR0_0 HB); (case side2 => exact HC0_0.out); (case side3 => exact cB HR0_1 HB); (case side4 => exact HC0_1.out)
 rintro e w1 ⟨rfl, hb⟩
 have BK2 := Aside0.mk (blk_below (g := w.heap.size) (o := .cells #[.slice A0_0 l0_0.length c0_0, .slice A0_1 l0_1.length c0_1] 25 (0, 0)) (by repeat (first | exact blk_at _ (by first | rfl | (simp; done)) | refine blk_alloc ?_ _ | refine blk_drew ?_ | refine blk_drewN ?_ _)) hb)
 have N1 := Aside0.mk (show w.heap.size + 1 ≤ w1.heap.size from Nat.le_trans nL hb.size)
 replace HB := Aside0.mk (below_step (bB HB) hb)
 clear hb
 go_wp2_with (fail)
 go_ret
 exact ⟨rfl, (bB HB)⟩


set_option maxHeartbeats 8000000 in
set_option maxRecDepth 100000 in
theorem big1 (k : Nat) (A0_0 : Option Addr) (c0_0 : Nat) (l0_0 : List (List Int)) (A0_1 : Option Addr) (c0_1 : Nat) (l0_1 : List Int) (A1 : Option Addr) (c1 : Nat) (l1 : List S37) (r1 : Int) (r3 : Int) (w : World) (hr0_0 : Kd.C (Kd.slice 3 (Kd.int .i64)) w A0_0 l0_0.length l0_0) (hc0_0 : l0_0.length ≤ c0_0) (hr0_1 : Kd.C (Kd.int .i64) w A0_1 l0_1.length l0_1) (hc0_1 : l0_1.length ≤ c0_1) (hr1 : Kd.C k37 w A1 l1.length l1) (hc1 : l1.length ≤ c1) (h1 : laws_szSample.f k l0_0 l0_1 1048576 = some r1) (h2 : laws_szPlaneS.f k l1 r1 = some r3) (q0 : 0 ≤ r1) (q1 : r3 < 0) :
 Calls Try.prog 9 #[.agg #[.slice A0_0 l0_0.length c0_0, .slice A0_1 l0_1.length c0_1], .slice A1 l1.length c1] w fun e w' => e = .returned (.bool true) ∧ Below w.heap.size w w' := by
 have HR0_0 := Aside0.mk hr0_0
 have HC0_0 := Aside0.mk hc0_0
 clear hr0_0 hc0_0
 have HR0_1 := Aside0.mk hr0_1
 have HC0_1 := Aside0.mk hc0_1
 clear hr0_1 hc0_1
 have HR1 := Aside0.mk hr1
 have HC1 := Aside0.mk hc1
 clear hr1 hc1
 have HB := Aside0.mk (Below.refl w.heap.size w)
 replace h1 := Aside0.mk h1
 replace h2 := Aside0.mk h2
 have d0 : decide (r1 < 0) = false := decide_eq_false (by omega)
 have d1 : decide (r3 < 0) = true := decide_eq_true (by omega)
 clear q0 q1
 go_enter Try.func9, Try.ntmps9
 go_wp2_with (fail)
 (with_reducible refine (laws_szSample.calls k _ _ l0_0 _ _ l0_1 1048576 r1 _ ?side1 ?side2 ?side3 ?side4 h1.out).mono ?_)
 (case side1 => exact cB HR0_0 HB); (case side2 => exact HC0_0.out); (case side3 => exact cB HR0_1 HB); (case side4 => exact HC0_1.out)
 rintro e w1 ⟨rfl, hb⟩
 have BK2 := Aside0.mk (blk_below (g := w.heap.size) (o := .cells #[.slice A0_0 l0_0.length c0_0, .slice A0_1 l0_1.length c0_1] 25 (0, 0)) (by repeat (first | exact blk_at _ (by first | rfl | (simp; done)) | refine blk_alloc ?_ _ | refine blk_drew ?_ | refine blk_drewN ?_ _)) hb)
 have N1 := Aside0.mk (show w.heap.size + 1 ≤ w1.heap.size from Nat.le_trans nL hb.size)
 replace HB := Aside0.mk (below_step (bB HB) hb)
 clear hb
 go_wp2_with (fail)
 (with_reducible refine (laws_szPlaneS.calls k _ _ l1 r1 r3 _ ?side1 ?side2 h2.out).mono ?_)
 (case side1 => exact cB HR1 HB); (case side2 => exact HC1.out)
 rintro e w2 ⟨rfl, hb⟩
 replace BK2 := Aside0.mk (blk_below (g := w.heap.size) (o := .cells #[.slice A0_0 l0_0.length c0_0, .slice A0_1 l0_1.length c0_1] 25 (0, 0)) (pB BK2) hb)
 have N2 := Aside0.mk (show w1.heap.size + 0 ≤ w2.heap.size from Nat.le_trans nL hb.size)
 replace HB := Aside0.mk (below_step (bB HB) hb)
 clear hb
 have hcz4 : w2.cell? ⟨w.heap.size, 0, none⟩ = some (.slice A0_0 l0_0.length c0_0) := (blk_cell BK2.out 0).trans rfl
 have hcz5 : w2.cell? ⟨w.heap.size, 1, none⟩ = some (.slice A0_1 l0_1.length c0_1) := (blk_cell BK2.out 1).trans rfl
 go_wp2_with (fail)
 go_ret
 exact ⟨rfl, (bB HB)⟩


set_option maxHeartbeats 8000000 in
set_option maxRecDepth 100000 in
theorem good (k : Nat) (A0_0 : Option Addr) (c0_0 : Nat) (l0_0 : List (List Int)) (A0_1 : Option Addr) (c0_1 : Nat) (l0_1 : List Int) (A1 : Option Addr) (c1 : Nat) (l1 : List S37) (r1 : Int) (r3 : Int) (r6 : List (List Int)) (r7 : List Int) (r10 : List (S42)) (r12 : List (List Int)) (r13 : List Int) (r14 : Bool) (r38 : Int) (r39 : List (List Int)) (r40 : List Int) (r41 : Int) (r42 : List S42) (r49 : Int) (r50 : List (List Int)) (r51 : List Int) (w : World) (hr0_0 : Kd.C (Kd.slice 3 (Kd.int .i64)) w A0_0 l0_0.length l0_0) (hc0_0 : l0_0.length ≤ c0_0) (hr0_1 : Kd.C (Kd.int .i64) w A0_1 l0_1.length l0_1) (hc0_1 : l0_1.length ≤ c0_1) (hr1 : Kd.C k37 w A1 l1.length l1) (hc1 : l1.length ≤ c1) (h1 : laws_szSample.f k l0_0 l0_1 1048576 = some r1) (h2 : laws_szPlaneS.f k l1 r1 = some r3) (h3 : laws_toSample.f k l0_0 l0_1 = some (r6, r7)) (h4 : laws_toPlaneS.f k l1 = some r10) (h5 : spec_SidesSample.f k r6 r7 r10 = some (r12, r13, r14)) (h6 : impl_SidesSample.f k r6 r7 r10 = some (r12, r13, r14)) (h7 : laws_eqSample.f k r12 r13 r12 r13 = some true) (h8 : laws_eqSample.f k r6 r7 r6 r7 = some true) (h9 : laws_eqPlaneS.f k r10 r10 = some true) (h10 : laws_markSample.f k r6 r7 1 = some (r38, r39, r40)) (h11 : laws_markPlaneS.f k r10 r38 = some (r41, r42)) (h12 : laws_markSample.f k r12 r13 1 = some (r49, r50, r51)) (h13 : laws_heldSample.f k r50 r51 1 = some r49) (q0 : 0 ≤ r1) (q1 : 0 ≤ r3) (q2 : 0 ≤ r38) (q3 : 0 ≤ r41) (q4 : 0 ≤ r49) :
 Calls Try.prog 9 #[.agg #[.slice A0_0 l0_0.length c0_0, .slice A0_1 l0_1.length c0_1], .slice A1 l1.length c1] w fun e w' => e = .returned (.bool true) ∧ Below w.heap.size w w' := by
 have HR0_0 := Aside0.mk hr0_0
 have HC0_0 := Aside0.mk hc0_0
 clear hr0_0 hc0_0
 have HR0_1 := Aside0.mk hr0_1
 have HC0_1 := Aside0.mk hc0_1
 clear hr0_1 hc0_1
 have HR1 := Aside0.mk hr1
 have HC1 := Aside0.mk hc1
 clear hr1 hc1
 have HB := Aside0.mk (Below.refl w.heap.size w)
 replace h1 := Aside0.mk h1
 replace h2 := Aside0.mk h2
 replace h3 := Aside0.mk h3
 replace h4 := Aside0.mk h4
 replace h5 := Aside0.mk h5
 replace h6 := Aside0.mk h6
 replace h7 := Aside0.mk h7
 replace h8 := Aside0.mk h8
 replace h9 := Aside0.mk h9
 replace h10 := Aside0.mk h10
 replace h11 := Aside0.mk h11
 replace h12 := Aside0.mk h12
 replace h13 := Aside0.mk h13
 have d0 : decide (r1 < 0) = false := decide_eq_false (by omega)
 have d1 : decide (r3 < 0) = false := decide_eq_false (by omega)
 have d2 : decide (r38 < 0) = false := decide_eq_false (by omega)
 have d3 : decide (r41 < 0) = false := decide_eq_false (by omega)
 have d4 : decide (r49 < 0) = false := decide_eq_false (by omega)
 clear q0 q1 q2 q3 q4
 go_enter Try.func9, Try.ntmps9
 go_wp2_with (fail)
 (with_reducible refine (laws_szSample.calls k _ _ l0_0 _ _ l0_1 1048576 r1 _ ?side1 ?side2 ?side3 ?side4 h1.out).mono ?_)
 (case side1 => exact cB HR0_0 HB); (case side2 => exact HC0_0.out); (case side3 => exact cB HR0_1 HB); (case side4 => exact HC0_1.out)
 rintro e w1 ⟨rfl, hb⟩
 have BK2 := Aside0.mk (blk_below (g := w.heap.size) (o := .cells #[.slice A0_0 l0_0.length c0_0, .slice A0_1 l0_1.length c0_1] 25 (0, 0)) (by repeat (first | exact blk_at _ (by first | rfl | (simp; done)) | refine blk_alloc ?_ _ | refine blk_drew ?_ | refine blk_drewN ?_ _)) hb)
 have N1 := Aside0.mk (show w.heap.size + 1 ≤ w1.heap.size from Nat.le_trans nL hb.size)
 replace HB := Aside0.mk (below_step (bB HB) hb)
 clear hb
 go_wp2_with (fail)
 (with_reducible refine (laws_szPlaneS.calls k _ _ l1 r1 r3 _ ?side1 ?side2 h2.out).mono ?_)
 (case side1 => exact cB HR1 HB); (case side2 => exact HC1.out)
 rintro e w2 ⟨rfl, hb⟩
 replace BK2 := Aside0.mk (blk_below (g := w.heap.size) (o := .cells #[.slice A0_0 l0_0.length c0_0, .slice A0_1 l0_1.length c0_1] 25 (0, 0)) (pB BK2) hb)
 have N2 := Aside0.mk (show w1.heap.size + 0 ≤ w2.heap.size from Nat.le_trans nL hb.size)
 replace HB := Aside0.mk (below_step (bB HB) hb)
 clear hb
 have hcz4 : w2.cell? ⟨w.heap.size, 0, none⟩ = some (.slice A0_0 l0_0.length c0_0) := (blk_cell BK2.out 0).trans rfl
 have hcz5 : w2.cell? ⟨w.heap.size, 1, none⟩ = some (.slice A0_1 l0_1.length c0_1) := (blk_cell BK2.out 1).trans rfl
 go_wp2_with (fail)
 (with_reducible refine (laws_toSample.calls k _ _ l0_0 _ _ l0_1 r6 r7 _ ?side1 ?side2 ?side3 ?side4 h3.out).mono ?_)
 (case side1 => exact cB HR0_0 HB); (case side2 => exact HC0_0.out); (case side3 => exact cB HR0_1 HB); (case side4 => exact HC0_1.out)
 rintro e w3 ⟨v8, v9, rfl, ho0, ho1, hb⟩
 replace BK2 := Aside0.mk (blk_below (g := w.heap.size) (o := .cells #[.slice A0_0 l0_0.length c0_0, .slice A0_1 l0_1.length c0_1] 25 (0, 0)) (pB BK2) hb)
 have N3 := Aside0.mk (show w2.heap.size + 0 ≤ w3.heap.size from Nat.le_trans nL hb.size)
 replace HB := Aside0.mk (below_step (bB HB) hb)
 have HO8 := Aside0.mk (S_ivl (b0 := w2.heap.size) ho0 nL)
 have HO9 := Aside0.mk (R_ivl (b0 := w2.heap.size) (Kd.R_tight rfl ho1) nL)
 clear hb ho0 ho1
 obtain ⟨Ao8, co8, eo8⟩ := Kd.S_slice HO8.out
 subst eo8
 obtain ⟨Ao9, co9, eo9⟩ := Kd.R_slice HO9.out
 subst eo9
 clear hcz4 hcz5
 go_wp2_with (fail)
 (with_reducible refine (laws_toPlaneS.calls k _ _ l1 r10 _ ?side1 ?side2 h4.out).mono ?_)
 (case side1 => exact cB HR1 HB); (case side2 => exact HC1.out)
 rintro e w4 ⟨v11, rfl, ho0, hb⟩
 replace HO8 := Aside0.mk (Kd.S_below (pS HO8) hb)
 replace HO9 := Aside0.mk (Kd.R_below (pR HO9) hb)
 replace BK2 := Aside0.mk (blk_below (g := w.heap.size) (o := .cells #[.slice A0_0 l0_0.length c0_0, .slice A0_1 l0_1.length c0_1] 25 (0, 0)) (pB BK2) hb)
 have N4 := Aside0.mk (show w3.heap.size + 0 ≤ w4.heap.size from Nat.le_trans nL hb.size)
 replace HB := Aside0.mk (below_step (bB HB) hb)
 have HO11 := Aside0.mk (S_ivl (b0 := w3.heap.size) ho0 nL)
 clear hb ho0
 obtain ⟨Ao11, co11, eo11⟩ := Kd.S_slice HO11.out
 subst eo11
 go_wp2_with (fail)
 (with_reducible refine (spec_SidesSample.calls k _ _ r6 _ _ r7 _ _ r10 r12 r13 r14 _ ?side1 ?side2 ?side3 ?side4 ?side5 ?side6 h5.out).mono ?_)
 (case side1 => exact cS HO8); (case side2 => exact (Kd.S_reads' HO8.out).2.1); (case side3 => exact cR HO9); (case side4 => exact (Kd.R_reads' HO9.out).2.1); (case side5 => exact cS HO11); (case side6 => exact (Kd.S_reads' HO11.out).2.1)
 rintro e w5 ⟨v15, v16, rfl, ho0, ho1, hb⟩
 replace HO8 := Aside0.mk (Kd.S_below (pS HO8) hb)
 replace HO9 := Aside0.mk (Kd.R_below (pR HO9) hb)
 replace HO11 := Aside0.mk (Kd.S_below (pS HO11) hb)
 replace BK2 := Aside0.mk (blk_below (g := w.heap.size) (o := .cells #[.slice A0_0 l0_0.length c0_0, .slice A0_1 l0_1.length c0_1] 25 (0, 0)) (pB BK2) hb)
 have N5 := Aside0.mk (show w4.heap.size + 0 ≤ w5.heap.size from Nat.le_trans nL hb.size)
 replace HB := Aside0.mk (below_step (bB HB) hb)
 have HO15 := Aside0.mk (S_ivl (b0 := w4.heap.size) ho0 nL)
 have HO16 := Aside0.mk (R_ivl (b0 := w4.heap.size) (Kd.R_tight rfl ho1) nL)
 clear hb ho0 ho1
 obtain ⟨Ao15, co15, eo15⟩ := Kd.S_slice HO15.out
 subst eo15
 obtain ⟨Ao16, co16, eo16⟩ := Kd.R_slice HO16.out
 subst eo16
 have hne17 := blk_lt BK2.out
 have hcz18 : w5.cell? ⟨w.heap.size, 0, none⟩ = some (.slice A0_0 l0_0.length c0_0) := (blk_cell BK2.out 0).trans rfl
 have hcz19 : w5.cell? ⟨w.heap.size, 1, none⟩ = some (.slice A0_1 l0_1.length c0_1) := (blk_cell BK2.out 1).trans rfl
 go_wp2_with (fail)
 (with_reducible refine (laws_toSample.calls k _ _ l0_0 _ _ l0_1 r6 r7 _ ?side1 ?side2 ?side3 ?side4 h3.out).mono ?_)
 (case side1 => exact cB HR0_0 HB); (case side2 => exact HC0_0.out); (case side3 => exact cB HR0_1 HB); (case side4 => exact HC0_1.out)
 rintro e w6 ⟨v20, v21, rfl, ho0, ho1, hb⟩
 replace HO15 := Aside0.mk (Kd.S_below (pS HO15) hb)
 replace HO16 := Aside0.mk (Kd.R_below (pR HO16) hb)
 replace BK2 := Aside0.mk (blk_below (g := w.heap.size) (o := .cells #[.slice A0_0 l0_0.length c0_0, .slice A0_1 l0_1.length c0_1] 25 (0, 0)) (pB BK2) hb)
 have BK22 := Aside0.mk (blk_below (g := w5.heap.size) (o := .cells #[.slice Ao15 r12.length co15, .slice Ao16 r13.length co16] 29 (0, 0)) (by repeat (first | exact blk_at _ (by first | rfl | (simp; done)) | refine blk_alloc ?_ _ | refine blk_drew ?_ | refine blk_drewN ?_ _)) hb)
 have N6 := Aside0.mk (show w5.heap.size + 1 ≤ w6.heap.size from Nat.le_trans nL hb.size)
 replace HB := Aside0.mk (below_step (bB HB) hb)
 have HO20 := Aside0.mk (S_ivl (b0 := (w5.heap.size + 1)) ho0 nL)
 have HO21 := Aside0.mk (R_ivl (b0 := (w5.heap.size + 1)) (Kd.R_tight rfl ho1) nL)
 clear hb ho0 ho1
 obtain ⟨Ao20, co20, eo20⟩ := Kd.S_slice HO20.out
 subst eo20
 obtain ⟨Ao21, co21, eo21⟩ := Kd.R_slice HO21.out
 subst eo21
 clear hne17 hcz18 hcz19
 go_wp2_with (fail)
 (with_reducible refine (laws_toPlaneS.calls k _ _ l1 r10 _ ?side1 ?side2 h4.out).mono ?_)
 (case side1 => exact cB HR1 HB); (case side2 => exact HC1.out)
 rintro e w7 ⟨v23, rfl, ho0, hb⟩
 replace HO15 := Aside0.mk (Kd.S_below (pS HO15) hb)
 replace HO16 := Aside0.mk (Kd.R_below (pR HO16) hb)
 replace HO20 := Aside0.mk (Kd.S_below (pS HO20) hb)
 replace HO21 := Aside0.mk (Kd.R_below (pR HO21) hb)
 replace BK2 := Aside0.mk (blk_below (g := w.heap.size) (o := .cells #[.slice A0_0 l0_0.length c0_0, .slice A0_1 l0_1.length c0_1] 25 (0, 0)) (pB BK2) hb)
 replace BK22 := Aside0.mk (blk_below (g := w5.heap.size) (o := .cells #[.slice Ao15 r12.length co15, .slice Ao16 r13.length co16] 29 (0, 0)) (pB BK22) hb)
 have BK24 := Aside0.mk (blk_below (g := w6.heap.size) (o := .cells #[.slice Ao20 r6.length co20, .slice Ao21 r7.length co21] 29 (0, 0)) (by repeat (first | exact blk_at _ (by first | rfl | (simp; done)) | refine blk_alloc ?_ _ | refine blk_drew ?_ | refine blk_drewN ?_ _)) hb)
 have N7 := Aside0.mk (show w6.heap.size + 1 ≤ w7.heap.size from Nat.le_trans nL hb.size)
 replace HB := Aside0.mk (below_step (bB HB) hb)
 have HO23 := Aside0.mk (S_ivl (b0 := (w6.heap.size + 1)) ho0 nL)
 clear hb ho0
 obtain ⟨Ao23, co23, eo23⟩ := Kd.S_slice HO23.out
 subst eo23
 have hcz25 : w7.cell? ⟨w6.heap.size, 0, none⟩ = some (.slice Ao20 r6.length co20) := (blk_cell BK24.out 0).trans rfl
 have hcz26 : w7.cell? ⟨w6.heap.size, 1, none⟩ = some (.slice Ao21 r7.length co21) := (blk_cell BK24.out 1).trans rfl
 go_wp2_with (fail)
 (with_reducible refine (impl_SidesSample.calls k _ _ r6 _ _ r7 _ _ r10 r12 r13 r14 _ ?side1 ?side2 ?side3 ?side4 ?side5 ?side6 h6.out).mono ?_)
 (case side1 => exact cS HO20); (case side2 => exact (Kd.S_reads' HO20.out).2.1); (case side3 => exact cR HO21); (case side4 => exact (Kd.R_reads' HO21.out).2.1); (case side5 => exact cS HO23); (case side6 => exact (Kd.S_reads' HO23.out).2.1)
 rintro e w8 ⟨v27, v28, rfl, ho0, ho1, hb⟩
 replace HO15 := Aside0.mk (Kd.S_below (pS HO15) hb)
 replace HO16 := Aside0.mk (Kd.R_below (pR HO16) hb)
 replace HO20 := Aside0.mk (Kd.S_below (pS HO20) hb)
 replace HO21 := Aside0.mk (Kd.R_below (pR HO21) hb)
 replace HO23 := Aside0.mk (Kd.S_below (pS HO23) hb)
 replace BK2 := Aside0.mk (blk_below (g := w.heap.size) (o := .cells #[.slice A0_0 l0_0.length c0_0, .slice A0_1 l0_1.length c0_1] 25 (0, 0)) (pB BK2) hb)
 replace BK22 := Aside0.mk (blk_below (g := w5.heap.size) (o := .cells #[.slice Ao15 r12.length co15, .slice Ao16 r13.length co16] 29 (0, 0)) (pB BK22) hb)
 replace BK24 := Aside0.mk (blk_below (g := w6.heap.size) (o := .cells #[.slice Ao20 r6.length co20, .slice Ao21 r7.length co21] 29 (0, 0)) (pB BK24) hb)
 have N8 := Aside0.mk (show w7.heap.size + 0 ≤ w8.heap.size from Nat.le_trans nL hb.size)
 replace HB := Aside0.mk (below_step (bB HB) hb)
 have HO27 := Aside0.mk (S_ivl (b0 := w7.heap.size) ho0 nL)
 have HO28 := Aside0.mk (R_ivl (b0 := w7.heap.size) (Kd.R_tight rfl ho1) nL)
 clear hb ho0 ho1
 obtain ⟨Ao27, co27, eo27⟩ := Kd.S_slice HO27.out
 subst eo27
 obtain ⟨Ao28, co28, eo28⟩ := Kd.R_slice HO28.out
 subst eo28
 clear hcz25 hcz26
 have hne29 := blk_lt BK22.out
 have hcz30 : w8.cell? ⟨w5.heap.size, 0, none⟩ = some (.slice Ao15 r12.length co15) := (blk_cell BK22.out 0).trans rfl
 have hcz31 : w8.cell? ⟨w5.heap.size, 1, none⟩ = some (.slice Ao16 r13.length co16) := (blk_cell BK22.out 1).trans rfl
 go_wp2_with (fail)
 (with_reducible refine (laws_eqSample.calls k _ _ r12 _ _ r13 _ _ r12 _ _ r13 true _ ?side1 ?side2 ?side3 ?side4 ?side5 ?side6 ?side7 ?side8 h7.out).mono ?_)
 (case side1 => exact cS HO27); (case side2 => exact (Kd.S_reads' HO27.out).2.1); (case side3 => exact cR HO28); (case side4 => exact (Kd.R_reads' HO28.out).2.1); (case side5 => exact cS HO15); (case side6 => exact (Kd.S_reads' HO15.out).2.1); (case side7 => exact cR HO16); (case side8 => exact (Kd.R_reads' HO16.out).2.1)
 rintro e w9 ⟨rfl, hb⟩
 replace HO15 := Aside0.mk (Kd.S_below (pS HO15) hb)
 replace HO16 := Aside0.mk (Kd.R_below (pR HO16) hb)
 replace HO20 := Aside0.mk (Kd.S_below (pS HO20) hb)
 replace HO21 := Aside0.mk (Kd.R_below (pR HO21) hb)
 replace HO23 := Aside0.mk (Kd.S_below (pS HO23) hb)
 replace HO27 := Aside0.mk (Kd.S_below (pS HO27) hb)
 replace HO28 := Aside0.mk (Kd.R_below (pR HO28) hb)
 replace BK2 := Aside0.mk (blk_below (g := w.heap.size) (o := .cells #[.slice A0_0 l0_0.length c0_0, .slice A0_1 l0_1.length c0_1] 25 (0, 0)) (pB BK2) hb)
 replace BK22 := Aside0.mk (blk_below (g := w5.heap.size) (o := .cells #[.slice Ao15 r12.length co15, .slice Ao16 r13.length co16] 29 (0, 0)) (pB BK22) hb)
 replace BK24 := Aside0.mk (blk_below (g := w6.heap.size) (o := .cells #[.slice Ao20 r6.length co20, .slice Ao21 r7.length co21] 29 (0, 0)) (pB BK24) hb)
 have BK32 := Aside0.mk (blk_below (g := w8.heap.size) (o := .cells #[.slice Ao27 r12.length co27, .slice Ao28 r13.length co28] 29 (0, 0)) (by repeat (first | exact blk_at _ (by first | rfl | (simp; done)) | refine blk_alloc ?_ _ | refine blk_drew ?_ | refine blk_drewN ?_ _)) hb)
 have N9 := Aside0.mk (show w8.heap.size + 1 ≤ w9.heap.size from Nat.le_trans nL hb.size)
 replace HB := Aside0.mk (below_step (bB HB) hb)
 clear hb
 clear hne29 hcz30 hcz31
 go_wp2_with (fail)
 replace HO15 := Aside0.mk (Kd.S_drew HO15.out)
 replace HO16 := Aside0.mk (Kd.R_drew HO16.out)
 replace HO20 := Aside0.mk (Kd.S_drew HO20.out)
 replace HO21 := Aside0.mk (Kd.R_drew HO21.out)
 replace HO23 := Aside0.mk (Kd.S_drew HO23.out)
 replace HO27 := Aside0.mk (Kd.S_drew HO27.out)
 replace HO28 := Aside0.mk (Kd.R_drew HO28.out)
 replace BK2 := Aside0.mk (blk_drew BK2.out)
 replace BK22 := Aside0.mk (blk_drew BK22.out)
 replace BK24 := Aside0.mk (blk_drew BK24.out)
 replace BK32 := Aside0.mk (blk_drew BK32.out)
 replace HB := Aside0.mk (below_drew1 HB.out)
 refine start_ (n := 5) (S := fun w' => w'.cell? ⟨w6.heap.size, 0, none⟩ = some (.slice Ao20 r6.length co20) ∧ w'.cell? ⟨w6.heap.size, 1, none⟩ = some (.slice Ao21 r7.length co21) ∧ w'.cell? ⟨w.heap.size, 0, none⟩ = some (.slice A0_0 l0_0.length c0_0) ∧ w'.cell? ⟨w.heap.size, 1, none⟩ = some (.slice A0_1 l0_1.length c0_1)) (ds := []) #[false, false, false, false, false] (by kernel_rfl) rfl rfl ⟨(blk_cell BK24.out 0).trans rfl, (blk_cell BK24.out 1).trans rfl, (blk_cell BK2.out 0).trans rfl, (blk_cell BK2.out 1).trans rfl⟩ (fun hHeld => ?_)
 have N10 := Aside0.mk (show w9.heap.size ≤ w9.drew.heap.size from Nat.le_refl _)
 generalize w9.drew = w10 at HB HO15 HO16 HO20 HO21 HO23 HO27 HO28 BK2 BK22 BK24 BK32 N10 hHeld ⊢
 refine take_ (i := 0) (N := some 54) (v := ?_) (a' := ?_) #[true, false, false, false, false] rfl rfl (by kernel_rfl) (fun _ _ _ h => h) (Or.inl ⟨by rfl, ?_⟩) hHeld ?_ ?_
 rotate_left
 · rintro w' ⟨s0, s1, s2, s3⟩
   go_simp
   with_reducible rfl
 rotate_left
 · exact aP
 refine take_ (i := 1) (N := some 55) (v := ?_) (a' := ?_) #[true, true, false, false, false] rfl rfl (by kernel_rfl) (fun _ _ _ h => h) (Or.inl ⟨by rfl, ?_⟩) hHeld ?_ ?_
 rotate_left
 · rintro w' ⟨s0, s1, s2, s3⟩
   go_simp
   with_reducible rfl
 rotate_left
 · exact aP
 refine one_ (i := 2) (N := some 56) #[true, true, true, false, false] rfl rfl (by kernel_rfl) (by decide) (fun K hK => ?_)
 refine goes_ Try.func17 (by kernel_rfl) rfl #[.agg #[.slice A0_0 l0_0.length c0_0, .slice A0_1 l0_1.length c0_1]] (by rfl) rfl rfl aT ?_
 (with_reducible refine (laws_toSample.calls k _ _ l0_0 _ _ l0_1 r6 r7 _ ?side1 ?side2 ?side3 ?side4 h3.out).mono ?_)
 (case side1 => exact cB HR0_0 HB); (case side2 => exact HC0_0.out); (case side3 => exact cB HR0_1 HB); (case side4 => exact HC0_1.out)
 rintro e w11 ⟨v33, v34, rfl, ho0, ho1, hb⟩; refine ⟨_, rfl, ?_⟩
 replace HO15 := Aside0.mk (Kd.S_below (pS HO15) hb)
 replace HO16 := Aside0.mk (Kd.R_below (pR HO16) hb)
 replace HO20 := Aside0.mk (Kd.S_below (pS HO20) hb)
 replace HO21 := Aside0.mk (Kd.R_below (pR HO21) hb)
 replace HO23 := Aside0.mk (Kd.S_below (pS HO23) hb)
 replace HO27 := Aside0.mk (Kd.S_below (pS HO27) hb)
 replace HO28 := Aside0.mk (Kd.R_below (pR HO28) hb)
 replace BK2 := Aside0.mk (blk_below (g := w.heap.size) (o := .cells #[.slice A0_0 l0_0.length c0_0, .slice A0_1 l0_1.length c0_1] 25 (0, 0)) (pB BK2) hb)
 replace BK22 := Aside0.mk (blk_below (g := w5.heap.size) (o := .cells #[.slice Ao15 r12.length co15, .slice Ao16 r13.length co16] 29 (0, 0)) (pB BK22) hb)
 replace BK24 := Aside0.mk (blk_below (g := w6.heap.size) (o := .cells #[.slice Ao20 r6.length co20, .slice Ao21 r7.length co21] 29 (0, 0)) (pB BK24) hb)
 replace BK32 := Aside0.mk (blk_below (g := w8.heap.size) (o := .cells #[.slice Ao27 r12.length co27, .slice Ao28 r13.length co28] 29 (0, 0)) (pB BK32) hb)
 have N11 := Aside0.mk (show w10.heap.size + 0 ≤ w11.heap.size from Nat.le_trans nL hb.size)
 replace HB := Aside0.mk (below_step (bB HB) hb)
 have HO33 := Aside0.mk (S_ivl (b0 := w10.heap.size) ho0 nL)
 have HO34 := Aside0.mk (R_ivl (b0 := w10.heap.size) (Kd.R_tight rfl ho1) nL)
 clear hb ho0 ho1
 obtain ⟨Ao33, co33, eo33⟩ := Kd.S_slice HO33.out
 subst eo33
 obtain ⟨Ao34, co34, eo34⟩ := Kd.R_slice HO34.out
 subst eo34
 refine hK.out _ _ ⟨(blk_cell BK24.out 0).trans rfl, (blk_cell BK24.out 1).trans rfl, (blk_cell BK2.out 0).trans rfl, (blk_cell BK2.out 1).trans rfl⟩ (fun hHeld => ?_)
 clear hK K
 refine norm_ (a' := ?_) ?_ ?_
 rotate_left
 · show Act.put _ (some 56) _ = _
   simp only [Act.put, List.setIfInBounds_toArray, List.set_cons_zero, List.set_cons_succ, i64_w, i32_w]
   rfl
 refine one_ (i := 3) (N := some 57) #[true, true, true, true, false] rfl rfl (by kernel_rfl) (by decide) (fun K hK => ?_)
 refine goes_ Try.func20 (by kernel_rfl) rfl #[.agg #[.slice Ao20 r6.length co20, .slice Ao21 r7.length co21], .agg #[.slice Ao33 r6.length co33, .slice Ao34 r7.length co34]] (by rfl) rfl rfl aT ?_
 (with_reducible refine (laws_eqSample.calls k _ _ r6 _ _ r7 _ _ r6 _ _ r7 true _ ?side1 ?side2 ?side3 ?side4 ?side5 ?side6 ?side7 ?side8 h8.out).mono ?_)
 (case side1 => exact cS HO20); (case side2 => exact (Kd.S_reads' HO20.out).2.1); (case side3 => exact cR HO21); (case side4 => exact (Kd.R_reads' HO21.out).2.1); (case side5 => exact cS HO33); (case side6 => exact (Kd.S_reads' HO33.out).2.1); (case side7 => exact cR HO34); (case side8 => exact (Kd.R_reads' HO34.out).2.1)
 rintro e w12 ⟨rfl, hb⟩; refine ⟨_, rfl, ?_⟩
 replace HO15 := Aside0.mk (Kd.S_below (pS HO15) hb)
 replace HO16 := Aside0.mk (Kd.R_below (pR HO16) hb)
 replace HO20 := Aside0.mk (Kd.S_below (pS HO20) hb)
 replace HO21 := Aside0.mk (Kd.R_below (pR HO21) hb)
 replace HO23 := Aside0.mk (Kd.S_below (pS HO23) hb)
 replace HO27 := Aside0.mk (Kd.S_below (pS HO27) hb)
 replace HO28 := Aside0.mk (Kd.R_below (pR HO28) hb)
 replace HO33 := Aside0.mk (Kd.S_below (pS HO33) hb)
 replace HO34 := Aside0.mk (Kd.R_below (pR HO34) hb)
 replace BK2 := Aside0.mk (blk_below (g := w.heap.size) (o := .cells #[.slice A0_0 l0_0.length c0_0, .slice A0_1 l0_1.length c0_1] 25 (0, 0)) (pB BK2) hb)
 replace BK22 := Aside0.mk (blk_below (g := w5.heap.size) (o := .cells #[.slice Ao15 r12.length co15, .slice Ao16 r13.length co16] 29 (0, 0)) (pB BK22) hb)
 replace BK24 := Aside0.mk (blk_below (g := w6.heap.size) (o := .cells #[.slice Ao20 r6.length co20, .slice Ao21 r7.length co21] 29 (0, 0)) (pB BK24) hb)
 replace BK32 := Aside0.mk (blk_below (g := w8.heap.size) (o := .cells #[.slice Ao27 r12.length co27, .slice Ao28 r13.length co28] 29 (0, 0)) (pB BK32) hb)
 have N12 := Aside0.mk (show w11.heap.size + 0 ≤ w12.heap.size from Nat.le_trans nL hb.size)
 replace HB := Aside0.mk (below_step (bB HB) hb)
 clear hb
 refine hK.out _ _ ⟨(blk_cell BK24.out 0).trans rfl, (blk_cell BK24.out 1).trans rfl, (blk_cell BK2.out 0).trans rfl, (blk_cell BK2.out 1).trans rfl⟩ (fun hHeld => ?_)
 clear hK K
 refine norm_ (a' := ?_) ?_ ?_
 rotate_left
 · show Act.put _ (some 57) _ = _
   simp only [Act.put, List.setIfInBounds_toArray, List.set_cons_zero, List.set_cons_succ, i64_w, i32_w]
   rfl
 refine pure_ (i := 4) (N := some 58) (v := ?_) (a' := ?_) #[true, true, true, true, true] rfl rfl (by kernel_rfl) (fun _ _ _ h => h) (Or.inl ⟨by rfl, ?_⟩) ?_ ?_
 rotate_left
 · intro w'
   go_simp
   with_reducible rfl
 rotate_left
 · exact aP
 refine done_ (by kernel_rfl) ?_
 go_wp2_with (fail)
 (with_reducible refine (laws_toPlaneS.calls k _ _ l1 r10 _ ?side1 ?side2 h4.out).mono ?_)
 (case side1 => exact cB HR1 HB); (case side2 => exact HC1.out)
 rintro e w13 ⟨v35, rfl, ho0, hb⟩
 replace HO15 := Aside0.mk (Kd.S_below (pS HO15) hb)
 replace HO16 := Aside0.mk (Kd.R_below (pR HO16) hb)
 replace HO20 := Aside0.mk (Kd.S_below (pS HO20) hb)
 replace HO21 := Aside0.mk (Kd.R_below (pR HO21) hb)
 replace HO23 := Aside0.mk (Kd.S_below (pS HO23) hb)
 replace HO27 := Aside0.mk (Kd.S_below (pS HO27) hb)
 replace HO28 := Aside0.mk (Kd.R_below (pR HO28) hb)
 replace BK2 := Aside0.mk (blk_below (g := w.heap.size) (o := .cells #[.slice A0_0 l0_0.length c0_0, .slice A0_1 l0_1.length c0_1] 25 (0, 0)) (pB BK2) hb)
 replace BK22 := Aside0.mk (blk_below (g := w5.heap.size) (o := .cells #[.slice Ao15 r12.length co15, .slice Ao16 r13.length co16] 29 (0, 0)) (pB BK22) hb)
 replace BK24 := Aside0.mk (blk_below (g := w6.heap.size) (o := .cells #[.slice Ao20 r6.length co20, .slice Ao21 r7.length co21] 29 (0, 0)) (pB BK24) hb)
 replace BK32 := Aside0.mk (blk_below (g := w8.heap.size) (o := .cells #[.slice Ao27 r12.length co27, .slice Ao28 r13.length co28] 29 (0, 0)) (pB BK32) hb)
 have N13 := Aside0.mk (show w12.heap.size + 0 ≤ w13.heap.size from Nat.le_trans nL hb.size)
 replace HB := Aside0.mk (below_step (bB HB) hb)
 have HO35 := Aside0.mk (S_ivl (b0 := w12.heap.size) ho0 nL)
 clear hb ho0
 obtain ⟨Ao35, co35, eo35⟩ := Kd.S_slice HO35.out
 subst eo35
 go_wp2_with (fail)
 (with_reducible refine (laws_eqPlaneS.calls k _ _ r10 _ _ r10 true _ ?side1 ?side2 ?side3 ?side4 h9.out).mono ?_)
 (case side1 => exact cS HO23); (case side2 => exact (Kd.S_reads' HO23.out).2.1); (case side3 => exact cS HO35); (case side4 => exact (Kd.S_reads' HO35.out).2.1)
 rintro e w14 ⟨rfl, hb⟩
 replace HO15 := Aside0.mk (Kd.S_below (pS HO15) hb)
 replace HO16 := Aside0.mk (Kd.R_below (pR HO16) hb)
 replace HO20 := Aside0.mk (Kd.S_below (pS HO20) hb)
 replace HO21 := Aside0.mk (Kd.R_below (pR HO21) hb)
 replace HO23 := Aside0.mk (Kd.S_below (pS HO23) hb)
 replace HO27 := Aside0.mk (Kd.S_below (pS HO27) hb)
 replace HO28 := Aside0.mk (Kd.R_below (pR HO28) hb)
 replace HO35 := Aside0.mk (Kd.S_below (pS HO35) hb)
 replace BK2 := Aside0.mk (blk_below (g := w.heap.size) (o := .cells #[.slice A0_0 l0_0.length c0_0, .slice A0_1 l0_1.length c0_1] 25 (0, 0)) (pB BK2) hb)
 replace BK22 := Aside0.mk (blk_below (g := w5.heap.size) (o := .cells #[.slice Ao15 r12.length co15, .slice Ao16 r13.length co16] 29 (0, 0)) (pB BK22) hb)
 replace BK24 := Aside0.mk (blk_below (g := w6.heap.size) (o := .cells #[.slice Ao20 r6.length co20, .slice Ao21 r7.length co21] 29 (0, 0)) (pB BK24) hb)
 replace BK32 := Aside0.mk (blk_below (g := w8.heap.size) (o := .cells #[.slice Ao27 r12.length co27, .slice Ao28 r13.length co28] 29 (0, 0)) (pB BK32) hb)
 have N14 := Aside0.mk (show w13.heap.size + 0 ≤ w14.heap.size from Nat.le_trans nL hb.size)
 replace HB := Aside0.mk (below_step (bB HB) hb)
 clear hb
 have hcz36 : w14.cell? ⟨w6.heap.size, 0, none⟩ = some (.slice Ao20 r6.length co20) := (blk_cell BK24.out 0).trans rfl
 have hcz37 : w14.cell? ⟨w6.heap.size, 1, none⟩ = some (.slice Ao21 r7.length co21) := (blk_cell BK24.out 1).trans rfl
 go_wp2_with (fail)
 (with_reducible refine (laws_markSample.calls k (fun k_ => some k_ ≠ (.slice Ao21 r7.length co21 : Value).ownBlock ∧ (w5.heap.size + 1) ≤ k_ ∧ k_ < w6.heap.size) (.slice Ao20 r6.length co20) r6 (fun k_ => some k_ = (.slice Ao21 r7.length co21 : Value).ownBlock ∧ (w5.heap.size + 1) ≤ k_ ∧ k_ < w6.heap.size) (.slice Ao21 r7.length co21) r7 1 r38 r39 r40 w _ ?side1 ?side2 ?side3 ?side4 h10.out).mono ?_)
 (case side1 => exact bB HB); (case side2 => refine Kd.S_lower (pS HO20) ?_; have := N1.out; have := N2.out; have := N3.out; have := N4.out; have := N5.out; omega); (case side3 => refine Kd.R_lower (pR HO21) ?_; have := N1.out; have := N2.out; have := N3.out; have := N4.out; have := N5.out; omega); (case side4 => exact fun k_ p_ q_ => p_.1 (q_.1 : _))
 rintro e w15 ⟨rfl, ho0, ho1, hB1, hK1⟩
 replace HO15 := Aside0.mk (Kd.S_step (pS HO15) (fun k_ (ho_ : some k_ ≠ (.slice Ao16 r13.length co16 : Value).ownBlock ∧ w4.heap.size ≤ k_ ∧ k_ < w5.heap.size) hl_ => hK1.2 k_ hl_ (fun (hs_ : (some k_ ≠ (.slice Ao21 r7.length co21 : Value).ownBlock ∧ (w5.heap.size + 1) ≤ k_ ∧ k_ < w6.heap.size) ∨ (some k_ = (.slice Ao21 r7.length co21 : Value).ownBlock ∧ (w5.heap.size + 1) ≤ k_ ∧ k_ < w6.heap.size)) => by have ha_ := ho_.2; have hb_ := (hs_.imp (fun y_ => y_.2) (fun y_ => y_.2)); have := N1.out; have := N2.out; have := N3.out; have := N4.out; have := N5.out; have := N6.out; have := N7.out; have := N8.out; have := N9.out; have := N10.out; have := N11.out; have := N12.out; have := N13.out; have := N14.out; omega)))
 replace HO16 := Aside0.mk (Kd.R_step (pR HO16) (fun k_ (ho_ : some k_ = (.slice Ao16 r13.length co16 : Value).ownBlock ∧ w4.heap.size ≤ k_ ∧ k_ < w5.heap.size) hl_ => hK1.2 k_ hl_ (fun (hs_ : (some k_ ≠ (.slice Ao21 r7.length co21 : Value).ownBlock ∧ (w5.heap.size + 1) ≤ k_ ∧ k_ < w6.heap.size) ∨ (some k_ = (.slice Ao21 r7.length co21 : Value).ownBlock ∧ (w5.heap.size + 1) ≤ k_ ∧ k_ < w6.heap.size)) => by have ha_ := ho_.2; have hb_ := (hs_.imp (fun y_ => y_.2) (fun y_ => y_.2)); have := N1.out; have := N2.out; have := N3.out; have := N4.out; have := N5.out; have := N6.out; have := N7.out; have := N8.out; have := N9.out; have := N10.out; have := N11.out; have := N12.out; have := N13.out; have := N14.out; omega)))
 replace HO23 := Aside0.mk (Kd.S_step (pS HO23) (fun k_ (ho_ : True ∧ (w6.heap.size + 1) ≤ k_ ∧ k_ < w7.heap.size) hl_ => hK1.2 k_ hl_ (fun (hs_ : (some k_ ≠ (.slice Ao21 r7.length co21 : Value).ownBlock ∧ (w5.heap.size + 1) ≤ k_ ∧ k_ < w6.heap.size) ∨ (some k_ = (.slice Ao21 r7.length co21 : Value).ownBlock ∧ (w5.heap.size + 1) ≤ k_ ∧ k_ < w6.heap.size)) => by have ha_ := ho_.2; have hb_ := (hs_.imp (fun y_ => y_.2) (fun y_ => y_.2)); have := N1.out; have := N2.out; have := N3.out; have := N4.out; have := N5.out; have := N6.out; have := N7.out; have := N8.out; have := N9.out; have := N10.out; have := N11.out; have := N12.out; have := N13.out; have := N14.out; omega)))
 replace HO27 := Aside0.mk (Kd.S_step (pS HO27) (fun k_ (ho_ : some k_ ≠ (.slice Ao28 r13.length co28 : Value).ownBlock ∧ w7.heap.size ≤ k_ ∧ k_ < w8.heap.size) hl_ => hK1.2 k_ hl_ (fun (hs_ : (some k_ ≠ (.slice Ao21 r7.length co21 : Value).ownBlock ∧ (w5.heap.size + 1) ≤ k_ ∧ k_ < w6.heap.size) ∨ (some k_ = (.slice Ao21 r7.length co21 : Value).ownBlock ∧ (w5.heap.size + 1) ≤ k_ ∧ k_ < w6.heap.size)) => by have ha_ := ho_.2; have hb_ := (hs_.imp (fun y_ => y_.2) (fun y_ => y_.2)); have := N1.out; have := N2.out; have := N3.out; have := N4.out; have := N5.out; have := N6.out; have := N7.out; have := N8.out; have := N9.out; have := N10.out; have := N11.out; have := N12.out; have := N13.out; have := N14.out; omega)))
 replace HO28 := Aside0.mk (Kd.R_step (pR HO28) (fun k_ (ho_ : some k_ = (.slice Ao28 r13.length co28 : Value).ownBlock ∧ w7.heap.size ≤ k_ ∧ k_ < w8.heap.size) hl_ => hK1.2 k_ hl_ (fun (hs_ : (some k_ ≠ (.slice Ao21 r7.length co21 : Value).ownBlock ∧ (w5.heap.size + 1) ≤ k_ ∧ k_ < w6.heap.size) ∨ (some k_ = (.slice Ao21 r7.length co21 : Value).ownBlock ∧ (w5.heap.size + 1) ≤ k_ ∧ k_ < w6.heap.size)) => by have ha_ := ho_.2; have hb_ := (hs_.imp (fun y_ => y_.2) (fun y_ => y_.2)); have := N1.out; have := N2.out; have := N3.out; have := N4.out; have := N5.out; have := N6.out; have := N7.out; have := N8.out; have := N9.out; have := N10.out; have := N11.out; have := N12.out; have := N13.out; have := N14.out; omega)))
 replace BK2 := Aside0.mk (blk_kept (pB BK2) hK1 (fun hs_ => by have hs2_ : (some (w.heap.size) ≠ (.slice Ao21 r7.length co21 : Value).ownBlock ∧ (w5.heap.size + 1) ≤ (w.heap.size) ∧ (w.heap.size) < w6.heap.size) ∨ (some (w.heap.size) = (.slice Ao21 r7.length co21 : Value).ownBlock ∧ (w5.heap.size + 1) ≤ (w.heap.size) ∧ (w.heap.size) < w6.heap.size) := hs_; have hb_ := (hs2_.imp (fun y_ => y_.2) (fun y_ => y_.2)); have := N1.out; have := N2.out; have := N3.out; have := N4.out; have := N5.out; have := N6.out; have := N7.out; have := N8.out; have := N9.out; have := N10.out; have := N11.out; have := N12.out; have := N13.out; have := N14.out; omega))
 replace BK22 := Aside0.mk (blk_kept (pB BK22) hK1 (fun hs_ => by have hs2_ : (some (w5.heap.size) ≠ (.slice Ao21 r7.length co21 : Value).ownBlock ∧ (w5.heap.size + 1) ≤ (w5.heap.size) ∧ (w5.heap.size) < w6.heap.size) ∨ (some (w5.heap.size) = (.slice Ao21 r7.length co21 : Value).ownBlock ∧ (w5.heap.size + 1) ≤ (w5.heap.size) ∧ (w5.heap.size) < w6.heap.size) := hs_; have hb_ := (hs2_.imp (fun y_ => y_.2) (fun y_ => y_.2)); have := N1.out; have := N2.out; have := N3.out; have := N4.out; have := N5.out; have := N6.out; have := N7.out; have := N8.out; have := N9.out; have := N10.out; have := N11.out; have := N12.out; have := N13.out; have := N14.out; omega))
 replace BK24 := Aside0.mk (blk_kept (pB BK24) hK1 (fun hs_ => by have hs2_ : (some (w6.heap.size) ≠ (.slice Ao21 r7.length co21 : Value).ownBlock ∧ (w5.heap.size + 1) ≤ (w6.heap.size) ∧ (w6.heap.size) < w6.heap.size) ∨ (some (w6.heap.size) = (.slice Ao21 r7.length co21 : Value).ownBlock ∧ (w5.heap.size + 1) ≤ (w6.heap.size) ∧ (w6.heap.size) < w6.heap.size) := hs_; have hb_ := (hs2_.imp (fun y_ => y_.2) (fun y_ => y_.2)); have := N1.out; have := N2.out; have := N3.out; have := N4.out; have := N5.out; have := N6.out; have := N7.out; have := N8.out; have := N9.out; have := N10.out; have := N11.out; have := N12.out; have := N13.out; have := N14.out; omega))
 replace BK32 := Aside0.mk (blk_kept (pB BK32) hK1 (fun hs_ => by have hs2_ : (some (w8.heap.size) ≠ (.slice Ao21 r7.length co21 : Value).ownBlock ∧ (w5.heap.size + 1) ≤ (w8.heap.size) ∧ (w8.heap.size) < w6.heap.size) ∨ (some (w8.heap.size) = (.slice Ao21 r7.length co21 : Value).ownBlock ∧ (w5.heap.size + 1) ≤ (w8.heap.size) ∧ (w8.heap.size) < w6.heap.size) := hs_; have hb_ := (hs2_.imp (fun y_ => y_.2) (fun y_ => y_.2)); have := N1.out; have := N2.out; have := N3.out; have := N4.out; have := N5.out; have := N6.out; have := N7.out; have := N8.out; have := N9.out; have := N10.out; have := N11.out; have := N12.out; have := N13.out; have := N14.out; omega))
 have N15 := Aside0.mk (show w14.heap.size ≤ w15.heap.size from Nat.le_trans nL hK1.1)
 replace HB := Aside0.mk hB1
 replace HO20 := Aside0.mk (Kd.S_mono (ok' := fun k_ => (some k_ ≠ (.slice Ao21 r7.length co21 : Value).ownBlock ∧ (w5.heap.size + 1) ≤ k_ ∧ k_ < w6.heap.size) ∨ w14.heap.size ≤ k_) ho0 (fun k_ h_ => h_.imp id (fun z_ => Nat.le_trans nL z_)))
 replace HO21 := Aside0.mk (Kd.R_mono (ok' := fun k_ => (some k_ = (.slice Ao21 r7.length co21 : Value).ownBlock ∧ (w5.heap.size + 1) ≤ k_ ∧ k_ < w6.heap.size) ∨ w14.heap.size ≤ k_) ho1 (fun k_ h_ => h_.imp id (fun z_ => Nat.le_trans nL z_)))
 clear hK1 ho0 ho1 hB1
 clear hcz36 hcz37
 go_wp2_with (fail)
 (with_reducible refine (laws_markPlaneS.calls k (fun k_ => True ∧ (w6.heap.size + 1) ≤ k_ ∧ k_ < w7.heap.size) (.slice Ao23 r10.length co23) r10 r38 r41 r42 w _ ?side1 ?side2 h11.out).mono ?_)
 (case side1 => exact bB HB); (case side2 => refine Kd.S_lower (pS HO23) ?_; have := N1.out; have := N2.out; have := N3.out; have := N4.out; have := N5.out; have := N6.out; omega)
 rintro e w16 ⟨rfl, ho0, hB1, hK1⟩
 replace HO15 := Aside0.mk (Kd.S_step (pS HO15) (fun k_ (ho_ : some k_ ≠ (.slice Ao16 r13.length co16 : Value).ownBlock ∧ w4.heap.size ≤ k_ ∧ k_ < w5.heap.size) hl_ => hK1.2 k_ hl_ (fun (hs_ : (True ∧ (w6.heap.size + 1) ≤ k_ ∧ k_ < w7.heap.size)) => by have ha_ := ho_.2; have hb_ := hs_.2; have := N1.out; have := N2.out; have := N3.out; have := N4.out; have := N5.out; have := N6.out; have := N7.out; have := N8.out; have := N9.out; have := N10.out; have := N11.out; have := N12.out; have := N13.out; have := N14.out; have := N15.out; omega)))
 replace HO16 := Aside0.mk (Kd.R_step (pR HO16) (fun k_ (ho_ : some k_ = (.slice Ao16 r13.length co16 : Value).ownBlock ∧ w4.heap.size ≤ k_ ∧ k_ < w5.heap.size) hl_ => hK1.2 k_ hl_ (fun (hs_ : (True ∧ (w6.heap.size + 1) ≤ k_ ∧ k_ < w7.heap.size)) => by have ha_ := ho_.2; have hb_ := hs_.2; have := N1.out; have := N2.out; have := N3.out; have := N4.out; have := N5.out; have := N6.out; have := N7.out; have := N8.out; have := N9.out; have := N10.out; have := N11.out; have := N12.out; have := N13.out; have := N14.out; have := N15.out; omega)))
 replace HO27 := Aside0.mk (Kd.S_step (pS HO27) (fun k_ (ho_ : some k_ ≠ (.slice Ao28 r13.length co28 : Value).ownBlock ∧ w7.heap.size ≤ k_ ∧ k_ < w8.heap.size) hl_ => hK1.2 k_ hl_ (fun (hs_ : (True ∧ (w6.heap.size + 1) ≤ k_ ∧ k_ < w7.heap.size)) => by have ha_ := ho_.2; have hb_ := hs_.2; have := N1.out; have := N2.out; have := N3.out; have := N4.out; have := N5.out; have := N6.out; have := N7.out; have := N8.out; have := N9.out; have := N10.out; have := N11.out; have := N12.out; have := N13.out; have := N14.out; have := N15.out; omega)))
 replace HO28 := Aside0.mk (Kd.R_step (pR HO28) (fun k_ (ho_ : some k_ = (.slice Ao28 r13.length co28 : Value).ownBlock ∧ w7.heap.size ≤ k_ ∧ k_ < w8.heap.size) hl_ => hK1.2 k_ hl_ (fun (hs_ : (True ∧ (w6.heap.size + 1) ≤ k_ ∧ k_ < w7.heap.size)) => by have ha_ := ho_.2; have hb_ := hs_.2; have := N1.out; have := N2.out; have := N3.out; have := N4.out; have := N5.out; have := N6.out; have := N7.out; have := N8.out; have := N9.out; have := N10.out; have := N11.out; have := N12.out; have := N13.out; have := N14.out; have := N15.out; omega)))
 replace BK2 := Aside0.mk (blk_kept (pB BK2) hK1 (fun hs_ => by have hs2_ : (True ∧ (w6.heap.size + 1) ≤ (w.heap.size) ∧ (w.heap.size) < w7.heap.size) := hs_; have hb_ := hs2_.2; have := N1.out; have := N2.out; have := N3.out; have := N4.out; have := N5.out; have := N6.out; have := N7.out; have := N8.out; have := N9.out; have := N10.out; have := N11.out; have := N12.out; have := N13.out; have := N14.out; have := N15.out; omega))
 replace BK22 := Aside0.mk (blk_kept (pB BK22) hK1 (fun hs_ => by have hs2_ : (True ∧ (w6.heap.size + 1) ≤ (w5.heap.size) ∧ (w5.heap.size) < w7.heap.size) := hs_; have hb_ := hs2_.2; have := N1.out; have := N2.out; have := N3.out; have := N4.out; have := N5.out; have := N6.out; have := N7.out; have := N8.out; have := N9.out; have := N10.out; have := N11.out; have := N12.out; have := N13.out; have := N14.out; have := N15.out; omega))
 replace BK24 := Aside0.mk (blk_kept (pB BK24) hK1 (fun hs_ => by have hs2_ : (True ∧ (w6.heap.size + 1) ≤ (w6.heap.size) ∧ (w6.heap.size) < w7.heap.size) := hs_; have hb_ := hs2_.2; have := N1.out; have := N2.out; have := N3.out; have := N4.out; have := N5.out; have := N6.out; have := N7.out; have := N8.out; have := N9.out; have := N10.out; have := N11.out; have := N12.out; have := N13.out; have := N14.out; have := N15.out; omega))
 replace BK32 := Aside0.mk (blk_kept (pB BK32) hK1 (fun hs_ => by have hs2_ : (True ∧ (w6.heap.size + 1) ≤ (w8.heap.size) ∧ (w8.heap.size) < w7.heap.size) := hs_; have hb_ := hs2_.2; have := N1.out; have := N2.out; have := N3.out; have := N4.out; have := N5.out; have := N6.out; have := N7.out; have := N8.out; have := N9.out; have := N10.out; have := N11.out; have := N12.out; have := N13.out; have := N14.out; have := N15.out; omega))
 have N16 := Aside0.mk (show w15.heap.size ≤ w16.heap.size from Nat.le_trans nL hK1.1)
 replace HB := Aside0.mk hB1
 replace HO23 := Aside0.mk (Kd.S_mono (ok' := fun k_ => (True ∧ (w6.heap.size + 1) ≤ k_ ∧ k_ < w7.heap.size) ∨ w15.heap.size ≤ k_) ho0 (fun k_ h_ => h_.imp id (fun z_ => Nat.le_trans nL z_)))
 clear hK1 ho0 hB1
 have hcz43 : w16.cell? ⟨w8.heap.size, 0, none⟩ = some (.slice Ao27 r12.length co27) := (blk_cell BK32.out 0).trans rfl
 have hcz44 : w16.cell? ⟨w8.heap.size, 1, none⟩ = some (.slice Ao28 r13.length co28) := (blk_cell BK32.out 1).trans rfl
 have hcz45 : w16.cell? ⟨w5.heap.size, 0, none⟩ = some (.slice Ao15 r12.length co15) := (blk_cell BK22.out 0).trans rfl
 have hcz46 : w16.cell? ⟨w5.heap.size, 1, none⟩ = some (.slice Ao16 r13.length co16) := (blk_cell BK22.out 1).trans rfl
 go_wp2_with (fail)
 (with_reducible refine (laws_eqSample.calls k _ _ r12 _ _ r13 _ _ r12 _ _ r13 true _ ?side1 ?side2 ?side3 ?side4 ?side5 ?side6 ?side7 ?side8 h7.out).mono ?_)
 (case side1 => exact cS HO27); (case side2 => exact (Kd.S_reads' HO27.out).2.1); (case side3 => exact cR HO28); (case side4 => exact (Kd.R_reads' HO28.out).2.1); (case side5 => exact cS HO15); (case side6 => exact (Kd.S_reads' HO15.out).2.1); (case side7 => exact cR HO16); (case side8 => exact (Kd.R_reads' HO16.out).2.1)
 rintro e w17 ⟨rfl, hb⟩
 replace HO15 := Aside0.mk (Kd.S_below (pS HO15) hb)
 replace HO16 := Aside0.mk (Kd.R_below (pR HO16) hb)
 replace HO27 := Aside0.mk (Kd.S_below (pS HO27) hb)
 replace HO28 := Aside0.mk (Kd.R_below (pR HO28) hb)
 replace BK2 := Aside0.mk (blk_below (g := w.heap.size) (o := .cells #[.slice A0_0 l0_0.length c0_0, .slice A0_1 l0_1.length c0_1] 25 (0, 0)) (pB BK2) hb)
 replace BK22 := Aside0.mk (blk_below (g := w5.heap.size) (o := .cells #[.slice Ao15 r12.length co15, .slice Ao16 r13.length co16] 29 (0, 0)) (pB BK22) hb)
 replace BK24 := Aside0.mk (blk_below (g := w6.heap.size) (o := .cells #[.slice Ao20 r6.length co20, .slice Ao21 r7.length co21] 29 (0, 0)) (pB BK24) hb)
 replace BK32 := Aside0.mk (blk_below (g := w8.heap.size) (o := .cells #[.slice Ao27 r12.length co27, .slice Ao28 r13.length co28] 29 (0, 0)) (pB BK32) hb)
 have N17 := Aside0.mk (show w16.heap.size + 0 ≤ w17.heap.size from Nat.le_trans nL hb.size)
 replace HB := Aside0.mk (below_step (bB HB) hb)
 clear hb
 clear hcz43 hcz44 hcz45 hcz46
 have hcz47 : w17.cell? ⟨w8.heap.size, 0, none⟩ = some (.slice Ao27 r12.length co27) := (blk_cell BK32.out 0).trans rfl
 have hcz48 : w17.cell? ⟨w8.heap.size, 1, none⟩ = some (.slice Ao28 r13.length co28) := (blk_cell BK32.out 1).trans rfl
 go_wp2_with (fail)
 (with_reducible refine (laws_markSample.calls k (fun k_ => some k_ ≠ (.slice Ao28 r13.length co28 : Value).ownBlock ∧ w7.heap.size ≤ k_ ∧ k_ < w8.heap.size) (.slice Ao27 r12.length co27) r12 (fun k_ => some k_ = (.slice Ao28 r13.length co28 : Value).ownBlock ∧ w7.heap.size ≤ k_ ∧ k_ < w8.heap.size) (.slice Ao28 r13.length co28) r13 1 r49 r50 r51 w _ ?side1 ?side2 ?side3 ?side4 h12.out).mono ?_)
 (case side1 => exact bB HB); (case side2 => refine Kd.S_lower (pS HO27) ?_; have := N1.out; have := N2.out; have := N3.out; have := N4.out; have := N5.out; have := N6.out; have := N7.out; omega); (case side3 => refine Kd.R_lower (pR HO28) ?_; have := N1.out; have := N2.out; have := N3.out; have := N4.out; have := N5.out; have := N6.out; have := N7.out; omega); (case side4 => exact fun k_ p_ q_ => p_.1 (q_.1 : _))
 rintro e w18 ⟨rfl, ho0, ho1, hB1, hK1⟩
 replace HO15 := Aside0.mk (Kd.S_step (pS HO15) (fun k_ (ho_ : some k_ ≠ (.slice Ao16 r13.length co16 : Value).ownBlock ∧ w4.heap.size ≤ k_ ∧ k_ < w5.heap.size) hl_ => hK1.2 k_ hl_ (fun (hs_ : (some k_ ≠ (.slice Ao28 r13.length co28 : Value).ownBlock ∧ w7.heap.size ≤ k_ ∧ k_ < w8.heap.size) ∨ (some k_ = (.slice Ao28 r13.length co28 : Value).ownBlock ∧ w7.heap.size ≤ k_ ∧ k_ < w8.heap.size)) => by have ha_ := ho_.2; have hb_ := (hs_.imp (fun y_ => y_.2) (fun y_ => y_.2)); have := N1.out; have := N2.out; have := N3.out; have := N4.out; have := N5.out; have := N6.out; have := N7.out; have := N8.out; have := N9.out; have := N10.out; have := N11.out; have := N12.out; have := N13.out; have := N14.out; have := N15.out; have := N16.out; have := N17.out; omega)))
 replace HO16 := Aside0.mk (Kd.R_step (pR HO16) (fun k_ (ho_ : some k_ = (.slice Ao16 r13.length co16 : Value).ownBlock ∧ w4.heap.size ≤ k_ ∧ k_ < w5.heap.size) hl_ => hK1.2 k_ hl_ (fun (hs_ : (some k_ ≠ (.slice Ao28 r13.length co28 : Value).ownBlock ∧ w7.heap.size ≤ k_ ∧ k_ < w8.heap.size) ∨ (some k_ = (.slice Ao28 r13.length co28 : Value).ownBlock ∧ w7.heap.size ≤ k_ ∧ k_ < w8.heap.size)) => by have ha_ := ho_.2; have hb_ := (hs_.imp (fun y_ => y_.2) (fun y_ => y_.2)); have := N1.out; have := N2.out; have := N3.out; have := N4.out; have := N5.out; have := N6.out; have := N7.out; have := N8.out; have := N9.out; have := N10.out; have := N11.out; have := N12.out; have := N13.out; have := N14.out; have := N15.out; have := N16.out; have := N17.out; omega)))
 replace BK2 := Aside0.mk (blk_kept (pB BK2) hK1 (fun hs_ => by have hs2_ : (some (w.heap.size) ≠ (.slice Ao28 r13.length co28 : Value).ownBlock ∧ w7.heap.size ≤ (w.heap.size) ∧ (w.heap.size) < w8.heap.size) ∨ (some (w.heap.size) = (.slice Ao28 r13.length co28 : Value).ownBlock ∧ w7.heap.size ≤ (w.heap.size) ∧ (w.heap.size) < w8.heap.size) := hs_; have hb_ := (hs2_.imp (fun y_ => y_.2) (fun y_ => y_.2)); have := N1.out; have := N2.out; have := N3.out; have := N4.out; have := N5.out; have := N6.out; have := N7.out; have := N8.out; have := N9.out; have := N10.out; have := N11.out; have := N12.out; have := N13.out; have := N14.out; have := N15.out; have := N16.out; have := N17.out; omega))
 replace BK22 := Aside0.mk (blk_kept (pB BK22) hK1 (fun hs_ => by have hs2_ : (some (w5.heap.size) ≠ (.slice Ao28 r13.length co28 : Value).ownBlock ∧ w7.heap.size ≤ (w5.heap.size) ∧ (w5.heap.size) < w8.heap.size) ∨ (some (w5.heap.size) = (.slice Ao28 r13.length co28 : Value).ownBlock ∧ w7.heap.size ≤ (w5.heap.size) ∧ (w5.heap.size) < w8.heap.size) := hs_; have hb_ := (hs2_.imp (fun y_ => y_.2) (fun y_ => y_.2)); have := N1.out; have := N2.out; have := N3.out; have := N4.out; have := N5.out; have := N6.out; have := N7.out; have := N8.out; have := N9.out; have := N10.out; have := N11.out; have := N12.out; have := N13.out; have := N14.out; have := N15.out; have := N16.out; have := N17.out; omega))
 replace BK24 := Aside0.mk (blk_kept (pB BK24) hK1 (fun hs_ => by have hs2_ : (some (w6.heap.size) ≠ (.slice Ao28 r13.length co28 : Value).ownBlock ∧ w7.heap.size ≤ (w6.heap.size) ∧ (w6.heap.size) < w8.heap.size) ∨ (some (w6.heap.size) = (.slice Ao28 r13.length co28 : Value).ownBlock ∧ w7.heap.size ≤ (w6.heap.size) ∧ (w6.heap.size) < w8.heap.size) := hs_; have hb_ := (hs2_.imp (fun y_ => y_.2) (fun y_ => y_.2)); have := N1.out; have := N2.out; have := N3.out; have := N4.out; have := N5.out; have := N6.out; have := N7.out; have := N8.out; have := N9.out; have := N10.out; have := N11.out; have := N12.out; have := N13.out; have := N14.out; have := N15.out; have := N16.out; have := N17.out; omega))
 replace BK32 := Aside0.mk (blk_kept (pB BK32) hK1 (fun hs_ => by have hs2_ : (some (w8.heap.size) ≠ (.slice Ao28 r13.length co28 : Value).ownBlock ∧ w7.heap.size ≤ (w8.heap.size) ∧ (w8.heap.size) < w8.heap.size) ∨ (some (w8.heap.size) = (.slice Ao28 r13.length co28 : Value).ownBlock ∧ w7.heap.size ≤ (w8.heap.size) ∧ (w8.heap.size) < w8.heap.size) := hs_; have hb_ := (hs2_.imp (fun y_ => y_.2) (fun y_ => y_.2)); have := N1.out; have := N2.out; have := N3.out; have := N4.out; have := N5.out; have := N6.out; have := N7.out; have := N8.out; have := N9.out; have := N10.out; have := N11.out; have := N12.out; have := N13.out; have := N14.out; have := N15.out; have := N16.out; have := N17.out; omega))
 have N18 := Aside0.mk (show w17.heap.size ≤ w18.heap.size from Nat.le_trans nL hK1.1)
 replace HB := Aside0.mk hB1
 replace HO27 := Aside0.mk (Kd.S_mono (ok' := fun k_ => (some k_ ≠ (.slice Ao28 r13.length co28 : Value).ownBlock ∧ w7.heap.size ≤ k_ ∧ k_ < w8.heap.size) ∨ w17.heap.size ≤ k_) ho0 (fun k_ h_ => h_.imp id (fun z_ => Nat.le_trans nL z_)))
 replace HO28 := Aside0.mk (Kd.R_mono (ok' := fun k_ => (some k_ = (.slice Ao28 r13.length co28 : Value).ownBlock ∧ w7.heap.size ≤ k_ ∧ k_ < w8.heap.size) ∨ w17.heap.size ≤ k_) ho1 (fun k_ h_ => h_.imp id (fun z_ => Nat.le_trans nL z_)))
 clear hK1 ho0 ho1 hB1
 clear hcz47 hcz48
 have hcz52 : w18.cell? ⟨w8.heap.size, 0, none⟩ = some (.slice Ao27 r12.length co27) := (blk_cell BK32.out 0).trans rfl
 have hcz53 : w18.cell? ⟨w8.heap.size, 1, none⟩ = some (.slice Ao28 r13.length co28) := (blk_cell BK32.out 1).trans rfl
 go_wp2_with (fail)
 refine calls_of_args (args' := #[.agg #[.slice Ao27 r50.length co27, .slice Ao28 r51.length co28], .int .i64 1]) (by rw [(Kd.S_reads' HO27.out).1, (Kd.R_reads' HO28.out).1]) ?_
 (with_reducible refine (laws_heldSample.calls k _ _ r50 _ _ r51 1 r49 _ ?side1 ?side2 ?side3 ?side4 h13.out).mono ?_)
 (case side1 => exact cS HO27); (case side2 => have e_ := Kd.S_reads' HO27.out; rw [← e_.1]; exact e_.2.1); (case side3 => exact cR HO28); (case side4 => have e_ := Kd.R_reads' HO28.out; rw [← e_.1]; exact e_.2.1)
 rintro e w19 ⟨rfl, hb⟩
 replace HO15 := Aside0.mk (Kd.S_below (pS HO15) hb)
 replace HO16 := Aside0.mk (Kd.R_below (pR HO16) hb)
 replace HO27 := Aside0.mk (Kd.S_below (pS HO27) hb)
 replace HO28 := Aside0.mk (Kd.R_below (pR HO28) hb)
 replace BK2 := Aside0.mk (blk_below (g := w.heap.size) (o := .cells #[.slice A0_0 l0_0.length c0_0, .slice A0_1 l0_1.length c0_1] 25 (0, 0)) (pB BK2) hb)
 replace BK22 := Aside0.mk (blk_below (g := w5.heap.size) (o := .cells #[.slice Ao15 r12.length co15, .slice Ao16 r13.length co16] 29 (0, 0)) (pB BK22) hb)
 replace BK24 := Aside0.mk (blk_below (g := w6.heap.size) (o := .cells #[.slice Ao20 r6.length co20, .slice Ao21 r7.length co21] 29 (0, 0)) (pB BK24) hb)
 replace BK32 := Aside0.mk (blk_below (g := w8.heap.size) (o := .cells #[.slice Ao27 r12.length co27, .slice Ao28 r13.length co28] 29 (0, 0)) (pB BK32) hb)
 have N19 := Aside0.mk (show w18.heap.size + 0 ≤ w19.heap.size from Nat.le_trans nL hb.size)
 replace HB := Aside0.mk (below_step (bB HB) hb)
 clear hb
 clear hcz52 hcz53
 have hcz54 : w19.cell? ⟨w.heap.size, 0, none⟩ = some (.slice A0_0 l0_0.length c0_0) := (blk_cell BK2.out 0).trans rfl
 have hcz55 : w19.cell? ⟨w.heap.size, 1, none⟩ = some (.slice A0_1 l0_1.length c0_1) := (blk_cell BK2.out 1).trans rfl
 go_wp2_with (fail)
 (with_reducible refine (laws_toSample.calls k _ _ l0_0 _ _ l0_1 r6 r7 _ ?side1 ?side2 ?side3 ?side4 h3.out).mono ?_)
 (case side1 => exact cB HR0_0 HB); (case side2 => exact HC0_0.out); (case side3 => exact cB HR0_1 HB); (case side4 => exact HC0_1.out)
 rintro e w20 ⟨v56, v57, rfl, ho0, ho1, hb⟩
 replace HO15 := Aside0.mk (Kd.S_below (pS HO15) hb)
 replace HO16 := Aside0.mk (Kd.R_below (pR HO16) hb)
 replace HO27 := Aside0.mk (Kd.S_below (pS HO27) hb)
 replace HO28 := Aside0.mk (Kd.R_below (pR HO28) hb)
 replace BK2 := Aside0.mk (blk_below (g := w.heap.size) (o := .cells #[.slice A0_0 l0_0.length c0_0, .slice A0_1 l0_1.length c0_1] 25 (0, 0)) (pB BK2) hb)
 replace BK22 := Aside0.mk (blk_below (g := w5.heap.size) (o := .cells #[.slice Ao15 r12.length co15, .slice Ao16 r13.length co16] 29 (0, 0)) (pB BK22) hb)
 replace BK24 := Aside0.mk (blk_below (g := w6.heap.size) (o := .cells #[.slice Ao20 r6.length co20, .slice Ao21 r7.length co21] 29 (0, 0)) (pB BK24) hb)
 replace BK32 := Aside0.mk (blk_below (g := w8.heap.size) (o := .cells #[.slice Ao27 r12.length co27, .slice Ao28 r13.length co28] 29 (0, 0)) (pB BK32) hb)
 have N20 := Aside0.mk (show w19.heap.size + 0 ≤ w20.heap.size from Nat.le_trans nL hb.size)
 replace HB := Aside0.mk (below_step (bB HB) hb)
 have HO56 := Aside0.mk (S_ivl (b0 := w19.heap.size) ho0 nL)
 have HO57 := Aside0.mk (R_ivl (b0 := w19.heap.size) (Kd.R_tight rfl ho1) nL)
 clear hb ho0 ho1
 obtain ⟨Ao56, co56, eo56⟩ := Kd.S_slice HO56.out
 subst eo56
 obtain ⟨Ao57, co57, eo57⟩ := Kd.R_slice HO57.out
 subst eo57
 clear hcz54 hcz55
 go_wp2_with (fail)
 (with_reducible refine (laws_toPlaneS.calls k _ _ l1 r10 _ ?side1 ?side2 h4.out).mono ?_)
 (case side1 => exact cB HR1 HB); (case side2 => exact HC1.out)
 rintro e w21 ⟨v58, rfl, ho0, hb⟩
 replace HO15 := Aside0.mk (Kd.S_below (pS HO15) hb)
 replace HO16 := Aside0.mk (Kd.R_below (pR HO16) hb)
 replace HO27 := Aside0.mk (Kd.S_below (pS HO27) hb)
 replace HO28 := Aside0.mk (Kd.R_below (pR HO28) hb)
 replace HO56 := Aside0.mk (Kd.S_below (pS HO56) hb)
 replace HO57 := Aside0.mk (Kd.R_below (pR HO57) hb)
 replace BK2 := Aside0.mk (blk_below (g := w.heap.size) (o := .cells #[.slice A0_0 l0_0.length c0_0, .slice A0_1 l0_1.length c0_1] 25 (0, 0)) (pB BK2) hb)
 replace BK22 := Aside0.mk (blk_below (g := w5.heap.size) (o := .cells #[.slice Ao15 r12.length co15, .slice Ao16 r13.length co16] 29 (0, 0)) (pB BK22) hb)
 replace BK24 := Aside0.mk (blk_below (g := w6.heap.size) (o := .cells #[.slice Ao20 r6.length co20, .slice Ao21 r7.length co21] 29 (0, 0)) (pB BK24) hb)
 replace BK32 := Aside0.mk (blk_below (g := w8.heap.size) (o := .cells #[.slice Ao27 r12.length co27, .slice Ao28 r13.length co28] 29 (0, 0)) (pB BK32) hb)
 have N21 := Aside0.mk (show w20.heap.size + 0 ≤ w21.heap.size from Nat.le_trans nL hb.size)
 replace HB := Aside0.mk (below_step (bB HB) hb)
 have HO58 := Aside0.mk (S_ivl (b0 := w20.heap.size) ho0 nL)
 clear hb ho0
 obtain ⟨Ao58, co58, eo58⟩ := Kd.S_slice HO58.out
 subst eo58
 go_wp2_with (fail)
 (with_reducible refine (impl_SidesSample.calls k _ _ r6 _ _ r7 _ _ r10 r12 r13 r14 _ ?side1 ?side2 ?side3 ?side4 ?side5 ?side6 h6.out).mono ?_)
 (case side1 => exact cS HO56); (case side2 => exact (Kd.S_reads' HO56.out).2.1); (case side3 => exact cR HO57); (case side4 => exact (Kd.R_reads' HO57.out).2.1); (case side5 => exact cS HO58); (case side6 => exact (Kd.S_reads' HO58.out).2.1)
 rintro e w22 ⟨v59, v60, rfl, ho0, ho1, hb⟩
 replace HO15 := Aside0.mk (Kd.S_below (pS HO15) hb)
 replace HO16 := Aside0.mk (Kd.R_below (pR HO16) hb)
 replace HO27 := Aside0.mk (Kd.S_below (pS HO27) hb)
 replace HO28 := Aside0.mk (Kd.R_below (pR HO28) hb)
 replace HO56 := Aside0.mk (Kd.S_below (pS HO56) hb)
 replace HO57 := Aside0.mk (Kd.R_below (pR HO57) hb)
 replace HO58 := Aside0.mk (Kd.S_below (pS HO58) hb)
 replace BK2 := Aside0.mk (blk_below (g := w.heap.size) (o := .cells #[.slice A0_0 l0_0.length c0_0, .slice A0_1 l0_1.length c0_1] 25 (0, 0)) (pB BK2) hb)
 replace BK22 := Aside0.mk (blk_below (g := w5.heap.size) (o := .cells #[.slice Ao15 r12.length co15, .slice Ao16 r13.length co16] 29 (0, 0)) (pB BK22) hb)
 replace BK24 := Aside0.mk (blk_below (g := w6.heap.size) (o := .cells #[.slice Ao20 r6.length co20, .slice Ao21 r7.length co21] 29 (0, 0)) (pB BK24) hb)
 replace BK32 := Aside0.mk (blk_below (g := w8.heap.size) (o := .cells #[.slice Ao27 r12.length co27, .slice Ao28 r13.length co28] 29 (0, 0)) (pB BK32) hb)
 have N22 := Aside0.mk (show w21.heap.size + 0 ≤ w22.heap.size from Nat.le_trans nL hb.size)
 replace HB := Aside0.mk (below_step (bB HB) hb)
 have HO59 := Aside0.mk (S_ivl (b0 := w21.heap.size) ho0 nL)
 have HO60 := Aside0.mk (R_ivl (b0 := w21.heap.size) (Kd.R_tight rfl ho1) nL)
 clear hb ho0 ho1
 obtain ⟨Ao59, co59, eo59⟩ := Kd.S_slice HO59.out
 subst eo59
 obtain ⟨Ao60, co60, eo60⟩ := Kd.R_slice HO60.out
 subst eo60
 have hne61 := blk_lt BK22.out
 have hcz62 : w22.cell? ⟨w5.heap.size, 0, none⟩ = some (.slice Ao15 r12.length co15) := (blk_cell BK22.out 0).trans rfl
 have hcz63 : w22.cell? ⟨w5.heap.size, 1, none⟩ = some (.slice Ao16 r13.length co16) := (blk_cell BK22.out 1).trans rfl
 go_wp2_with (fail)
 (with_reducible refine (laws_eqSample.calls k _ _ r12 _ _ r13 _ _ r12 _ _ r13 true _ ?side1 ?side2 ?side3 ?side4 ?side5 ?side6 ?side7 ?side8 h7.out).mono ?_)
 (case side1 => exact cS HO59); (case side2 => exact (Kd.S_reads' HO59.out).2.1); (case side3 => exact cR HO60); (case side4 => exact (Kd.R_reads' HO60.out).2.1); (case side5 => exact cS HO15); (case side6 => exact (Kd.S_reads' HO15.out).2.1); (case side7 => exact cR HO16); (case side8 => exact (Kd.R_reads' HO16.out).2.1)
 rintro e w23 ⟨rfl, hb⟩
 replace HO15 := Aside0.mk (Kd.S_below (pS HO15) hb)
 replace HO16 := Aside0.mk (Kd.R_below (pR HO16) hb)
 replace HO27 := Aside0.mk (Kd.S_below (pS HO27) hb)
 replace HO28 := Aside0.mk (Kd.R_below (pR HO28) hb)
 replace HO59 := Aside0.mk (Kd.S_below (pS HO59) hb)
 replace HO60 := Aside0.mk (Kd.R_below (pR HO60) hb)
 replace BK2 := Aside0.mk (blk_below (g := w.heap.size) (o := .cells #[.slice A0_0 l0_0.length c0_0, .slice A0_1 l0_1.length c0_1] 25 (0, 0)) (pB BK2) hb)
 replace BK22 := Aside0.mk (blk_below (g := w5.heap.size) (o := .cells #[.slice Ao15 r12.length co15, .slice Ao16 r13.length co16] 29 (0, 0)) (pB BK22) hb)
 replace BK24 := Aside0.mk (blk_below (g := w6.heap.size) (o := .cells #[.slice Ao20 r6.length co20, .slice Ao21 r7.length co21] 29 (0, 0)) (pB BK24) hb)
 replace BK32 := Aside0.mk (blk_below (g := w8.heap.size) (o := .cells #[.slice Ao27 r12.length co27, .slice Ao28 r13.length co28] 29 (0, 0)) (pB BK32) hb)
 have BK64 := Aside0.mk (blk_below (g := w22.heap.size) (o := .cells #[.slice Ao59 r12.length co59, .slice Ao60 r13.length co60] 29 (0, 0)) (by repeat (first | exact blk_at _ (by first | rfl | (simp; done)) | refine blk_alloc ?_ _ | refine blk_drew ?_ | refine blk_drewN ?_ _)) hb)
 have N23 := Aside0.mk (show w22.heap.size + 1 ≤ w23.heap.size from Nat.le_trans nL hb.size)
 replace HB := Aside0.mk (below_step (bB HB) hb)
 clear hb
 clear hne61 hcz62 hcz63
 have hcz65 : w23.cell? ⟨w8.heap.size, 0, none⟩ = some (.slice Ao27 r12.length co27) := (blk_cell BK32.out 0).trans rfl
 have hcz66 : w23.cell? ⟨w8.heap.size, 1, none⟩ = some (.slice Ao28 r13.length co28) := (blk_cell BK32.out 1).trans rfl
 go_wp2_with (fail)
 refine calls_of_args (args' := #[.agg #[.slice Ao27 r50.length co27, .slice Ao28 r51.length co28], .int .i64 1]) (by rw [(Kd.S_reads' HO27.out).1, (Kd.R_reads' HO28.out).1]) ?_
 (with_reducible refine (laws_heldSample.calls k _ _ r50 _ _ r51 1 r49 _ ?side1 ?side2 ?side3 ?side4 h13.out).mono ?_)
 (case side1 => exact cS HO27); (case side2 => have e_ := Kd.S_reads' HO27.out; rw [← e_.1]; exact e_.2.1); (case side3 => exact cR HO28); (case side4 => have e_ := Kd.R_reads' HO28.out; rw [← e_.1]; exact e_.2.1)
 rintro e w24 ⟨rfl, hb⟩
 replace HO27 := Aside0.mk (Kd.S_below (pS HO27) hb)
 replace HO28 := Aside0.mk (Kd.R_below (pR HO28) hb)
 replace BK2 := Aside0.mk (blk_below (g := w.heap.size) (o := .cells #[.slice A0_0 l0_0.length c0_0, .slice A0_1 l0_1.length c0_1] 25 (0, 0)) (pB BK2) hb)
 replace BK22 := Aside0.mk (blk_below (g := w5.heap.size) (o := .cells #[.slice Ao15 r12.length co15, .slice Ao16 r13.length co16] 29 (0, 0)) (pB BK22) hb)
 replace BK24 := Aside0.mk (blk_below (g := w6.heap.size) (o := .cells #[.slice Ao20 r6.length co20, .slice Ao21 r7.length co21] 29 (0, 0)) (pB BK24) hb)
 replace BK32 := Aside0.mk (blk_below (g := w8.heap.size) (o := .cells #[.slice Ao27 r12.length co27, .slice Ao28 r13.length co28] 29 (0, 0)) (pB BK32) hb)
 replace BK64 := Aside0.mk (blk_below (g := w22.heap.size) (o := .cells #[.slice Ao59 r12.length co59, .slice Ao60 r13.length co60] 29 (0, 0)) (pB BK64) hb)
 have N24 := Aside0.mk (show w23.heap.size + 0 ≤ w24.heap.size from Nat.le_trans nL hb.size)
 replace HB := Aside0.mk (below_step (bB HB) hb)
 clear hb
 clear hcz65 hcz66
 go_wp2_with (fail)
 go_ret
 exact ⟨rfl, (bB HB)⟩

end Go.Proofs.Ytniebbjbihenfaa.GFnExactSidesSample
