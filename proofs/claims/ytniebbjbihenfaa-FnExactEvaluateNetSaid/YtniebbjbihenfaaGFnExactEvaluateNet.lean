import Derived.Test.YtniebbjbihenfaaPFnExactEvaluateNetx
import Derived.Test.YtniebbjbihenfaaKFnExactEvaluateNet
import Derived.Test.YtniebbjbihenfaaMc
import Derived.Test.YtniebbjbihenfaaSh
namespace Go.Proofs.Ytniebbjbihenfaa.GFnExactEvaluateNet
open Go.RowKit Go.Proofs.Ytniebbjbihenfaa.Sh Go.Proofs.Ytniebbjbihenfaa.KFnExactEvaluateNet Go.Proofs.Ytniebbjbihenfaa.Mc Go.Proofs.Ytniebbjbihenfaa.PFnExactEvaluateNet Go.Proofs.YtniebbjbihenfaaW.PrintWords Go.Proofs.YtniebbjbihenfaaW.PrintLast Go.Proofs.YtniebbjbihenfaaW.PrintMore
set_option linter.unusedVariables false
set_option linter.unusedSimpArgs false
set_option maxHeartbeats 8000000 in
set_option maxRecDepth 100000 in
theorem big0 (k : Nat) (a0_0 : Int) (A0_1 : Option Addr) (c0_1 : Nat) (l0_1 : List (List S37)) (A1 : Option Addr) (c1 : Nat) (l1 : List Int)  (w : World) (hr0_1 : Kd.C (Kd.slice 37 k37) w A0_1 l0_1.length l0_1) (hc0_1 : l0_1.length ≤ c0_1) (hr1 : Kd.C (Kd.int .i64) w A1 l1.length l1) (hc1 : l1.length ≤ c1)  (q0 : 1048576 < l1.length) :
 Calls Try.prog 8 #[.agg #[.int .i64 a0_0, .slice A0_1 l0_1.length c0_1], .slice A1 l1.length c1] w fun e w' => e = .returned (.bool true) ∧ Below w.heap.size w w' := by
 have HR0_1 := Aside0.mk hr0_1
 have HC0_1 := Aside0.mk hc0_1
 clear hr0_1 hc0_1
 have HR1 := Aside0.mk hr1
 have HC1 := Aside0.mk hc1
 clear hr1 hc1
 have HB := Aside0.mk (Below.refl w.heap.size w)
 have d0 : decide (1048576 < l1.length) = true := decide_eq_true (by omega)
 have e0 : decide ((l1.length : Int) > 1048576) = true := decide_eq_true (by omega)
 clear q0
 go_enter Try.func8, Try.ntmps8
 go_wp2_with (fail)
 go_ret
 exact ⟨rfl, (bB HB)⟩


set_option maxHeartbeats 8000000 in
set_option maxRecDepth 100000 in
theorem big1 (k : Nat) (a0_0 : Int) (A0_1 : Option Addr) (c0_1 : Nat) (l0_1 : List (List S37)) (A1 : Option Addr) (c1 : Nat) (l1 : List Int) (r1 : Int) (w : World) (hr0_1 : Kd.C (Kd.slice 37 k37) w A0_1 l0_1.length l0_1) (hc0_1 : l0_1.length ≤ c0_1) (hr1 : Kd.C (Kd.int .i64) w A1 l1.length l1) (hc1 : l1.length ≤ c1) (h1 : laws_szNet.f k a0_0 l0_1 1048576 = some r1) (q0 : l1.length ≤ 1048576) (q1 : r1 < 0) :
 Calls Try.prog 8 #[.agg #[.int .i64 a0_0, .slice A0_1 l0_1.length c0_1], .slice A1 l1.length c1] w fun e w' => e = .returned (.bool true) ∧ Below w.heap.size w w' := by
 have HR0_1 := Aside0.mk hr0_1
 have HC0_1 := Aside0.mk hc0_1
 clear hr0_1 hc0_1
 have HR1 := Aside0.mk hr1
 have HC1 := Aside0.mk hc1
 clear hr1 hc1
 have HB := Aside0.mk (Below.refl w.heap.size w)
 replace h1 := Aside0.mk h1
 have d0 : decide (1048576 < l1.length) = false := decide_eq_false (by omega)
 have e0 : decide ((l1.length : Int) > 1048576) = false := decide_eq_false (by omega)
 have d1 : decide (r1 < 0) = true := decide_eq_true (by omega)
 clear q0 q1
 go_enter Try.func8, Try.ntmps8
 go_wp2_with (fail)
 (with_reducible refine (laws_szNet.calls k a0_0 _ _ l0_1 1048576 r1 _ ?side1 ?side2 h1.out).mono ?_)
 (case side1 => exact cB HR0_1 HB); (case side2 => exact HC0_1.out)
 rintro e w1 ⟨rfl, hb⟩
 have BK2 := Aside0.mk (blk_below (g := w.heap.size) (o := .cells #[.int .i64 a0_0, .slice A0_1 l0_1.length c0_1] 56 (0, 0)) (by repeat (first | exact blk_at _ (by first | rfl | (simp; done)) | refine blk_alloc ?_ _ | refine blk_drew ?_ | refine blk_drewN ?_ _)) hb)
 have N1 := Aside0.mk (show w.heap.size + 1 ≤ w1.heap.size from Nat.le_trans nL hb.size)
 replace HB := Aside0.mk (below_step (bB HB) hb)
 clear hb
 have hcz3 : w1.cell? ⟨w.heap.size, 0, none⟩ = some (.int .i64 a0_0) := (blk_cell BK2.out 0).trans rfl
 have hcz4 : w1.cell? ⟨w.heap.size, 1, none⟩ = some (.slice A0_1 l0_1.length c0_1) := (blk_cell BK2.out 1).trans rfl
 go_wp2_with (fail)
 go_ret
 exact ⟨rfl, (bB HB)⟩


set_option maxHeartbeats 8000000 in
set_option maxRecDepth 100000 in
theorem good (k : Nat) (a0_0 : Int) (A0_1 : Option Addr) (c0_1 : Nat) (l0_1 : List (List S37)) (A1 : Option Addr) (c1 : Nat) (l1 : List Int) (r1 : Int) (r5 : Int) (r6 : List (List (S42))) (r8 : List Int) (r10 : List Int) (r11 : Bool) (r25 : Int) (r26 : List (List S42)) (r27 : Int) (r28 : List Int) (r29 : Int) (r30 : List Int) (w : World) (hr0_1 : Kd.C (Kd.slice 37 k37) w A0_1 l0_1.length l0_1) (hc0_1 : l0_1.length ≤ c0_1) (hr1 : Kd.C (Kd.int .i64) w A1 l1.length l1) (hc1 : l1.length ≤ c1) (h1 : laws_szNet.f k a0_0 l0_1 1048576 = some r1) (h2 : laws_toNet.f k a0_0 l0_1 = some (r5, r6)) (h3 : laws_toIntS.f k l1 = some r8) (h4 : spec_EvaluateNet.f k r5 r6 r8 = some (r10, r11)) (h5 : impl_EvaluateNet.f k r5 r6 r8 = some (r10, r11)) (h6 : laws_eqIntS.f k r10 r10 = some true) (h7 : laws_eqNet.f k r5 r6 r5 r6 = some true) (h8 : laws_eqIntS.f k r8 r8 = some true) (h9 : laws_markNet.f k r5 r6 1 = some (r25, r26)) (h10 : laws_markIntS.f k r8 r25 = some (r27, r28)) (h11 : laws_markIntS.f k r10 1 = some (r29, r30)) (h12 : laws_heldIntS.f k r30 1 = some r29) (q0 : l1.length ≤ 1048576) (q1 : 0 ≤ r1) (q2 : 0 ≤ r25) (q3 : 0 ≤ r27) (q4 : 0 ≤ r29) :
 Calls Try.prog 8 #[.agg #[.int .i64 a0_0, .slice A0_1 l0_1.length c0_1], .slice A1 l1.length c1] w fun e w' => e = .returned (.bool true) ∧ Below w.heap.size w w' := by
 have HR0_1 := Aside0.mk hr0_1
 have HC0_1 := Aside0.mk hc0_1
 clear hr0_1 hc0_1
 have HR1 := Aside0.mk hr1
 have HC1 := Aside0.mk hc1
 clear hr1 hc1
 have HB := Aside0.mk (Below.refl w.heap.size w)
 replace h1 := Aside0.mk h1
 replace h2 := Aside0.mk h2
 replace h3 := Aside0.mk h3
 replace h4 := Aside0.mk h4
 replace h5 := Aside0.mk h5
 replace h6 := Aside0.mk h6
 replace h7 := Aside0.mk h7
 replace h8 := Aside0.mk h8
 replace h9 := Aside0.mk h9
 replace h10 := Aside0.mk h10
 replace h11 := Aside0.mk h11
 replace h12 := Aside0.mk h12
 have d0 : decide (1048576 < l1.length) = false := decide_eq_false (by omega)
 have e0 : decide ((l1.length : Int) > 1048576) = false := decide_eq_false (by omega)
 have d1 : decide (r1 < 0) = false := decide_eq_false (by omega)
 have d2 : decide (r25 < 0) = false := decide_eq_false (by omega)
 have d3 : decide (r27 < 0) = false := decide_eq_false (by omega)
 have d4 : decide (r29 < 0) = false := decide_eq_false (by omega)
 clear q0 q1 q2 q3 q4
 go_enter Try.func8, Try.ntmps8
 go_wp2_with (fail)
 (with_reducible refine (laws_szNet.calls k a0_0 _ _ l0_1 1048576 r1 _ ?side1 ?side2 h1.out).mono ?_)
 (case side1 => exact cB HR0_1 HB); (case side2 => exact HC0_1.out)
 rintro e w1 ⟨rfl, hb⟩
 have BK2 := Aside0.mk (blk_below (g := w.heap.size) (o := .cells #[.int .i64 a0_0, .slice A0_1 l0_1.length c0_1] 56 (0, 0)) (by repeat (first | exact blk_at _ (by first | rfl | (simp; done)) | refine blk_alloc ?_ _ | refine blk_drew ?_ | refine blk_drewN ?_ _)) hb)
 have N1 := Aside0.mk (show w.heap.size + 1 ≤ w1.heap.size from Nat.le_trans nL hb.size)
 replace HB := Aside0.mk (below_step (bB HB) hb)
 clear hb
 have hcz3 : w1.cell? ⟨w.heap.size, 0, none⟩ = some (.int .i64 a0_0) := (blk_cell BK2.out 0).trans rfl
 have hcz4 : w1.cell? ⟨w.heap.size, 1, none⟩ = some (.slice A0_1 l0_1.length c0_1) := (blk_cell BK2.out 1).trans rfl
 go_wp2_with (fail)
 (with_reducible refine (laws_toNet.callsS k a0_0 _ _ l0_1 r5 r6 _ ?side1 ?side2 h2.out).mono ?_)
 (case side1 => exact cB HR0_1 HB); (case side2 => exact HC0_1.out)
 rintro e w2 ⟨v7, rfl, ho0, hb⟩
 replace BK2 := Aside0.mk (blk_below (g := w.heap.size) (o := .cells #[.int .i64 a0_0, .slice A0_1 l0_1.length c0_1] 56 (0, 0)) (pB BK2) hb)
 have N2 := Aside0.mk (show w1.heap.size + 0 ≤ w2.heap.size from Nat.le_trans nL hb.size)
 replace HB := Aside0.mk (below_step (bB HB) hb)
 have HO7 := Aside0.mk (S_ivl (b0 := w1.heap.size) ho0 nL)
 clear hb ho0
 obtain ⟨Ao7, co7, eo7⟩ := Kd.S_slice HO7.out
 subst eo7
 clear hcz3 hcz4
 go_wp2_with (fail)
 (with_reducible refine (laws_toIntS.calls k _ _ l1 r8 _ ?side1 ?side2 h3.out).mono ?_)
 (case side1 => exact cB HR1 HB); (case side2 => exact HC1.out)
 rintro e w3 ⟨v9, rfl, ho0, hb⟩
 replace HO7 := Aside0.mk (Kd.S_below (pS HO7) hb)
 replace BK2 := Aside0.mk (blk_below (g := w.heap.size) (o := .cells #[.int .i64 a0_0, .slice A0_1 l0_1.length c0_1] 56 (0, 0)) (pB BK2) hb)
 have N3 := Aside0.mk (show w2.heap.size + 0 ≤ w3.heap.size from Nat.le_trans nL hb.size)
 replace HB := Aside0.mk (below_step (bB HB) hb)
 have HO9 := Aside0.mk (R_ivl (b0 := w2.heap.size) (Kd.R_tight rfl ho0) nL)
 clear hb ho0
 obtain ⟨Ao9, co9, eo9⟩ := Kd.R_slice HO9.out
 subst eo9
 go_wp2_with (fail)
 (with_reducible refine (spec_EvaluateNet.calls k r5 _ _ r6 _ _ r8 r10 r11 _ ?side1 ?side2 ?side3 ?side4 h4.out).mono ?_)
 (case side1 => exact cS HO7); (case side2 => exact (Kd.S_reads' HO7.out).2.1); (case side3 => exact cR HO9); (case side4 => exact (Kd.R_reads' HO9.out).2.1)
 rintro e w4 ⟨v12, rfl, ho0, hb⟩
 replace HO7 := Aside0.mk (Kd.S_below (pS HO7) hb)
 replace HO9 := Aside0.mk (Kd.R_below (pR HO9) hb)
 replace BK2 := Aside0.mk (blk_below (g := w.heap.size) (o := .cells #[.int .i64 a0_0, .slice A0_1 l0_1.length c0_1] 56 (0, 0)) (pB BK2) hb)
 have N4 := Aside0.mk (show w3.heap.size + 0 ≤ w4.heap.size from Nat.le_trans nL hb.size)
 replace HB := Aside0.mk (below_step (bB HB) hb)
 have HO12 := Aside0.mk (R_ivl (b0 := w3.heap.size) (Kd.R_tight rfl ho0) nL)
 clear hb ho0
 obtain ⟨Ao12, co12, eo12⟩ := Kd.R_slice HO12.out
 subst eo12
 have hcz13 : w4.cell? ⟨w.heap.size, 0, none⟩ = some (.int .i64 a0_0) := (blk_cell BK2.out 0).trans rfl
 have hcz14 : w4.cell? ⟨w.heap.size, 1, none⟩ = some (.slice A0_1 l0_1.length c0_1) := (blk_cell BK2.out 1).trans rfl
 go_wp2_with (fail)
 (with_reducible refine (laws_toNet.callsS k a0_0 _ _ l0_1 r5 r6 _ ?side1 ?side2 h2.out).mono ?_)
 (case side1 => exact cB HR0_1 HB); (case side2 => exact HC0_1.out)
 rintro e w5 ⟨v15, rfl, ho0, hb⟩
 replace HO12 := Aside0.mk (Kd.R_below (pR HO12) hb)
 replace BK2 := Aside0.mk (blk_below (g := w.heap.size) (o := .cells #[.int .i64 a0_0, .slice A0_1 l0_1.length c0_1] 56 (0, 0)) (pB BK2) hb)
 have N5 := Aside0.mk (show w4.heap.size + 0 ≤ w5.heap.size from Nat.le_trans nL hb.size)
 replace HB := Aside0.mk (below_step (bB HB) hb)
 have HO15 := Aside0.mk (S_ivl (b0 := w4.heap.size) ho0 nL)
 clear hb ho0
 obtain ⟨Ao15, co15, eo15⟩ := Kd.S_slice HO15.out
 subst eo15
 clear hcz13 hcz14
 go_wp2_with (fail)
 (with_reducible refine (laws_toIntS.calls k _ _ l1 r8 _ ?side1 ?side2 h3.out).mono ?_)
 (case side1 => exact cB HR1 HB); (case side2 => exact HC1.out)
 rintro e w6 ⟨v16, rfl, ho0, hb⟩
 replace HO12 := Aside0.mk (Kd.R_below (pR HO12) hb)
 replace HO15 := Aside0.mk (Kd.S_below (pS HO15) hb)
 replace BK2 := Aside0.mk (blk_below (g := w.heap.size) (o := .cells #[.int .i64 a0_0, .slice A0_1 l0_1.length c0_1] 56 (0, 0)) (pB BK2) hb)
 have BK17 := Aside0.mk (blk_below (g := w5.heap.size) (o := .cells #[.int .i64 r5, .slice Ao15 r6.length co15] 62 (0, 0)) (by repeat (first | exact blk_at _ (by first | rfl | (simp; done)) | refine blk_alloc ?_ _ | refine blk_drew ?_ | refine blk_drewN ?_ _)) hb)
 have N6 := Aside0.mk (show w5.heap.size + 1 ≤ w6.heap.size from Nat.le_trans nL hb.size)
 replace HB := Aside0.mk (below_step (bB HB) hb)
 have HO16 := Aside0.mk (R_ivl (b0 := (w5.heap.size + 1)) (Kd.R_tight rfl ho0) nL)
 clear hb ho0
 obtain ⟨Ao16, co16, eo16⟩ := Kd.R_slice HO16.out
 subst eo16
 have hcz18 : w6.cell? ⟨w5.heap.size, 0, none⟩ = some (.int .i64 r5) := (blk_cell BK17.out 0).trans rfl
 have hcz19 : w6.cell? ⟨w5.heap.size, 1, none⟩ = some (.slice Ao15 r6.length co15) := (blk_cell BK17.out 1).trans rfl
 go_wp2_with (fail)
 (with_reducible refine (impl_EvaluateNet.calls k r5 _ _ r6 _ _ r8 r10 r11 _ ?side1 ?side2 ?side3 ?side4 h5.out).mono ?_)
 (case side1 => exact cS HO15); (case side2 => exact (Kd.S_reads' HO15.out).2.1); (case side3 => exact cR HO16); (case side4 => exact (Kd.R_reads' HO16.out).2.1)
 rintro e w7 ⟨v20, rfl, ho0, hb⟩
 replace HO12 := Aside0.mk (Kd.R_below (pR HO12) hb)
 replace HO15 := Aside0.mk (Kd.S_below (pS HO15) hb)
 replace HO16 := Aside0.mk (Kd.R_below (pR HO16) hb)
 replace BK2 := Aside0.mk (blk_below (g := w.heap.size) (o := .cells #[.int .i64 a0_0, .slice A0_1 l0_1.length c0_1] 56 (0, 0)) (pB BK2) hb)
 replace BK17 := Aside0.mk (blk_below (g := w5.heap.size) (o := .cells #[.int .i64 r5, .slice Ao15 r6.length co15] 62 (0, 0)) (pB BK17) hb)
 have N7 := Aside0.mk (show w6.heap.size + 0 ≤ w7.heap.size from Nat.le_trans nL hb.size)
 replace HB := Aside0.mk (below_step (bB HB) hb)
 have HO20 := Aside0.mk (R_ivl (b0 := w6.heap.size) (Kd.R_tight rfl ho0) nL)
 clear hb ho0
 obtain ⟨Ao20, co20, eo20⟩ := Kd.R_slice HO20.out
 subst eo20
 clear hcz18 hcz19
 go_wp2_with (fail)
 (with_reducible refine (laws_eqIntS.calls k _ _ r10 _ _ r10 true _ ?side1 ?side2 ?side3 ?side4 h6.out).mono ?_)
 (case side1 => exact cR HO20); (case side2 => exact (Kd.R_reads' HO20.out).2.1); (case side3 => exact cR HO12); (case side4 => exact (Kd.R_reads' HO12.out).2.1)
 rintro e w8 ⟨rfl, hd⟩
 have hb := hd.below
 replace HO12 := Aside0.mk (Kd.R_below (pR HO12) hb)
 replace HO15 := Aside0.mk (Kd.S_below (pS HO15) hb)
 replace HO16 := Aside0.mk (Kd.R_below (pR HO16) hb)
 replace HO20 := Aside0.mk (Kd.R_below (pR HO20) hb)
 replace BK2 := Aside0.mk (blk_below (g := w.heap.size) (o := .cells #[.int .i64 a0_0, .slice A0_1 l0_1.length c0_1] 56 (0, 0)) (pB BK2) hb)
 replace BK17 := Aside0.mk (blk_below (g := w5.heap.size) (o := .cells #[.int .i64 r5, .slice Ao15 r6.length co15] 62 (0, 0)) (pB BK17) hb)
 have N8 := Aside0.mk (show w7.heap.size + 0 ≤ w8.heap.size from Nat.le_trans nL hb.size)
 replace HB := Aside0.mk (below_step (bB HB) hb)
 clear hd hb
 go_wp2_with (fail)
 replace HO12 := Aside0.mk (Kd.R_drew HO12.out)
 replace HO15 := Aside0.mk (Kd.S_drew HO15.out)
 replace HO16 := Aside0.mk (Kd.R_drew HO16.out)
 replace HO20 := Aside0.mk (Kd.R_drew HO20.out)
 replace BK2 := Aside0.mk (blk_drew BK2.out)
 replace BK17 := Aside0.mk (blk_drew BK17.out)
 replace HB := Aside0.mk (below_drew1 HB.out)
 refine start_ (n := 5) (S := fun w' => w'.cell? ⟨w5.heap.size, 0, none⟩ = some (.int .i64 r5) ∧ w'.cell? ⟨w5.heap.size, 1, none⟩ = some (.slice Ao15 r6.length co15) ∧ w'.cell? ⟨w.heap.size, 0, none⟩ = some (.int .i64 a0_0) ∧ w'.cell? ⟨w.heap.size, 1, none⟩ = some (.slice A0_1 l0_1.length c0_1)) (ds := []) #[false, false, false, false, false] (by kernel_rfl) rfl rfl ⟨(blk_cell BK17.out 0).trans rfl, (blk_cell BK17.out 1).trans rfl, (blk_cell BK2.out 0).trans rfl, (blk_cell BK2.out 1).trans rfl⟩ (fun hHeld => ?_)
 have N9 := Aside0.mk (show w8.heap.size ≤ w8.drew.heap.size from Nat.le_refl _)
 generalize w8.drew = w9 at HB HO12 HO15 HO16 HO20 BK2 BK17 N9 hHeld ⊢
 refine take_ (i := 0) (N := some 52) (v := ?_) (a' := ?_) #[true, false, false, false, false] rfl rfl (by kernel_rfl) (fun _ _ _ h => h) (Or.inl ⟨by rfl, ?_⟩) hHeld ?_ ?_
 rotate_left
 · rintro w' ⟨s0, s1, s2, s3⟩
   go_simp
   with_reducible rfl
 rotate_left
 · exact aP
 refine take_ (i := 1) (N := some 53) (v := ?_) (a' := ?_) #[true, true, false, false, false] rfl rfl (by kernel_rfl) (fun _ _ _ h => h) (Or.inl ⟨by rfl, ?_⟩) hHeld ?_ ?_
 rotate_left
 · rintro w' ⟨s0, s1, s2, s3⟩
   go_simp
   with_reducible rfl
 rotate_left
 · exact aP
 refine one_ (i := 2) (N := some 54) #[true, true, true, false, false] rfl rfl (by kernel_rfl) (by decide) (fun K hK => ?_)
 refine goes_ Try.func41 (by kernel_rfl) rfl #[.agg #[.int .i64 a0_0, .slice A0_1 l0_1.length c0_1]] (by rfl) rfl rfl aT ?_
 (with_reducible refine (laws_toNet.callsS k a0_0 _ _ l0_1 r5 r6 _ ?side1 ?side2 h2.out).mono ?_)
 (case side1 => exact cB HR0_1 HB); (case side2 => exact HC0_1.out)
 rintro e w10 ⟨v21, rfl, ho0, hb⟩; refine ⟨_, rfl, ?_⟩
 replace HO12 := Aside0.mk (Kd.R_below (pR HO12) hb)
 replace HO15 := Aside0.mk (Kd.S_below (pS HO15) hb)
 replace HO16 := Aside0.mk (Kd.R_below (pR HO16) hb)
 replace HO20 := Aside0.mk (Kd.R_below (pR HO20) hb)
 replace BK2 := Aside0.mk (blk_below (g := w.heap.size) (o := .cells #[.int .i64 a0_0, .slice A0_1 l0_1.length c0_1] 56 (0, 0)) (pB BK2) hb)
 replace BK17 := Aside0.mk (blk_below (g := w5.heap.size) (o := .cells #[.int .i64 r5, .slice Ao15 r6.length co15] 62 (0, 0)) (pB BK17) hb)
 have N10 := Aside0.mk (show w9.heap.size + 0 ≤ w10.heap.size from Nat.le_trans nL hb.size)
 replace HB := Aside0.mk (below_step (bB HB) hb)
 have HO21 := Aside0.mk (S_ivl (b0 := w9.heap.size) ho0 nL)
 clear hb ho0
 obtain ⟨Ao21, co21, eo21⟩ := Kd.S_slice HO21.out
 subst eo21
 refine hK.out _ _ ⟨(blk_cell BK17.out 0).trans rfl, (blk_cell BK17.out 1).trans rfl, (blk_cell BK2.out 0).trans rfl, (blk_cell BK2.out 1).trans rfl⟩ (fun hHeld => ?_)
 clear hK K
 refine norm_ (a' := ?_) ?_ ?_
 rotate_left
 · show Act.put _ (some 54) _ = _
   simp only [Act.put, List.setIfInBounds_toArray, List.set_cons_zero, List.set_cons_succ, i64_w, i32_w]
   rfl
 refine one_ (i := 3) (N := some 55) #[true, true, true, true, false] rfl rfl (by kernel_rfl) (by decide) (fun K hK => ?_)
 refine goes_ Try.func43 (by kernel_rfl) rfl #[.agg #[.int .i64 r5, .slice Ao15 r6.length co15], .agg #[.int .i64 r5, .slice Ao21 r6.length co21]] (by rfl) rfl rfl aT ?_
 (with_reducible refine (laws_eqNet.calls k r5 _ _ r6 r5 _ _ r6 true _ ?side1 ?side2 ?side3 ?side4 h7.out).mono ?_)
 (case side1 => exact cS HO15); (case side2 => exact (Kd.S_reads' HO15.out).2.1); (case side3 => exact cS HO21); (case side4 => exact (Kd.S_reads' HO21.out).2.1)
 rintro e w11 ⟨rfl, hb⟩; refine ⟨_, rfl, ?_⟩
 replace HO12 := Aside0.mk (Kd.R_below (pR HO12) hb)
 replace HO15 := Aside0.mk (Kd.S_below (pS HO15) hb)
 replace HO16 := Aside0.mk (Kd.R_below (pR HO16) hb)
 replace HO20 := Aside0.mk (Kd.R_below (pR HO20) hb)
 replace HO21 := Aside0.mk (Kd.S_below (pS HO21) hb)
 replace BK2 := Aside0.mk (blk_below (g := w.heap.size) (o := .cells #[.int .i64 a0_0, .slice A0_1 l0_1.length c0_1] 56 (0, 0)) (pB BK2) hb)
 replace BK17 := Aside0.mk (blk_below (g := w5.heap.size) (o := .cells #[.int .i64 r5, .slice Ao15 r6.length co15] 62 (0, 0)) (pB BK17) hb)
 have N11 := Aside0.mk (show w10.heap.size + 0 ≤ w11.heap.size from Nat.le_trans nL hb.size)
 replace HB := Aside0.mk (below_step (bB HB) hb)
 clear hb
 refine hK.out _ _ ⟨(blk_cell BK17.out 0).trans rfl, (blk_cell BK17.out 1).trans rfl, (blk_cell BK2.out 0).trans rfl, (blk_cell BK2.out 1).trans rfl⟩ (fun hHeld => ?_)
 clear hK K
 refine norm_ (a' := ?_) ?_ ?_
 rotate_left
 · show Act.put _ (some 55) _ = _
   simp only [Act.put, List.setIfInBounds_toArray, List.set_cons_zero, List.set_cons_succ, i64_w, i32_w]
   rfl
 refine pure_ (i := 4) (N := some 56) (v := ?_) (a' := ?_) #[true, true, true, true, true] rfl rfl (by kernel_rfl) (fun _ _ _ h => h) (Or.inl ⟨by rfl, ?_⟩) ?_ ?_
 rotate_left
 · intro w'
   go_simp
   with_reducible rfl
 rotate_left
 · exact aP
 refine done_ (by kernel_rfl) ?_
 go_wp2_with (fail)
 (with_reducible refine (laws_toIntS.calls k _ _ l1 r8 _ ?side1 ?side2 h3.out).mono ?_)
 (case side1 => exact cB HR1 HB); (case side2 => exact HC1.out)
 rintro e w12 ⟨v22, rfl, ho0, hb⟩
 replace HO12 := Aside0.mk (Kd.R_below (pR HO12) hb)
 replace HO15 := Aside0.mk (Kd.S_below (pS HO15) hb)
 replace HO16 := Aside0.mk (Kd.R_below (pR HO16) hb)
 replace HO20 := Aside0.mk (Kd.R_below (pR HO20) hb)
 replace BK2 := Aside0.mk (blk_below (g := w.heap.size) (o := .cells #[.int .i64 a0_0, .slice A0_1 l0_1.length c0_1] 56 (0, 0)) (pB BK2) hb)
 replace BK17 := Aside0.mk (blk_below (g := w5.heap.size) (o := .cells #[.int .i64 r5, .slice Ao15 r6.length co15] 62 (0, 0)) (pB BK17) hb)
 have N12 := Aside0.mk (show w11.heap.size + 0 ≤ w12.heap.size from Nat.le_trans nL hb.size)
 replace HB := Aside0.mk (below_step (bB HB) hb)
 have HO22 := Aside0.mk (R_ivl (b0 := w11.heap.size) (Kd.R_tight rfl ho0) nL)
 clear hb ho0
 obtain ⟨Ao22, co22, eo22⟩ := Kd.R_slice HO22.out
 subst eo22
 go_wp2_with (fail)
 (with_reducible refine (laws_eqIntS.calls k _ _ r8 _ _ r8 true _ ?side1 ?side2 ?side3 ?side4 h8.out).mono ?_)
 (case side1 => exact cR HO16); (case side2 => exact (Kd.R_reads' HO16.out).2.1); (case side3 => exact cR HO22); (case side4 => exact (Kd.R_reads' HO22.out).2.1)
 rintro e w13 ⟨rfl, hd⟩
 have hb := hd.below
 replace HO12 := Aside0.mk (Kd.R_below (pR HO12) hb)
 replace HO15 := Aside0.mk (Kd.S_below (pS HO15) hb)
 replace HO16 := Aside0.mk (Kd.R_below (pR HO16) hb)
 replace HO20 := Aside0.mk (Kd.R_below (pR HO20) hb)
 replace HO22 := Aside0.mk (Kd.R_below (pR HO22) hb)
 replace BK2 := Aside0.mk (blk_below (g := w.heap.size) (o := .cells #[.int .i64 a0_0, .slice A0_1 l0_1.length c0_1] 56 (0, 0)) (pB BK2) hb)
 replace BK17 := Aside0.mk (blk_below (g := w5.heap.size) (o := .cells #[.int .i64 r5, .slice Ao15 r6.length co15] 62 (0, 0)) (pB BK17) hb)
 have N13 := Aside0.mk (show w12.heap.size + 0 ≤ w13.heap.size from Nat.le_trans nL hb.size)
 replace HB := Aside0.mk (below_step (bB HB) hb)
 clear hd hb
 have hcz23 : w13.cell? ⟨w5.heap.size, 0, none⟩ = some (.int .i64 r5) := (blk_cell BK17.out 0).trans rfl
 have hcz24 : w13.cell? ⟨w5.heap.size, 1, none⟩ = some (.slice Ao15 r6.length co15) := (blk_cell BK17.out 1).trans rfl
 go_wp2_with (fail)
 (with_reducible refine (laws_markNet.calls k r5 (fun k_ => True ∧ w4.heap.size ≤ k_ ∧ k_ < w5.heap.size) (.slice Ao15 r6.length co15) r6 1 r25 r26 w _ ?side1 ?side2 h9.out).mono ?_)
 (case side1 => exact bB HB); (case side2 => refine Kd.S_lower (pS HO15) ?_; have := N1.out; have := N2.out; have := N3.out; have := N4.out; omega)
 rintro e w14 ⟨rfl, ho0, hB1, hK1⟩
 replace HO12 := Aside0.mk (Kd.R_step (pR HO12) (fun k_ (ho_ : some k_ = (.slice Ao12 r10.length co12 : Value).ownBlock ∧ w3.heap.size ≤ k_ ∧ k_ < w4.heap.size) hl_ => hK1.2 k_ hl_ (fun (hs_ : (True ∧ w4.heap.size ≤ k_ ∧ k_ < w5.heap.size)) => by have ha_ := ho_.2; have hb_ := hs_.2; have := N1.out; have := N2.out; have := N3.out; have := N4.out; have := N5.out; have := N6.out; have := N7.out; have := N8.out; have := N9.out; have := N10.out; have := N11.out; have := N12.out; have := N13.out; omega)))
 replace HO16 := Aside0.mk (Kd.R_step (pR HO16) (fun k_ (ho_ : some k_ = (.slice Ao16 r8.length co16 : Value).ownBlock ∧ (w5.heap.size + 1) ≤ k_ ∧ k_ < w6.heap.size) hl_ => hK1.2 k_ hl_ (fun (hs_ : (True ∧ w4.heap.size ≤ k_ ∧ k_ < w5.heap.size)) => by have ha_ := ho_.2; have hb_ := hs_.2; have := N1.out; have := N2.out; have := N3.out; have := N4.out; have := N5.out; have := N6.out; have := N7.out; have := N8.out; have := N9.out; have := N10.out; have := N11.out; have := N12.out; have := N13.out; omega)))
 replace HO20 := Aside0.mk (Kd.R_step (pR HO20) (fun k_ (ho_ : some k_ = (.slice Ao20 r10.length co20 : Value).ownBlock ∧ w6.heap.size ≤ k_ ∧ k_ < w7.heap.size) hl_ => hK1.2 k_ hl_ (fun (hs_ : (True ∧ w4.heap.size ≤ k_ ∧ k_ < w5.heap.size)) => by have ha_ := ho_.2; have hb_ := hs_.2; have := N1.out; have := N2.out; have := N3.out; have := N4.out; have := N5.out; have := N6.out; have := N7.out; have := N8.out; have := N9.out; have := N10.out; have := N11.out; have := N12.out; have := N13.out; omega)))
 replace BK2 := Aside0.mk (blk_kept (pB BK2) hK1 (fun hs_ => by have hs2_ : (True ∧ w4.heap.size ≤ (w.heap.size) ∧ (w.heap.size) < w5.heap.size) := hs_; have hb_ := hs2_.2; have := N1.out; have := N2.out; have := N3.out; have := N4.out; have := N5.out; have := N6.out; have := N7.out; have := N8.out; have := N9.out; have := N10.out; have := N11.out; have := N12.out; have := N13.out; omega))
 replace BK17 := Aside0.mk (blk_kept (pB BK17) hK1 (fun hs_ => by have hs2_ : (True ∧ w4.heap.size ≤ (w5.heap.size) ∧ (w5.heap.size) < w5.heap.size) := hs_; have hb_ := hs2_.2; have := N1.out; have := N2.out; have := N3.out; have := N4.out; have := N5.out; have := N6.out; have := N7.out; have := N8.out; have := N9.out; have := N10.out; have := N11.out; have := N12.out; have := N13.out; omega))
 have N14 := Aside0.mk (show w13.heap.size ≤ w14.heap.size from Nat.le_trans nL hK1.1)
 replace HB := Aside0.mk hB1
 replace HO15 := Aside0.mk (Kd.S_mono (ok' := fun k_ => (True ∧ w4.heap.size ≤ k_ ∧ k_ < w5.heap.size) ∨ w13.heap.size ≤ k_) ho0 (fun k_ h_ => h_.imp id (fun z_ => Nat.le_trans nL z_)))
 clear hK1 ho0 hB1
 clear hcz23 hcz24
 go_wp2_with (fail)
 (with_reducible refine (laws_markIntS.calls k (fun k_ => some k_ = (.slice Ao16 r8.length co16 : Value).ownBlock ∧ (w5.heap.size + 1) ≤ k_ ∧ k_ < w6.heap.size) (.slice Ao16 r8.length co16) r8 r25 r27 r28 w _ ?side1 ?side2 h10.out).mono ?_)
 (case side1 => exact bB HB); (case side2 => refine Kd.R_lower (pR HO16) ?_; have := N1.out; have := N2.out; have := N3.out; have := N4.out; have := N5.out; omega)
 rintro e w15 ⟨rfl, ho0, hB1, hK1⟩
 replace HO12 := Aside0.mk (Kd.R_step (pR HO12) (fun k_ (ho_ : some k_ = (.slice Ao12 r10.length co12 : Value).ownBlock ∧ w3.heap.size ≤ k_ ∧ k_ < w4.heap.size) hl_ => hK1.2 k_ hl_ (fun (hs_ : (some k_ = (.slice Ao16 r8.length co16 : Value).ownBlock ∧ (w5.heap.size + 1) ≤ k_ ∧ k_ < w6.heap.size)) => by have ha_ := ho_.2; have hb_ := hs_.2; have := N1.out; have := N2.out; have := N3.out; have := N4.out; have := N5.out; have := N6.out; have := N7.out; have := N8.out; have := N9.out; have := N10.out; have := N11.out; have := N12.out; have := N13.out; have := N14.out; omega)))
 replace HO20 := Aside0.mk (Kd.R_step (pR HO20) (fun k_ (ho_ : some k_ = (.slice Ao20 r10.length co20 : Value).ownBlock ∧ w6.heap.size ≤ k_ ∧ k_ < w7.heap.size) hl_ => hK1.2 k_ hl_ (fun (hs_ : (some k_ = (.slice Ao16 r8.length co16 : Value).ownBlock ∧ (w5.heap.size + 1) ≤ k_ ∧ k_ < w6.heap.size)) => by have ha_ := ho_.2; have hb_ := hs_.2; have := N1.out; have := N2.out; have := N3.out; have := N4.out; have := N5.out; have := N6.out; have := N7.out; have := N8.out; have := N9.out; have := N10.out; have := N11.out; have := N12.out; have := N13.out; have := N14.out; omega)))
 replace BK2 := Aside0.mk (blk_kept (pB BK2) hK1 (fun hs_ => by have hs2_ : (some (w.heap.size) = (.slice Ao16 r8.length co16 : Value).ownBlock ∧ (w5.heap.size + 1) ≤ (w.heap.size) ∧ (w.heap.size) < w6.heap.size) := hs_; have hb_ := hs2_.2; have := N1.out; have := N2.out; have := N3.out; have := N4.out; have := N5.out; have := N6.out; have := N7.out; have := N8.out; have := N9.out; have := N10.out; have := N11.out; have := N12.out; have := N13.out; have := N14.out; omega))
 replace BK17 := Aside0.mk (blk_kept (pB BK17) hK1 (fun hs_ => by have hs2_ : (some (w5.heap.size) = (.slice Ao16 r8.length co16 : Value).ownBlock ∧ (w5.heap.size + 1) ≤ (w5.heap.size) ∧ (w5.heap.size) < w6.heap.size) := hs_; have hb_ := hs2_.2; have := N1.out; have := N2.out; have := N3.out; have := N4.out; have := N5.out; have := N6.out; have := N7.out; have := N8.out; have := N9.out; have := N10.out; have := N11.out; have := N12.out; have := N13.out; have := N14.out; omega))
 have N15 := Aside0.mk (show w14.heap.size ≤ w15.heap.size from Nat.le_trans nL hK1.1)
 replace HB := Aside0.mk hB1
 replace HO16 := Aside0.mk (Kd.R_mono (ok' := fun k_ => (some k_ = (.slice Ao16 r8.length co16 : Value).ownBlock ∧ (w5.heap.size + 1) ≤ k_ ∧ k_ < w6.heap.size) ∨ w14.heap.size ≤ k_) ho0 (fun k_ h_ => h_.imp id (fun z_ => Nat.le_trans nL z_)))
 clear hK1 ho0 hB1
 go_wp2_with (fail)
 (with_reducible refine (laws_eqIntS.calls k _ _ r10 _ _ r10 true _ ?side1 ?side2 ?side3 ?side4 h6.out).mono ?_)
 (case side1 => exact cR HO20); (case side2 => exact (Kd.R_reads' HO20.out).2.1); (case side3 => exact cR HO12); (case side4 => exact (Kd.R_reads' HO12.out).2.1)
 rintro e w16 ⟨rfl, hd⟩
 have hb := hd.below
 replace HO12 := Aside0.mk (Kd.R_below (pR HO12) hb)
 replace HO20 := Aside0.mk (Kd.R_below (pR HO20) hb)
 replace BK2 := Aside0.mk (blk_below (g := w.heap.size) (o := .cells #[.int .i64 a0_0, .slice A0_1 l0_1.length c0_1] 56 (0, 0)) (pB BK2) hb)
 replace BK17 := Aside0.mk (blk_below (g := w5.heap.size) (o := .cells #[.int .i64 r5, .slice Ao15 r6.length co15] 62 (0, 0)) (pB BK17) hb)
 have N16 := Aside0.mk (show w15.heap.size + 0 ≤ w16.heap.size from Nat.le_trans nL hb.size)
 replace HB := Aside0.mk (below_step (bB HB) hb)
 clear hd hb
 go_wp2_with (fail)
 (with_reducible refine (laws_markIntS.calls k (fun k_ => some k_ = (.slice Ao20 r10.length co20 : Value).ownBlock ∧ w6.heap.size ≤ k_ ∧ k_ < w7.heap.size) (.slice Ao20 r10.length co20) r10 1 r29 r30 w _ ?side1 ?side2 h11.out).mono ?_)
 (case side1 => exact bB HB); (case side2 => refine Kd.R_lower (pR HO20) ?_; have := N1.out; have := N2.out; have := N3.out; have := N4.out; have := N5.out; have := N6.out; omega)
 rintro e w17 ⟨rfl, ho0, hB1, hK1⟩
 replace HO12 := Aside0.mk (Kd.R_step (pR HO12) (fun k_ (ho_ : some k_ = (.slice Ao12 r10.length co12 : Value).ownBlock ∧ w3.heap.size ≤ k_ ∧ k_ < w4.heap.size) hl_ => hK1.2 k_ hl_ (fun (hs_ : (some k_ = (.slice Ao20 r10.length co20 : Value).ownBlock ∧ w6.heap.size ≤ k_ ∧ k_ < w7.heap.size)) => by have ha_ := ho_.2; have hb_ := hs_.2; have := N1.out; have := N2.out; have := N3.out; have := N4.out; have := N5.out; have := N6.out; have := N7.out; have := N8.out; have := N9.out; have := N10.out; have := N11.out; have := N12.out; have := N13.out; have := N14.out; have := N15.out; have := N16.out; omega)))
 replace BK2 := Aside0.mk (blk_kept (pB BK2) hK1 (fun hs_ => by have hs2_ : (some (w.heap.size) = (.slice Ao20 r10.length co20 : Value).ownBlock ∧ w6.heap.size ≤ (w.heap.size) ∧ (w.heap.size) < w7.heap.size) := hs_; have hb_ := hs2_.2; have := N1.out; have := N2.out; have := N3.out; have := N4.out; have := N5.out; have := N6.out; have := N7.out; have := N8.out; have := N9.out; have := N10.out; have := N11.out; have := N12.out; have := N13.out; have := N14.out; have := N15.out; have := N16.out; omega))
 replace BK17 := Aside0.mk (blk_kept (pB BK17) hK1 (fun hs_ => by have hs2_ : (some (w5.heap.size) = (.slice Ao20 r10.length co20 : Value).ownBlock ∧ w6.heap.size ≤ (w5.heap.size) ∧ (w5.heap.size) < w7.heap.size) := hs_; have hb_ := hs2_.2; have := N1.out; have := N2.out; have := N3.out; have := N4.out; have := N5.out; have := N6.out; have := N7.out; have := N8.out; have := N9.out; have := N10.out; have := N11.out; have := N12.out; have := N13.out; have := N14.out; have := N15.out; have := N16.out; omega))
 have N17 := Aside0.mk (show w16.heap.size ≤ w17.heap.size from Nat.le_trans nL hK1.1)
 replace HB := Aside0.mk hB1
 replace HO20 := Aside0.mk (Kd.R_mono (ok' := fun k_ => (some k_ = (.slice Ao20 r10.length co20 : Value).ownBlock ∧ w6.heap.size ≤ k_ ∧ k_ < w7.heap.size) ∨ w16.heap.size ≤ k_) ho0 (fun k_ h_ => h_.imp id (fun z_ => Nat.le_trans nL z_)))
 clear hK1 ho0 hB1
 go_wp2_with (fail)
 refine calls_of_args (args' := #[.slice Ao20 r30.length co20, .int .i64 1]) (by rw [(Kd.R_reads' HO20.out).1]) ?_
 (with_reducible refine (laws_heldIntS.calls k _ _ r30 1 r29 _ ?side1 ?side2 h12.out).mono ?_)
 (case side1 => exact cR HO20); (case side2 => have e_ := Kd.R_reads' HO20.out; rw [← e_.1]; exact e_.2.1)
 rintro e w18 ⟨rfl, hd⟩
 have hb := hd.below
 replace HO12 := Aside0.mk (Kd.R_below (pR HO12) hb)
 replace HO20 := Aside0.mk (Kd.R_below (pR HO20) hb)
 replace BK2 := Aside0.mk (blk_below (g := w.heap.size) (o := .cells #[.int .i64 a0_0, .slice A0_1 l0_1.length c0_1] 56 (0, 0)) (pB BK2) hb)
 replace BK17 := Aside0.mk (blk_below (g := w5.heap.size) (o := .cells #[.int .i64 r5, .slice Ao15 r6.length co15] 62 (0, 0)) (pB BK17) hb)
 have N18 := Aside0.mk (show w17.heap.size + 0 ≤ w18.heap.size from Nat.le_trans nL hb.size)
 replace HB := Aside0.mk (below_step (bB HB) hb)
 clear hd hb
 have hcz31 : w18.cell? ⟨w.heap.size, 0, none⟩ = some (.int .i64 a0_0) := (blk_cell BK2.out 0).trans rfl
 have hcz32 : w18.cell? ⟨w.heap.size, 1, none⟩ = some (.slice A0_1 l0_1.length c0_1) := (blk_cell BK2.out 1).trans rfl
 go_wp2_with (fail)
 (with_reducible refine (laws_toNet.callsS k a0_0 _ _ l0_1 r5 r6 _ ?side1 ?side2 h2.out).mono ?_)
 (case side1 => exact cB HR0_1 HB); (case side2 => exact HC0_1.out)
 rintro e w19 ⟨v33, rfl, ho0, hb⟩
 replace HO12 := Aside0.mk (Kd.R_below (pR HO12) hb)
 replace HO20 := Aside0.mk (Kd.R_below (pR HO20) hb)
 replace BK2 := Aside0.mk (blk_below (g := w.heap.size) (o := .cells #[.int .i64 a0_0, .slice A0_1 l0_1.length c0_1] 56 (0, 0)) (pB BK2) hb)
 replace BK17 := Aside0.mk (blk_below (g := w5.heap.size) (o := .cells #[.int .i64 r5, .slice Ao15 r6.length co15] 62 (0, 0)) (pB BK17) hb)
 have N19 := Aside0.mk (show w18.heap.size + 0 ≤ w19.heap.size from Nat.le_trans nL hb.size)
 replace HB := Aside0.mk (below_step (bB HB) hb)
 have HO33 := Aside0.mk (S_ivl (b0 := w18.heap.size) ho0 nL)
 clear hb ho0
 obtain ⟨Ao33, co33, eo33⟩ := Kd.S_slice HO33.out
 subst eo33
 clear hcz31 hcz32
 go_wp2_with (fail)
 (with_reducible refine (laws_toIntS.calls k _ _ l1 r8 _ ?side1 ?side2 h3.out).mono ?_)
 (case side1 => exact cB HR1 HB); (case side2 => exact HC1.out)
 rintro e w20 ⟨v34, rfl, ho0, hb⟩
 replace HO12 := Aside0.mk (Kd.R_below (pR HO12) hb)
 replace HO20 := Aside0.mk (Kd.R_below (pR HO20) hb)
 replace HO33 := Aside0.mk (Kd.S_below (pS HO33) hb)
 replace BK2 := Aside0.mk (blk_below (g := w.heap.size) (o := .cells #[.int .i64 a0_0, .slice A0_1 l0_1.length c0_1] 56 (0, 0)) (pB BK2) hb)
 replace BK17 := Aside0.mk (blk_below (g := w5.heap.size) (o := .cells #[.int .i64 r5, .slice Ao15 r6.length co15] 62 (0, 0)) (pB BK17) hb)
 have N20 := Aside0.mk (show w19.heap.size + 0 ≤ w20.heap.size from Nat.le_trans nL hb.size)
 replace HB := Aside0.mk (below_step (bB HB) hb)
 have HO34 := Aside0.mk (R_ivl (b0 := w19.heap.size) (Kd.R_tight rfl ho0) nL)
 clear hb ho0
 obtain ⟨Ao34, co34, eo34⟩ := Kd.R_slice HO34.out
 subst eo34
 go_wp2_with (fail)
 (with_reducible refine (impl_EvaluateNet.calls k r5 _ _ r6 _ _ r8 r10 r11 _ ?side1 ?side2 ?side3 ?side4 h5.out).mono ?_)
 (case side1 => exact cS HO33); (case side2 => exact (Kd.S_reads' HO33.out).2.1); (case side3 => exact cR HO34); (case side4 => exact (Kd.R_reads' HO34.out).2.1)
 rintro e w21 ⟨v35, rfl, ho0, hb⟩
 replace HO12 := Aside0.mk (Kd.R_below (pR HO12) hb)
 replace HO20 := Aside0.mk (Kd.R_below (pR HO20) hb)
 replace HO33 := Aside0.mk (Kd.S_below (pS HO33) hb)
 replace HO34 := Aside0.mk (Kd.R_below (pR HO34) hb)
 replace BK2 := Aside0.mk (blk_below (g := w.heap.size) (o := .cells #[.int .i64 a0_0, .slice A0_1 l0_1.length c0_1] 56 (0, 0)) (pB BK2) hb)
 replace BK17 := Aside0.mk (blk_below (g := w5.heap.size) (o := .cells #[.int .i64 r5, .slice Ao15 r6.length co15] 62 (0, 0)) (pB BK17) hb)
 have N21 := Aside0.mk (show w20.heap.size + 0 ≤ w21.heap.size from Nat.le_trans nL hb.size)
 replace HB := Aside0.mk (below_step (bB HB) hb)
 have HO35 := Aside0.mk (R_ivl (b0 := w20.heap.size) (Kd.R_tight rfl ho0) nL)
 clear hb ho0
 obtain ⟨Ao35, co35, eo35⟩ := Kd.R_slice HO35.out
 subst eo35
 go_wp2_with (fail)
 (with_reducible refine (laws_eqIntS.calls k _ _ r10 _ _ r10 true _ ?side1 ?side2 ?side3 ?side4 h6.out).mono ?_)
 (case side1 => exact cR HO35); (case side2 => exact (Kd.R_reads' HO35.out).2.1); (case side3 => exact cR HO12); (case side4 => exact (Kd.R_reads' HO12.out).2.1)
 rintro e w22 ⟨rfl, hd⟩
 have hb := hd.below
 replace HO12 := Aside0.mk (Kd.R_below (pR HO12) hb)
 replace HO20 := Aside0.mk (Kd.R_below (pR HO20) hb)
 replace HO35 := Aside0.mk (Kd.R_below (pR HO35) hb)
 replace BK2 := Aside0.mk (blk_below (g := w.heap.size) (o := .cells #[.int .i64 a0_0, .slice A0_1 l0_1.length c0_1] 56 (0, 0)) (pB BK2) hb)
 replace BK17 := Aside0.mk (blk_below (g := w5.heap.size) (o := .cells #[.int .i64 r5, .slice Ao15 r6.length co15] 62 (0, 0)) (pB BK17) hb)
 have N22 := Aside0.mk (show w21.heap.size + 0 ≤ w22.heap.size from Nat.le_trans nL hb.size)
 replace HB := Aside0.mk (below_step (bB HB) hb)
 clear hd hb
 go_wp2_with (fail)
 refine calls_of_args (args' := #[.slice Ao20 r30.length co20, .int .i64 1]) (by rw [(Kd.R_reads' HO20.out).1]) ?_
 (with_reducible refine (laws_heldIntS.calls k _ _ r30 1 r29 _ ?side1 ?side2 h12.out).mono ?_)
 (case side1 => exact cR HO20); (case side2 => have e_ := Kd.R_reads' HO20.out; rw [← e_.1]; exact e_.2.1)
 rintro e w23 ⟨rfl, hd⟩
 have hb := hd.below
 replace HO20 := Aside0.mk (Kd.R_below (pR HO20) hb)
 replace BK2 := Aside0.mk (blk_below (g := w.heap.size) (o := .cells #[.int .i64 a0_0, .slice A0_1 l0_1.length c0_1] 56 (0, 0)) (pB BK2) hb)
 replace BK17 := Aside0.mk (blk_below (g := w5.heap.size) (o := .cells #[.int .i64 r5, .slice Ao15 r6.length co15] 62 (0, 0)) (pB BK17) hb)
 have N23 := Aside0.mk (show w22.heap.size + 0 ≤ w23.heap.size from Nat.le_trans nL hb.size)
 replace HB := Aside0.mk (below_step (bB HB) hb)
 clear hd hb
 go_wp2_with (fail)
 go_ret
 exact ⟨rfl, (bB HB)⟩

end Go.Proofs.Ytniebbjbihenfaa.GFnExactEvaluateNet
