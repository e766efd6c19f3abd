import Derived.Test.YtihnijfgdffhjaaPFnExactPairPlanex
import Derived.Test.YtihnijfgdffhjaaMc
namespace Go.Proofs.Ytihnijfgdffhjaa.GFnExactPairPlane
open Go.RowKit  Go.Proofs.Ytihnijfgdffhjaa.Mc Go.Proofs.Ytihnijfgdffhjaa.PFnExactPairPlane Go.Proofs.YtihnijfgdffhjaaW.PrintWords Go.Proofs.YtihnijfgdffhjaaW.PrintLast Go.Proofs.YtihnijfgdffhjaaW.PrintMore
set_option linter.unusedVariables false
set_option linter.unusedSimpArgs false
set_option maxHeartbeats 8000000 in
set_option maxRecDepth 100000 in
theorem big0 (k : Nat) (A0 : Option Addr) (c0 : Nat) (l0 : List Int) (A1 : Option Addr) (c1 : Nat) (l1 : List Int)  (w : World) (hr0 : Kd.C (Kd.int .i64) w A0 l0.length l0) (hc0 : l0.length ≤ c0) (hr1 : Kd.C (Kd.int .i64) w A1 l1.length l1) (hc1 : l1.length ≤ c1)  (q0 : 1048576 < l0.length) :
    Calls Try.prog 10 #[.slice A0 l0.length c0, .slice A1 l1.length c1] w fun e w' => e = .returned (.bool true) ∧ Below w.heap.size w w' := by
  have HR0 := Aside0.mk hr0
  have HC0 := Aside0.mk hc0
  clear hr0 hc0
  have HR1 := Aside0.mk hr1
  have HC1 := Aside0.mk hc1
  clear hr1 hc1
  have HB := Aside0.mk (Below.refl w.heap.size w)
  have d0 : decide (1048576 < l0.length) = true := decide_eq_true (by omega)
  have e0 : decide ((l0.length : Int) > 1048576) = true := decide_eq_true (by omega)
  clear q0
  go_enter Try.func10, Try.ntmps10
  go_wp2_with (fail)
  go_ret
  exact ⟨rfl, (by repeat (first | (with_reducible first | exact HB.out | apply below_alloc | apply pw_below_drewN | apply below_drew1) | exact HB.out))⟩


set_option maxHeartbeats 8000000 in
set_option maxRecDepth 100000 in
theorem big1 (k : Nat) (A0 : Option Addr) (c0 : Nat) (l0 : List Int) (A1 : Option Addr) (c1 : Nat) (l1 : List Int)  (w : World) (hr0 : Kd.C (Kd.int .i64) w A0 l0.length l0) (hc0 : l0.length ≤ c0) (hr1 : Kd.C (Kd.int .i64) w A1 l1.length l1) (hc1 : l1.length ≤ c1)  (q0 : l0.length ≤ 1048576) (q1 : 1048576 < l1.length) :
    Calls Try.prog 10 #[.slice A0 l0.length c0, .slice A1 l1.length c1] w fun e w' => e = .returned (.bool true) ∧ Below w.heap.size w w' := by
  have HR0 := Aside0.mk hr0
  have HC0 := Aside0.mk hc0
  clear hr0 hc0
  have HR1 := Aside0.mk hr1
  have HC1 := Aside0.mk hc1
  clear hr1 hc1
  have HB := Aside0.mk (Below.refl w.heap.size w)
  have d0 : decide (1048576 < l0.length) = false := decide_eq_false (by omega)
  have e0 : decide ((l0.length : Int) > 1048576) = false := decide_eq_false (by omega)
  have d1 : decide (1048576 < l1.length) = true := decide_eq_true (by omega)
  have e1 : decide ((l1.length : Int) > 1048576) = true := decide_eq_true (by omega)
  clear q0 q1
  go_enter Try.func10, Try.ntmps10
  go_wp2_with (fail)
  go_ret
  exact ⟨rfl, (by repeat (first | (with_reducible first | exact HB.out | apply below_alloc | apply pw_below_drewN | apply below_drew1) | exact HB.out))⟩


set_option maxHeartbeats 8000000 in
set_option maxRecDepth 100000 in
theorem good (k : Nat) (A0 : Option Addr) (c0 : Nat) (l0 : List Int) (A1 : Option Addr) (c1 : Nat) (l1 : List Int) (r1 : List Int) (r3 : List Int) (r5 : List Int) (r6 : Int) (r7 : Bool) (r19 : Int) (r20 : List Int) (r21 : Int) (r22 : List Int) (r29 : Int) (r30 : List Int) (w : World) (hr0 : Kd.C (Kd.int .i64) w A0 l0.length l0) (hc0 : l0.length ≤ c0) (hr1 : Kd.C (Kd.int .i64) w A1 l1.length l1) (hc1 : l1.length ≤ c1) (h1 : laws_toIntS.f k l0 = some r1) (h2 : laws_toIntS.f k l1 = some r3) (h3 : spec_PairPlane.f k r1 r3 = some (r5, r6, r7)) (h4 : impl_PairPlane.f k r1 r3 = some (r5, r6, r7)) (h5 : laws_eqPlane.f k r5 r6 r5 r6 = some true) (h6 : laws_eqIntS.f k r1 r1 = some true) (h7 : laws_eqIntS.f k r3 r3 = some true) (h8 : laws_markIntS.f k r1 1 = some (r19, r20)) (h9 : laws_markIntS.f k r3 r19 = some (r21, r22)) (h10 : laws_markPlane.f k r5 r6 1 = some (r29, r30)) (h11 : laws_heldPlane.f k r30 r6 1 = some r29) (q0 : l0.length ≤ 1048576) (q1 : l1.length ≤ 1048576) (q2 : 0 ≤ r19) (q3 : 0 ≤ r21) (q4 : 0 ≤ r29) :
    Calls Try.prog 10 #[.slice A0 l0.length c0, .slice A1 l1.length c1] w fun e w' => e = .returned (.bool true) ∧ Below w.heap.size w w' := by
  have HR0 := Aside0.mk hr0
  have HC0 := Aside0.mk hc0
  clear hr0 hc0
  have HR1 := Aside0.mk hr1
  have HC1 := Aside0.mk hc1
  clear hr1 hc1
  have HB := Aside0.mk (Below.refl w.heap.size w)
  replace h1 := Aside0.mk h1
  replace h2 := Aside0.mk h2
  replace h3 := Aside0.mk h3
  replace h4 := Aside0.mk h4
  replace h5 := Aside0.mk h5
  replace h6 := Aside0.mk h6
  replace h7 := Aside0.mk h7
  replace h8 := Aside0.mk h8
  replace h9 := Aside0.mk h9
  replace h10 := Aside0.mk h10
  replace h11 := Aside0.mk h11
  have d0 : decide (1048576 < l0.length) = false := decide_eq_false (by omega)
  have e0 : decide ((l0.length : Int) > 1048576) = false := decide_eq_false (by omega)
  have d1 : decide (1048576 < l1.length) = false := decide_eq_false (by omega)
  have e1 : decide ((l1.length : Int) > 1048576) = false := decide_eq_false (by omega)
  have d2 : decide (r19 < 0) = false := decide_eq_false (by omega)
  have d3 : decide (r21 < 0) = false := decide_eq_false (by omega)
  have d4 : decide (r29 < 0) = false := decide_eq_false (by omega)
  clear q0 q1 q2 q3 q4
  go_enter Try.func10, Try.ntmps10
  go_wp2_with (fail)
  (with_reducible refine (laws_toIntS.calls k _ _ l0 r1 _ ?side1 ?side2 h1.out).mono ?_)
  (case side1 => repeat (first | exact (Kd.C_below HR0.out HB.out) | (with_reducible refine Kd.C_alloc ?_ _) | (with_reducible refine Kd.C_drewN ?_ _) | (with_reducible refine Kd.C_drew ?_))); (case side2 => exact HC0.out)
  rintro e w1 ⟨v2, rfl, ho0, hb⟩
  have N1 := Aside0.mk (show w.heap.size + 0 ≤ w1.heap.size from Nat.le_trans (by first | exact Nat.le_refl _ | (simp; done)) hb.size)
  replace HB := Aside0.mk (below_step (by repeat (first | (with_reducible first | exact HB.out | apply below_alloc | apply pw_below_drewN | apply below_drew1) | exact HB.out)) hb)
  have HO2 := Aside0.mk (R_ivl (b0 := w.heap.size) (Kd.R_tight rfl ho0) (by first | exact Nat.le_refl _ | (simp; done)))
  clear hb ho0
  obtain ⟨Ao2, co2, eo2⟩ := Kd.R_slice HO2.out
  subst eo2
  go_wp2_with (fail)
  (with_reducible refine (laws_toIntS.calls k _ _ l1 r3 _ ?side1 ?side2 h2.out).mono ?_)
  (case side1 => repeat (first | exact (Kd.C_below HR1.out HB.out) | (with_reducible refine Kd.C_alloc ?_ _) | (with_reducible refine Kd.C_drewN ?_ _) | (with_reducible refine Kd.C_drew ?_))); (case side2 => exact HC1.out)
  rintro e w2 ⟨v4, rfl, ho0, hb⟩
  replace HO2 := Aside0.mk (Kd.R_below (by (with_reducible repeat (first | apply Kd.R_alloc | apply Kd.R_drewN | apply Kd.R_drew)); exact HO2.out) hb)
  have N2 := Aside0.mk (show w1.heap.size + 0 ≤ w2.heap.size from Nat.le_trans (by first | exact Nat.le_refl _ | (simp; done)) hb.size)
  replace HB := Aside0.mk (below_step (by repeat (first | (with_reducible first | exact HB.out | apply below_alloc | apply pw_below_drewN | apply below_drew1) | exact HB.out)) hb)
  have HO4 := Aside0.mk (R_ivl (b0 := w1.heap.size) (Kd.R_tight rfl ho0) (by first | exact Nat.le_refl _ | (simp; done)))
  clear hb ho0
  obtain ⟨Ao4, co4, eo4⟩ := Kd.R_slice HO4.out
  subst eo4
  go_wp2_with (fail)
  (with_reducible refine (spec_PairPlane.calls k _ _ r1 _ _ r3 r5 r6 r7 _ ?side1 ?side2 ?side3 ?side4 h3.out).mono ?_)
  (case side1 => repeat (first | exact (Kd.R_reads' HO2.out).2.2 | (with_reducible refine Kd.C_alloc ?_ _) | (with_reducible refine Kd.C_drewN ?_ _) | (with_reducible refine Kd.C_drew ?_))); (case side2 => exact (Kd.R_reads' HO2.out).2.1); (case side3 => repeat (first | exact (Kd.R_reads' HO4.out).2.2 | (with_reducible refine Kd.C_alloc ?_ _) | (with_reducible refine Kd.C_drewN ?_ _) | (with_reducible refine Kd.C_drew ?_))); (case side4 => exact (Kd.R_reads' HO4.out).2.1)
  rintro e w3 ⟨v8, rfl, ho0, hb⟩
  replace HO2 := Aside0.mk (Kd.R_below (by (with_reducible repeat (first | apply Kd.R_alloc | apply Kd.R_drewN | apply Kd.R_drew)); exact HO2.out) hb)
  replace HO4 := Aside0.mk (Kd.R_below (by (with_reducible repeat (first | apply Kd.R_alloc | apply Kd.R_drewN | apply Kd.R_drew)); exact HO4.out) hb)
  have N3 := Aside0.mk (show w2.heap.size + 0 ≤ w3.heap.size from Nat.le_trans (by first | exact Nat.le_refl _ | (simp; done)) hb.size)
  replace HB := Aside0.mk (below_step (by repeat (first | (with_reducible first | exact HB.out | apply below_alloc | apply pw_below_drewN | apply below_drew1) | exact HB.out)) hb)
  have HO8 := Aside0.mk (R_ivl (b0 := w2.heap.size) (Kd.R_tight rfl ho0) (by first | exact Nat.le_refl _ | (simp; done)))
  clear hb ho0
  obtain ⟨Ao8, co8, eo8⟩ := Kd.R_slice HO8.out
  subst eo8
  go_wp2_with (fail)
  (with_reducible refine (laws_toIntS.calls k _ _ l0 r1 _ ?side1 ?side2 h1.out).mono ?_)
  (case side1 => repeat (first | exact (Kd.C_below HR0.out HB.out) | (with_reducible refine Kd.C_alloc ?_ _) | (with_reducible refine Kd.C_drewN ?_ _) | (with_reducible refine Kd.C_drew ?_))); (case side2 => exact HC0.out)
  rintro e w4 ⟨v9, rfl, ho0, hb⟩
  replace HO8 := Aside0.mk (Kd.R_below (by (with_reducible repeat (first | apply Kd.R_alloc | apply Kd.R_drewN | apply Kd.R_drew)); exact HO8.out) hb)
  have BK10 := Aside0.mk (blk_below (g := w3.heap.size) (o := .cells #[.slice Ao8 r5.length co8, .int .i64 r6] 33 (0, 0)) (by repeat (first | exact blk_at _ (by first | rfl | (simp; done)) | refine blk_alloc ?_ _ | refine blk_drew ?_ | refine blk_drewN ?_ _)) hb)
  have N4 := Aside0.mk (show w3.heap.size + 1 ≤ w4.heap.size from Nat.le_trans (by first | exact Nat.le_refl _ | (simp; done)) hb.size)
  replace HB := Aside0.mk (below_step (by repeat (first | (with_reducible first | exact HB.out | apply below_alloc | apply pw_below_drewN | apply below_drew1) | exact HB.out)) hb)
  have HO9 := Aside0.mk (R_ivl (b0 := (w3.heap.size + 1)) (Kd.R_tight rfl ho0) (by first | exact Nat.le_refl _ | (simp; done)))
  clear hb ho0
  obtain ⟨Ao9, co9, eo9⟩ := Kd.R_slice HO9.out
  subst eo9
  go_wp2_with (fail)
  (with_reducible refine (laws_toIntS.calls k _ _ l1 r3 _ ?side1 ?side2 h2.out).mono ?_)
  (case side1 => repeat (first | exact (Kd.C_below HR1.out HB.out) | (with_reducible refine Kd.C_alloc ?_ _) | (with_reducible refine Kd.C_drewN ?_ _) | (with_reducible refine Kd.C_drew ?_))); (case side2 => exact HC1.out)
  rintro e w5 ⟨v11, rfl, ho0, hb⟩
  replace HO8 := Aside0.mk (Kd.R_below (by (with_reducible repeat (first | apply Kd.R_alloc | apply Kd.R_drewN | apply Kd.R_drew)); exact HO8.out) hb)
  replace HO9 := Aside0.mk (Kd.R_below (by (with_reducible repeat (first | apply Kd.R_alloc | apply Kd.R_drewN | apply Kd.R_drew)); exact HO9.out) hb)
  replace BK10 := Aside0.mk (blk_below (g := w3.heap.size) (o := .cells #[.slice Ao8 r5.length co8, .int .i64 r6] 33 (0, 0)) (by (with_reducible repeat (first | refine blk_drewN ?_ _ | refine blk_drew ?_ | refine blk_alloc ?_ _)); exact BK10.out) hb)
  have N5 := Aside0.mk (show w4.heap.size + 0 ≤ w5.heap.size from Nat.le_trans (by first | exact Nat.le_refl _ | (simp; done)) hb.size)
  replace HB := Aside0.mk (below_step (by repeat (first | (with_reducible first | exact HB.out | apply below_alloc | apply pw_below_drewN | apply below_drew1) | exact HB.out)) hb)
  have HO11 := Aside0.mk (R_ivl (b0 := w4.heap.size) (Kd.R_tight rfl ho0) (by first | exact Nat.le_refl _ | (simp; done)))
  clear hb ho0
  obtain ⟨Ao11, co11, eo11⟩ := Kd.R_slice HO11.out
  subst eo11
  go_wp2_with (fail)
  (with_reducible refine (impl_PairPlane.calls k _ _ r1 _ _ r3 r5 r6 r7 _ ?side1 ?side2 ?side3 ?side4 h4.out).mono ?_)
  (case side1 => repeat (first | exact (Kd.R_reads' HO9.out).2.2 | (with_reducible refine Kd.C_alloc ?_ _) | (with_reducible refine Kd.C_drewN ?_ _) | (with_reducible refine Kd.C_drew ?_))); (case side2 => exact (Kd.R_reads' HO9.out).2.1); (case side3 => repeat (first | exact (Kd.R_reads' HO11.out).2.2 | (with_reducible refine Kd.C_alloc ?_ _) | (with_reducible refine Kd.C_drewN ?_ _) | (with_reducible refine Kd.C_drew ?_))); (case side4 => exact (Kd.R_reads' HO11.out).2.1)
  rintro e w6 ⟨v12, rfl, ho0, hb⟩
  replace HO8 := Aside0.mk (Kd.R_below (by (with_reducible repeat (first | apply Kd.R_alloc | apply Kd.R_drewN | apply Kd.R_drew)); exact HO8.out) hb)
  replace HO9 := Aside0.mk (Kd.R_below (by (with_reducible repeat (first | apply Kd.R_alloc | apply Kd.R_drewN | apply Kd.R_drew)); exact HO9.out) hb)
  replace HO11 := Aside0.mk (Kd.R_below (by (with_reducible repeat (first | apply Kd.R_alloc | apply Kd.R_drewN | apply Kd.R_drew)); exact HO11.out) hb)
  replace BK10 := Aside0.mk (blk_below (g := w3.heap.size) (o := .cells #[.slice Ao8 r5.length co8, .int .i64 r6] 33 (0, 0)) (by (with_reducible repeat (first | refine blk_drewN ?_ _ | refine blk_drew ?_ | refine blk_alloc ?_ _)); exact BK10.out) hb)
  have N6 := Aside0.mk (show w5.heap.size + 0 ≤ w6.heap.size from Nat.le_trans (by first | exact Nat.le_refl _ | (simp; done)) hb.size)
  replace HB := Aside0.mk (below_step (by repeat (first | (with_reducible first | exact HB.out | apply below_alloc | apply pw_below_drewN | apply below_drew1) | exact HB.out)) hb)
  have HO12 := Aside0.mk (R_ivl (b0 := w5.heap.size) (Kd.R_tight rfl ho0) (by first | exact Nat.le_refl _ | (simp; done)))
  clear hb ho0
  obtain ⟨Ao12, co12, eo12⟩ := Kd.R_slice HO12.out
  subst eo12
  have hne13 := blk_lt BK10.out
  have hcz14 : w6.cell? ⟨w3.heap.size, 0, none⟩ = some (.slice Ao8 r5.length co8) := (blk_cell BK10.out 0).trans rfl
  have hcz15 : w6.cell? ⟨w3.heap.size, 1, none⟩ = some (.int .i64 r6) := (blk_cell BK10.out 1).trans rfl
  go_wp2_with (fail)
  (with_reducible refine (laws_eqPlane.calls k _ _ r5 r6 _ _ r5 r6 true _ ?side1 ?side2 ?side3 ?side4 h5.out).mono ?_)
  (case side1 => repeat (first | exact (Kd.R_reads' HO12.out).2.2 | (with_reducible refine Kd.C_alloc ?_ _) | (with_reducible refine Kd.C_drewN ?_ _) | (with_reducible refine Kd.C_drew ?_))); (case side2 => exact (Kd.R_reads' HO12.out).2.1); (case side3 => repeat (first | exact (Kd.R_reads' HO8.out).2.2 | (with_reducible refine Kd.C_alloc ?_ _) | (with_reducible refine Kd.C_drewN ?_ _) | (with_reducible refine Kd.C_drew ?_))); (case side4 => exact (Kd.R_reads' HO8.out).2.1)
  rintro e w7 ⟨rfl, hb⟩
  replace HO8 := Aside0.mk (Kd.R_below (by (with_reducible repeat (first | apply Kd.R_alloc | apply Kd.R_drewN | apply Kd.R_drew)); exact HO8.out) hb)
  replace HO9 := Aside0.mk (Kd.R_below (by (with_reducible repeat (first | apply Kd.R_alloc | apply Kd.R_drewN | apply Kd.R_drew)); exact HO9.out) hb)
  replace HO11 := Aside0.mk (Kd.R_below (by (with_reducible repeat (first | apply Kd.R_alloc | apply Kd.R_drewN | apply Kd.R_drew)); exact HO11.out) hb)
  replace HO12 := Aside0.mk (Kd.R_below (by (with_reducible repeat (first | apply Kd.R_alloc | apply Kd.R_drewN | apply Kd.R_drew)); exact HO12.out) hb)
  replace BK10 := Aside0.mk (blk_below (g := w3.heap.size) (o := .cells #[.slice Ao8 r5.length co8, .int .i64 r6] 33 (0, 0)) (by (with_reducible repeat (first | refine blk_drewN ?_ _ | refine blk_drew ?_ | refine blk_alloc ?_ _)); exact BK10.out) hb)
  have BK16 := Aside0.mk (blk_below (g := w6.heap.size) (o := .cells #[.slice Ao12 r5.length co12, .int .i64 r6] 33 (0, 0)) (by repeat (first | exact blk_at _ (by first | rfl | (simp; done)) | refine blk_alloc ?_ _ | refine blk_drew ?_ | refine blk_drewN ?_ _)) hb)
  have N7 := Aside0.mk (show w6.heap.size + 1 ≤ w7.heap.size from Nat.le_trans (by first | exact Nat.le_refl _ | (simp; done)) hb.size)
  replace HB := Aside0.mk (below_step (by repeat (first | (with_reducible first | exact HB.out | apply below_alloc | apply pw_below_drewN | apply below_drew1) | exact HB.out)) hb)
  clear hb
  clear hne13 hcz14 hcz15
  go_wp2_with (fail)
  (with_reducible refine (laws_toIntS.calls k _ _ l0 r1 _ ?side1 ?side2 h1.out).mono ?_)
  (case side1 => repeat (first | exact (Kd.C_below HR0.out HB.out) | (with_reducible refine Kd.C_alloc ?_ _) | (with_reducible refine Kd.C_drewN ?_ _) | (with_reducible refine Kd.C_drew ?_))); (case side2 => exact HC0.out)
  rintro e w8 ⟨v17, rfl, ho0, hb⟩
  replace HO8 := Aside0.mk (Kd.R_below (by (with_reducible repeat (first | apply Kd.R_alloc | apply Kd.R_drewN | apply Kd.R_drew)); exact HO8.out) hb)
  replace HO9 := Aside0.mk (Kd.R_below (by (with_reducible repeat (first | apply Kd.R_alloc | apply Kd.R_drewN | apply Kd.R_drew)); exact HO9.out) hb)
  replace HO11 := Aside0.mk (Kd.R_below (by (with_reducible repeat (first | apply Kd.R_alloc | apply Kd.R_drewN | apply Kd.R_drew)); exact HO11.out) hb)
  replace HO12 := Aside0.mk (Kd.R_below (by (with_reducible repeat (first | apply Kd.R_alloc | apply Kd.R_drewN | apply Kd.R_drew)); exact HO12.out) hb)
  replace BK10 := Aside0.mk (blk_below (g := w3.heap.size) (o := .cells #[.slice Ao8 r5.length co8, .int .i64 r6] 33 (0, 0)) (by (with_reducible repeat (first | refine blk_drewN ?_ _ | refine blk_drew ?_ | refine blk_alloc ?_ _)); exact BK10.out) hb)
  replace BK16 := Aside0.mk (blk_below (g := w6.heap.size) (o := .cells #[.slice Ao12 r5.length co12, .int .i64 r6] 33 (0, 0)) (by (with_reducible repeat (first | refine blk_drewN ?_ _ | refine blk_drew ?_ | refine blk_alloc ?_ _)); exact BK16.out) hb)
  have N8 := Aside0.mk (show w7.heap.size + 0 ≤ w8.heap.size from Nat.le_trans (by first | exact Nat.le_refl _ | (simp; done)) hb.size)
  replace HB := Aside0.mk (below_step (by repeat (first | (with_reducible first | exact HB.out | apply below_alloc | apply pw_below_drewN | apply below_drew1) | exact HB.out)) hb)
  have HO17 := Aside0.mk (R_ivl (b0 := w7.heap.size) (Kd.R_tight rfl ho0) (by first | exact Nat.le_refl _ | (simp; done)))
  clear hb ho0
  obtain ⟨Ao17, co17, eo17⟩ := Kd.R_slice HO17.out
  subst eo17
  go_wp2_with (fail)
  (with_reducible refine (laws_eqIntS.calls k _ _ r1 _ _ r1 true _ ?side1 ?side2 ?side3 ?side4 h6.out).mono ?_)
  (case side1 => repeat (first | exact (Kd.R_reads' HO9.out).2.2 | (with_reducible refine Kd.C_alloc ?_ _) | (with_reducible refine Kd.C_drewN ?_ _) | (with_reducible refine Kd.C_drew ?_))); (case side2 => exact (Kd.R_reads' HO9.out).2.1); (case side3 => repeat (first | exact (Kd.R_reads' HO17.out).2.2 | (with_reducible refine Kd.C_alloc ?_ _) | (with_reducible refine Kd.C_drewN ?_ _) | (with_reducible refine Kd.C_drew ?_))); (case side4 => exact (Kd.R_reads' HO17.out).2.1)
  rintro e w9 ⟨rfl, hd⟩
  have hb := hd.below
  replace HO8 := Aside0.mk (Kd.R_below (by (with_reducible repeat (first | apply Kd.R_alloc | apply Kd.R_drewN | apply Kd.R_drew)); exact HO8.out) hb)
  replace HO9 := Aside0.mk (Kd.R_below (by (with_reducible repeat (first | apply Kd.R_alloc | apply Kd.R_drewN | apply Kd.R_drew)); exact HO9.out) hb)
  replace HO11 := Aside0.mk (Kd.R_below (by (with_reducible repeat (first | apply Kd.R_alloc | apply Kd.R_drewN | apply Kd.R_drew)); exact HO11.out) hb)
  replace HO12 := Aside0.mk (Kd.R_below (by (with_reducible repeat (first | apply Kd.R_alloc | apply Kd.R_drewN | apply Kd.R_drew)); exact HO12.out) hb)
  replace HO17 := Aside0.mk (Kd.R_below (by (with_reducible repeat (first | apply Kd.R_alloc | apply Kd.R_drewN | apply Kd.R_drew)); exact HO17.out) hb)
  replace BK10 := Aside0.mk (blk_below (g := w3.heap.size) (o := .cells #[.slice Ao8 r5.length co8, .int .i64 r6] 33 (0, 0)) (by (with_reducible repeat (first | refine blk_drewN ?_ _ | refine blk_drew ?_ | refine blk_alloc ?_ _)); exact BK10.out) hb)
  replace BK16 := Aside0.mk (blk_below (g := w6.heap.size) (o := .cells #[.slice Ao12 r5.length co12, .int .i64 r6] 33 (0, 0)) (by (with_reducible repeat (first | refine blk_drewN ?_ _ | refine blk_drew ?_ | refine blk_alloc ?_ _)); exact BK16.out) hb)
  have N9 := Aside0.mk (show w8.heap.size + 0 ≤ w9.heap.size from Nat.le_trans (by first | exact Nat.le_refl _ | (simp; done)) hb.size)
  replace HB := Aside0.mk (below_step (by repeat (first | (with_reducible first | exact HB.out | apply below_alloc | apply pw_below_drewN | apply below_drew1) | exact HB.out)) hb)
  clear hd hb
  go_wp2_with (fail)
  (with_reducible refine (laws_toIntS.calls k _ _ l1 r3 _ ?side1 ?side2 h2.out).mono ?_)
  (case side1 => repeat (first | exact (Kd.C_below HR1.out HB.out) | (with_reducible refine Kd.C_alloc ?_ _) | (with_reducible refine Kd.C_drewN ?_ _) | (with_reducible refine Kd.C_drew ?_))); (case side2 => exact HC1.out)
  rintro e w10 ⟨v18, rfl, ho0, hb⟩
  replace HO8 := Aside0.mk (Kd.R_below (by (with_reducible repeat (first | apply Kd.R_alloc | apply Kd.R_drewN | apply Kd.R_drew)); exact HO8.out) hb)
  replace HO9 := Aside0.mk (Kd.R_below (by (with_reducible repeat (first | apply Kd.R_alloc | apply Kd.R_drewN | apply Kd.R_drew)); exact HO9.out) hb)
  replace HO11 := Aside0.mk (Kd.R_below (by (with_reducible repeat (first | apply Kd.R_alloc | apply Kd.R_drewN | apply Kd.R_drew)); exact HO11.out) hb)
  replace HO12 := Aside0.mk (Kd.R_below (by (with_reducible repeat (first | apply Kd.R_alloc | apply Kd.R_drewN | apply Kd.R_drew)); exact HO12.out) hb)
  replace BK10 := Aside0.mk (blk_below (g := w3.heap.size) (o := .cells #[.slice Ao8 r5.length co8, .int .i64 r6] 33 (0, 0)) (by (with_reducible repeat (first | refine blk_drewN ?_ _ | refine blk_drew ?_ | refine blk_alloc ?_ _)); exact BK10.out) hb)
  replace BK16 := Aside0.mk (blk_below (g := w6.heap.size) (o := .cells #[.slice Ao12 r5.length co12, .int .i64 r6] 33 (0, 0)) (by (with_reducible repeat (first | refine blk_drewN ?_ _ | refine blk_drew ?_ | refine blk_alloc ?_ _)); exact BK16.out) hb)
  have N10 := Aside0.mk (show w9.heap.size + 0 ≤ w10.heap.size from Nat.le_trans (by first | exact Nat.le_refl _ | (simp; done)) hb.size)
  replace HB := Aside0.mk (below_step (by repeat (first | (with_reducible first | exact HB.out | apply below_alloc | apply pw_below_drewN | apply below_drew1) | exact HB.out)) hb)
  have HO18 := Aside0.mk (R_ivl (b0 := w9.heap.size) (Kd.R_tight rfl ho0) (by first | exact Nat.le_refl _ | (simp; done)))
  clear hb ho0
  obtain ⟨Ao18, co18, eo18⟩ := Kd.R_slice HO18.out
  subst eo18
  go_wp2_with (fail)
  (with_reducible refine (laws_eqIntS.calls k _ _ r3 _ _ r3 true _ ?side1 ?side2 ?side3 ?side4 h7.out).mono ?_)
  (case side1 => repeat (first | exact (Kd.R_reads' HO11.out).2.2 | (with_reducible refine Kd.C_alloc ?_ _) | (with_reducible refine Kd.C_drewN ?_ _) | (with_reducible refine Kd.C_drew ?_))); (case side2 => exact (Kd.R_reads' HO11.out).2.1); (case side3 => repeat (first | exact (Kd.R_reads' HO18.out).2.2 | (with_reducible refine Kd.C_alloc ?_ _) | (with_reducible refine Kd.C_drewN ?_ _) | (with_reducible refine Kd.C_drew ?_))); (case side4 => exact (Kd.R_reads' HO18.out).2.1)
  rintro e w11 ⟨rfl, hd⟩
  have hb := hd.below
  replace HO8 := Aside0.mk (Kd.R_below (by (with_reducible repeat (first | apply Kd.R_alloc | apply Kd.R_drewN | apply Kd.R_drew)); exact HO8.out) hb)
  replace HO9 := Aside0.mk (Kd.R_below (by (with_reducible repeat (first | apply Kd.R_alloc | apply Kd.R_drewN | apply Kd.R_drew)); exact HO9.out) hb)
  replace HO11 := Aside0.mk (Kd.R_below (by (with_reducible repeat (first | apply Kd.R_alloc | apply Kd.R_drewN | apply Kd.R_drew)); exact HO11.out) hb)
  replace HO12 := Aside0.mk (Kd.R_below (by (with_reducible repeat (first | apply Kd.R_alloc | apply Kd.R_drewN | apply Kd.R_drew)); exact HO12.out) hb)
  replace HO18 := Aside0.mk (Kd.R_below (by (with_reducible repeat (first | apply Kd.R_alloc | apply Kd.R_drewN | apply Kd.R_drew)); exact HO18.out) hb)
  replace BK10 := Aside0.mk (blk_below (g := w3.heap.size) (o := .cells #[.slice Ao8 r5.length co8, .int .i64 r6] 33 (0, 0)) (by (with_reducible repeat (first | refine blk_drewN ?_ _ | refine blk_drew ?_ | refine blk_alloc ?_ _)); exact BK10.out) hb)
  replace BK16 := Aside0.mk (blk_below (g := w6.heap.size) (o := .cells #[.slice Ao12 r5.length co12, .int .i64 r6] 33 (0, 0)) (by (with_reducible repeat (first | refine blk_drewN ?_ _ | refine blk_drew ?_ | refine blk_alloc ?_ _)); exact BK16.out) hb)
  have N11 := Aside0.mk (show w10.heap.size + 0 ≤ w11.heap.size from Nat.le_trans (by first | exact Nat.le_refl _ | (simp; done)) hb.size)
  replace HB := Aside0.mk (below_step (by repeat (first | (with_reducible first | exact HB.out | apply below_alloc | apply pw_below_drewN | apply below_drew1) | exact HB.out)) hb)
  clear hd hb
  go_wp2_with (fail)
  (with_reducible refine (laws_markIntS.calls k (fun k_ => some k_ = (.slice Ao9 r1.length co9 : Value).ownBlock ∧ (w3.heap.size + 1) ≤ k_ ∧ k_ < w4.heap.size) (.slice Ao9 r1.length co9) r1 1 r19 r20 w _ ?side1 ?side2 h8.out).mono ?_)
  (case side1 => repeat (first | (with_reducible first | exact HB.out | apply below_alloc | apply pw_below_drewN | apply below_drew1) | exact HB.out)); (case side2 => refine Kd.R_lower (by (with_reducible repeat (first | apply Kd.R_alloc | apply Kd.R_drewN | apply Kd.R_drew)); exact HO9.out) ?_; have := N1.out; have := N2.out; have := N3.out; omega)
  rintro e w12 ⟨rfl, ho0, hB1, hK1⟩
  replace HO8 := Aside0.mk (Kd.R_step (by (with_reducible repeat (first | apply Kd.R_alloc | apply Kd.R_drewN | apply Kd.R_drew)); exact HO8.out) (fun k_ (ho_ : some k_ = (.slice Ao8 r5.length co8 : Value).ownBlock ∧ w2.heap.size ≤ k_ ∧ k_ < w3.heap.size) hl_ => hK1.2 k_ hl_ (fun (hs_ : (some k_ = (.slice Ao9 r1.length co9 : Value).ownBlock ∧ (w3.heap.size + 1) ≤ k_ ∧ k_ < w4.heap.size)) => by have ha_ := ho_.2; have hb_ := hs_.2; have := N1.out; have := N2.out; have := N3.out; have := N4.out; have := N5.out; have := N6.out; have := N7.out; have := N8.out; have := N9.out; have := N10.out; have := N11.out; omega)))
  replace HO11 := Aside0.mk (Kd.R_step (by (with_reducible repeat (first | apply Kd.R_alloc | apply Kd.R_drewN | apply Kd.R_drew)); exact HO11.out) (fun k_ (ho_ : some k_ = (.slice Ao11 r3.length co11 : Value).ownBlock ∧ w4.heap.size ≤ k_ ∧ k_ < w5.heap.size) hl_ => hK1.2 k_ hl_ (fun (hs_ : (some k_ = (.slice Ao9 r1.length co9 : Value).ownBlock ∧ (w3.heap.size + 1) ≤ k_ ∧ k_ < w4.heap.size)) => by have ha_ := ho_.2; have hb_ := hs_.2; have := N1.out; have := N2.out; have := N3.out; have := N4.out; have := N5.out; have := N6.out; have := N7.out; have := N8.out; have := N9.out; have := N10.out; have := N11.out; omega)))
  replace HO12 := Aside0.mk (Kd.R_step (by (with_reducible repeat (first | apply Kd.R_alloc | apply Kd.R_drewN | apply Kd.R_drew)); exact HO12.out) (fun k_ (ho_ : some k_ = (.slice Ao12 r5.length co12 : Value).ownBlock ∧ w5.heap.size ≤ k_ ∧ k_ < w6.heap.size) hl_ => hK1.2 k_ hl_ (fun (hs_ : (some k_ = (.slice Ao9 r1.length co9 : Value).ownBlock ∧ (w3.heap.size + 1) ≤ k_ ∧ k_ < w4.heap.size)) => by have ha_ := ho_.2; have hb_ := hs_.2; have := N1.out; have := N2.out; have := N3.out; have := N4.out; have := N5.out; have := N6.out; have := N7.out; have := N8.out; have := N9.out; have := N10.out; have := N11.out; omega)))
  replace BK10 := Aside0.mk (blk_kept (by (with_reducible repeat (first | refine blk_drewN ?_ _ | refine blk_drew ?_ | refine blk_alloc ?_ _)); exact BK10.out) hK1 (fun hs_ => by have hs2_ : (some (w3.heap.size) = (.slice Ao9 r1.length co9 : Value).ownBlock ∧ (w3.heap.size + 1) ≤ (w3.heap.size) ∧ (w3.heap.size) < w4.heap.size) := hs_; have hb_ := hs2_.2; have := N1.out; have := N2.out; have := N3.out; have := N4.out; have := N5.out; have := N6.out; have := N7.out; have := N8.out; have := N9.out; have := N10.out; have := N11.out; omega))
  replace BK16 := Aside0.mk (blk_kept (by (with_reducible repeat (first | refine blk_drewN ?_ _ | refine blk_drew ?_ | refine blk_alloc ?_ _)); exact BK16.out) hK1 (fun hs_ => by have hs2_ : (some (w6.heap.size) = (.slice Ao9 r1.length co9 : Value).ownBlock ∧ (w3.heap.size + 1) ≤ (w6.heap.size) ∧ (w6.heap.size) < w4.heap.size) := hs_; have hb_ := hs2_.2; have := N1.out; have := N2.out; have := N3.out; have := N4.out; have := N5.out; have := N6.out; have := N7.out; have := N8.out; have := N9.out; have := N10.out; have := N11.out; omega))
  have N12 := Aside0.mk (show w11.heap.size ≤ w12.heap.size from Nat.le_trans (by first | exact Nat.le_refl _ | (simp; done)) hK1.1)
  replace HB := Aside0.mk hB1
  replace HO9 := Aside0.mk (Kd.R_mono (ok' := fun k_ => (some k_ = (.slice Ao9 r1.length co9 : Value).ownBlock ∧ (w3.heap.size + 1) ≤ k_ ∧ k_ < w4.heap.size) ∨ w11.heap.size ≤ k_) ho0 (fun k_ h_ => h_.imp id (fun z_ => Nat.le_trans (by first | exact Nat.le_refl _ | (simp; done)) z_)))
  clear hK1 ho0 hB1
  go_wp2_with (fail)
  (with_reducible refine (laws_markIntS.calls k (fun k_ => some k_ = (.slice Ao11 r3.length co11 : Value).ownBlock ∧ w4.heap.size ≤ k_ ∧ k_ < w5.heap.size) (.slice Ao11 r3.length co11) r3 r19 r21 r22 w _ ?side1 ?side2 h9.out).mono ?_)
  (case side1 => repeat (first | (with_reducible first | exact HB.out | apply below_alloc | apply pw_below_drewN | apply below_drew1) | exact HB.out)); (case side2 => refine Kd.R_lower (by (with_reducible repeat (first | apply Kd.R_alloc | apply Kd.R_drewN | apply Kd.R_drew)); exact HO11.out) ?_; have := N1.out; have := N2.out; have := N3.out; have := N4.out; omega)
  rintro e w13 ⟨rfl, ho0, hB1, hK1⟩
  replace HO8 := Aside0.mk (Kd.R_step (by (with_reducible repeat (first | apply Kd.R_alloc | apply Kd.R_drewN | apply Kd.R_drew)); exact HO8.out) (fun k_ (ho_ : some k_ = (.slice Ao8 r5.length co8 : Value).ownBlock ∧ w2.heap.size ≤ k_ ∧ k_ < w3.heap.size) hl_ => hK1.2 k_ hl_ (fun (hs_ : (some k_ = (.slice Ao11 r3.length co11 : Value).ownBlock ∧ w4.heap.size ≤ k_ ∧ k_ < w5.heap.size)) => by have ha_ := ho_.2; have hb_ := hs_.2; have := N1.out; have := N2.out; have := N3.out; have := N4.out; have := N5.out; have := N6.out; have := N7.out; have := N8.out; have := N9.out; have := N10.out; have := N11.out; have := N12.out; omega)))
  replace HO12 := Aside0.mk (Kd.R_step (by (with_reducible repeat (first | apply Kd.R_alloc | apply Kd.R_drewN | apply Kd.R_drew)); exact HO12.out) (fun k_ (ho_ : some k_ = (.slice Ao12 r5.length co12 : Value).ownBlock ∧ w5.heap.size ≤ k_ ∧ k_ < w6.heap.size) hl_ => hK1.2 k_ hl_ (fun (hs_ : (some k_ = (.slice Ao11 r3.length co11 : Value).ownBlock ∧ w4.heap.size ≤ k_ ∧ k_ < w5.heap.size)) => by have ha_ := ho_.2; have hb_ := hs_.2; have := N1.out; have := N2.out; have := N3.out; have := N4.out; have := N5.out; have := N6.out; have := N7.out; have := N8.out; have := N9.out; have := N10.out; have := N11.out; have := N12.out; omega)))
  replace BK10 := Aside0.mk (blk_kept (by (with_reducible repeat (first | refine blk_drewN ?_ _ | refine blk_drew ?_ | refine blk_alloc ?_ _)); exact BK10.out) hK1 (fun hs_ => by have hs2_ : (some (w3.heap.size) = (.slice Ao11 r3.length co11 : Value).ownBlock ∧ w4.heap.size ≤ (w3.heap.size) ∧ (w3.heap.size) < w5.heap.size) := hs_; have hb_ := hs2_.2; have := N1.out; have := N2.out; have := N3.out; have := N4.out; have := N5.out; have := N6.out; have := N7.out; have := N8.out; have := N9.out; have := N10.out; have := N11.out; have := N12.out; omega))
  replace BK16 := Aside0.mk (blk_kept (by (with_reducible repeat (first | refine blk_drewN ?_ _ | refine blk_drew ?_ | refine blk_alloc ?_ _)); exact BK16.out) hK1 (fun hs_ => by have hs2_ : (some (w6.heap.size) = (.slice Ao11 r3.length co11 : Value).ownBlock ∧ w4.heap.size ≤ (w6.heap.size) ∧ (w6.heap.size) < w5.heap.size) := hs_; have hb_ := hs2_.2; have := N1.out; have := N2.out; have := N3.out; have := N4.out; have := N5.out; have := N6.out; have := N7.out; have := N8.out; have := N9.out; have := N10.out; have := N11.out; have := N12.out; omega))
  have N13 := Aside0.mk (show w12.heap.size ≤ w13.heap.size from Nat.le_trans (by first | exact Nat.le_refl _ | (simp; done)) hK1.1)
  replace HB := Aside0.mk hB1
  replace HO11 := Aside0.mk (Kd.R_mono (ok' := fun k_ => (some k_ = (.slice Ao11 r3.length co11 : Value).ownBlock ∧ w4.heap.size ≤ k_ ∧ k_ < w5.heap.size) ∨ w12.heap.size ≤ k_) ho0 (fun k_ h_ => h_.imp id (fun z_ => Nat.le_trans (by first | exact Nat.le_refl _ | (simp; done)) z_)))
  clear hK1 ho0 hB1
  have hcz23 : w13.cell? ⟨w6.heap.size, 0, none⟩ = some (.slice Ao12 r5.length co12) := (blk_cell BK16.out 0).trans rfl
  have hcz24 : w13.cell? ⟨w6.heap.size, 1, none⟩ = some (.int .i64 r6) := (blk_cell BK16.out 1).trans rfl
  have hcz25 : w13.cell? ⟨w3.heap.size, 0, none⟩ = some (.slice Ao8 r5.length co8) := (blk_cell BK10.out 0).trans rfl
  have hcz26 : w13.cell? ⟨w3.heap.size, 1, none⟩ = some (.int .i64 r6) := (blk_cell BK10.out 1).trans rfl
  go_wp2_with (fail)
  (with_reducible refine (laws_eqPlane.calls k _ _ r5 r6 _ _ r5 r6 true _ ?side1 ?side2 ?side3 ?side4 h5.out).mono ?_)
  (case side1 => repeat (first | exact (Kd.R_reads' HO12.out).2.2 | (with_reducible refine Kd.C_alloc ?_ _) | (with_reducible refine Kd.C_drewN ?_ _) | (with_reducible refine Kd.C_drew ?_))); (case side2 => exact (Kd.R_reads' HO12.out).2.1); (case side3 => repeat (first | exact (Kd.R_reads' HO8.out).2.2 | (with_reducible refine Kd.C_alloc ?_ _) | (with_reducible refine Kd.C_drewN ?_ _) | (with_reducible refine Kd.C_drew ?_))); (case side4 => exact (Kd.R_reads' HO8.out).2.1)
  rintro e w14 ⟨rfl, hb⟩
  replace HO8 := Aside0.mk (Kd.R_below (by (with_reducible repeat (first | apply Kd.R_alloc | apply Kd.R_drewN | apply Kd.R_drew)); exact HO8.out) hb)
  replace HO12 := Aside0.mk (Kd.R_below (by (with_reducible repeat (first | apply Kd.R_alloc | apply Kd.R_drewN | apply Kd.R_drew)); exact HO12.out) hb)
  replace BK10 := Aside0.mk (blk_below (g := w3.heap.size) (o := .cells #[.slice Ao8 r5.length co8, .int .i64 r6] 33 (0, 0)) (by (with_reducible repeat (first | refine blk_drewN ?_ _ | refine blk_drew ?_ | refine blk_alloc ?_ _)); exact BK10.out) hb)
  replace BK16 := Aside0.mk (blk_below (g := w6.heap.size) (o := .cells #[.slice Ao12 r5.length co12, .int .i64 r6] 33 (0, 0)) (by (with_reducible repeat (first | refine blk_drewN ?_ _ | refine blk_drew ?_ | refine blk_alloc ?_ _)); exact BK16.out) hb)
  have N14 := Aside0.mk (show w13.heap.size + 0 ≤ w14.heap.size from Nat.le_trans (by first | exact Nat.le_refl _ | (simp; done)) hb.size)
  replace HB := Aside0.mk (below_step (by repeat (first | (with_reducible first | exact HB.out | apply below_alloc | apply pw_below_drewN | apply below_drew1) | exact HB.out)) hb)
  clear hb
  clear hcz23 hcz24 hcz25 hcz26
  have hcz27 : w14.cell? ⟨w6.heap.size, 0, none⟩ = some (.slice Ao12 r5.length co12) := (blk_cell BK16.out 0).trans rfl
  have hcz28 : w14.cell? ⟨w6.heap.size, 1, none⟩ = some (.int .i64 r6) := (blk_cell BK16.out 1).trans rfl
  go_wp2_with (fail)
  (with_reducible refine (laws_markPlane.calls k (fun k_ => some k_ = (.slice Ao12 r5.length co12 : Value).ownBlock ∧ w5.heap.size ≤ k_ ∧ k_ < w6.heap.size) (.slice Ao12 r5.length co12) r5 r6 1 r29 r30 w _ ?side1 ?side2 h10.out).mono ?_)
  (case side1 => repeat (first | (with_reducible first | exact HB.out | apply below_alloc | apply pw_below_drewN | apply below_drew1) | exact HB.out)); (case side2 => refine Kd.R_lower (by (with_reducible repeat (first | apply Kd.R_alloc | apply Kd.R_drewN | apply Kd.R_drew)); exact HO12.out) ?_; have := N1.out; have := N2.out; have := N3.out; have := N4.out; have := N5.out; omega)
  rintro e w15 ⟨rfl, ho0, hB1, hK1⟩
  replace HO8 := Aside0.mk (Kd.R_step (by (with_reducible repeat (first | apply Kd.R_alloc | apply Kd.R_drewN | apply Kd.R_drew)); exact HO8.out) (fun k_ (ho_ : some k_ = (.slice Ao8 r5.length co8 : Value).ownBlock ∧ w2.heap.size ≤ k_ ∧ k_ < w3.heap.size) hl_ => hK1.2 k_ hl_ (fun (hs_ : (some k_ = (.slice Ao12 r5.length co12 : Value).ownBlock ∧ w5.heap.size ≤ k_ ∧ k_ < w6.heap.size)) => by have ha_ := ho_.2; have hb_ := hs_.2; have := N1.out; have := N2.out; have := N3.out; have := N4.out; have := N5.out; have := N6.out; have := N7.out; have := N8.out; have := N9.out; have := N10.out; have := N11.out; have := N12.out; have := N13.out; have := N14.out; omega)))
  replace BK10 := Aside0.mk (blk_kept (by (with_reducible repeat (first | refine blk_drewN ?_ _ | refine blk_drew ?_ | refine blk_alloc ?_ _)); exact BK10.out) hK1 (fun hs_ => by have hs2_ : (some (w3.heap.size) = (.slice Ao12 r5.length co12 : Value).ownBlock ∧ w5.heap.size ≤ (w3.heap.size) ∧ (w3.heap.size) < w6.heap.size) := hs_; have hb_ := hs2_.2; have := N1.out; have := N2.out; have := N3.out; have := N4.out; have := N5.out; have := N6.out; have := N7.out; have := N8.out; have := N9.out; have := N10.out; have := N11.out; have := N12.out; have := N13.out; have := N14.out; omega))
  replace BK16 := Aside0.mk (blk_kept (by (with_reducible repeat (first | refine blk_drewN ?_ _ | refine blk_drew ?_ | refine blk_alloc ?_ _)); exact BK16.out) hK1 (fun hs_ => by have hs2_ : (some (w6.heap.size) = (.slice Ao12 r5.length co12 : Value).ownBlock ∧ w5.heap.size ≤ (w6.heap.size) ∧ (w6.heap.size) < w6.heap.size) := hs_; have hb_ := hs2_.2; have := N1.out; have := N2.out; have := N3.out; have := N4.out; have := N5.out; have := N6.out; have := N7.out; have := N8.out; have := N9.out; have := N10.out; have := N11.out; have := N12.out; have := N13.out; have := N14.out; omega))
  have N15 := Aside0.mk (show w14.heap.size ≤ w15.heap.size from Nat.le_trans (by first | exact Nat.le_refl _ | (simp; done)) hK1.1)
  replace HB := Aside0.mk hB1
  replace HO12 := Aside0.mk (Kd.R_mono (ok' := fun k_ => (some k_ = (.slice Ao12 r5.length co12 : Value).ownBlock ∧ w5.heap.size ≤ k_ ∧ k_ < w6.heap.size) ∨ w14.heap.size ≤ k_) ho0 (fun k_ h_ => h_.imp id (fun z_ => Nat.le_trans (by first | exact Nat.le_refl _ | (simp; done)) z_)))
  clear hK1 ho0 hB1
  clear hcz27 hcz28
  have hcz31 : w15.cell? ⟨w6.heap.size, 0, none⟩ = some (.slice Ao12 r5.length co12) := (blk_cell BK16.out 0).trans rfl
  have hcz32 : w15.cell? ⟨w6.heap.size, 1, none⟩ = some (.int .i64 r6) := (blk_cell BK16.out 1).trans rfl
  go_wp2_with (fail)
  refine calls_of_args (args' := #[.agg #[.slice Ao12 r30.length co12, .int .i64 r6], .int .i64 1]) (by rw [(Kd.R_reads' HO12.out).1]) ?_
  (with_reducible refine (laws_heldPlane.calls k _ _ r30 r6 1 r29 _ ?side1 ?side2 h11.out).mono ?_)
  (case side1 => repeat (first | exact (Kd.R_reads' HO12.out).2.2 | (with_reducible refine Kd.C_alloc ?_ _) | (with_reducible refine Kd.C_drewN ?_ _) | (with_reducible refine Kd.C_drew ?_))); (case side2 => have e_ := Kd.R_reads' HO12.out; rw [← e_.1]; exact e_.2.1)
  rintro e w16 ⟨rfl, hb⟩
  replace HO8 := Aside0.mk (Kd.R_below (by (with_reducible repeat (first | apply Kd.R_alloc | apply Kd.R_drewN | apply Kd.R_drew)); exact HO8.out) hb)
  replace HO12 := Aside0.mk (Kd.R_below (by (with_reducible repeat (first | apply Kd.R_alloc | apply Kd.R_drewN | apply Kd.R_drew)); exact HO12.out) hb)
  replace BK10 := Aside0.mk (blk_below (g := w3.heap.size) (o := .cells #[.slice Ao8 r5.length co8, .int .i64 r6] 33 (0, 0)) (by (with_reducible repeat (first | refine blk_drewN ?_ _ | refine blk_drew ?_ | refine blk_alloc ?_ _)); exact BK10.out) hb)
  replace BK16 := Aside0.mk (blk_below (g := w6.heap.size) (o := .cells #[.slice Ao12 r5.length co12, .int .i64 r6] 33 (0, 0)) (by (with_reducible repeat (first | refine blk_drewN ?_ _ | refine blk_drew ?_ | refine blk_alloc ?_ _)); exact BK16.out) hb)
  have N16 := Aside0.mk (show w15.heap.size + 0 ≤ w16.heap.size from Nat.le_trans (by first | exact Nat.le_refl _ | (simp; done)) hb.size)
  replace HB := Aside0.mk (below_step (by repeat (first | (with_reducible first | exact HB.out | apply below_alloc | apply pw_below_drewN | apply below_drew1) | exact HB.out)) hb)
  clear hb
  clear hcz31 hcz32
  go_wp2_with (fail)
  (with_reducible refine (laws_toIntS.calls k _ _ l0 r1 _ ?side1 ?side2 h1.out).mono ?_)
  (case side1 => repeat (first | exact (Kd.C_below HR0.out HB.out) | (with_reducible refine Kd.C_alloc ?_ _) | (with_reducible refine Kd.C_drewN ?_ _) | (with_reducible refine Kd.C_drew ?_))); (case side2 => exact HC0.out)
  rintro e w17 ⟨v33, rfl, ho0, hb⟩
  replace HO8 := Aside0.mk (Kd.R_below (by (with_reducible repeat (first | apply Kd.R_alloc | apply Kd.R_drewN | apply Kd.R_drew)); exact HO8.out) hb)
  replace HO12 := Aside0.mk (Kd.R_below (by (with_reducible repeat (first | apply Kd.R_alloc | apply Kd.R_drewN | apply Kd.R_drew)); exact HO12.out) hb)
  replace BK10 := Aside0.mk (blk_below (g := w3.heap.size) (o := .cells #[.slice Ao8 r5.length co8, .int .i64 r6] 33 (0, 0)) (by (with_reducible repeat (first | refine blk_drewN ?_ _ | refine blk_drew ?_ | refine blk_alloc ?_ _)); exact BK10.out) hb)
  replace BK16 := Aside0.mk (blk_below (g := w6.heap.size) (o := .cells #[.slice Ao12 r5.length co12, .int .i64 r6] 33 (0, 0)) (by (with_reducible repeat (first | refine blk_drewN ?_ _ | refine blk_drew ?_ | refine blk_alloc ?_ _)); exact BK16.out) hb)
  have N17 := Aside0.mk (show w16.heap.size + 0 ≤ w17.heap.size from Nat.le_trans (by first | exact Nat.le_refl _ | (simp; done)) hb.size)
  replace HB := Aside0.mk (below_step (by repeat (first | (with_reducible first | exact HB.out | apply below_alloc | apply pw_below_drewN | apply below_drew1) | exact HB.out)) hb)
  have HO33 := Aside0.mk (R_ivl (b0 := w16.heap.size) (Kd.R_tight rfl ho0) (by first | exact Nat.le_refl _ | (simp; done)))
  clear hb ho0
  obtain ⟨Ao33, co33, eo33⟩ := Kd.R_slice HO33.out
  subst eo33
  go_wp2_with (fail)
  (with_reducible refine (laws_toIntS.calls k _ _ l1 r3 _ ?side1 ?side2 h2.out).mono ?_)
  (case side1 => repeat (first | exact (Kd.C_below HR1.out HB.out) | (with_reducible refine Kd.C_alloc ?_ _) | (with_reducible refine Kd.C_drewN ?_ _) | (with_reducible refine Kd.C_drew ?_))); (case side2 => exact HC1.out)
  rintro e w18 ⟨v34, rfl, ho0, hb⟩
  replace HO8 := Aside0.mk (Kd.R_below (by (with_reducible repeat (first | apply Kd.R_alloc | apply Kd.R_drewN | apply Kd.R_drew)); exact HO8.out) hb)
  replace HO12 := Aside0.mk (Kd.R_below (by (with_reducible repeat (first | apply Kd.R_alloc | apply Kd.R_drewN | apply Kd.R_drew)); exact HO12.out) hb)
  replace HO33 := Aside0.mk (Kd.R_below (by (with_reducible repeat (first | apply Kd.R_alloc | apply Kd.R_drewN | apply Kd.R_drew)); exact HO33.out) hb)
  replace BK10 := Aside0.mk (blk_below (g := w3.heap.size) (o := .cells #[.slice Ao8 r5.length co8, .int .i64 r6] 33 (0, 0)) (by (with_reducible repeat (first | refine blk_drewN ?_ _ | refine blk_drew ?_ | refine blk_alloc ?_ _)); exact BK10.out) hb)
  replace BK16 := Aside0.mk (blk_below (g := w6.heap.size) (o := .cells #[.slice Ao12 r5.length co12, .int .i64 r6] 33 (0, 0)) (by (with_reducible repeat (first | refine blk_drewN ?_ _ | refine blk_drew ?_ | refine blk_alloc ?_ _)); exact BK16.out) hb)
  have N18 := Aside0.mk (show w17.heap.size + 0 ≤ w18.heap.size from Nat.le_trans (by first | exact Nat.le_refl _ | (simp; done)) hb.size)
  replace HB := Aside0.mk (below_step (by repeat (first | (with_reducible first | exact HB.out | apply below_alloc | apply pw_below_drewN | apply below_drew1) | exact HB.out)) hb)
  have HO34 := Aside0.mk (R_ivl (b0 := w17.heap.size) (Kd.R_tight rfl ho0) (by first | exact Nat.le_refl _ | (simp; done)))
  clear hb ho0
  obtain ⟨Ao34, co34, eo34⟩ := Kd.R_slice HO34.out
  subst eo34
  go_wp2_with (fail)
  (with_reducible refine (impl_PairPlane.calls k _ _ r1 _ _ r3 r5 r6 r7 _ ?side1 ?side2 ?side3 ?side4 h4.out).mono ?_)
  (case side1 => repeat (first | exact (Kd.R_reads' HO33.out).2.2 | (with_reducible refine Kd.C_alloc ?_ _) | (with_reducible refine Kd.C_drewN ?_ _) | (with_reducible refine Kd.C_drew ?_))); (case side2 => exact (Kd.R_reads' HO33.out).2.1); (case side3 => repeat (first | exact (Kd.R_reads' HO34.out).2.2 | (with_reducible refine Kd.C_alloc ?_ _) | (with_reducible refine Kd.C_drewN ?_ _) | (with_reducible refine Kd.C_drew ?_))); (case side4 => exact (Kd.R_reads' HO34.out).2.1)
  rintro e w19 ⟨v35, rfl, ho0, hb⟩
  replace HO8 := Aside0.mk (Kd.R_below (by (with_reducible repeat (first | apply Kd.R_alloc | apply Kd.R_drewN | apply Kd.R_drew)); exact HO8.out) hb)
  replace HO12 := Aside0.mk (Kd.R_below (by (with_reducible repeat (first | apply Kd.R_alloc | apply Kd.R_drewN | apply Kd.R_drew)); exact HO12.out) hb)
  replace HO33 := Aside0.mk (Kd.R_below (by (with_reducible repeat (first | apply Kd.R_alloc | apply Kd.R_drewN | apply Kd.R_drew)); exact HO33.out) hb)
  replace HO34 := Aside0.mk (Kd.R_below (by (with_reducible repeat (first | apply Kd.R_alloc | apply Kd.R_drewN | apply Kd.R_drew)); exact HO34.out) hb)
  replace BK10 := Aside0.mk (blk_below (g := w3.heap.size) (o := .cells #[.slice Ao8 r5.length co8, .int .i64 r6] 33 (0, 0)) (by (with_reducible repeat (first | refine blk_drewN ?_ _ | refine blk_drew ?_ | refine blk_alloc ?_ _)); exact BK10.out) hb)
  replace BK16 := Aside0.mk (blk_below (g := w6.heap.size) (o := .cells #[.slice Ao12 r5.length co12, .int .i64 r6] 33 (0, 0)) (by (with_reducible repeat (first | refine blk_drewN ?_ _ | refine blk_drew ?_ | refine blk_alloc ?_ _)); exact BK16.out) hb)
  have N19 := Aside0.mk (show w18.heap.size + 0 ≤ w19.heap.size from Nat.le_trans (by first | exact Nat.le_refl _ | (simp; done)) hb.size)
  replace HB := Aside0.mk (below_step (by repeat (first | (with_reducible first | exact HB.out | apply below_alloc | apply pw_below_drewN | apply below_drew1) | exact HB.out)) hb)
  have HO35 := Aside0.mk (R_ivl (b0 := w18.heap.size) (Kd.R_tight rfl ho0) (by first | exact Nat.le_refl _ | (simp; done)))
  clear hb ho0
  obtain ⟨Ao35, co35, eo35⟩ := Kd.R_slice HO35.out
  subst eo35
  have hne36 := blk_lt BK10.out
  have hcz37 : w19.cell? ⟨w3.heap.size, 0, none⟩ = some (.slice Ao8 r5.length co8) := (blk_cell BK10.out 0).trans rfl
  have hcz38 : w19.cell? ⟨w3.heap.size, 1, none⟩ = some (.int .i64 r6) := (blk_cell BK10.out 1).trans rfl
  go_wp2_with (fail)
  (with_reducible refine (laws_eqPlane.calls k _ _ r5 r6 _ _ r5 r6 true _ ?side1 ?side2 ?side3 ?side4 h5.out).mono ?_)
  (case side1 => repeat (first | exact (Kd.R_reads' HO35.out).2.2 | (with_reducible refine Kd.C_alloc ?_ _) | (with_reducible refine Kd.C_drewN ?_ _) | (with_reducible refine Kd.C_drew ?_))); (case side2 => exact (Kd.R_reads' HO35.out).2.1); (case side3 => repeat (first | exact (Kd.R_reads' HO8.out).2.2 | (with_reducible refine Kd.C_alloc ?_ _) | (with_reducible refine Kd.C_drewN ?_ _) | (with_reducible refine Kd.C_drew ?_))); (case side4 => exact (Kd.R_reads' HO8.out).2.1)
  rintro e w20 ⟨rfl, hb⟩
  replace HO8 := Aside0.mk (Kd.R_below (by (with_reducible repeat (first | apply Kd.R_alloc | apply Kd.R_drewN | apply Kd.R_drew)); exact HO8.out) hb)
  replace HO12 := Aside0.mk (Kd.R_below (by (with_reducible repeat (first | apply Kd.R_alloc | apply Kd.R_drewN | apply Kd.R_drew)); exact HO12.out) hb)
  replace HO35 := Aside0.mk (Kd.R_below (by (with_reducible repeat (first | apply Kd.R_alloc | apply Kd.R_drewN | apply Kd.R_drew)); exact HO35.out) hb)
  replace BK10 := Aside0.mk (blk_below (g := w3.heap.size) (o := .cells #[.slice Ao8 r5.length co8, .int .i64 r6] 33 (0, 0)) (by (with_reducible repeat (first | refine blk_drewN ?_ _ | refine blk_drew ?_ | refine blk_alloc ?_ _)); exact BK10.out) hb)
  replace BK16 := Aside0.mk (blk_below (g := w6.heap.size) (o := .cells #[.slice Ao12 r5.length co12, .int .i64 r6] 33 (0, 0)) (by (with_reducible repeat (first | refine blk_drewN ?_ _ | refine blk_drew ?_ | refine blk_alloc ?_ _)); exact BK16.out) hb)
  have BK39 := Aside0.mk (blk_below (g := w19.heap.size) (o := .cells #[.slice Ao35 r5.length co35, .int .i64 r6] 33 (0, 0)) (by repeat (first | exact blk_at _ (by first | rfl | (simp; done)) | refine blk_alloc ?_ _ | refine blk_drew ?_ | refine blk_drewN ?_ _)) hb)
  have N20 := Aside0.mk (show w19.heap.size + 1 ≤ w20.heap.size from Nat.le_trans (by first | exact Nat.le_refl _ | (simp; done)) hb.size)
  replace HB := Aside0.mk (below_step (by repeat (first | (with_reducible first | exact HB.out | apply below_alloc | apply pw_below_drewN | apply below_drew1) | exact HB.out)) hb)
  clear hb
  clear hne36 hcz37 hcz38
  have hcz40 : w20.cell? ⟨w6.heap.size, 0, none⟩ = some (.slice Ao12 r5.length co12) := (blk_cell BK16.out 0).trans rfl
  have hcz41 : w20.cell? ⟨w6.heap.size, 1, none⟩ = some (.int .i64 r6) := (blk_cell BK16.out 1).trans rfl
  go_wp2_with (fail)
  refine calls_of_args (args' := #[.agg #[.slice Ao12 r30.length co12, .int .i64 r6], .int .i64 1]) (by rw [(Kd.R_reads' HO12.out).1]) ?_
  (with_reducible refine (laws_heldPlane.calls k _ _ r30 r6 1 r29 _ ?side1 ?side2 h11.out).mono ?_)
  (case side1 => repeat (first | exact (Kd.R_reads' HO12.out).2.2 | (with_reducible refine Kd.C_alloc ?_ _) | (with_reducible refine Kd.C_drewN ?_ _) | (with_reducible refine Kd.C_drew ?_))); (case side2 => have e_ := Kd.R_reads' HO12.out; rw [← e_.1]; exact e_.2.1)
  rintro e w21 ⟨rfl, hb⟩
  replace HO12 := Aside0.mk (Kd.R_below (by (with_reducible repeat (first | apply Kd.R_alloc | apply Kd.R_drewN | apply Kd.R_drew)); exact HO12.out) hb)
  replace BK10 := Aside0.mk (blk_below (g := w3.heap.size) (o := .cells #[.slice Ao8 r5.length co8, .int .i64 r6] 33 (0, 0)) (by (with_reducible repeat (first | refine blk_drewN ?_ _ | refine blk_drew ?_ | refine blk_alloc ?_ _)); exact BK10.out) hb)
  replace BK16 := Aside0.mk (blk_below (g := w6.heap.size) (o := .cells #[.slice Ao12 r5.length co12, .int .i64 r6] 33 (0, 0)) (by (with_reducible repeat (first | refine blk_drewN ?_ _ | refine blk_drew ?_ | refine blk_alloc ?_ _)); exact BK16.out) hb)
  replace BK39 := Aside0.mk (blk_below (g := w19.heap.size) (o := .cells #[.slice Ao35 r5.length co35, .int .i64 r6] 33 (0, 0)) (by (with_reducible repeat (first | refine blk_drewN ?_ _ | refine blk_drew ?_ | refine blk_alloc ?_ _)); exact BK39.out) hb)
  have N21 := Aside0.mk (show w20.heap.size + 0 ≤ w21.heap.size from Nat.le_trans (by first | exact Nat.le_refl _ | (simp; done)) hb.size)
  replace HB := Aside0.mk (below_step (by repeat (first | (with_reducible first | exact HB.out | apply below_alloc | apply pw_below_drewN | apply below_drew1) | exact HB.out)) hb)
  clear hb
  clear hcz40 hcz41
  go_wp2_with (fail)
  go_ret
  exact ⟨rfl, (by repeat (first | (with_reducible first | exact HB.out | apply below_alloc | apply pw_below_drewN | apply below_drew1) | exact HB.out))⟩

end Go.Proofs.Ytihnijfgdffhjaa.GFnExactPairPlane
