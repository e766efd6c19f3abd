import Derived.Test.YtihnijfgdffhjaaPFnExactJurySidex
import Derived.Test.YtihnijfgdffhjaaMc
namespace Go.Proofs.Ytihnijfgdffhjaa.GFnExactJurySide
open Go.RowKit  Go.Proofs.Ytihnijfgdffhjaa.Mc Go.Proofs.Ytihnijfgdffhjaa.PFnExactJurySide Go.Proofs.YtihnijfgdffhjaaW.PrintWords Go.Proofs.YtihnijfgdffhjaaW.PrintLast Go.Proofs.YtihnijfgdffhjaaW.PrintMore
set_option linter.unusedVariables false
set_option linter.unusedSimpArgs false
set_option maxHeartbeats 8000000 in
set_option maxRecDepth 100000 in
theorem big0 (k : Nat) (A0 : Option Addr) (c0 : Nat) (l0 : List S30) (A1 : Option Addr) (c1 : Nat) (l1 : List Int)  (w : World) (hr0 : Kd.C k30 w A0 l0.length l0) (hc0 : l0.length ≤ c0) (hr1 : Kd.C (Kd.int .i64) w A1 l1.length l1) (hc1 : l1.length ≤ c1)  (q0 : 1048576 < l1.length) :
    Calls Try.prog 12 #[.slice A0 l0.length c0, .slice A1 l1.length c1] w fun e w' => e = .returned (.bool true) ∧ Below w.heap.size w w' := by
  have HR0 := Aside0.mk hr0
  have HC0 := Aside0.mk hc0
  clear hr0 hc0
  have HR1 := Aside0.mk hr1
  have HC1 := Aside0.mk hc1
  clear hr1 hc1
  have HB := Aside0.mk (Below.refl w.heap.size w)
  have d0 : decide (1048576 < l1.length) = true := decide_eq_true (by omega)
  have e0 : decide ((l1.length : Int) > 1048576) = true := decide_eq_true (by omega)
  clear q0
  go_enter Try.func12, Try.ntmps12
  go_wp2_with (fail)
  go_ret
  exact ⟨rfl, (by repeat (first | (with_reducible first | exact HB.out | apply below_alloc | apply pw_below_drewN | apply below_drew1) | exact HB.out))⟩


set_option maxHeartbeats 8000000 in
set_option maxRecDepth 100000 in
theorem big1 (k : Nat) (A0 : Option Addr) (c0 : Nat) (l0 : List S30) (A1 : Option Addr) (c1 : Nat) (l1 : List Int) (r1 : Int) (w : World) (hr0 : Kd.C k30 w A0 l0.length l0) (hc0 : l0.length ≤ c0) (hr1 : Kd.C (Kd.int .i64) w A1 l1.length l1) (hc1 : l1.length ≤ c1) (h1 : laws_szPlaneS.f k l0 1048576 = some r1) (q0 : l1.length ≤ 1048576) (q1 : r1 < 0) :
    Calls Try.prog 12 #[.slice A0 l0.length c0, .slice A1 l1.length c1] w fun e w' => e = .returned (.bool true) ∧ Below w.heap.size w w' := by
  have HR0 := Aside0.mk hr0
  have HC0 := Aside0.mk hc0
  clear hr0 hc0
  have HR1 := Aside0.mk hr1
  have HC1 := Aside0.mk hc1
  clear hr1 hc1
  have HB := Aside0.mk (Below.refl w.heap.size w)
  replace h1 := Aside0.mk h1
  have d0 : decide (1048576 < l1.length) = false := decide_eq_false (by omega)
  have e0 : decide ((l1.length : Int) > 1048576) = false := decide_eq_false (by omega)
  have d1 : decide (r1 < 0) = true := decide_eq_true (by omega)
  clear q0 q1
  go_enter Try.func12, Try.ntmps12
  go_wp2_with (fail)
  (with_reducible refine (laws_szPlaneS.calls k _ _ l0 1048576 r1 _ ?side1 ?side2 h1.out).mono ?_)
  (case side1 => repeat (first | exact (Kd.C_below HR0.out HB.out) | (with_reducible refine Kd.C_alloc ?_ _) | (with_reducible refine Kd.C_drewN ?_ _) | (with_reducible refine Kd.C_drew ?_))); (case side2 => exact HC0.out)
  rintro e w1 ⟨rfl, hb⟩
  replace HB := Aside0.mk (below_step (by repeat (first | (with_reducible first | exact HB.out | apply below_alloc | apply pw_below_drewN | apply below_drew1) | exact HB.out)) hb)
  clear hb
  go_wp2_with (fail)
  go_ret
  exact ⟨rfl, (by repeat (first | (with_reducible first | exact HB.out | apply below_alloc | apply pw_below_drewN | apply below_drew1) | exact HB.out))⟩


set_option maxHeartbeats 8000000 in
set_option maxRecDepth 100000 in
theorem good (k : Nat) (A0 : Option Addr) (c0 : Nat) (l0 : List S30) (A1 : Option Addr) (c1 : Nat) (l1 : List Int) (r1 : Int) (r2 : List (S33)) (r4 : List Int) (r6 : Int) (r7 : Bool) (w : World) (hr0 : Kd.C k30 w A0 l0.length l0) (hc0 : l0.length ≤ c0) (hr1 : Kd.C (Kd.int .i64) w A1 l1.length l1) (hc1 : l1.length ≤ c1) (h1 : laws_szPlaneS.f k l0 1048576 = some r1) (h2 : laws_toPlaneS.f k l0 = some r2) (h3 : laws_toIntS.f k l1 = some r4) (h4 : spec_JurySide.f k r2 r4 = some (r6, r7)) (h5 : impl_JurySide.f k r2 r4 = some (r6, r7)) (h6 : laws_eqPlaneS.f k r2 r2 = some true) (h7 : laws_eqIntS.f k r4 r4 = some true) (q0 : l1.length ≤ 1048576) (q1 : 0 ≤ r1) :
    Calls Try.prog 12 #[.slice A0 l0.length c0, .slice A1 l1.length c1] w fun e w' => e = .returned (.bool true) ∧ Below w.heap.size w w' := by
  have HR0 := Aside0.mk hr0
  have HC0 := Aside0.mk hc0
  clear hr0 hc0
  have HR1 := Aside0.mk hr1
  have HC1 := Aside0.mk hc1
  clear hr1 hc1
  have HB := Aside0.mk (Below.refl w.heap.size w)
  replace h1 := Aside0.mk h1
  replace h2 := Aside0.mk h2
  replace h3 := Aside0.mk h3
  replace h4 := Aside0.mk h4
  replace h5 := Aside0.mk h5
  replace h6 := Aside0.mk h6
  replace h7 := Aside0.mk h7
  have d0 : decide (1048576 < l1.length) = false := decide_eq_false (by omega)
  have e0 : decide ((l1.length : Int) > 1048576) = false := decide_eq_false (by omega)
  have d1 : decide (r1 < 0) = false := decide_eq_false (by omega)
  clear q0 q1
  go_enter Try.func12, Try.ntmps12
  go_wp2_with (fail)
  (with_reducible refine (laws_szPlaneS.calls k _ _ l0 1048576 r1 _ ?side1 ?side2 h1.out).mono ?_)
  (case side1 => repeat (first | exact (Kd.C_below HR0.out HB.out) | (with_reducible refine Kd.C_alloc ?_ _) | (with_reducible refine Kd.C_drewN ?_ _) | (with_reducible refine Kd.C_drew ?_))); (case side2 => exact HC0.out)
  rintro e w1 ⟨rfl, hb⟩
  replace HB := Aside0.mk (below_step (by repeat (first | (with_reducible first | exact HB.out | apply below_alloc | apply pw_below_drewN | apply below_drew1) | exact HB.out)) hb)
  clear hb
  go_wp2_with (fail)
  (with_reducible refine (laws_toPlaneS.calls k _ _ l0 r2 _ ?side1 ?side2 h2.out).mono ?_)
  (case side1 => repeat (first | exact (Kd.C_below HR0.out HB.out) | (with_reducible refine Kd.C_alloc ?_ _) | (with_reducible refine Kd.C_drewN ?_ _) | (with_reducible refine Kd.C_drew ?_))); (case side2 => exact HC0.out)
  rintro e w2 ⟨v3, rfl, ho0, hb⟩
  replace HB := Aside0.mk (below_step (by repeat (first | (with_reducible first | exact HB.out | apply below_alloc | apply pw_below_drewN | apply below_drew1) | exact HB.out)) hb)
  have HO3 := Aside0.mk ho0
  clear hb ho0
  obtain ⟨Ao3, co3, eo3⟩ := Kd.S_slice HO3.out
  subst eo3
  go_wp2_with (fail)
  (with_reducible refine (laws_toIntS.calls k _ _ l1 r4 _ ?side1 ?side2 h3.out).mono ?_)
  (case side1 => repeat (first | exact (Kd.C_below HR1.out HB.out) | (with_reducible refine Kd.C_alloc ?_ _) | (with_reducible refine Kd.C_drewN ?_ _) | (with_reducible refine Kd.C_drew ?_))); (case side2 => exact HC1.out)
  rintro e w3 ⟨v5, rfl, ho0, hb⟩
  replace HO3 := Aside0.mk (Kd.S_below (by (with_reducible repeat (first | apply Kd.S_alloc | apply Kd.S_drewN | apply Kd.S_drew)); exact HO3.out) hb)
  replace HB := Aside0.mk (below_step (by repeat (first | (with_reducible first | exact HB.out | apply below_alloc | apply pw_below_drewN | apply below_drew1) | exact HB.out)) hb)
  have HO5 := Aside0.mk ho0
  clear hb ho0
  obtain ⟨Ao5, co5, eo5⟩ := Kd.R_slice HO5.out
  subst eo5
  go_wp2_with (fail)
  (with_reducible refine (spec_JurySide.calls k _ _ r2 _ _ r4 r6 r7 _ ?side1 ?side2 ?side3 ?side4 h4.out).mono ?_)
  (case side1 => repeat (first | exact (Kd.S_reads' HO3.out).2.2 | (with_reducible refine Kd.C_alloc ?_ _) | (with_reducible refine Kd.C_drewN ?_ _) | (with_reducible refine Kd.C_drew ?_))); (case side2 => exact (Kd.S_reads' HO3.out).2.1); (case side3 => repeat (first | exact (Kd.R_reads' HO5.out).2.2 | (with_reducible refine Kd.C_alloc ?_ _) | (with_reducible refine Kd.C_drewN ?_ _) | (with_reducible refine Kd.C_drew ?_))); (case side4 => exact (Kd.R_reads' HO5.out).2.1)
  rintro e w4 ⟨rfl, hb⟩
  replace HO3 := Aside0.mk (Kd.S_below (by (with_reducible repeat (first | apply Kd.S_alloc | apply Kd.S_drewN | apply Kd.S_drew)); exact HO3.out) hb)
  replace HO5 := Aside0.mk (Kd.R_below (by (with_reducible repeat (first | apply Kd.R_alloc | apply Kd.R_drewN | apply Kd.R_drew)); exact HO5.out) hb)
  replace HB := Aside0.mk (below_step (by repeat (first | (with_reducible first | exact HB.out | apply below_alloc | apply pw_below_drewN | apply below_drew1) | exact HB.out)) hb)
  clear hb
  go_wp2_with (fail)
  (with_reducible refine (laws_toPlaneS.calls k _ _ l0 r2 _ ?side1 ?side2 h2.out).mono ?_)
  (case side1 => repeat (first | exact (Kd.C_below HR0.out HB.out) | (with_reducible refine Kd.C_alloc ?_ _) | (with_reducible refine Kd.C_drewN ?_ _) | (with_reducible refine Kd.C_drew ?_))); (case side2 => exact HC0.out)
  rintro e w5 ⟨v8, rfl, ho0, hb⟩
  replace HB := Aside0.mk (below_step (by repeat (first | (with_reducible first | exact HB.out | apply below_alloc | apply pw_below_drewN | apply below_drew1) | exact HB.out)) hb)
  have HO8 := Aside0.mk ho0
  clear hb ho0
  obtain ⟨Ao8, co8, eo8⟩ := Kd.S_slice HO8.out
  subst eo8
  go_wp2_with (fail)
  (with_reducible refine (laws_toIntS.calls k _ _ l1 r4 _ ?side1 ?side2 h3.out).mono ?_)
  (case side1 => repeat (first | exact (Kd.C_below HR1.out HB.out) | (with_reducible refine Kd.C_alloc ?_ _) | (with_reducible refine Kd.C_drewN ?_ _) | (with_reducible refine Kd.C_drew ?_))); (case side2 => exact HC1.out)
  rintro e w6 ⟨v9, rfl, ho0, hb⟩
  replace HO8 := Aside0.mk (Kd.S_below (by (with_reducible repeat (first | apply Kd.S_alloc | apply Kd.S_drewN | apply Kd.S_drew)); exact HO8.out) hb)
  replace HB := Aside0.mk (below_step (by repeat (first | (with_reducible first | exact HB.out | apply below_alloc | apply pw_below_drewN | apply below_drew1) | exact HB.out)) hb)
  have HO9 := Aside0.mk ho0
  clear hb ho0
  obtain ⟨Ao9, co9, eo9⟩ := Kd.R_slice HO9.out
  subst eo9
  go_wp2_with (fail)
  (with_reducible refine (impl_JurySide.calls k _ _ r2 _ _ r4 r6 r7 _ ?side1 ?side2 ?side3 ?side4 h5.out).mono ?_)
  (case side1 => repeat (first | exact (Kd.S_reads' HO8.out).2.2 | (with_reducible refine Kd.C_alloc ?_ _) | (with_reducible refine Kd.C_drewN ?_ _) | (with_reducible refine Kd.C_drew ?_))); (case side2 => exact (Kd.S_reads' HO8.out).2.1); (case side3 => repeat (first | exact (Kd.R_reads' HO9.out).2.2 | (with_reducible refine Kd.C_alloc ?_ _) | (with_reducible refine Kd.C_drewN ?_ _) | (with_reducible refine Kd.C_drew ?_))); (case side4 => exact (Kd.R_reads' HO9.out).2.1)
  rintro e w7 ⟨rfl, hb⟩
  replace HO8 := Aside0.mk (Kd.S_below (by (with_reducible repeat (first | apply Kd.S_alloc | apply Kd.S_drewN | apply Kd.S_drew)); exact HO8.out) hb)
  replace HO9 := Aside0.mk (Kd.R_below (by (with_reducible repeat (first | apply Kd.R_alloc | apply Kd.R_drewN | apply Kd.R_drew)); exact HO9.out) hb)
  replace HB := Aside0.mk (below_step (by repeat (first | (with_reducible first | exact HB.out | apply below_alloc | apply pw_below_drewN | apply below_drew1) | exact HB.out)) hb)
  clear hb
  go_wp2_with (fail)
  (with_reducible refine (laws_toPlaneS.calls k _ _ l0 r2 _ ?side1 ?side2 h2.out).mono ?_)
  (case side1 => repeat (first | exact (Kd.C_below HR0.out HB.out) | (with_reducible refine Kd.C_alloc ?_ _) | (with_reducible refine Kd.C_drewN ?_ _) | (with_reducible refine Kd.C_drew ?_))); (case side2 => exact HC0.out)
  rintro e w8 ⟨v10, rfl, ho0, hb⟩
  replace HO8 := Aside0.mk (Kd.S_below (by (with_reducible repeat (first | apply Kd.S_alloc | apply Kd.S_drewN | apply Kd.S_drew)); exact HO8.out) hb)
  replace HO9 := Aside0.mk (Kd.R_below (by (with_reducible repeat (first | apply Kd.R_alloc | apply Kd.R_drewN | apply Kd.R_drew)); exact HO9.out) hb)
  replace HB := Aside0.mk (below_step (by repeat (first | (with_reducible first | exact HB.out | apply below_alloc | apply pw_below_drewN | apply below_drew1) | exact HB.out)) hb)
  have HO10 := Aside0.mk ho0
  clear hb ho0
  obtain ⟨Ao10, co10, eo10⟩ := Kd.S_slice HO10.out
  subst eo10
  go_wp2_with (fail)
  (with_reducible refine (laws_eqPlaneS.calls k _ _ r2 _ _ r2 true _ ?side1 ?side2 ?side3 ?side4 h6.out).mono ?_)
  (case side1 => repeat (first | exact (Kd.S_reads' HO8.out).2.2 | (with_reducible refine Kd.C_alloc ?_ _) | (with_reducible refine Kd.C_drewN ?_ _) | (with_reducible refine Kd.C_drew ?_))); (case side2 => exact (Kd.S_reads' HO8.out).2.1); (case side3 => repeat (first | exact (Kd.S_reads' HO10.out).2.2 | (with_reducible refine Kd.C_alloc ?_ _) | (with_reducible refine Kd.C_drewN ?_ _) | (with_reducible refine Kd.C_drew ?_))); (case side4 => exact (Kd.S_reads' HO10.out).2.1)
  rintro e w9 ⟨rfl, hb⟩
  replace HO8 := Aside0.mk (Kd.S_below (by (with_reducible repeat (first | apply Kd.S_alloc | apply Kd.S_drewN | apply Kd.S_drew)); exact HO8.out) hb)
  replace HO9 := Aside0.mk (Kd.R_below (by (with_reducible repeat (first | apply Kd.R_alloc | apply Kd.R_drewN | apply Kd.R_drew)); exact HO9.out) hb)
  replace HO10 := Aside0.mk (Kd.S_below (by (with_reducible repeat (first | apply Kd.S_alloc | apply Kd.S_drewN | apply Kd.S_drew)); exact HO10.out) hb)
  replace HB := Aside0.mk (below_step (by repeat (first | (with_reducible first | exact HB.out | apply below_alloc | apply pw_below_drewN | apply below_drew1) | exact HB.out)) hb)
  clear hb
  go_wp2_with (fail)
  (with_reducible refine (laws_toIntS.calls k _ _ l1 r4 _ ?side1 ?side2 h3.out).mono ?_)
  (case side1 => repeat (first | exact (Kd.C_below HR1.out HB.out) | (with_reducible refine Kd.C_alloc ?_ _) | (with_reducible refine Kd.C_drewN ?_ _) | (with_reducible refine Kd.C_drew ?_))); (case side2 => exact HC1.out)
  rintro e w10 ⟨v11, rfl, ho0, hb⟩
  replace HO9 := Aside0.mk (Kd.R_below (by (with_reducible repeat (first | apply Kd.R_alloc | apply Kd.R_drewN | apply Kd.R_drew)); exact HO9.out) hb)
  replace HB := Aside0.mk (below_step (by repeat (first | (with_reducible first | exact HB.out | apply below_alloc | apply pw_below_drewN | apply below_drew1) | exact HB.out)) hb)
  have HO11 := Aside0.mk ho0
  clear hb ho0
  obtain ⟨Ao11, co11, eo11⟩ := Kd.R_slice HO11.out
  subst eo11
  go_wp2_with (fail)
  (with_reducible refine (laws_eqIntS.calls k _ _ r4 _ _ r4 true _ ?side1 ?side2 ?side3 ?side4 h7.out).mono ?_)
  (case side1 => repeat (first | exact (Kd.R_reads' HO9.out).2.2 | (with_reducible refine Kd.C_alloc ?_ _) | (with_reducible refine Kd.C_drewN ?_ _) | (with_reducible refine Kd.C_drew ?_))); (case side2 => exact (Kd.R_reads' HO9.out).2.1); (case side3 => repeat (first | exact (Kd.R_reads' HO11.out).2.2 | (with_reducible refine Kd.C_alloc ?_ _) | (with_reducible refine Kd.C_drewN ?_ _) | (with_reducible refine Kd.C_drew ?_))); (case side4 => exact (Kd.R_reads' HO11.out).2.1)
  rintro e w11 ⟨rfl, hd⟩
  have hb := hd.below
  replace HO9 := Aside0.mk (Kd.R_below (by (with_reducible repeat (first | apply Kd.R_alloc | apply Kd.R_drewN | apply Kd.R_drew)); exact HO9.out) hb)
  replace HO11 := Aside0.mk (Kd.R_below (by (with_reducible repeat (first | apply Kd.R_alloc | apply Kd.R_drewN | apply Kd.R_drew)); exact HO11.out) hb)
  replace HB := Aside0.mk (below_step (by repeat (first | (with_reducible first | exact HB.out | apply below_alloc | apply pw_below_drewN | apply below_drew1) | exact HB.out)) hb)
  clear hd hb
  go_wp2_with (fail)
  go_ret
  exact ⟨rfl, (by repeat (first | (with_reducible first | exact HB.out | apply below_alloc | apply pw_below_drewN | apply below_drew1) | exact HB.out))⟩

end Go.Proofs.Ytihnijfgdffhjaa.GFnExactJurySide
