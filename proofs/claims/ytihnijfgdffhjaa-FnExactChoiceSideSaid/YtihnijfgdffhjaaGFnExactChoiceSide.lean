import Derived.Test.YtihnijfgdffhjaaPFnExactChoiceSidex3
import Derived.Test.YtihnijfgdffhjaaMc
namespace Go.Proofs.Ytihnijfgdffhjaa.GFnExactChoiceSide
open Go.RowKit Go.Proofs.Ytihnijfgdffhjaa.Mc Go.Proofs.Ytihnijfgdffhjaa.PFnExactChoiceSide Go.Proofs.YtihnijfgdffhjaaW.PrintWords Go.Proofs.YtihnijfgdffhjaaW.PrintLast Go.Proofs.YtihnijfgdffhjaaW.PrintMore
set_option linter.unusedVariables false
set_option linter.unusedSimpArgs false
set_option maxHeartbeats 8000000 in
set_option maxRecDepth 100000 in
theorem big0 (k : Nat) (A0_0 : Option Addr) (c0_0 : Nat) (l0_0 : List Int) (a0_1 : Int) (A1_0 : Option Addr) (c1_0 : Nat) (l1_0 : List Int) (a1_1 : Int) (A2_0 : Option Addr) (c2_0 : Nat) (l2_0 : List Int) (a2_1 : Int) (A3 : Option Addr) (c3 : Nat) (l3 : List Int)  (w : World) (hr0_0 : Kd.C (Kd.int .i64) w A0_0 l0_0.length l0_0) (hc0_0 : l0_0.length ≤ c0_0) (hr1_0 : Kd.C (Kd.int .i64) w A1_0 l1_0.length l1_0) (hc1_0 : l1_0.length ≤ c1_0) (hr2_0 : Kd.C (Kd.int .i64) w A2_0 l2_0.length l2_0) (hc2_0 : l2_0.length ≤ c2_0) (hr3 : Kd.C (Kd.int .i64) w A3 l3.length l3) (hc3 : l3.length ≤ c3)  (q0 : 1048576 < l3.length) :
    Calls Try.prog 7 #[.agg #[.slice A0_0 l0_0.length c0_0, .int .i64 a0_1], .agg #[.slice A1_0 l1_0.length c1_0, .int .i64 a1_1], .agg #[.slice A2_0 l2_0.length c2_0, .int .i64 a2_1], .slice A3 l3.length c3] w fun e w' => e = .returned (.bool true) ∧ Below w.heap.size w w' := by
  have HR0_0 := Aside0.mk hr0_0
  have HC0_0 := Aside0.mk hc0_0
  clear hr0_0 hc0_0
  have HR1_0 := Aside0.mk hr1_0
  have HC1_0 := Aside0.mk hc1_0
  clear hr1_0 hc1_0
  have HR2_0 := Aside0.mk hr2_0
  have HC2_0 := Aside0.mk hc2_0
  clear hr2_0 hc2_0
  have HR3 := Aside0.mk hr3
  have HC3 := Aside0.mk hc3
  clear hr3 hc3
  have HB := Aside0.mk (Below.refl w.heap.size w)
  have d0 : decide (1048576 < l3.length) = true := decide_eq_true (by omega)
  have e0 : decide ((l3.length : Int) > 1048576) = true := decide_eq_true (by omega)
  clear q0
  go_enter Try.func7, Try.ntmps7
  go_wp2_with (fail)
  go_ret
  exact ⟨rfl, (by repeat (first | (with_reducible first | exact HB.out | apply below_alloc | apply pw_below_drewN | apply below_drew1) | exact HB.out))⟩


set_option maxHeartbeats 8000000 in
set_option maxRecDepth 100000 in
theorem big1 (k : Nat) (A0_0 : Option Addr) (c0_0 : Nat) (l0_0 : List Int) (a0_1 : Int) (A1_0 : Option Addr) (c1_0 : Nat) (l1_0 : List Int) (a1_1 : Int) (A2_0 : Option Addr) (c2_0 : Nat) (l2_0 : List Int) (a2_1 : Int) (A3 : Option Addr) (c3 : Nat) (l3 : List Int) (r1 : Int) (w : World) (hr0_0 : Kd.C (Kd.int .i64) w A0_0 l0_0.length l0_0) (hc0_0 : l0_0.length ≤ c0_0) (hr1_0 : Kd.C (Kd.int .i64) w A1_0 l1_0.length l1_0) (hc1_0 : l1_0.length ≤ c1_0) (hr2_0 : Kd.C (Kd.int .i64) w A2_0 l2_0.length l2_0) (hc2_0 : l2_0.length ≤ c2_0) (hr3 : Kd.C (Kd.int .i64) w A3 l3.length l3) (hc3 : l3.length ≤ c3) (h1 : laws_szPlane.f l0_0 a0_1 1048576 = some r1) (q0 : l3.length ≤ 1048576) (q1 : r1 < 0) :
    Calls Try.prog 7 #[.agg #[.slice A0_0 l0_0.length c0_0, .int .i64 a0_1], .agg #[.slice A1_0 l1_0.length c1_0, .int .i64 a1_1], .agg #[.slice A2_0 l2_0.length c2_0, .int .i64 a2_1], .slice A3 l3.length c3] w fun e w' => e = .returned (.bool true) ∧ Below w.heap.size w w' := by
  have HR0_0 := Aside0.mk hr0_0
  have HC0_0 := Aside0.mk hc0_0
  clear hr0_0 hc0_0
  have HR1_0 := Aside0.mk hr1_0
  have HC1_0 := Aside0.mk hc1_0
  clear hr1_0 hc1_0
  have HR2_0 := Aside0.mk hr2_0
  have HC2_0 := Aside0.mk hc2_0
  clear hr2_0 hc2_0
  have HR3 := Aside0.mk hr3
  have HC3 := Aside0.mk hc3
  clear hr3 hc3
  have HB := Aside0.mk (Below.refl w.heap.size w)
  replace h1 := Aside0.mk h1
  have d0 : decide (1048576 < l3.length) = false := decide_eq_false (by omega)
  have e0 : decide ((l3.length : Int) > 1048576) = false := decide_eq_false (by omega)
  have d1 : decide (r1 < 0) = true := decide_eq_true (by omega)
  clear q0 q1
  go_enter Try.func7, Try.ntmps7
  go_wp2_with (fail)
  (with_reducible refine (laws_szPlane.calls _ _ l0_0 a0_1 1048576 r1 _ ?side1 ?side2 h1.out).mono ?_)
  (case side1 => repeat (first | exact (Kd.C_below HR0_0.out HB.out) | (with_reducible refine Kd.C_alloc ?_ _) | (with_reducible refine Kd.C_drewN ?_ _) | (with_reducible refine Kd.C_drew ?_))); (case side2 => exact HC0_0.out)
  rintro e w1 ⟨rfl, hb⟩
  have BK2 := Aside0.mk (blk_below (g := w.heap.size) (o := .cells #[.slice A0_0 l0_0.length c0_0, .int .i64 a0_1] 30 (0, 0)) (by repeat (first | exact blk_at _ (by first | rfl | (simp; done)) | refine blk_alloc ?_ _ | refine blk_drew ?_ | refine blk_drewN ?_ _)) hb)
  have BK3 := Aside0.mk (blk_below (g := (w.heap.size + 1)) (o := .cells #[.slice A1_0 l1_0.length c1_0, .int .i64 a1_1] 30 (0, 0)) (by repeat (first | exact blk_at _ (by first | rfl | (simp; done)) | refine blk_alloc ?_ _ | refine blk_drew ?_ | refine blk_drewN ?_ _)) hb)
  have BK4 := Aside0.mk (blk_below (g := (w.heap.size + 1 + 1)) (o := .cells #[.slice A2_0 l2_0.length c2_0, .int .i64 a2_1] 30 (0, 0)) (by repeat (first | exact blk_at _ (by first | rfl | (simp; done)) | refine blk_alloc ?_ _ | refine blk_drew ?_ | refine blk_drewN ?_ _)) hb)
  replace HB := Aside0.mk (below_step (by repeat (first | (with_reducible first | exact HB.out | apply below_alloc | apply pw_below_drewN | apply below_drew1) | exact HB.out)) hb)
  clear hb
  have hcz5 : w1.cell? ⟨(w.heap.size + 1), 0, none⟩ = some (.slice A1_0 l1_0.length c1_0) := (blk_cell BK3.out 0).trans rfl
  have hcz6 : w1.cell? ⟨(w.heap.size + 1), 1, none⟩ = some (.int .i64 a1_1) := (blk_cell BK3.out 1).trans rfl
  go_wp2_with (fail)
  go_ret
  exact ⟨rfl, (by repeat (first | (with_reducible first | exact HB.out | apply below_alloc | apply pw_below_drewN | apply below_drew1) | exact HB.out))⟩


set_option maxHeartbeats 8000000 in
set_option maxRecDepth 100000 in
theorem big2 (k : Nat) (A0_0 : Option Addr) (c0_0 : Nat) (l0_0 : List Int) (a0_1 : Int) (A1_0 : Option Addr) (c1_0 : Nat) (l1_0 : List Int) (a1_1 : Int) (A2_0 : Option Addr) (c2_0 : Nat) (l2_0 : List Int) (a2_1 : Int) (A3 : Option Addr) (c3 : Nat) (l3 : List Int) (r1 : Int) (r7 : Int) (w : World) (hr0_0 : Kd.C (Kd.int .i64) w A0_0 l0_0.length l0_0) (hc0_0 : l0_0.length ≤ c0_0) (hr1_0 : Kd.C (Kd.int .i64) w A1_0 l1_0.length l1_0) (hc1_0 : l1_0.length ≤ c1_0) (hr2_0 : Kd.C (Kd.int .i64) w A2_0 l2_0.length l2_0) (hc2_0 : l2_0.length ≤ c2_0) (hr3 : Kd.C (Kd.int .i64) w A3 l3.length l3) (hc3 : l3.length ≤ c3) (h1 : laws_szPlane.f l0_0 a0_1 1048576 = some r1) (h2 : laws_szPlane.f l1_0 a1_1 r1 = some r7) (q0 : l3.length ≤ 1048576) (q1 : 0 ≤ r1) (q2 : r7 < 0) :
    Calls Try.prog 7 #[.agg #[.slice A0_0 l0_0.length c0_0, .int .i64 a0_1], .agg #[.slice A1_0 l1_0.length c1_0, .int .i64 a1_1], .agg #[.slice A2_0 l2_0.length c2_0, .int .i64 a2_1], .slice A3 l3.length c3] w fun e w' => e = .returned (.bool true) ∧ Below w.heap.size w w' := by
  have HR0_0 := Aside0.mk hr0_0
  have HC0_0 := Aside0.mk hc0_0
  clear hr0_0 hc0_0
  have HR1_0 := Aside0.mk hr1_0
  have HC1_0 := Aside0.mk hc1_0
  clear hr1_0 hc1_0
  have HR2_0 := Aside0.mk hr2_0
  have HC2_0 := Aside0.mk hc2_0
  clear hr2_0 hc2_0
  have HR3 := Aside0.mk hr3
  have HC3 := Aside0.mk hc3
  clear hr3 hc3
  have HB := Aside0.mk (Below.refl w.heap.size w)
  replace h1 := Aside0.mk h1
  replace h2 := Aside0.mk h2
  have d0 : decide (1048576 < l3.length) = false := decide_eq_false (by omega)
  have e0 : decide ((l3.length : Int) > 1048576) = false := decide_eq_false (by omega)
  have d1 : decide (r1 < 0) = false := decide_eq_false (by omega)
  have d2 : decide (r7 < 0) = true := decide_eq_true (by omega)
  clear q0 q1 q2
  go_enter Try.func7, Try.ntmps7
  go_wp2_with (fail)
  (with_reducible refine (laws_szPlane.calls _ _ l0_0 a0_1 1048576 r1 _ ?side1 ?side2 h1.out).mono ?_)
  (case side1 => repeat (first | exact (Kd.C_below HR0_0.out HB.out) | (with_reducible refine Kd.C_alloc ?_ _) | (with_reducible refine Kd.C_drewN ?_ _) | (with_reducible refine Kd.C_drew ?_))); (case side2 => exact HC0_0.out)
  rintro e w1 ⟨rfl, hb⟩
  have BK2 := Aside0.mk (blk_below (g := w.heap.size) (o := .cells #[.slice A0_0 l0_0.length c0_0, .int .i64 a0_1] 30 (0, 0)) (by repeat (first | exact blk_at _ (by first | rfl | (simp; done)) | refine blk_alloc ?_ _ | refine blk_drew ?_ | refine blk_drewN ?_ _)) hb)
  have BK3 := Aside0.mk (blk_below (g := (w.heap.size + 1)) (o := .cells #[.slice A1_0 l1_0.length c1_0, .int .i64 a1_1] 30 (0, 0)) (by repeat (first | exact blk_at _ (by first | rfl | (simp; done)) | refine blk_alloc ?_ _ | refine blk_drew ?_ | refine blk_drewN ?_ _)) hb)
  have BK4 := Aside0.mk (blk_below (g := (w.heap.size + 1 + 1)) (o := .cells #[.slice A2_0 l2_0.length c2_0, .int .i64 a2_1] 30 (0, 0)) (by repeat (first | exact blk_at _ (by first | rfl | (simp; done)) | refine blk_alloc ?_ _ | refine blk_drew ?_ | refine blk_drewN ?_ _)) hb)
  replace HB := Aside0.mk (below_step (by repeat (first | (with_reducible first | exact HB.out | apply below_alloc | apply pw_below_drewN | apply below_drew1) | exact HB.out)) hb)
  clear hb
  have hcz5 : w1.cell? ⟨(w.heap.size + 1), 0, none⟩ = some (.slice A1_0 l1_0.length c1_0) := (blk_cell BK3.out 0).trans rfl
  have hcz6 : w1.cell? ⟨(w.heap.size + 1), 1, none⟩ = some (.int .i64 a1_1) := (blk_cell BK3.out 1).trans rfl
  go_wp2_with (fail)
  (with_reducible refine (laws_szPlane.calls _ _ l1_0 a1_1 r1 r7 _ ?side1 ?side2 h2.out).mono ?_)
  (case side1 => repeat (first | exact (Kd.C_below HR1_0.out HB.out) | (with_reducible refine Kd.C_alloc ?_ _) | (with_reducible refine Kd.C_drewN ?_ _) | (with_reducible refine Kd.C_drew ?_))); (case side2 => exact HC1_0.out)
  rintro e w2 ⟨rfl, hb⟩
  replace BK2 := Aside0.mk (blk_below (g := w.heap.size) (o := .cells #[.slice A0_0 l0_0.length c0_0, .int .i64 a0_1] 30 (0, 0)) (by (with_reducible repeat (first | refine blk_drewN ?_ _ | refine blk_drew ?_ | refine blk_alloc ?_ _)); exact BK2.out) hb)
  replace BK3 := Aside0.mk (blk_below (g := (w.heap.size + 1)) (o := .cells #[.slice A1_0 l1_0.length c1_0, .int .i64 a1_1] 30 (0, 0)) (by (with_reducible repeat (first | refine blk_drewN ?_ _ | refine blk_drew ?_ | refine blk_alloc ?_ _)); exact BK3.out) hb)
  replace BK4 := Aside0.mk (blk_below (g := (w.heap.size + 1 + 1)) (o := .cells #[.slice A2_0 l2_0.length c2_0, .int .i64 a2_1] 30 (0, 0)) (by (with_reducible repeat (first | refine blk_drewN ?_ _ | refine blk_drew ?_ | refine blk_alloc ?_ _)); exact BK4.out) hb)
  replace HB := Aside0.mk (below_step (by repeat (first | (with_reducible first | exact HB.out | apply below_alloc | apply pw_below_drewN | apply below_drew1) | exact HB.out)) hb)
  clear hb
  clear hcz5 hcz6
  have hcz8 : w2.cell? ⟨(w.heap.size + 1 + 1), 0, none⟩ = some (.slice A2_0 l2_0.length c2_0) := (blk_cell BK4.out 0).trans rfl
  have hcz9 : w2.cell? ⟨(w.heap.size + 1 + 1), 1, none⟩ = some (.int .i64 a2_1) := (blk_cell BK4.out 1).trans rfl
  go_wp2_with (fail)
  go_ret
  exact ⟨rfl, (by repeat (first | (with_reducible first | exact HB.out | apply below_alloc | apply pw_below_drewN | apply below_drew1) | exact HB.out))⟩


set_option maxHeartbeats 8000000 in
set_option maxRecDepth 100000 in
theorem big3 (k : Nat) (A0_0 : Option Addr) (c0_0 : Nat) (l0_0 : List Int) (a0_1 : Int) (A1_0 : Option Addr) (c1_0 : Nat) (l1_0 : List Int) (a1_1 : Int) (A2_0 : Option Addr) (c2_0 : Nat) (l2_0 : List Int) (a2_1 : Int) (A3 : Option Addr) (c3 : Nat) (l3 : List Int) (r1 : Int) (r7 : Int) (r10 : Int) (w : World) (hr0_0 : Kd.C (Kd.int .i64) w A0_0 l0_0.length l0_0) (hc0_0 : l0_0.length ≤ c0_0) (hr1_0 : Kd.C (Kd.int .i64) w A1_0 l1_0.length l1_0) (hc1_0 : l1_0.length ≤ c1_0) (hr2_0 : Kd.C (Kd.int .i64) w A2_0 l2_0.length l2_0) (hc2_0 : l2_0.length ≤ c2_0) (hr3 : Kd.C (Kd.int .i64) w A3 l3.length l3) (hc3 : l3.length ≤ c3) (h1 : laws_szPlane.f l0_0 a0_1 1048576 = some r1) (h2 : laws_szPlane.f l1_0 a1_1 r1 = some r7) (h3 : laws_szPlane.f l2_0 a2_1 r7 = some r10) (q0 : l3.length ≤ 1048576) (q1 : 0 ≤ r1) (q2 : 0 ≤ r7) (q3 : r10 < 0) :
    Calls Try.prog 7 #[.agg #[.slice A0_0 l0_0.length c0_0, .int .i64 a0_1], .agg #[.slice A1_0 l1_0.length c1_0, .int .i64 a1_1], .agg #[.slice A2_0 l2_0.length c2_0, .int .i64 a2_1], .slice A3 l3.length c3] w fun e w' => e = .returned (.bool true) ∧ Below w.heap.size w w' := by
  have HR0_0 := Aside0.mk hr0_0
  have HC0_0 := Aside0.mk hc0_0
  clear hr0_0 hc0_0
  have HR1_0 := Aside0.mk hr1_0
  have HC1_0 := Aside0.mk hc1_0
  clear hr1_0 hc1_0
  have HR2_0 := Aside0.mk hr2_0
  have HC2_0 := Aside0.mk hc2_0
  clear hr2_0 hc2_0
  have HR3 := Aside0.mk hr3
  have HC3 := Aside0.mk hc3
  clear hr3 hc3
  have HB := Aside0.mk (Below.refl w.heap.size w)
  replace h1 := Aside0.mk h1
  replace h2 := Aside0.mk h2
  replace h3 := Aside0.mk h3
  have d0 : decide (1048576 < l3.length) = false := decide_eq_false (by omega)
  have e0 : decide ((l3.length : Int) > 1048576) = false := decide_eq_false (by omega)
  have d1 : decide (r1 < 0) = false := decide_eq_false (by omega)
  have d2 : decide (r7 < 0) = false := decide_eq_false (by omega)
  have d3 : decide (r10 < 0) = true := decide_eq_true (by omega)
  clear q0 q1 q2 q3
  go_enter Try.func7, Try.ntmps7
  go_wp2_with (fail)
  (with_reducible refine (laws_szPlane.calls _ _ l0_0 a0_1 1048576 r1 _ ?side1 ?side2 h1.out).mono ?_)
  (case side1 => repeat (first | exact (Kd.C_below HR0_0.out HB.out) | (with_reducible refine Kd.C_alloc ?_ _) | (with_reducible refine Kd.C_drewN ?_ _) | (with_reducible refine Kd.C_drew ?_))); (case side2 => exact HC0_0.out)
  rintro e w1 ⟨rfl, hb⟩
  have BK2 := Aside0.mk (blk_below (g := w.heap.size) (o := .cells #[.slice A0_0 l0_0.length c0_0, .int .i64 a0_1] 30 (0, 0)) (by repeat (first | exact blk_at _ (by first | rfl | (simp; done)) | refine blk_alloc ?_ _ | refine blk_drew ?_ | refine blk_drewN ?_ _)) hb)
  have BK3 := Aside0.mk (blk_below (g := (w.heap.size + 1)) (o := .cells #[.slice A1_0 l1_0.length c1_0, .int .i64 a1_1] 30 (0, 0)) (by repeat (first | exact blk_at _ (by first | rfl | (simp; done)) | refine blk_alloc ?_ _ | refine blk_drew ?_ | refine blk_drewN ?_ _)) hb)
  have BK4 := Aside0.mk (blk_below (g := (w.heap.size + 1 + 1)) (o := .cells #[.slice A2_0 l2_0.length c2_0, .int .i64 a2_1] 30 (0, 0)) (by repeat (first | exact blk_at _ (by first | rfl | (simp; done)) | refine blk_alloc ?_ _ | refine blk_drew ?_ | refine blk_drewN ?_ _)) hb)
  replace HB := Aside0.mk (below_step (by repeat (first | (with_reducible first | exact HB.out | apply below_alloc | apply pw_below_drewN | apply below_drew1) | exact HB.out)) hb)
  clear hb
  have hcz5 : w1.cell? ⟨(w.heap.size + 1), 0, none⟩ = some (.slice A1_0 l1_0.length c1_0) := (blk_cell BK3.out 0).trans rfl
  have hcz6 : w1.cell? ⟨(w.heap.size + 1), 1, none⟩ = some (.int .i64 a1_1) := (blk_cell BK3.out 1).trans rfl
  go_wp2_with (fail)
  (with_reducible refine (laws_szPlane.calls _ _ l1_0 a1_1 r1 r7 _ ?side1 ?side2 h2.out).mono ?_)
  (case side1 => repeat (first | exact (Kd.C_below HR1_0.out HB.out) | (with_reducible refine Kd.C_alloc ?_ _) | (with_reducible refine Kd.C_drewN ?_ _) | (with_reducible refine Kd.C_drew ?_))); (case side2 => exact HC1_0.out)
  rintro e w2 ⟨rfl, hb⟩
  replace BK2 := Aside0.mk (blk_below (g := w.heap.size) (o := .cells #[.slice A0_0 l0_0.length c0_0, .int .i64 a0_1] 30 (0, 0)) (by (with_reducible repeat (first | refine blk_drewN ?_ _ | refine blk_drew ?_ | refine blk_alloc ?_ _)); exact BK2.out) hb)
  replace BK3 := Aside0.mk (blk_below (g := (w.heap.size + 1)) (o := .cells #[.slice A1_0 l1_0.length c1_0, .int .i64 a1_1] 30 (0, 0)) (by (with_reducible repeat (first | refine blk_drewN ?_ _ | refine blk_drew ?_ | refine blk_alloc ?_ _)); exact BK3.out) hb)
  replace BK4 := Aside0.mk (blk_below (g := (w.heap.size + 1 + 1)) (o := .cells #[.slice A2_0 l2_0.length c2_0, .int .i64 a2_1] 30 (0, 0)) (by (with_reducible repeat (first | refine blk_drewN ?_ _ | refine blk_drew ?_ | refine blk_alloc ?_ _)); exact BK4.out) hb)
  replace HB := Aside0.mk (below_step (by repeat (first | (with_reducible first | exact HB.out | apply below_alloc | apply pw_below_drewN | apply below_drew1) | exact HB.out)) hb)
  clear hb
  clear hcz5 hcz6
  have hcz8 : w2.cell? ⟨(w.heap.size + 1 + 1), 0, none⟩ = some (.slice A2_0 l2_0.length c2_0) := (blk_cell BK4.out 0).trans rfl
  have hcz9 : w2.cell? ⟨(w.heap.size + 1 + 1), 1, none⟩ = some (.int .i64 a2_1) := (blk_cell BK4.out 1).trans rfl
  go_wp2_with (fail)
  (with_reducible refine (laws_szPlane.calls _ _ l2_0 a2_1 r7 r10 _ ?side1 ?side2 h3.out).mono ?_)
  (case side1 => repeat (first | exact (Kd.C_below HR2_0.out HB.out) | (with_reducible refine Kd.C_alloc ?_ _) | (with_reducible refine Kd.C_drewN ?_ _) | (with_reducible refine Kd.C_drew ?_))); (case side2 => exact HC2_0.out)
  rintro e w3 ⟨rfl, hb⟩
  replace BK2 := Aside0.mk (blk_below (g := w.heap.size) (o := .cells #[.slice A0_0 l0_0.length c0_0, .int .i64 a0_1] 30 (0, 0)) (by (with_reducible repeat (first | refine blk_drewN ?_ _ | refine blk_drew ?_ | refine blk_alloc ?_ _)); exact BK2.out) hb)
  replace BK3 := Aside0.mk (blk_below (g := (w.heap.size + 1)) (o := .cells #[.slice A1_0 l1_0.length c1_0, .int .i64 a1_1] 30 (0, 0)) (by (with_reducible repeat (first | refine blk_drewN ?_ _ | refine blk_drew ?_ | refine blk_alloc ?_ _)); exact BK3.out) hb)
  replace BK4 := Aside0.mk (blk_below (g := (w.heap.size + 1 + 1)) (o := .cells #[.slice A2_0 l2_0.length c2_0, .int .i64 a2_1] 30 (0, 0)) (by (with_reducible repeat (first | refine blk_drewN ?_ _ | refine blk_drew ?_ | refine blk_alloc ?_ _)); exact BK4.out) hb)
  replace HB := Aside0.mk (below_step (by repeat (first | (with_reducible first | exact HB.out | apply below_alloc | apply pw_below_drewN | apply below_drew1) | exact HB.out)) hb)
  clear hb
  clear hcz8 hcz9
  go_wp2_with (fail)
  go_ret
  exact ⟨rfl, (by repeat (first | (with_reducible first | exact HB.out | apply below_alloc | apply pw_below_drewN | apply below_drew1) | exact HB.out))⟩


set_option maxHeartbeats 8000000 in
set_option maxRecDepth 100000 in
theorem good (k : Nat) (A0_0 : Option Addr) (c0_0 : Nat) (l0_0 : List Int) (a0_1 : Int) (A1_0 : Option Addr) (c1_0 : Nat) (l1_0 : List Int) (a1_1 : Int) (A2_0 : Option Addr) (c2_0 : Nat) (l2_0 : List Int) (a2_1 : Int) (A3 : Option Addr) (c3 : Nat) (l3 : List Int) (r1 : Int) (r7 : Int) (r10 : Int) (r11 : List Int) (r12 : Int) (r14 : List Int) (r15 : Int) (r17 : List Int) (r18 : Int) (r20 : List Int) (r22 : Int) (r23 : Bool) (w : World) (hr0_0 : Kd.C (Kd.int .i64) w A0_0 l0_0.length l0_0) (hc0_0 : l0_0.length ≤ c0_0) (hr1_0 : Kd.C (Kd.int .i64) w A1_0 l1_0.length l1_0) (hc1_0 : l1_0.length ≤ c1_0) (hr2_0 : Kd.C (Kd.int .i64) w A2_0 l2_0.length l2_0) (hc2_0 : l2_0.length ≤ c2_0) (hr3 : Kd.C (Kd.int .i64) w A3 l3.length l3) (hc3 : l3.length ≤ c3) (h1 : laws_szPlane.f l0_0 a0_1 1048576 = some r1) (h2 : laws_szPlane.f l1_0 a1_1 r1 = some r7) (h3 : laws_szPlane.f l2_0 a2_1 r7 = some r10) (h4 : laws_toPlane.f k l0_0 a0_1 = some (r11, r12)) (h5 : laws_toPlane.f k l1_0 a1_1 = some (r14, r15)) (h6 : laws_toPlane.f k l2_0 a2_1 = some (r17, r18)) (h7 : laws_toIntS.f k l3 = some r20) (h8 : spec_ChoiceSide.f k r11 r12 r14 r15 r17 r18 r20 = some (r22, r23)) (h9 : impl_ChoiceSide.f k r11 r12 r14 r15 r17 r18 r20 = some (r22, r23)) (h10 : laws_eqPlane.f k r11 r12 r11 r12 = some true) (h11 : laws_eqPlane.f k r14 r15 r14 r15 = some true) (h12 : laws_eqPlane.f k r17 r18 r17 r18 = some true) (h13 : laws_eqIntS.f k r20 r20 = some true) (q0 : l3.length ≤ 1048576) (q1 : 0 ≤ r1) (q2 : 0 ≤ r7) (q3 : 0 ≤ r10) :
    Calls Try.prog 7 #[.agg #[.slice A0_0 l0_0.length c0_0, .int .i64 a0_1], .agg #[.slice A1_0 l1_0.length c1_0, .int .i64 a1_1], .agg #[.slice A2_0 l2_0.length c2_0, .int .i64 a2_1], .slice A3 l3.length c3] w fun e w' => e = .returned (.bool true) ∧ Below w.heap.size w w' := by
  have HR0_0 := Aside0.mk hr0_0
  have HC0_0 := Aside0.mk hc0_0
  clear hr0_0 hc0_0
  have HR1_0 := Aside0.mk hr1_0
  have HC1_0 := Aside0.mk hc1_0
  clear hr1_0 hc1_0
  have HR2_0 := Aside0.mk hr2_0
  have HC2_0 := Aside0.mk hc2_0
  clear hr2_0 hc2_0
  have HR3 := Aside0.mk hr3
  have HC3 := Aside0.mk hc3
  clear hr3 hc3
  have HB := Aside0.mk (Below.refl w.heap.size w)
  replace h1 := Aside0.mk h1
  replace h2 := Aside0.mk h2
  replace h3 := Aside0.mk h3
  replace h4 := Aside0.mk h4
  replace h5 := Aside0.mk h5
  replace h6 := Aside0.mk h6
  replace h7 := Aside0.mk h7
  replace h8 := Aside0.mk h8
  replace h9 := Aside0.mk h9
  replace h10 := Aside0.mk h10
  replace h11 := Aside0.mk h11
  replace h12 := Aside0.mk h12
  replace h13 := Aside0.mk h13
  have d0 : decide (1048576 < l3.length) = false := decide_eq_false (by omega)
  have e0 : decide ((l3.length : Int) > 1048576) = false := decide_eq_false (by omega)
  have d1 : decide (r1 < 0) = false := decide_eq_false (by omega)
  have d2 : decide (r7 < 0) = false := decide_eq_false (by omega)
  have d3 : decide (r10 < 0) = false := decide_eq_false (by omega)
  clear q0 q1 q2 q3
  go_enter Try.func7, Try.ntmps7
  go_wp2_with (fail)
  (with_reducible refine (laws_szPlane.calls _ _ l0_0 a0_1 1048576 r1 _ ?side1 ?side2 h1.out).mono ?_)
  (case side1 => repeat (first | exact (Kd.C_below HR0_0.out HB.out) | (with_reducible refine Kd.C_alloc ?_ _) | (with_reducible refine Kd.C_drewN ?_ _) | (with_reducible refine Kd.C_drew ?_))); (case side2 => exact HC0_0.out)
  rintro e w1 ⟨rfl, hb⟩
  have BK2 := Aside0.mk (blk_below (g := w.heap.size) (o := .cells #[.slice A0_0 l0_0.length c0_0, .int .i64 a0_1] 30 (0, 0)) (by repeat (first | exact blk_at _ (by first | rfl | (simp; done)) | refine blk_alloc ?_ _ | refine blk_drew ?_ | refine blk_drewN ?_ _)) hb)
  have BK3 := Aside0.mk (blk_below (g := (w.heap.size + 1)) (o := .cells #[.slice A1_0 l1_0.length c1_0, .int .i64 a1_1] 30 (0, 0)) (by repeat (first | exact blk_at _ (by first | rfl | (simp; done)) | refine blk_alloc ?_ _ | refine blk_drew ?_ | refine blk_drewN ?_ _)) hb)
  have BK4 := Aside0.mk (blk_below (g := (w.heap.size + 1 + 1)) (o := .cells #[.slice A2_0 l2_0.length c2_0, .int .i64 a2_1] 30 (0, 0)) (by repeat (first | exact blk_at _ (by first | rfl | (simp; done)) | refine blk_alloc ?_ _ | refine blk_drew ?_ | refine blk_drewN ?_ _)) hb)
  replace HB := Aside0.mk (below_step (by repeat (first | (with_reducible first | exact HB.out | apply below_alloc | apply pw_below_drewN | apply below_drew1) | exact HB.out)) hb)
  clear hb
  have hcz5 : w1.cell? ⟨(w.heap.size + 1), 0, none⟩ = some (.slice A1_0 l1_0.length c1_0) := (blk_cell BK3.out 0).trans rfl
  have hcz6 : w1.cell? ⟨(w.heap.size + 1), 1, none⟩ = some (.int .i64 a1_1) := (blk_cell BK3.out 1).trans rfl
  go_wp2_with (fail)
  (with_reducible refine (laws_szPlane.calls _ _ l1_0 a1_1 r1 r7 _ ?side1 ?side2 h2.out).mono ?_)
  (case side1 => repeat (first | exact (Kd.C_below HR1_0.out HB.out) | (with_reducible refine Kd.C_alloc ?_ _) | (with_reducible refine Kd.C_drewN ?_ _) | (with_reducible refine Kd.C_drew ?_))); (case side2 => exact HC1_0.out)
  rintro e w2 ⟨rfl, hb⟩
  replace BK2 := Aside0.mk (blk_below (g := w.heap.size) (o := .cells #[.slice A0_0 l0_0.length c0_0, .int .i64 a0_1] 30 (0, 0)) (by (with_reducible repeat (first | refine blk_drewN ?_ _ | refine blk_drew ?_ | refine blk_alloc ?_ _)); exact BK2.out) hb)
  replace BK3 := Aside0.mk (blk_below (g := (w.heap.size + 1)) (o := .cells #[.slice A1_0 l1_0.length c1_0, .int .i64 a1_1] 30 (0, 0)) (by (with_reducible repeat (first | refine blk_drewN ?_ _ | refine blk_drew ?_ | refine blk_alloc ?_ _)); exact BK3.out) hb)
  replace BK4 := Aside0.mk (blk_below (g := (w.heap.size + 1 + 1)) (o := .cells #[.slice A2_0 l2_0.length c2_0, .int .i64 a2_1] 30 (0, 0)) (by (with_reducible repeat (first | refine blk_drewN ?_ _ | refine blk_drew ?_ | refine blk_alloc ?_ _)); exact BK4.out) hb)
  replace HB := Aside0.mk (below_step (by repeat (first | (with_reducible first | exact HB.out | apply below_alloc | apply pw_below_drewN | apply below_drew1) | exact HB.out)) hb)
  clear hb
  clear hcz5 hcz6
  have hcz8 : w2.cell? ⟨(w.heap.size + 1 + 1), 0, none⟩ = some (.slice A2_0 l2_0.length c2_0) := (blk_cell BK4.out 0).trans rfl
  have hcz9 : w2.cell? ⟨(w.heap.size + 1 + 1), 1, none⟩ = some (.int .i64 a2_1) := (blk_cell BK4.out 1).trans rfl
  go_wp2_with (fail)
  (with_reducible refine (laws_szPlane.calls _ _ l2_0 a2_1 r7 r10 _ ?side1 ?side2 h3.out).mono ?_)
  (case side1 => repeat (first | exact (Kd.C_below HR2_0.out HB.out) | (with_reducible refine Kd.C_alloc ?_ _) | (with_reducible refine Kd.C_drewN ?_ _) | (with_reducible refine Kd.C_drew ?_))); (case side2 => exact HC2_0.out)
  rintro e w3 ⟨rfl, hb⟩
  replace BK2 := Aside0.mk (blk_below (g := w.heap.size) (o := .cells #[.slice A0_0 l0_0.length c0_0, .int .i64 a0_1] 30 (0, 0)) (by (with_reducible repeat (first | refine blk_drewN ?_ _ | refine blk_drew ?_ | refine blk_alloc ?_ _)); exact BK2.out) hb)
  replace BK3 := Aside0.mk (blk_below (g := (w.heap.size + 1)) (o := .cells #[.slice A1_0 l1_0.length c1_0, .int .i64 a1_1] 30 (0, 0)) (by (with_reducible repeat (first | refine blk_drewN ?_ _ | refine blk_drew ?_ | refine blk_alloc ?_ _)); exact BK3.out) hb)
  replace BK4 := Aside0.mk (blk_below (g := (w.heap.size + 1 + 1)) (o := .cells #[.slice A2_0 l2_0.length c2_0, .int .i64 a2_1] 30 (0, 0)) (by (with_reducible repeat (first | refine blk_drewN ?_ _ | refine blk_drew ?_ | refine blk_alloc ?_ _)); exact BK4.out) hb)
  replace HB := Aside0.mk (below_step (by repeat (first | (with_reducible first | exact HB.out | apply below_alloc | apply pw_below_drewN | apply below_drew1) | exact HB.out)) hb)
  clear hb
  clear hcz8 hcz9
  go_wp2_with (fail)
  replace BK2 := Aside0.mk (blk_drew BK2.out)
  replace BK3 := Aside0.mk (blk_drew BK3.out)
  replace BK4 := Aside0.mk (blk_drew BK4.out)
  replace HB := Aside0.mk (below_drew1 HB.out)
  refine start_ (n := 14) (S := fun w' => w'.cell? ⟨w.heap.size, 0, none⟩ = some (.slice A0_0 l0_0.length c0_0) ∧ w'.cell? ⟨w.heap.size, 1, none⟩ = some (.int .i64 a0_1) ∧ w'.cell? ⟨(w.heap.size + 1), 0, none⟩ = some (.slice A1_0 l1_0.length c1_0) ∧ w'.cell? ⟨(w.heap.size + 1), 1, none⟩ = some (.int .i64 a1_1) ∧ w'.cell? ⟨(w.heap.size + 1 + 1), 0, none⟩ = some (.slice A2_0 l2_0.length c2_0) ∧ w'.cell? ⟨(w.heap.size + 1 + 1), 1, none⟩ = some (.int .i64 a2_1)) (ds := []) #[false, false, false, false, false, false, false, false, false, false, false, false, false, false] (by kernel_rfl) rfl rfl ⟨(blk_cell BK2.out 0).trans rfl, (blk_cell BK2.out 1).trans rfl, (blk_cell BK3.out 0).trans rfl, (blk_cell BK3.out 1).trans rfl, (blk_cell BK4.out 0).trans rfl, (blk_cell BK4.out 1).trans rfl⟩ (fun hHeld => ?_)
  generalize w3.drew = w4 at HB BK2 BK3 BK4 hHeld ⊢
  refine take_ (i := 0) (N := some 37) (v := ?_) (a' := ?_) #[true, false, false, false, false, false, false, false, false, false, false, false, false, false] rfl rfl (by kernel_rfl) (fun _ _ _ h => h) (Or.inl ⟨by rfl, ?_⟩) hHeld ?_ ?_
  rotate_left
  · rintro w' ⟨s0, s1, s2, s3, s4, s5⟩
    go_simp
    with_reducible rfl
  rotate_left
  · simp only [Act.put, List.setIfInBounds_toArray, List.set_cons_zero, List.set_cons_succ, i64_w, i32_w]
    rfl
  refine take_ (i := 2) (N := some 39) (v := ?_) (a' := ?_) #[true, false, true, false, false, false, false, false, false, false, false, false, false, false] rfl rfl (by kernel_rfl) (fun _ _ _ h => h) (Or.inl ⟨by rfl, ?_⟩) hHeld ?_ ?_
  rotate_left
  · rintro w' ⟨s0, s1, s2, s3, s4, s5⟩
    go_simp
    with_reducible rfl
  rotate_left
  · simp only [Act.put, List.setIfInBounds_toArray, List.set_cons_zero, List.set_cons_succ, i64_w, i32_w]
    rfl
  refine take_ (i := 4) (N := some 41) (v := ?_) (a' := ?_) #[true, false, true, false, true, false, false, false, false, false, false, false, false, false] rfl rfl (by kernel_rfl) (fun _ _ _ h => h) (Or.inl ⟨by rfl, ?_⟩) hHeld ?_ ?_
  rotate_left
  · rintro w' ⟨s0, s1, s2, s3, s4, s5⟩
    go_simp
    with_reducible rfl
  rotate_left
  · simp only [Act.put, List.setIfInBounds_toArray, List.set_cons_zero, List.set_cons_succ, i64_w, i32_w]
    rfl
  refine pure_ (i := 6) (N := some 43) (v := ?_) (a' := ?_) #[true, false, true, false, true, false, true, false, false, false, false, false, false, false] rfl rfl (by kernel_rfl) (fun _ _ _ h => h) (Or.inl ⟨by rfl, ?_⟩) ?_ ?_
  rotate_left
  · intro w'
    go_simp
    with_reducible rfl
  rotate_left
  · simp only [Act.put, List.setIfInBounds_toArray, List.set_cons_zero, List.set_cons_succ, i64_w, i32_w]
    rfl
  refine one_ (i := 1) (N := some 38) #[true, true, true, false, true, false, true, false, false, false, false, false, false, false] rfl rfl (by kernel_rfl) (by decide) (fun K hK => ?_)
  refine goes_ Try.func23 (by kernel_rfl) rfl #[.agg #[.slice A0_0 l0_0.length c0_0, .int .i64 a0_1]] (by rfl) rfl rfl (by (try simp only [List.map_toArray, List.map_cons, List.map_nil]); first | done | rfl | (simp only [List.length_drop, List.length_take]; rfl)) ?_
  (with_reducible refine (laws_toPlane.calls k _ _ l0_0 a0_1 r11 r12 _ ?side1 ?side2 h4.out).mono ?_)
  (case side1 => repeat (first | exact (Kd.C_below HR0_0.out HB.out) | (with_reducible refine Kd.C_alloc ?_ _) | (with_reducible refine Kd.C_drewN ?_ _) | (with_reducible refine Kd.C_drew ?_))); (case side2 => exact HC0_0.out)
  rintro e w5 ⟨v13, rfl, ho0, hb⟩; refine ⟨_, rfl, ?_⟩
  replace BK2 := Aside0.mk (blk_below (g := w.heap.size) (o := .cells #[.slice A0_0 l0_0.length c0_0, .int .i64 a0_1] 30 (0, 0)) (by (with_reducible repeat (first | refine blk_drewN ?_ _ | refine blk_drew ?_ | refine blk_alloc ?_ _)); exact BK2.out) hb)
  replace BK3 := Aside0.mk (blk_below (g := (w.heap.size + 1)) (o := .cells #[.slice A1_0 l1_0.length c1_0, .int .i64 a1_1] 30 (0, 0)) (by (with_reducible repeat (first | refine blk_drewN ?_ _ | refine blk_drew ?_ | refine blk_alloc ?_ _)); exact BK3.out) hb)
  replace BK4 := Aside0.mk (blk_below (g := (w.heap.size + 1 + 1)) (o := .cells #[.slice A2_0 l2_0.length c2_0, .int .i64 a2_1] 30 (0, 0)) (by (with_reducible repeat (first | refine blk_drewN ?_ _ | refine blk_drew ?_ | refine blk_alloc ?_ _)); exact BK4.out) hb)
  replace HB := Aside0.mk (below_step (by repeat (first | (with_reducible first | exact HB.out | apply below_alloc | apply pw_below_drewN | apply below_drew1) | exact HB.out)) hb)
  have HO13 := Aside0.mk ho0
  clear hb ho0
  obtain ⟨Ao13, co13, eo13⟩ := Kd.R_slice HO13.out
  subst eo13
  refine hK.out _ _ ⟨(blk_cell BK2.out 0).trans rfl, (blk_cell BK2.out 1).trans rfl, (blk_cell BK3.out 0).trans rfl, (blk_cell BK3.out 1).trans rfl, (blk_cell BK4.out 0).trans rfl, (blk_cell BK4.out 1).trans rfl⟩ (fun hHeld => ?_)
  clear hK K
  refine norm_ (a' := ?_) ?_ ?_
  rotate_left
  · show Act.put _ (some 38) _ = _
    simp only [Act.put, List.setIfInBounds_toArray, List.set_cons_zero, List.set_cons_succ, i64_w, i32_w]
    rfl
  refine one_ (i := 3) (N := some 40) #[true, true, true, true, true, false, true, false, false, false, false, false, false, false] rfl rfl (by kernel_rfl) (by decide) (fun K hK => ?_)
  refine goes_ Try.func23 (by kernel_rfl) rfl #[.agg #[.slice A1_0 l1_0.length c1_0, .int .i64 a1_1]] (by rfl) rfl rfl (by (try simp only [List.map_toArray, List.map_cons, List.map_nil]); first | done | rfl | (simp only [List.length_drop, List.length_take]; rfl)) ?_
  (with_reducible refine (laws_toPlane.calls k _ _ l1_0 a1_1 r14 r15 _ ?side1 ?side2 h5.out).mono ?_)
  (case side1 => repeat (first | exact (Kd.C_below HR1_0.out HB.out) | (with_reducible refine Kd.C_alloc ?_ _) | (with_reducible refine Kd.C_drewN ?_ _) | (with_reducible refine Kd.C_drew ?_))); (case side2 => exact HC1_0.out)
  rintro e w6 ⟨v16, rfl, ho0, hb⟩; refine ⟨_, rfl, ?_⟩
  replace HO13 := Aside0.mk (Kd.R_below (by (with_reducible repeat (first | apply Kd.R_alloc | apply Kd.R_drewN | apply Kd.R_drew)); exact HO13.out) hb)
  replace BK2 := Aside0.mk (blk_below (g := w.heap.size) (o := .cells #[.slice A0_0 l0_0.length c0_0, .int .i64 a0_1] 30 (0, 0)) (by (with_reducible repeat (first | refine blk_drewN ?_ _ | refine blk_drew ?_ | refine blk_alloc ?_ _)); exact BK2.out) hb)
  replace BK3 := Aside0.mk (blk_below (g := (w.heap.size + 1)) (o := .cells #[.slice A1_0 l1_0.length c1_0, .int .i64 a1_1] 30 (0, 0)) (by (with_reducible repeat (first | refine blk_drewN ?_ _ | refine blk_drew ?_ | refine blk_alloc ?_ _)); exact BK3.out) hb)
  replace BK4 := Aside0.mk (blk_below (g := (w.heap.size + 1 + 1)) (o := .cells #[.slice A2_0 l2_0.length c2_0, .int .i64 a2_1] 30 (0, 0)) (by (with_reducible repeat (first | refine blk_drewN ?_ _ | refine blk_drew ?_ | refine blk_alloc ?_ _)); exact BK4.out) hb)
  replace HB := Aside0.mk (below_step (by repeat (first | (with_reducible first | exact HB.out | apply below_alloc | apply pw_below_drewN | apply below_drew1) | exact HB.out)) hb)
  have HO16 := Aside0.mk ho0
  clear hb ho0
  obtain ⟨Ao16, co16, eo16⟩ := Kd.R_slice HO16.out
  subst eo16
  refine hK.out _ _ ⟨(blk_cell BK2.out 0).trans rfl, (blk_cell BK2.out 1).trans rfl, (blk_cell BK3.out 0).trans rfl, (blk_cell BK3.out 1).trans rfl, (blk_cell BK4.out 0).trans rfl, (blk_cell BK4.out 1).trans rfl⟩ (fun hHeld => ?_)
  clear hK K
  refine norm_ (a' := ?_) ?_ ?_
  rotate_left
  · show Act.put _ (some 40) _ = _
    simp only [Act.put, List.setIfInBounds_toArray, List.set_cons_zero, List.set_cons_succ, i64_w, i32_w]
    rfl
  refine one_ (i := 5) (N := some 42) #[true, true, true, true, true, true, true, false, false, false, false, false, false, false] rfl rfl (by kernel_rfl) (by decide) (fun K hK => ?_)
  refine goes_ Try.func23 (by kernel_rfl) rfl #[.agg #[.slice A2_0 l2_0.length c2_0, .int .i64 a2_1]] (by rfl) rfl rfl (by (try simp only [List.map_toArray, List.map_cons, List.map_nil]); first | done | rfl | (simp only [List.length_drop, List.length_take]; rfl)) ?_
  (with_reducible refine (laws_toPlane.calls k _ _ l2_0 a2_1 r17 r18 _ ?side1 ?side2 h6.out).mono ?_)
  (case side1 => repeat (first | exact (Kd.C_below HR2_0.out HB.out) | (with_reducible refine Kd.C_alloc ?_ _) | (with_reducible refine Kd.C_drewN ?_ _) | (with_reducible refine Kd.C_drew ?_))); (case side2 => exact HC2_0.out)
  rintro e w7 ⟨v19, rfl, ho0, hb⟩; refine ⟨_, rfl, ?_⟩
  replace HO13 := Aside0.mk (Kd.R_below (by (with_reducible repeat (first | apply Kd.R_alloc | apply Kd.R_drewN | apply Kd.R_drew)); exact HO13.out) hb)
  replace HO16 := Aside0.mk (Kd.R_below (by (with_reducible repeat (first | apply Kd.R_alloc | apply Kd.R_drewN | apply Kd.R_drew)); exact HO16.out) hb)
  replace BK2 := Aside0.mk (blk_below (g := w.heap.size) (o := .cells #[.slice A0_0 l0_0.length c0_0, .int .i64 a0_1] 30 (0, 0)) (by (with_reducible repeat (first | refine blk_drewN ?_ _ | refine blk_drew ?_ | refine blk_alloc ?_ _)); exact BK2.out) hb)
  replace BK3 := Aside0.mk (blk_below (g := (w.heap.size + 1)) (o := .cells #[.slice A1_0 l1_0.length c1_0, .int .i64 a1_1] 30 (0, 0)) (by (with_reducible repeat (first | refine blk_drewN ?_ _ | refine blk_drew ?_ | refine blk_alloc ?_ _)); exact BK3.out) hb)
  replace BK4 := Aside0.mk (blk_below (g := (w.heap.size + 1 + 1)) (o := .cells #[.slice A2_0 l2_0.length c2_0, .int .i64 a2_1] 30 (0, 0)) (by (with_reducible repeat (first | refine blk_drewN ?_ _ | refine blk_drew ?_ | refine blk_alloc ?_ _)); exact BK4.out) hb)
  replace HB := Aside0.mk (below_step (by repeat (first | (with_reducible first | exact HB.out | apply below_alloc | apply pw_below_drewN | apply below_drew1) | exact HB.out)) hb)
  have HO19 := Aside0.mk ho0
  clear hb ho0
  obtain ⟨Ao19, co19, eo19⟩ := Kd.R_slice HO19.out
  subst eo19
  refine hK.out _ _ ⟨(blk_cell BK2.out 0).trans rfl, (blk_cell BK2.out 1).trans rfl, (blk_cell BK3.out 0).trans rfl, (blk_cell BK3.out 1).trans rfl, (blk_cell BK4.out 0).trans rfl, (blk_cell BK4.out 1).trans rfl⟩ (fun hHeld => ?_)
  clear hK K
  refine norm_ (a' := ?_) ?_ ?_
  rotate_left
  · show Act.put _ (some 42) _ = _
    simp only [Act.put, List.setIfInBounds_toArray, List.set_cons_zero, List.set_cons_succ, i64_w, i32_w]
    rfl
  refine one_ (i := 7) (N := some 44) #[true, true, true, true, true, true, true, true, false, false, false, false, false, false] rfl rfl (by kernel_rfl) (by decide) (fun K hK => ?_)
  refine goes_ Try.func16 (by kernel_rfl) rfl #[.slice A3 l3.length c3] (by rfl) rfl rfl (by (try simp only [List.map_toArray, List.map_cons, List.map_nil]); first | done | rfl | (simp only [List.length_drop, List.length_take]; rfl)) ?_
  (with_reducible refine (laws_toIntS.calls k _ _ l3 r20 _ ?side1 ?side2 h7.out).mono ?_)
  (case side1 => repeat (first | exact (Kd.C_below HR3.out HB.out) | (with_reducible refine Kd.C_alloc ?_ _) | (with_reducible refine Kd.C_drewN ?_ _) | (with_reducible refine Kd.C_drew ?_))); (case side2 => exact HC3.out)
  rintro e w8 ⟨v21, rfl, ho0, hb⟩; refine ⟨_, rfl, ?_⟩
  replace HO13 := Aside0.mk (Kd.R_below (by (with_reducible repeat (first | apply Kd.R_alloc | apply Kd.R_drewN | apply Kd.R_drew)); exact HO13.out) hb)
  replace HO16 := Aside0.mk (Kd.R_below (by (with_reducible repeat (first | apply Kd.R_alloc | apply Kd.R_drewN | apply Kd.R_drew)); exact HO16.out) hb)
  replace HO19 := Aside0.mk (Kd.R_below (by (with_reducible repeat (first | apply Kd.R_alloc | apply Kd.R_drewN | apply Kd.R_drew)); exact HO19.out) hb)
  replace BK2 := Aside0.mk (blk_below (g := w.heap.size) (o := .cells #[.slice A0_0 l0_0.length c0_0, .int .i64 a0_1] 30 (0, 0)) (by (with_reducible repeat (first | refine blk_drewN ?_ _ | refine blk_drew ?_ | refine blk_alloc ?_ _)); exact BK2.out) hb)
  replace BK3 := Aside0.mk (blk_below (g := (w.heap.size + 1)) (o := .cells #[.slice A1_0 l1_0.length c1_0, .int .i64 a1_1] 30 (0, 0)) (by (with_reducible repeat (first | refine blk_drewN ?_ _ | refine blk_drew ?_ | refine blk_alloc ?_ _)); exact BK3.out) hb)
  replace BK4 := Aside0.mk (blk_below (g := (w.heap.size + 1 + 1)) (o := .cells #[.slice A2_0 l2_0.length c2_0, .int .i64 a2_1] 30 (0, 0)) (by (with_reducible repeat (first | refine blk_drewN ?_ _ | refine blk_drew ?_ | refine blk_alloc ?_ _)); exact BK4.out) hb)
  replace HB := Aside0.mk (below_step (by repeat (first | (with_reducible first | exact HB.out | apply below_alloc | apply pw_below_drewN | apply below_drew1) | exact HB.out)) hb)
  have HO21 := Aside0.mk ho0
  clear hb ho0
  obtain ⟨Ao21, co21, eo21⟩ := Kd.R_slice HO21.out
  subst eo21
  refine hK.out _ _ ⟨(blk_cell BK2.out 0).trans rfl, (blk_cell BK2.out 1).trans rfl, (blk_cell BK3.out 0).trans rfl, (blk_cell BK3.out 1).trans rfl, (blk_cell BK4.out 0).trans rfl, (blk_cell BK4.out 1).trans rfl⟩ (fun hHeld => ?_)
  clear hK K
  refine norm_ (a' := ?_) ?_ ?_
  rotate_left
  · show Act.put _ (some 44) _ = _
    simp only [Act.put, List.setIfInBounds_toArray, List.set_cons_zero, List.set_cons_succ, i64_w, i32_w]
    rfl
  refine one_ (i := 8) (N := some 45) #[true, true, true, true, true, true, true, true, true, false, false, false, false, false] rfl rfl (by kernel_rfl) (by decide) (fun K hK => ?_)
  refine goes_ Try.func31 (by kernel_rfl) rfl #[.agg #[.slice Ao13 r11.length co13, .int .i64 r12], .agg #[.slice Ao16 r14.length co16, .int .i64 r15], .agg #[.slice Ao19 r17.length co19, .int .i64 r18], .slice Ao21 r20.length co21] (by rfl) rfl rfl (by (try simp only [List.map_toArray, List.map_cons, List.map_nil]); first | done | rfl | (simp only [List.length_drop, List.length_take]; rfl)) ?_
  (with_reducible refine (spec_ChoiceSide.calls k _ _ r11 r12 _ _ r14 r15 _ _ r17 r18 _ _ r20 r22 r23 _ ?side1 ?side2 ?side3 ?side4 ?side5 ?side6 ?side7 ?side8 h8.out).mono ?_)
  (case side1 => repeat (first | exact (Kd.R_reads' HO13.out).2.2 | (with_reducible refine Kd.C_alloc ?_ _) | (with_reducible refine Kd.C_drewN ?_ _) | (with_reducible refine Kd.C_drew ?_))); (case side2 => exact (Kd.R_reads' HO13.out).2.1); (case side3 => repeat (first | exact (Kd.R_reads' HO16.out).2.2 | (with_reducible refine Kd.C_alloc ?_ _) | (with_reducible refine Kd.C_drewN ?_ _) | (with_reducible refine Kd.C_drew ?_))); (case side4 => exact (Kd.R_reads' HO16.out).2.1); (case side5 => repeat (first | exact (Kd.R_reads' HO19.out).2.2 | (with_reducible refine Kd.C_alloc ?_ _) | (with_reducible refine Kd.C_drewN ?_ _) | (with_reducible refine Kd.C_drew ?_))); (case side6 => exact (Kd.R_reads' HO19.out).2.1); (case side7 => repeat (first | exact (Kd.R_reads' HO21.out).2.2 | (with_reducible refine Kd.C_alloc ?_ _) | (with_reducible refine Kd.C_drewN ?_ _) | (with_reducible refine Kd.C_drew ?_))); (case side8 => exact (Kd.R_reads' HO21.out).2.1)
  rintro e w9 ⟨rfl, hb⟩; refine ⟨_, rfl, ?_⟩
  replace HO13 := Aside0.mk (Kd.R_below (by (with_reducible repeat (first | apply Kd.R_alloc | apply Kd.R_drewN | apply Kd.R_drew)); exact HO13.out) hb)
  replace HO16 := Aside0.mk (Kd.R_below (by (with_reducible repeat (first | apply Kd.R_alloc | apply Kd.R_drewN | apply Kd.R_drew)); exact HO16.out) hb)
  replace HO19 := Aside0.mk (Kd.R_below (by (with_reducible repeat (first | apply Kd.R_alloc | apply Kd.R_drewN | apply Kd.R_drew)); exact HO19.out) hb)
  replace HO21 := Aside0.mk (Kd.R_below (by (with_reducible repeat (first | apply Kd.R_alloc | apply Kd.R_drewN | apply Kd.R_drew)); exact HO21.out) hb)
  replace BK2 := Aside0.mk (blk_below (g := w.heap.size) (o := .cells #[.slice A0_0 l0_0.length c0_0, .int .i64 a0_1] 30 (0, 0)) (by (with_reducible repeat (first | refine blk_drewN ?_ _ | refine blk_drew ?_ | refine blk_alloc ?_ _)); exact BK2.out) hb)
  replace BK3 := Aside0.mk (blk_below (g := (w.heap.size + 1)) (o := .cells #[.slice A1_0 l1_0.length c1_0, .int .i64 a1_1] 30 (0, 0)) (by (with_reducible repeat (first | refine blk_drewN ?_ _ | refine blk_drew ?_ | refine blk_alloc ?_ _)); exact BK3.out) hb)
  replace BK4 := Aside0.mk (blk_below (g := (w.heap.size + 1 + 1)) (o := .cells #[.slice A2_0 l2_0.length c2_0, .int .i64 a2_1] 30 (0, 0)) (by (with_reducible repeat (first | refine blk_drewN ?_ _ | refine blk_drew ?_ | refine blk_alloc ?_ _)); exact BK4.out) hb)
  replace HB := Aside0.mk (below_step (by repeat (first | (with_reducible first | exact HB.out | apply below_alloc | apply pw_below_drewN | apply below_drew1) | exact HB.out)) hb)
  clear hb
  refine hK.out _ _ ⟨(blk_cell BK2.out 0).trans rfl, (blk_cell BK2.out 1).trans rfl, (blk_cell BK3.out 0).trans rfl, (blk_cell BK3.out 1).trans rfl, (blk_cell BK4.out 0).trans rfl, (blk_cell BK4.out 1).trans rfl⟩ (fun hHeld => ?_)
  clear hK K
  refine norm_ (a' := ?_) ?_ ?_
  rotate_left
  · show Act.put _ (some 45) _ = _
    simp only [Act.put, List.setIfInBounds_toArray, List.set_cons_zero, List.set_cons_succ, i64_w, i32_w]
    rfl
  refine pure_ (i := 9) (N := some 36) (v := ?_) (a' := ?_) #[true, true, true, true, true, true, true, true, true, true, false, false, false, false] rfl rfl (by kernel_rfl) (fun _ _ _ h => h) (Or.inl ⟨by rfl, ?_⟩) ?_ ?_
  rotate_left
  · intro w'
    go_simp
    with_reducible rfl
  rotate_left
  · simp only [Act.put, List.setIfInBounds_toArray, List.set_cons_zero, List.set_cons_succ, i64_w, i32_w]
    rfl
  refine pure_ (i := 10) (N := some 46) (v := ?_) (a' := ?_) #[true, true, true, true, true, true, true, true, true, true, true, false, false, false] rfl rfl (by kernel_rfl) (fun _ _ _ h => h) (Or.inl ⟨by rfl, ?_⟩) ?_ ?_
  rotate_left
  · intro w'
    go_simp
    with_reducible rfl
  rotate_left
  · simp only [Act.put, List.setIfInBounds_toArray, List.set_cons_zero, List.set_cons_succ, i64_w, i32_w]
    rfl
  refine pure_ (i := 11) (N := some 47) (v := ?_) (a' := ?_) #[true, true, true, true, true, true, true, true, true, true, true, true, false, false] rfl rfl (by kernel_rfl) (fun _ _ _ h => h) (Or.inl ⟨by rfl, ?_⟩) ?_ ?_
  rotate_left
  · intro w'
    go_simp
    with_reducible rfl
  rotate_left
  · simp only [Act.put, List.setIfInBounds_toArray, List.set_cons_zero, List.set_cons_succ, i64_w, i32_w]
    rfl
  refine pure_ (i := 12) (N := some 10) (v := ?_) (a' := ?_) #[true, true, true, true, true, true, true, true, true, true, true, true, true, false] rfl rfl (by kernel_rfl) (fun _ _ _ h => h) (Or.inl ⟨by rfl, ?_⟩) ?_ ?_
  rotate_left
  · intro w'
    go_simp
    with_reducible rfl
  rotate_left
  · simp only [Act.put, List.setIfInBounds_toArray, List.set_cons_zero, List.set_cons_succ, i64_w, i32_w]
    rfl
  refine pure_ (i := 13) (N := some 11) (v := ?_) (a' := ?_) #[true, true, true, true, true, true, true, true, true, true, true, true, true, true] rfl rfl (by kernel_rfl) (fun _ _ _ h => h) (Or.inl ⟨by rfl, ?_⟩) ?_ ?_
  rotate_left
  · intro w'
    go_simp
    with_reducible rfl
  rotate_left
  · simp only [Act.put, List.setIfInBounds_toArray, List.set_cons_zero, List.set_cons_succ, i64_w, i32_w]
    rfl
  refine done_ (by kernel_rfl) ?_
  have hcz24 : w9.cell? ⟨w.heap.size, 0, none⟩ = some (.slice A0_0 l0_0.length c0_0) := (blk_cell BK2.out 0).trans rfl
  have hcz25 : w9.cell? ⟨w.heap.size, 1, none⟩ = some (.int .i64 a0_1) := (blk_cell BK2.out 1).trans rfl
  go_wp2_with (fail)
  (with_reducible refine (laws_toPlane.calls k _ _ l0_0 a0_1 r11 r12 _ ?side1 ?side2 h4.out).mono ?_)
  (case side1 => repeat (first | exact (Kd.C_below HR0_0.out HB.out) | (with_reducible refine Kd.C_alloc ?_ _) | (with_reducible refine Kd.C_drewN ?_ _) | (with_reducible refine Kd.C_drew ?_))); (case side2 => exact HC0_0.out)
  rintro e w10 ⟨v26, rfl, ho0, hb⟩
  replace HO13 := Aside0.mk (Kd.R_below (by (with_reducible repeat (first | apply Kd.R_alloc | apply Kd.R_drewN | apply Kd.R_drew)); exact HO13.out) hb)
  replace HO16 := Aside0.mk (Kd.R_below (by (with_reducible repeat (first | apply Kd.R_alloc | apply Kd.R_drewN | apply Kd.R_drew)); exact HO16.out) hb)
  replace HO19 := Aside0.mk (Kd.R_below (by (with_reducible repeat (first | apply Kd.R_alloc | apply Kd.R_drewN | apply Kd.R_drew)); exact HO19.out) hb)
  replace HO21 := Aside0.mk (Kd.R_below (by (with_reducible repeat (first | apply Kd.R_alloc | apply Kd.R_drewN | apply Kd.R_drew)); exact HO21.out) hb)
  replace BK2 := Aside0.mk (blk_below (g := w.heap.size) (o := .cells #[.slice A0_0 l0_0.length c0_0, .int .i64 a0_1] 30 (0, 0)) (by (with_reducible repeat (first | refine blk_drewN ?_ _ | refine blk_drew ?_ | refine blk_alloc ?_ _)); exact BK2.out) hb)
  replace BK3 := Aside0.mk (blk_below (g := (w.heap.size + 1)) (o := .cells #[.slice A1_0 l1_0.length c1_0, .int .i64 a1_1] 30 (0, 0)) (by (with_reducible repeat (first | refine blk_drewN ?_ _ | refine blk_drew ?_ | refine blk_alloc ?_ _)); exact BK3.out) hb)
  replace BK4 := Aside0.mk (blk_below (g := (w.heap.size + 1 + 1)) (o := .cells #[.slice A2_0 l2_0.length c2_0, .int .i64 a2_1] 30 (0, 0)) (by (with_reducible repeat (first | refine blk_drewN ?_ _ | refine blk_drew ?_ | refine blk_alloc ?_ _)); exact BK4.out) hb)
  replace HB := Aside0.mk (below_step (by repeat (first | (with_reducible first | exact HB.out | apply below_alloc | apply pw_below_drewN | apply below_drew1) | exact HB.out)) hb)
  have HO26 := Aside0.mk ho0
  clear hb ho0
  obtain ⟨Ao26, co26, eo26⟩ := Kd.R_slice HO26.out
  subst eo26
  clear hcz24 hcz25
  have hne27 := blk_lt BK3.out
  have hcz28 : w10.cell? ⟨(w.heap.size + 1), 0, none⟩ = some (.slice A1_0 l1_0.length c1_0) := (blk_cell BK3.out 0).trans rfl
  have hcz29 : w10.cell? ⟨(w.heap.size + 1), 1, none⟩ = some (.int .i64 a1_1) := (blk_cell BK3.out 1).trans rfl
  go_wp2_with (fail)
  (with_reducible refine (laws_toPlane.calls k _ _ l1_0 a1_1 r14 r15 _ ?side1 ?side2 h5.out).mono ?_)
  (case side1 => repeat (first | exact (Kd.C_below HR1_0.out HB.out) | (with_reducible refine Kd.C_alloc ?_ _) | (with_reducible refine Kd.C_drewN ?_ _) | (with_reducible refine Kd.C_drew ?_))); (case side2 => exact HC1_0.out)
  rintro e w11 ⟨v30, rfl, ho0, hb⟩
  replace HO13 := Aside0.mk (Kd.R_below (by (with_reducible repeat (first | apply Kd.R_alloc | apply Kd.R_drewN | apply Kd.R_drew)); exact HO13.out) hb)
  replace HO16 := Aside0.mk (Kd.R_below (by (with_reducible repeat (first | apply Kd.R_alloc | apply Kd.R_drewN | apply Kd.R_drew)); exact HO16.out) hb)
  replace HO19 := Aside0.mk (Kd.R_below (by (with_reducible repeat (first | apply Kd.R_alloc | apply Kd.R_drewN | apply Kd.R_drew)); exact HO19.out) hb)
  replace HO21 := Aside0.mk (Kd.R_below (by (with_reducible repeat (first | apply Kd.R_alloc | apply Kd.R_drewN | apply Kd.R_drew)); exact HO21.out) hb)
  replace HO26 := Aside0.mk (Kd.R_below (by (with_reducible repeat (first | apply Kd.R_alloc | apply Kd.R_drewN | apply Kd.R_drew)); exact HO26.out) hb)
  replace BK2 := Aside0.mk (blk_below (g := w.heap.size) (o := .cells #[.slice A0_0 l0_0.length c0_0, .int .i64 a0_1] 30 (0, 0)) (by (with_reducible repeat (first | refine blk_drewN ?_ _ | refine blk_drew ?_ | refine blk_alloc ?_ _)); exact BK2.out) hb)
  replace BK3 := Aside0.mk (blk_below (g := (w.heap.size + 1)) (o := .cells #[.slice A1_0 l1_0.length c1_0, .int .i64 a1_1] 30 (0, 0)) (by (with_reducible repeat (first | refine blk_drewN ?_ _ | refine blk_drew ?_ | refine blk_alloc ?_ _)); exact BK3.out) hb)
  replace BK4 := Aside0.mk (blk_below (g := (w.heap.size + 1 + 1)) (o := .cells #[.slice A2_0 l2_0.length c2_0, .int .i64 a2_1] 30 (0, 0)) (by (with_reducible repeat (first | refine blk_drewN ?_ _ | refine blk_drew ?_ | refine blk_alloc ?_ _)); exact BK4.out) hb)
  have BK31 := Aside0.mk (blk_below (g := w10.heap.size) (o := .cells #[.slice Ao26 r11.length co26, .int .i64 r12] 33 (0, 0)) (by repeat (first | exact blk_at _ (by first | rfl | (simp; done)) | refine blk_alloc ?_ _ | refine blk_drew ?_ | refine blk_drewN ?_ _)) hb)
  replace HB := Aside0.mk (below_step (by repeat (first | (with_reducible first | exact HB.out | apply below_alloc | apply pw_below_drewN | apply below_drew1) | exact HB.out)) hb)
  have HO30 := Aside0.mk ho0
  clear hb ho0
  obtain ⟨Ao30, co30, eo30⟩ := Kd.R_slice HO30.out
  subst eo30
  clear hne27 hcz28 hcz29
  have hne32 := blk_lt BK4.out
  have hcz33 : w11.cell? ⟨(w.heap.size + 1 + 1), 0, none⟩ = some (.slice A2_0 l2_0.length c2_0) := (blk_cell BK4.out 0).trans rfl
  have hcz34 : w11.cell? ⟨(w.heap.size + 1 + 1), 1, none⟩ = some (.int .i64 a2_1) := (blk_cell BK4.out 1).trans rfl
  go_wp2_with (fail)
  (with_reducible refine (laws_toPlane.calls k _ _ l2_0 a2_1 r17 r18 _ ?side1 ?side2 h6.out).mono ?_)
  (case side1 => repeat (first | exact (Kd.C_below HR2_0.out HB.out) | (with_reducible refine Kd.C_alloc ?_ _) | (with_reducible refine Kd.C_drewN ?_ _) | (with_reducible refine Kd.C_drew ?_))); (case side2 => exact HC2_0.out)
  rintro e w12 ⟨v35, rfl, ho0, hb⟩
  replace HO13 := Aside0.mk (Kd.R_below (by (with_reducible repeat (first | apply Kd.R_alloc | apply Kd.R_drewN | apply Kd.R_drew)); exact HO13.out) hb)
  replace HO16 := Aside0.mk (Kd.R_below (by (with_reducible repeat (first | apply Kd.R_alloc | apply Kd.R_drewN | apply Kd.R_drew)); exact HO16.out) hb)
  replace HO19 := Aside0.mk (Kd.R_below (by (with_reducible repeat (first | apply Kd.R_alloc | apply Kd.R_drewN | apply Kd.R_drew)); exact HO19.out) hb)
  replace HO21 := Aside0.mk (Kd.R_below (by (with_reducible repeat (first | apply Kd.R_alloc | apply Kd.R_drewN | apply Kd.R_drew)); exact HO21.out) hb)
  replace HO26 := Aside0.mk (Kd.R_below (by (with_reducible repeat (first | apply Kd.R_alloc | apply Kd.R_drewN | apply Kd.R_drew)); exact HO26.out) hb)
  replace HO30 := Aside0.mk (Kd.R_below (by (with_reducible repeat (first | apply Kd.R_alloc | apply Kd.R_drewN | apply Kd.R_drew)); exact HO30.out) hb)
  replace BK2 := Aside0.mk (blk_below (g := w.heap.size) (o := .cells #[.slice A0_0 l0_0.length c0_0, .int .i64 a0_1] 30 (0, 0)) (by (with_reducible repeat (first | refine blk_drewN ?_ _ | refine blk_drew ?_ | refine blk_alloc ?_ _)); exact BK2.out) hb)
  replace BK3 := Aside0.mk (blk_below (g := (w.heap.size + 1)) (o := .cells #[.slice A1_0 l1_0.length c1_0, .int .i64 a1_1] 30 (0, 0)) (by (with_reducible repeat (first | refine blk_drewN ?_ _ | refine blk_drew ?_ | refine blk_alloc ?_ _)); exact BK3.out) hb)
  replace BK4 := Aside0.mk (blk_below (g := (w.heap.size + 1 + 1)) (o := .cells #[.slice A2_0 l2_0.length c2_0, .int .i64 a2_1] 30 (0, 0)) (by (with_reducible repeat (first | refine blk_drewN ?_ _ | refine blk_drew ?_ | refine blk_alloc ?_ _)); exact BK4.out) hb)
  replace BK31 := Aside0.mk (blk_below (g := w10.heap.size) (o := .cells #[.slice Ao26 r11.length co26, .int .i64 r12] 33 (0, 0)) (by (with_reducible repeat (first | refine blk_drewN ?_ _ | refine blk_drew ?_ | refine blk_alloc ?_ _)); exact BK31.out) hb)
  have BK36 := Aside0.mk (blk_below (g := w11.heap.size) (o := .cells #[.slice Ao30 r14.length co30, .int .i64 r15] 33 (0, 0)) (by repeat (first | exact blk_at _ (by first | rfl | (simp; done)) | refine blk_alloc ?_ _ | refine blk_drew ?_ | refine blk_drewN ?_ _)) hb)
  replace HB := Aside0.mk (below_step (by repeat (first | (with_reducible first | exact HB.out | apply below_alloc | apply pw_below_drewN | apply below_drew1) | exact HB.out)) hb)
  have HO35 := Aside0.mk ho0
  clear hb ho0
  obtain ⟨Ao35, co35, eo35⟩ := Kd.R_slice HO35.out
  subst eo35
  clear hne32 hcz33 hcz34
  go_wp2_with (fail)
  (with_reducible refine (laws_toIntS.calls k _ _ l3 r20 _ ?side1 ?side2 h7.out).mono ?_)
  (case side1 => repeat (first | exact (Kd.C_below HR3.out HB.out) | (with_reducible refine Kd.C_alloc ?_ _) | (with_reducible refine Kd.C_drewN ?_ _) | (with_reducible refine Kd.C_drew ?_))); (case side2 => exact HC3.out)
  rintro e w13 ⟨v37, rfl, ho0, hb⟩
  replace HO13 := Aside0.mk (Kd.R_below (by (with_reducible repeat (first | apply Kd.R_alloc | apply Kd.R_drewN | apply Kd.R_drew)); exact HO13.out) hb)
  replace HO16 := Aside0.mk (Kd.R_below (by (with_reducible repeat (first | apply Kd.R_alloc | apply Kd.R_drewN | apply Kd.R_drew)); exact HO16.out) hb)
  replace HO19 := Aside0.mk (Kd.R_below (by (with_reducible repeat (first | apply Kd.R_alloc | apply Kd.R_drewN | apply Kd.R_drew)); exact HO19.out) hb)
  replace HO21 := Aside0.mk (Kd.R_below (by (with_reducible repeat (first | apply Kd.R_alloc | apply Kd.R_drewN | apply Kd.R_drew)); exact HO21.out) hb)
  replace HO26 := Aside0.mk (Kd.R_below (by (with_reducible repeat (first | apply Kd.R_alloc | apply Kd.R_drewN | apply Kd.R_drew)); exact HO26.out) hb)
  replace HO30 := Aside0.mk (Kd.R_below (by (with_reducible repeat (first | apply Kd.R_alloc | apply Kd.R_drewN | apply Kd.R_drew)); exact HO30.out) hb)
  replace HO35 := Aside0.mk (Kd.R_below (by (with_reducible repeat (first | apply Kd.R_alloc | apply Kd.R_drewN | apply Kd.R_drew)); exact HO35.out) hb)
  replace BK2 := Aside0.mk (blk_below (g := w.heap.size) (o := .cells #[.slice A0_0 l0_0.length c0_0, .int .i64 a0_1] 30 (0, 0)) (by (with_reducible repeat (first | refine blk_drewN ?_ _ | refine blk_drew ?_ | refine blk_alloc ?_ _)); exact BK2.out) hb)
  replace BK3 := Aside0.mk (blk_below (g := (w.heap.size + 1)) (o := .cells #[.slice A1_0 l1_0.length c1_0, .int .i64 a1_1] 30 (0, 0)) (by (with_reducible repeat (first | refine blk_drewN ?_ _ | refine blk_drew ?_ | refine blk_alloc ?_ _)); exact BK3.out) hb)
  replace BK4 := Aside0.mk (blk_below (g := (w.heap.size + 1 + 1)) (o := .cells #[.slice A2_0 l2_0.length c2_0, .int .i64 a2_1] 30 (0, 0)) (by (with_reducible repeat (first | refine blk_drewN ?_ _ | refine blk_drew ?_ | refine blk_alloc ?_ _)); exact BK4.out) hb)
  replace BK31 := Aside0.mk (blk_below (g := w10.heap.size) (o := .cells #[.slice Ao26 r11.length co26, .int .i64 r12] 33 (0, 0)) (by (with_reducible repeat (first | refine blk_drewN ?_ _ | refine blk_drew ?_ | refine blk_alloc ?_ _)); exact BK31.out) hb)
  replace BK36 := Aside0.mk (blk_below (g := w11.heap.size) (o := .cells #[.slice Ao30 r14.length co30, .int .i64 r15] 33 (0, 0)) (by (with_reducible repeat (first | refine blk_drewN ?_ _ | refine blk_drew ?_ | refine blk_alloc ?_ _)); exact BK36.out) hb)
  have BK38 := Aside0.mk (blk_below (g := w12.heap.size) (o := .cells #[.slice Ao35 r17.length co35, .int .i64 r18] 33 (0, 0)) (by repeat (first | exact blk_at _ (by first | rfl | (simp; done)) | refine blk_alloc ?_ _ | refine blk_drew ?_ | refine blk_drewN ?_ _)) hb)
  replace HB := Aside0.mk (below_step (by repeat (first | (with_reducible first | exact HB.out | apply below_alloc | apply pw_below_drewN | apply below_drew1) | exact HB.out)) hb)
  have HO37 := Aside0.mk ho0
  clear hb ho0
  obtain ⟨Ao37, co37, eo37⟩ := Kd.R_slice HO37.out
  subst eo37
  have hcz39 : w13.cell? ⟨w10.heap.size, 0, none⟩ = some (.slice Ao26 r11.length co26) := (blk_cell BK31.out 0).trans rfl
  have hcz40 : w13.cell? ⟨w10.heap.size, 1, none⟩ = some (.int .i64 r12) := (blk_cell BK31.out 1).trans rfl
  have hcz41 : w13.cell? ⟨w11.heap.size, 0, none⟩ = some (.slice Ao30 r14.length co30) := (blk_cell BK36.out 0).trans rfl
  have hcz42 : w13.cell? ⟨w11.heap.size, 1, none⟩ = some (.int .i64 r15) := (blk_cell BK36.out 1).trans rfl
  have hcz43 : w13.cell? ⟨w12.heap.size, 0, none⟩ = some (.slice Ao35 r17.length co35) := (blk_cell BK38.out 0).trans rfl
  have hcz44 : w13.cell? ⟨w12.heap.size, 1, none⟩ = some (.int .i64 r18) := (blk_cell BK38.out 1).trans rfl
  go_wp2_with (fail)
  (with_reducible refine (impl_ChoiceSide.calls k _ _ r11 r12 _ _ r14 r15 _ _ r17 r18 _ _ r20 r22 r23 _ ?side1 ?side2 ?side3 ?side4 ?side5 ?side6 ?side7 ?side8 h9.out).mono ?_)
  (case side1 => repeat (first | exact (Kd.R_reads' HO26.out).2.2 | (with_reducible refine Kd.C_alloc ?_ _) | (with_reducible refine Kd.C_drewN ?_ _) | (with_reducible refine Kd.C_drew ?_))); (case side2 => exact (Kd.R_reads' HO26.out).2.1); (case side3 => repeat (first | exact (Kd.R_reads' HO30.out).2.2 | (with_reducible refine Kd.C_alloc ?_ _) | (with_reducible refine Kd.C_drewN ?_ _) | (with_reducible refine Kd.C_drew ?_))); (case side4 => exact (Kd.R_reads' HO30.out).2.1); (case side5 => repeat (first | exact (Kd.R_reads' HO35.out).2.2 | (with_reducible refine Kd.C_alloc ?_ _) | (with_reducible refine Kd.C_drewN ?_ _) | (with_reducible refine Kd.C_drew ?_))); (case side6 => exact (Kd.R_reads' HO35.out).2.1); (case side7 => repeat (first | exact (Kd.R_reads' HO37.out).2.2 | (with_reducible refine Kd.C_alloc ?_ _) | (with_reducible refine Kd.C_drewN ?_ _) | (with_reducible refine Kd.C_drew ?_))); (case side8 => exact (Kd.R_reads' HO37.out).2.1)
  rintro e w14 ⟨rfl, hb⟩
  replace HO13 := Aside0.mk (Kd.R_below (by (with_reducible repeat (first | apply Kd.R_alloc | apply Kd.R_drewN | apply Kd.R_drew)); exact HO13.out) hb)
  replace HO16 := Aside0.mk (Kd.R_below (by (with_reducible repeat (first | apply Kd.R_alloc | apply Kd.R_drewN | apply Kd.R_drew)); exact HO16.out) hb)
  replace HO19 := Aside0.mk (Kd.R_below (by (with_reducible repeat (first | apply Kd.R_alloc | apply Kd.R_drewN | apply Kd.R_drew)); exact HO19.out) hb)
  replace HO21 := Aside0.mk (Kd.R_below (by (with_reducible repeat (first | apply Kd.R_alloc | apply Kd.R_drewN | apply Kd.R_drew)); exact HO21.out) hb)
  replace HO26 := Aside0.mk (Kd.R_below (by (with_reducible repeat (first | apply Kd.R_alloc | apply Kd.R_drewN | apply Kd.R_drew)); exact HO26.out) hb)
  replace HO30 := Aside0.mk (Kd.R_below (by (with_reducible repeat (first | apply Kd.R_alloc | apply Kd.R_drewN | apply Kd.R_drew)); exact HO30.out) hb)
  replace HO35 := Aside0.mk (Kd.R_below (by (with_reducible repeat (first | apply Kd.R_alloc | apply Kd.R_drewN | apply Kd.R_drew)); exact HO35.out) hb)
  replace HO37 := Aside0.mk (Kd.R_below (by (with_reducible repeat (first | apply Kd.R_alloc | apply Kd.R_drewN | apply Kd.R_drew)); exact HO37.out) hb)
  replace BK2 := Aside0.mk (blk_below (g := w.heap.size) (o := .cells #[.slice A0_0 l0_0.length c0_0, .int .i64 a0_1] 30 (0, 0)) (by (with_reducible repeat (first | refine blk_drewN ?_ _ | refine blk_drew ?_ | refine blk_alloc ?_ _)); exact BK2.out) hb)
  replace BK3 := Aside0.mk (blk_below (g := (w.heap.size + 1)) (o := .cells #[.slice A1_0 l1_0.length c1_0, .int .i64 a1_1] 30 (0, 0)) (by (with_reducible repeat (first | refine blk_drewN ?_ _ | refine blk_drew ?_ | refine blk_alloc ?_ _)); exact BK3.out) hb)
  replace BK4 := Aside0.mk (blk_below (g := (w.heap.size + 1 + 1)) (o := .cells #[.slice A2_0 l2_0.length c2_0, .int .i64 a2_1] 30 (0, 0)) (by (with_reducible repeat (first | refine blk_drewN ?_ _ | refine blk_drew ?_ | refine blk_alloc ?_ _)); exact BK4.out) hb)
  replace BK31 := Aside0.mk (blk_below (g := w10.heap.size) (o := .cells #[.slice Ao26 r11.length co26, .int .i64 r12] 33 (0, 0)) (by (with_reducible repeat (first | refine blk_drewN ?_ _ | refine blk_drew ?_ | refine blk_alloc ?_ _)); exact BK31.out) hb)
  replace BK36 := Aside0.mk (blk_below (g := w11.heap.size) (o := .cells #[.slice Ao30 r14.length co30, .int .i64 r15] 33 (0, 0)) (by (with_reducible repeat (first | refine blk_drewN ?_ _ | refine blk_drew ?_ | refine blk_alloc ?_ _)); exact BK36.out) hb)
  replace BK38 := Aside0.mk (blk_below (g := w12.heap.size) (o := .cells #[.slice Ao35 r17.length co35, .int .i64 r18] 33 (0, 0)) (by (with_reducible repeat (first | refine blk_drewN ?_ _ | refine blk_drew ?_ | refine blk_alloc ?_ _)); exact BK38.out) hb)
  replace HB := Aside0.mk (below_step (by repeat (first | (with_reducible first | exact HB.out | apply below_alloc | apply pw_below_drewN | apply below_drew1) | exact HB.out)) hb)
  clear hb
  clear hcz39 hcz40 hcz41 hcz42 hcz43 hcz44
  go_wp2_with (fail)
  replace HO13 := Aside0.mk (Kd.R_drew HO13.out)
  replace HO16 := Aside0.mk (Kd.R_drew HO16.out)
  replace HO19 := Aside0.mk (Kd.R_drew HO19.out)
  replace HO21 := Aside0.mk (Kd.R_drew HO21.out)
  replace HO26 := Aside0.mk (Kd.R_drew HO26.out)
  replace HO30 := Aside0.mk (Kd.R_drew HO30.out)
  replace HO35 := Aside0.mk (Kd.R_drew HO35.out)
  replace HO37 := Aside0.mk (Kd.R_drew HO37.out)
  replace BK2 := Aside0.mk (blk_drew BK2.out)
  replace BK3 := Aside0.mk (blk_drew BK3.out)
  replace BK4 := Aside0.mk (blk_drew BK4.out)
  replace BK31 := Aside0.mk (blk_drew BK31.out)
  replace BK36 := Aside0.mk (blk_drew BK36.out)
  replace BK38 := Aside0.mk (blk_drew BK38.out)
  replace HB := Aside0.mk (below_drew1 HB.out)
  refine start_ (n := 5) (S := fun w' => w'.cell? ⟨w10.heap.size, 0, none⟩ = some (.slice Ao26 r11.length co26) ∧ w'.cell? ⟨w10.heap.size, 1, none⟩ = some (.int .i64 r12) ∧ w'.cell? ⟨w.heap.size, 0, none⟩ = some (.slice A0_0 l0_0.length c0_0) ∧ w'.cell? ⟨w.heap.size, 1, none⟩ = some (.int .i64 a0_1)) (ds := []) #[false, false, false, false, false] (by kernel_rfl) rfl rfl ⟨(blk_cell BK31.out 0).trans rfl, (blk_cell BK31.out 1).trans rfl, (blk_cell BK2.out 0).trans rfl, (blk_cell BK2.out 1).trans rfl⟩ (fun hHeld => ?_)
  generalize w14.drew = w15 at HB HO13 HO16 HO19 HO21 HO26 HO30 HO35 HO37 BK2 BK3 BK4 BK31 BK36 BK38 hHeld ⊢
  refine take_ (i := 0) (N := some 72) (v := ?_) (a' := ?_) #[true, false, false, false, false] rfl rfl (by kernel_rfl) (fun _ _ _ h => h) (Or.inl ⟨by rfl, ?_⟩) hHeld ?_ ?_
  rotate_left
  · rintro w' ⟨s0, s1, s2, s3⟩
    go_simp
    with_reducible rfl
  rotate_left
  · simp only [Act.put, List.setIfInBounds_toArray, List.set_cons_zero, List.set_cons_succ, i64_w, i32_w]
    rfl
  refine take_ (i := 1) (N := some 73) (v := ?_) (a' := ?_) #[true, true, false, false, false] rfl rfl (by kernel_rfl) (fun _ _ _ h => h) (Or.inl ⟨by rfl, ?_⟩) hHeld ?_ ?_
  rotate_left
  · rintro w' ⟨s0, s1, s2, s3⟩
    go_simp
    with_reducible rfl
  rotate_left
  · simp only [Act.put, List.setIfInBounds_toArray, List.set_cons_zero, List.set_cons_succ, i64_w, i32_w]
    rfl
  refine one_ (i := 2) (N := some 74) #[true, true, true, false, false] rfl rfl (by kernel_rfl) (by decide) (fun K hK => ?_)
  refine goes_ Try.func23 (by kernel_rfl) rfl #[.agg #[.slice A0_0 l0_0.length c0_0, .int .i64 a0_1]] (by rfl) rfl rfl (by (try simp only [List.map_toArray, List.map_cons, List.map_nil]); first | done | rfl | (simp only [List.length_drop, List.length_take]; rfl)) ?_
  (with_reducible refine (laws_toPlane.calls k _ _ l0_0 a0_1 r11 r12 _ ?side1 ?side2 h4.out).mono ?_)
  (case side1 => repeat (first | exact (Kd.C_below HR0_0.out HB.out) | (with_reducible refine Kd.C_alloc ?_ _) | (with_reducible refine Kd.C_drewN ?_ _) | (with_reducible refine Kd.C_drew ?_))); (case side2 => exact HC0_0.out)
  rintro e w16 ⟨v45, rfl, ho0, hb⟩; refine ⟨_, rfl, ?_⟩
  replace HO13 := Aside0.mk (Kd.R_below (by (with_reducible repeat (first | apply Kd.R_alloc | apply Kd.R_drewN | apply Kd.R_drew)); exact HO13.out) hb)
  replace HO16 := Aside0.mk (Kd.R_below (by (with_reducible repeat (first | apply Kd.R_alloc | apply Kd.R_drewN | apply Kd.R_drew)); exact HO16.out) hb)
  replace HO19 := Aside0.mk (Kd.R_below (by (with_reducible repeat (first | apply Kd.R_alloc | apply Kd.R_drewN | apply Kd.R_drew)); exact HO19.out) hb)
  replace HO21 := Aside0.mk (Kd.R_below (by (with_reducible repeat (first | apply Kd.R_alloc | apply Kd.R_drewN | apply Kd.R_drew)); exact HO21.out) hb)
  replace HO26 := Aside0.mk (Kd.R_below (by (with_reducible repeat (first | apply Kd.R_alloc | apply Kd.R_drewN | apply Kd.R_drew)); exact HO26.out) hb)
  replace HO30 := Aside0.mk (Kd.R_below (by (with_reducible repeat (first | apply Kd.R_alloc | apply Kd.R_drewN | apply Kd.R_drew)); exact HO30.out) hb)
  replace HO35 := Aside0.mk (Kd.R_below (by (with_reducible repeat (first | apply Kd.R_alloc | apply Kd.R_drewN | apply Kd.R_drew)); exact HO35.out) hb)
  replace HO37 := Aside0.mk (Kd.R_below (by (with_reducible repeat (first | apply Kd.R_alloc | apply Kd.R_drewN | apply Kd.R_drew)); exact HO37.out) hb)
  replace BK2 := Aside0.mk (blk_below (g := w.heap.size) (o := .cells #[.slice A0_0 l0_0.length c0_0, .int .i64 a0_1] 30 (0, 0)) (by (with_reducible repeat (first | refine blk_drewN ?_ _ | refine blk_drew ?_ | refine blk_alloc ?_ _)); exact BK2.out) hb)
  replace BK3 := Aside0.mk (blk_below (g := (w.heap.size + 1)) (o := .cells #[.slice A1_0 l1_0.length c1_0, .int .i64 a1_1] 30 (0, 0)) (by (with_reducible repeat (first | refine blk_drewN ?_ _ | refine blk_drew ?_ | refine blk_alloc ?_ _)); exact BK3.out) hb)
  replace BK4 := Aside0.mk (blk_below (g := (w.heap.size + 1 + 1)) (o := .cells #[.slice A2_0 l2_0.length c2_0, .int .i64 a2_1] 30 (0, 0)) (by (with_reducible repeat (first | refine blk_drewN ?_ _ | refine blk_drew ?_ | refine blk_alloc ?_ _)); exact BK4.out) hb)
  replace BK31 := Aside0.mk (blk_below (g := w10.heap.size) (o := .cells #[.slice Ao26 r11.length co26, .int .i64 r12] 33 (0, 0)) (by (with_reducible repeat (first | refine blk_drewN ?_ _ | refine blk_drew ?_ | refine blk_alloc ?_ _)); exact BK31.out) hb)
  replace BK36 := Aside0.mk (blk_below (g := w11.heap.size) (o := .cells #[.slice Ao30 r14.length co30, .int .i64 r15] 33 (0, 0)) (by (with_reducible repeat (first | refine blk_drewN ?_ _ | refine blk_drew ?_ | refine blk_alloc ?_ _)); exact BK36.out) hb)
  replace BK38 := Aside0.mk (blk_below (g := w12.heap.size) (o := .cells #[.slice Ao35 r17.length co35, .int .i64 r18] 33 (0, 0)) (by (with_reducible repeat (first | refine blk_drewN ?_ _ | refine blk_drew ?_ | refine blk_alloc ?_ _)); exact BK38.out) hb)
  replace HB := Aside0.mk (below_step (by repeat (first | (with_reducible first | exact HB.out | apply below_alloc | apply pw_below_drewN | apply below_drew1) | exact HB.out)) hb)
  have HO45 := Aside0.mk ho0
  clear hb ho0
  obtain ⟨Ao45, co45, eo45⟩ := Kd.R_slice HO45.out
  subst eo45
  refine hK.out _ _ ⟨(blk_cell BK31.out 0).trans rfl, (blk_cell BK31.out 1).trans rfl, (blk_cell BK2.out 0).trans rfl, (blk_cell BK2.out 1).trans rfl⟩ (fun hHeld => ?_)
  clear hK K
  refine norm_ (a' := ?_) ?_ ?_
  rotate_left
  · show Act.put _ (some 74) _ = _
    simp only [Act.put, List.setIfInBounds_toArray, List.set_cons_zero, List.set_cons_succ, i64_w, i32_w]
    rfl
  refine one_ (i := 3) (N := some 75) #[true, true, true, true, false] rfl rfl (by kernel_rfl) (by decide) (fun K hK => ?_)
  refine goes_ Try.func25 (by kernel_rfl) rfl #[.agg #[.slice Ao26 r11.length co26, .int .i64 r12], .agg #[.slice Ao45 r11.length co45, .int .i64 r12]] (by rfl) rfl rfl (by (try simp only [List.map_toArray, List.map_cons, List.map_nil]); first | done | rfl | (simp only [List.length_drop, List.length_take]; rfl)) ?_
  (with_reducible refine (laws_eqPlane.calls k _ _ r11 r12 _ _ r11 r12 true _ ?side1 ?side2 ?side3 ?side4 h10.out).mono ?_)
  (case side1 => repeat (first | exact (Kd.R_reads' HO26.out).2.2 | (with_reducible refine Kd.C_alloc ?_ _) | (with_reducible refine Kd.C_drewN ?_ _) | (with_reducible refine Kd.C_drew ?_))); (case side2 => exact (Kd.R_reads' HO26.out).2.1); (case side3 => repeat (first | exact (Kd.R_reads' HO45.out).2.2 | (with_reducible refine Kd.C_alloc ?_ _) | (with_reducible refine Kd.C_drewN ?_ _) | (with_reducible refine Kd.C_drew ?_))); (case side4 => exact (Kd.R_reads' HO45.out).2.1)
  rintro e w17 ⟨rfl, hb⟩; refine ⟨_, rfl, ?_⟩
  replace HO13 := Aside0.mk (Kd.R_below (by (with_reducible repeat (first | apply Kd.R_alloc | apply Kd.R_drewN | apply Kd.R_drew)); exact HO13.out) hb)
  replace HO16 := Aside0.mk (Kd.R_below (by (with_reducible repeat (first | apply Kd.R_alloc | apply Kd.R_drewN | apply Kd.R_drew)); exact HO16.out) hb)
  replace HO19 := Aside0.mk (Kd.R_below (by (with_reducible repeat (first | apply Kd.R_alloc | apply Kd.R_drewN | apply Kd.R_drew)); exact HO19.out) hb)
  replace HO21 := Aside0.mk (Kd.R_below (by (with_reducible repeat (first | apply Kd.R_alloc | apply Kd.R_drewN | apply Kd.R_drew)); exact HO21.out) hb)
  replace HO26 := Aside0.mk (Kd.R_below (by (with_reducible repeat (first | apply Kd.R_alloc | apply Kd.R_drewN | apply Kd.R_drew)); exact HO26.out) hb)
  replace HO30 := Aside0.mk (Kd.R_below (by (with_reducible repeat (first | apply Kd.R_alloc | apply Kd.R_drewN | apply Kd.R_drew)); exact HO30.out) hb)
  replace HO35 := Aside0.mk (Kd.R_below (by (with_reducible repeat (first | apply Kd.R_alloc | apply Kd.R_drewN | apply Kd.R_drew)); exact HO35.out) hb)
  replace HO37 := Aside0.mk (Kd.R_below (by (with_reducible repeat (first | apply Kd.R_alloc | apply Kd.R_drewN | apply Kd.R_drew)); exact HO37.out) hb)
  replace HO45 := Aside0.mk (Kd.R_below (by (with_reducible repeat (first | apply Kd.R_alloc | apply Kd.R_drewN | apply Kd.R_drew)); exact HO45.out) hb)
  replace BK2 := Aside0.mk (blk_below (g := w.heap.size) (o := .cells #[.slice A0_0 l0_0.length c0_0, .int .i64 a0_1] 30 (0, 0)) (by (with_reducible repeat (first | refine blk_drewN ?_ _ | refine blk_drew ?_ | refine blk_alloc ?_ _)); exact BK2.out) hb)
  replace BK3 := Aside0.mk (blk_below (g := (w.heap.size + 1)) (o := .cells #[.slice A1_0 l1_0.length c1_0, .int .i64 a1_1] 30 (0, 0)) (by (with_reducible repeat (first | refine blk_drewN ?_ _ | refine blk_drew ?_ | refine blk_alloc ?_ _)); exact BK3.out) hb)
  replace BK4 := Aside0.mk (blk_below (g := (w.heap.size + 1 + 1)) (o := .cells #[.slice A2_0 l2_0.length c2_0, .int .i64 a2_1] 30 (0, 0)) (by (with_reducible repeat (first | refine blk_drewN ?_ _ | refine blk_drew ?_ | refine blk_alloc ?_ _)); exact BK4.out) hb)
  replace BK31 := Aside0.mk (blk_below (g := w10.heap.size) (o := .cells #[.slice Ao26 r11.length co26, .int .i64 r12] 33 (0, 0)) (by (with_reducible repeat (first | refine blk_drewN ?_ _ | refine blk_drew ?_ | refine blk_alloc ?_ _)); exact BK31.out) hb)
  replace BK36 := Aside0.mk (blk_below (g := w11.heap.size) (o := .cells #[.slice Ao30 r14.length co30, .int .i64 r15] 33 (0, 0)) (by (with_reducible repeat (first | refine blk_drewN ?_ _ | refine blk_drew ?_ | refine blk_alloc ?_ _)); exact BK36.out) hb)
  replace BK38 := Aside0.mk (blk_below (g := w12.heap.size) (o := .cells #[.slice Ao35 r17.length co35, .int .i64 r18] 33 (0, 0)) (by (with_reducible repeat (first | refine blk_drewN ?_ _ | refine blk_drew ?_ | refine blk_alloc ?_ _)); exact BK38.out) hb)
  replace HB := Aside0.mk (below_step (by repeat (first | (with_reducible first | exact HB.out | apply below_alloc | apply pw_below_drewN | apply below_drew1) | exact HB.out)) hb)
  clear hb
  refine hK.out _ _ ⟨(blk_cell BK31.out 0).trans rfl, (blk_cell BK31.out 1).trans rfl, (blk_cell BK2.out 0).trans rfl, (blk_cell BK2.out 1).trans rfl⟩ (fun hHeld => ?_)
  clear hK K
  refine norm_ (a' := ?_) ?_ ?_
  rotate_left
  · show Act.put _ (some 75) _ = _
    simp only [Act.put, List.setIfInBounds_toArray, List.set_cons_zero, List.set_cons_succ, i64_w, i32_w]
    rfl
  refine pure_ (i := 4) (N := some 76) (v := ?_) (a' := ?_) #[true, true, true, true, true] rfl rfl (by kernel_rfl) (fun _ _ _ h => h) (Or.inl ⟨by rfl, ?_⟩) ?_ ?_
  rotate_left
  · intro w'
    go_simp
    with_reducible rfl
  rotate_left
  · simp only [Act.put, List.setIfInBounds_toArray, List.set_cons_zero, List.set_cons_succ, i64_w, i32_w]
    rfl
  refine done_ (by kernel_rfl) ?_
  go_wp2_with (fail)
  replace HO13 := Aside0.mk (Kd.R_drew HO13.out)
  replace HO16 := Aside0.mk (Kd.R_drew HO16.out)
  replace HO19 := Aside0.mk (Kd.R_drew HO19.out)
  replace HO21 := Aside0.mk (Kd.R_drew HO21.out)
  replace HO26 := Aside0.mk (Kd.R_drew HO26.out)
  replace HO30 := Aside0.mk (Kd.R_drew HO30.out)
  replace HO35 := Aside0.mk (Kd.R_drew HO35.out)
  replace HO37 := Aside0.mk (Kd.R_drew HO37.out)
  replace HO45 := Aside0.mk (Kd.R_drew HO45.out)
  replace BK2 := Aside0.mk (blk_drew BK2.out)
  replace BK3 := Aside0.mk (blk_drew BK3.out)
  replace BK4 := Aside0.mk (blk_drew BK4.out)
  replace BK31 := Aside0.mk (blk_drew BK31.out)
  replace BK36 := Aside0.mk (blk_drew BK36.out)
  replace BK38 := Aside0.mk (blk_drew BK38.out)
  replace HB := Aside0.mk (below_drew1 HB.out)
  refine start_ (n := 5) (S := fun w' => w'.cell? ⟨w11.heap.size, 0, none⟩ = some (.slice Ao30 r14.length co30) ∧ w'.cell? ⟨w11.heap.size, 1, none⟩ = some (.int .i64 r15) ∧ w'.cell? ⟨(w.heap.size + 1), 0, none⟩ = some (.slice A1_0 l1_0.length c1_0) ∧ w'.cell? ⟨(w.heap.size + 1), 1, none⟩ = some (.int .i64 a1_1)) (ds := []) #[false, false, false, false, false] (by kernel_rfl) rfl rfl ⟨(blk_cell BK36.out 0).trans rfl, (blk_cell BK36.out 1).trans rfl, (blk_cell BK3.out 0).trans rfl, (blk_cell BK3.out 1).trans rfl⟩ (fun hHeld => ?_)
  generalize w17.drew = w18 at HB HO13 HO16 HO19 HO21 HO26 HO30 HO35 HO37 HO45 BK2 BK3 BK4 BK31 BK36 BK38 hHeld ⊢
  refine take_ (i := 0) (N := some 77) (v := ?_) (a' := ?_) #[true, false, false, false, false] rfl rfl (by kernel_rfl) (fun _ _ _ h => h) (Or.inl ⟨by rfl, ?_⟩) hHeld ?_ ?_
  rotate_left
  · rintro w' ⟨s0, s1, s2, s3⟩
    go_simp
    with_reducible rfl
  rotate_left
  · simp only [Act.put, List.setIfInBounds_toArray, List.set_cons_zero, List.set_cons_succ, i64_w, i32_w]
    rfl
  refine take_ (i := 1) (N := some 78) (v := ?_) (a' := ?_) #[true, true, false, false, false] rfl rfl (by kernel_rfl) (fun _ _ _ h => h) (Or.inl ⟨by rfl, ?_⟩) hHeld ?_ ?_
  rotate_left
  · rintro w' ⟨s0, s1, s2, s3⟩
    go_simp
    with_reducible rfl
  rotate_left
  · simp only [Act.put, List.setIfInBounds_toArray, List.set_cons_zero, List.set_cons_succ, i64_w, i32_w]
    rfl
  refine one_ (i := 2) (N := some 79) #[true, true, true, false, false] rfl rfl (by kernel_rfl) (by decide) (fun K hK => ?_)
  refine goes_ Try.func23 (by kernel_rfl) rfl #[.agg #[.slice A1_0 l1_0.length c1_0, .int .i64 a1_1]] (by rfl) rfl rfl (by (try simp only [List.map_toArray, List.map_cons, List.map_nil]); first | done | rfl | (simp only [List.length_drop, List.length_take]; rfl)) ?_
  (with_reducible refine (laws_toPlane.calls k _ _ l1_0 a1_1 r14 r15 _ ?side1 ?side2 h5.out).mono ?_)
  (case side1 => repeat (first | exact (Kd.C_below HR1_0.out HB.out) | (with_reducible refine Kd.C_alloc ?_ _) | (with_reducible refine Kd.C_drewN ?_ _) | (with_reducible refine Kd.C_drew ?_))); (case side2 => exact HC1_0.out)
  rintro e w19 ⟨v46, rfl, ho0, hb⟩; refine ⟨_, rfl, ?_⟩
  replace HO13 := Aside0.mk (Kd.R_below (by (with_reducible repeat (first | apply Kd.R_alloc | apply Kd.R_drewN | apply Kd.R_drew)); exact HO13.out) hb)
  replace HO16 := Aside0.mk (Kd.R_below (by (with_reducible repeat (first | apply Kd.R_alloc | apply Kd.R_drewN | apply Kd.R_drew)); exact HO16.out) hb)
  replace HO19 := Aside0.mk (Kd.R_below (by (with_reducible repeat (first | apply Kd.R_alloc | apply Kd.R_drewN | apply Kd.R_drew)); exact HO19.out) hb)
  replace HO21 := Aside0.mk (Kd.R_below (by (with_reducible repeat (first | apply Kd.R_alloc | apply Kd.R_drewN | apply Kd.R_drew)); exact HO21.out) hb)
  replace HO26 := Aside0.mk (Kd.R_below (by (with_reducible repeat (first | apply Kd.R_alloc | apply Kd.R_drewN | apply Kd.R_drew)); exact HO26.out) hb)
  replace HO30 := Aside0.mk (Kd.R_below (by (with_reducible repeat (first | apply Kd.R_alloc | apply Kd.R_drewN | apply Kd.R_drew)); exact HO30.out) hb)
  replace HO35 := Aside0.mk (Kd.R_below (by (with_reducible repeat (first | apply Kd.R_alloc | apply Kd.R_drewN | apply Kd.R_drew)); exact HO35.out) hb)
  replace HO37 := Aside0.mk (Kd.R_below (by (with_reducible repeat (first | apply Kd.R_alloc | apply Kd.R_drewN | apply Kd.R_drew)); exact HO37.out) hb)
  replace HO45 := Aside0.mk (Kd.R_below (by (with_reducible repeat (first | apply Kd.R_alloc | apply Kd.R_drewN | apply Kd.R_drew)); exact HO45.out) hb)
  replace BK2 := Aside0.mk (blk_below (g := w.heap.size) (o := .cells #[.slice A0_0 l0_0.length c0_0, .int .i64 a0_1] 30 (0, 0)) (by (with_reducible repeat (first | refine blk_drewN ?_ _ | refine blk_drew ?_ | refine blk_alloc ?_ _)); exact BK2.out) hb)
  replace BK3 := Aside0.mk (blk_below (g := (w.heap.size + 1)) (o := .cells #[.slice A1_0 l1_0.length c1_0, .int .i64 a1_1] 30 (0, 0)) (by (with_reducible repeat (first | refine blk_drewN ?_ _ | refine blk_drew ?_ | refine blk_alloc ?_ _)); exact BK3.out) hb)
  replace BK4 := Aside0.mk (blk_below (g := (w.heap.size + 1 + 1)) (o := .cells #[.slice A2_0 l2_0.length c2_0, .int .i64 a2_1] 30 (0, 0)) (by (with_reducible repeat (first | refine blk_drewN ?_ _ | refine blk_drew ?_ | refine blk_alloc ?_ _)); exact BK4.out) hb)
  replace BK31 := Aside0.mk (blk_below (g := w10.heap.size) (o := .cells #[.slice Ao26 r11.length co26, .int .i64 r12] 33 (0, 0)) (by (with_reducible repeat (first | refine blk_drewN ?_ _ | refine blk_drew ?_ | refine blk_alloc ?_ _)); exact BK31.out) hb)
  replace BK36 := Aside0.mk (blk_below (g := w11.heap.size) (o := .cells #[.slice Ao30 r14.length co30, .int .i64 r15] 33 (0, 0)) (by (with_reducible repeat (first | refine blk_drewN ?_ _ | refine blk_drew ?_ | refine blk_alloc ?_ _)); exact BK36.out) hb)
  replace BK38 := Aside0.mk (blk_below (g := w12.heap.size) (o := .cells #[.slice Ao35 r17.length co35, .int .i64 r18] 33 (0, 0)) (by (with_reducible repeat (first | refine blk_drewN ?_ _ | refine blk_drew ?_ | refine blk_alloc ?_ _)); exact BK38.out) hb)
  replace HB := Aside0.mk (below_step (by repeat (first | (with_reducible first | exact HB.out | apply below_alloc | apply pw_below_drewN | apply below_drew1) | exact HB.out)) hb)
  have HO46 := Aside0.mk ho0
  clear hb ho0
  obtain ⟨Ao46, co46, eo46⟩ := Kd.R_slice HO46.out
  subst eo46
  refine hK.out _ _ ⟨(blk_cell BK36.out 0).trans rfl, (blk_cell BK36.out 1).trans rfl, (blk_cell BK3.out 0).trans rfl, (blk_cell BK3.out 1).trans rfl⟩ (fun hHeld => ?_)
  clear hK K
  refine norm_ (a' := ?_) ?_ ?_
  rotate_left
  · show Act.put _ (some 79) _ = _
    simp only [Act.put, List.setIfInBounds_toArray, List.set_cons_zero, List.set_cons_succ, i64_w, i32_w]
    rfl
  refine one_ (i := 3) (N := some 80) #[true, true, true, true, false] rfl rfl (by kernel_rfl) (by decide) (fun K hK => ?_)
  refine goes_ Try.func25 (by kernel_rfl) rfl #[.agg #[.slice Ao30 r14.length co30, .int .i64 r15], .agg #[.slice Ao46 r14.length co46, .int .i64 r15]] (by rfl) rfl rfl (by (try simp only [List.map_toArray, List.map_cons, List.map_nil]); first | done | rfl | (simp only [List.length_drop, List.length_take]; rfl)) ?_
  (with_reducible refine (laws_eqPlane.calls k _ _ r14 r15 _ _ r14 r15 true _ ?side1 ?side2 ?side3 ?side4 h11.out).mono ?_)
  (case side1 => repeat (first | exact (Kd.R_reads' HO30.out).2.2 | (with_reducible refine Kd.C_alloc ?_ _) | (with_reducible refine Kd.C_drewN ?_ _) | (with_reducible refine Kd.C_drew ?_))); (case side2 => exact (Kd.R_reads' HO30.out).2.1); (case side3 => repeat (first | exact (Kd.R_reads' HO46.out).2.2 | (with_reducible refine Kd.C_alloc ?_ _) | (with_reducible refine Kd.C_drewN ?_ _) | (with_reducible refine Kd.C_drew ?_))); (case side4 => exact (Kd.R_reads' HO46.out).2.1)
  rintro e w20 ⟨rfl, hb⟩; refine ⟨_, rfl, ?_⟩
  replace HO13 := Aside0.mk (Kd.R_below (by (with_reducible repeat (first | apply Kd.R_alloc | apply Kd.R_drewN | apply Kd.R_drew)); exact HO13.out) hb)
  replace HO16 := Aside0.mk (Kd.R_below (by (with_reducible repeat (first | apply Kd.R_alloc | apply Kd.R_drewN | apply Kd.R_drew)); exact HO16.out) hb)
  replace HO19 := Aside0.mk (Kd.R_below (by (with_reducible repeat (first | apply Kd.R_alloc | apply Kd.R_drewN | apply Kd.R_drew)); exact HO19.out) hb)
  replace HO21 := Aside0.mk (Kd.R_below (by (with_reducible repeat (first | apply Kd.R_alloc | apply Kd.R_drewN | apply Kd.R_drew)); exact HO21.out) hb)
  replace HO26 := Aside0.mk (Kd.R_below (by (with_reducible repeat (first | apply Kd.R_alloc | apply Kd.R_drewN | apply Kd.R_drew)); exact HO26.out) hb)
  replace HO30 := Aside0.mk (Kd.R_below (by (with_reducible repeat (first | apply Kd.R_alloc | apply Kd.R_drewN | apply Kd.R_drew)); exact HO30.out) hb)
  replace HO35 := Aside0.mk (Kd.R_below (by (with_reducible repeat (first | apply Kd.R_alloc | apply Kd.R_drewN | apply Kd.R_drew)); exact HO35.out) hb)
  replace HO37 := Aside0.mk (Kd.R_below (by (with_reducible repeat (first | apply Kd.R_alloc | apply Kd.R_drewN | apply Kd.R_drew)); exact HO37.out) hb)
  replace HO45 := Aside0.mk (Kd.R_below (by (with_reducible repeat (first | apply Kd.R_alloc | apply Kd.R_drewN | apply Kd.R_drew)); exact HO45.out) hb)
  replace HO46 := Aside0.mk (Kd.R_below (by (with_reducible repeat (first | apply Kd.R_alloc | apply Kd.R_drewN | apply Kd.R_drew)); exact HO46.out) hb)
  replace BK2 := Aside0.mk (blk_below (g := w.heap.size) (o := .cells #[.slice A0_0 l0_0.length c0_0, .int .i64 a0_1] 30 (0, 0)) (by (with_reducible repeat (first | refine blk_drewN ?_ _ | refine blk_drew ?_ | refine blk_alloc ?_ _)); exact BK2.out) hb)
  replace BK3 := Aside0.mk (blk_below (g := (w.heap.size + 1)) (o := .cells #[.slice A1_0 l1_0.length c1_0, .int .i64 a1_1] 30 (0, 0)) (by (with_reducible repeat (first | refine blk_drewN ?_ _ | refine blk_drew ?_ | refine blk_alloc ?_ _)); exact BK3.out) hb)
  replace BK4 := Aside0.mk (blk_below (g := (w.heap.size + 1 + 1)) (o := .cells #[.slice A2_0 l2_0.length c2_0, .int .i64 a2_1] 30 (0, 0)) (by (with_reducible repeat (first | refine blk_drewN ?_ _ | refine blk_drew ?_ | refine blk_alloc ?_ _)); exact BK4.out) hb)
  replace BK31 := Aside0.mk (blk_below (g := w10.heap.size) (o := .cells #[.slice Ao26 r11.length co26, .int .i64 r12] 33 (0, 0)) (by (with_reducible repeat (first | refine blk_drewN ?_ _ | refine blk_drew ?_ | refine blk_alloc ?_ _)); exact BK31.out) hb)
  replace BK36 := Aside0.mk (blk_below (g := w11.heap.size) (o := .cells #[.slice Ao30 r14.length co30, .int .i64 r15] 33 (0, 0)) (by (with_reducible repeat (first | refine blk_drewN ?_ _ | refine blk_drew ?_ | refine blk_alloc ?_ _)); exact BK36.out) hb)
  replace BK38 := Aside0.mk (blk_below (g := w12.heap.size) (o := .cells #[.slice Ao35 r17.length co35, .int .i64 r18] 33 (0, 0)) (by (with_reducible repeat (first | refine blk_drewN ?_ _ | refine blk_drew ?_ | refine blk_alloc ?_ _)); exact BK38.out) hb)
  replace HB := Aside0.mk (below_step (by repeat (first | (with_reducible first | exact HB.out | apply below_alloc | apply pw_below_drewN | apply below_drew1) | exact HB.out)) hb)
  clear hb
  refine hK.out _ _ ⟨(blk_cell BK36.out 0).trans rfl, (blk_cell BK36.out 1).trans rfl, (blk_cell BK3.out 0).trans rfl, (blk_cell BK3.out 1).trans rfl⟩ (fun hHeld => ?_)
  clear hK K
  refine norm_ (a' := ?_) ?_ ?_
  rotate_left
  · show Act.put _ (some 80) _ = _
    simp only [Act.put, List.setIfInBounds_toArray, List.set_cons_zero, List.set_cons_succ, i64_w, i32_w]
    rfl
  refine pure_ (i := 4) (N := some 81) (v := ?_) (a' := ?_) #[true, true, true, true, true] rfl rfl (by kernel_rfl) (fun _ _ _ h => h) (Or.inl ⟨by rfl, ?_⟩) ?_ ?_
  rotate_left
  · intro w'
    go_simp
    with_reducible rfl
  rotate_left
  · simp only [Act.put, List.setIfInBounds_toArray, List.set_cons_zero, List.set_cons_succ, i64_w, i32_w]
    rfl
  refine done_ (by kernel_rfl) ?_
  go_wp2_with (fail)
  replace HO13 := Aside0.mk (Kd.R_drew HO13.out)
  replace HO16 := Aside0.mk (Kd.R_drew HO16.out)
  replace HO19 := Aside0.mk (Kd.R_drew HO19.out)
  replace HO21 := Aside0.mk (Kd.R_drew HO21.out)
  replace HO26 := Aside0.mk (Kd.R_drew HO26.out)
  replace HO30 := Aside0.mk (Kd.R_drew HO30.out)
  replace HO35 := Aside0.mk (Kd.R_drew HO35.out)
  replace HO37 := Aside0.mk (Kd.R_drew HO37.out)
  replace HO45 := Aside0.mk (Kd.R_drew HO45.out)
  replace HO46 := Aside0.mk (Kd.R_drew HO46.out)
  replace BK2 := Aside0.mk (blk_drew BK2.out)
  replace BK3 := Aside0.mk (blk_drew BK3.out)
  replace BK4 := Aside0.mk (blk_drew BK4.out)
  replace BK31 := Aside0.mk (blk_drew BK31.out)
  replace BK36 := Aside0.mk (blk_drew BK36.out)
  replace BK38 := Aside0.mk (blk_drew BK38.out)
  replace HB := Aside0.mk (below_drew1 HB.out)
  refine start_ (n := 5) (S := fun w' => w'.cell? ⟨w12.heap.size, 0, none⟩ = some (.slice Ao35 r17.length co35) ∧ w'.cell? ⟨w12.heap.size, 1, none⟩ = some (.int .i64 r18) ∧ w'.cell? ⟨(w.heap.size + 1 + 1), 0, none⟩ = some (.slice A2_0 l2_0.length c2_0) ∧ w'.cell? ⟨(w.heap.size + 1 + 1), 1, none⟩ = some (.int .i64 a2_1)) (ds := []) #[false, false, false, false, false] (by kernel_rfl) rfl rfl ⟨(blk_cell BK38.out 0).trans rfl, (blk_cell BK38.out 1).trans rfl, (blk_cell BK4.out 0).trans rfl, (blk_cell BK4.out 1).trans rfl⟩ (fun hHeld => ?_)
  generalize w20.drew = w21 at HB HO13 HO16 HO19 HO21 HO26 HO30 HO35 HO37 HO45 HO46 BK2 BK3 BK4 BK31 BK36 BK38 hHeld ⊢
  refine take_ (i := 0) (N := some 82) (v := ?_) (a' := ?_) #[true, false, false, false, false] rfl rfl (by kernel_rfl) (fun _ _ _ h => h) (Or.inl ⟨by rfl, ?_⟩) hHeld ?_ ?_
  rotate_left
  · rintro w' ⟨s0, s1, s2, s3⟩
    go_simp
    with_reducible rfl
  rotate_left
  · simp only [Act.put, List.setIfInBounds_toArray, List.set_cons_zero, List.set_cons_succ, i64_w, i32_w]
    rfl
  refine take_ (i := 1) (N := some 83) (v := ?_) (a' := ?_) #[true, true, false, false, false] rfl rfl (by kernel_rfl) (fun _ _ _ h => h) (Or.inl ⟨by rfl, ?_⟩) hHeld ?_ ?_
  rotate_left
  · rintro w' ⟨s0, s1, s2, s3⟩
    go_simp
    with_reducible rfl
  rotate_left
  · simp only [Act.put, List.setIfInBounds_toArray, List.set_cons_zero, List.set_cons_succ, i64_w, i32_w]
    rfl
  refine one_ (i := 2) (N := some 84) #[true, true, true, false, false] rfl rfl (by kernel_rfl) (by decide) (fun K hK => ?_)
  refine goes_ Try.func23 (by kernel_rfl) rfl #[.agg #[.slice A2_0 l2_0.length c2_0, .int .i64 a2_1]] (by rfl) rfl rfl (by (try simp only [List.map_toArray, List.map_cons, List.map_nil]); first | done | rfl | (simp only [List.length_drop, List.length_take]; rfl)) ?_
  (with_reducible refine (laws_toPlane.calls k _ _ l2_0 a2_1 r17 r18 _ ?side1 ?side2 h6.out).mono ?_)
  (case side1 => repeat (first | exact (Kd.C_below HR2_0.out HB.out) | (with_reducible refine Kd.C_alloc ?_ _) | (with_reducible refine Kd.C_drewN ?_ _) | (with_reducible refine Kd.C_drew ?_))); (case side2 => exact HC2_0.out)
  rintro e w22 ⟨v47, rfl, ho0, hb⟩; refine ⟨_, rfl, ?_⟩
  replace HO13 := Aside0.mk (Kd.R_below (by (with_reducible repeat (first | apply Kd.R_alloc | apply Kd.R_drewN | apply Kd.R_drew)); exact HO13.out) hb)
  replace HO16 := Aside0.mk (Kd.R_below (by (with_reducible repeat (first | apply Kd.R_alloc | apply Kd.R_drewN | apply Kd.R_drew)); exact HO16.out) hb)
  replace HO19 := Aside0.mk (Kd.R_below (by (with_reducible repeat (first | apply Kd.R_alloc | apply Kd.R_drewN | apply Kd.R_drew)); exact HO19.out) hb)
  replace HO21 := Aside0.mk (Kd.R_below (by (with_reducible repeat (first | apply Kd.R_alloc | apply Kd.R_drewN | apply Kd.R_drew)); exact HO21.out) hb)
  replace HO26 := Aside0.mk (Kd.R_below (by (with_reducible repeat (first | apply Kd.R_alloc | apply Kd.R_drewN | apply Kd.R_drew)); exact HO26.out) hb)
  replace HO30 := Aside0.mk (Kd.R_below (by (with_reducible repeat (first | apply Kd.R_alloc | apply Kd.R_drewN | apply Kd.R_drew)); exact HO30.out) hb)
  replace HO35 := Aside0.mk (Kd.R_below (by (with_reducible repeat (first | apply Kd.R_alloc | apply Kd.R_drewN | apply Kd.R_drew)); exact HO35.out) hb)
  replace HO37 := Aside0.mk (Kd.R_below (by (with_reducible repeat (first | apply Kd.R_alloc | apply Kd.R_drewN | apply Kd.R_drew)); exact HO37.out) hb)
  replace HO45 := Aside0.mk (Kd.R_below (by (with_reducible repeat (first | apply Kd.R_alloc | apply Kd.R_drewN | apply Kd.R_drew)); exact HO45.out) hb)
  replace HO46 := Aside0.mk (Kd.R_below (by (with_reducible repeat (first | apply Kd.R_alloc | apply Kd.R_drewN | apply Kd.R_drew)); exact HO46.out) hb)
  replace BK2 := Aside0.mk (blk_below (g := w.heap.size) (o := .cells #[.slice A0_0 l0_0.length c0_0, .int .i64 a0_1] 30 (0, 0)) (by (with_reducible repeat (first | refine blk_drewN ?_ _ | refine blk_drew ?_ | refine blk_alloc ?_ _)); exact BK2.out) hb)
  replace BK3 := Aside0.mk (blk_below (g := (w.heap.size + 1)) (o := .cells #[.slice A1_0 l1_0.length c1_0, .int .i64 a1_1] 30 (0, 0)) (by (with_reducible repeat (first | refine blk_drewN ?_ _ | refine blk_drew ?_ | refine blk_alloc ?_ _)); exact BK3.out) hb)
  replace BK4 := Aside0.mk (blk_below (g := (w.heap.size + 1 + 1)) (o := .cells #[.slice A2_0 l2_0.length c2_0, .int .i64 a2_1] 30 (0, 0)) (by (with_reducible repeat (first | refine blk_drewN ?_ _ | refine blk_drew ?_ | refine blk_alloc ?_ _)); exact BK4.out) hb)
  replace BK31 := Aside0.mk (blk_below (g := w10.heap.size) (o := .cells #[.slice Ao26 r11.length co26, .int .i64 r12] 33 (0, 0)) (by (with_reducible repeat (first | refine blk_drewN ?_ _ | refine blk_drew ?_ | refine blk_alloc ?_ _)); exact BK31.out) hb)
  replace BK36 := Aside0.mk (blk_below (g := w11.heap.size) (o := .cells #[.slice Ao30 r14.length co30, .int .i64 r15] 33 (0, 0)) (by (with_reducible repeat (first | refine blk_drewN ?_ _ | refine blk_drew ?_ | refine blk_alloc ?_ _)); exact BK36.out) hb)
  replace BK38 := Aside0.mk (blk_below (g := w12.heap.size) (o := .cells #[.slice Ao35 r17.length co35, .int .i64 r18] 33 (0, 0)) (by (with_reducible repeat (first | refine blk_drewN ?_ _ | refine blk_drew ?_ | refine blk_alloc ?_ _)); exact BK38.out) hb)
  replace HB := Aside0.mk (below_step (by repeat (first | (with_reducible first | exact HB.out | apply below_alloc | apply pw_below_drewN | apply below_drew1) | exact HB.out)) hb)
  have HO47 := Aside0.mk ho0
  clear hb ho0
  obtain ⟨Ao47, co47, eo47⟩ := Kd.R_slice HO47.out
  subst eo47
  refine hK.out _ _ ⟨(blk_cell BK38.out 0).trans rfl, (blk_cell BK38.out 1).trans rfl, (blk_cell BK4.out 0).trans rfl, (blk_cell BK4.out 1).trans rfl⟩ (fun hHeld => ?_)
  clear hK K
  refine norm_ (a' := ?_) ?_ ?_
  rotate_left
  · show Act.put _ (some 84) _ = _
    simp only [Act.put, List.setIfInBounds_toArray, List.set_cons_zero, List.set_cons_succ, i64_w, i32_w]
    rfl
  refine one_ (i := 3) (N := some 85) #[true, true, true, true, false] rfl rfl (by kernel_rfl) (by decide) (fun K hK => ?_)
  refine goes_ Try.func25 (by kernel_rfl) rfl #[.agg #[.slice Ao35 r17.length co35, .int .i64 r18], .agg #[.slice Ao47 r17.length co47, .int .i64 r18]] (by rfl) rfl rfl (by (try simp only [List.map_toArray, List.map_cons, List.map_nil]); first | done | rfl | (simp only [List.length_drop, List.length_take]; rfl)) ?_
  (with_reducible refine (laws_eqPlane.calls k _ _ r17 r18 _ _ r17 r18 true _ ?side1 ?side2 ?side3 ?side4 h12.out).mono ?_)
  (case side1 => repeat (first | exact (Kd.R_reads' HO35.out).2.2 | (with_reducible refine Kd.C_alloc ?_ _) | (with_reducible refine Kd.C_drewN ?_ _) | (with_reducible refine Kd.C_drew ?_))); (case side2 => exact (Kd.R_reads' HO35.out).2.1); (case side3 => repeat (first | exact (Kd.R_reads' HO47.out).2.2 | (with_reducible refine Kd.C_alloc ?_ _) | (with_reducible refine Kd.C_drewN ?_ _) | (with_reducible refine Kd.C_drew ?_))); (case side4 => exact (Kd.R_reads' HO47.out).2.1)
  rintro e w23 ⟨rfl, hb⟩; refine ⟨_, rfl, ?_⟩
  replace HO13 := Aside0.mk (Kd.R_below (by (with_reducible repeat (first | apply Kd.R_alloc | apply Kd.R_drewN | apply Kd.R_drew)); exact HO13.out) hb)
  replace HO16 := Aside0.mk (Kd.R_below (by (with_reducible repeat (first | apply Kd.R_alloc | apply Kd.R_drewN | apply Kd.R_drew)); exact HO16.out) hb)
  replace HO19 := Aside0.mk (Kd.R_below (by (with_reducible repeat (first | apply Kd.R_alloc | apply Kd.R_drewN | apply Kd.R_drew)); exact HO19.out) hb)
  replace HO21 := Aside0.mk (Kd.R_below (by (with_reducible repeat (first | apply Kd.R_alloc | apply Kd.R_drewN | apply Kd.R_drew)); exact HO21.out) hb)
  replace HO26 := Aside0.mk (Kd.R_below (by (with_reducible repeat (first | apply Kd.R_alloc | apply Kd.R_drewN | apply Kd.R_drew)); exact HO26.out) hb)
  replace HO30 := Aside0.mk (Kd.R_below (by (with_reducible repeat (first | apply Kd.R_alloc | apply Kd.R_drewN | apply Kd.R_drew)); exact HO30.out) hb)
  replace HO35 := Aside0.mk (Kd.R_below (by (with_reducible repeat (first | apply Kd.R_alloc | apply Kd.R_drewN | apply Kd.R_drew)); exact HO35.out) hb)
  replace HO37 := Aside0.mk (Kd.R_below (by (with_reducible repeat (first | apply Kd.R_alloc | apply Kd.R_drewN | apply Kd.R_drew)); exact HO37.out) hb)
  replace HO45 := Aside0.mk (Kd.R_below (by (with_reducible repeat (first | apply Kd.R_alloc | apply Kd.R_drewN | apply Kd.R_drew)); exact HO45.out) hb)
  replace HO46 := Aside0.mk (Kd.R_below (by (with_reducible repeat (first | apply Kd.R_alloc | apply Kd.R_drewN | apply Kd.R_drew)); exact HO46.out) hb)
  replace HO47 := Aside0.mk (Kd.R_below (by (with_reducible repeat (first | apply Kd.R_alloc | apply Kd.R_drewN | apply Kd.R_drew)); exact HO47.out) hb)
  replace BK2 := Aside0.mk (blk_below (g := w.heap.size) (o := .cells #[.slice A0_0 l0_0.length c0_0, .int .i64 a0_1] 30 (0, 0)) (by (with_reducible repeat (first | refine blk_drewN ?_ _ | refine blk_drew ?_ | refine blk_alloc ?_ _)); exact BK2.out) hb)
  replace BK3 := Aside0.mk (blk_below (g := (w.heap.size + 1)) (o := .cells #[.slice A1_0 l1_0.length c1_0, .int .i64 a1_1] 30 (0, 0)) (by (with_reducible repeat (first | refine blk_drewN ?_ _ | refine blk_drew ?_ | refine blk_alloc ?_ _)); exact BK3.out) hb)
  replace BK4 := Aside0.mk (blk_below (g := (w.heap.size + 1 + 1)) (o := .cells #[.slice A2_0 l2_0.length c2_0, .int .i64 a2_1] 30 (0, 0)) (by (with_reducible repeat (first | refine blk_drewN ?_ _ | refine blk_drew ?_ | refine blk_alloc ?_ _)); exact BK4.out) hb)
  replace BK31 := Aside0.mk (blk_below (g := w10.heap.size) (o := .cells #[.slice Ao26 r11.length co26, .int .i64 r12] 33 (0, 0)) (by (with_reducible repeat (first | refine blk_drewN ?_ _ | refine blk_drew ?_ | refine blk_alloc ?_ _)); exact BK31.out) hb)
  replace BK36 := Aside0.mk (blk_below (g := w11.heap.size) (o := .cells #[.slice Ao30 r14.length co30, .int .i64 r15] 33 (0, 0)) (by (with_reducible repeat (first | refine blk_drewN ?_ _ | refine blk_drew ?_ | refine blk_alloc ?_ _)); exact BK36.out) hb)
  replace BK38 := Aside0.mk (blk_below (g := w12.heap.size) (o := .cells #[.slice Ao35 r17.length co35, .int .i64 r18] 33 (0, 0)) (by (with_reducible repeat (first | refine blk_drewN ?_ _ | refine blk_drew ?_ | refine blk_alloc ?_ _)); exact BK38.out) hb)
  replace HB := Aside0.mk (below_step (by repeat (first | (with_reducible first | exact HB.out | apply below_alloc | apply pw_below_drewN | apply below_drew1) | exact HB.out)) hb)
  clear hb
  refine hK.out _ _ ⟨(blk_cell BK38.out 0).trans rfl, (blk_cell BK38.out 1).trans rfl, (blk_cell BK4.out 0).trans rfl, (blk_cell BK4.out 1).trans rfl⟩ (fun hHeld => ?_)
  clear hK K
  refine norm_ (a' := ?_) ?_ ?_
  rotate_left
  · show Act.put _ (some 85) _ = _
    simp only [Act.put, List.setIfInBounds_toArray, List.set_cons_zero, List.set_cons_succ, i64_w, i32_w]
    rfl
  refine pure_ (i := 4) (N := some 86) (v := ?_) (a' := ?_) #[true, true, true, true, true] rfl rfl (by kernel_rfl) (fun _ _ _ h => h) (Or.inl ⟨by rfl, ?_⟩) ?_ ?_
  rotate_left
  · intro w'
    go_simp
    with_reducible rfl
  rotate_left
  · simp only [Act.put, List.setIfInBounds_toArray, List.set_cons_zero, List.set_cons_succ, i64_w, i32_w]
    rfl
  refine done_ (by kernel_rfl) ?_
  go_wp2_with (fail)
  (with_reducible refine (laws_toIntS.calls k _ _ l3 r20 _ ?side1 ?side2 h7.out).mono ?_)
  (case side1 => repeat (first | exact (Kd.C_below HR3.out HB.out) | (with_reducible refine Kd.C_alloc ?_ _) | (with_reducible refine Kd.C_drewN ?_ _) | (with_reducible refine Kd.C_drew ?_))); (case side2 => exact HC3.out)
  rintro e w24 ⟨v48, rfl, ho0, hb⟩
  replace HO13 := Aside0.mk (Kd.R_below (by (with_reducible repeat (first | apply Kd.R_alloc | apply Kd.R_drewN | apply Kd.R_drew)); exact HO13.out) hb)
  replace HO16 := Aside0.mk (Kd.R_below (by (with_reducible repeat (first | apply Kd.R_alloc | apply Kd.R_drewN | apply Kd.R_drew)); exact HO16.out) hb)
  replace HO19 := Aside0.mk (Kd.R_below (by (with_reducible repeat (first | apply Kd.R_alloc | apply Kd.R_drewN | apply Kd.R_drew)); exact HO19.out) hb)
  replace HO21 := Aside0.mk (Kd.R_below (by (with_reducible repeat (first | apply Kd.R_alloc | apply Kd.R_drewN | apply Kd.R_drew)); exact HO21.out) hb)
  replace HO26 := Aside0.mk (Kd.R_below (by (with_reducible repeat (first | apply Kd.R_alloc | apply Kd.R_drewN | apply Kd.R_drew)); exact HO26.out) hb)
  replace HO30 := Aside0.mk (Kd.R_below (by (with_reducible repeat (first | apply Kd.R_alloc | apply Kd.R_drewN | apply Kd.R_drew)); exact HO30.out) hb)
  replace HO35 := Aside0.mk (Kd.R_below (by (with_reducible repeat (first | apply Kd.R_alloc | apply Kd.R_drewN | apply Kd.R_drew)); exact HO35.out) hb)
  replace HO37 := Aside0.mk (Kd.R_below (by (with_reducible repeat (first | apply Kd.R_alloc | apply Kd.R_drewN | apply Kd.R_drew)); exact HO37.out) hb)
  replace HO45 := Aside0.mk (Kd.R_below (by (with_reducible repeat (first | apply Kd.R_alloc | apply Kd.R_drewN | apply Kd.R_drew)); exact HO45.out) hb)
  replace HO46 := Aside0.mk (Kd.R_below (by (with_reducible repeat (first | apply Kd.R_alloc | apply Kd.R_drewN | apply Kd.R_drew)); exact HO46.out) hb)
  replace HO47 := Aside0.mk (Kd.R_below (by (with_reducible repeat (first | apply Kd.R_alloc | apply Kd.R_drewN | apply Kd.R_drew)); exact HO47.out) hb)
  replace BK2 := Aside0.mk (blk_below (g := w.heap.size) (o := .cells #[.slice A0_0 l0_0.length c0_0, .int .i64 a0_1] 30 (0, 0)) (by (with_reducible repeat (first | refine blk_drewN ?_ _ | refine blk_drew ?_ | refine blk_alloc ?_ _)); exact BK2.out) hb)
  replace BK3 := Aside0.mk (blk_below (g := (w.heap.size + 1)) (o := .cells #[.slice A1_0 l1_0.length c1_0, .int .i64 a1_1] 30 (0, 0)) (by (with_reducible repeat (first | refine blk_drewN ?_ _ | refine blk_drew ?_ | refine blk_alloc ?_ _)); exact BK3.out) hb)
  replace BK4 := Aside0.mk (blk_below (g := (w.heap.size + 1 + 1)) (o := .cells #[.slice A2_0 l2_0.length c2_0, .int .i64 a2_1] 30 (0, 0)) (by (with_reducible repeat (first | refine blk_drewN ?_ _ | refine blk_drew ?_ | refine blk_alloc ?_ _)); exact BK4.out) hb)
  replace BK31 := Aside0.mk (blk_below (g := w10.heap.size) (o := .cells #[.slice Ao26 r11.length co26, .int .i64 r12] 33 (0, 0)) (by (with_reducible repeat (first | refine blk_drewN ?_ _ | refine blk_drew ?_ | refine blk_alloc ?_ _)); exact BK31.out) hb)
  replace BK36 := Aside0.mk (blk_below (g := w11.heap.size) (o := .cells #[.slice Ao30 r14.length co30, .int .i64 r15] 33 (0, 0)) (by (with_reducible repeat (first | refine blk_drewN ?_ _ | refine blk_drew ?_ | refine blk_alloc ?_ _)); exact BK36.out) hb)
  replace BK38 := Aside0.mk (blk_below (g := w12.heap.size) (o := .cells #[.slice Ao35 r17.length co35, .int .i64 r18] 33 (0, 0)) (by (with_reducible repeat (first | refine blk_drewN ?_ _ | refine blk_drew ?_ | refine blk_alloc ?_ _)); exact BK38.out) hb)
  replace HB := Aside0.mk (below_step (by repeat (first | (with_reducible first | exact HB.out | apply below_alloc | apply pw_below_drewN | apply below_drew1) | exact HB.out)) hb)
  have HO48 := Aside0.mk ho0
  clear hb ho0
  obtain ⟨Ao48, co48, eo48⟩ := Kd.R_slice HO48.out
  subst eo48
  go_wp2_with (fail)
  (with_reducible refine (laws_eqIntS.calls k _ _ r20 _ _ r20 true _ ?side1 ?side2 ?side3 ?side4 h13.out).mono ?_)
  (case side1 => repeat (first | exact (Kd.R_reads' HO37.out).2.2 | (with_reducible refine Kd.C_alloc ?_ _) | (with_reducible refine Kd.C_drewN ?_ _) | (with_reducible refine Kd.C_drew ?_))); (case side2 => exact (Kd.R_reads' HO37.out).2.1); (case side3 => repeat (first | exact (Kd.R_reads' HO48.out).2.2 | (with_reducible refine Kd.C_alloc ?_ _) | (with_reducible refine Kd.C_drewN ?_ _) | (with_reducible refine Kd.C_drew ?_))); (case side4 => exact (Kd.R_reads' HO48.out).2.1)
  rintro e w25 ⟨rfl, hd⟩
  have hb := hd.below
  replace HO13 := Aside0.mk (Kd.R_below (by (with_reducible repeat (first | apply Kd.R_alloc | apply Kd.R_drewN | apply Kd.R_drew)); exact HO13.out) hb)
  replace HO16 := Aside0.mk (Kd.R_below (by (with_reducible repeat (first | apply Kd.R_alloc | apply Kd.R_drewN | apply Kd.R_drew)); exact HO16.out) hb)
  replace HO19 := Aside0.mk (Kd.R_below (by (with_reducible repeat (first | apply Kd.R_alloc | apply Kd.R_drewN | apply Kd.R_drew)); exact HO19.out) hb)
  replace HO21 := Aside0.mk (Kd.R_below (by (with_reducible repeat (first | apply Kd.R_alloc | apply Kd.R_drewN | apply Kd.R_drew)); exact HO21.out) hb)
  replace HO26 := Aside0.mk (Kd.R_below (by (with_reducible repeat (first | apply Kd.R_alloc | apply Kd.R_drewN | apply Kd.R_drew)); exact HO26.out) hb)
  replace HO30 := Aside0.mk (Kd.R_below (by (with_reducible repeat (first | apply Kd.R_alloc | apply Kd.R_drewN | apply Kd.R_drew)); exact HO30.out) hb)
  replace HO35 := Aside0.mk (Kd.R_below (by (with_reducible repeat (first | apply Kd.R_alloc | apply Kd.R_drewN | apply Kd.R_drew)); exact HO35.out) hb)
  replace HO37 := Aside0.mk (Kd.R_below (by (with_reducible repeat (first | apply Kd.R_alloc | apply Kd.R_drewN | apply Kd.R_drew)); exact HO37.out) hb)
  replace HO45 := Aside0.mk (Kd.R_below (by (with_reducible repeat (first | apply Kd.R_alloc | apply Kd.R_drewN | apply Kd.R_drew)); exact HO45.out) hb)
  replace HO46 := Aside0.mk (Kd.R_below (by (with_reducible repeat (first | apply Kd.R_alloc | apply Kd.R_drewN | apply Kd.R_drew)); exact HO46.out) hb)
  replace HO47 := Aside0.mk (Kd.R_below (by (with_reducible repeat (first | apply Kd.R_alloc | apply Kd.R_drewN | apply Kd.R_drew)); exact HO47.out) hb)
  replace HO48 := Aside0.mk (Kd.R_below (by (with_reducible repeat (first | apply Kd.R_alloc | apply Kd.R_drewN | apply Kd.R_drew)); exact HO48.out) hb)
  replace BK2 := Aside0.mk (blk_below (g := w.heap.size) (o := .cells #[.slice A0_0 l0_0.length c0_0, .int .i64 a0_1] 30 (0, 0)) (by (with_reducible repeat (first | refine blk_drewN ?_ _ | refine blk_drew ?_ | refine blk_alloc ?_ _)); exact BK2.out) hb)
  replace BK3 := Aside0.mk (blk_below (g := (w.heap.size + 1)) (o := .cells #[.slice A1_0 l1_0.length c1_0, .int .i64 a1_1] 30 (0, 0)) (by (with_reducible repeat (first | refine blk_drewN ?_ _ | refine blk_drew ?_ | refine blk_alloc ?_ _)); exact BK3.out) hb)
  replace BK4 := Aside0.mk (blk_below (g := (w.heap.size + 1 + 1)) (o := .cells #[.slice A2_0 l2_0.length c2_0, .int .i64 a2_1] 30 (0, 0)) (by (with_reducible repeat (first | refine blk_drewN ?_ _ | refine blk_drew ?_ | refine blk_alloc ?_ _)); exact BK4.out) hb)
  replace BK31 := Aside0.mk (blk_below (g := w10.heap.size) (o := .cells #[.slice Ao26 r11.length co26, .int .i64 r12] 33 (0, 0)) (by (with_reducible repeat (first | refine blk_drewN ?_ _ | refine blk_drew ?_ | refine blk_alloc ?_ _)); exact BK31.out) hb)
  replace BK36 := Aside0.mk (blk_below (g := w11.heap.size) (o := .cells #[.slice Ao30 r14.length co30, .int .i64 r15] 33 (0, 0)) (by (with_reducible repeat (first | refine blk_drewN ?_ _ | refine blk_drew ?_ | refine blk_alloc ?_ _)); exact BK36.out) hb)
  replace BK38 := Aside0.mk (blk_below (g := w12.heap.size) (o := .cells #[.slice Ao35 r17.length co35, .int .i64 r18] 33 (0, 0)) (by (with_reducible repeat (first | refine blk_drewN ?_ _ | refine blk_drew ?_ | refine blk_alloc ?_ _)); exact BK38.out) hb)
  replace HB := Aside0.mk (below_step (by repeat (first | (with_reducible first | exact HB.out | apply below_alloc | apply pw_below_drewN | apply below_drew1) | exact HB.out)) hb)
  clear hd hb
  go_wp2_with (fail)
  go_ret
  exact ⟨rfl, (by repeat (first | (with_reducible first | exact HB.out | apply below_alloc | apply pw_below_drewN | apply below_drew1) | exact HB.out))⟩

end Go.Proofs.Ytihnijfgdffhjaa.GFnExactChoiceSide
