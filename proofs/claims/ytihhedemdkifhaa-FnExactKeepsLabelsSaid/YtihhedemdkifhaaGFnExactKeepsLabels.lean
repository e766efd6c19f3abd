import Derived.Test.YtihhedemdkifhaaPFnExactKeepsLabelsx
import Derived.Test.YtihhedemdkifhaaKFnExactKeepsLabels
import Derived.Test.YtihhedemdkifhaaMc
import Derived.Test.YtihhedemdkifhaaSh
namespace Go.Proofs.Ytihhedemdkifhaa.GFnExactKeepsLabels
open Go.RowKit Go.Proofs.Ytihhedemdkifhaa.Sh Go.Proofs.Ytihhedemdkifhaa.KFnExactKeepsLabels Go.Proofs.Ytihhedemdkifhaa.Mc Go.Proofs.Ytihhedemdkifhaa.PFnExactKeepsLabels Go.Proofs.YtihhedemdkifhaaW.PrintWords Go.Proofs.YtihhedemdkifhaaW.PrintLast Go.Proofs.YtihhedemdkifhaaW.PrintMore
set_option linter.unusedVariables false
set_option linter.unusedSimpArgs false
set_option maxHeartbeats 8000000 in
set_option maxRecDepth 100000 in
theorem big0 (k : Nat) (A0_0 : Option Addr) (c0_0 : Nat) (l0_0 : List (List Int)) (A0_1 : Option Addr) (c0_1 : Nat) (l0_1 : List Int) (A1 : Option Addr) (c1 : Nat) (l1 : List Int)  (w : World) (hr0_0 : Kd.C (Kd.slice 3 (Kd.int .i64)) w A0_0 l0_0.length l0_0) (hc0_0 : l0_0.length ≤ c0_0) (hr0_1 : Kd.C (Kd.int .i64) w A0_1 l0_1.length l0_1) (hc0_1 : l0_1.length ≤ c0_1) (hr1 : Kd.C (Kd.int .i64) w A1 l1.length l1) (hc1 : l1.length ≤ c1)  (q0 : 1048576 < l1.length) :
 Calls Try.prog 7 #[.agg #[.slice A0_0 l0_0.length c0_0, .slice A0_1 l0_1.length c0_1], .slice A1 l1.length c1] w fun e w' => e = .returned (.bool true) ∧ Below w.heap.size w w' := by
 have HR0_0 := Aside0.mk hr0_0
 have HC0_0 := Aside0.mk hc0_0
 clear hr0_0 hc0_0
 have HR0_1 := Aside0.mk hr0_1
 have HC0_1 := Aside0.mk hc0_1
 clear hr0_1 hc0_1
 have HR1 := Aside0.mk hr1
 have HC1 := Aside0.mk hc1
 clear hr1 hc1
 have HB := Aside0.mk (Below.refl w.heap.size w)
 have d0 : decide (1048576 < l1.length) = true := decide_eq_true (by omega)
 have e0 : decide ((l1.length : Int) > 1048576) = true := decide_eq_true (by omega)
 clear q0
 go_enter Try.func7, Try.ntmps7
 go_wp2_with (fail)
 go_ret
 exact ⟨rfl, (bB HB)⟩


set_option maxHeartbeats 8000000 in
set_option maxRecDepth 100000 in
theorem big1 (k : Nat) (A0_0 : Option Addr) (c0_0 : Nat) (l0_0 : List (List Int)) (A0_1 : Option Addr) (c0_1 : Nat) (l0_1 : List Int) (A1 : Option Addr) (c1 : Nat) (l1 : List Int) (r1 : Int) (w : World) (hr0_0 : Kd.C (Kd.slice 3 (Kd.int .i64)) w A0_0 l0_0.length l0_0) (hc0_0 : l0_0.length ≤ c0_0) (hr0_1 : Kd.C (Kd.int .i64) w A0_1 l0_1.length l0_1) (hc0_1 : l0_1.length ≤ c0_1) (hr1 : Kd.C (Kd.int .i64) w A1 l1.length l1) (hc1 : l1.length ≤ c1) (h1 : laws_szSample.f k l0_0 l0_1 1048576 = some r1) (q0 : l1.length ≤ 1048576) (q1 : r1 < 0) :
 Calls Try.prog 7 #[.agg #[.slice A0_0 l0_0.length c0_0, .slice A0_1 l0_1.length c0_1], .slice A1 l1.length c1] w fun e w' => e = .returned (.bool true) ∧ Below w.heap.size w w' := by
 have HR0_0 := Aside0.mk hr0_0
 have HC0_0 := Aside0.mk hc0_0
 clear hr0_0 hc0_0
 have HR0_1 := Aside0.mk hr0_1
 have HC0_1 := Aside0.mk hc0_1
 clear hr0_1 hc0_1
 have HR1 := Aside0.mk hr1
 have HC1 := Aside0.mk hc1
 clear hr1 hc1
 have HB := Aside0.mk (Below.refl w.heap.size w)
 replace h1 := Aside0.mk h1
 have d0 : decide (1048576 < l1.length) = false := decide_eq_false (by omega)
 have e0 : decide ((l1.length : Int) > 1048576) = false := decide_eq_false (by omega)
 have d1 : decide (r1 < 0) = true := decide_eq_true (by omega)
 clear q0 q1
 go_enter Try.func7, Try.ntmps7
 go_wp2_with (fail)
 (with_reducible refine (laws_szSample.calls k _ _ l0_0 _ _ l0_1 1048576 r1 _ ?side1 ?side2 ?side3 ?side4 h1.out).mono ?_)
 (case side1 => exact cB HR0_0 HB); (case side2 => exact HC0_0.out); (case side3 => exact cB HR0_1 HB); (case side4 => exact HC0_1.out)
 rintro e w1 ⟨rfl, hb⟩
 have BK2 := Aside0.mk (blk_below (g := w.heap.size) (o := .cells #[.slice A0_0 l0_0.length c0_0, .slice A0_1 l0_1.length c0_1] 45 (0, 0)) (by repeat (first | exact blk_at _ (by first | rfl | (simp; done)) | refine blk_alloc ?_ _ | refine blk_drew ?_ | refine blk_drewN ?_ _)) hb)
 replace HB := Aside0.mk (below_step (bB HB) hb)
 clear hb
 have hcz3 : w1.cell? ⟨w.heap.size, 0, none⟩ = some (.slice A0_0 l0_0.length c0_0) := (blk_cell BK2.out 0).trans rfl
 have hcz4 : w1.cell? ⟨w.heap.size, 1, none⟩ = some (.slice A0_1 l0_1.length c0_1) := (blk_cell BK2.out 1).trans rfl
 go_wp2_with (fail)
 go_ret
 exact ⟨rfl, (bB HB)⟩


set_option maxHeartbeats 8000000 in
set_option maxRecDepth 100000 in
theorem good (k : Nat) (A0_0 : Option Addr) (c0_0 : Nat) (l0_0 : List (List Int)) (A0_1 : Option Addr) (c0_1 : Nat) (l0_1 : List Int) (A1 : Option Addr) (c1 : Nat) (l1 : List Int) (r1 : Int) (r5 : List (List Int)) (r6 : List Int) (r9 : List Int) (r11 : Bool) (r12 : Bool) (w : World) (hr0_0 : Kd.C (Kd.slice 3 (Kd.int .i64)) w A0_0 l0_0.length l0_0) (hc0_0 : l0_0.length ≤ c0_0) (hr0_1 : Kd.C (Kd.int .i64) w A0_1 l0_1.length l0_1) (hc0_1 : l0_1.length ≤ c0_1) (hr1 : Kd.C (Kd.int .i64) w A1 l1.length l1) (hc1 : l1.length ≤ c1) (h1 : laws_szSample.f k l0_0 l0_1 1048576 = some r1) (h2 : laws_toSample.f k l0_0 l0_1 = some (r5, r6)) (h3 : laws_toIntS.f k l1 = some r9) (h4 : spec_KeepsLabels.f k r5 r6 r9 = some (r11, r12)) (h5 : impl_KeepsLabels.f k r5 r6 r9 = some (r11, r12)) (h6 : laws_eqSample.f k r5 r6 r5 r6 = some true) (h7 : laws_eqIntS.f k r9 r9 = some true) (q0 : l1.length ≤ 1048576) (q1 : 0 ≤ r1) :
 Calls Try.prog 7 #[.agg #[.slice A0_0 l0_0.length c0_0, .slice A0_1 l0_1.length c0_1], .slice A1 l1.length c1] w fun e w' => e = .returned (.bool true) ∧ Below w.heap.size w w' := by
 have HR0_0 := Aside0.mk hr0_0
 have HC0_0 := Aside0.mk hc0_0
 clear hr0_0 hc0_0
 have HR0_1 := Aside0.mk hr0_1
 have HC0_1 := Aside0.mk hc0_1
 clear hr0_1 hc0_1
 have HR1 := Aside0.mk hr1
 have HC1 := Aside0.mk hc1
 clear hr1 hc1
 have HB := Aside0.mk (Below.refl w.heap.size w)
 replace h1 := Aside0.mk h1
 replace h2 := Aside0.mk h2
 replace h3 := Aside0.mk h3
 replace h4 := Aside0.mk h4
 replace h5 := Aside0.mk h5
 replace h6 := Aside0.mk h6
 replace h7 := Aside0.mk h7
 have d0 : decide (1048576 < l1.length) = false := decide_eq_false (by omega)
 have e0 : decide ((l1.length : Int) > 1048576) = false := decide_eq_false (by omega)
 have d1 : decide (r1 < 0) = false := decide_eq_false (by omega)
 clear q0 q1
 go_enter Try.func7, Try.ntmps7
 go_wp2_with (fail)
 (with_reducible refine (laws_szSample.calls k _ _ l0_0 _ _ l0_1 1048576 r1 _ ?side1 ?side2 ?side3 ?side4 h1.out).mono ?_)
 (case side1 => exact cB HR0_0 HB); (case side2 => exact HC0_0.out); (case side3 => exact cB HR0_1 HB); (case side4 => exact HC0_1.out)
 rintro e w1 ⟨rfl, hb⟩
 have BK2 := Aside0.mk (blk_below (g := w.heap.size) (o := .cells #[.slice A0_0 l0_0.length c0_0, .slice A0_1 l0_1.length c0_1] 45 (0, 0)) (by repeat (first | exact blk_at _ (by first | rfl | (simp; done)) | refine blk_alloc ?_ _ | refine blk_drew ?_ | refine blk_drewN ?_ _)) hb)
 replace HB := Aside0.mk (below_step (bB HB) hb)
 clear hb
 have hcz3 : w1.cell? ⟨w.heap.size, 0, none⟩ = some (.slice A0_0 l0_0.length c0_0) := (blk_cell BK2.out 0).trans rfl
 have hcz4 : w1.cell? ⟨w.heap.size, 1, none⟩ = some (.slice A0_1 l0_1.length c0_1) := (blk_cell BK2.out 1).trans rfl
 go_wp2_with (fail)
 (with_reducible refine (laws_toSample.calls k _ _ l0_0 _ _ l0_1 r5 r6 _ ?side1 ?side2 ?side3 ?side4 h2.out).mono ?_)
 (case side1 => exact cB HR0_0 HB); (case side2 => exact HC0_0.out); (case side3 => exact cB HR0_1 HB); (case side4 => exact HC0_1.out)
 rintro e w2 ⟨v7, v8, rfl, ho0, ho1, hb⟩
 replace BK2 := Aside0.mk (blk_below (g := w.heap.size) (o := .cells #[.slice A0_0 l0_0.length c0_0, .slice A0_1 l0_1.length c0_1] 45 (0, 0)) (pB BK2) hb)
 replace HB := Aside0.mk (below_step (bB HB) hb)
 have HO7 := Aside0.mk ho0
 have HO8 := Aside0.mk ho1
 clear hb ho0 ho1
 obtain ⟨Ao7, co7, eo7⟩ := Kd.S_slice HO7.out
 subst eo7
 obtain ⟨Ao8, co8, eo8⟩ := Kd.R_slice HO8.out
 subst eo8
 clear hcz3 hcz4
 go_wp2_with (fail)
 (with_reducible refine (laws_toIntS.calls k _ _ l1 r9 _ ?side1 ?side2 h3.out).mono ?_)
 (case side1 => exact cB HR1 HB); (case side2 => exact HC1.out)
 rintro e w3 ⟨v10, rfl, ho0, hb⟩
 replace HO7 := Aside0.mk (Kd.S_below (pS HO7) hb)
 replace HO8 := Aside0.mk (Kd.R_below (pR HO8) hb)
 replace BK2 := Aside0.mk (blk_below (g := w.heap.size) (o := .cells #[.slice A0_0 l0_0.length c0_0, .slice A0_1 l0_1.length c0_1] 45 (0, 0)) (pB BK2) hb)
 replace HB := Aside0.mk (below_step (bB HB) hb)
 have HO10 := Aside0.mk ho0
 clear hb ho0
 obtain ⟨Ao10, co10, eo10⟩ := Kd.R_slice HO10.out
 subst eo10
 go_wp2_with (fail)
 (with_reducible refine (spec_KeepsLabels.calls k _ _ r5 _ _ r6 _ _ r9 r11 r12 _ ?side1 ?side2 ?side3 ?side4 ?side5 ?side6 h4.out).mono ?_)
 (case side1 => exact cS HO7); (case side2 => exact (Kd.S_reads' HO7.out).2.1); (case side3 => exact cR HO8); (case side4 => exact (Kd.R_reads' HO8.out).2.1); (case side5 => exact cR HO10); (case side6 => exact (Kd.R_reads' HO10.out).2.1)
 rintro e w4 ⟨rfl, hb⟩
 replace HO7 := Aside0.mk (Kd.S_below (pS HO7) hb)
 replace HO8 := Aside0.mk (Kd.R_below (pR HO8) hb)
 replace HO10 := Aside0.mk (Kd.R_below (pR HO10) hb)
 replace BK2 := Aside0.mk (blk_below (g := w.heap.size) (o := .cells #[.slice A0_0 l0_0.length c0_0, .slice A0_1 l0_1.length c0_1] 45 (0, 0)) (pB BK2) hb)
 replace HB := Aside0.mk (below_step (bB HB) hb)
 clear hb
 have hcz13 : w4.cell? ⟨w.heap.size, 0, none⟩ = some (.slice A0_0 l0_0.length c0_0) := (blk_cell BK2.out 0).trans rfl
 have hcz14 : w4.cell? ⟨w.heap.size, 1, none⟩ = some (.slice A0_1 l0_1.length c0_1) := (blk_cell BK2.out 1).trans rfl
 go_wp2_with (fail)
 (with_reducible refine (laws_toSample.calls k _ _ l0_0 _ _ l0_1 r5 r6 _ ?side1 ?side2 ?side3 ?side4 h2.out).mono ?_)
 (case side1 => exact cB HR0_0 HB); (case side2 => exact HC0_0.out); (case side3 => exact cB HR0_1 HB); (case side4 => exact HC0_1.out)
 rintro e w5 ⟨v15, v16, rfl, ho0, ho1, hb⟩
 replace BK2 := Aside0.mk (blk_below (g := w.heap.size) (o := .cells #[.slice A0_0 l0_0.length c0_0, .slice A0_1 l0_1.length c0_1] 45 (0, 0)) (pB BK2) hb)
 replace HB := Aside0.mk (below_step (bB HB) hb)
 have HO15 := Aside0.mk ho0
 have HO16 := Aside0.mk ho1
 clear hb ho0 ho1
 obtain ⟨Ao15, co15, eo15⟩ := Kd.S_slice HO15.out
 subst eo15
 obtain ⟨Ao16, co16, eo16⟩ := Kd.R_slice HO16.out
 subst eo16
 clear hcz13 hcz14
 go_wp2_with (fail)
 (with_reducible refine (laws_toIntS.calls k _ _ l1 r9 _ ?side1 ?side2 h3.out).mono ?_)
 (case side1 => exact cB HR1 HB); (case side2 => exact HC1.out)
 rintro e w6 ⟨v17, rfl, ho0, hb⟩
 replace HO15 := Aside0.mk (Kd.S_below (pS HO15) hb)
 replace HO16 := Aside0.mk (Kd.R_below (pR HO16) hb)
 replace BK2 := Aside0.mk (blk_below (g := w.heap.size) (o := .cells #[.slice A0_0 l0_0.length c0_0, .slice A0_1 l0_1.length c0_1] 45 (0, 0)) (pB BK2) hb)
 have BK18 := Aside0.mk (blk_below (g := w5.heap.size) (o := .cells #[.slice Ao15 r5.length co15, .slice Ao16 r6.length co16] 49 (0, 0)) (by repeat (first | exact blk_at _ (by first | rfl | (simp; done)) | refine blk_alloc ?_ _ | refine blk_drew ?_ | refine blk_drewN ?_ _)) hb)
 replace HB := Aside0.mk (below_step (bB HB) hb)
 have HO17 := Aside0.mk ho0
 clear hb ho0
 obtain ⟨Ao17, co17, eo17⟩ := Kd.R_slice HO17.out
 subst eo17
 have hcz19 : w6.cell? ⟨w5.heap.size, 0, none⟩ = some (.slice Ao15 r5.length co15) := (blk_cell BK18.out 0).trans rfl
 have hcz20 : w6.cell? ⟨w5.heap.size, 1, none⟩ = some (.slice Ao16 r6.length co16) := (blk_cell BK18.out 1).trans rfl
 go_wp2_with (fail)
 (with_reducible refine (impl_KeepsLabels.calls k _ _ r5 _ _ r6 _ _ r9 r11 r12 _ ?side1 ?side2 ?side3 ?side4 ?side5 ?side6 h5.out).mono ?_)
 (case side1 => exact cS HO15); (case side2 => exact (Kd.S_reads' HO15.out).2.1); (case side3 => exact cR HO16); (case side4 => exact (Kd.R_reads' HO16.out).2.1); (case side5 => exact cR HO17); (case side6 => exact (Kd.R_reads' HO17.out).2.1)
 rintro e w7 ⟨rfl, hb⟩
 replace HO15 := Aside0.mk (Kd.S_below (pS HO15) hb)
 replace HO16 := Aside0.mk (Kd.R_below (pR HO16) hb)
 replace HO17 := Aside0.mk (Kd.R_below (pR HO17) hb)
 replace BK2 := Aside0.mk (blk_below (g := w.heap.size) (o := .cells #[.slice A0_0 l0_0.length c0_0, .slice A0_1 l0_1.length c0_1] 45 (0, 0)) (pB BK2) hb)
 replace BK18 := Aside0.mk (blk_below (g := w5.heap.size) (o := .cells #[.slice Ao15 r5.length co15, .slice Ao16 r6.length co16] 49 (0, 0)) (pB BK18) hb)
 replace HB := Aside0.mk (below_step (bB HB) hb)
 clear hb
 clear hcz19 hcz20
 go_wp2_with (fail)
 replace HO15 := Aside0.mk (Kd.S_drew HO15.out)
 replace HO16 := Aside0.mk (Kd.R_drew HO16.out)
 replace HO17 := Aside0.mk (Kd.R_drew HO17.out)
 replace BK2 := Aside0.mk (blk_drew BK2.out)
 replace BK18 := Aside0.mk (blk_drew BK18.out)
 replace HB := Aside0.mk (below_drew1 HB.out)
 refine start_ (n := 5) (S := fun w' => w'.cell? ⟨w5.heap.size, 0, none⟩ = some (.slice Ao15 r5.length co15) ∧ w'.cell? ⟨w5.heap.size, 1, none⟩ = some (.slice Ao16 r6.length co16) ∧ w'.cell? ⟨w.heap.size, 0, none⟩ = some (.slice A0_0 l0_0.length c0_0) ∧ w'.cell? ⟨w.heap.size, 1, none⟩ = some (.slice A0_1 l0_1.length c0_1)) (ds := []) #[false, false, false, false, false] (by kernel_rfl) rfl rfl ⟨(blk_cell BK18.out 0).trans rfl, (blk_cell BK18.out 1).trans rfl, (blk_cell BK2.out 0).trans rfl, (blk_cell BK2.out 1).trans rfl⟩ (fun hHeld => ?_)
 generalize w7.drew = w8 at HB HO15 HO16 HO17 BK2 BK18 hHeld ⊢
 refine take_ (i := 0) (N := some 46) (v := ?_) (a' := ?_) #[true, false, false, false, false] rfl rfl (by kernel_rfl) (fun _ _ _ h => h) (Or.inl ⟨by rfl, ?_⟩) hHeld ?_ ?_
 rotate_left
 · rintro w' ⟨s0, s1, s2, s3⟩
   go_simp
   with_reducible rfl
 rotate_left
 · exact aP
 refine take_ (i := 1) (N := some 47) (v := ?_) (a' := ?_) #[true, true, false, false, false] rfl rfl (by kernel_rfl) (fun _ _ _ h => h) (Or.inl ⟨by rfl, ?_⟩) hHeld ?_ ?_
 rotate_left
 · rintro w' ⟨s0, s1, s2, s3⟩
   go_simp
   with_reducible rfl
 rotate_left
 · exact aP
 refine one_ (i := 2) (N := some 48) #[true, true, true, false, false] rfl rfl (by kernel_rfl) (by decide) (fun K hK => ?_)
 refine goes_ Try.func31 (by kernel_rfl) rfl #[.agg #[.slice A0_0 l0_0.length c0_0, .slice A0_1 l0_1.length c0_1]] (by rfl) rfl rfl aT ?_
 (with_reducible refine (laws_toSample.calls k _ _ l0_0 _ _ l0_1 r5 r6 _ ?side1 ?side2 ?side3 ?side4 h2.out).mono ?_)
 (case side1 => exact cB HR0_0 HB); (case side2 => exact HC0_0.out); (case side3 => exact cB HR0_1 HB); (case side4 => exact HC0_1.out)
 rintro e w9 ⟨v21, v22, rfl, ho0, ho1, hb⟩; refine ⟨_, rfl, ?_⟩
 replace HO15 := Aside0.mk (Kd.S_below (pS HO15) hb)
 replace HO16 := Aside0.mk (Kd.R_below (pR HO16) hb)
 replace HO17 := Aside0.mk (Kd.R_below (pR HO17) hb)
 replace BK2 := Aside0.mk (blk_below (g := w.heap.size) (o := .cells #[.slice A0_0 l0_0.length c0_0, .slice A0_1 l0_1.length c0_1] 45 (0, 0)) (pB BK2) hb)
 replace BK18 := Aside0.mk (blk_below (g := w5.heap.size) (o := .cells #[.slice Ao15 r5.length co15, .slice Ao16 r6.length co16] 49 (0, 0)) (pB BK18) hb)
 replace HB := Aside0.mk (below_step (bB HB) hb)
 have HO21 := Aside0.mk ho0
 have HO22 := Aside0.mk ho1
 clear hb ho0 ho1
 obtain ⟨Ao21, co21, eo21⟩ := Kd.S_slice HO21.out
 subst eo21
 obtain ⟨Ao22, co22, eo22⟩ := Kd.R_slice HO22.out
 subst eo22
 refine hK.out _ _ ⟨(blk_cell BK18.out 0).trans rfl, (blk_cell BK18.out 1).trans rfl, (blk_cell BK2.out 0).trans rfl, (blk_cell BK2.out 1).trans rfl⟩ (fun hHeld => ?_)
 clear hK K
 refine norm_ (a' := ?_) ?_ ?_
 rotate_left
 · show Act.put _ (some 48) _ = _
   simp only [Act.put, List.setIfInBounds_toArray, List.set_cons_zero, List.set_cons_succ, i64_w, i32_w]
   rfl
 refine one_ (i := 3) (N := some 49) #[true, true, true, true, false] rfl rfl (by kernel_rfl) (by decide) (fun K hK => ?_)
 refine goes_ Try.func33 (by kernel_rfl) rfl #[.agg #[.slice Ao15 r5.length co15, .slice Ao16 r6.length co16], .agg #[.slice Ao21 r5.length co21, .slice Ao22 r6.length co22]] (by rfl) rfl rfl aT ?_
 (with_reducible refine (laws_eqSample.calls k _ _ r5 _ _ r6 _ _ r5 _ _ r6 true _ ?side1 ?side2 ?side3 ?side4 ?side5 ?side6 ?side7 ?side8 h6.out).mono ?_)
 (case side1 => exact cS HO15); (case side2 => exact (Kd.S_reads' HO15.out).2.1); (case side3 => exact cR HO16); (case side4 => exact (Kd.R_reads' HO16.out).2.1); (case side5 => exact cS HO21); (case side6 => exact (Kd.S_reads' HO21.out).2.1); (case side7 => exact cR HO22); (case side8 => exact (Kd.R_reads' HO22.out).2.1)
 rintro e w10 ⟨rfl, hb⟩; refine ⟨_, rfl, ?_⟩
 replace HO15 := Aside0.mk (Kd.S_below (pS HO15) hb)
 replace HO16 := Aside0.mk (Kd.R_below (pR HO16) hb)
 replace HO17 := Aside0.mk (Kd.R_below (pR HO17) hb)
 replace HO21 := Aside0.mk (Kd.S_below (pS HO21) hb)
 replace HO22 := Aside0.mk (Kd.R_below (pR HO22) hb)
 replace BK2 := Aside0.mk (blk_below (g := w.heap.size) (o := .cells #[.slice A0_0 l0_0.length c0_0, .slice A0_1 l0_1.length c0_1] 45 (0, 0)) (pB BK2) hb)
 replace BK18 := Aside0.mk (blk_below (g := w5.heap.size) (o := .cells #[.slice Ao15 r5.length co15, .slice Ao16 r6.length co16] 49 (0, 0)) (pB BK18) hb)
 replace HB := Aside0.mk (below_step (bB HB) hb)
 clear hb
 refine hK.out _ _ ⟨(blk_cell BK18.out 0).trans rfl, (blk_cell BK18.out 1).trans rfl, (blk_cell BK2.out 0).trans rfl, (blk_cell BK2.out 1).trans rfl⟩ (fun hHeld => ?_)
 clear hK K
 refine norm_ (a' := ?_) ?_ ?_
 rotate_left
 · show Act.put _ (some 49) _ = _
   simp only [Act.put, List.setIfInBounds_toArray, List.set_cons_zero, List.set_cons_succ, i64_w, i32_w]
   rfl
 refine pure_ (i := 4) (N := some 50) (v := ?_) (a' := ?_) #[true, true, true, true, true] rfl rfl (by kernel_rfl) (fun _ _ _ h => h) (Or.inl ⟨by rfl, ?_⟩) ?_ ?_
 rotate_left
 · intro w'
   go_simp
   with_reducible rfl
 rotate_left
 · exact aP
 refine done_ (by kernel_rfl) ?_
 go_wp2_with (fail)
 (with_reducible refine (laws_toIntS.calls k _ _ l1 r9 _ ?side1 ?side2 h3.out).mono ?_)
 (case side1 => exact cB HR1 HB); (case side2 => exact HC1.out)
 rintro e w11 ⟨v23, rfl, ho0, hb⟩
 replace HO17 := Aside0.mk (Kd.R_below (pR HO17) hb)
 replace BK2 := Aside0.mk (blk_below (g := w.heap.size) (o := .cells #[.slice A0_0 l0_0.length c0_0, .slice A0_1 l0_1.length c0_1] 45 (0, 0)) (pB BK2) hb)
 replace BK18 := Aside0.mk (blk_below (g := w5.heap.size) (o := .cells #[.slice Ao15 r5.length co15, .slice Ao16 r6.length co16] 49 (0, 0)) (pB BK18) hb)
 replace HB := Aside0.mk (below_step (bB HB) hb)
 have HO23 := Aside0.mk ho0
 clear hb ho0
 obtain ⟨Ao23, co23, eo23⟩ := Kd.R_slice HO23.out
 subst eo23
 go_wp2_with (fail)
 (with_reducible refine (laws_eqIntS.calls k _ _ r9 _ _ r9 true _ ?side1 ?side2 ?side3 ?side4 h7.out).mono ?_)
 (case side1 => exact cR HO17); (case side2 => exact (Kd.R_reads' HO17.out).2.1); (case side3 => exact cR HO23); (case side4 => exact (Kd.R_reads' HO23.out).2.1)
 rintro e w12 ⟨rfl, hd⟩
 have hb := hd.below
 replace HO17 := Aside0.mk (Kd.R_below (pR HO17) hb)
 replace HO23 := Aside0.mk (Kd.R_below (pR HO23) hb)
 replace BK2 := Aside0.mk (blk_below (g := w.heap.size) (o := .cells #[.slice A0_0 l0_0.length c0_0, .slice A0_1 l0_1.length c0_1] 45 (0, 0)) (pB BK2) hb)
 replace BK18 := Aside0.mk (blk_below (g := w5.heap.size) (o := .cells #[.slice Ao15 r5.length co15, .slice Ao16 r6.length co16] 49 (0, 0)) (pB BK18) hb)
 replace HB := Aside0.mk (below_step (bB HB) hb)
 clear hd hb
 go_wp2_with (fail)
 go_ret
 exact ⟨rfl, (bB HB)⟩

end Go.Proofs.Ytihhedemdkifhaa.GFnExactKeepsLabels
