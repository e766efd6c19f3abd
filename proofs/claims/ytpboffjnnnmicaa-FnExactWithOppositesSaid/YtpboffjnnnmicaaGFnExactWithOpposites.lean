import Derived.Test.YtpboffjnnnmicaaPFnExactWithOppositesx
import Derived.Test.YtpboffjnnnmicaaKFnExactWithOpposites
import Derived.Test.YtpboffjnnnmicaaMc
import Derived.Test.YtpboffjnnnmicaaSh
namespace Go.Proofs.Ytpboffjnnnmicaa.GFnExactWithOpposites
open Go.RowKit Go.Proofs.Ytpboffjnnnmicaa.Sh Go.Proofs.Ytpboffjnnnmicaa.KFnExactWithOpposites Go.Proofs.Ytpboffjnnnmicaa.Mc Go.Proofs.Ytpboffjnnnmicaa.PFnExactWithOpposites Go.Proofs.YtpboffjnnnmicaaW.PrintWords Go.Proofs.YtpboffjnnnmicaaW.PrintLast Go.Proofs.YtpboffjnnnmicaaW.PrintMore
set_option linter.unusedVariables false
set_option linter.unusedSimpArgs false
set_option maxHeartbeats 8000000 in
set_option maxRecDepth 100000 in
theorem big0 (k : Nat) (A0_0 : Option Addr) (c0_0 : Nat) (l0_0 : List (List Int)) (A0_1 : Option Addr) (c0_1 : Nat) (l0_1 : List Int) (r1 : Int) (w : World) (hr0_0 : Kd.C (Kd.slice 3 (Kd.int .i64)) w A0_0 l0_0.length l0_0) (hc0_0 : l0_0.length ≤ c0_0) (hr0_1 : Kd.C (Kd.int .i64) w A0_1 l0_1.length l0_1) (hc0_1 : l0_1.length ≤ c0_1) (h1 : laws_szPanel.f k l0_0 l0_1 1048576 = some r1) (q0 : r1 < 0) :
 Calls Try.prog 13 #[.agg #[.slice A0_0 l0_0.length c0_0, .slice A0_1 l0_1.length c0_1]] w fun e w' => e = .returned (.bool true) ∧ Below w.heap.size w w' := by
 have HR0_0 := Aside0.mk hr0_0
 have HC0_0 := Aside0.mk hc0_0
 clear hr0_0 hc0_0
 have HR0_1 := Aside0.mk hr0_1
 have HC0_1 := Aside0.mk hc0_1
 clear hr0_1 hc0_1
 have HB := Aside0.mk (Below.refl w.heap.size w)
 replace h1 := Aside0.mk h1
 have d0 : decide (r1 < 0) = true := decide_eq_true (by omega)
 clear q0
 go_enter Try.func13, Try.ntmps13
 go_wp2_with (fail)
 (with_reducible refine (laws_szPanel.calls k _ _ l0_0 _ _ l0_1 1048576 r1 _ ?side1 ?side2 ?side3 ?side4 h1.out).mono ?_)
 (case side1 => exact cB HR0_0 HB); (case side2 => exact HC0_0.out); (case side3 => exact cB HR0_1 HB); (case side4 => exact HC0_1.out)
 rintro e w1 ⟨rfl, hb⟩
 have BK2 := Aside0.mk (blk_below (g := w.heap.size) (o := .cells #[.slice A0_0 l0_0.length c0_0, .slice A0_1 l0_1.length c0_1] 25 (0, 0)) (by repeat (first | exact blk_at _ (by first | rfl | (simp; done)) | refine blk_alloc ?_ _ | refine blk_drew ?_ | refine blk_drewN ?_ _)) hb)
 have N1 := Aside0.mk (show w.heap.size + 1 ≤ w1.heap.size from Nat.le_trans nL hb.size)
 replace HB := Aside0.mk (below_step (bB HB) hb)
 clear hb
 have hcz3 : w1.cell? ⟨w.heap.size, 0, none⟩ = some (.slice A0_0 l0_0.length c0_0) := (blk_cell BK2.out 0).trans rfl
 have hcz4 : w1.cell? ⟨w.heap.size, 1, none⟩ = some (.slice A0_1 l0_1.length c0_1) := (blk_cell BK2.out 1).trans rfl
 go_wp2_with (fail)
 go_ret
 exact ⟨rfl, (bB HB)⟩


set_option maxHeartbeats 8000000 in
set_option maxRecDepth 100000 in
theorem good (k : Nat) (A0_0 : Option Addr) (c0_0 : Nat) (l0_0 : List (List Int)) (A0_1 : Option Addr) (c0_1 : Nat) (l0_1 : List Int) (r1 : Int) (r5 : List (List Int)) (r6 : List Int) (r9 : List (List Int)) (r10 : List Int) (r11 : Bool) (r31 : Int) (r32 : List (List Int)) (r33 : List Int) (r40 : Int) (r41 : List (List Int)) (r42 : List Int) (w : World) (hr0_0 : Kd.C (Kd.slice 3 (Kd.int .i64)) w A0_0 l0_0.length l0_0) (hc0_0 : l0_0.length ≤ c0_0) (hr0_1 : Kd.C (Kd.int .i64) w A0_1 l0_1.length l0_1) (hc0_1 : l0_1.length ≤ c0_1) (h1 : laws_szPanel.f k l0_0 l0_1 1048576 = some r1) (h2 : laws_toPanel.f k l0_0 l0_1 = some (r5, r6)) (h3 : spec_WithOpposites.f k r5 r6 = some (r9, r10, r11)) (h4 : impl_WithOpposites.f k r5 r6 = some (r9, r10, r11)) (h5 : laws_eqPanel.f k r9 r10 r9 r10 = some true) (h6 : laws_eqPanel.f k r5 r6 r5 r6 = some true) (h7 : laws_markPanel.f k r5 r6 1 = some (r31, r32, r33)) (h8 : laws_markPanel.f k r9 r10 1 = some (r40, r41, r42)) (h9 : laws_heldPanel.f k r41 r42 1 = some r40) (q0 : 0 ≤ r1) (q1 : 0 ≤ r31) (q2 : 0 ≤ r40) :
 Calls Try.prog 13 #[.agg #[.slice A0_0 l0_0.length c0_0, .slice A0_1 l0_1.length c0_1]] w fun e w' => e = .returned (.bool true) ∧ Below w.heap.size w w' := by
 have HR0_0 := Aside0.mk hr0_0
 have HC0_0 := Aside0.mk hc0_0
 clear hr0_0 hc0_0
 have HR0_1 := Aside0.mk hr0_1
 have HC0_1 := Aside0.mk hc0_1
 clear hr0_1 hc0_1
 have HB := Aside0.mk (Below.refl w.heap.size w)
 replace h1 := Aside0.mk h1
 replace h2 := Aside0.mk h2
 replace h3 := Aside0.mk h3
 replace h4 := Aside0.mk h4
 replace h5 := Aside0.mk h5
 replace h6 := Aside0.mk h6
 replace h7 := Aside0.mk h7
 replace h8 := Aside0.mk h8
 replace h9 := Aside0.mk h9
 have d0 : decide (r1 < 0) = false := decide_eq_false (by omega)
 have d1 : decide (r31 < 0) = false := decide_eq_false (by omega)
 have d2 : decide (r40 < 0) = false := decide_eq_false (by omega)
 clear q0 q1 q2
 go_enter Try.func13, Try.ntmps13
 go_wp2_with (fail)
 (with_reducible refine (laws_szPanel.calls k _ _ l0_0 _ _ l0_1 1048576 r1 _ ?side1 ?side2 ?side3 ?side4 h1.out).mono ?_)
 (case side1 => exact cB HR0_0 HB); (case side2 => exact HC0_0.out); (case side3 => exact cB HR0_1 HB); (case side4 => exact HC0_1.out)
 rintro e w1 ⟨rfl, hb⟩
 have BK2 := Aside0.mk (blk_below (g := w.heap.size) (o := .cells #[.slice A0_0 l0_0.length c0_0, .slice A0_1 l0_1.length c0_1] 25 (0, 0)) (by repeat (first | exact blk_at _ (by first | rfl | (simp; done)) | refine blk_alloc ?_ _ | refine blk_drew ?_ | refine blk_drewN ?_ _)) hb)
 have N1 := Aside0.mk (show w.heap.size + 1 ≤ w1.heap.size from Nat.le_trans nL hb.size)
 replace HB := Aside0.mk (below_step (bB HB) hb)
 clear hb
 have hcz3 : w1.cell? ⟨w.heap.size, 0, none⟩ = some (.slice A0_0 l0_0.length c0_0) := (blk_cell BK2.out 0).trans rfl
 have hcz4 : w1.cell? ⟨w.heap.size, 1, none⟩ = some (.slice A0_1 l0_1.length c0_1) := (blk_cell BK2.out 1).trans rfl
 go_wp2_with (fail)
 (with_reducible refine (laws_toPanel.calls k _ _ l0_0 _ _ l0_1 r5 r6 _ ?side1 ?side2 ?side3 ?side4 h2.out).mono ?_)
 (case side1 => exact cB HR0_0 HB); (case side2 => exact HC0_0.out); (case side3 => exact cB HR0_1 HB); (case side4 => exact HC0_1.out)
 rintro e w2 ⟨v7, v8, rfl, ho0, ho1, hb⟩
 replace BK2 := Aside0.mk (blk_below (g := w.heap.size) (o := .cells #[.slice A0_0 l0_0.length c0_0, .slice A0_1 l0_1.length c0_1] 25 (0, 0)) (pB BK2) hb)
 have N2 := Aside0.mk (show w1.heap.size + 0 ≤ w2.heap.size from Nat.le_trans nL hb.size)
 replace HB := Aside0.mk (below_step (bB HB) hb)
 have HO7 := Aside0.mk (S_ivl (b0 := w1.heap.size) ho0 nL)
 have HO8 := Aside0.mk (R_ivl (b0 := w1.heap.size) (Kd.R_tight rfl ho1) nL)
 clear hb ho0 ho1
 obtain ⟨Ao7, co7, eo7⟩ := Kd.S_slice HO7.out
 subst eo7
 obtain ⟨Ao8, co8, eo8⟩ := Kd.R_slice HO8.out
 subst eo8
 clear hcz3 hcz4
 go_wp2_with (fail)
 (with_reducible refine (spec_WithOpposites.calls k _ _ r5 _ _ r6 r9 r10 r11 _ ?side1 ?side2 ?side3 ?side4 h3.out).mono ?_)
 (case side1 => exact cS HO7); (case side2 => exact (Kd.S_reads' HO7.out).2.1); (case side3 => exact cR HO8); (case side4 => exact (Kd.R_reads' HO8.out).2.1)
 rintro e w3 ⟨v12, v13, rfl, ho0, ho1, hb⟩
 replace HO7 := Aside0.mk (Kd.S_below (pS HO7) hb)
 replace HO8 := Aside0.mk (Kd.R_below (pR HO8) hb)
 replace BK2 := Aside0.mk (blk_below (g := w.heap.size) (o := .cells #[.slice A0_0 l0_0.length c0_0, .slice A0_1 l0_1.length c0_1] 25 (0, 0)) (pB BK2) hb)
 have N3 := Aside0.mk (show w2.heap.size + 0 ≤ w3.heap.size from Nat.le_trans nL hb.size)
 replace HB := Aside0.mk (below_step (bB HB) hb)
 have HO12 := Aside0.mk (S_ivl (b0 := w2.heap.size) ho0 nL)
 have HO13 := Aside0.mk (R_ivl (b0 := w2.heap.size) (Kd.R_tight rfl ho1) nL)
 clear hb ho0 ho1
 obtain ⟨Ao12, co12, eo12⟩ := Kd.S_slice HO12.out
 subst eo12
 obtain ⟨Ao13, co13, eo13⟩ := Kd.R_slice HO13.out
 subst eo13
 have hne14 := blk_lt BK2.out
 have hcz15 : w3.cell? ⟨w.heap.size, 0, none⟩ = some (.slice A0_0 l0_0.length c0_0) := (blk_cell BK2.out 0).trans rfl
 have hcz16 : w3.cell? ⟨w.heap.size, 1, none⟩ = some (.slice A0_1 l0_1.length c0_1) := (blk_cell BK2.out 1).trans rfl
 go_wp2_with (fail)
 (with_reducible refine (laws_toPanel.calls k _ _ l0_0 _ _ l0_1 r5 r6 _ ?side1 ?side2 ?side3 ?side4 h2.out).mono ?_)
 (case side1 => exact cB HR0_0 HB); (case side2 => exact HC0_0.out); (case side3 => exact cB HR0_1 HB); (case side4 => exact HC0_1.out)
 rintro e w4 ⟨v17, v18, rfl, ho0, ho1, hb⟩
 replace HO12 := Aside0.mk (Kd.S_below (pS HO12) hb)
 replace HO13 := Aside0.mk (Kd.R_below (pR HO13) hb)
 replace BK2 := Aside0.mk (blk_below (g := w.heap.size) (o := .cells #[.slice A0_0 l0_0.length c0_0, .slice A0_1 l0_1.length c0_1] 25 (0, 0)) (pB BK2) hb)
 have BK19 := Aside0.mk (blk_below (g := w3.heap.size) (o := .cells #[.slice Ao12 r9.length co12, .slice Ao13 r10.length co13] 29 (0, 0)) (by repeat (first | exact blk_at _ (by first | rfl | (simp; done)) | refine blk_alloc ?_ _ | refine blk_drew ?_ | refine blk_drewN ?_ _)) hb)
 have N4 := Aside0.mk (show w3.heap.size + 1 ≤ w4.heap.size from Nat.le_trans nL hb.size)
 replace HB := Aside0.mk (below_step (bB HB) hb)
 have HO17 := Aside0.mk (S_ivl (b0 := (w3.heap.size + 1)) ho0 nL)
 have HO18 := Aside0.mk (R_ivl (b0 := (w3.heap.size + 1)) (Kd.R_tight rfl ho1) nL)
 clear hb ho0 ho1
 obtain ⟨Ao17, co17, eo17⟩ := Kd.S_slice HO17.out
 subst eo17
 obtain ⟨Ao18, co18, eo18⟩ := Kd.R_slice HO18.out
 subst eo18
 clear hne14 hcz15 hcz16
 go_wp2_with (fail)
 (with_reducible refine (impl_WithOpposites.calls k _ _ r5 _ _ r6 r9 r10 r11 _ ?side1 ?side2 ?side3 ?side4 h4.out).mono ?_)
 (case side1 => exact cS HO17); (case side2 => exact (Kd.S_reads' HO17.out).2.1); (case side3 => exact cR HO18); (case side4 => exact (Kd.R_reads' HO18.out).2.1)
 rintro e w5 ⟨v20, v21, rfl, ho0, ho1, hb⟩
 replace HO12 := Aside0.mk (Kd.S_below (pS HO12) hb)
 replace HO13 := Aside0.mk (Kd.R_below (pR HO13) hb)
 replace HO17 := Aside0.mk (Kd.S_below (pS HO17) hb)
 replace HO18 := Aside0.mk (Kd.R_below (pR HO18) hb)
 replace BK2 := Aside0.mk (blk_below (g := w.heap.size) (o := .cells #[.slice A0_0 l0_0.length c0_0, .slice A0_1 l0_1.length c0_1] 25 (0, 0)) (pB BK2) hb)
 replace BK19 := Aside0.mk (blk_below (g := w3.heap.size) (o := .cells #[.slice Ao12 r9.length co12, .slice Ao13 r10.length co13] 29 (0, 0)) (pB BK19) hb)
 have BK22 := Aside0.mk (blk_below (g := w4.heap.size) (o := .cells #[.slice Ao17 r5.length co17, .slice Ao18 r6.length co18] 29 (0, 0)) (by repeat (first | exact blk_at _ (by first | rfl | (simp; done)) | refine blk_alloc ?_ _ | refine blk_drew ?_ | refine blk_drewN ?_ _)) hb)
 have N5 := Aside0.mk (show w4.heap.size + 1 ≤ w5.heap.size from Nat.le_trans nL hb.size)
 replace HB := Aside0.mk (below_step (bB HB) hb)
 have HO20 := Aside0.mk (S_ivl (b0 := (w4.heap.size + 1)) ho0 nL)
 have HO21 := Aside0.mk (R_ivl (b0 := (w4.heap.size + 1)) (Kd.R_tight rfl ho1) nL)
 clear hb ho0 ho1
 obtain ⟨Ao20, co20, eo20⟩ := Kd.S_slice HO20.out
 subst eo20
 obtain ⟨Ao21, co21, eo21⟩ := Kd.R_slice HO21.out
 subst eo21
 have hne23 := blk_lt BK19.out
 have hcz24 : w5.cell? ⟨w3.heap.size, 0, none⟩ = some (.slice Ao12 r9.length co12) := (blk_cell BK19.out 0).trans rfl
 have hcz25 : w5.cell? ⟨w3.heap.size, 1, none⟩ = some (.slice Ao13 r10.length co13) := (blk_cell BK19.out 1).trans rfl
 go_wp2_with (fail)
 (with_reducible refine (laws_eqPanel.calls k _ _ r9 _ _ r10 _ _ r9 _ _ r10 true _ ?side1 ?side2 ?side3 ?side4 ?side5 ?side6 ?side7 ?side8 h5.out).mono ?_)
 (case side1 => exact cS HO20); (case side2 => exact (Kd.S_reads' HO20.out).2.1); (case side3 => exact cR HO21); (case side4 => exact (Kd.R_reads' HO21.out).2.1); (case side5 => exact cS HO12); (case side6 => exact (Kd.S_reads' HO12.out).2.1); (case side7 => exact cR HO13); (case side8 => exact (Kd.R_reads' HO13.out).2.1)
 rintro e w6 ⟨rfl, hb⟩
 replace HO12 := Aside0.mk (Kd.S_below (pS HO12) hb)
 replace HO13 := Aside0.mk (Kd.R_below (pR HO13) hb)
 replace HO17 := Aside0.mk (Kd.S_below (pS HO17) hb)
 replace HO18 := Aside0.mk (Kd.R_below (pR HO18) hb)
 replace HO20 := Aside0.mk (Kd.S_below (pS HO20) hb)
 replace HO21 := Aside0.mk (Kd.R_below (pR HO21) hb)
 replace BK2 := Aside0.mk (blk_below (g := w.heap.size) (o := .cells #[.slice A0_0 l0_0.length c0_0, .slice A0_1 l0_1.length c0_1] 25 (0, 0)) (pB BK2) hb)
 replace BK19 := Aside0.mk (blk_below (g := w3.heap.size) (o := .cells #[.slice Ao12 r9.length co12, .slice Ao13 r10.length co13] 29 (0, 0)) (pB BK19) hb)
 replace BK22 := Aside0.mk (blk_below (g := w4.heap.size) (o := .cells #[.slice Ao17 r5.length co17, .slice Ao18 r6.length co18] 29 (0, 0)) (pB BK22) hb)
 have BK26 := Aside0.mk (blk_below (g := w5.heap.size) (o := .cells #[.slice Ao20 r9.length co20, .slice Ao21 r10.length co21] 29 (0, 0)) (by repeat (first | exact blk_at _ (by first | rfl | (simp; done)) | refine blk_alloc ?_ _ | refine blk_drew ?_ | refine blk_drewN ?_ _)) hb)
 have N6 := Aside0.mk (show w5.heap.size + 1 ≤ w6.heap.size from Nat.le_trans nL hb.size)
 replace HB := Aside0.mk (below_step (bB HB) hb)
 clear hb
 clear hne23 hcz24 hcz25
 go_wp2_with (fail)
 replace HO12 := Aside0.mk (Kd.S_drew HO12.out)
 replace HO13 := Aside0.mk (Kd.R_drew HO13.out)
 replace HO17 := Aside0.mk (Kd.S_drew HO17.out)
 replace HO18 := Aside0.mk (Kd.R_drew HO18.out)
 replace HO20 := Aside0.mk (Kd.S_drew HO20.out)
 replace HO21 := Aside0.mk (Kd.R_drew HO21.out)
 replace BK2 := Aside0.mk (blk_drew BK2.out)
 replace BK19 := Aside0.mk (blk_drew BK19.out)
 replace BK22 := Aside0.mk (blk_drew BK22.out)
 replace BK26 := Aside0.mk (blk_drew BK26.out)
 replace HB := Aside0.mk (below_drew1 HB.out)
 refine start_ (n := 5) (S := fun w' => w'.cell? ⟨w4.heap.size, 0, none⟩ = some (.slice Ao17 r5.length co17) ∧ w'.cell? ⟨w4.heap.size, 1, none⟩ = some (.slice Ao18 r6.length co18) ∧ w'.cell? ⟨w.heap.size, 0, none⟩ = some (.slice A0_0 l0_0.length c0_0) ∧ w'.cell? ⟨w.heap.size, 1, none⟩ = some (.slice A0_1 l0_1.length c0_1)) (ds := []) #[false, false, false, false, false] (by kernel_rfl) rfl rfl ⟨(blk_cell BK22.out 0).trans rfl, (blk_cell BK22.out 1).trans rfl, (blk_cell BK2.out 0).trans rfl, (blk_cell BK2.out 1).trans rfl⟩ (fun hHeld => ?_)
 have N7 := Aside0.mk (show w6.heap.size ≤ w6.drew.heap.size from Nat.le_refl _)
 generalize w6.drew = w7 at HB HO12 HO13 HO17 HO18 HO20 HO21 BK2 BK19 BK22 BK26 N7 hHeld ⊢
 refine take_ (i := 0) (N := some 41) (v := ?_) (a' := ?_) #[true, false, false, false, false] rfl rfl (by kernel_rfl) (fun _ _ _ h => h) (Or.inl ⟨by rfl, ?_⟩) hHeld ?_ ?_
 rotate_left
 · rintro w' ⟨s0, s1, s2, s3⟩
   go_simp
   with_reducible rfl
 rotate_left
 · exact aP
 refine take_ (i := 1) (N := some 42) (v := ?_) (a' := ?_) #[true, true, false, false, false] rfl rfl (by kernel_rfl) (fun _ _ _ h => h) (Or.inl ⟨by rfl, ?_⟩) hHeld ?_ ?_
 rotate_left
 · rintro w' ⟨s0, s1, s2, s3⟩
   go_simp
   with_reducible rfl
 rotate_left
 · exact aP
 refine one_ (i := 2) (N := some 43) #[true, true, true, false, false] rfl rfl (by kernel_rfl) (by decide) (fun K hK => ?_)
 refine goes_ Try.func17 (by kernel_rfl) rfl #[.agg #[.slice A0_0 l0_0.length c0_0, .slice A0_1 l0_1.length c0_1]] (by rfl) rfl rfl aT ?_
 (with_reducible refine (laws_toPanel.calls k _ _ l0_0 _ _ l0_1 r5 r6 _ ?side1 ?side2 ?side3 ?side4 h2.out).mono ?_)
 (case side1 => exact cB HR0_0 HB); (case side2 => exact HC0_0.out); (case side3 => exact cB HR0_1 HB); (case side4 => exact HC0_1.out)
 rintro e w8 ⟨v27, v28, rfl, ho0, ho1, hb⟩; refine ⟨_, rfl, ?_⟩
 replace HO12 := Aside0.mk (Kd.S_below (pS HO12) hb)
 replace HO13 := Aside0.mk (Kd.R_below (pR HO13) hb)
 replace HO17 := Aside0.mk (Kd.S_below (pS HO17) hb)
 replace HO18 := Aside0.mk (Kd.R_below (pR HO18) hb)
 replace HO20 := Aside0.mk (Kd.S_below (pS HO20) hb)
 replace HO21 := Aside0.mk (Kd.R_below (pR HO21) hb)
 replace BK2 := Aside0.mk (blk_below (g := w.heap.size) (o := .cells #[.slice A0_0 l0_0.length c0_0, .slice A0_1 l0_1.length c0_1] 25 (0, 0)) (pB BK2) hb)
 replace BK19 := Aside0.mk (blk_below (g := w3.heap.size) (o := .cells #[.slice Ao12 r9.length co12, .slice Ao13 r10.length co13] 29 (0, 0)) (pB BK19) hb)
 replace BK22 := Aside0.mk (blk_below (g := w4.heap.size) (o := .cells #[.slice Ao17 r5.length co17, .slice Ao18 r6.length co18] 29 (0, 0)) (pB BK22) hb)
 replace BK26 := Aside0.mk (blk_below (g := w5.heap.size) (o := .cells #[.slice Ao20 r9.length co20, .slice Ao21 r10.length co21] 29 (0, 0)) (pB BK26) hb)
 have N8 := Aside0.mk (show w7.heap.size + 0 ≤ w8.heap.size from Nat.le_trans nL hb.size)
 replace HB := Aside0.mk (below_step (bB HB) hb)
 have HO27 := Aside0.mk (S_ivl (b0 := w7.heap.size) ho0 nL)
 have HO28 := Aside0.mk (R_ivl (b0 := w7.heap.size) (Kd.R_tight rfl ho1) nL)
 clear hb ho0 ho1
 obtain ⟨Ao27, co27, eo27⟩ := Kd.S_slice HO27.out
 subst eo27
 obtain ⟨Ao28, co28, eo28⟩ := Kd.R_slice HO28.out
 subst eo28
 refine hK.out _ _ ⟨(blk_cell BK22.out 0).trans rfl, (blk_cell BK22.out 1).trans rfl, (blk_cell BK2.out 0).trans rfl, (blk_cell BK2.out 1).trans rfl⟩ (fun hHeld => ?_)
 clear hK K
 refine norm_ (a' := ?_) ?_ ?_
 rotate_left
 · show Act.put _ (some 43) _ = _
   simp only [Act.put, List.setIfInBounds_toArray, List.set_cons_zero, List.set_cons_succ, i64_w, i32_w]
   rfl
 refine one_ (i := 3) (N := some 44) #[true, true, true, true, false] rfl rfl (by kernel_rfl) (by decide) (fun K hK => ?_)
 refine goes_ Try.func20 (by kernel_rfl) rfl #[.agg #[.slice Ao17 r5.length co17, .slice Ao18 r6.length co18], .agg #[.slice Ao27 r5.length co27, .slice Ao28 r6.length co28]] (by rfl) rfl rfl aT ?_
 (with_reducible refine (laws_eqPanel.calls k _ _ r5 _ _ r6 _ _ r5 _ _ r6 true _ ?side1 ?side2 ?side3 ?side4 ?side5 ?side6 ?side7 ?side8 h6.out).mono ?_)
 (case side1 => exact cS HO17); (case side2 => exact (Kd.S_reads' HO17.out).2.1); (case side3 => exact cR HO18); (case side4 => exact (Kd.R_reads' HO18.out).2.1); (case side5 => exact cS HO27); (case side6 => exact (Kd.S_reads' HO27.out).2.1); (case side7 => exact cR HO28); (case side8 => exact (Kd.R_reads' HO28.out).2.1)
 rintro e w9 ⟨rfl, hb⟩; refine ⟨_, rfl, ?_⟩
 replace HO12 := Aside0.mk (Kd.S_below (pS HO12) hb)
 replace HO13 := Aside0.mk (Kd.R_below (pR HO13) hb)
 replace HO17 := Aside0.mk (Kd.S_below (pS HO17) hb)
 replace HO18 := Aside0.mk (Kd.R_below (pR HO18) hb)
 replace HO20 := Aside0.mk (Kd.S_below (pS HO20) hb)
 replace HO21 := Aside0.mk (Kd.R_below (pR HO21) hb)
 replace HO27 := Aside0.mk (Kd.S_below (pS HO27) hb)
 replace HO28 := Aside0.mk (Kd.R_below (pR HO28) hb)
 replace BK2 := Aside0.mk (blk_below (g := w.heap.size) (o := .cells #[.slice A0_0 l0_0.length c0_0, .slice A0_1 l0_1.length c0_1] 25 (0, 0)) (pB BK2) hb)
 replace BK19 := Aside0.mk (blk_below (g := w3.heap.size) (o := .cells #[.slice Ao12 r9.length co12, .slice Ao13 r10.length co13] 29 (0, 0)) (pB BK19) hb)
 replace BK22 := Aside0.mk (blk_below (g := w4.heap.size) (o := .cells #[.slice Ao17 r5.length co17, .slice Ao18 r6.length co18] 29 (0, 0)) (pB BK22) hb)
 replace BK26 := Aside0.mk (blk_below (g := w5.heap.size) (o := .cells #[.slice Ao20 r9.length co20, .slice Ao21 r10.length co21] 29 (0, 0)) (pB BK26) hb)
 have N9 := Aside0.mk (show w8.heap.size + 0 ≤ w9.heap.size from Nat.le_trans nL hb.size)
 replace HB := Aside0.mk (below_step (bB HB) hb)
 clear hb
 refine hK.out _ _ ⟨(blk_cell BK22.out 0).trans rfl, (blk_cell BK22.out 1).trans rfl, (blk_cell BK2.out 0).trans rfl, (blk_cell BK2.out 1).trans rfl⟩ (fun hHeld => ?_)
 clear hK K
 refine norm_ (a' := ?_) ?_ ?_
 rotate_left
 · show Act.put _ (some 44) _ = _
   simp only [Act.put, List.setIfInBounds_toArray, List.set_cons_zero, List.set_cons_succ, i64_w, i32_w]
   rfl
 refine pure_ (i := 4) (N := some 45) (v := ?_) (a' := ?_) #[true, true, true, true, true] rfl rfl (by kernel_rfl) (fun _ _ _ h => h) (Or.inl ⟨by rfl, ?_⟩) ?_ ?_
 rotate_left
 · intro w'
   go_simp
   with_reducible rfl
 rotate_left
 · exact aP
 refine done_ (by kernel_rfl) ?_
 have hcz29 : w9.cell? ⟨w4.heap.size, 0, none⟩ = some (.slice Ao17 r5.length co17) := (blk_cell BK22.out 0).trans rfl
 have hcz30 : w9.cell? ⟨w4.heap.size, 1, none⟩ = some (.slice Ao18 r6.length co18) := (blk_cell BK22.out 1).trans rfl
 go_wp2_with (fail)
 (with_reducible refine (laws_markPanel.calls k (fun k_ => some k_ ≠ (.slice Ao18 r6.length co18 : Value).ownBlock ∧ (w3.heap.size + 1) ≤ k_ ∧ k_ < w4.heap.size) (.slice Ao17 r5.length co17) r5 (fun k_ => some k_ = (.slice Ao18 r6.length co18 : Value).ownBlock ∧ (w3.heap.size + 1) ≤ k_ ∧ k_ < w4.heap.size) (.slice Ao18 r6.length co18) r6 1 r31 r32 r33 w _ ?side1 ?side2 ?side3 ?side4 h7.out).mono ?_)
 (case side1 => exact bB HB); (case side2 => refine Kd.S_lower (pS HO17) ?_; have := N1.out; have := N2.out; have := N3.out; omega); (case side3 => refine Kd.R_lower (pR HO18) ?_; have := N1.out; have := N2.out; have := N3.out; omega); (case side4 => exact fun k_ p_ q_ => p_.1 (q_.1 : _))
 rintro e w10 ⟨rfl, ho0, ho1, hB1, hK1⟩
 replace HO12 := Aside0.mk (Kd.S_step (pS HO12) (fun k_ (ho_ : some k_ ≠ (.slice Ao13 r10.length co13 : Value).ownBlock ∧ w2.heap.size ≤ k_ ∧ k_ < w3.heap.size) hl_ => hK1.2 k_ hl_ (fun (hs_ : (some k_ ≠ (.slice Ao18 r6.length co18 : Value).ownBlock ∧ (w3.heap.size + 1) ≤ k_ ∧ k_ < w4.heap.size) ∨ (some k_ = (.slice Ao18 r6.length co18 : Value).ownBlock ∧ (w3.heap.size + 1) ≤ k_ ∧ k_ < w4.heap.size)) => by have ha_ := ho_.2; have hb_ := (hs_.imp (fun y_ => y_.2) (fun y_ => y_.2)); have := N1.out; have := N2.out; have := N3.out; have := N4.out; have := N5.out; have := N6.out; have := N7.out; have := N8.out; have := N9.out; omega)))
 replace HO13 := Aside0.mk (Kd.R_step (pR HO13) (fun k_ (ho_ : some k_ = (.slice Ao13 r10.length co13 : Value).ownBlock ∧ w2.heap.size ≤ k_ ∧ k_ < w3.heap.size) hl_ => hK1.2 k_ hl_ (fun (hs_ : (some k_ ≠ (.slice Ao18 r6.length co18 : Value).ownBlock ∧ (w3.heap.size + 1) ≤ k_ ∧ k_ < w4.heap.size) ∨ (some k_ = (.slice Ao18 r6.length co18 : Value).ownBlock ∧ (w3.heap.size + 1) ≤ k_ ∧ k_ < w4.heap.size)) => by have ha_ := ho_.2; have hb_ := (hs_.imp (fun y_ => y_.2) (fun y_ => y_.2)); have := N1.out; have := N2.out; have := N3.out; have := N4.out; have := N5.out; have := N6.out; have := N7.out; have := N8.out; have := N9.out; omega)))
 replace HO20 := Aside0.mk (Kd.S_step (pS HO20) (fun k_ (ho_ : some k_ ≠ (.slice Ao21 r10.length co21 : Value).ownBlock ∧ (w4.heap.size + 1) ≤ k_ ∧ k_ < w5.heap.size) hl_ => hK1.2 k_ hl_ (fun (hs_ : (some k_ ≠ (.slice Ao18 r6.length co18 : Value).ownBlock ∧ (w3.heap.size + 1) ≤ k_ ∧ k_ < w4.heap.size) ∨ (some k_ = (.slice Ao18 r6.length co18 : Value).ownBlock ∧ (w3.heap.size + 1) ≤ k_ ∧ k_ < w4.heap.size)) => by have ha_ := ho_.2; have hb_ := (hs_.imp (fun y_ => y_.2) (fun y_ => y_.2)); have := N1.out; have := N2.out; have := N3.out; have := N4.out; have := N5.out; have := N6.out; have := N7.out; have := N8.out; have := N9.out; omega)))
 replace HO21 := Aside0.mk (Kd.R_step (pR HO21) (fun k_ (ho_ : some k_ = (.slice Ao21 r10.length co21 : Value).ownBlock ∧ (w4.heap.size + 1) ≤ k_ ∧ k_ < w5.heap.size) hl_ => hK1.2 k_ hl_ (fun (hs_ : (some k_ ≠ (.slice Ao18 r6.length co18 : Value).ownBlock ∧ (w3.heap.size + 1) ≤ k_ ∧ k_ < w4.heap.size) ∨ (some k_ = (.slice Ao18 r6.length co18 : Value).ownBlock ∧ (w3.heap.size + 1) ≤ k_ ∧ k_ < w4.heap.size)) => by have ha_ := ho_.2; have hb_ := (hs_.imp (fun y_ => y_.2) (fun y_ => y_.2)); have := N1.out; have := N2.out; have := N3.out; have := N4.out; have := N5.out; have := N6.out; have := N7.out; have := N8.out; have := N9.out; omega)))
 replace BK2 := Aside0.mk (blk_kept (pB BK2) hK1 (fun hs_ => by have hs2_ : (some (w.heap.size) ≠ (.slice Ao18 r6.length co18 : Value).ownBlock ∧ (w3.heap.size + 1) ≤ (w.heap.size) ∧ (w.heap.size) < w4.heap.size) ∨ (some (w.heap.size) = (.slice Ao18 r6.length co18 : Value).ownBlock ∧ (w3.heap.size + 1) ≤ (w.heap.size) ∧ (w.heap.size) < w4.heap.size) := hs_; have hb_ := (hs2_.imp (fun y_ => y_.2) (fun y_ => y_.2)); have := N1.out; have := N2.out; have := N3.out; have := N4.out; have := N5.out; have := N6.out; have := N7.out; have := N8.out; have := N9.out; omega))
 replace BK19 := Aside0.mk (blk_kept (pB BK19) hK1 (fun hs_ => by have hs2_ : (some (w3.heap.size) ≠ (.slice Ao18 r6.length co18 : Value).ownBlock ∧ (w3.heap.size + 1) ≤ (w3.heap.size) ∧ (w3.heap.size) < w4.heap.size) ∨ (some (w3.heap.size) = (.slice Ao18 r6.length co18 : Value).ownBlock ∧ (w3.heap.size + 1) ≤ (w3.heap.size) ∧ (w3.heap.size) < w4.heap.size) := hs_; have hb_ := (hs2_.imp (fun y_ => y_.2) (fun y_ => y_.2)); have := N1.out; have := N2.out; have := N3.out; have := N4.out; have := N5.out; have := N6.out; have := N7.out; have := N8.out; have := N9.out; omega))
 replace BK22 := Aside0.mk (blk_kept (pB BK22) hK1 (fun hs_ => by have hs2_ : (some (w4.heap.size) ≠ (.slice Ao18 r6.length co18 : Value).ownBlock ∧ (w3.heap.size + 1) ≤ (w4.heap.size) ∧ (w4.heap.size) < w4.heap.size) ∨ (some (w4.heap.size) = (.slice Ao18 r6.length co18 : Value).ownBlock ∧ (w3.heap.size + 1) ≤ (w4.heap.size) ∧ (w4.heap.size) < w4.heap.size) := hs_; have hb_ := (hs2_.imp (fun y_ => y_.2) (fun y_ => y_.2)); have := N1.out; have := N2.out; have := N3.out; have := N4.out; have := N5.out; have := N6.out; have := N7.out; have := N8.out; have := N9.out; omega))
 replace BK26 := Aside0.mk (blk_kept (pB BK26) hK1 (fun hs_ => by have hs2_ : (some (w5.heap.size) ≠ (.slice Ao18 r6.length co18 : Value).ownBlock ∧ (w3.heap.size + 1) ≤ (w5.heap.size) ∧ (w5.heap.size) < w4.heap.size) ∨ (some (w5.heap.size) = (.slice Ao18 r6.length co18 : Value).ownBlock ∧ (w3.heap.size + 1) ≤ (w5.heap.size) ∧ (w5.heap.size) < w4.heap.size) := hs_; have hb_ := (hs2_.imp (fun y_ => y_.2) (fun y_ => y_.2)); have := N1.out; have := N2.out; have := N3.out; have := N4.out; have := N5.out; have := N6.out; have := N7.out; have := N8.out; have := N9.out; omega))
 have N10 := Aside0.mk (show w9.heap.size ≤ w10.heap.size from Nat.le_trans nL hK1.1)
 replace HB := Aside0.mk hB1
 replace HO17 := Aside0.mk (Kd.S_mono (ok' := fun k_ => (some k_ ≠ (.slice Ao18 r6.length co18 : Value).ownBlock ∧ (w3.heap.size + 1) ≤ k_ ∧ k_ < w4.heap.size) ∨ w9.heap.size ≤ k_) ho0 (fun k_ h_ => h_.imp id (fun z_ => Nat.le_trans nL z_)))
 replace HO18 := Aside0.mk (Kd.R_mono (ok' := fun k_ => (some k_ = (.slice Ao18 r6.length co18 : Value).ownBlock ∧ (w3.heap.size + 1) ≤ k_ ∧ k_ < w4.heap.size) ∨ w9.heap.size ≤ k_) ho1 (fun k_ h_ => h_.imp id (fun z_ => Nat.le_trans nL z_)))
 clear hK1 ho0 ho1 hB1
 clear hcz29 hcz30
 have hcz34 : w10.cell? ⟨w5.heap.size, 0, none⟩ = some (.slice Ao20 r9.length co20) := (blk_cell BK26.out 0).trans rfl
 have hcz35 : w10.cell? ⟨w5.heap.size, 1, none⟩ = some (.slice Ao21 r10.length co21) := (blk_cell BK26.out 1).trans rfl
 have hcz36 : w10.cell? ⟨w3.heap.size, 0, none⟩ = some (.slice Ao12 r9.length co12) := (blk_cell BK19.out 0).trans rfl
 have hcz37 : w10.cell? ⟨w3.heap.size, 1, none⟩ = some (.slice Ao13 r10.length co13) := (blk_cell BK19.out 1).trans rfl
 go_wp2_with (fail)
 (with_reducible refine (laws_eqPanel.calls k _ _ r9 _ _ r10 _ _ r9 _ _ r10 true _ ?side1 ?side2 ?side3 ?side4 ?side5 ?side6 ?side7 ?side8 h5.out).mono ?_)
 (case side1 => exact cS HO20); (case side2 => exact (Kd.S_reads' HO20.out).2.1); (case side3 => exact cR HO21); (case side4 => exact (Kd.R_reads' HO21.out).2.1); (case side5 => exact cS HO12); (case side6 => exact (Kd.S_reads' HO12.out).2.1); (case side7 => exact cR HO13); (case side8 => exact (Kd.R_reads' HO13.out).2.1)
 rintro e w11 ⟨rfl, hb⟩
 replace HO12 := Aside0.mk (Kd.S_below (pS HO12) hb)
 replace HO13 := Aside0.mk (Kd.R_below (pR HO13) hb)
 replace HO20 := Aside0.mk (Kd.S_below (pS HO20) hb)
 replace HO21 := Aside0.mk (Kd.R_below (pR HO21) hb)
 replace BK2 := Aside0.mk (blk_below (g := w.heap.size) (o := .cells #[.slice A0_0 l0_0.length c0_0, .slice A0_1 l0_1.length c0_1] 25 (0, 0)) (pB BK2) hb)
 replace BK19 := Aside0.mk (blk_below (g := w3.heap.size) (o := .cells #[.slice Ao12 r9.length co12, .slice Ao13 r10.length co13] 29 (0, 0)) (pB BK19) hb)
 replace BK22 := Aside0.mk (blk_below (g := w4.heap.size) (o := .cells #[.slice Ao17 r5.length co17, .slice Ao18 r6.length co18] 29 (0, 0)) (pB BK22) hb)
 replace BK26 := Aside0.mk (blk_below (g := w5.heap.size) (o := .cells #[.slice Ao20 r9.length co20, .slice Ao21 r10.length co21] 29 (0, 0)) (pB BK26) hb)
 have N11 := Aside0.mk (show w10.heap.size + 0 ≤ w11.heap.size from Nat.le_trans nL hb.size)
 replace HB := Aside0.mk (below_step (bB HB) hb)
 clear hb
 clear hcz34 hcz35 hcz36 hcz37
 have hcz38 : w11.cell? ⟨w5.heap.size, 0, none⟩ = some (.slice Ao20 r9.length co20) := (blk_cell BK26.out 0).trans rfl
 have hcz39 : w11.cell? ⟨w5.heap.size, 1, none⟩ = some (.slice Ao21 r10.length co21) := (blk_cell BK26.out 1).trans rfl
 go_wp2_with (fail)
 (with_reducible refine (laws_markPanel.calls k (fun k_ => some k_ ≠ (.slice Ao21 r10.length co21 : Value).ownBlock ∧ (w4.heap.size + 1) ≤ k_ ∧ k_ < w5.heap.size) (.slice Ao20 r9.length co20) r9 (fun k_ => some k_ = (.slice Ao21 r10.length co21 : Value).ownBlock ∧ (w4.heap.size + 1) ≤ k_ ∧ k_ < w5.heap.size) (.slice Ao21 r10.length co21) r10 1 r40 r41 r42 w _ ?side1 ?side2 ?side3 ?side4 h8.out).mono ?_)
 (case side1 => exact bB HB); (case side2 => refine Kd.S_lower (pS HO20) ?_; have := N1.out; have := N2.out; have := N3.out; have := N4.out; omega); (case side3 => refine Kd.R_lower (pR HO21) ?_; have := N1.out; have := N2.out; have := N3.out; have := N4.out; omega); (case side4 => exact fun k_ p_ q_ => p_.1 (q_.1 : _))
 rintro e w12 ⟨rfl, ho0, ho1, hB1, hK1⟩
 replace HO12 := Aside0.mk (Kd.S_step (pS HO12) (fun k_ (ho_ : some k_ ≠ (.slice Ao13 r10.length co13 : Value).ownBlock ∧ w2.heap.size ≤ k_ ∧ k_ < w3.heap.size) hl_ => hK1.2 k_ hl_ (fun (hs_ : (some k_ ≠ (.slice Ao21 r10.length co21 : Value).ownBlock ∧ (w4.heap.size + 1) ≤ k_ ∧ k_ < w5.heap.size) ∨ (some k_ = (.slice Ao21 r10.length co21 : Value).ownBlock ∧ (w4.heap.size + 1) ≤ k_ ∧ k_ < w5.heap.size)) => by have ha_ := ho_.2; have hb_ := (hs_.imp (fun y_ => y_.2) (fun y_ => y_.2)); have := N1.out; have := N2.out; have := N3.out; have := N4.out; have := N5.out; have := N6.out; have := N7.out; have := N8.out; have := N9.out; have := N10.out; have := N11.out; omega)))
 replace HO13 := Aside0.mk (Kd.R_step (pR HO13) (fun k_ (ho_ : some k_ = (.slice Ao13 r10.length co13 : Value).ownBlock ∧ w2.heap.size ≤ k_ ∧ k_ < w3.heap.size) hl_ => hK1.2 k_ hl_ (fun (hs_ : (some k_ ≠ (.slice Ao21 r10.length co21 : Value).ownBlock ∧ (w4.heap.size + 1) ≤ k_ ∧ k_ < w5.heap.size) ∨ (some k_ = (.slice Ao21 r10.length co21 : Value).ownBlock ∧ (w4.heap.size + 1) ≤ k_ ∧ k_ < w5.heap.size)) => by have ha_ := ho_.2; have hb_ := (hs_.imp (fun y_ => y_.2) (fun y_ => y_.2)); have := N1.out; have := N2.out; have := N3.out; have := N4.out; have := N5.out; have := N6.out; have := N7.out; have := N8.out; have := N9.out; have := N10.out; have := N11.out; omega)))
 replace BK2 := Aside0.mk (blk_kept (pB BK2) hK1 (fun hs_ => by have hs2_ : (some (w.heap.size) ≠ (.slice Ao21 r10.length co21 : Value).ownBlock ∧ (w4.heap.size + 1) ≤ (w.heap.size) ∧ (w.heap.size) < w5.heap.size) ∨ (some (w.heap.size) = (.slice Ao21 r10.length co21 : Value).ownBlock ∧ (w4.heap.size + 1) ≤ (w.heap.size) ∧ (w.heap.size) < w5.heap.size) := hs_; have hb_ := (hs2_.imp (fun y_ => y_.2) (fun y_ => y_.2)); have := N1.out; have := N2.out; have := N3.out; have := N4.out; have := N5.out; have := N6.out; have := N7.out; have := N8.out; have := N9.out; have := N10.out; have := N11.out; omega))
 replace BK19 := Aside0.mk (blk_kept (pB BK19) hK1 (fun hs_ => by have hs2_ : (some (w3.heap.size) ≠ (.slice Ao21 r10.length co21 : Value).ownBlock ∧ (w4.heap.size + 1) ≤ (w3.heap.size) ∧ (w3.heap.size) < w5.heap.size) ∨ (some (w3.heap.size) = (.slice Ao21 r10.length co21 : Value).ownBlock ∧ (w4.heap.size + 1) ≤ (w3.heap.size) ∧ (w3.heap.size) < w5.heap.size) := hs_; have hb_ := (hs2_.imp (fun y_ => y_.2) (fun y_ => y_.2)); have := N1.out; have := N2.out; have := N3.out; have := N4.out; have := N5.out; have := N6.out; have := N7.out; have := N8.out; have := N9.out; have := N10.out; have := N11.out; omega))
 replace BK22 := Aside0.mk (blk_kept (pB BK22) hK1 (fun hs_ => by have hs2_ : (some (w4.heap.size) ≠ (.slice Ao21 r10.length co21 : Value).ownBlock ∧ (w4.heap.size + 1) ≤ (w4.heap.size) ∧ (w4.heap.size) < w5.heap.size) ∨ (some (w4.heap.size) = (.slice Ao21 r10.length co21 : Value).ownBlock ∧ (w4.heap.size + 1) ≤ (w4.heap.size) ∧ (w4.heap.size) < w5.heap.size) := hs_; have hb_ := (hs2_.imp (fun y_ => y_.2) (fun y_ => y_.2)); have := N1.out; have := N2.out; have := N3.out; have := N4.out; have := N5.out; have := N6.out; have := N7.out; have := N8.out; have := N9.out; have := N10.out; have := N11.out; omega))
 replace BK26 := Aside0.mk (blk_kept (pB BK26) hK1 (fun hs_ => by have hs2_ : (some (w5.heap.size) ≠ (.slice Ao21 r10.length co21 : Value).ownBlock ∧ (w4.heap.size + 1) ≤ (w5.heap.size) ∧ (w5.heap.size) < w5.heap.size) ∨ (some (w5.heap.size) = (.slice Ao21 r10.length co21 : Value).ownBlock ∧ (w4.heap.size + 1) ≤ (w5.heap.size) ∧ (w5.heap.size) < w5.heap.size) := hs_; have hb_ := (hs2_.imp (fun y_ => y_.2) (fun y_ => y_.2)); have := N1.out; have := N2.out; have := N3.out; have := N4.out; have := N5.out; have := N6.out; have := N7.out; have := N8.out; have := N9.out; have := N10.out; have := N11.out; omega))
 have N12 := Aside0.mk (show w11.heap.size ≤ w12.heap.size from Nat.le_trans nL hK1.1)
 replace HB := Aside0.mk hB1
 replace HO20 := Aside0.mk (Kd.S_mono (ok' := fun k_ => (some k_ ≠ (.slice Ao21 r10.length co21 : Value).ownBlock ∧ (w4.heap.size + 1) ≤ k_ ∧ k_ < w5.heap.size) ∨ w11.heap.size ≤ k_) ho0 (fun k_ h_ => h_.imp id (fun z_ => Nat.le_trans nL z_)))
 replace HO21 := Aside0.mk (Kd.R_mono (ok' := fun k_ => (some k_ = (.slice Ao21 r10.length co21 : Value).ownBlock ∧ (w4.heap.size + 1) ≤ k_ ∧ k_ < w5.heap.size) ∨ w11.heap.size ≤ k_) ho1 (fun k_ h_ => h_.imp id (fun z_ => Nat.le_trans nL z_)))
 clear hK1 ho0 ho1 hB1
 clear hcz38 hcz39
 have hcz43 : w12.cell? ⟨w5.heap.size, 0, none⟩ = some (.slice Ao20 r9.length co20) := (blk_cell BK26.out 0).trans rfl
 have hcz44 : w12.cell? ⟨w5.heap.size, 1, none⟩ = some (.slice Ao21 r10.length co21) := (blk_cell BK26.out 1).trans rfl
 go_wp2_with (fail)
 refine calls_of_args (args' := #[.agg #[.slice Ao20 r41.length co20, .slice Ao21 r42.length co21], .int .i64 1]) (by rw [(Kd.S_reads' HO20.out).1, (Kd.R_reads' HO21.out).1]) ?_
 (with_reducible refine (laws_heldPanel.calls k _ _ r41 _ _ r42 1 r40 _ ?side1 ?side2 ?side3 ?side4 h9.out).mono ?_)
 (case side1 => exact cS HO20); (case side2 => have e_ := Kd.S_reads' HO20.out; rw [← e_.1]; exact e_.2.1); (case side3 => exact cR HO21); (case side4 => have e_ := Kd.R_reads' HO21.out; rw [← e_.1]; exact e_.2.1)
 rintro e w13 ⟨rfl, hb⟩
 replace HO12 := Aside0.mk (Kd.S_below (pS HO12) hb)
 replace HO13 := Aside0.mk (Kd.R_below (pR HO13) hb)
 replace HO20 := Aside0.mk (Kd.S_below (pS HO20) hb)
 replace HO21 := Aside0.mk (Kd.R_below (pR HO21) hb)
 replace BK2 := Aside0.mk (blk_below (g := w.heap.size) (o := .cells #[.slice A0_0 l0_0.length c0_0, .slice A0_1 l0_1.length c0_1] 25 (0, 0)) (pB BK2) hb)
 replace BK19 := Aside0.mk (blk_below (g := w3.heap.size) (o := .cells #[.slice Ao12 r9.length co12, .slice Ao13 r10.length co13] 29 (0, 0)) (pB BK19) hb)
 replace BK22 := Aside0.mk (blk_below (g := w4.heap.size) (o := .cells #[.slice Ao17 r5.length co17, .slice Ao18 r6.length co18] 29 (0, 0)) (pB BK22) hb)
 replace BK26 := Aside0.mk (blk_below (g := w5.heap.size) (o := .cells #[.slice Ao20 r9.length co20, .slice Ao21 r10.length co21] 29 (0, 0)) (pB BK26) hb)
 have N13 := Aside0.mk (show w12.heap.size + 0 ≤ w13.heap.size from Nat.le_trans nL hb.size)
 replace HB := Aside0.mk (below_step (bB HB) hb)
 clear hb
 clear hcz43 hcz44
 have hcz45 : w13.cell? ⟨w.heap.size, 0, none⟩ = some (.slice A0_0 l0_0.length c0_0) := (blk_cell BK2.out 0).trans rfl
 have hcz46 : w13.cell? ⟨w.heap.size, 1, none⟩ = some (.slice A0_1 l0_1.length c0_1) := (blk_cell BK2.out 1).trans rfl
 go_wp2_with (fail)
 (with_reducible refine (laws_toPanel.calls k _ _ l0_0 _ _ l0_1 r5 r6 _ ?side1 ?side2 ?side3 ?side4 h2.out).mono ?_)
 (case side1 => exact cB HR0_0 HB); (case side2 => exact HC0_0.out); (case side3 => exact cB HR0_1 HB); (case side4 => exact HC0_1.out)
 rintro e w14 ⟨v47, v48, rfl, ho0, ho1, hb⟩
 replace HO12 := Aside0.mk (Kd.S_below (pS HO12) hb)
 replace HO13 := Aside0.mk (Kd.R_below (pR HO13) hb)
 replace HO20 := Aside0.mk (Kd.S_below (pS HO20) hb)
 replace HO21 := Aside0.mk (Kd.R_below (pR HO21) hb)
 replace BK2 := Aside0.mk (blk_below (g := w.heap.size) (o := .cells #[.slice A0_0 l0_0.length c0_0, .slice A0_1 l0_1.length c0_1] 25 (0, 0)) (pB BK2) hb)
 replace BK19 := Aside0.mk (blk_below (g := w3.heap.size) (o := .cells #[.slice Ao12 r9.length co12, .slice Ao13 r10.length co13] 29 (0, 0)) (pB BK19) hb)
 replace BK22 := Aside0.mk (blk_below (g := w4.heap.size) (o := .cells #[.slice Ao17 r5.length co17, .slice Ao18 r6.length co18] 29 (0, 0)) (pB BK22) hb)
 replace BK26 := Aside0.mk (blk_below (g := w5.heap.size) (o := .cells #[.slice Ao20 r9.length co20, .slice Ao21 r10.length co21] 29 (0, 0)) (pB BK26) hb)
 have N14 := Aside0.mk (show w13.heap.size + 0 ≤ w14.heap.size from Nat.le_trans nL hb.size)
 replace HB := Aside0.mk (below_step (bB HB) hb)
 have HO47 := Aside0.mk (S_ivl (b0 := w13.heap.size) ho0 nL)
 have HO48 := Aside0.mk (R_ivl (b0 := w13.heap.size) (Kd.R_tight rfl ho1) nL)
 clear hb ho0 ho1
 obtain ⟨Ao47, co47, eo47⟩ := Kd.S_slice HO47.out
 subst eo47
 obtain ⟨Ao48, co48, eo48⟩ := Kd.R_slice HO48.out
 subst eo48
 clear hcz45 hcz46
 go_wp2_with (fail)
 (with_reducible refine (impl_WithOpposites.calls k _ _ r5 _ _ r6 r9 r10 r11 _ ?side1 ?side2 ?side3 ?side4 h4.out).mono ?_)
 (case side1 => exact cS HO47); (case side2 => exact (Kd.S_reads' HO47.out).2.1); (case side3 => exact cR HO48); (case side4 => exact (Kd.R_reads' HO48.out).2.1)
 rintro e w15 ⟨v49, v50, rfl, ho0, ho1, hb⟩
 replace HO12 := Aside0.mk (Kd.S_below (pS HO12) hb)
 replace HO13 := Aside0.mk (Kd.R_below (pR HO13) hb)
 replace HO20 := Aside0.mk (Kd.S_below (pS HO20) hb)
 replace HO21 := Aside0.mk (Kd.R_below (pR HO21) hb)
 replace HO47 := Aside0.mk (Kd.S_below (pS HO47) hb)
 replace HO48 := Aside0.mk (Kd.R_below (pR HO48) hb)
 replace BK2 := Aside0.mk (blk_below (g := w.heap.size) (o := .cells #[.slice A0_0 l0_0.length c0_0, .slice A0_1 l0_1.length c0_1] 25 (0, 0)) (pB BK2) hb)
 replace BK19 := Aside0.mk (blk_below (g := w3.heap.size) (o := .cells #[.slice Ao12 r9.length co12, .slice Ao13 r10.length co13] 29 (0, 0)) (pB BK19) hb)
 replace BK22 := Aside0.mk (blk_below (g := w4.heap.size) (o := .cells #[.slice Ao17 r5.length co17, .slice Ao18 r6.length co18] 29 (0, 0)) (pB BK22) hb)
 replace BK26 := Aside0.mk (blk_below (g := w5.heap.size) (o := .cells #[.slice Ao20 r9.length co20, .slice Ao21 r10.length co21] 29 (0, 0)) (pB BK26) hb)
 have N15 := Aside0.mk (show w14.heap.size + 0 ≤ w15.heap.size from Nat.le_trans nL hb.size)
 replace HB := Aside0.mk (below_step (bB HB) hb)
 have HO49 := Aside0.mk (S_ivl (b0 := w14.heap.size) ho0 nL)
 have HO50 := Aside0.mk (R_ivl (b0 := w14.heap.size) (Kd.R_tight rfl ho1) nL)
 clear hb ho0 ho1
 obtain ⟨Ao49, co49, eo49⟩ := Kd.S_slice HO49.out
 subst eo49
 obtain ⟨Ao50, co50, eo50⟩ := Kd.R_slice HO50.out
 subst eo50
 have hne51 := blk_lt BK19.out
 have hcz52 : w15.cell? ⟨w3.heap.size, 0, none⟩ = some (.slice Ao12 r9.length co12) := (blk_cell BK19.out 0).trans rfl
 have hcz53 : w15.cell? ⟨w3.heap.size, 1, none⟩ = some (.slice Ao13 r10.length co13) := (blk_cell BK19.out 1).trans rfl
 go_wp2_with (fail)
 (with_reducible refine (laws_eqPanel.calls k _ _ r9 _ _ r10 _ _ r9 _ _ r10 true _ ?side1 ?side2 ?side3 ?side4 ?side5 ?side6 ?side7 ?side8 h5.out).mono ?_)
 (case side1 => exact cS HO49); (case side2 => exact (Kd.S_reads' HO49.out).2.1); (case side3 => exact cR HO50); (case side4 => exact (Kd.R_reads' HO50.out).2.1); (case side5 => exact cS HO12); (case side6 => exact (Kd.S_reads' HO12.out).2.1); (case side7 => exact cR HO13); (case side8 => exact (Kd.R_reads' HO13.out).2.1)
 rintro e w16 ⟨rfl, hb⟩
 replace HO12 := Aside0.mk (Kd.S_below (pS HO12) hb)
 replace HO13 := Aside0.mk (Kd.R_below (pR HO13) hb)
 replace HO20 := Aside0.mk (Kd.S_below (pS HO20) hb)
 replace HO21 := Aside0.mk (Kd.R_below (pR HO21) hb)
 replace HO49 := Aside0.mk (Kd.S_below (pS HO49) hb)
 replace HO50 := Aside0.mk (Kd.R_below (pR HO50) hb)
 replace BK2 := Aside0.mk (blk_below (g := w.heap.size) (o := .cells #[.slice A0_0 l0_0.length c0_0, .slice A0_1 l0_1.length c0_1] 25 (0, 0)) (pB BK2) hb)
 replace BK19 := Aside0.mk (blk_below (g := w3.heap.size) (o := .cells #[.slice Ao12 r9.length co12, .slice Ao13 r10.length co13] 29 (0, 0)) (pB BK19) hb)
 replace BK22 := Aside0.mk (blk_below (g := w4.heap.size) (o := .cells #[.slice Ao17 r5.length co17, .slice Ao18 r6.length co18] 29 (0, 0)) (pB BK22) hb)
 replace BK26 := Aside0.mk (blk_below (g := w5.heap.size) (o := .cells #[.slice Ao20 r9.length co20, .slice Ao21 r10.length co21] 29 (0, 0)) (pB BK26) hb)
 have BK54 := Aside0.mk (blk_below (g := w15.heap.size) (o := .cells #[.slice Ao49 r9.length co49, .slice Ao50 r10.length co50] 29 (0, 0)) (by repeat (first | exact blk_at _ (by first | rfl | (simp; done)) | refine blk_alloc ?_ _ | refine blk_drew ?_ | refine blk_drewN ?_ _)) hb)
 have N16 := Aside0.mk (show w15.heap.size + 1 ≤ w16.heap.size from Nat.le_trans nL hb.size)
 replace HB := Aside0.mk (below_step (bB HB) hb)
 clear hb
 clear hne51 hcz52 hcz53
 have hcz55 : w16.cell? ⟨w5.heap.size, 0, none⟩ = some (.slice Ao20 r9.length co20) := (blk_cell BK26.out 0).trans rfl
 have hcz56 : w16.cell? ⟨w5.heap.size, 1, none⟩ = some (.slice Ao21 r10.length co21) := (blk_cell BK26.out 1).trans rfl
 go_wp2_with (fail)
 refine calls_of_args (args' := #[.agg #[.slice Ao20 r41.length co20, .slice Ao21 r42.length co21], .int .i64 1]) (by rw [(Kd.S_reads' HO20.out).1, (Kd.R_reads' HO21.out).1]) ?_
 (with_reducible refine (laws_heldPanel.calls k _ _ r41 _ _ r42 1 r40 _ ?side1 ?side2 ?side3 ?side4 h9.out).mono ?_)
 (case side1 => exact cS HO20); (case side2 => have e_ := Kd.S_reads' HO20.out; rw [← e_.1]; exact e_.2.1); (case side3 => exact cR HO21); (case side4 => have e_ := Kd.R_reads' HO21.out; rw [← e_.1]; exact e_.2.1)
 rintro e w17 ⟨rfl, hb⟩
 replace HO20 := Aside0.mk (Kd.S_below (pS HO20) hb)
 replace HO21 := Aside0.mk (Kd.R_below (pR HO21) hb)
 replace BK2 := Aside0.mk (blk_below (g := w.heap.size) (o := .cells #[.slice A0_0 l0_0.length c0_0, .slice A0_1 l0_1.length c0_1] 25 (0, 0)) (pB BK2) hb)
 replace BK19 := Aside0.mk (blk_below (g := w3.heap.size) (o := .cells #[.slice Ao12 r9.length co12, .slice Ao13 r10.length co13] 29 (0, 0)) (pB BK19) hb)
 replace BK22 := Aside0.mk (blk_below (g := w4.heap.size) (o := .cells #[.slice Ao17 r5.length co17, .slice Ao18 r6.length co18] 29 (0, 0)) (pB BK22) hb)
 replace BK26 := Aside0.mk (blk_below (g := w5.heap.size) (o := .cells #[.slice Ao20 r9.length co20, .slice Ao21 r10.length co21] 29 (0, 0)) (pB BK26) hb)
 replace BK54 := Aside0.mk (blk_below (g := w15.heap.size) (o := .cells #[.slice Ao49 r9.length co49, .slice Ao50 r10.length co50] 29 (0, 0)) (pB BK54) hb)
 have N17 := Aside0.mk (show w16.heap.size + 0 ≤ w17.heap.size from Nat.le_trans nL hb.size)
 replace HB := Aside0.mk (below_step (bB HB) hb)
 clear hb
 clear hcz55 hcz56
 go_wp2_with (fail)
 go_ret
 exact ⟨rfl, (bB HB)⟩

end Go.Proofs.Ytpboffjnnnmicaa.GFnExactWithOpposites
