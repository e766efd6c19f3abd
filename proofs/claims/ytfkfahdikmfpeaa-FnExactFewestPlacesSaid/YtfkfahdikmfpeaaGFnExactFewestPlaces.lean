import Derived.Test.YtfkfahdikmfpeaaPFnExactFewestPlacesx
import Derived.Test.YtfkfahdikmfpeaaKFnExactFewestPlaces
import Derived.Test.YtfkfahdikmfpeaaMc
import Derived.Test.YtfkfahdikmfpeaaSh
namespace Go.Proofs.Ytfkfahdikmfpeaa.GFnExactFewestPlaces
open Go.RowKit Go.Proofs.Ytfkfahdikmfpeaa.Sh Go.Proofs.Ytfkfahdikmfpeaa.KFnExactFewestPlaces Go.Proofs.Ytfkfahdikmfpeaa.Mc Go.Proofs.Ytfkfahdikmfpeaa.PFnExactFewestPlaces Go.Proofs.YtfkfahdikmfpeaaW.PrintWords Go.Proofs.YtfkfahdikmfpeaaW.PrintLast Go.Proofs.YtfkfahdikmfpeaaW.PrintMore
set_option linter.unusedVariables false
set_option linter.unusedSimpArgs false
set_option maxHeartbeats 8000000 in
set_option maxRecDepth 100000 in
theorem big0 (k : Nat) (A0_0 : Option Addr) (c0_0 : Nat) (l0_0 : List (List Int)) (A0_1 : Option Addr) (c0_1 : Nat) (l0_1 : List Int) (r1 : Int) (w : World) (hr0_0 : Kd.C (Kd.slice 3 (Kd.int .i64)) w A0_0 l0_0.length l0_0) (hc0_0 : l0_0.length ≤ c0_0) (hr0_1 : Kd.C (Kd.int .i64) w A0_1 l0_1.length l0_1) (hc0_1 : l0_1.length ≤ c0_1) (h1 : laws_szSample.f k l0_0 l0_1 1048576 = some r1) (q0 : r1 < 0) :
 Calls Try.prog 5 #[.agg #[.slice A0_0 l0_0.length c0_0, .slice A0_1 l0_1.length c0_1]] w fun e w' => e = .returned (.bool true) ∧ Below w.heap.size w w' := by
 have HR0_0 := Aside0.mk hr0_0
 have HC0_0 := Aside0.mk hc0_0
 clear hr0_0 hc0_0
 have HR0_1 := Aside0.mk hr0_1
 have HC0_1 := Aside0.mk hc0_1
 clear hr0_1 hc0_1
 have HB := Aside0.mk (Below.refl w.heap.size w)
 replace h1 := Aside0.mk h1
 have d0 : decide (r1 < 0) = true := decide_eq_true (by omega)
 clear q0
 go_enter Try.func5, Try.ntmps5
 go_wp2_with (fail)
 (with_reducible refine (laws_szSample.calls k _ _ l0_0 _ _ l0_1 1048576 r1 _ ?side1 ?side2 ?side3 ?side4 h1.out).mono ?_)
 (case side1 => exact cB HR0_0 HB); (case side2 => exact HC0_0.out); (case side3 => exact cB HR0_1 HB); (case side4 => exact HC0_1.out)
 rintro e w1 ⟨rfl, hb⟩
 have BK2 := Aside0.mk (blk_below (g := w.heap.size) (o := .cells #[.slice A0_0 l0_0.length c0_0, .slice A0_1 l0_1.length c0_1] 48 (0, 0)) (by repeat (first | exact blk_at _ (by first | rfl | (simp; done)) | refine blk_alloc ?_ _ | refine blk_drew ?_ | refine blk_drewN ?_ _)) hb)
 have N1 := Aside0.mk (show w.heap.size + 1 ≤ w1.heap.size from Nat.le_trans nL hb.size)
 replace HB := Aside0.mk (below_step (bB HB) hb)
 clear hb
 have hcz3 : w1.cell? ⟨w.heap.size, 0, none⟩ = some (.slice A0_0 l0_0.length c0_0) := (blk_cell BK2.out 0).trans rfl
 have hcz4 : w1.cell? ⟨w.heap.size, 1, none⟩ = some (.slice A0_1 l0_1.length c0_1) := (blk_cell BK2.out 1).trans rfl
 go_wp2_with (fail)
 go_ret
 exact ⟨rfl, (bB HB)⟩


set_option maxHeartbeats 8000000 in
set_option maxRecDepth 100000 in
theorem good (k : Nat) (A0_0 : Option Addr) (c0_0 : Nat) (l0_0 : List (List Int)) (A0_1 : Option Addr) (c0_1 : Nat) (l0_1 : List Int) (r1 : Int) (r5 : List (List Int)) (r6 : List Int) (r9 : List Int) (r10 : Bool) (r22 : Int) (r23 : List (List Int)) (r24 : List Int) (r25 : Int) (r26 : List Int) (w : World) (hr0_0 : Kd.C (Kd.slice 3 (Kd.int .i64)) w A0_0 l0_0.length l0_0) (hc0_0 : l0_0.length ≤ c0_0) (hr0_1 : Kd.C (Kd.int .i64) w A0_1 l0_1.length l0_1) (hc0_1 : l0_1.length ≤ c0_1) (h1 : laws_szSample.f k l0_0 l0_1 1048576 = some r1) (h2 : laws_toSample.f k l0_0 l0_1 = some (r5, r6)) (h3 : spec_FewestPlaces.f k r5 r6 = some (r9, r10)) (h4 : impl_FewestPlaces.f k r5 r6 = some (r9, r10)) (h5 : laws_eqIntS.f k r9 r9 = some true) (h6 : laws_eqSample.f k r5 r6 r5 r6 = some true) (h7 : laws_markSample.f k r5 r6 1 = some (r22, r23, r24)) (h8 : laws_markIntS.f k r9 1 = some (r25, r26)) (h9 : laws_heldIntS.f k r26 1 = some r25) (q0 : 0 ≤ r1) (q1 : 0 ≤ r22) (q2 : 0 ≤ r25) :
 Calls Try.prog 5 #[.agg #[.slice A0_0 l0_0.length c0_0, .slice A0_1 l0_1.length c0_1]] w fun e w' => e = .returned (.bool true) ∧ Below w.heap.size w w' := by
 have HR0_0 := Aside0.mk hr0_0
 have HC0_0 := Aside0.mk hc0_0
 clear hr0_0 hc0_0
 have HR0_1 := Aside0.mk hr0_1
 have HC0_1 := Aside0.mk hc0_1
 clear hr0_1 hc0_1
 have HB := Aside0.mk (Below.refl w.heap.size w)
 replace h1 := Aside0.mk h1
 replace h2 := Aside0.mk h2
 replace h3 := Aside0.mk h3
 replace h4 := Aside0.mk h4
 replace h5 := Aside0.mk h5
 replace h6 := Aside0.mk h6
 replace h7 := Aside0.mk h7
 replace h8 := Aside0.mk h8
 replace h9 := Aside0.mk h9
 have d0 : decide (r1 < 0) = false := decide_eq_false (by omega)
 have d1 : decide (r22 < 0) = false := decide_eq_false (by omega)
 have d2 : decide (r25 < 0) = false := decide_eq_false (by omega)
 clear q0 q1 q2
 go_enter Try.func5, Try.ntmps5
 go_wp2_with (fail)
 (with_reducible refine (laws_szSample.calls k _ _ l0_0 _ _ l0_1 1048576 r1 _ ?side1 ?side2 ?side3 ?side4 h1.out).mono ?_)
 (case side1 => exact cB HR0_0 HB); (case side2 => exact HC0_0.out); (case side3 => exact cB HR0_1 HB); (case side4 => exact HC0_1.out)
 rintro e w1 ⟨rfl, hb⟩
 have BK2 := Aside0.mk (blk_below (g := w.heap.size) (o := .cells #[.slice A0_0 l0_0.length c0_0, .slice A0_1 l0_1.length c0_1] 48 (0, 0)) (by repeat (first | exact blk_at _ (by first | rfl | (simp; done)) | refine blk_alloc ?_ _ | refine blk_drew ?_ | refine blk_drewN ?_ _)) hb)
 have N1 := Aside0.mk (show w.heap.size + 1 ≤ w1.heap.size from Nat.le_trans nL hb.size)
 replace HB := Aside0.mk (below_step (bB HB) hb)
 clear hb
 have hcz3 : w1.cell? ⟨w.heap.size, 0, none⟩ = some (.slice A0_0 l0_0.length c0_0) := (blk_cell BK2.out 0).trans rfl
 have hcz4 : w1.cell? ⟨w.heap.size, 1, none⟩ = some (.slice A0_1 l0_1.length c0_1) := (blk_cell BK2.out 1).trans rfl
 go_wp2_with (fail)
 (with_reducible refine (laws_toSample.calls k _ _ l0_0 _ _ l0_1 r5 r6 _ ?side1 ?side2 ?side3 ?side4 h2.out).mono ?_)
 (case side1 => exact cB HR0_0 HB); (case side2 => exact HC0_0.out); (case side3 => exact cB HR0_1 HB); (case side4 => exact HC0_1.out)
 rintro e w2 ⟨v7, v8, rfl, ho0, ho1, hb⟩
 replace BK2 := Aside0.mk (blk_below (g := w.heap.size) (o := .cells #[.slice A0_0 l0_0.length c0_0, .slice A0_1 l0_1.length c0_1] 48 (0, 0)) (pB BK2) hb)
 have N2 := Aside0.mk (show w1.heap.size + 0 ≤ w2.heap.size from Nat.le_trans nL hb.size)
 replace HB := Aside0.mk (below_step (bB HB) hb)
 have HO7 := Aside0.mk (S_ivl (b0 := w1.heap.size) ho0 nL)
 have HO8 := Aside0.mk (R_ivl (b0 := w1.heap.size) (Kd.R_tight rfl ho1) nL)
 clear hb ho0 ho1
 obtain ⟨Ao7, co7, eo7⟩ := Kd.S_slice HO7.out
 subst eo7
 obtain ⟨Ao8, co8, eo8⟩ := Kd.R_slice HO8.out
 subst eo8
 clear hcz3 hcz4
 go_wp2_with (fail)
 (with_reducible refine (spec_FewestPlaces.calls k _ _ r5 _ _ r6 r9 r10 _ ?side1 ?side2 ?side3 ?side4 h3.out).mono ?_)
 (case side1 => exact cS HO7); (case side2 => exact (Kd.S_reads' HO7.out).2.1); (case side3 => exact cR HO8); (case side4 => exact (Kd.R_reads' HO8.out).2.1)
 rintro e w3 ⟨v11, rfl, ho0, hb⟩
 replace HO7 := Aside0.mk (Kd.S_below (pS HO7) hb)
 replace HO8 := Aside0.mk (Kd.R_below (pR HO8) hb)
 replace BK2 := Aside0.mk (blk_below (g := w.heap.size) (o := .cells #[.slice A0_0 l0_0.length c0_0, .slice A0_1 l0_1.length c0_1] 48 (0, 0)) (pB BK2) hb)
 have N3 := Aside0.mk (show w2.heap.size + 0 ≤ w3.heap.size from Nat.le_trans nL hb.size)
 replace HB := Aside0.mk (below_step (bB HB) hb)
 have HO11 := Aside0.mk (V_ivl (b0 := w2.heap.size) ho0 nL)
 clear hb ho0
 obtain ⟨Ao11, co11, eo11⟩ := Kd.V_slice HO11.out
 subst eo11
 have hcz12 : w3.cell? ⟨w.heap.size, 0, none⟩ = some (.slice A0_0 l0_0.length c0_0) := (blk_cell BK2.out 0).trans rfl
 have hcz13 : w3.cell? ⟨w.heap.size, 1, none⟩ = some (.slice A0_1 l0_1.length c0_1) := (blk_cell BK2.out 1).trans rfl
 go_wp2_with (fail)
 (with_reducible refine (laws_toSample.calls k _ _ l0_0 _ _ l0_1 r5 r6 _ ?side1 ?side2 ?side3 ?side4 h2.out).mono ?_)
 (case side1 => exact cB HR0_0 HB); (case side2 => exact HC0_0.out); (case side3 => exact cB HR0_1 HB); (case side4 => exact HC0_1.out)
 rintro e w4 ⟨v14, v15, rfl, ho0, ho1, hb⟩
 replace HO11 := Aside0.mk (Kd.V_below (by (with_reducible repeat (first | apply Kd.V_alloc | apply Kd.V_drewN | apply Kd.V_drew)); exact HO11.out) hb)
 replace BK2 := Aside0.mk (blk_below (g := w.heap.size) (o := .cells #[.slice A0_0 l0_0.length c0_0, .slice A0_1 l0_1.length c0_1] 48 (0, 0)) (pB BK2) hb)
 have N4 := Aside0.mk (show w3.heap.size + 0 ≤ w4.heap.size from Nat.le_trans nL hb.size)
 replace HB := Aside0.mk (below_step (bB HB) hb)
 have HO14 := Aside0.mk (S_ivl (b0 := w3.heap.size) ho0 nL)
 have HO15 := Aside0.mk (R_ivl (b0 := w3.heap.size) (Kd.R_tight rfl ho1) nL)
 clear hb ho0 ho1
 obtain ⟨Ao14, co14, eo14⟩ := Kd.S_slice HO14.out
 subst eo14
 obtain ⟨Ao15, co15, eo15⟩ := Kd.R_slice HO15.out
 subst eo15
 clear hcz12 hcz13
 go_wp2_with (fail)
 (with_reducible refine (impl_FewestPlaces.calls k _ _ r5 _ _ r6 r9 r10 _ ?side1 ?side2 ?side3 ?side4 h4.out).mono ?_)
 (case side1 => exact cS HO14); (case side2 => exact (Kd.S_reads' HO14.out).2.1); (case side3 => exact cR HO15); (case side4 => exact (Kd.R_reads' HO15.out).2.1)
 rintro e w5 ⟨v16, rfl, ho0, hb⟩
 replace HO11 := Aside0.mk (Kd.V_below (by (with_reducible repeat (first | apply Kd.V_alloc | apply Kd.V_drewN | apply Kd.V_drew)); exact HO11.out) hb)
 replace HO14 := Aside0.mk (Kd.S_below (pS HO14) hb)
 replace HO15 := Aside0.mk (Kd.R_below (pR HO15) hb)
 replace BK2 := Aside0.mk (blk_below (g := w.heap.size) (o := .cells #[.slice A0_0 l0_0.length c0_0, .slice A0_1 l0_1.length c0_1] 48 (0, 0)) (pB BK2) hb)
 have BK17 := Aside0.mk (blk_below (g := w4.heap.size) (o := .cells #[.slice Ao14 r5.length co14, .slice Ao15 r6.length co15] 52 (0, 0)) (by repeat (first | exact blk_at _ (by first | rfl | (simp; done)) | refine blk_alloc ?_ _ | refine blk_drew ?_ | refine blk_drewN ?_ _)) hb)
 have N5 := Aside0.mk (show w4.heap.size + 1 ≤ w5.heap.size from Nat.le_trans nL hb.size)
 replace HB := Aside0.mk (below_step (bB HB) hb)
 have HO16 := Aside0.mk (R_ivl (b0 := (w4.heap.size + 1)) (Kd.R_tight rfl ho0) nL)
 clear hb ho0
 obtain ⟨Ao16, co16, eo16⟩ := Kd.R_slice HO16.out
 subst eo16
 go_wp2_with (fail)
 (with_reducible refine (laws_eqIntS.calls k _ _ r9 _ _ r9 true _ ?side1 ?side2 ?side3 ?side4 h5.out).mono ?_)
 (case side1 => exact cR HO16); (case side2 => exact (Kd.R_reads' HO16.out).2.1); (case side3 => repeat (first | exact (Kd.V_reads' HO11.out).2.2 | (with_reducible refine Kd.C_alloc ?_ _) | (with_reducible refine Kd.C_drewN ?_ _) | (with_reducible refine Kd.C_drew ?_))); (case side4 => exact (Kd.V_reads' HO11.out).2.1)
 rintro e w6 ⟨rfl, hd⟩
 have hb := hd.below
 replace HO11 := Aside0.mk (Kd.V_below (by (with_reducible repeat (first | apply Kd.V_alloc | apply Kd.V_drewN | apply Kd.V_drew)); exact HO11.out) hb)
 replace HO14 := Aside0.mk (Kd.S_below (pS HO14) hb)
 replace HO15 := Aside0.mk (Kd.R_below (pR HO15) hb)
 replace HO16 := Aside0.mk (Kd.R_below (pR HO16) hb)
 replace BK2 := Aside0.mk (blk_below (g := w.heap.size) (o := .cells #[.slice A0_0 l0_0.length c0_0, .slice A0_1 l0_1.length c0_1] 48 (0, 0)) (pB BK2) hb)
 replace BK17 := Aside0.mk (blk_below (g := w4.heap.size) (o := .cells #[.slice Ao14 r5.length co14, .slice Ao15 r6.length co15] 52 (0, 0)) (pB BK17) hb)
 have N6 := Aside0.mk (show w5.heap.size + 0 ≤ w6.heap.size from Nat.le_trans nL hb.size)
 replace HB := Aside0.mk (below_step (bB HB) hb)
 clear hd hb
 go_wp2_with (fail)
 replace HO11 := Aside0.mk (Kd.V_drew HO11.out)
 replace HO14 := Aside0.mk (Kd.S_drew HO14.out)
 replace HO15 := Aside0.mk (Kd.R_drew HO15.out)
 replace HO16 := Aside0.mk (Kd.R_drew HO16.out)
 replace BK2 := Aside0.mk (blk_drew BK2.out)
 replace BK17 := Aside0.mk (blk_drew BK17.out)
 replace HB := Aside0.mk (below_drew1 HB.out)
 refine start_ (n := 5) (S := fun w' => w'.cell? ⟨w4.heap.size, 0, none⟩ = some (.slice Ao14 r5.length co14) ∧ w'.cell? ⟨w4.heap.size, 1, none⟩ = some (.slice Ao15 r6.length co15) ∧ w'.cell? ⟨w.heap.size, 0, none⟩ = some (.slice A0_0 l0_0.length c0_0) ∧ w'.cell? ⟨w.heap.size, 1, none⟩ = some (.slice A0_1 l0_1.length c0_1)) (ds := []) #[false, false, false, false, false] (by kernel_rfl) rfl rfl ⟨(blk_cell BK17.out 0).trans rfl, (blk_cell BK17.out 1).trans rfl, (blk_cell BK2.out 0).trans rfl, (blk_cell BK2.out 1).trans rfl⟩ (fun hHeld => ?_)
 have N7 := Aside0.mk (show w6.heap.size ≤ w6.drew.heap.size from Nat.le_refl _)
 generalize w6.drew = w7 at HB HO11 HO14 HO15 HO16 BK2 BK17 N7 hHeld ⊢
 refine take_ (i := 0) (N := some 41) (v := ?_) (a' := ?_) #[true, false, false, false, false] rfl rfl (by kernel_rfl) (fun _ _ _ h => h) (Or.inl ⟨by rfl, ?_⟩) hHeld ?_ ?_
 rotate_left
 · rintro w' ⟨s0, s1, s2, s3⟩
   go_simp
   with_reducible rfl
 rotate_left
 · exact aP
 refine take_ (i := 1) (N := some 42) (v := ?_) (a' := ?_) #[true, true, false, false, false] rfl rfl (by kernel_rfl) (fun _ _ _ h => h) (Or.inl ⟨by rfl, ?_⟩) hHeld ?_ ?_
 rotate_left
 · rintro w' ⟨s0, s1, s2, s3⟩
   go_simp
   with_reducible rfl
 rotate_left
 · exact aP
 refine one_ (i := 2) (N := some 43) #[true, true, true, false, false] rfl rfl (by kernel_rfl) (by decide) (fun K hK => ?_)
 refine goes_ Try.func30 (by kernel_rfl) rfl #[.agg #[.slice A0_0 l0_0.length c0_0, .slice A0_1 l0_1.length c0_1]] (by rfl) rfl rfl aT ?_
 (with_reducible refine (laws_toSample.calls k _ _ l0_0 _ _ l0_1 r5 r6 _ ?side1 ?side2 ?side3 ?side4 h2.out).mono ?_)
 (case side1 => exact cB HR0_0 HB); (case side2 => exact HC0_0.out); (case side3 => exact cB HR0_1 HB); (case side4 => exact HC0_1.out)
 rintro e w8 ⟨v18, v19, rfl, ho0, ho1, hb⟩; refine ⟨_, rfl, ?_⟩
 replace HO11 := Aside0.mk (Kd.V_below (by (with_reducible repeat (first | apply Kd.V_alloc | apply Kd.V_drewN | apply Kd.V_drew)); exact HO11.out) hb)
 replace HO14 := Aside0.mk (Kd.S_below (pS HO14) hb)
 replace HO15 := Aside0.mk (Kd.R_below (pR HO15) hb)
 replace HO16 := Aside0.mk (Kd.R_below (pR HO16) hb)
 replace BK2 := Aside0.mk (blk_below (g := w.heap.size) (o := .cells #[.slice A0_0 l0_0.length c0_0, .slice A0_1 l0_1.length c0_1] 48 (0, 0)) (pB BK2) hb)
 replace BK17 := Aside0.mk (blk_below (g := w4.heap.size) (o := .cells #[.slice Ao14 r5.length co14, .slice Ao15 r6.length co15] 52 (0, 0)) (pB BK17) hb)
 have N8 := Aside0.mk (show w7.heap.size + 0 ≤ w8.heap.size from Nat.le_trans nL hb.size)
 replace HB := Aside0.mk (below_step (bB HB) hb)
 have HO18 := Aside0.mk (S_ivl (b0 := w7.heap.size) ho0 nL)
 have HO19 := Aside0.mk (R_ivl (b0 := w7.heap.size) (Kd.R_tight rfl ho1) nL)
 clear hb ho0 ho1
 obtain ⟨Ao18, co18, eo18⟩ := Kd.S_slice HO18.out
 subst eo18
 obtain ⟨Ao19, co19, eo19⟩ := Kd.R_slice HO19.out
 subst eo19
 refine hK.out _ _ ⟨(blk_cell BK17.out 0).trans rfl, (blk_cell BK17.out 1).trans rfl, (blk_cell BK2.out 0).trans rfl, (blk_cell BK2.out 1).trans rfl⟩ (fun hHeld => ?_)
 clear hK K
 refine norm_ (a' := ?_) ?_ ?_
 rotate_left
 · show Act.put _ (some 43) _ = _
   simp only [Act.put, List.setIfInBounds_toArray, List.set_cons_zero, List.set_cons_succ, i64_w, i32_w]
   rfl
 refine one_ (i := 3) (N := some 44) #[true, true, true, true, false] rfl rfl (by kernel_rfl) (by decide) (fun K hK => ?_)
 refine goes_ Try.func32 (by kernel_rfl) rfl #[.agg #[.slice Ao14 r5.length co14, .slice Ao15 r6.length co15], .agg #[.slice Ao18 r5.length co18, .slice Ao19 r6.length co19]] (by rfl) rfl rfl aT ?_
 (with_reducible refine (laws_eqSample.calls k _ _ r5 _ _ r6 _ _ r5 _ _ r6 true _ ?side1 ?side2 ?side3 ?side4 ?side5 ?side6 ?side7 ?side8 h6.out).mono ?_)
 (case side1 => exact cS HO14); (case side2 => exact (Kd.S_reads' HO14.out).2.1); (case side3 => exact cR HO15); (case side4 => exact (Kd.R_reads' HO15.out).2.1); (case side5 => exact cS HO18); (case side6 => exact (Kd.S_reads' HO18.out).2.1); (case side7 => exact cR HO19); (case side8 => exact (Kd.R_reads' HO19.out).2.1)
 rintro e w9 ⟨rfl, hb⟩; refine ⟨_, rfl, ?_⟩
 replace HO11 := Aside0.mk (Kd.V_below (by (with_reducible repeat (first | apply Kd.V_alloc | apply Kd.V_drewN | apply Kd.V_drew)); exact HO11.out) hb)
 replace HO14 := Aside0.mk (Kd.S_below (pS HO14) hb)
 replace HO15 := Aside0.mk (Kd.R_below (pR HO15) hb)
 replace HO16 := Aside0.mk (Kd.R_below (pR HO16) hb)
 replace HO18 := Aside0.mk (Kd.S_below (pS HO18) hb)
 replace HO19 := Aside0.mk (Kd.R_below (pR HO19) hb)
 replace BK2 := Aside0.mk (blk_below (g := w.heap.size) (o := .cells #[.slice A0_0 l0_0.length c0_0, .slice A0_1 l0_1.length c0_1] 48 (0, 0)) (pB BK2) hb)
 replace BK17 := Aside0.mk (blk_below (g := w4.heap.size) (o := .cells #[.slice Ao14 r5.length co14, .slice Ao15 r6.length co15] 52 (0, 0)) (pB BK17) hb)
 have N9 := Aside0.mk (show w8.heap.size + 0 ≤ w9.heap.size from Nat.le_trans nL hb.size)
 replace HB := Aside0.mk (below_step (bB HB) hb)
 clear hb
 refine hK.out _ _ ⟨(blk_cell BK17.out 0).trans rfl, (blk_cell BK17.out 1).trans rfl, (blk_cell BK2.out 0).trans rfl, (blk_cell BK2.out 1).trans rfl⟩ (fun hHeld => ?_)
 clear hK K
 refine norm_ (a' := ?_) ?_ ?_
 rotate_left
 · show Act.put _ (some 44) _ = _
   simp only [Act.put, List.setIfInBounds_toArray, List.set_cons_zero, List.set_cons_succ, i64_w, i32_w]
   rfl
 refine pure_ (i := 4) (N := some 45) (v := ?_) (a' := ?_) #[true, true, true, true, true] rfl rfl (by kernel_rfl) (fun _ _ _ h => h) (Or.inl ⟨by rfl, ?_⟩) ?_ ?_
 rotate_left
 · intro w'
   go_simp
   with_reducible rfl
 rotate_left
 · exact aP
 refine done_ (by kernel_rfl) ?_
 have hcz20 : w9.cell? ⟨w4.heap.size, 0, none⟩ = some (.slice Ao14 r5.length co14) := (blk_cell BK17.out 0).trans rfl
 have hcz21 : w9.cell? ⟨w4.heap.size, 1, none⟩ = some (.slice Ao15 r6.length co15) := (blk_cell BK17.out 1).trans rfl
 go_wp2_with (fail)
 (with_reducible refine (laws_markSample.calls k (fun k_ => some k_ ≠ (.slice Ao15 r6.length co15 : Value).ownBlock ∧ w3.heap.size ≤ k_ ∧ k_ < w4.heap.size) (.slice Ao14 r5.length co14) r5 (fun k_ => some k_ = (.slice Ao15 r6.length co15 : Value).ownBlock ∧ w3.heap.size ≤ k_ ∧ k_ < w4.heap.size) (.slice Ao15 r6.length co15) r6 1 r22 r23 r24 w _ ?side1 ?side2 ?side3 ?side4 h7.out).mono ?_)
 (case side1 => exact bB HB); (case side2 => refine Kd.S_lower (pS HO14) ?_; have := N1.out; have := N2.out; have := N3.out; omega); (case side3 => refine Kd.R_lower (pR HO15) ?_; have := N1.out; have := N2.out; have := N3.out; omega); (case side4 => exact fun k_ p_ q_ => p_.1 (q_.1 : _))
 rintro e w10 ⟨rfl, ho0, ho1, hB1, hK1⟩
 replace HO11 := Aside0.mk (Kd.V_step (by (with_reducible repeat (first | apply Kd.V_alloc | apply Kd.V_drewN | apply Kd.V_drew)); exact HO11.out) (fun k_ (ho_ : True ∧ w2.heap.size ≤ k_ ∧ k_ < w3.heap.size) hl_ => hK1.2 k_ hl_ (fun (hs_ : (some k_ ≠ (.slice Ao15 r6.length co15 : Value).ownBlock ∧ w3.heap.size ≤ k_ ∧ k_ < w4.heap.size) ∨ (some k_ = (.slice Ao15 r6.length co15 : Value).ownBlock ∧ w3.heap.size ≤ k_ ∧ k_ < w4.heap.size)) => by have ha_ := ho_.2; have hb_ := (hs_.imp (fun y_ => y_.2) (fun y_ => y_.2)); have := N1.out; have := N2.out; have := N3.out; have := N4.out; have := N5.out; have := N6.out; have := N7.out; have := N8.out; have := N9.out; first | omega | exact hs_.1 ho_.1 | exact ho_.1 hs_.1 | (rcases ho_ with h1_ | h1_ <;> first | exact h1_.1 hs_.1 | exact hs_.1 h1_.1 | omega) | (rcases hs_ with h2_ | h2_ <;> first | exact h2_.1 ho_.1 | exact ho_.1 h2_.1 | omega) | (rcases ho_ with h1_ | h1_ <;> rcases hs_ with h2_ | h2_ <;> first | exact h1_.1 h2_.1 | exact h2_.1 h1_.1 | omega))))
 replace HO16 := Aside0.mk (Kd.R_step (pR HO16) (fun k_ (ho_ : some k_ = (.slice Ao16 r9.length co16 : Value).ownBlock ∧ (w4.heap.size + 1) ≤ k_ ∧ k_ < w5.heap.size) hl_ => hK1.2 k_ hl_ (fun (hs_ : (some k_ ≠ (.slice Ao15 r6.length co15 : Value).ownBlock ∧ w3.heap.size ≤ k_ ∧ k_ < w4.heap.size) ∨ (some k_ = (.slice Ao15 r6.length co15 : Value).ownBlock ∧ w3.heap.size ≤ k_ ∧ k_ < w4.heap.size)) => by have ha_ := ho_.2; have hb_ := (hs_.imp (fun y_ => y_.2) (fun y_ => y_.2)); have := N1.out; have := N2.out; have := N3.out; have := N4.out; have := N5.out; have := N6.out; have := N7.out; have := N8.out; have := N9.out; first | omega | exact hs_.1 ho_.1 | exact ho_.1 hs_.1 | (rcases ho_ with h1_ | h1_ <;> first | exact h1_.1 hs_.1 | exact hs_.1 h1_.1 | omega) | (rcases hs_ with h2_ | h2_ <;> first | exact h2_.1 ho_.1 | exact ho_.1 h2_.1 | omega) | (rcases ho_ with h1_ | h1_ <;> rcases hs_ with h2_ | h2_ <;> first | exact h1_.1 h2_.1 | exact h2_.1 h1_.1 | omega))))
 replace BK2 := Aside0.mk (blk_kept (pB BK2) hK1 (fun hs_ => by have hs2_ : (some (w.heap.size) ≠ (.slice Ao15 r6.length co15 : Value).ownBlock ∧ w3.heap.size ≤ (w.heap.size) ∧ (w.heap.size) < w4.heap.size) ∨ (some (w.heap.size) = (.slice Ao15 r6.length co15 : Value).ownBlock ∧ w3.heap.size ≤ (w.heap.size) ∧ (w.heap.size) < w4.heap.size) := hs_; have hb_ := (hs2_.imp (fun y_ => y_.2) (fun y_ => y_.2)); have := N1.out; have := N2.out; have := N3.out; have := N4.out; have := N5.out; have := N6.out; have := N7.out; have := N8.out; have := N9.out; omega))
 replace BK17 := Aside0.mk (blk_kept (pB BK17) hK1 (fun hs_ => by have hs2_ : (some (w4.heap.size) ≠ (.slice Ao15 r6.length co15 : Value).ownBlock ∧ w3.heap.size ≤ (w4.heap.size) ∧ (w4.heap.size) < w4.heap.size) ∨ (some (w4.heap.size) = (.slice Ao15 r6.length co15 : Value).ownBlock ∧ w3.heap.size ≤ (w4.heap.size) ∧ (w4.heap.size) < w4.heap.size) := hs_; have hb_ := (hs2_.imp (fun y_ => y_.2) (fun y_ => y_.2)); have := N1.out; have := N2.out; have := N3.out; have := N4.out; have := N5.out; have := N6.out; have := N7.out; have := N8.out; have := N9.out; omega))
 have N10 := Aside0.mk (show w9.heap.size ≤ w10.heap.size from Nat.le_trans nL hK1.1)
 replace HB := Aside0.mk hB1
 replace HO14 := Aside0.mk (Kd.S_mono (ok' := fun k_ => (some k_ ≠ (.slice Ao15 r6.length co15 : Value).ownBlock ∧ w3.heap.size ≤ k_ ∧ k_ < w4.heap.size) ∨ w9.heap.size ≤ k_) ho0 (fun k_ h_ => h_.imp id (fun z_ => Nat.le_trans nL z_)))
 replace HO15 := Aside0.mk (Kd.R_mono (ok' := fun k_ => (some k_ = (.slice Ao15 r6.length co15 : Value).ownBlock ∧ w3.heap.size ≤ k_ ∧ k_ < w4.heap.size) ∨ w9.heap.size ≤ k_) ho1 (fun k_ h_ => h_.imp id (fun z_ => Nat.le_trans nL z_)))
 clear hK1 ho0 ho1 hB1
 clear hcz20 hcz21
 go_wp2_with (fail)
 (with_reducible refine (laws_eqIntS.calls k _ _ r9 _ _ r9 true _ ?side1 ?side2 ?side3 ?side4 h5.out).mono ?_)
 (case side1 => exact cR HO16); (case side2 => exact (Kd.R_reads' HO16.out).2.1); (case side3 => repeat (first | exact (Kd.V_reads' HO11.out).2.2 | (with_reducible refine Kd.C_alloc ?_ _) | (with_reducible refine Kd.C_drewN ?_ _) | (with_reducible refine Kd.C_drew ?_))); (case side4 => exact (Kd.V_reads' HO11.out).2.1)
 rintro e w11 ⟨rfl, hd⟩
 have hb := hd.below
 replace HO11 := Aside0.mk (Kd.V_below (by (with_reducible repeat (first | apply Kd.V_alloc | apply Kd.V_drewN | apply Kd.V_drew)); exact HO11.out) hb)
 replace HO16 := Aside0.mk (Kd.R_below (pR HO16) hb)
 replace BK2 := Aside0.mk (blk_below (g := w.heap.size) (o := .cells #[.slice A0_0 l0_0.length c0_0, .slice A0_1 l0_1.length c0_1] 48 (0, 0)) (pB BK2) hb)
 replace BK17 := Aside0.mk (blk_below (g := w4.heap.size) (o := .cells #[.slice Ao14 r5.length co14, .slice Ao15 r6.length co15] 52 (0, 0)) (pB BK17) hb)
 have N11 := Aside0.mk (show w10.heap.size + 0 ≤ w11.heap.size from Nat.le_trans nL hb.size)
 replace HB := Aside0.mk (below_step (bB HB) hb)
 clear hd hb
 go_wp2_with (fail)
 (with_reducible refine (laws_markIntS.calls k (fun k_ => some k_ = (.slice Ao16 r9.length co16 : Value).ownBlock ∧ (w4.heap.size + 1) ≤ k_ ∧ k_ < w5.heap.size) (.slice Ao16 r9.length co16) r9 1 r25 r26 w _ ?side1 ?side2 h8.out).mono ?_)
 (case side1 => exact bB HB); (case side2 => refine Kd.R_lower (pR HO16) ?_; have := N1.out; have := N2.out; have := N3.out; have := N4.out; omega)
 rintro e w12 ⟨rfl, ho0, hB1, hK1⟩
 replace HO11 := Aside0.mk (Kd.V_step (by (with_reducible repeat (first | apply Kd.V_alloc | apply Kd.V_drewN | apply Kd.V_drew)); exact HO11.out) (fun k_ (ho_ : True ∧ w2.heap.size ≤ k_ ∧ k_ < w3.heap.size) hl_ => hK1.2 k_ hl_ (fun (hs_ : (some k_ = (.slice Ao16 r9.length co16 : Value).ownBlock ∧ (w4.heap.size + 1) ≤ k_ ∧ k_ < w5.heap.size)) => by have ha_ := ho_.2; have hb_ := hs_.2; have := N1.out; have := N2.out; have := N3.out; have := N4.out; have := N5.out; have := N6.out; have := N7.out; have := N8.out; have := N9.out; have := N10.out; have := N11.out; first | omega | exact hs_.1 ho_.1 | exact ho_.1 hs_.1 | (rcases ho_ with h1_ | h1_ <;> first | exact h1_.1 hs_.1 | exact hs_.1 h1_.1 | omega) | (rcases hs_ with h2_ | h2_ <;> first | exact h2_.1 ho_.1 | exact ho_.1 h2_.1 | omega) | (rcases ho_ with h1_ | h1_ <;> rcases hs_ with h2_ | h2_ <;> first | exact h1_.1 h2_.1 | exact h2_.1 h1_.1 | omega))))
 replace BK2 := Aside0.mk (blk_kept (pB BK2) hK1 (fun hs_ => by have hs2_ : (some (w.heap.size) = (.slice Ao16 r9.length co16 : Value).ownBlock ∧ (w4.heap.size + 1) ≤ (w.heap.size) ∧ (w.heap.size) < w5.heap.size) := hs_; have hb_ := hs2_.2; have := N1.out; have := N2.out; have := N3.out; have := N4.out; have := N5.out; have := N6.out; have := N7.out; have := N8.out; have := N9.out; have := N10.out; have := N11.out; omega))
 replace BK17 := Aside0.mk (blk_kept (pB BK17) hK1 (fun hs_ => by have hs2_ : (some (w4.heap.size) = (.slice Ao16 r9.length co16 : Value).ownBlock ∧ (w4.heap.size + 1) ≤ (w4.heap.size) ∧ (w4.heap.size) < w5.heap.size) := hs_; have hb_ := hs2_.2; have := N1.out; have := N2.out; have := N3.out; have := N4.out; have := N5.out; have := N6.out; have := N7.out; have := N8.out; have := N9.out; have := N10.out; have := N11.out; omega))
 have N12 := Aside0.mk (show w11.heap.size ≤ w12.heap.size from Nat.le_trans nL hK1.1)
 replace HB := Aside0.mk hB1
 replace HO16 := Aside0.mk (Kd.R_mono (ok' := fun k_ => (some k_ = (.slice Ao16 r9.length co16 : Value).ownBlock ∧ (w4.heap.size + 1) ≤ k_ ∧ k_ < w5.heap.size) ∨ w11.heap.size ≤ k_) ho0 (fun k_ h_ => h_.imp id (fun z_ => Nat.le_trans nL z_)))
 clear hK1 ho0 hB1
 go_wp2_with (fail)
 refine calls_of_args (args' := #[.slice Ao16 r26.length co16, .int .i64 1]) (by rw [(Kd.R_reads' HO16.out).1]) ?_
 (with_reducible refine (laws_heldIntS.calls k _ _ r26 1 r25 _ ?side1 ?side2 h9.out).mono ?_)
 (case side1 => exact cR HO16); (case side2 => have e_ := Kd.R_reads' HO16.out; rw [← e_.1]; exact e_.2.1)
 rintro e w13 ⟨rfl, hd⟩
 have hb := hd.below
 replace HO11 := Aside0.mk (Kd.V_below (by (with_reducible repeat (first | apply Kd.V_alloc | apply Kd.V_drewN | apply Kd.V_drew)); exact HO11.out) hb)
 replace HO16 := Aside0.mk (Kd.R_below (pR HO16) hb)
 replace BK2 := Aside0.mk (blk_below (g := w.heap.size) (o := .cells #[.slice A0_0 l0_0.length c0_0, .slice A0_1 l0_1.length c0_1] 48 (0, 0)) (pB BK2) hb)
 replace BK17 := Aside0.mk (blk_below (g := w4.heap.size) (o := .cells #[.slice Ao14 r5.length co14, .slice Ao15 r6.length co15] 52 (0, 0)) (pB BK17) hb)
 have N13 := Aside0.mk (show w12.heap.size + 0 ≤ w13.heap.size from Nat.le_trans nL hb.size)
 replace HB := Aside0.mk (below_step (bB HB) hb)
 clear hd hb
 have hcz27 : w13.cell? ⟨w.heap.size, 0, none⟩ = some (.slice A0_0 l0_0.length c0_0) := (blk_cell BK2.out 0).trans rfl
 have hcz28 : w13.cell? ⟨w.heap.size, 1, none⟩ = some (.slice A0_1 l0_1.length c0_1) := (blk_cell BK2.out 1).trans rfl
 go_wp2_with (fail)
 (with_reducible refine (laws_toSample.calls k _ _ l0_0 _ _ l0_1 r5 r6 _ ?side1 ?side2 ?side3 ?side4 h2.out).mono ?_)
 (case side1 => exact cB HR0_0 HB); (case side2 => exact HC0_0.out); (case side3 => exact cB HR0_1 HB); (case side4 => exact HC0_1.out)
 rintro e w14 ⟨v29, v30, rfl, ho0, ho1, hb⟩
 replace HO11 := Aside0.mk (Kd.V_below (by (with_reducible repeat (first | apply Kd.V_alloc | apply Kd.V_drewN | apply Kd.V_drew)); exact HO11.out) hb)
 replace HO16 := Aside0.mk (Kd.R_below (pR HO16) hb)
 replace BK2 := Aside0.mk (blk_below (g := w.heap.size) (o := .cells #[.slice A0_0 l0_0.length c0_0, .slice A0_1 l0_1.length c0_1] 48 (0, 0)) (pB BK2) hb)
 replace BK17 := Aside0.mk (blk_below (g := w4.heap.size) (o := .cells #[.slice Ao14 r5.length co14, .slice Ao15 r6.length co15] 52 (0, 0)) (pB BK17) hb)
 have N14 := Aside0.mk (show w13.heap.size + 0 ≤ w14.heap.size from Nat.le_trans nL hb.size)
 replace HB := Aside0.mk (below_step (bB HB) hb)
 have HO29 := Aside0.mk (S_ivl (b0 := w13.heap.size) ho0 nL)
 have HO30 := Aside0.mk (R_ivl (b0 := w13.heap.size) (Kd.R_tight rfl ho1) nL)
 clear hb ho0 ho1
 obtain ⟨Ao29, co29, eo29⟩ := Kd.S_slice HO29.out
 subst eo29
 obtain ⟨Ao30, co30, eo30⟩ := Kd.R_slice HO30.out
 subst eo30
 clear hcz27 hcz28
 go_wp2_with (fail)
 (with_reducible refine (impl_FewestPlaces.calls k _ _ r5 _ _ r6 r9 r10 _ ?side1 ?side2 ?side3 ?side4 h4.out).mono ?_)
 (case side1 => exact cS HO29); (case side2 => exact (Kd.S_reads' HO29.out).2.1); (case side3 => exact cR HO30); (case side4 => exact (Kd.R_reads' HO30.out).2.1)
 rintro e w15 ⟨v31, rfl, ho0, hb⟩
 replace HO11 := Aside0.mk (Kd.V_below (by (with_reducible repeat (first | apply Kd.V_alloc | apply Kd.V_drewN | apply Kd.V_drew)); exact HO11.out) hb)
 replace HO16 := Aside0.mk (Kd.R_below (pR HO16) hb)
 replace HO29 := Aside0.mk (Kd.S_below (pS HO29) hb)
 replace HO30 := Aside0.mk (Kd.R_below (pR HO30) hb)
 replace BK2 := Aside0.mk (blk_below (g := w.heap.size) (o := .cells #[.slice A0_0 l0_0.length c0_0, .slice A0_1 l0_1.length c0_1] 48 (0, 0)) (pB BK2) hb)
 replace BK17 := Aside0.mk (blk_below (g := w4.heap.size) (o := .cells #[.slice Ao14 r5.length co14, .slice Ao15 r6.length co15] 52 (0, 0)) (pB BK17) hb)
 have N15 := Aside0.mk (show w14.heap.size + 0 ≤ w15.heap.size from Nat.le_trans nL hb.size)
 replace HB := Aside0.mk (below_step (bB HB) hb)
 have HO31 := Aside0.mk (R_ivl (b0 := w14.heap.size) (Kd.R_tight rfl ho0) nL)
 clear hb ho0
 obtain ⟨Ao31, co31, eo31⟩ := Kd.R_slice HO31.out
 subst eo31
 go_wp2_with (fail)
 (with_reducible refine (laws_eqIntS.calls k _ _ r9 _ _ r9 true _ ?side1 ?side2 ?side3 ?side4 h5.out).mono ?_)
 (case side1 => exact cR HO31); (case side2 => exact (Kd.R_reads' HO31.out).2.1); (case side3 => repeat (first | exact (Kd.V_reads' HO11.out).2.2 | (with_reducible refine Kd.C_alloc ?_ _) | (with_reducible refine Kd.C_drewN ?_ _) | (with_reducible refine Kd.C_drew ?_))); (case side4 => exact (Kd.V_reads' HO11.out).2.1)
 rintro e w16 ⟨rfl, hd⟩
 have hb := hd.below
 replace HO11 := Aside0.mk (Kd.V_below (by (with_reducible repeat (first | apply Kd.V_alloc | apply Kd.V_drewN | apply Kd.V_drew)); exact HO11.out) hb)
 replace HO16 := Aside0.mk (Kd.R_below (pR HO16) hb)
 replace HO31 := Aside0.mk (Kd.R_below (pR HO31) hb)
 replace BK2 := Aside0.mk (blk_below (g := w.heap.size) (o := .cells #[.slice A0_0 l0_0.length c0_0, .slice A0_1 l0_1.length c0_1] 48 (0, 0)) (pB BK2) hb)
 replace BK17 := Aside0.mk (blk_below (g := w4.heap.size) (o := .cells #[.slice Ao14 r5.length co14, .slice Ao15 r6.length co15] 52 (0, 0)) (pB BK17) hb)
 have N16 := Aside0.mk (show w15.heap.size + 0 ≤ w16.heap.size from Nat.le_trans nL hb.size)
 replace HB := Aside0.mk (below_step (bB HB) hb)
 clear hd hb
 go_wp2_with (fail)
 refine calls_of_args (args' := #[.slice Ao16 r26.length co16, .int .i64 1]) (by rw [(Kd.R_reads' HO16.out).1]) ?_
 (with_reducible refine (laws_heldIntS.calls k _ _ r26 1 r25 _ ?side1 ?side2 h9.out).mono ?_)
 (case side1 => exact cR HO16); (case side2 => have e_ := Kd.R_reads' HO16.out; rw [← e_.1]; exact e_.2.1)
 rintro e w17 ⟨rfl, hd⟩
 have hb := hd.below
 replace HO16 := Aside0.mk (Kd.R_below (pR HO16) hb)
 replace BK2 := Aside0.mk (blk_below (g := w.heap.size) (o := .cells #[.slice A0_0 l0_0.length c0_0, .slice A0_1 l0_1.length c0_1] 48 (0, 0)) (pB BK2) hb)
 replace BK17 := Aside0.mk (blk_below (g := w4.heap.size) (o := .cells #[.slice Ao14 r5.length co14, .slice Ao15 r6.length co15] 52 (0, 0)) (pB BK17) hb)
 have N17 := Aside0.mk (show w16.heap.size + 0 ≤ w17.heap.size from Nat.le_trans nL hb.size)
 replace HB := Aside0.mk (below_step (bB HB) hb)
 clear hd hb
 go_wp2_with (fail)
 go_ret
 exact ⟨rfl, (bB HB)⟩

end Go.Proofs.Ytfkfahdikmfpeaa.GFnExactFewestPlaces
