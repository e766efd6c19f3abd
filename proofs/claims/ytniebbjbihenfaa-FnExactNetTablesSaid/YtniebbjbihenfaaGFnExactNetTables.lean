import Derived.Test.YtniebbjbihenfaaPFnExactNetTablesx
import Derived.Test.YtniebbjbihenfaaKFnExactNetTables
import Derived.Test.YtniebbjbihenfaaMc
import Derived.Test.YtniebbjbihenfaaSh
namespace Go.Proofs.Ytniebbjbihenfaa.GFnExactNetTables
open Go.RowKit Go.Proofs.Ytniebbjbihenfaa.Sh Go.Proofs.Ytniebbjbihenfaa.KFnExactNetTables Go.Proofs.Ytniebbjbihenfaa.Mc Go.Proofs.Ytniebbjbihenfaa.PFnExactNetTables Go.Proofs.YtniebbjbihenfaaW.PrintWords Go.Proofs.YtniebbjbihenfaaW.PrintLast Go.Proofs.YtniebbjbihenfaaW.PrintMore
set_option linter.unusedVariables false
set_option linter.unusedSimpArgs false
set_option maxHeartbeats 8000000 in
set_option maxRecDepth 100000 in
theorem big0 (k : Nat) (a0_0 : Int) (A0_1 : Option Addr) (c0_1 : Nat) (l0_1 : List (List S37)) (r1 : Int) (w : World) (hr0_1 : Kd.C (Kd.slice 37 k37) w A0_1 l0_1.length l0_1) (hc0_1 : l0_1.length ≤ c0_1) (h1 : laws_szNet.f k a0_0 l0_1 1048576 = some r1) (q0 : r1 < 0) :
 Calls Try.prog 10 #[.agg #[.int .i64 a0_0, .slice A0_1 l0_1.length c0_1]] w fun e w' => e = .returned (.bool true) ∧ Below w.heap.size w w' := by
 have HR0_1 := Aside0.mk hr0_1
 have HC0_1 := Aside0.mk hc0_1
 clear hr0_1 hc0_1
 have HB := Aside0.mk (Below.refl w.heap.size w)
 replace h1 := Aside0.mk h1
 have d0 : decide (r1 < 0) = true := decide_eq_true (by omega)
 clear q0
 go_enter Try.func10, Try.ntmps10
 go_wp2_with (fail)
 (with_reducible refine (laws_szNet.calls k a0_0 _ _ l0_1 1048576 r1 _ ?side1 ?side2 h1.out).mono ?_)
 (case side1 => exact cB HR0_1 HB); (case side2 => exact HC0_1.out)
 rintro e w1 ⟨rfl, hb⟩
 have BK2 := Aside0.mk (blk_below (g := w.heap.size) (o := .cells #[.int .i64 a0_0, .slice A0_1 l0_1.length c0_1] 56 (0, 0)) (by repeat (first | exact blk_at _ (by first | rfl | (simp; done)) | refine blk_alloc ?_ _ | refine blk_drew ?_ | refine blk_drewN ?_ _)) hb)
 have N1 := Aside0.mk (show w.heap.size + 1 ≤ w1.heap.size from Nat.le_trans nL hb.size)
 replace HB := Aside0.mk (below_step (bB HB) hb)
 clear hb
 have hcz3 : w1.cell? ⟨w.heap.size, 0, none⟩ = some (.int .i64 a0_0) := (blk_cell BK2.out 0).trans rfl
 have hcz4 : w1.cell? ⟨w.heap.size, 1, none⟩ = some (.slice A0_1 l0_1.length c0_1) := (blk_cell BK2.out 1).trans rfl
 go_wp2_with (fail)
 go_ret
 exact ⟨rfl, (bB HB)⟩


set_option maxHeartbeats 8000000 in
set_option maxRecDepth 100000 in
theorem good (k : Nat) (a0_0 : Int) (A0_1 : Option Addr) (c0_1 : Nat) (l0_1 : List (List S37)) (r1 : Int) (r5 : Int) (r6 : List (List (S42))) (r8 : List (List Int)) (r9 : Bool) (r19 : Int) (r20 : List (List S42)) (r21 : Int) (r22 : List (List Int)) (w : World) (hr0_1 : Kd.C (Kd.slice 37 k37) w A0_1 l0_1.length l0_1) (hc0_1 : l0_1.length ≤ c0_1) (h1 : laws_szNet.f k a0_0 l0_1 1048576 = some r1) (h2 : laws_toNet.f k a0_0 l0_1 = some (r5, r6)) (h3 : spec_NetTables.f k r5 r6 = some (r8, r9)) (h4 : impl_NetTables.f k r5 r6 = some (r8, r9)) (h5 : laws_eqIntSS.f k r8 r8 = some true) (h6 : laws_eqNet.f k r5 r6 r5 r6 = some true) (h7 : laws_markNet.f k r5 r6 1 = some (r19, r20)) (h8 : laws_markIntSS.f k r8 1 = some (r21, r22)) (h9 : laws_heldIntSS.f k r22 1 = some r21) (q0 : 0 ≤ r1) (q1 : 0 ≤ r19) (q2 : 0 ≤ r21) :
 Calls Try.prog 10 #[.agg #[.int .i64 a0_0, .slice A0_1 l0_1.length c0_1]] w fun e w' => e = .returned (.bool true) ∧ Below w.heap.size w w' := by
 have HR0_1 := Aside0.mk hr0_1
 have HC0_1 := Aside0.mk hc0_1
 clear hr0_1 hc0_1
 have HB := Aside0.mk (Below.refl w.heap.size w)
 replace h1 := Aside0.mk h1
 replace h2 := Aside0.mk h2
 replace h3 := Aside0.mk h3
 replace h4 := Aside0.mk h4
 replace h5 := Aside0.mk h5
 replace h6 := Aside0.mk h6
 replace h7 := Aside0.mk h7
 replace h8 := Aside0.mk h8
 replace h9 := Aside0.mk h9
 have d0 : decide (r1 < 0) = false := decide_eq_false (by omega)
 have d1 : decide (r19 < 0) = false := decide_eq_false (by omega)
 have d2 : decide (r21 < 0) = false := decide_eq_false (by omega)
 clear q0 q1 q2
 go_enter Try.func10, Try.ntmps10
 go_wp2_with (fail)
 (with_reducible refine (laws_szNet.calls k a0_0 _ _ l0_1 1048576 r1 _ ?side1 ?side2 h1.out).mono ?_)
 (case side1 => exact cB HR0_1 HB); (case side2 => exact HC0_1.out)
 rintro e w1 ⟨rfl, hb⟩
 have BK2 := Aside0.mk (blk_below (g := w.heap.size) (o := .cells #[.int .i64 a0_0, .slice A0_1 l0_1.length c0_1] 56 (0, 0)) (by repeat (first | exact blk_at _ (by first | rfl | (simp; done)) | refine blk_alloc ?_ _ | refine blk_drew ?_ | refine blk_drewN ?_ _)) hb)
 have N1 := Aside0.mk (show w.heap.size + 1 ≤ w1.heap.size from Nat.le_trans nL hb.size)
 replace HB := Aside0.mk (below_step (bB HB) hb)
 clear hb
 have hcz3 : w1.cell? ⟨w.heap.size, 0, none⟩ = some (.int .i64 a0_0) := (blk_cell BK2.out 0).trans rfl
 have hcz4 : w1.cell? ⟨w.heap.size, 1, none⟩ = some (.slice A0_1 l0_1.length c0_1) := (blk_cell BK2.out 1).trans rfl
 go_wp2_with (fail)
 (with_reducible refine (laws_toNet.callsS k a0_0 _ _ l0_1 r5 r6 _ ?side1 ?side2 h2.out).mono ?_)
 (case side1 => exact cB HR0_1 HB); (case side2 => exact HC0_1.out)
 rintro e w2 ⟨v7, rfl, ho0, hb⟩
 replace BK2 := Aside0.mk (blk_below (g := w.heap.size) (o := .cells #[.int .i64 a0_0, .slice A0_1 l0_1.length c0_1] 56 (0, 0)) (pB BK2) hb)
 have N2 := Aside0.mk (show w1.heap.size + 0 ≤ w2.heap.size from Nat.le_trans nL hb.size)
 replace HB := Aside0.mk (below_step (bB HB) hb)
 have HO7 := Aside0.mk (S_ivl (b0 := w1.heap.size) ho0 nL)
 clear hb ho0
 obtain ⟨Ao7, co7, eo7⟩ := Kd.S_slice HO7.out
 subst eo7
 clear hcz3 hcz4
 go_wp2_with (fail)
 (with_reducible refine (spec_NetTables.calls k r5 _ _ r6 r8 r9 _ ?side1 ?side2 h3.out).mono ?_)
 (case side1 => exact cS HO7); (case side2 => exact (Kd.S_reads' HO7.out).2.1)
 rintro e w3 ⟨v10, rfl, ho0, hb⟩
 replace HO7 := Aside0.mk (Kd.S_below (pS HO7) hb)
 replace BK2 := Aside0.mk (blk_below (g := w.heap.size) (o := .cells #[.int .i64 a0_0, .slice A0_1 l0_1.length c0_1] 56 (0, 0)) (pB BK2) hb)
 have N3 := Aside0.mk (show w2.heap.size + 0 ≤ w3.heap.size from Nat.le_trans nL hb.size)
 replace HB := Aside0.mk (below_step (bB HB) hb)
 have HO10 := Aside0.mk (S_ivl (b0 := w2.heap.size) ho0 nL)
 clear hb ho0
 obtain ⟨Ao10, co10, eo10⟩ := Kd.S_slice HO10.out
 subst eo10
 have hcz11 : w3.cell? ⟨w.heap.size, 0, none⟩ = some (.int .i64 a0_0) := (blk_cell BK2.out 0).trans rfl
 have hcz12 : w3.cell? ⟨w.heap.size, 1, none⟩ = some (.slice A0_1 l0_1.length c0_1) := (blk_cell BK2.out 1).trans rfl
 go_wp2_with (fail)
 (with_reducible refine (laws_toNet.callsS k a0_0 _ _ l0_1 r5 r6 _ ?side1 ?side2 h2.out).mono ?_)
 (case side1 => exact cB HR0_1 HB); (case side2 => exact HC0_1.out)
 rintro e w4 ⟨v13, rfl, ho0, hb⟩
 replace HO10 := Aside0.mk (Kd.S_below (pS HO10) hb)
 replace BK2 := Aside0.mk (blk_below (g := w.heap.size) (o := .cells #[.int .i64 a0_0, .slice A0_1 l0_1.length c0_1] 56 (0, 0)) (pB BK2) hb)
 have N4 := Aside0.mk (show w3.heap.size + 0 ≤ w4.heap.size from Nat.le_trans nL hb.size)
 replace HB := Aside0.mk (below_step (bB HB) hb)
 have HO13 := Aside0.mk (S_ivl (b0 := w3.heap.size) ho0 nL)
 clear hb ho0
 obtain ⟨Ao13, co13, eo13⟩ := Kd.S_slice HO13.out
 subst eo13
 clear hcz11 hcz12
 go_wp2_with (fail)
 (with_reducible refine (impl_NetTables.calls k r5 _ _ r6 r8 r9 _ ?side1 ?side2 h4.out).mono ?_)
 (case side1 => exact cS HO13); (case side2 => exact (Kd.S_reads' HO13.out).2.1)
 rintro e w5 ⟨v14, rfl, ho0, hb⟩
 replace HO10 := Aside0.mk (Kd.S_below (pS HO10) hb)
 replace HO13 := Aside0.mk (Kd.S_below (pS HO13) hb)
 replace BK2 := Aside0.mk (blk_below (g := w.heap.size) (o := .cells #[.int .i64 a0_0, .slice A0_1 l0_1.length c0_1] 56 (0, 0)) (pB BK2) hb)
 have BK15 := Aside0.mk (blk_below (g := w4.heap.size) (o := .cells #[.int .i64 r5, .slice Ao13 r6.length co13] 62 (0, 0)) (by repeat (first | exact blk_at _ (by first | rfl | (simp; done)) | refine blk_alloc ?_ _ | refine blk_drew ?_ | refine blk_drewN ?_ _)) hb)
 have N5 := Aside0.mk (show w4.heap.size + 1 ≤ w5.heap.size from Nat.le_trans nL hb.size)
 replace HB := Aside0.mk (below_step (bB HB) hb)
 have HO14 := Aside0.mk (S_ivl (b0 := (w4.heap.size + 1)) ho0 nL)
 clear hb ho0
 obtain ⟨Ao14, co14, eo14⟩ := Kd.S_slice HO14.out
 subst eo14
 go_wp2_with (fail)
 (with_reducible refine (laws_eqIntSS.calls k _ _ r8 _ _ r8 true _ ?side1 ?side2 ?side3 ?side4 h5.out).mono ?_)
 (case side1 => exact cS HO14); (case side2 => exact (Kd.S_reads' HO14.out).2.1); (case side3 => exact cS HO10); (case side4 => exact (Kd.S_reads' HO10.out).2.1)
 rintro e w6 ⟨rfl, hd⟩
 have hb := hd.below
 replace HO10 := Aside0.mk (Kd.S_below (pS HO10) hb)
 replace HO13 := Aside0.mk (Kd.S_below (pS HO13) hb)
 replace HO14 := Aside0.mk (Kd.S_below (pS HO14) hb)
 replace BK2 := Aside0.mk (blk_below (g := w.heap.size) (o := .cells #[.int .i64 a0_0, .slice A0_1 l0_1.length c0_1] 56 (0, 0)) (pB BK2) hb)
 replace BK15 := Aside0.mk (blk_below (g := w4.heap.size) (o := .cells #[.int .i64 r5, .slice Ao13 r6.length co13] 62 (0, 0)) (pB BK15) hb)
 have N6 := Aside0.mk (show w5.heap.size + 0 ≤ w6.heap.size from Nat.le_trans nL hb.size)
 replace HB := Aside0.mk (below_step (bB HB) hb)
 clear hd hb
 go_wp2_with (fail)
 replace HO10 := Aside0.mk (Kd.S_drew HO10.out)
 replace HO13 := Aside0.mk (Kd.S_drew HO13.out)
 replace HO14 := Aside0.mk (Kd.S_drew HO14.out)
 replace BK2 := Aside0.mk (blk_drew BK2.out)
 replace BK15 := Aside0.mk (blk_drew BK15.out)
 replace HB := Aside0.mk (below_drew1 HB.out)
 refine start_ (n := 5) (S := fun w' => w'.cell? ⟨w4.heap.size, 0, none⟩ = some (.int .i64 r5) ∧ w'.cell? ⟨w4.heap.size, 1, none⟩ = some (.slice Ao13 r6.length co13) ∧ w'.cell? ⟨w.heap.size, 0, none⟩ = some (.int .i64 a0_0) ∧ w'.cell? ⟨w.heap.size, 1, none⟩ = some (.slice A0_1 l0_1.length c0_1)) (ds := []) #[false, false, false, false, false] (by kernel_rfl) rfl rfl ⟨(blk_cell BK15.out 0).trans rfl, (blk_cell BK15.out 1).trans rfl, (blk_cell BK2.out 0).trans rfl, (blk_cell BK2.out 1).trans rfl⟩ (fun hHeld => ?_)
 have N7 := Aside0.mk (show w6.heap.size ≤ w6.drew.heap.size from Nat.le_refl _)
 generalize w6.drew = w7 at HB HO10 HO13 HO14 BK2 BK15 N7 hHeld ⊢
 refine take_ (i := 0) (N := some 41) (v := ?_) (a' := ?_) #[true, false, false, false, false] rfl rfl (by kernel_rfl) (fun _ _ _ h => h) (Or.inl ⟨by rfl, ?_⟩) hHeld ?_ ?_
 rotate_left
 · rintro w' ⟨s0, s1, s2, s3⟩
   go_simp
   with_reducible rfl
 rotate_left
 · exact aP
 refine take_ (i := 1) (N := some 42) (v := ?_) (a' := ?_) #[true, true, false, false, false] rfl rfl (by kernel_rfl) (fun _ _ _ h => h) (Or.inl ⟨by rfl, ?_⟩) hHeld ?_ ?_
 rotate_left
 · rintro w' ⟨s0, s1, s2, s3⟩
   go_simp
   with_reducible rfl
 rotate_left
 · exact aP
 refine one_ (i := 2) (N := some 43) #[true, true, true, false, false] rfl rfl (by kernel_rfl) (by decide) (fun K hK => ?_)
 refine goes_ Try.func41 (by kernel_rfl) rfl #[.agg #[.int .i64 a0_0, .slice A0_1 l0_1.length c0_1]] (by rfl) rfl rfl aT ?_
 (with_reducible refine (laws_toNet.callsS k a0_0 _ _ l0_1 r5 r6 _ ?side1 ?side2 h2.out).mono ?_)
 (case side1 => exact cB HR0_1 HB); (case side2 => exact HC0_1.out)
 rintro e w8 ⟨v16, rfl, ho0, hb⟩; refine ⟨_, rfl, ?_⟩
 replace HO10 := Aside0.mk (Kd.S_below (pS HO10) hb)
 replace HO13 := Aside0.mk (Kd.S_below (pS HO13) hb)
 replace HO14 := Aside0.mk (Kd.S_below (pS HO14) hb)
 replace BK2 := Aside0.mk (blk_below (g := w.heap.size) (o := .cells #[.int .i64 a0_0, .slice A0_1 l0_1.length c0_1] 56 (0, 0)) (pB BK2) hb)
 replace BK15 := Aside0.mk (blk_below (g := w4.heap.size) (o := .cells #[.int .i64 r5, .slice Ao13 r6.length co13] 62 (0, 0)) (pB BK15) hb)
 have N8 := Aside0.mk (show w7.heap.size + 0 ≤ w8.heap.size from Nat.le_trans nL hb.size)
 replace HB := Aside0.mk (below_step (bB HB) hb)
 have HO16 := Aside0.mk (S_ivl (b0 := w7.heap.size) ho0 nL)
 clear hb ho0
 obtain ⟨Ao16, co16, eo16⟩ := Kd.S_slice HO16.out
 subst eo16
 refine hK.out _ _ ⟨(blk_cell BK15.out 0).trans rfl, (blk_cell BK15.out 1).trans rfl, (blk_cell BK2.out 0).trans rfl, (blk_cell BK2.out 1).trans rfl⟩ (fun hHeld => ?_)
 clear hK K
 refine norm_ (a' := ?_) ?_ ?_
 rotate_left
 · show Act.put _ (some 43) _ = _
   simp only [Act.put, List.setIfInBounds_toArray, List.set_cons_zero, List.set_cons_succ, i64_w, i32_w]
   rfl
 refine one_ (i := 3) (N := some 44) #[true, true, true, true, false] rfl rfl (by kernel_rfl) (by decide) (fun K hK => ?_)
 refine goes_ Try.func43 (by kernel_rfl) rfl #[.agg #[.int .i64 r5, .slice Ao13 r6.length co13], .agg #[.int .i64 r5, .slice Ao16 r6.length co16]] (by rfl) rfl rfl aT ?_
 (with_reducible refine (laws_eqNet.calls k r5 _ _ r6 r5 _ _ r6 true _ ?side1 ?side2 ?side3 ?side4 h6.out).mono ?_)
 (case side1 => exact cS HO13); (case side2 => exact (Kd.S_reads' HO13.out).2.1); (case side3 => exact cS HO16); (case side4 => exact (Kd.S_reads' HO16.out).2.1)
 rintro e w9 ⟨rfl, hb⟩; refine ⟨_, rfl, ?_⟩
 replace HO10 := Aside0.mk (Kd.S_below (pS HO10) hb)
 replace HO13 := Aside0.mk (Kd.S_below (pS HO13) hb)
 replace HO14 := Aside0.mk (Kd.S_below (pS HO14) hb)
 replace HO16 := Aside0.mk (Kd.S_below (pS HO16) hb)
 replace BK2 := Aside0.mk (blk_below (g := w.heap.size) (o := .cells #[.int .i64 a0_0, .slice A0_1 l0_1.length c0_1] 56 (0, 0)) (pB BK2) hb)
 replace BK15 := Aside0.mk (blk_below (g := w4.heap.size) (o := .cells #[.int .i64 r5, .slice Ao13 r6.length co13] 62 (0, 0)) (pB BK15) hb)
 have N9 := Aside0.mk (show w8.heap.size + 0 ≤ w9.heap.size from Nat.le_trans nL hb.size)
 replace HB := Aside0.mk (below_step (bB HB) hb)
 clear hb
 refine hK.out _ _ ⟨(blk_cell BK15.out 0).trans rfl, (blk_cell BK15.out 1).trans rfl, (blk_cell BK2.out 0).trans rfl, (blk_cell BK2.out 1).trans rfl⟩ (fun hHeld => ?_)
 clear hK K
 refine norm_ (a' := ?_) ?_ ?_
 rotate_left
 · show Act.put _ (some 44) _ = _
   simp only [Act.put, List.setIfInBounds_toArray, List.set_cons_zero, List.set_cons_succ, i64_w, i32_w]
   rfl
 refine pure_ (i := 4) (N := some 45) (v := ?_) (a' := ?_) #[true, true, true, true, true] rfl rfl (by kernel_rfl) (fun _ _ _ h => h) (Or.inl ⟨by rfl, ?_⟩) ?_ ?_
 rotate_left
 · intro w'
   go_simp
   with_reducible rfl
 rotate_left
 · exact aP
 refine done_ (by kernel_rfl) ?_
 have hcz17 : w9.cell? ⟨w4.heap.size, 0, none⟩ = some (.int .i64 r5) := (blk_cell BK15.out 0).trans rfl
 have hcz18 : w9.cell? ⟨w4.heap.size, 1, none⟩ = some (.slice Ao13 r6.length co13) := (blk_cell BK15.out 1).trans rfl
 go_wp2_with (fail)
 (with_reducible refine (laws_markNet.calls k r5 (fun k_ => True ∧ w3.heap.size ≤ k_ ∧ k_ < w4.heap.size) (.slice Ao13 r6.length co13) r6 1 r19 r20 w _ ?side1 ?side2 h7.out).mono ?_)
 (case side1 => exact bB HB); (case side2 => refine Kd.S_lower (pS HO13) ?_; have := N1.out; have := N2.out; have := N3.out; omega)
 rintro e w10 ⟨rfl, ho0, hB1, hK1⟩
 replace HO10 := Aside0.mk (Kd.S_step (pS HO10) (fun k_ (ho_ : True ∧ w2.heap.size ≤ k_ ∧ k_ < w3.heap.size) hl_ => hK1.2 k_ hl_ (fun (hs_ : (True ∧ w3.heap.size ≤ k_ ∧ k_ < w4.heap.size)) => by have ha_ := ho_.2; have hb_ := hs_.2; have := N1.out; have := N2.out; have := N3.out; have := N4.out; have := N5.out; have := N6.out; have := N7.out; have := N8.out; have := N9.out; omega)))
 replace HO14 := Aside0.mk (Kd.S_step (pS HO14) (fun k_ (ho_ : True ∧ (w4.heap.size + 1) ≤ k_ ∧ k_ < w5.heap.size) hl_ => hK1.2 k_ hl_ (fun (hs_ : (True ∧ w3.heap.size ≤ k_ ∧ k_ < w4.heap.size)) => by have ha_ := ho_.2; have hb_ := hs_.2; have := N1.out; have := N2.out; have := N3.out; have := N4.out; have := N5.out; have := N6.out; have := N7.out; have := N8.out; have := N9.out; omega)))
 replace BK2 := Aside0.mk (blk_kept (pB BK2) hK1 (fun hs_ => by have hs2_ : (True ∧ w3.heap.size ≤ (w.heap.size) ∧ (w.heap.size) < w4.heap.size) := hs_; have hb_ := hs2_.2; have := N1.out; have := N2.out; have := N3.out; have := N4.out; have := N5.out; have := N6.out; have := N7.out; have := N8.out; have := N9.out; omega))
 replace BK15 := Aside0.mk (blk_kept (pB BK15) hK1 (fun hs_ => by have hs2_ : (True ∧ w3.heap.size ≤ (w4.heap.size) ∧ (w4.heap.size) < w4.heap.size) := hs_; have hb_ := hs2_.2; have := N1.out; have := N2.out; have := N3.out; have := N4.out; have := N5.out; have := N6.out; have := N7.out; have := N8.out; have := N9.out; omega))
 have N10 := Aside0.mk (show w9.heap.size ≤ w10.heap.size from Nat.le_trans nL hK1.1)
 replace HB := Aside0.mk hB1
 replace HO13 := Aside0.mk (Kd.S_mono (ok' := fun k_ => (True ∧ w3.heap.size ≤ k_ ∧ k_ < w4.heap.size) ∨ w9.heap.size ≤ k_) ho0 (fun k_ h_ => h_.imp id (fun z_ => Nat.le_trans nL z_)))
 clear hK1 ho0 hB1
 clear hcz17 hcz18
 go_wp2_with (fail)
 (with_reducible refine (laws_eqIntSS.calls k _ _ r8 _ _ r8 true _ ?side1 ?side2 ?side3 ?side4 h5.out).mono ?_)
 (case side1 => exact cS HO14); (case side2 => exact (Kd.S_reads' HO14.out).2.1); (case side3 => exact cS HO10); (case side4 => exact (Kd.S_reads' HO10.out).2.1)
 rintro e w11 ⟨rfl, hd⟩
 have hb := hd.below
 replace HO10 := Aside0.mk (Kd.S_below (pS HO10) hb)
 replace HO14 := Aside0.mk (Kd.S_below (pS HO14) hb)
 replace BK2 := Aside0.mk (blk_below (g := w.heap.size) (o := .cells #[.int .i64 a0_0, .slice A0_1 l0_1.length c0_1] 56 (0, 0)) (pB BK2) hb)
 replace BK15 := Aside0.mk (blk_below (g := w4.heap.size) (o := .cells #[.int .i64 r5, .slice Ao13 r6.length co13] 62 (0, 0)) (pB BK15) hb)
 have N11 := Aside0.mk (show w10.heap.size + 0 ≤ w11.heap.size from Nat.le_trans nL hb.size)
 replace HB := Aside0.mk (below_step (bB HB) hb)
 clear hd hb
 go_wp2_with (fail)
 (with_reducible refine (laws_markIntSS.calls k (fun k_ => True ∧ (w4.heap.size + 1) ≤ k_ ∧ k_ < w5.heap.size) (.slice Ao14 r8.length co14) r8 1 r21 r22 w _ ?side1 ?side2 h8.out).mono ?_)
 (case side1 => exact bB HB); (case side2 => refine Kd.S_lower (pS HO14) ?_; have := N1.out; have := N2.out; have := N3.out; have := N4.out; omega)
 rintro e w12 ⟨rfl, ho0, hB1, hK1⟩
 replace HO10 := Aside0.mk (Kd.S_step (pS HO10) (fun k_ (ho_ : True ∧ w2.heap.size ≤ k_ ∧ k_ < w3.heap.size) hl_ => hK1.2 k_ hl_ (fun (hs_ : (True ∧ (w4.heap.size + 1) ≤ k_ ∧ k_ < w5.heap.size)) => by have ha_ := ho_.2; have hb_ := hs_.2; have := N1.out; have := N2.out; have := N3.out; have := N4.out; have := N5.out; have := N6.out; have := N7.out; have := N8.out; have := N9.out; have := N10.out; have := N11.out; omega)))
 replace BK2 := Aside0.mk (blk_kept (pB BK2) hK1 (fun hs_ => by have hs2_ : (True ∧ (w4.heap.size + 1) ≤ (w.heap.size) ∧ (w.heap.size) < w5.heap.size) := hs_; have hb_ := hs2_.2; have := N1.out; have := N2.out; have := N3.out; have := N4.out; have := N5.out; have := N6.out; have := N7.out; have := N8.out; have := N9.out; have := N10.out; have := N11.out; omega))
 replace BK15 := Aside0.mk (blk_kept (pB BK15) hK1 (fun hs_ => by have hs2_ : (True ∧ (w4.heap.size + 1) ≤ (w4.heap.size) ∧ (w4.heap.size) < w5.heap.size) := hs_; have hb_ := hs2_.2; have := N1.out; have := N2.out; have := N3.out; have := N4.out; have := N5.out; have := N6.out; have := N7.out; have := N8.out; have := N9.out; have := N10.out; have := N11.out; omega))
 have N12 := Aside0.mk (show w11.heap.size ≤ w12.heap.size from Nat.le_trans nL hK1.1)
 replace HB := Aside0.mk hB1
 replace HO14 := Aside0.mk (Kd.S_mono (ok' := fun k_ => (True ∧ (w4.heap.size + 1) ≤ k_ ∧ k_ < w5.heap.size) ∨ w11.heap.size ≤ k_) ho0 (fun k_ h_ => h_.imp id (fun z_ => Nat.le_trans nL z_)))
 clear hK1 ho0 hB1
 go_wp2_with (fail)
 refine calls_of_args (args' := #[.slice Ao14 r22.length co14, .int .i64 1]) (by rw [(Kd.S_reads' HO14.out).1]) ?_
 (with_reducible refine (laws_heldIntSS.calls k _ _ r22 1 r21 _ ?side1 ?side2 h9.out).mono ?_)
 (case side1 => exact cS HO14); (case side2 => have e_ := Kd.S_reads' HO14.out; rw [← e_.1]; exact e_.2.1)
 rintro e w13 ⟨rfl, hd⟩
 have hb := hd.below
 replace HO10 := Aside0.mk (Kd.S_below (pS HO10) hb)
 replace HO14 := Aside0.mk (Kd.S_below (pS HO14) hb)
 replace BK2 := Aside0.mk (blk_below (g := w.heap.size) (o := .cells #[.int .i64 a0_0, .slice A0_1 l0_1.length c0_1] 56 (0, 0)) (pB BK2) hb)
 replace BK15 := Aside0.mk (blk_below (g := w4.heap.size) (o := .cells #[.int .i64 r5, .slice Ao13 r6.length co13] 62 (0, 0)) (pB BK15) hb)
 have N13 := Aside0.mk (show w12.heap.size + 0 ≤ w13.heap.size from Nat.le_trans nL hb.size)
 replace HB := Aside0.mk (below_step (bB HB) hb)
 clear hd hb
 have hcz23 : w13.cell? ⟨w.heap.size, 0, none⟩ = some (.int .i64 a0_0) := (blk_cell BK2.out 0).trans rfl
 have hcz24 : w13.cell? ⟨w.heap.size, 1, none⟩ = some (.slice A0_1 l0_1.length c0_1) := (blk_cell BK2.out 1).trans rfl
 go_wp2_with (fail)
 (with_reducible refine (laws_toNet.callsS k a0_0 _ _ l0_1 r5 r6 _ ?side1 ?side2 h2.out).mono ?_)
 (case side1 => exact cB HR0_1 HB); (case side2 => exact HC0_1.out)
 rintro e w14 ⟨v25, rfl, ho0, hb⟩
 replace HO10 := Aside0.mk (Kd.S_below (pS HO10) hb)
 replace HO14 := Aside0.mk (Kd.S_below (pS HO14) hb)
 replace BK2 := Aside0.mk (blk_below (g := w.heap.size) (o := .cells #[.int .i64 a0_0, .slice A0_1 l0_1.length c0_1] 56 (0, 0)) (pB BK2) hb)
 replace BK15 := Aside0.mk (blk_below (g := w4.heap.size) (o := .cells #[.int .i64 r5, .slice Ao13 r6.length co13] 62 (0, 0)) (pB BK15) hb)
 have N14 := Aside0.mk (show w13.heap.size + 0 ≤ w14.heap.size from Nat.le_trans nL hb.size)
 replace HB := Aside0.mk (below_step (bB HB) hb)
 have HO25 := Aside0.mk (S_ivl (b0 := w13.heap.size) ho0 nL)
 clear hb ho0
 obtain ⟨Ao25, co25, eo25⟩ := Kd.S_slice HO25.out
 subst eo25
 clear hcz23 hcz24
 go_wp2_with (fail)
 (with_reducible refine (impl_NetTables.calls k r5 _ _ r6 r8 r9 _ ?side1 ?side2 h4.out).mono ?_)
 (case side1 => exact cS HO25); (case side2 => exact (Kd.S_reads' HO25.out).2.1)
 rintro e w15 ⟨v26, rfl, ho0, hb⟩
 replace HO10 := Aside0.mk (Kd.S_below (pS HO10) hb)
 replace HO14 := Aside0.mk (Kd.S_below (pS HO14) hb)
 replace HO25 := Aside0.mk (Kd.S_below (pS HO25) hb)
 replace BK2 := Aside0.mk (blk_below (g := w.heap.size) (o := .cells #[.int .i64 a0_0, .slice A0_1 l0_1.length c0_1] 56 (0, 0)) (pB BK2) hb)
 replace BK15 := Aside0.mk (blk_below (g := w4.heap.size) (o := .cells #[.int .i64 r5, .slice Ao13 r6.length co13] 62 (0, 0)) (pB BK15) hb)
 have N15 := Aside0.mk (show w14.heap.size + 0 ≤ w15.heap.size from Nat.le_trans nL hb.size)
 replace HB := Aside0.mk (below_step (bB HB) hb)
 have HO26 := Aside0.mk (S_ivl (b0 := w14.heap.size) ho0 nL)
 clear hb ho0
 obtain ⟨Ao26, co26, eo26⟩ := Kd.S_slice HO26.out
 subst eo26
 go_wp2_with (fail)
 (with_reducible refine (laws_eqIntSS.calls k _ _ r8 _ _ r8 true _ ?side1 ?side2 ?side3 ?side4 h5.out).mono ?_)
 (case side1 => exact cS HO26); (case side2 => exact (Kd.S_reads' HO26.out).2.1); (case side3 => exact cS HO10); (case side4 => exact (Kd.S_reads' HO10.out).2.1)
 rintro e w16 ⟨rfl, hd⟩
 have hb := hd.below
 replace HO10 := Aside0.mk (Kd.S_below (pS HO10) hb)
 replace HO14 := Aside0.mk (Kd.S_below (pS HO14) hb)
 replace HO26 := Aside0.mk (Kd.S_below (pS HO26) hb)
 replace BK2 := Aside0.mk (blk_below (g := w.heap.size) (o := .cells #[.int .i64 a0_0, .slice A0_1 l0_1.length c0_1] 56 (0, 0)) (pB BK2) hb)
 replace BK15 := Aside0.mk (blk_below (g := w4.heap.size) (o := .cells #[.int .i64 r5, .slice Ao13 r6.length co13] 62 (0, 0)) (pB BK15) hb)
 have N16 := Aside0.mk (show w15.heap.size + 0 ≤ w16.heap.size from Nat.le_trans nL hb.size)
 replace HB := Aside0.mk (below_step (bB HB) hb)
 clear hd hb
 go_wp2_with (fail)
 refine calls_of_args (args' := #[.slice Ao14 r22.length co14, .int .i64 1]) (by rw [(Kd.S_reads' HO14.out).1]) ?_
 (with_reducible refine (laws_heldIntSS.calls k _ _ r22 1 r21 _ ?side1 ?side2 h9.out).mono ?_)
 (case side1 => exact cS HO14); (case side2 => have e_ := Kd.S_reads' HO14.out; rw [← e_.1]; exact e_.2.1)
 rintro e w17 ⟨rfl, hd⟩
 have hb := hd.below
 replace HO14 := Aside0.mk (Kd.S_below (pS HO14) hb)
 replace BK2 := Aside0.mk (blk_below (g := w.heap.size) (o := .cells #[.int .i64 a0_0, .slice A0_1 l0_1.length c0_1] 56 (0, 0)) (pB BK2) hb)
 replace BK15 := Aside0.mk (blk_below (g := w4.heap.size) (o := .cells #[.int .i64 r5, .slice Ao13 r6.length co13] 62 (0, 0)) (pB BK15) hb)
 have N17 := Aside0.mk (show w16.heap.size + 0 ≤ w17.heap.size from Nat.le_trans nL hb.size)
 replace HB := Aside0.mk (below_step (bB HB) hb)
 clear hd hb
 go_wp2_with (fail)
 go_ret
 exact ⟨rfl, (bB HB)⟩

end Go.Proofs.Ytniebbjbihenfaa.GFnExactNetTables
