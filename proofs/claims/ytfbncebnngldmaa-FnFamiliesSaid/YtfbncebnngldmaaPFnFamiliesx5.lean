-- Printed by wip/tools/myprint.py (the printer of the kit, patched by that program; roots chosen by it)
import Derived.Test.YtfbncebnngldmaaPFnFamiliesx0
import Derived.Test.YtfbncebnngldmaaPFnFamiliesx4
import Derived.Test.YtfbncebnngldmaaSh
namespace Go.Proofs.Ytfbncebnngldmaa.PFnFamilies
open Go.RowKit Go.Proofs.Ytfbncebnngldmaa.Sh Go.Proofs.YtfbncebnngldmaaW.PrintWords Go.Proofs.YtfbncebnngldmaaW.PrintLast Go.Proofs.YtfbncebnngldmaaW.PrintMore
attribute [local go_sem] max2_int min2_int max_two min_two max_three min_three max_four min_four   -- for this text's walks alone
set_option linter.unusedVariables false
set_option linter.unusedSimpArgs false

/-! ### impl_Net_gives: function 29 -/
mutual
def impl_Net_gives.l0 : Nat → List Int → List (List (S45)) → Int → Int → Option (List Int)
 | 0, _, _, _, _ => none
 | k + 1, x5, x14, x15, x16 => if x16 < x15 then (if 0 ≤ x16 then (if x16 < (x14.length : Int) then (impl_Net_gives.l1 k x5 (([] : List Int)) x14 x15 x16 (rd_L5 x14 x16) ((rd_L5 x14 x16).length : Int) 0) else (none)) else (none)) else (some x5)
def impl_Net_gives.l1 : Nat → List Int → List Int → List (List (S45)) → Int → Int → List (S45) → Int → Int → Option (List Int)
 | 0, _, _, _, _, _, _, _, _ => none
 | k + 1, x5, x8, x14, x15, x16, x21, x22, x23 => if x23 < x22 then (if 0 ≤ x23 then (if x23 < (x21.length : Int) then ((impl_Plane_side.f k ((rd_T45 x21 x23).f0) ((rd_T45 x21 x23).f1) x5).bind fun t305 => (if x8.length < 17592186044416 then (impl_Net_gives.l1 k x5 (x8 ++ [wrap64 (Int.tdiv (wrap64 (t305 + 1)) 2)]) x14 x15 x16 x21 x22 (wrap64 (x23 + 1))) else (none))) else (none)) else (none)) else (impl_Net_gives.l0 k x8 x14 x15 (wrap64 (x16 + 1)))
end
def impl_Net_gives.f (k : Nat) (a0_0 : Int) (l0_1 : List (List (S45))) (l1 : List Int) : Option (List Int) := (impl_copied.f l1).bind fun t296 => (impl_Net_gives.l0 k t296 l0_1 (l0_1.length : Int) 0)
set_option maxHeartbeats 8000000 in
set_option maxRecDepth 100000 in
theorem impl_Net_gives.calls (k : Nat) (a0_0 : Int) (A0_1 : Option Addr) (c0_1 : Nat) (l0_1 : List (List (S45))) (A1 : Option Addr) (c1 : Nat) (l1 : List Int) (r : List Int) (w : World) (hr0_1 : Kd.C (Kd.slice 45 k45) w A0_1 l0_1.length l0_1) (hc0_1 : l0_1.length ≤ c0_1) (hr1 : Kd.C (Kd.int .i64) w A1 l1.length l1) (hc1 : l1.length ≤ c1) (h : impl_Net_gives.f k a0_0 l0_1 l1 = some r) :
 Calls Try.prog 29 #[.agg #[.int .i64 a0_0, .slice A0_1 l0_1.length c0_1], .slice A1 l1.length c1] w fun e w' => ∃ v0_ : Value, e = .returned (v0_) ∧ Kd.R (Kd.int .i64) 3 w' w.heap.size (fun _ => True) v0_ r ∧ Below w.heap.size w w' := by
 have hu27 := Try.underlying27
 have hu45 := Try.underlying45
 have HR0_1 := Aside0.mk hr0_1
 have HC0_1 := Aside0.mk hc0_1
 clear hr0_1 hc0_1
 have HR1 := Aside0.mk hr1
 have HC1 := Aside0.mk hc1
 clear hr1 hc1
 have HB := Aside0.mk (Below.refl w.heap.size w)
 have H : ((impl_copied.f l1).bind fun t296 => (impl_Net_gives.l0 k t296 l0_1 (l0_1.length : Int) 0)) = some r := h
 clear h
 replace H := Option.bind_eq_some_iff.mp H
 obtain ⟨t296, A30, H⟩ := H
 replace H : (impl_Net_gives.l0 k t296 l0_1 (l0_1.length : Int) 0) = some r := H
 have A3 := Aside0.mk A30
 clear A30
 have H' := Aside0.mk H
 clear H
 go_enter Try.func29, Try.ntmps29
 go_wp2_with (first | ((with_reducible refine gate_dst (N := 2) rfl ?_); refine box_event ?hg (N := 2) ?hd (cs := #[.int .i64 a0_0, .slice A0_1 l0_1.length c0_1]) (t := 27) ?hr ?_; (case hd => rfl); (case hg => rfl); (case hr => first | (go_simp; done) | (go_simp; rfl)); intro gb295 hg w4 hbox hb; have n0_ := Aside0.mk (below_step (bB HB) hb); have n1_ := Aside0.mk (hbox); have n2_ := Aside0.mk ((by rw [hg]; exact (below_size (bB HB)) : w.heap.size ≤ gb295)); have n3_ := Aside0.mk ((by rw [hg]; exact (below_size (bB HB)) : w.heap.size ≤ gb295)); clear HB; have HB := n0_; have BK295 := n1_; have GW295 := n2_; have GE295 := n3_; clear n0_ n1_ n2_ n3_; clear hb hbox hg) | ((with_reducible refine gate_callee (f := 33) rfl ?_); refine goesL_ (some 12) rfl rfl Try.func33 (by kernel_rfl) rfl #[.slice A1 l1.length c1] rfl aT ?_; (with_reducible refine (impl_copied.calls _ _ l1 t296 _ ?side1 ?side2 A3.out).mono ?_); (case side1 => exact cB HR1 HB); (case side2 => exact HC1.out); rintro e w5 ⟨v297, rfl, ho0, hb⟩; refine ⟨_, rfl, ?_⟩; have n0_ := Aside0.mk (Kd.R_lower ho0 (below_size (bC HB GE295))); have n1_ := Aside0.mk (bW BK295 hb); have n2_ := Aside0.mk (below_step (bC HB GE295) hb); clear BK295; clear HB; have HO298 := n0_; have BK295 := n1_; have HB := n2_; clear n0_ n1_ n2_; (try clear hb); (try clear hb2); (try clear hk); (try clear hi); (try clear ho0); have hcz6_0 : w5.cell? ⟨gb295, 0, none⟩ = some (.int .i64 a0_0) := (blk_cell BK295.out 0).trans rfl; have hcz6_1 : w5.cell? ⟨gb295, 1, none⟩ = some (.slice A0_1 l0_1.length c0_1) := (blk_cell BK295.out 1).trans rfl; have hfz6_0 := blk_frozen BK295.out 0; have hfz6_1 := blk_frozen BK295.out 1))
 go_loopg [5, 16] k (fun kq v5 v16 w' => ∃ (x5_1 : List Int) (x16_1 : Int), v16 = .int .i64 x16_1 ∧ Aside0 (impl_Net_gives.l0 kq x5_1 l0_1 (l0_1.length : Int) x16_1 = some r) ∧ Aside0 (kq ≤ k) ∧ Aside0 (Kd.R (Kd.int .i64) 3 w' w.heap.size (fun _ => True) v5 x5_1) ∧ Aside0 (w'.heap[gb295]? = some (.cells #[.int .i64 a0_0, (.slice A0_1 l0_1.length c0_1)] 27 (0, 0))) ∧ Aside0 (Below w.heap.size w w'))
 case atStart => exact ⟨(t296), (0), rD, H', ⟨Nat.le_refl _⟩, ⟨pR HO298⟩, ⟨pB BK295⟩, ⟨bC HB GE295⟩⟩
 case round =>
  clear H'
  try clear c1
  try clear hcz6_0
  try clear hcz6_1
  try clear hfz6_0
  try clear hfz6_1
  obtain ⟨x5_1, x16_1, rfl, HA, HK1, HO_5, BK295, HB⟩ := hrel
  cases gk with
  | zero => exact absurd HA.out (by simp [impl_Net_gives.l0])
  | succ k1 =>
   have H := HA.out
   clear HA
   simp only [impl_Net_gives.l0] at H
   by_cases c7 : x16_1 < (l0_1.length : Int)
   · rw [if_pos c7] at H
     have c7b0 : decide (x16_1 < (l0_1.length : Int)) = true := decide_eq_true c7
     clear c7
     by_cases c8 : 0 ≤ x16_1
     · rw [if_pos c8] at H
       have c8b0 : decide (0 ≤ x16_1) = true := decide_eq_true c8
       clear c8
       by_cases c9 : x16_1 < (l0_1.length : Int)
       · rw [if_pos c9] at H
         have c9b0 : decide (x16_1 < (l0_1.length : Int)) = true := decide_eq_true c9
         clear c9
         obtain ⟨y300, hy300⟩ : ∃ y_ : List Int, y_ = (([] : List Int)) := ⟨_, rfl⟩
         replace H : (impl_Net_gives.l1 k1 x5_1 y300 l0_1 (l0_1.length : Int) x16_1 (rd_L5 l0_1 x16_1) ((rd_L5 l0_1 x16_1).length : Int) 0) = some r := by first | (rw [hy300]; with_reducible exact H) | (have H2_ := (Option.bind_some _ _).symm.trans H; rw [hy300]; with_reducible exact H2_) | (have H2_ := (Option.bind_some _ _).symm.trans H; with_reducible exact H2_) | with_reducible exact H | (rw [hy300]; exact H) | exact H
         have Ny300 := Aside0.mk hy300
         clear hy300
         have H' := Aside0.mk H
         clear H
         have p299 : 0 ≤ (x16_1 : Int) := of_decide_eq_true aS
         have q299 : x16_1 < (l0_1.length : Int) := of_decide_eq_true aS
         obtain ⟨ad299, A299_0, c299_0, e299, hx299_0, hl299_0, hi299_0⟩ := at_L5 HR0_1.out x16_1 p299 q299
         cases e299
         replace hx299_0 := (HB.out.cell (World.block_lt_of_cell? w _ hx299_0)).trans hx299_0
         have HR299_0 := Aside0.mk hi299_0
         have HC299_0 := Aside0.mk hl299_0
         clear hi299_0 hl299_0
         replace p299 := eq_true p299
         replace q299 := eq_true q299
         go_wp2_with (first | ((with_reducible refine gate_dst (N := 20) rfl ?_); refine Kd.R_lit (Kd.int .i64) _ 3 ?hg (N := 20) ?hd (xs := ([] : List Int)) (inner := []) (ok := fun _ => True) (okp := fun _ => True) ?hr ?hp (fun _ hk => hk) trivial (Below.refl _ _) (Nat.le_refl _) (by simp) ?_; (case hd => rfl); (case hg => rfl); (case hr => first | (go_simp; done) | (go_simp; rfl)); (case hp => exact (Reps.none _ _)); intro v301 w10 ho11 hb hg_ hnew_; clear hg_ hnew_; (first | rw [← Ny300.out] at ho11 | (simp only [Int.reduceToNat] at ho11; rw [← Ny300.out] at ho11)); have n0_ := Aside0.mk (Kd.R_elder' (pR HO_5) (Kd.R_base ho11) hb); have n1_ := Aside0.mk (Kd.R_lower (Kd.R_new' ho11 (Kd.R_lt (pR HO_5))) (below_size (bC HB GE295))); have n2_ := Aside0.mk (bW BK295 hb); have n3_ := Aside0.mk (below_step (bC HB GE295) hb); clear HO_5; clear BK295; clear HB; have HO_5 := n0_; have HO302 := n1_; have BK295 := n2_; have HB := n3_; clear n0_ n1_ n2_ n3_; clear hb ho11))
         go_loopg [8, 23] k1 (fun kq v8 v23 w' => ∃ (x8_2 : List Int) (x23_2 : Int), v23 = .int .i64 x23_2 ∧ Aside0 (impl_Net_gives.l1 kq x5_1 x8_2 l0_1 (l0_1.length : Int) x16_1 (rd_L5 l0_1 x16_1) ((rd_L5 l0_1 x16_1).length : Int) x23_2 = some r) ∧ Aside0 (kq ≤ k1) ∧ Aside0 (Kd.R (Kd.int .i64) 3 w' w.heap.size (fun k_ => some k_ ≠ (v8 : Value).ownBlock) u5 x5_1) ∧ Aside0 (Kd.R (Kd.int .i64) 3 w' w.heap.size (fun k_ => some k_ ≠ (u5 : Value).ownBlock) v8 x8_2) ∧ Aside0 (w'.heap[gb295]? = some (.cells #[.int .i64 a0_0, (.slice (some ad299) l0_1.length c0_1)] 27 (0, 0))) ∧ Aside0 (Below w.heap.size w w'))
         case atStart => exact ⟨(y300), (0), rD, H', ⟨Nat.le_refl _⟩, ⟨by (with_reducible repeat (first | apply Kd.R_alloc | apply Kd.R_drewN | apply Kd.R_drew)); exact Kd.R_mono HO_5.out (fun _ hk => hk.2)⟩, ⟨by (with_reducible repeat (first | apply Kd.R_alloc | apply Kd.R_drewN | apply Kd.R_drew)); exact Kd.R_mono HO302.out (fun _ hk => hk.2)⟩, ⟨pB BK295⟩, ⟨bC HB GE295⟩⟩
         case round =>
          clear H'
          try clear c1
          try clear c7
          try clear c7b0
          try clear c8
          try clear c8b0
          try clear c9
          try clear c9b0
          try clear hcz6_0
          try clear hcz6_1
          try clear hfz6_0
          try clear hfz6_1
          try clear hx299_0
          try clear p299
          try clear q299
          obtain ⟨x8_2, x23_2, rfl, HA, HK2, HO_5, HO_8, BK295, HB⟩ := hrel
          cases gk with
          | zero => exact absurd HA.out (by simp [impl_Net_gives.l1])
          | succ k2 =>
           have H := HA.out
           clear HA
           simp only [impl_Net_gives.l1] at H
           by_cases c12 : x23_2 < ((rd_L5 l0_1 x16_1).length : Int)
           · rw [if_pos c12] at H
             have c12b0 : decide (x23_2 < ((rd_L5 l0_1 x16_1).length : Int)) = true := decide_eq_true c12
             clear c12
             by_cases c13 : 0 ≤ x23_2
             · rw [if_pos c13] at H
               have c13b0 : decide (0 ≤ x23_2) = true := decide_eq_true c13
               clear c13
               by_cases c14 : x23_2 < ((rd_L5 l0_1 x16_1).length : Int)
               · rw [if_pos c14] at H
                 have c14b0 : decide (x23_2 < ((rd_L5 l0_1 x16_1).length : Int)) = true := decide_eq_true c14
                 clear c14
                 replace H := Option.bind_eq_some_iff.mp H
                 obtain ⟨t305, A150, H⟩ := H
                 replace H : (if x8_2.length < 17592186044416 then (impl_Net_gives.l1 k2 x5_1 (x8_2 ++ [wrap64 (Int.tdiv (wrap64 (t305 + 1)) 2)]) l0_1 (l0_1.length : Int) x16_1 (rd_L5 l0_1 x16_1) ((rd_L5 l0_1 x16_1).length : Int) (wrap64 (x23_2 + 1))) else (none)) = some r := H
                 have A15 := Aside0.mk A150
                 clear A150
                 by_cases c16 : x8_2.length < 17592186044416
                 · rw [if_pos c16] at H
                   have LMc16 := Aside0.mk c16
                   clear c16
                   obtain ⟨y306, hy306⟩ : ∃ y_ : List Int, y_ = (x8_2 ++ [wrap64 (Int.tdiv (wrap64 (t305 + 1)) 2)]) := ⟨_, rfl⟩
                   replace H : (impl_Net_gives.l1 k2 x5_1 y306 l0_1 (l0_1.length : Int) x16_1 (rd_L5 l0_1 x16_1) ((rd_L5 l0_1 x16_1).length : Int) (wrap64 (x23_2 + 1))) = some r := by first | (rw [hy306]; with_reducible exact H) | (have H2_ := (Option.bind_some _ _).symm.trans H; rw [hy306]; with_reducible exact H2_) | (have H2_ := (Option.bind_some _ _).symm.trans H; with_reducible exact H2_) | with_reducible exact H | (rw [hy306]; exact H) | exact H
                   have Ny306 := Aside0.mk hy306
                   clear hy306
                   have H' := Aside0.mk H
                   clear H
                   have p303 : 0 ≤ (x23_2 : Int) := of_decide_eq_true aS
                   have q303 : x23_2 < ((rd_L5 l0_1 x16_1).length : Int) := of_decide_eq_true aS
                   obtain ⟨ad303, A303_0, c303_0, e303, hx303_0, hx303_1, hl303_0, hi303_0⟩ := at_T45 HR299_0.out x23_2 p303 q303
                   cases e303
                   replace hx303_0 := (HB.out.cell (World.block_lt_of_cell? w _ hx303_0)).trans hx303_0
                   replace hx303_1 := (HB.out.cell (World.block_lt_of_cell? w _ hx303_1)).trans hx303_1
                   have HR303_0 := Aside0.mk hi303_0
                   have HC303_0 := Aside0.mk hl303_0
                   clear hi303_0 hl303_0
                   replace p303 := eq_true p303
                   replace q303 := eq_true q303
                   go_wp2_with (first | ((with_reducible refine gate_dst (N := 10) rfl ?_); refine box_event ?hg (N := 10) ?hd (cs := #[.slice none 0 0, .int .i64 0]) (t := 45) ?hr ?_; (case hd => rfl); (case hg => rfl); (case hr => first | (go_simp; done) | (go_simp; rfl)); intro gb304 hg w17 hbox hb; have n0_ := Aside0.mk (Kd.R_below (pR HO_5) hb); have n1_ := Aside0.mk (Kd.R_below (pR HO_8) hb); have n2_ := Aside0.mk (bW BK295 hb); have n3_ := Aside0.mk (below_step (bC HB GE295) hb); have n4_ := Aside0.mk (hbox); have n5_ := Aside0.mk ((by rw [hg]; exact (below_size (bC HB GE295)) : w.heap.size ≤ gb304)); have n6_ := Aside0.mk ((by rw [hg]; exact (below_size (bC HB GE295)) : w.heap.size ≤ gb304)); have n7_ := Aside0.mk ((by rw [hg]; exact Nat.ne_of_lt (blk_lt (g := gb295) (o := .cells #[.int .i64 a0_0, .slice (some ad299) l0_1.length c0_1] 27 (0, 0)) (pB BK295)) : gb295 ≠ gb304)); have n8_ := Aside0.mk ((by rw [hg]; exact Nat.ne_of_gt (blk_lt (g := gb295) (o := .cells #[.int .i64 a0_0, .slice (some ad299) l0_1.length c0_1] 27 (0, 0)) (pB BK295)) : gb304 ≠ gb295)); clear HO_5; clear HO_8; clear BK295; clear HB; have HO_5 := n0_; have HO_8 := n1_; have BK295 := n2_; have HB := n3_; have BK304 := n4_; have GW304 := n5_; have GE304 := n6_; have NB295_304 := n7_; have NB304_295 := n8_; clear n0_ n1_ n2_ n3_ n4_ n5_ n6_ n7_ n8_; clear hb hbox hg; have hnb18 := NB304_295.out; have hnc18 := NB295_304.out; have hcz19_0 : w17.cell? ⟨gb304, 0, none⟩ = some (.slice none 0 0) := (blk_cell BK304.out 0).trans rfl; have hcz19_1 : w17.cell? ⟨gb304, 1, none⟩ = some (.int .i64 0) := (blk_cell BK304.out 1).trans rfl; have hfz19_0 := blk_frozen BK304.out 0; have hfz19_1 := blk_frozen BK304.out 1; obtain ⟨Ao20, co20, eo20⟩ := Kd.R_slice HO_5.out; subst eo20) | ((with_reducible refine gate_callee (f := 34) rfl ?_); refine goesL_ (some 30) rfl rfl Try.func34 (by kernel_rfl) rfl #[.agg #[.slice A303_0 ((rd_T45 (rd_L5 l0_1 x16_1) x23_2).f0).length c303_0, .int .i64 ((rd_T45 (rd_L5 l0_1 x16_1) x23_2).f1)], .slice Ao20 x5_1.length co20] rfl aT ?_; (with_reducible refine (impl_Plane_side.calls k2 _ _ ((rd_T45 (rd_L5 l0_1 x16_1) x23_2).f0) ((rd_T45 (rd_L5 l0_1 x16_1) x23_2).f1) _ _ x5_1 t305 _ ?side1 ?side2 ?side3 ?side4 A15.out).mono ?_); (case side1 => exact Kd.C_below HR303_0.out (bD HB GE295 GE304)); (case side2 => exact HC303_0.out); (case side3 => refine (Kd.R_reads' (e := 3) (base := w.heap.size) (ok := fun k_ => some k_ ≠ (u8 : Value).ownBlock) (n := x5_1.length) (c := co20) ?_).2.2; exact (qR (Kd.R_mono (Kd.R_far (p := ⟨gb304, 1, none⟩) (Kd.R_far (p := ⟨gb304, 0, none⟩) (Kd.R_types HO_5.out BK304.out (by decide)) (fun _ hk => hk.2) (.slice A303_0 ((rd_T45 (rd_L5 l0_1 x16_1) x23_2).f0).length c303_0)) (fun _ hk => hk.2) (.int .i64 ((rd_T45 (rd_L5 l0_1 x16_1) x23_2).f1))) (fun _ h_ => h_.1)))); (case side4 => exact (Kd.R_reads' HO_5.out).2.1); rintro e w21 ⟨rfl, hb⟩; refine ⟨_, rfl, ?_⟩; have n0_ := Aside0.mk (Kd.R_below (qR (Kd.R_mono (Kd.R_far (p := ⟨gb304, 1, none⟩) (Kd.R_far (p := ⟨gb304, 0, none⟩) (Kd.R_types HO_5.out BK304.out (by decide)) (fun _ hk => hk.2) (.slice A303_0 ((rd_T45 (rd_L5 l0_1 x16_1) x23_2).f0).length c303_0)) (fun _ hk => hk.2) (.int .i64 ((rd_T45 (rd_L5 l0_1 x16_1) x23_2).f1))) (fun _ h_ => h_.1))) hb); have n1_ := Aside0.mk (Kd.R_below (qR (Kd.R_mono (Kd.R_far (p := ⟨gb304, 1, none⟩) (Kd.R_far (p := ⟨gb304, 0, none⟩) (Kd.R_types HO_8.out BK304.out (by decide)) (fun _ hk => hk.2) (.slice A303_0 ((rd_T45 (rd_L5 l0_1 x16_1) x23_2).f0).length c303_0)) (fun _ hk => hk.2) (.int .i64 ((rd_T45 (rd_L5 l0_1 x16_1) x23_2).f1))) (fun _ h_ => h_.1))) hb); have n2_ := Aside0.mk (g2 BK295 NB295_304 NB295_304 hb); have n3_ := Aside0.mk (blk_below (g := gb304) (o := .cells #[.slice A303_0 ((rd_T45 (rd_L5 l0_1 x16_1) x23_2).f0).length c303_0, .int .i64 ((rd_T45 (rd_L5 l0_1 x16_1) x23_2).f1)] 45 (0, 0)) (by (with_reducible repeat (first | refine blk_drewN ?_ _ | refine blk_drew ?_ | refine blk_alloc ?_ _)); refine blk_put (cs := #[.slice A303_0 ((rd_T45 (rd_L5 l0_1 x16_1) x23_2).f0).length c303_0, .int .i64 0]) ?_ 1 _ rfl; (with_reducible repeat (first | refine blk_drewN ?_ _ | refine blk_drew ?_ | refine blk_alloc ?_ _)); refine blk_put (cs := #[.slice none 0 0, .int .i64 0]) ?_ 0 _ rfl; (with_reducible repeat (first | refine blk_drewN ?_ _ | refine blk_drew ?_ | refine blk_alloc ?_ _)); exact BK304.out) hb); have n4_ := Aside0.mk (below_step (bD HB GE295 GE304) hb); clear HO_5; clear HO_8; clear BK295; clear BK304; clear HB; have HO_5 := n0_; have HO_8 := n1_; have BK295 := n2_; have BK304 := n3_; have HB := n4_; clear n0_ n1_ n2_ n3_ n4_; (try clear hb); (try clear hb2); (try clear hk); (try clear hi)) | ((with_reducible refine gate_builtin (b := .append) (xs := #[.tmp 27, .tmp 33]) rfl ?_); at_builtin; refine Kd.R_append (Kd.int .i64) (w0 := w) w.heap.size rfl (.tmp 27) (.tmp 33) 35 3 (.int .i64 0) 8 rfl Try.underlying35 info3 rfl (by decide) (by omega) u8 x8_2 (wrap64 (Int.tdiv (wrap64 (t305 + 1)) 2)) [.int .i64 (wrap64 (Int.tdiv (wrap64 (t305 + 1)) 2))] (fun k_ => some k_ ≠ (.slice Ao20 x5_1.length co20 : Value).ownBlock) (fun _ => False) rfl rfl ?aP (fun _ hk => hk.elim) ?aF ?aO ?aB ?aS ?aL ?_; (case aP => exact rfl); (case aB => exact (bD HB GE295 GE304)); (case aF => exact (fun k_ hk => Kd.fresh' (Kd.R_lt (pR HO_5)) k_ hk)); (case aO => exact (pR HO_8)); (case aS => exact (below_size (bD HB GE295 GE304))); (case aL => have := LMc16.out; omega); intro v307 w22 ho hb hg hat; rw [← Ny306.out] at ho; have n0_ := Aside0.mk (Kd.R_after (ok := (fun _ => True)) (by (with_reducible repeat (first | apply Kd.R_alloc | apply Kd.R_drewN | apply Kd.R_drew)); exact Kd.R_mono HO_5.out (fun _ hk => ⟨trivial, hk⟩)) hg hat); have n1_ := Aside0.mk (blk_grown (g := gb295) (o := .cells #[.int .i64 a0_0, .slice (some ad299) l0_1.length c0_1] 27 (0, 0)) (pB BK295) hg (Kd.R_ne HO_8.out BK295.out (by decide))); have n2_ := Aside0.mk (blk_grown (g := gb304) (o := .cells #[.slice A303_0 ((rd_T45 (rd_L5 l0_1 x16_1) x23_2).f0).length c303_0, .int .i64 ((rd_T45 (rd_L5 l0_1 x16_1) x23_2).f1)] 45 (0, 0)) (pB BK304) hg (Kd.R_ne HO_8.out BK304.out (by decide))); have n3_ := Aside0.mk (hb); have n4_ := Aside0.mk (ho); clear HO_5; clear BK295; clear BK304; clear HB; clear HO_8; have HO_5 := n0_; have BK295 := n1_; have BK304 := n2_; have HB := n3_; have HO308 := n4_; clear n0_ n1_ n2_ n3_ n4_; clear ho hb hg hat))
                   go_roundg k2
                   case measure => have := HK1.out; have := HK2.out; omega
                   case rel => exact ⟨(y306), (wrap64 (x23_2 + 1)), rD, H', ⟨by have := HK1.out; have := HK2.out; omega⟩, ⟨by (with_reducible repeat (first | apply Kd.R_alloc | apply Kd.R_drewN | apply Kd.R_drew)); exact Kd.R_mono HO_5.out (fun _ hk => hk.2)⟩, ⟨pR HO308⟩, ⟨pB BK295⟩, ⟨bD HB GE295 GE304⟩⟩
                 · rw [if_neg c16] at H
                   exact absurd H (by simp)
               · rw [if_neg c14] at H
                 exact absurd H (by simp)
             · rw [if_neg c13] at H
               exact absurd H (by simp)
           · rw [if_neg c12] at H
             have c12b0 : decide (x23_2 < ((rd_L5 l0_1 x16_1).length : Int)) = false := decide_eq_false c12
             clear c12
             have H' := Aside0.mk H
             clear H
             go_wp2
             go_roundg k2
             case measure => have := HK1.out; have := HK2.out; omega
             case rel => exact ⟨(x8_2), (wrap64 (x16_1 + 1)), rD, H', ⟨by have := HK1.out; have := HK2.out; omega⟩, ⟨by (with_reducible repeat (first | apply Kd.R_alloc | apply Kd.R_drewN | apply Kd.R_drew)); exact Kd.R_mono HO_8.out (fun _ hk => trivial)⟩, ⟨pB BK295⟩, ⟨bC HB GE295⟩⟩
       · rw [if_neg c9] at H
         exact absurd H (by simp)
     · rw [if_neg c8] at H
       exact absurd H (by simp)
   · rw [if_neg c7] at H
     have c7b0 : decide (x16_1 < (l0_1.length : Int)) = false := decide_eq_false c7
     clear c7
     obtain rfl := Option.some.inj H
     go_wp2
     go_ret
     exact ⟨_, eW, by (with_reducible repeat (first | apply Kd.R_alloc | apply Kd.R_drewN | apply Kd.R_drew)); exact HO_5.out, bC HB GE295⟩

/-! ### impl_bitPoint: function 30 -/
def impl_bitPoint.l0 : Nat → Int → List Int → Int → Int → Option (List Int)
 | 0, _, _, _, _ => none
 | k + 1, x1, x5, x8, x9 => if x9 < x8 then (if 0 ≤ x9 then (if x5.length < 17592186044416 then (impl_bitPoint.l0 k x1 (x5 ++ [Go.bits .and .i64 (shr .i64 x1 x9) 1]) x8 (wrap64 (x9 + 1))) else (none)) else (none)) else (some x5)
def impl_bitPoint.f (k : Nat) (a0 : Int) (a1 : Int) : Option (List Int) := impl_bitPoint.l0 k a1 (([] : List Int)) a0 0
set_option maxHeartbeats 8000000 in
set_option maxRecDepth 100000 in
theorem impl_bitPoint.calls (k : Nat) (a0 : Int) (a1 : Int) (r : List Int) (w : World) (h : impl_bitPoint.f k a0 a1 = some r) :
 Calls Try.prog 30 #[.int .i64 a0, .int .i64 a1] w fun e w' => ∃ v0_ : Value, e = .returned (v0_) ∧ Kd.R (Kd.int .i64) 3 w' w.heap.size (fun _ => True) v0_ r ∧ Below w.heap.size w w' := by
 have HB := Aside0.mk (Below.refl w.heap.size w)
 have H : (impl_bitPoint.l0 k a1 (([] : List Int)) a0 0) = some r := h
 clear h
 obtain ⟨y309, hy309⟩ : ∃ y_ : List Int, y_ = (([] : List Int)) := ⟨_, rfl⟩
 replace H : (impl_bitPoint.l0 k a1 y309 a0 0) = some r := by first | (rw [hy309]; with_reducible exact H) | (have H2_ := (Option.bind_some _ _).symm.trans H; rw [hy309]; with_reducible exact H2_) | (have H2_ := (Option.bind_some _ _).symm.trans H; with_reducible exact H2_) | with_reducible exact H | (rw [hy309]; exact H) | exact H
 have Ny309 := Aside0.mk hy309
 clear hy309
 have H' := Aside0.mk H
 clear H
 go_enter Try.func30, Try.ntmps30
 go_wp2_with (first | ((with_reducible refine gate_dst (N := 7) rfl ?_); refine Kd.R_lit (Kd.int .i64) _ 3 ?hg (N := 7) ?hd (xs := ([] : List Int)) (inner := []) (ok := fun _ => True) (okp := fun _ => True) ?hr ?hp (fun _ hk => hk) trivial (Below.refl _ _) (Nat.le_refl _) (by simp) ?_; (case hd => rfl); (case hg => rfl); (case hr => first | (go_simp; done) | (go_simp; rfl)); (case hp => exact (Reps.none _ _)); intro v310 w3 ho4 hb hg_ hnew_; clear hg_ hnew_; (first | rw [← Ny309.out] at ho4 | (simp only [Int.reduceToNat] at ho4; rw [← Ny309.out] at ho4)); have n0_ := Aside0.mk (Kd.R_lower ho4 (below_size (bB HB))); have n1_ := Aside0.mk (below_step (bB HB) hb); clear HB; have HO311 := n0_; have HB := n1_; clear n0_ n1_; clear hb ho4))
 go_loopg [5, 9] k (fun kq v5 v9 w' => ∃ (x5_1 : List Int) (x9_1 : Int), v9 = .int .i64 x9_1 ∧ Aside0 (impl_bitPoint.l0 kq a1 x5_1 a0 x9_1 = some r) ∧ Aside0 (kq ≤ k) ∧ Aside0 (Kd.R (Kd.int .i64) 3 w' w.heap.size (fun _ => True) v5 x5_1) ∧ Aside0 (Below w.heap.size w w'))
 case atStart => exact ⟨(y309), (0), rD, H', ⟨Nat.le_refl _⟩, ⟨pR HO311⟩, ⟨bB HB⟩⟩
 case round =>
  clear H'
  obtain ⟨x5_1, x9_1, rfl, HA, HK1, HO_5, HB⟩ := hrel
  cases gk with
  | zero => exact absurd HA.out (by simp [impl_bitPoint.l0])
  | succ k1 =>
   have H := HA.out
   clear HA
   simp only [impl_bitPoint.l0] at H
   by_cases c5 : x9_1 < a0
   · rw [if_pos c5] at H
     have c5b0 : decide (x9_1 < a0) = true := decide_eq_true c5
     clear c5
     by_cases c6 : 0 ≤ x9_1
     · rw [if_pos c6] at H
       have c6b0 := eq_true c6
       have c6b1 : decide (0 ≤ x9_1) = true := decide_eq_true c6
       clear c6
       obtain ⟨ji7, hji7⟩ : ∃ j_ : Int, (shr .i64 a1 x9_1) = j_ := ⟨_, rfl⟩
       replace H : (if x5_1.length < 17592186044416 then (impl_bitPoint.l0 k1 a1 (x5_1 ++ [Go.bits .and .i64 (ji7) 1]) a0 (wrap64 (x9_1 + 1))) else (none)) = some r := by first | (rw [hji7] at H; exact H) | (simp only [hji7] at H ⊢; exact H)
       have hji7_ : (a1 / 2 ^ min x9_1.toNat 64) = ji7 := hji7
       have hji7z : x9_1 ≤ 64 → (a1 / 2 ^ x9_1.toNat) = ji7 := shr_small hji7
       by_cases c8 : x5_1.length < 17592186044416
       · rw [if_pos c8] at H
         have LMc8 := Aside0.mk c8
         clear c8
         obtain ⟨y312, hy312⟩ : ∃ y_ : List Int, y_ = (x5_1 ++ [Go.bits .and .i64 (ji7) 1]) := ⟨_, rfl⟩
         replace H : (impl_bitPoint.l0 k1 a1 y312 a0 (wrap64 (x9_1 + 1))) = some r := by first | (rw [hy312]; with_reducible exact H) | (have H2_ := (Option.bind_some _ _).symm.trans H; rw [hy312]; with_reducible exact H2_) | (have H2_ := (Option.bind_some _ _).symm.trans H; with_reducible exact H2_) | with_reducible exact H | (rw [hy312]; exact H) | exact H
         have Ny312 := Aside0.mk hy312
         clear hy312
         have H' := Aside0.mk H
         clear H
         go_wp2_with (first | ((with_reducible refine gate_builtin (b := .append) (xs := #[.tmp 12, .tmp 17]) rfl ?_); at_builtin; refine Kd.R_append (Kd.int .i64) (w0 := w) w.heap.size rfl (.tmp 12) (.tmp 17) 35 3 (.int .i64 0) 8 rfl Try.underlying35 info3 rfl (by decide) (by omega) u5 x5_1 (Go.bits .and .i64 (ji7) 1) [.int .i64 (Go.bits .and .i64 (ji7) 1)] (fun _ => True) (fun _ => False) rfl rfl ?aP (fun _ hk => hk.elim) ?aF ?aO ?aB ?aS ?aL ?_; (case aP => exact rfl); (case aB => exact (bB HB)); (case aF => exact (fun _ _ => trivial)); (case aO => exact (pR HO_5)); (case aS => exact (below_size (bB HB))); (case aL => have := LMc8.out; omega); intro v313 w9 ho hb hg hat; rw [← Ny312.out] at ho; have n0_ := Aside0.mk (hb); have n1_ := Aside0.mk (ho); clear HB; clear HO_5; have HB := n0_; have HO314 := n1_; clear n0_ n1_; clear ho hb hg hat))
         go_roundg k1
         case measure => have := HK1.out; omega
         case rel => exact ⟨(y312), (wrap64 (x9_1 + 1)), rD, H', ⟨by have := HK1.out; omega⟩, ⟨pR HO314⟩, ⟨bB HB⟩⟩
       · rw [if_neg c8] at H
         exact absurd H (by simp)
     · rw [if_neg c6] at H
       exact absurd H (by simp)
   · rw [if_neg c5] at H
     have c5b0 : decide (x9_1 < a0) = false := decide_eq_false c5
     clear c5
     obtain rfl := Option.some.inj H
     go_wp2
     go_ret
     exact ⟨_, eW, by (with_reducible repeat (first | apply Kd.R_alloc | apply Kd.R_drewN | apply Kd.R_drew)); exact HO_5.out, bB HB⟩

/-! ### impl_Net_tables: function 24 -/
mutual
def impl_Net_tables.l0 : Nat → List (List Int) → Int → Int → Int → List (List (S45)) → Option ((List (List Int)))
 | 0, _, _, _, _, _ => none
 | k + 1, x3, x13, x14, x316000, x316001 => if x14 < x13 then ((impl_bitPoint.f k x316000 x14).bind fun t322 => ((impl_Net_gives.f k x316000 x316001 t322).bind fun t325 => (impl_Net_tables.l1 k x3 x13 x14 t325 (t325.length : Int) 0 x316000 x316001))) else (some x3)
def impl_Net_tables.l1 : Nat → List (List Int) → Int → Int → List Int → Int → Int → Int → List (List (S45)) → Option ((List (List Int)))
 | 0, _, _, _, _, _, _, _, _ => none
 | k + 1, x3, x13, x14, x22, x23, x24, x316000, x316001 => if x24 < x23 then (if 0 ≤ x24 then (if x24 < (x22.length : Int) then (if x24 < (x3.length : Int) then (if (rd_L3 x3 x24).length < 17592186044416 then (impl_Net_tables.l1 k (x3.set (x24 : Int).toNat ((rd_L3 x3 x24) ++ [rd x22 x24])) x13 x14 x22 x23 (wrap64 (x24 + 1)) x316000 x316001) else (none)) else (none)) else (none)) else (none)) else (impl_Net_tables.l0 k x3 x13 (wrap64 (x14 + 1)) x316000 x316001)
end
def impl_Net_tables.f (k : Nat) (a0_0 : Int) (l0_1 : List (List (S45))) : Option ((List (List Int))) := (impl_Net_last.f a0_0 l0_1).bind fun t316 => (if 0 ≤ (t316.length : Int) then (if ((t316.length : Int) : Int).toNat ≤ 11728124029610 then (if 0 ≤ a0_0 then (impl_Net_tables.l0 k (List.replicate ((t316.length : Int) : Int).toNat []) (shl .i64 1 a0_0) 0 a0_0 l0_1) else (none)) else (none)) else (none))
def impl_Net_tables.T5 : Bool × List (List Nat × List Nat) := (true, [([], []), ([], []), ([1], [1]), ([], []), ([2, 3], [2, 3]), ([0, 4, 4], [0, 4]), ([5], [5]), ([], [])])
def impl_Net_tables.B5 : List Nat := [0, 0, 2, 0, 14, 31, 63, 0]
theorem impl_Net_tables.tab5 : rtab .any (opsOf Try.f24 5) = impl_Net_tables.T5 := by kernel_rfl
theorem impl_Net_tables.bits5 : waitsOk impl_Net_tables.T5.2 impl_Net_tables.B5 = true := by kernel_rfl
set_option maxHeartbeats 8000000 in
set_option maxRecDepth 100000 in
theorem impl_Net_tables.calls (k : Nat) (a0_0 : Int) (A0_1 : Option Addr) (c0_1 : Nat) (l0_1 : List (List (S45))) (r : List (List Int)) (w : World) (hr0_1 : Kd.C (Kd.slice 45 k45) w A0_1 l0_1.length l0_1) (hc0_1 : l0_1.length ≤ c0_1) (h : impl_Net_tables.f k a0_0 l0_1 = some r) :
 Calls Try.prog 24 #[.agg #[.int .i64 a0_0, .slice A0_1 l0_1.length c0_1]] w fun e w' => ∃ v0_ : Value, e = .returned (v0_) ∧ Kd.S (Kd.slice 3 (Kd.int .i64)) 35 w' w.heap.size (fun _ => True) v0_ r ∧ Below w.heap.size w w' := by
 have hu27 := Try.underlying27
 have HR0_1 := Aside0.mk hr0_1
 have HC0_1 := Aside0.mk hc0_1
 clear hr0_1 hc0_1
 have HB := Aside0.mk (Below.refl w.heap.size w)
 have H : ((impl_Net_last.f a0_0 l0_1).bind fun t316 => (if 0 ≤ (t316.length : Int) then (if ((t316.length : Int) : Int).toNat ≤ 11728124029610 then (if 0 ≤ a0_0 then (impl_Net_tables.l0 k (List.replicate ((t316.length : Int) : Int).toNat []) (shl .i64 1 a0_0) 0 a0_0 l0_1) else (none)) else (none)) else (none))) = some r := h
 clear h
 replace H := Option.bind_eq_some_iff.mp H
 obtain ⟨t316, A20, H⟩ := H
 replace H : (if 0 ≤ (t316.length : Int) then (if ((t316.length : Int) : Int).toNat ≤ 11728124029610 then (if 0 ≤ a0_0 then (impl_Net_tables.l0 k (List.replicate ((t316.length : Int) : Int).toNat []) (shl .i64 1 a0_0) 0 a0_0 l0_1) else (none)) else (none)) else (none)) = some r := H
 have A2 := Aside0.mk A20
 clear A20
 by_cases c3 : 0 ≤ (t316.length : Int)
 · rw [if_pos c3] at H
   have c3b0 := eq_true c3
   have c3b1 : decide (0 ≤ (t316.length : Int)) = true := decide_eq_true c3
   clear c3
   by_cases c4 : ((t316.length : Int) : Int).toNat ≤ 11728124029610
   · rw [if_pos c4] at H
     have c4b0 := eq_true c4
     have c4b1 : decide (((t316.length : Int) : Int).toNat ≤ 11728124029610) = true := decide_eq_true c4
     clear c4
     obtain ⟨y319, hy319⟩ : ∃ y_ : List (List Int), y_ = (List.replicate ((t316.length : Int) : Int).toNat []) := ⟨_, rfl⟩
     replace H : (if 0 ≤ a0_0 then (impl_Net_tables.l0 k y319 (shl .i64 1 a0_0) 0 a0_0 l0_1) else (none)) = some r := by first | (rw [hy319]; with_reducible exact H) | (have H2_ := (Option.bind_some _ _).symm.trans H; rw [hy319]; with_reducible exact H2_) | (have H2_ := (Option.bind_some _ _).symm.trans H; with_reducible exact H2_) | with_reducible exact H | (rw [hy319]; exact H) | exact H
     have Ny319 := Aside0.mk hy319
     clear hy319
     by_cases c5 : 0 ≤ a0_0
     · rw [if_pos c5] at H
       have c5b0 := eq_true c5
       have c5b1 : decide (0 ≤ a0_0) = true := decide_eq_true c5
       clear c5
       obtain ⟨ji6, hji6⟩ : ∃ j_ : Int, (shl .i64 1 a0_0) = j_ := ⟨_, rfl⟩
       replace H : (impl_Net_tables.l0 k y319 ji6 0 a0_0 l0_1) = some r := by first | (rw [hji6] at H; exact H) | (simp only [hji6] at H ⊢; exact H)
       (try rw [hji6] at A2)
       have hji6_ : (IntKind.i64.wrap (1 * 2 ^ min a0_0.toNat 64)) = ji6 := hji6
       have hji6z : a0_0 ≤ 64 → (IntKind.i64.wrap (1 * 2 ^ a0_0.toNat)) = ji6 := shl_small hji6
       have hji6u : (IntKind.i64.wrap (2 ^ min a0_0.toNat 64)) = ji6 := by have h_ := hji6_; rw [Int.one_mul] at h_; exact h_
       have hji6v : a0_0 ≤ 64 → (IntKind.i64.wrap (2 ^ a0_0.toNat)) = ji6 := fun hle_ => by have h_ := hji6z hle_; rw [Int.one_mul] at h_; exact h_
       have hji6y : (wrap64 (1 * 2 ^ min a0_0.toNat 64)) = ji6 := (i64_w _).symm.trans hji6_
       have hji6x : a0_0 ≤ 64 → (wrap64 (1 * 2 ^ a0_0.toNat)) = ji6 := fun h_ => (i64_w _).symm.trans (hji6z h_)
       have H' := Aside0.mk H
       clear H
       go_enter Try.func24, Try.ntmps24
       go_wp2_with (first | ((with_reducible refine gate_dst (N := 1) rfl ?_); refine box_event ?hg (N := 1) ?hd (cs := #[.int .i64 a0_0, .slice A0_1 l0_1.length c0_1]) (t := 27) ?hr ?_; (case hd => rfl); (case hg => rfl); (case hr => first | (go_simp; done) | (go_simp; rfl)); intro gb315 hg w7 hbox hb; have n0_ := Aside0.mk (below_step (bB HB) hb); have n1_ := Aside0.mk (hbox); have n2_ := Aside0.mk ((by rw [hg]; exact (below_size (bB HB)) : w.heap.size ≤ gb315)); have n3_ := Aside0.mk ((by rw [hg]; exact (below_size (bB HB)) : w.heap.size ≤ gb315)); clear HB; have HB := n0_; have BK315 := n1_; have GW315 := n2_; have GE315 := n3_; clear n0_ n1_ n2_ n3_; clear hb hbox hg; have hcz8_0 : w7.cell? ⟨gb315, 0, none⟩ = some (.int .i64 a0_0) := (blk_cell BK315.out 0).trans rfl; have hcz8_1 : w7.cell? ⟨gb315, 1, none⟩ = some (.slice A0_1 l0_1.length c0_1) := (blk_cell BK315.out 1).trans rfl; have hfz8_0 := blk_frozen BK315.out 0; have hfz8_1 := blk_frozen BK315.out 1) | ((with_reducible refine gate_callee (f := 28) rfl ?_); refine goesL_ (some 8) rfl rfl Try.func28 (by kernel_rfl) rfl #[.agg #[.int .i64 a0_0, .slice A0_1 l0_1.length c0_1]] rfl aT ?_; (with_reducible refine (impl_Net_last.calls a0_0 (fun k_ => k_ < w.heap.size) _ _ l0_1 t316 _ ?side1 A2.out).mono ?_); (case side1 => exact Kd.V_mk HC0_1.out (Kd.F_below (Kd.C_F (Kd.heap_slice 45 k45_heap) HR0_1.out) (bC HB GE315))); rintro e w9 ⟨v317, rfl, ho0, hb⟩; refine ⟨_, rfl, ?_⟩; have n0_ := Aside0.mk (Kd.V_lower (Kd.V_mono (ok' := fun k_ => k_ ≠ gb315) ho0 (fun k_ hk_ => Or.elim hk_ (fun hs_ => fun e_ => Nat.not_le.2 hs_ (by rw [e_]; exact GW315.out)) (fun hn_ => (Kd.freshB (g := gb315) (o := .cells #[.int .i64 a0_0, .slice A0_1 l0_1.length c0_1] 27 (0, 0)) (pB BK315) k_ hn_)))) (below_size (bC HB GE315))); have n1_ := Aside0.mk (bW BK315 hb); have n2_ := Aside0.mk (below_step (bC HB GE315) hb); clear BK315; clear HB; have HO318 := n0_; have BK315 := n1_; have HB := n2_; clear n0_ n1_ n2_; (try clear hb); (try clear hb2); (try clear hk); (try clear hi); (try clear ho0); obtain ⟨Ao10, co10, eo10⟩ := Kd.V_slice HO318.out; subst eo10) | ((with_reducible refine gate_dst (N := 10) rfl ?_); refine Kd.S_make (Kd.slice 3 (Kd.int .i64)) _ 35 rfl (N := 10) rfl 32 _ _ rfl (t316.length : Int) rfl rfl Try.underlying32 (.slice none 0 0) 24 info35 rfl (by decide) (by omega) [] (ok := fun _ => True) (okp := fun _ => True) ⟨_, rfl, Kd.R_nil _ _ _ _ _⟩ (fun _ hk => hk) trivial (of_decide_eq_true aS) (Nat.le_trans (Nat.mul_le_mul_right _ (of_decide_eq_true aS : (t316.length : Int).toNat ≤ 11728124029610)) (by omega)) (Below.refl _ _) (Nat.le_refl _) ?_; intro v320 w11 ho12 hb hg_ hnew_; clear hg_ hnew_; (first | rw [← Ny319.out] at ho12 | (simp only [Int.reduceToNat] at ho12; rw [← Ny319.out] at ho12)); have n0_ := Aside0.mk (Kd.V_elder' (by (with_reducible repeat (first | apply Kd.V_alloc | apply Kd.V_drewN | apply Kd.V_drew)); exact HO318.out) (Kd.S_base ho12) hb); have n1_ := Aside0.mk (Kd.S_lower ho12 (below_size (bC HB GE315))); have n2_ := Aside0.mk (bW BK315 hb); have n3_ := Aside0.mk (below_step (bC HB GE315) hb); clear HO318; clear BK315; clear HB; have HO318 := n0_; have HO321 := n1_; have BK315 := n2_; have HB := n3_; clear n0_ n1_ n2_ n3_; clear hb ho12; have hcz13_0 : w11.cell? ⟨gb315, 0, none⟩ = some (.int .i64 a0_0) := (blk_cell BK315.out 0).trans rfl; have hcz13_1 : w11.cell? ⟨gb315, 1, none⟩ = some (.slice A0_1 l0_1.length c0_1) := (blk_cell BK315.out 1).trans rfl; have hfz13_0 := blk_frozen BK315.out 0; have hfz13_1 := blk_frozen BK315.out 1))
       go_loopg [14] k (fun kq v14 w' => ∃ (x3_1 : List (List Int)) (x14_1 : Int), v14 = .int .i64 x14_1 ∧ Aside0 (impl_Net_tables.l0 kq x3_1 ji6 x14_1 a0_0 l0_1 = some r) ∧ Aside0 (kq ≤ k) ∧ Aside0 (Kd.S (Kd.slice 3 (Kd.int .i64)) 35 w' w.heap.size (fun _ => True) v320 x3_1) ∧ Aside0 (w'.heap[gb315]? = some (.cells #[.int .i64 a0_0, (.slice A0_1 l0_1.length c0_1)] 27 (0, 0))) ∧ Aside0 (Below w.heap.size w w'))
       case atStart => exact ⟨(y319), (0), rD, H', ⟨Nat.le_refl _⟩, ⟨pS HO321⟩, ⟨pB BK315⟩, ⟨bC HB GE315⟩⟩
       case round =>
        clear H'
        try clear c3
        try clear c3b0
        try clear c3b1
        try clear c4
        try clear c4b0
        try clear c4b1
        try clear c5
        try clear c5b0
        try clear c5b1
        try clear hcz13_0
        try clear hcz13_1
        try clear hcz8_0
        try clear hcz8_1
        try clear hfz13_0
        try clear hfz13_1
        try clear hfz8_0
        try clear hfz8_1
        obtain ⟨x3_1, x14_1, rfl, HA, HK1, HO_3, BK315, HB⟩ := hrel
        cases gk with
        | zero => exact absurd HA.out (by simp [impl_Net_tables.l0])
        | succ k1 =>
         have H := HA.out
         clear HA
         simp only [impl_Net_tables.l0] at H
         by_cases c14 : x14_1 < ji6
         · rw [if_pos c14] at H
           have c14b0 : decide (x14_1 < ji6) = true := decide_eq_true c14
           clear c14
           replace H := Option.bind_eq_some_iff.mp H
           obtain ⟨t322, A150, H⟩ := H
           replace H : ((impl_Net_gives.f k1 a0_0 l0_1 t322).bind fun t325 => (impl_Net_tables.l1 k1 x3_1 ji6 x14_1 t325 (t325.length : Int) 0 a0_0 l0_1)) = some r := H
           have A15 := Aside0.mk A150
           clear A150
           replace H := Option.bind_eq_some_iff.mp H
           obtain ⟨t325, A160, H⟩ := H
           replace H : (impl_Net_tables.l1 k1 x3_1 ji6 x14_1 t325 (t325.length : Int) 0 a0_0 l0_1) = some r := H
           have A16 := Aside0.mk A160
           clear A160
           have H' := Aside0.mk H
           clear H
           try go_wp2
           have n0_ := Aside0.mk (Kd.S_drew HO_3.out)
           have n1_ := Aside0.mk (blk_drew BK315.out)
           have n2_ := Aside0.mk (below_drew1 HB.out)
           clear HO_3
           clear BK315
           clear HB
           have HO_3 := n0_
           have BK315 := n1_
           have HB := n2_
           clear n0_ n1_ n2_
           refine start_ (n := 8) (S := fun w' => w'.cell? ⟨gb315, 0, none⟩ = some (.int .i64 a0_0) ∧ w'.cell? ⟨gb315, 1, none⟩ = some (.slice A0_1 l0_1.length c0_1)) (ds := []) #[false, false, false, false, false, false, false, false] (by kernel_rfl) rfl rfl ⟨(blk_cell BK315.out 0).trans rfl, (blk_cell BK315.out 1).trans rfl⟩ (fun hHeld => ?_); refine with_tabW impl_Net_tables.tab5 impl_Net_tables.bits5 (fun HT_ HW_ => ?_)
           generalize wr.drew = w17 at HO_3 BK315 HB hHeld ⊢
           refine pure_ (i := 1) (N := some 18) (v := ?_) (a' := ?_) #[false, true, false, false, false, false, false, false] rfl rfl (any_of HT_.out (by kernel_rfl)) (fun _ _ _ h => h) (Or.inl ⟨by rfl, ?_⟩) ?_ ?_
           rotate_left
           · intro w'
             go_simp
             with_reducible rfl
           rotate_left
           · exact aP
           refine pure_ (i := 3) (N := some 20) (v := ?_) (a' := ?_) #[false, true, false, true, false, false, false, false] rfl rfl (any_of HT_.out (by kernel_rfl)) (fun _ _ _ h => h) (Or.inl ⟨by rfl, ?_⟩) ?_ ?_
           rotate_left
           · intro w'
             go_simp
             with_reducible rfl
           rotate_left
           · exact aP
           refine pure_ (i := 7) (N := some 24) (v := ?_) (a' := ?_) #[false, true, false, true, false, false, false, true] rfl rfl (any_of HT_.out (by kernel_rfl)) (fun _ _ _ h => h) (Or.inl ⟨by rfl, ?_⟩) ?_ ?_
           rotate_left
           · intro w'
             go_simp
             with_reducible rfl
           rotate_left
           · exact aP
           refine take_ (i := 0) (N := some 17) (v := ?_) (a' := ?_) #[true, true, false, true, false, false, false, true] rfl rfl (take_ofW HT_.out HW_.out (by kernel_rfl)) (fun _ _ _ h => h) (Or.inl ⟨by rfl, ?_⟩) hHeld ?_ ?_
           rotate_left
           · rintro w' ⟨s0, s1⟩
             go_simp
             with_reducible rfl
           rotate_left
           · exact aP
           refine take_ (i := 2) (N := some 19) (v := ?_) (a' := ?_) #[true, true, true, true, false, false, false, true] rfl rfl (take_ofW HT_.out HW_.out (by kernel_rfl)) (fun _ _ _ h => h) (Or.inl ⟨by rfl, ?_⟩) hHeld ?_ ?_
           rotate_left
           · rintro w' ⟨s0, s1⟩
             go_simp
             with_reducible rfl
           rotate_left
           · exact aP
           refine one_ (i := 4) (N := some 21) #[true, true, true, true, true, false, false, true] rfl rfl (one_of HT_.out (by kernel_rfl)) (by decide) (fun K hK => ?_)
           refine goes_ Try.func30 (by kernel_rfl) rfl #[.int .i64 a0_0, .int .i64 x14_1] (by rfl) rfl rfl aT ?_
           with_reducible refine (impl_bitPoint.calls k1 a0_0 x14_1 t322 _ A15.out).mono ?_
           rintro e w18 ⟨v323, rfl, ho0, hb⟩
           refine ⟨_, rfl, ?_⟩
           have n0_ := Aside0.mk (Kd.S_elder' (pS HO_3) (Kd.R_base ho0) hb)
           have n1_ := Aside0.mk (Kd.R_lower ho0 (below_size (bC HB GE315)))
           have n2_ := Aside0.mk (bW BK315 hb)
           have n3_ := Aside0.mk (below_step (bC HB GE315) hb)
           clear HO_3
           clear BK315
           clear HB
           have HO_3 := n0_
           have HO324 := n1_
           have BK315 := n2_
           have HB := n3_
           clear n0_ n1_ n2_ n3_
           (try clear hb)
           (try clear hb2)
           (try clear hk)
           (try clear hi)
           (try clear ho0)
           obtain ⟨Ao19, co19, eo19⟩ := Kd.R_slice HO324.out
           (first | subst eo19 | (injection eo19 with f1_ f2_ f3_; have f4_ := f1_.symm; have f5_ := f3_.symm; clear f1_ f2_ f3_; subst f4_; subst f5_))
           refine hK.out _ _ ⟨(blk_cell BK315.out 0).trans rfl, (blk_cell BK315.out 1).trans rfl⟩ (fun hHeld => ?_)
           clear hK K
           refine norm_ (a' := ?_) ?_ ?_
           rotate_left
           · show Act.put _ (some 21) _ = _
             simp only [Act.put, List.setIfInBounds_toArray, List.set_cons_zero, List.set_cons_succ, i64_w, i32_w]
             rfl
           refine one_ (i := 5) (N := some 22) #[true, true, true, true, true, true, false, true] rfl rfl (one_of HT_.out (by kernel_rfl)) (by decide) (fun K hK => ?_)
           refine goes_ Try.func29 (by kernel_rfl) rfl #[.agg #[.int .i64 a0_0, .slice A0_1 l0_1.length c0_1], .slice Ao19 t322.length co19] (by rfl) rfl rfl aT ?_
           with_reducible refine (impl_Net_gives.calls k1 a0_0 _ _ l0_1 _ _ t322 t325 _ ?side1 ?side2 ?side3 ?side4 A16.out).mono ?_
           (case side1 => exact cB HR0_1 HB)
           (case side2 => exact HC0_1.out)
           (case side3 => exact cR HO324)
           (case side4 => exact (Kd.R_reads' HO324.out).2.1)
           rintro e w20 ⟨v326, rfl, ho0, hb⟩
           refine ⟨_, rfl, ?_⟩
           have n0_ := Aside0.mk (Kd.S_elder' (pS HO_3) (Kd.R_base ho0) hb)
           have n1_ := Aside0.mk (Kd.R_elder' (pR HO324) (Kd.R_base ho0) hb)
           have n2_ := Aside0.mk (Kd.R_lower (Kd.R_new' ho0 (Kd.R_lt (pR HO324))) (below_size (bC HB GE315)))
           have n3_ := Aside0.mk (bW BK315 hb)
           have n4_ := Aside0.mk (below_step (bC HB GE315) hb)
           clear HO_3
           clear HO324
           clear BK315
           clear HB
           have HO_3 := n0_
           have HO324 := n1_
           have HO327 := n2_
           have BK315 := n3_
           have HB := n4_
           clear n0_ n1_ n2_ n3_ n4_
           (try clear hb)
           (try clear hb2)
           (try clear hk)
           (try clear hi)
           (try clear ho0)
           obtain ⟨Ao21, co21, eo21⟩ := Kd.R_slice HO327.out
           (first | subst eo21 | (injection eo21 with f1_ f2_ f3_; have f4_ := f1_.symm; have f5_ := f3_.symm; clear f1_ f2_ f3_; subst f4_; subst f5_))
           refine hK.out _ _ ⟨(blk_cell BK315.out 0).trans rfl, (blk_cell BK315.out 1).trans rfl⟩ (fun hHeld => ?_)
           clear hK K
           refine norm_ (a' := ?_) ?_ ?_
           rotate_left
           · show Act.put _ (some 22) _ = _
             simp only [Act.put, List.setIfInBounds_toArray, List.set_cons_zero, List.set_cons_succ, i64_w, i32_w]
             rfl
           refine pure_ (i := 6) (N := some 23) (v := ?_) (a' := ?_) #[true, true, true, true, true, true, true, true] rfl rfl (any_of HT_.out (by kernel_rfl)) (fun _ _ _ h => h) (Or.inl ⟨by rfl, ?_⟩) ?_ ?_
           rotate_left
           · intro w'
             go_simp
             with_reducible rfl
           rotate_left
           · exact aP
           refine done_ (done_of HT_.out (by kernel_rfl)) ?_
           try go_wp2
           go_loopg [24] k1 (fun kq v24 w' => ∃ (x3_2 : List (List Int)) (x24_2 : Int), v24 = .int .i64 x24_2 ∧ Aside0 (impl_Net_tables.l1 kq x3_2 ji6 x14_1 t325 (t325.length : Int) x24_2 a0_0 l0_1 = some r) ∧ Aside0 (kq ≤ k1) ∧ Aside0 (Kd.S (Kd.slice 3 (Kd.int .i64)) 35 w' w.heap.size (fun k_ => some k_ ≠ ((.slice Ao21 t325.length co21) : Value).ownBlock) v320 x3_2) ∧ Aside0 (Kd.R (Kd.int .i64) 3 w' w.heap.size (fun _ => True) (.slice Ao21 t325.length co21) t325) ∧ Aside0 (w'.heap[gb315]? = some (.cells #[.int .i64 a0_0, (.slice A0_1 l0_1.length c0_1)] 27 (0, 0))) ∧ Aside0 (Below w.heap.size w w'))
           case atStart => exact ⟨(x3_1), (0), rD, H', ⟨Nat.le_refl _⟩, ⟨by (with_reducible repeat (first | apply Kd.S_alloc | apply Kd.S_drewN | apply Kd.S_drew)); exact Kd.S_mono HO_3.out (fun _ hk => hk.2)⟩, ⟨by (with_reducible repeat (first | apply Kd.R_alloc | apply Kd.R_drewN | apply Kd.R_drew)); exact Kd.R_mono HO327.out (fun _ hk => trivial)⟩, ⟨pB BK315⟩, ⟨bC HB GE315⟩⟩
           case round =>
            clear H'
            try clear c1
            try clear c3
            try clear c3b0
            try clear c3b1
            try clear c4
            try clear c4b0
            try clear c4b1
            try clear c5
            try clear c5b0
            try clear c5b1
            try clear c14
            try clear c14b0
            try clear hcz13_0
            try clear hcz13_1
            try clear hcz8_0
            try clear hcz8_1
            try clear hfz13_0
            try clear hfz13_1
            try clear hfz8_0
            try clear hfz8_1
            obtain ⟨x3_2, x24_2, rfl, HA, HK2, HO_3, HO_22, BK315, HB⟩ := hrel
            cases gk with
            | zero => exact absurd HA.out (by simp [impl_Net_tables.l1])
            | succ k2 =>
             have H := HA.out
             clear HA
             simp only [impl_Net_tables.l1] at H
             by_cases c22 : x24_2 < (t325.length : Int)
             · rw [if_pos c22] at H
               have c22b0 : decide (x24_2 < (t325.length : Int)) = true := decide_eq_true c22
               clear c22
               by_cases c23 : 0 ≤ x24_2
               · rw [if_pos c23] at H
                 have c23b0 : decide (0 ≤ x24_2) = true := decide_eq_true c23
                 clear c23
                 by_cases c24 : x24_2 < (t325.length : Int)
                 · rw [if_pos c24] at H
                   have c24b0 : decide (x24_2 < (t325.length : Int)) = true := decide_eq_true c24
                   clear c24
                   by_cases c25 : x24_2 < (x3_2.length : Int)
                   · rw [if_pos c25] at H
                     have c25b0 : decide (x24_2 < (x3_2.length : Int)) = true := decide_eq_true c25
                     clear c25
                     by_cases c26 : (rd_L3 x3_2 x24_2).length < 17592186044416
                     · rw [if_pos c26] at H
                       have LMc26 := Aside0.mk c26
                       clear c26
                       obtain ⟨y330, hy330⟩ : ∃ y_ : List Int, y_ = ((rd_L3 x3_2 x24_2) ++ [rd t325 x24_2]) := ⟨_, rfl⟩
                       replace H : (impl_Net_tables.l1 k2 (x3_2.set (x24_2 : Int).toNat y330) ji6 x14_1 t325 (t325.length : Int) (wrap64 (x24_2 + 1)) a0_0 l0_1) = some r := by first | (rw [hy330]; with_reducible exact H) | (have H2_ := (Option.bind_some _ _).symm.trans H; rw [hy330]; with_reducible exact H2_) | (have H2_ := (Option.bind_some _ _).symm.trans H; with_reducible exact H2_) | with_reducible exact H | (rw [hy330]; exact H) | exact H
                       have Ny330 := Aside0.mk hy330
                       clear hy330
                       obtain ⟨y333, hy333⟩ : ∃ y_ : List (List Int), y_ = (x3_2.set (x24_2 : Int).toNat y330) := ⟨_, rfl⟩
                       replace H : (impl_Net_tables.l1 k2 y333 ji6 x14_1 t325 (t325.length : Int) (wrap64 (x24_2 + 1)) a0_0 l0_1) = some r := by first | (rw [hy333]; with_reducible exact H) | (have H2_ := (Option.bind_some _ _).symm.trans H; rw [hy333]; with_reducible exact H2_) | (have H2_ := (Option.bind_some _ _).symm.trans H; with_reducible exact H2_) | with_reducible exact H | (rw [hy333]; exact H) | exact H
                       have Ny333 := Aside0.mk hy333
                       clear hy333
                       have H' := Aside0.mk H
                       clear H
                       have p328 : 0 ≤ (x24_2 : Int) := of_decide_eq_true aS
                       have q328 : x24_2 < (t325.length : Int) := of_decide_eq_true aS
                       obtain ⟨ad328, e328, hx328_0⟩ := Kd.at_int (Kd.R_reads' HO_22.out).2.2 x24_2 p328 q328
                       cases e328
                       replace p328 := eq_true p328
                       replace q328 := eq_true q328
                       obtain ⟨Ao28, co28, eo28⟩ := Kd.S_slice HO_3.out
                       subst eo28
                       have p329 : 0 ≤ (x24_2 : Int) := of_decide_eq_true aS
                       have q329 : x24_2 < (x3_2.length : Int) := of_decide_eq_true aS
                       obtain ⟨ad329, A329_0, c329_0, e329, hx329_0, hl329_0, hi329_0⟩ := at_L3 (Kd.S_reads' HO_3.out).2.2 x24_2 p329 q329
                       cases e329
                       obtain ⟨ce329, hce329, hMe329, hcc329⟩ := Kd.S_get HO_3.out [] x24_2 p329 (by first | exact q329 | exact of_decide_eq_true aS | (have e_ := (Kd.S_reads' HO_3.out).1; omega))
                       obtain ⟨ve329_0, rfl, ge329_0⟩ := hMe329
                       have hv329_0 := hcc329 0 _ rfl
                       rw [Nat.add_zero, show ((Kd.slice 3 (Kd.int .i64))).sz = 1 from rfl, Nat.mul_one] at hv329_0
                       replace hv329_0 := Option.some.inj (hv329_0.symm.trans hx329_0)
                       rw [hv329_0] at ge329_0
                       have HL329_0 := Aside0.mk (show Kd.R (Kd.int .i64) 3 _ _ _ _ (rd_L3 x3_2 x24_2) from ge329_0)
                       clear hv329_0 ge329_0
                       have HX329_0 := Aside0.mk hx329_0
                       clear hcc329 hce329
                       have HR329_0 := Aside0.mk hi329_0
                       have HC329_0 := Aside0.mk hl329_0
                       clear hi329_0 hl329_0
                       replace p329 := eq_true p329
                       replace q329 := eq_true q329
                       obtain ⟨go29, co29, eo29, gb29, gl29, cl29, HG29⟩ := Kd.S_form HO_3.out (by have h_ : (x24_2 : Int) < ((x3_2.length : Int) : Int) := of_decide_eq_true aS; have h2_ : 0 ≤ (x24_2 : Int) := (of_decide_eq_true aS); omega)
                       (first | cases eo29 | (injection eo29 with ea_ en_ ec_; (first | subst ea_ | (injection ea_ with ea_; subst ea_)); subst ec_; clear en_))
                       have GB29 := Aside0.mk gb29
                       have GG29 := Aside0.mk HG29
                       clear gb29 gl29 HG29
                       (first | simp only [add_plain] at hx329_0 | skip)
                       obtain ⟨oki29, ce29, hcl29, hM29, hcc29, _, _, hH29⟩ := Kd.S_elem HO_3.out [] (x24_2 : Int) (of_decide_eq_true aS) (by have h_ : (x24_2 : Int) < ((x3_2.length : Int) : Int) := of_decide_eq_true aS; first | exact h_ | (have e_ := (Kd.S_reads' HO_3.out).1; omega) | simpa using h_)
                       obtain ⟨ve29_0, rfl, ge29_0⟩ := hM29
                       have hv29 := hcc29 0 _ rfl
                       have hX29 := HX329_0.out
                       (try simp only [add_plain] at hX29)
                       (try simp only [Nat.add_zero] at hv29)
                       (try rw [show ((Kd.slice 3 (Kd.int .i64))).sz = 1 from rfl, Nat.mul_one] at hv29)
                       replace hv29 := Option.some.inj (hv29.symm.trans hX29)
                       subst hv29
                       clear hX29 hcc29 hcl29
                       have UU29 := Aside0.mk (show Kd.R (Kd.int .i64) 3 _ w.heap.size oki29 (.slice A329_0 (rd_L3 x3_2 x24_2).length c329_0) (rd_L3 x3_2 x24_2) from ge29_0)
                       have HH29 := Aside0.mk hH29
                       have HN29 := Aside0.mk (Kd.S_reads' HO_3.out).1
                       clear hH29 ge29_0
                       go_wp2_with (first | ((with_reducible refine gate_builtin (b := .append) (xs := #[.tmp 34, .tmp 36]) rfl ?_); at_builtin; refine Kd.R_append (Kd.int .i64) (w0 := w) w.heap.size rfl (.tmp 34) (.tmp 36) 35 3 (.int .i64 0) 8 rfl Try.underlying35 info3 rfl (by decide) (by omega) (.slice A329_0 (rd_L3 x3_2 x24_2).length c329_0) (rd_L3 x3_2 x24_2) (rd t325 x24_2) [.int .i64 (rd t325 x24_2)] (fun k_ => oki29 k_ ∨ ((fun k_ => some k_ ≠ (.slice (some ad328) t325.length co21 : Value).ownBlock)) k_ ∧ wr.heap.size ≤ k_) (fun _ => False) rfl rfl ?aP (fun _ hk => hk.elim) ?aF ?aO ?aB ?aS ?aL ?_; (case aP => exact rfl); (case aB => exact (bC HB GE315)); (case aF => exact (fun k_ hk => .inr ⟨Kd.fresh' (Kd.R_lt (pR HO_22)) k_ hk, hk⟩)); (case aO => exact (by (with_reducible repeat (first | apply Kd.R_alloc | apply Kd.R_drewN | apply Kd.R_drew)); exact Kd.R_mono UU29.out (fun _ hk => .inl hk))); (case aS => exact (below_size (bC HB GE315))); (case aL => have := LMc26.out; omega); intro v331 w30 ho hb hg hat; rw [← Ny330.out] at ho; have n0_ := Aside0.mk (Kd.R_grown2 (pR HO_22) rfl hg (fun k_ e_ => (HL329_0.out.1 k_ e_).1)); have n1_ := Aside0.mk (blk_grown (g := gb315) (o := .cells #[.int .i64 a0_0, .slice A0_1 l0_1.length c0_1] 27 (0, 0)) (pB BK315) hg (Kd.R_ne HL329_0.out BK315.out (by decide))); have n2_ := Aside0.mk (hb); have n3_ := Aside0.mk (Kd.H_grown (Kd.H_widen (by repeat (first | exact HH29.out | refine Kd.H_alloc ?_ _ | refine Kd.H_drewN ?_ _ | refine Kd.H_drew ?_))) hg (fun k_ e_ => .inl (UU29.out.1 k_ e_))); have n4_ := Aside0.mk (ho); clear HO_22; clear BK315; clear HB; clear HH29; clear HO_3; clear UU29; clear HL329_0; have HO_22 := n0_; have BK315 := n1_; have HB := n2_; have HH29 := n3_; have HO332 := n4_; clear n0_ n1_ n2_ n3_ n4_; clear ho hb hg hat; have p27 : 0 ≤ (x24_2 : Int) := of_decide_eq_true aS; have q27 : (x24_2 : Int) < ((x3_2.length : Int) : Int) := of_decide_eq_true aS; replace p27 := eq_true p27; replace q27 := eq_true q27; obtain ⟨Ao33, co33, eo33⟩ := Kd.R_slice HO332.out; subst eo33; obtain ⟨_, _, hraw31, _, _, hcc31, _⟩ := Kd.H_raw HH29.out (of_decide_eq_true aS) (by have h_ : (x24_2 : Int) < ((x3_2.length : Int) : Int) := of_decide_eq_true aS; first | exact h_ | (have e_ := (HN29.out); omega) | simpa using h_); obtain ⟨_, hfr31⟩ := Kd.H_at HH29.out (of_decide_eq_true aS) (by have h_ : (x24_2 : Int) < ((x3_2.length : Int) : Int) := of_decide_eq_true aS; first | exact h_ | (have e_ := (HN29.out); omega) | simpa using h_); have hx31_0 := hcc31 0 _ rfl; have hf31_0 := hfr31 0; (try simp only [Nat.add_zero] at hx31_0 hf31_0); (try rw [show ((Kd.slice 3 (Kd.int .i64))).sz = 1 from rfl, Nat.mul_one] at hx31_0); (try rw [show ((Kd.slice 3 (Kd.int .i64))).sz = 1 from rfl, Nat.mul_one] at hf31_0); have HP31 := Kd.S_seg0 HH29.out (of_decide_eq_true aS) (by have h_ : (x24_2 : Int) < ((x3_2.length : Int) : Int) := of_decide_eq_true aS; first | exact h_ | (have e_ := (HN29.out); omega) | simpa using h_) (seg := [.slice Ao33 y330.length co33]) (j := 0) (show 1 ≤ 1 from by decide) (x' := y330) (Kd.M_row HO332.out) (fun _ hk => hk); (try simp only [show ((Kd.slice 3 (Kd.int .i64))).sz = 1 from rfl, Nat.mul_one, Nat.add_zero] at HP31); clear hcc31 hfr31) | ((with_reducible refine gate_store (t := 35) (p := 38) rfl ?_); refine store_event (t := 35) (p := 38) (v := ?vo_w32) (w1 := (w30.setCell ⟨go29, (x24_2 : Int).toNat, none⟩ (.slice Ao33 y330.length co33))) ?hg ?ho ?hn ?hr ?_; (case ho => rfl); (case hg => rfl); (case hn => rfl); (case hr => first | (go_simp; done) | (go_simp; rfl)); intro w32 hw; have hg : w30.grownBy w32 (some go29) := (by rw [hw]; exact HP31.2); have hp_ : Kd.S (Kd.slice 3 (Kd.int .i64)) 35 w32 w.heap.size (fun k_ => some k_ ≠ (.slice (some ad328) t325.length co21 : Value).ownBlock) (.slice (some ⟨go29, 0, none⟩) x3_2.length co28) y333 := (by rw [hw, Ny333.out]; exact HP31.1); clear HP31; have n0_ := Aside0.mk (Kd.R_over' (v := (.slice (some ⟨go29, 0, none⟩) x3_2.length co28)) (pR HO_22) (Kd.R_typed hraw31) (by decide) hg); have n1_ := Aside0.mk (blk_grown (g := gb315) (o := .cells #[.int .i64 a0_0, .slice A0_1 l0_1.length c0_1] 27 (0, 0)) (pB BK315) hg (Kd.R_ne hraw31 BK315.out (by decide))); have n2_ := Aside0.mk ((by rw [hw]; exact below_set HB.out GB29.out : Below w.heap.size w w32)); have n3_ := Aside0.mk (hp_); clear HO_22; clear BK315; clear HB; clear HO332; clear HH29; have HO_22 := n0_; have BK315 := n1_; have HB := n2_; have HO_3 := n3_; clear n0_ n1_ n2_ n3_; clear hg hw hp_ hraw31))
                       go_roundg k2
                       case measure => have := HK1.out; have := HK2.out; omega
                       case rel => exact ⟨(y333), (wrap64 (x24_2 + 1)), rD, H', ⟨by have := HK1.out; have := HK2.out; omega⟩, ⟨pS HO_3⟩, ⟨pR HO_22⟩, ⟨pB BK315⟩, ⟨bC HB GE315⟩⟩
                     · rw [if_neg c26] at H
                       exact absurd H (by simp)
                   · rw [if_neg c25] at H
                     exact absurd H (by simp)
                 · rw [if_neg c24] at H
                   exact absurd H (by simp)
               · rw [if_neg c23] at H
                 exact absurd H (by simp)
             · rw [if_neg c22] at H
               have c22b0 : decide (x24_2 < (t325.length : Int)) = false := decide_eq_false c22
               clear c22
               have H' := Aside0.mk H
               clear H
               go_wp2
               go_roundg k2
               case measure => have := HK1.out; have := HK2.out; omega
               case rel => exact ⟨(x3_2), (wrap64 (x14_1 + 1)), rD, H', ⟨by have := HK1.out; have := HK2.out; omega⟩, ⟨by (with_reducible repeat (first | apply Kd.S_alloc | apply Kd.S_drewN | apply Kd.S_drew)); exact Kd.S_mono HO_3.out (fun _ hk => trivial)⟩, ⟨pB BK315⟩, ⟨bC HB GE315⟩⟩
         · rw [if_neg c14] at H
           have c14b0 : decide (x14_1 < ji6) = false := decide_eq_false c14
           clear c14
           obtain rfl := Option.some.inj H
           go_wp2
           go_ret
           exact ⟨_, by first | rfl | (simp [errW_none, errW_some] <;> rfl) | (simp only [← hji6]; first | rfl | (simp [errW_none, errW_some] <;> rfl)) | (simp [*, errW_none, errW_some] <;> rfl), by (with_reducible repeat (first | apply Kd.S_alloc | apply Kd.S_drewN | apply Kd.S_drew)); exact HO_3.out, bC HB GE315⟩
     · rw [if_neg c5] at H
       exact absurd H (by simp)
   · rw [if_neg c4] at H
     exact absurd H (by simp)
 · rw [if_neg c3] at H
   exact absurd H (by simp)

/-! ### impl_NetTables: function 15 -/
def impl_NetTables.f (k : Nat) (a0_0 : Int) (l0_1 : List (List (S45))) : Option ((List (List Int)) × Bool) := (impl_IsNet.f k a0_0 l0_1).bind fun t335 => (if t335 = true then ((impl_Net_tables.f k a0_0 l0_1).bind fun t336 => (some (t336, true))) else (some (([] : List (List Int)), false)))
set_option maxHeartbeats 8000000 in
set_option maxRecDepth 100000 in
theorem impl_NetTables.calls (k : Nat) (a0_0 : Int) (A0_1 : Option Addr) (c0_1 : Nat) (l0_1 : List (List (S45))) (r1 : List (List Int)) (r2 : Bool) (w : World) (hr0_1 : Kd.C (Kd.slice 45 k45) w A0_1 l0_1.length l0_1) (hc0_1 : l0_1.length ≤ c0_1) (h : impl_NetTables.f k a0_0 l0_1 = some (r1, r2)) :
 Calls Try.prog 15 #[.agg #[.int .i64 a0_0, .slice A0_1 l0_1.length c0_1]] w fun e w' => ∃ v0_ : Value, e = .returned (.tuple #[v0_, .bool r2]) ∧ Kd.S (Kd.slice 3 (Kd.int .i64)) 35 w' w.heap.size (fun _ => True) v0_ r1 ∧ Below w.heap.size w w' := by
 have hu27 := Try.underlying27
 have HR0_1 := Aside0.mk hr0_1
 have HC0_1 := Aside0.mk hc0_1
 clear hr0_1 hc0_1
 have HB := Aside0.mk (Below.refl w.heap.size w)
 have H : ((impl_IsNet.f k a0_0 l0_1).bind fun t335 => (if t335 = true then ((impl_Net_tables.f k a0_0 l0_1).bind fun t336 => (some (t336, true))) else (some (([] : List (List Int)), false)))) = some (r1, r2) := h
 clear h
 replace H := Option.bind_eq_some_iff.mp H
 obtain ⟨t335, A20, H⟩ := H
 replace H : (if t335 = true then ((impl_Net_tables.f k a0_0 l0_1).bind fun t336 => (some (t336, true))) else (some (([] : List (List Int)), false))) = some (r1, r2) := H
 have A2 := Aside0.mk A20
 clear A20
 by_cases c3 : t335 = true
 · subst c3
   have H1 : ((impl_Net_tables.f k a0_0 l0_1).bind fun t336 => (some (t336, true))) = some (r1, r2) := by rw [if_pos rfl] at H; exact H
   clear H
   have H := H1
   clear H1
   replace H := Option.bind_eq_some_iff.mp H
   obtain ⟨t336, A40, H⟩ := H
   replace H : (some (t336, true)) = some (r1, r2) := H
   have A4 := Aside0.mk A40
   clear A40
   simp only [Option.some.injEq, Prod.mk.injEq] at H
   obtain ⟨rfl, rfl⟩ := H
   go_enter Try.func15, Try.ntmps15
   go_wp2_with (first | ((with_reducible refine gate_dst (N := 1) rfl ?_); refine box_event ?hg (N := 1) ?hd (cs := #[.int .i64 a0_0, .slice A0_1 l0_1.length c0_1]) (t := 27) ?hr ?_; (case hd => rfl); (case hg => rfl); (case hr => first | (go_simp; done) | (go_simp; rfl)); intro gb334 hg w5 hbox hb; have n0_ := Aside0.mk (below_step (bB HB) hb); have n1_ := Aside0.mk (hbox); have n2_ := Aside0.mk ((by rw [hg]; exact (below_size (bB HB)) : w.heap.size ≤ gb334)); have n3_ := Aside0.mk ((by rw [hg]; exact (below_size (bB HB)) : w.heap.size ≤ gb334)); clear HB; have HB := n0_; have BK334 := n1_; have GW334 := n2_; have GE334 := n3_; clear n0_ n1_ n2_ n3_; clear hb hbox hg; have hcz6_0 : w5.cell? ⟨gb334, 0, none⟩ = some (.int .i64 a0_0) := (blk_cell BK334.out 0).trans rfl; have hcz6_1 : w5.cell? ⟨gb334, 1, none⟩ = some (.slice A0_1 l0_1.length c0_1) := (blk_cell BK334.out 1).trans rfl; have hfz6_0 := blk_frozen BK334.out 0; have hfz6_1 := blk_frozen BK334.out 1) | ((with_reducible refine gate_callee (f := 23) rfl ?_); refine goesL_ (some 5) rfl rfl Try.func23 (by kernel_rfl) rfl #[.agg #[.int .i64 a0_0, .slice A0_1 l0_1.length c0_1]] rfl aT ?_; (with_reducible refine (impl_IsNet.calls k a0_0 _ _ l0_1 true _ ?side1 ?side2 A2.out).mono ?_); (case side1 => exact cB HR0_1 HB); (case side2 => exact HC0_1.out); rintro e w7 ⟨rfl, hb⟩; refine ⟨_, rfl, ?_⟩; have n0_ := Aside0.mk (bW BK334 hb); have n1_ := Aside0.mk (below_step (bC HB GE334) hb); clear BK334; clear HB; have BK334 := n0_; have HB := n1_; clear n0_ n1_; (try clear hb); (try clear hb2); (try clear hk); (try clear hi); have hcz8_0 : w7.cell? ⟨gb334, 0, none⟩ = some (.int .i64 a0_0) := (blk_cell BK334.out 0).trans rfl; have hcz8_1 : w7.cell? ⟨gb334, 1, none⟩ = some (.slice A0_1 l0_1.length c0_1) := (blk_cell BK334.out 1).trans rfl; have hfz8_0 := blk_frozen BK334.out 0; have hfz8_1 := blk_frozen BK334.out 1) | ((with_reducible refine gate_callee (f := 24) rfl ?_); refine goesL_ (some 8) rfl rfl Try.func24 (by kernel_rfl) rfl #[.agg #[.int .i64 a0_0, .slice A0_1 l0_1.length c0_1]] rfl aT ?_; (with_reducible refine (impl_Net_tables.calls k a0_0 _ _ l0_1 t336 _ ?side1 ?side2 A4.out).mono ?_); (case side1 => exact cB HR0_1 HB); (case side2 => exact HC0_1.out); rintro e w9 ⟨v337, rfl, ho0, hb⟩; refine ⟨_, rfl, ?_⟩; have n0_ := Aside0.mk (Kd.S_lower ho0 (below_size (bC HB GE334))); have n1_ := Aside0.mk (bW BK334 hb); have n2_ := Aside0.mk (below_step (bC HB GE334) hb); clear BK334; clear HB; have HO338 := n0_; have BK334 := n1_; have HB := n2_; clear n0_ n1_ n2_; (try clear hb); (try clear hb2); (try clear hk); (try clear hi); (try clear ho0)))
   go_ret2
   exact ⟨_, eW, by (with_reducible repeat (first | apply Kd.S_alloc | apply Kd.S_drewN | apply Kd.S_drew)); exact HO338.out, bC HB GE334⟩
 · replace c3 := Bool.eq_false_iff.mpr c3
   subst c3
   have H1 : (some (([] : List (List Int)), false)) = some (r1, r2) := by rw [if_neg (show ¬ (false = true) by decide)] at H; exact H
   clear H
   have H := H1
   clear H1
   simp only [Option.some.injEq, Prod.mk.injEq] at H
   obtain ⟨rfl, rfl⟩ := H
   go_enter Try.func15, Try.ntmps15
   go_wp2_with (first | ((with_reducible refine gate_dst (N := 1) rfl ?_); refine box_event ?hg (N := 1) ?hd (cs := #[.int .i64 a0_0, .slice A0_1 l0_1.length c0_1]) (t := 27) ?hr ?_; (case hd => rfl); (case hg => rfl); (case hr => first | (go_simp; done) | (go_simp; rfl)); intro gb334 hg w10 hbox hb; have n0_ := Aside0.mk (below_step (bB HB) hb); have n1_ := Aside0.mk (hbox); have n2_ := Aside0.mk ((by rw [hg]; exact (below_size (bB HB)) : w.heap.size ≤ gb334)); have n3_ := Aside0.mk ((by rw [hg]; exact (below_size (bB HB)) : w.heap.size ≤ gb334)); clear HB; have HB := n0_; have BK334 := n1_; have GW334 := n2_; have GE334 := n3_; clear n0_ n1_ n2_ n3_; clear hb hbox hg; have hcz11_0 : w10.cell? ⟨gb334, 0, none⟩ = some (.int .i64 a0_0) := (blk_cell BK334.out 0).trans rfl; have hcz11_1 : w10.cell? ⟨gb334, 1, none⟩ = some (.slice A0_1 l0_1.length c0_1) := (blk_cell BK334.out 1).trans rfl; have hfz11_0 := blk_frozen BK334.out 0; have hfz11_1 := blk_frozen BK334.out 1) | ((with_reducible refine gate_callee (f := 23) rfl ?_); refine goesL_ (some 5) rfl rfl Try.func23 (by kernel_rfl) rfl #[.agg #[.int .i64 a0_0, .slice A0_1 l0_1.length c0_1]] rfl aT ?_; (with_reducible refine (impl_IsNet.calls k a0_0 _ _ l0_1 false _ ?side1 ?side2 A2.out).mono ?_); (case side1 => exact cB HR0_1 HB); (case side2 => exact HC0_1.out); rintro e w12 ⟨rfl, hb⟩; refine ⟨_, rfl, ?_⟩; have n0_ := Aside0.mk (bW BK334 hb); have n1_ := Aside0.mk (below_step (bC HB GE334) hb); clear BK334; clear HB; have BK334 := n0_; have HB := n1_; clear n0_ n1_; (try clear hb); (try clear hb2); (try clear hk); (try clear hi)))
   go_ret2
   exact ⟨_, eW, by first | exact Kd.S_nil _ _ _ _ _ | exact Kd.N_nil _ _ _ _ _ | exact Kd.V_nil _ _ _ _ _ | exact Kd.Q_nil _ _ _ _ _ | exact Kd.R_nil _ _ _ _ _, bC HB GE334⟩

end Go.Proofs.Ytfbncebnngldmaa.PFnFamilies
