-- Printed by wip/tools/myprint.py (the printer of the kit, patched by that program; roots chosen by it)
import Derived.Test.YtfkfahdikmfpeaaPFnExactFewestPlacesx0
import Derived.Test.YtfkfahdikmfpeaaPFnExactFewestPlacesx8
import Derived.Test.YtfkfahdikmfpeaaPFnExactFewestPlacesx9
import Derived.Test.YtfkfahdikmfpeaaSh
namespace Go.Proofs.Ytfkfahdikmfpeaa.PFnExactFewestPlaces
open Go.RowKit Go.Proofs.Ytfkfahdikmfpeaa.Sh Go.Proofs.YtfkfahdikmfpeaaW.PrintWords Go.Proofs.YtfkfahdikmfpeaaW.PrintLast Go.Proofs.YtfkfahdikmfpeaaW.PrintMore
attribute [local go_sem] max2_int min2_int max_two min_two max_three min_three max_four min_four   -- for this text's walks alone
set_option linter.unusedVariables false
set_option linter.unusedSimpArgs false

/-! ### impl_Sample_near: function 136 -/
def impl_Sample_near.f (k : Nat) (l0_0 : List (List Int)) (l0_1 : List Int) (l1 : List Int) (l2 : List Int) (a3 : Int) : Option (Int) := (impl_Sample_neighbors.f k l0_0 l0_1 l1 l2).bind fun t278 => (if 0 ≤ a3 then (if a3 ≤ (t278.length : Int) then ((impl_at.f k l0_1 (t278.take (a3 : Int).toNat)).bind fun t285 => ((impl_total.f k t285).bind fun t288 => (if t288 ≥ 0 then (some 1) else (some (-1))))) else (none)) else (none))
def impl_Sample_near.T1 : Bool × List (List Nat × List Nat) := (true, [([], []), ([0], [0]), ([], []), ([], []), ([], []), ([2, 3, 4], [2, 3, 4]), ([], []), ([5, 6], [5, 6]), ([1, 7, 5], [1, 7]), ([8, 8], [8]), ([9], [9])])
def impl_Sample_near.B1 : List Nat := [0, 1, 0, 0, 0, 28, 0, 124, 255, 511, 1023]
theorem impl_Sample_near.tab1 : rtab .any (opsOf Try.f136 1) = impl_Sample_near.T1 := by kernel_rfl
theorem impl_Sample_near.bits1 : waitsOk impl_Sample_near.T1.2 impl_Sample_near.B1 = true := by kernel_rfl
set_option maxHeartbeats 8000000 in
set_option maxRecDepth 100000 in
theorem impl_Sample_near.calls (k : Nat) (A0_0 : Option Addr) (c0_0 : Nat) (l0_0 : List (List Int)) (A0_1 : Option Addr) (c0_1 : Nat) (l0_1 : List Int) (A1 : Option Addr) (c1 : Nat) (l1 : List Int) (A2 : Option Addr) (c2 : Nat) (l2 : List Int) (a3 : Int) (r : Int) (w : World) (hr0_0 : Kd.C (Kd.slice 3 (Kd.int .i64)) w A0_0 l0_0.length l0_0) (hc0_0 : l0_0.length ≤ c0_0) (hr0_1 : Kd.C (Kd.int .i64) w A0_1 l0_1.length l0_1) (hc0_1 : l0_1.length ≤ c0_1) (hr1 : Kd.C (Kd.int .i64) w A1 l1.length l1) (hc1 : l1.length ≤ c1) (hr2 : Kd.C (Kd.int .i64) w A2 l2.length l2) (hc2 : l2.length ≤ c2) (h : impl_Sample_near.f k l0_0 l0_1 l1 l2 a3 = some r) :
 Calls Try.prog 136 #[.agg #[.slice A0_0 l0_0.length c0_0, .slice A0_1 l0_1.length c0_1], .slice A1 l1.length c1, .slice A2 l2.length c2, .int .i64 a3] w fun e w' => e = .returned (.int .i64 r) ∧ Below w.heap.size w w' := by
 have hu52 := Try.underlying52
 have HR0_0 := Aside0.mk hr0_0
 have HC0_0 := Aside0.mk hc0_0
 clear hr0_0 hc0_0
 have HR0_1 := Aside0.mk hr0_1
 have HC0_1 := Aside0.mk hc0_1
 clear hr0_1 hc0_1
 have HR1 := Aside0.mk hr1
 have HC1 := Aside0.mk hc1
 clear hr1 hc1
 have HR2 := Aside0.mk hr2
 have HC2 := Aside0.mk hc2
 clear hr2 hc2
 have HB := Aside0.mk (Below.refl w.heap.size w)
 have H : ((impl_Sample_neighbors.f k l0_0 l0_1 l1 l2).bind fun t278 => (if 0 ≤ a3 then (if a3 ≤ (t278.length : Int) then ((impl_at.f k l0_1 (t278.take (a3 : Int).toNat)).bind fun t285 => ((impl_total.f k t285).bind fun t288 => (if t288 ≥ 0 then (some 1) else (some (-1))))) else (none)) else (none))) = some r := h
 clear h
 replace H := Option.bind_eq_some_iff.mp H
 obtain ⟨t278, A50, H⟩ := H
 replace H : (if 0 ≤ a3 then (if a3 ≤ (t278.length : Int) then ((impl_at.f k l0_1 (t278.take (a3 : Int).toNat)).bind fun t285 => ((impl_total.f k t285).bind fun t288 => (if t288 ≥ 0 then (some 1) else (some (-1))))) else (none)) else (none)) = some r := H
 have A5 := Aside0.mk A50
 clear A50
 by_cases c6 : 0 ≤ a3
 · rw [if_pos c6] at H
   have c6b0 := eq_true c6
   have c6b1 : decide (0 ≤ a3) = true := decide_eq_true c6
   clear c6
   by_cases c7 : a3 ≤ (t278.length : Int)
   · rw [if_pos c7] at H
     have c7b0 := eq_true c7
     have c7b1 : decide (a3 ≤ (t278.length : Int)) = true := decide_eq_true c7
     clear c7
     obtain ⟨y281, hy281⟩ : ∃ y_ : List Int, y_ = (t278.take (a3 : Int).toNat) := ⟨_, rfl⟩
     replace H : ((impl_at.f k l0_1 y281).bind fun t285 => ((impl_total.f k t285).bind fun t288 => (if t288 ≥ 0 then (some 1) else (some (-1))))) = some r := by first | (rw [hy281]; with_reducible exact H) | (have H2_ := (Option.bind_some _ _).symm.trans H; rw [hy281]; with_reducible exact H2_) | (have H2_ := (Option.bind_some _ _).symm.trans H; with_reducible exact H2_) | with_reducible exact H | (rw [hy281]; exact H) | exact H
     have Ny281 := Aside0.mk hy281
     clear hy281
     replace H := Option.bind_eq_some_iff.mp H
     obtain ⟨t285, A80, H⟩ := H
     replace H : ((impl_total.f k t285).bind fun t288 => (if t288 ≥ 0 then (some 1) else (some (-1)))) = some r := H
     have A8 := Aside0.mk A80
     clear A80
     replace H := Option.bind_eq_some_iff.mp H
     obtain ⟨t288, A90, H⟩ := H
     replace H : (if t288 ≥ 0 then (some 1) else (some (-1))) = some r := H
     have A9 := Aside0.mk A90
     clear A90
     by_cases c10 : t288 ≥ 0
     · rw [if_pos c10] at H
       have c10b0 : decide (0 ≤ t288) = true := decide_eq_true c10
       clear c10
       obtain rfl := Option.some.inj H
       go_enter Try.func136, Try.ntmps136
       try go_wp2_with (first | ((with_reducible refine gate_dst (N := 4) rfl ?_); refine box_event ?hg (N := 4) ?hd (cs := #[.slice A0_0 l0_0.length c0_0, .slice A0_1 l0_1.length c0_1]) (t := 52) ?hr ?_; (case hd => rfl); (case hg => rfl); (case hr => first | (go_simp; done) | (go_simp; rfl)); intro gb277 hg w11 hbox hb; have n0_ := Aside0.mk (below_step (bB HB) hb); have n1_ := Aside0.mk (hbox); have n2_ := Aside0.mk ((by rw [hg]; exact (below_size (bB HB)) : w.heap.size ≤ gb277)); have n3_ := Aside0.mk ((by rw [hg]; exact (below_size (bB HB)) : w.heap.size ≤ gb277)); clear HB; have HB := n0_; have BK277 := n1_; have GW277 := n2_; have GE277 := n3_; clear n0_ n1_ n2_ n3_; clear hb hbox hg))
       have n0_ := Aside0.mk (blk_drew BK277.out)
       have n1_ := Aside0.mk (below_drew1 HB.out)
       clear BK277
       clear HB
       have BK277 := n0_
       have HB := n1_
       clear n0_ n1_
       refine start_ (n := 11) (S := fun w' => w'.cell? ⟨gb277, 0, none⟩ = some (.slice A0_0 l0_0.length c0_0) ∧ w'.cell? ⟨gb277, 1, none⟩ = some (.slice A0_1 l0_1.length c0_1)) (ds := []) #[false, false, false, false, false, false, false, false, false, false, false] (by kernel_rfl) rfl rfl ⟨(blk_cell BK277.out 0).trans rfl, (blk_cell BK277.out 1).trans rfl⟩ (fun hHeld => ?_); refine with_tabW impl_Sample_near.tab1 impl_Sample_near.bits1 (fun HT_ HW_ => ?_)
       generalize w11.drew = w12 at BK277 HB hHeld ⊢
       refine pure_ (i := 0) (N := some 9) (v := ?_) (a' := ?_) #[true, false, false, false, false, false, false, false, false, false, false] rfl rfl (any_of HT_.out (by kernel_rfl)) (fun _ _ _ h => h) (Or.inl ⟨by rfl, ?_⟩) ?_ ?_
       rotate_left
       · intro w'
         go_simp
         with_reducible rfl
       rotate_left
       · exact aP
       refine pure_ (i := 3) (N := some 12) (v := ?_) (a' := ?_) #[true, false, false, true, false, false, false, false, false, false, false] rfl rfl (any_of HT_.out (by kernel_rfl)) (fun _ _ _ h => h) (Or.inl ⟨by rfl, ?_⟩) ?_ ?_
       rotate_left
       · intro w'
         go_simp
         with_reducible rfl
       rotate_left
       · exact aP
       refine pure_ (i := 4) (N := some 13) (v := ?_) (a' := ?_) #[true, false, false, true, true, false, false, false, false, false, false] rfl rfl (any_of HT_.out (by kernel_rfl)) (fun _ _ _ h => h) (Or.inl ⟨by rfl, ?_⟩) ?_ ?_
       rotate_left
       · intro w'
         go_simp
         with_reducible rfl
       rotate_left
       · exact aP
       refine pure_ (i := 6) (N := some 15) (v := ?_) (a' := ?_) #[true, false, false, true, true, false, true, false, false, false, false] rfl rfl (any_of HT_.out (by kernel_rfl)) (fun _ _ _ h => h) (Or.inl ⟨by rfl, ?_⟩) ?_ ?_
       rotate_left
       · intro w'
         go_simp
         with_reducible rfl
       rotate_left
       · exact aP
       refine take_ (i := 1) (N := some 10) (v := ?_) (a' := ?_) #[true, true, false, true, true, false, true, false, false, false, false] rfl rfl (take_ofW HT_.out HW_.out (by kernel_rfl)) (fun _ _ _ h => h) (Or.inl ⟨by rfl, ?_⟩) hHeld ?_ ?_
       rotate_left
       · rintro w' ⟨s0, s1⟩
         go_simp
         with_reducible rfl
       rotate_left
       · exact aP
       refine take_ (i := 2) (N := some 11) (v := ?_) (a' := ?_) #[true, true, true, true, true, false, true, false, false, false, false] rfl rfl (take_ofW HT_.out HW_.out (by kernel_rfl)) (fun _ _ _ h => h) (Or.inl ⟨by rfl, ?_⟩) hHeld ?_ ?_
       rotate_left
       · rintro w' ⟨s0, s1⟩
         go_simp
         with_reducible rfl
       rotate_left
       · exact aP
       refine one_ (i := 5) (N := some 14) #[true, true, true, true, true, true, true, false, false, false, false] rfl rfl (one_of HT_.out (by kernel_rfl)) (by decide) (fun K hK => ?_)
       refine goes_ Try.func177 (by kernel_rfl) rfl #[.agg #[.slice A0_0 l0_0.length c0_0, .slice A0_1 l0_1.length c0_1], .slice A1 l1.length c1, .slice A2 l2.length c2] (by rfl) rfl rfl aT ?_
       with_reducible refine (impl_Sample_neighbors.calls k _ _ l0_0 _ _ l0_1 _ _ l1 _ _ l2 t278 _ ?side1 ?side2 ?side3 ?side4 ?side5 ?side6 ?side7 ?side8 A5.out).mono ?_
       (case side1 => exact cB HR0_0 HB)
       (case side2 => exact HC0_0.out)
       (case side3 => exact cB HR0_1 HB)
       (case side4 => exact HC0_1.out)
       (case side5 => exact cB HR1 HB)
       (case side6 => exact HC1.out)
       (case side7 => exact cB HR2 HB)
       (case side8 => exact HC2.out)
       rintro e w13 ⟨v279, rfl, ho0, hb⟩
       refine ⟨_, rfl, ?_⟩
       have n0_ := Aside0.mk (Kd.R_lower ho0 (below_size (bC HB GE277)))
       have n1_ := Aside0.mk (bW BK277 hb)
       have n2_ := Aside0.mk (below_step (bC HB GE277) hb)
       clear BK277
       clear HB
       have HO280 := n0_
       have BK277 := n1_
       have HB := n2_
       clear n0_ n1_ n2_
       (try clear hb)
       (try clear hb2)
       (try clear hk)
       (try clear hi)
       (try clear ho0)
       obtain ⟨Ao15, co15, eo15⟩ := Kd.R_slice HO280.out
       (first | subst eo15 | (injection eo15 with f1_ f2_ f3_; have f4_ := f1_.symm; have f5_ := f3_.symm; clear f1_ f2_ f3_; subst f4_; subst f5_))
       have q14 : (a3 : Int) ≤ ((t278.length : Int) : Int) := of_decide_eq_true aS
       obtain ⟨i014, hi014, _, hsz14, _⟩ := info_parts info3
       have hroom14 : t278.length ≤ co15 := (Kd.R_reads' HO280.out).2.1
       have hC14 : Kd.C (Kd.int .i64) _ Ao15 t278.length t278 := (Kd.R_reads' HO280.out).2.2
       have hcut14 := cut_to (P := Try.prog) 22 3 .i64 Try.underlying22 hi014 Ao15 t278.length co15 a3 (of_decide_eq_true aS) q14 hroom14
       have hr14 := Kd.C_take (m := (a3 : Int).toNat) hC14 (by omega)
       have hy14 : y281.length = (a3 : Int).toNat := (by rw [Ny281.out, List.length_take]; omega)
       rw [← Ny281.out] at hr14
       rw [← hy14] at hcut14
       have HR284 := Aside0.mk hr14
       have HC284 := Aside0.mk (show y281.length ≤ co15 from by omega)
       clear hr14 hC14 hroom14 hi014 hsz14
       have KY14 := Aside0.mk hy14
       clear hy14
       have KL14 := Aside0.mk (show (a3 : Int).toNat ≤ t278.length from by omega)
       replace q14 := eq_true q14
       refine hK.out _ _ ⟨(blk_cell BK277.out 0).trans rfl, (blk_cell BK277.out 1).trans rfl⟩ (fun hHeld => ?_)
       clear hK K
       refine norm_ (a' := ?_) ?_ ?_
       rotate_left
       · show Act.put _ (some 14) _ = _
         simp only [Act.put, List.setIfInBounds_toArray, List.set_cons_zero, List.set_cons_succ, i64_w, i32_w]
         rfl
       refine pure_ (i := 7) (N := some 16) (v := ?_) (a' := ?_) #[true, true, true, true, true, true, true, true, false, false, false] rfl rfl (any_of HT_.out (by kernel_rfl)) (fun _ _ _ h => h) (Or.inl ⟨by rfl, ?_⟩) ?_ ?_
       rotate_left
       · intro w'
         go_simp
         with_reducible rfl
       rotate_left
       · exact aP
       refine one_ (i := 8) (N := some 17) #[true, true, true, true, true, true, true, true, true, false, false] rfl rfl (one_of HT_.out (by kernel_rfl)) (by decide) (fun K hK => ?_)
       refine goes_ Try.func95 (by kernel_rfl) rfl #[.slice A0_1 l0_1.length c0_1, .slice Ao15 y281.length co15] (by rfl) rfl rfl aT ?_
       with_reducible refine (impl_at.calls k _ _ l0_1 _ _ y281 t285 _ ?side1 ?side2 ?side3 ?side4 A8.out).mono ?_
       (case side1 => exact cB HR0_1 HB)
       (case side2 => exact HC0_1.out)
       (case side3 => repeat (first | exact (by repeat (first | (with_reducible exact HR284.out) | (with_reducible refine Kd.C_alloc ?_ _) | (with_reducible refine Kd.C_drewN ?_ _) | (with_reducible refine Kd.C_drew ?_) | exact HR284.out)) | (with_reducible refine Kd.C_alloc ?_ _) | (with_reducible refine Kd.C_drewN ?_ _) | (with_reducible refine Kd.C_drew ?_)))
       (case side4 => exact HC284.out)
       rintro e w16 ⟨v286, rfl, ho0, hb⟩
       refine ⟨_, rfl, ?_⟩
       have n0_ := Aside0.mk (Kd.R_elder' (pR HO280) (Kd.R_base ho0) hb)
       have n1_ := Aside0.mk (Kd.R_lower (Kd.R_new' ho0 (Kd.R_lt (pR HO280))) (below_size (bC HB GE277)))
       have n2_ := Aside0.mk (bW BK277 hb)
       have n3_ := Aside0.mk (Kd.C_below (by repeat (first | (with_reducible exact HR284.out) | (with_reducible refine Kd.C_alloc ?_ _) | (with_reducible refine Kd.C_drewN ?_ _) | (with_reducible refine Kd.C_drew ?_) | exact HR284.out)) hb)
       have n4_ := Aside0.mk (below_step (bC HB GE277) hb)
       clear HO280
       clear BK277
       clear HR284
       clear HB
       have HO280 := n0_
       have HO287 := n1_
       have BK277 := n2_
       have HR284 := n3_
       have HB := n4_
       clear n0_ n1_ n2_ n3_ n4_
       (try clear hb)
       (try clear hb2)
       (try clear hk)
       (try clear hi)
       (try clear ho0)
       obtain ⟨Ao17, co17, eo17⟩ := Kd.R_slice HO287.out
       (first | subst eo17 | (injection eo17 with f1_ f2_ f3_; have f4_ := f1_.symm; have f5_ := f3_.symm; clear f1_ f2_ f3_; subst f4_; subst f5_))
       refine hK.out _ _ ⟨(blk_cell BK277.out 0).trans rfl, (blk_cell BK277.out 1).trans rfl⟩ (fun hHeld => ?_)
       clear hK K
       refine norm_ (a' := ?_) ?_ ?_
       rotate_left
       · show Act.put _ (some 17) _ = _
         simp only [Act.put, List.setIfInBounds_toArray, List.set_cons_zero, List.set_cons_succ, i64_w, i32_w]
         rfl
       refine one_ (i := 9) (N := some 18) #[true, true, true, true, true, true, true, true, true, true, false] rfl rfl (one_of HT_.out (by kernel_rfl)) (by decide) (fun K hK => ?_)
       refine goes_ Try.func101 (by kernel_rfl) rfl #[.slice Ao17 t285.length co17] (by rfl) rfl rfl aT ?_
       with_reducible refine (impl_total.calls k _ _ t285 t288 _ ?side1 ?side2 A9.out).mono ?_
       (case side1 => exact cR HO287)
       (case side2 => exact (Kd.R_reads' HO287.out).2.1)
       rintro e w' ⟨rfl, ⟨nd, rfl⟩⟩
       refine ⟨_, rfl, ?_⟩
       refine hK.out _ _ ⟨(blk_cell BK277.out 0).trans rfl, (blk_cell BK277.out 1).trans rfl⟩ (fun hHeld => ?_)
       clear hK K
       refine norm_ (a' := ?_) ?_ ?_
       rotate_left
       · show Act.put _ (some 18) _ = _
         simp only [Act.put, List.setIfInBounds_toArray, List.set_cons_zero, List.set_cons_succ, i64_w, i32_w]
         rfl
       refine pure_ (i := 10) (N := some 19) (v := ?_) (a' := ?_) #[true, true, true, true, true, true, true, true, true, true, true] rfl rfl (any_of HT_.out (by kernel_rfl)) (fun _ _ _ h => h) (Or.inl ⟨by rfl, ?_⟩) ?_ ?_
       rotate_left
       · intro w'
         go_simp
         with_reducible rfl
       rotate_left
       · exact aP
       refine done_ (done_of HT_.out (by kernel_rfl)) ?_
       try go_wp2
       go_ret
       exact ⟨eW, bC HB GE277⟩
     · rw [if_neg c10] at H
       have c10b0 : decide (0 ≤ t288) = false := decide_eq_false c10
       clear c10
       obtain rfl := Option.some.inj H
       go_enter Try.func136, Try.ntmps136
       try go_wp2_with (first | ((with_reducible refine gate_dst (N := 4) rfl ?_); refine box_event ?hg (N := 4) ?hd (cs := #[.slice A0_0 l0_0.length c0_0, .slice A0_1 l0_1.length c0_1]) (t := 52) ?hr ?_; (case hd => rfl); (case hg => rfl); (case hr => first | (go_simp; done) | (go_simp; rfl)); intro gb277 hg w18 hbox hb; have n0_ := Aside0.mk (below_step (bB HB) hb); have n1_ := Aside0.mk (hbox); have n2_ := Aside0.mk ((by rw [hg]; exact (below_size (bB HB)) : w.heap.size ≤ gb277)); have n3_ := Aside0.mk ((by rw [hg]; exact (below_size (bB HB)) : w.heap.size ≤ gb277)); clear HB; have HB := n0_; have BK277 := n1_; have GW277 := n2_; have GE277 := n3_; clear n0_ n1_ n2_ n3_; clear hb hbox hg))
       have n0_ := Aside0.mk (blk_drew BK277.out)
       have n1_ := Aside0.mk (below_drew1 HB.out)
       clear BK277
       clear HB
       have BK277 := n0_
       have HB := n1_
       clear n0_ n1_
       refine start_ (n := 11) (S := fun w' => w'.cell? ⟨gb277, 0, none⟩ = some (.slice A0_0 l0_0.length c0_0) ∧ w'.cell? ⟨gb277, 1, none⟩ = some (.slice A0_1 l0_1.length c0_1)) (ds := []) #[false, false, false, false, false, false, false, false, false, false, false] (by kernel_rfl) rfl rfl ⟨(blk_cell BK277.out 0).trans rfl, (blk_cell BK277.out 1).trans rfl⟩ (fun hHeld => ?_); refine with_tabW impl_Sample_near.tab1 impl_Sample_near.bits1 (fun HT_ HW_ => ?_)
       generalize w18.drew = w19 at BK277 HB hHeld ⊢
       refine pure_ (i := 0) (N := some 9) (v := ?_) (a' := ?_) #[true, false, false, false, false, false, false, false, false, false, false] rfl rfl (any_of HT_.out (by kernel_rfl)) (fun _ _ _ h => h) (Or.inl ⟨by rfl, ?_⟩) ?_ ?_
       rotate_left
       · intro w'
         go_simp
         with_reducible rfl
       rotate_left
       · exact aP
       refine pure_ (i := 3) (N := some 12) (v := ?_) (a' := ?_) #[true, false, false, true, false, false, false, false, false, false, false] rfl rfl (any_of HT_.out (by kernel_rfl)) (fun _ _ _ h => h) (Or.inl ⟨by rfl, ?_⟩) ?_ ?_
       rotate_left
       · intro w'
         go_simp
         with_reducible rfl
       rotate_left
       · exact aP
       refine pure_ (i := 4) (N := some 13) (v := ?_) (a' := ?_) #[true, false, false, true, true, false, false, false, false, false, false] rfl rfl (any_of HT_.out (by kernel_rfl)) (fun _ _ _ h => h) (Or.inl ⟨by rfl, ?_⟩) ?_ ?_
       rotate_left
       · intro w'
         go_simp
         with_reducible rfl
       rotate_left
       · exact aP
       refine pure_ (i := 6) (N := some 15) (v := ?_) (a' := ?_) #[true, false, false, true, true, false, true, false, false, false, false] rfl rfl (any_of HT_.out (by kernel_rfl)) (fun _ _ _ h => h) (Or.inl ⟨by rfl, ?_⟩) ?_ ?_
       rotate_left
       · intro w'
         go_simp
         with_reducible rfl
       rotate_left
       · exact aP
       refine take_ (i := 1) (N := some 10) (v := ?_) (a' := ?_) #[true, true, false, true, true, false, true, false, false, false, false] rfl rfl (take_ofW HT_.out HW_.out (by kernel_rfl)) (fun _ _ _ h => h) (Or.inl ⟨by rfl, ?_⟩) hHeld ?_ ?_
       rotate_left
       · rintro w' ⟨s0, s1⟩
         go_simp
         with_reducible rfl
       rotate_left
       · exact aP
       refine take_ (i := 2) (N := some 11) (v := ?_) (a' := ?_) #[true, true, true, true, true, false, true, false, false, false, false] rfl rfl (take_ofW HT_.out HW_.out (by kernel_rfl)) (fun _ _ _ h => h) (Or.inl ⟨by rfl, ?_⟩) hHeld ?_ ?_
       rotate_left
       · rintro w' ⟨s0, s1⟩
         go_simp
         with_reducible rfl
       rotate_left
       · exact aP
       refine one_ (i := 5) (N := some 14) #[true, true, true, true, true, true, true, false, false, false, false] rfl rfl (one_of HT_.out (by kernel_rfl)) (by decide) (fun K hK => ?_)
       refine goes_ Try.func177 (by kernel_rfl) rfl #[.agg #[.slice A0_0 l0_0.length c0_0, .slice A0_1 l0_1.length c0_1], .slice A1 l1.length c1, .slice A2 l2.length c2] (by rfl) rfl rfl aT ?_
       with_reducible refine (impl_Sample_neighbors.calls k _ _ l0_0 _ _ l0_1 _ _ l1 _ _ l2 t278 _ ?side1 ?side2 ?side3 ?side4 ?side5 ?side6 ?side7 ?side8 A5.out).mono ?_
       (case side1 => exact cB HR0_0 HB)
       (case side2 => exact HC0_0.out)
       (case side3 => exact cB HR0_1 HB)
       (case side4 => exact HC0_1.out)
       (case side5 => exact cB HR1 HB)
       (case side6 => exact HC1.out)
       (case side7 => exact cB HR2 HB)
       (case side8 => exact HC2.out)
       rintro e w20 ⟨v279, rfl, ho0, hb⟩
       refine ⟨_, rfl, ?_⟩
       have n0_ := Aside0.mk (Kd.R_lower ho0 (below_size (bC HB GE277)))
       have n1_ := Aside0.mk (bW BK277 hb)
       have n2_ := Aside0.mk (below_step (bC HB GE277) hb)
       clear BK277
       clear HB
       have HO280 := n0_
       have BK277 := n1_
       have HB := n2_
       clear n0_ n1_ n2_
       (try clear hb)
       (try clear hb2)
       (try clear hk)
       (try clear hi)
       (try clear ho0)
       obtain ⟨Ao22, co22, eo22⟩ := Kd.R_slice HO280.out
       (first | subst eo22 | (injection eo22 with f1_ f2_ f3_; have f4_ := f1_.symm; have f5_ := f3_.symm; clear f1_ f2_ f3_; subst f4_; subst f5_))
       have q21 : (a3 : Int) ≤ ((t278.length : Int) : Int) := of_decide_eq_true aS
       obtain ⟨i021, hi021, _, hsz21, _⟩ := info_parts info3
       have hroom21 : t278.length ≤ co22 := (Kd.R_reads' HO280.out).2.1
       have hC21 : Kd.C (Kd.int .i64) _ Ao22 t278.length t278 := (Kd.R_reads' HO280.out).2.2
       have hcut21 := cut_to (P := Try.prog) 22 3 .i64 Try.underlying22 hi021 Ao22 t278.length co22 a3 (of_decide_eq_true aS) q21 hroom21
       have hr21 := Kd.C_take (m := (a3 : Int).toNat) hC21 (by omega)
       have hy21 : y281.length = (a3 : Int).toNat := (by rw [Ny281.out, List.length_take]; omega)
       rw [← Ny281.out] at hr21
       rw [← hy21] at hcut21
       have HR284 := Aside0.mk hr21
       have HC284 := Aside0.mk (show y281.length ≤ co22 from by omega)
       clear hr21 hC21 hroom21 hi021 hsz21
       have KY21 := Aside0.mk hy21
       clear hy21
       have KL21 := Aside0.mk (show (a3 : Int).toNat ≤ t278.length from by omega)
       replace q21 := eq_true q21
       refine hK.out _ _ ⟨(blk_cell BK277.out 0).trans rfl, (blk_cell BK277.out 1).trans rfl⟩ (fun hHeld => ?_)
       clear hK K
       refine norm_ (a' := ?_) ?_ ?_
       rotate_left
       · show Act.put _ (some 14) _ = _
         simp only [Act.put, List.setIfInBounds_toArray, List.set_cons_zero, List.set_cons_succ, i64_w, i32_w]
         rfl
       refine pure_ (i := 7) (N := some 16) (v := ?_) (a' := ?_) #[true, true, true, true, true, true, true, true, false, false, false] rfl rfl (any_of HT_.out (by kernel_rfl)) (fun _ _ _ h => h) (Or.inl ⟨by rfl, ?_⟩) ?_ ?_
       rotate_left
       · intro w'
         go_simp
         with_reducible rfl
       rotate_left
       · exact aP
       refine one_ (i := 8) (N := some 17) #[true, true, true, true, true, true, true, true, true, false, false] rfl rfl (one_of HT_.out (by kernel_rfl)) (by decide) (fun K hK => ?_)
       refine goes_ Try.func95 (by kernel_rfl) rfl #[.slice A0_1 l0_1.length c0_1, .slice Ao22 y281.length co22] (by rfl) rfl rfl aT ?_
       with_reducible refine (impl_at.calls k _ _ l0_1 _ _ y281 t285 _ ?side1 ?side2 ?side3 ?side4 A8.out).mono ?_
       (case side1 => exact cB HR0_1 HB)
       (case side2 => exact HC0_1.out)
       (case side3 => repeat (first | exact (by repeat (first | (with_reducible exact HR284.out) | (with_reducible refine Kd.C_alloc ?_ _) | (with_reducible refine Kd.C_drewN ?_ _) | (with_reducible refine Kd.C_drew ?_) | exact HR284.out)) | (with_reducible refine Kd.C_alloc ?_ _) | (with_reducible refine Kd.C_drewN ?_ _) | (with_reducible refine Kd.C_drew ?_)))
       (case side4 => exact HC284.out)
       rintro e w23 ⟨v286, rfl, ho0, hb⟩
       refine ⟨_, rfl, ?_⟩
       have n0_ := Aside0.mk (Kd.R_elder' (pR HO280) (Kd.R_base ho0) hb)
       have n1_ := Aside0.mk (Kd.R_lower (Kd.R_new' ho0 (Kd.R_lt (pR HO280))) (below_size (bC HB GE277)))
       have n2_ := Aside0.mk (bW BK277 hb)
       have n3_ := Aside0.mk (Kd.C_below (by repeat (first | (with_reducible exact HR284.out) | (with_reducible refine Kd.C_alloc ?_ _) | (with_reducible refine Kd.C_drewN ?_ _) | (with_reducible refine Kd.C_drew ?_) | exact HR284.out)) hb)
       have n4_ := Aside0.mk (below_step (bC HB GE277) hb)
       clear HO280
       clear BK277
       clear HR284
       clear HB
       have HO280 := n0_
       have HO287 := n1_
       have BK277 := n2_
       have HR284 := n3_
       have HB := n4_
       clear n0_ n1_ n2_ n3_ n4_
       (try clear hb)
       (try clear hb2)
       (try clear hk)
       (try clear hi)
       (try clear ho0)
       obtain ⟨Ao24, co24, eo24⟩ := Kd.R_slice HO287.out
       (first | subst eo24 | (injection eo24 with f1_ f2_ f3_; have f4_ := f1_.symm; have f5_ := f3_.symm; clear f1_ f2_ f3_; subst f4_; subst f5_))
       refine hK.out _ _ ⟨(blk_cell BK277.out 0).trans rfl, (blk_cell BK277.out 1).trans rfl⟩ (fun hHeld => ?_)
       clear hK K
       refine norm_ (a' := ?_) ?_ ?_
       rotate_left
       · show Act.put _ (some 17) _ = _
         simp only [Act.put, List.setIfInBounds_toArray, List.set_cons_zero, List.set_cons_succ, i64_w, i32_w]
         rfl
       refine one_ (i := 9) (N := some 18) #[true, true, true, true, true, true, true, true, true, true, false] rfl rfl (one_of HT_.out (by kernel_rfl)) (by decide) (fun K hK => ?_)
       refine goes_ Try.func101 (by kernel_rfl) rfl #[.slice Ao24 t285.length co24] (by rfl) rfl rfl aT ?_
       with_reducible refine (impl_total.calls k _ _ t285 t288 _ ?side1 ?side2 A9.out).mono ?_
       (case side1 => exact cR HO287)
       (case side2 => exact (Kd.R_reads' HO287.out).2.1)
       rintro e w' ⟨rfl, ⟨nd, rfl⟩⟩
       refine ⟨_, rfl, ?_⟩
       refine hK.out _ _ ⟨(blk_cell BK277.out 0).trans rfl, (blk_cell BK277.out 1).trans rfl⟩ (fun hHeld => ?_)
       clear hK K
       refine norm_ (a' := ?_) ?_ ?_
       rotate_left
       · show Act.put _ (some 18) _ = _
         simp only [Act.put, List.setIfInBounds_toArray, List.set_cons_zero, List.set_cons_succ, i64_w, i32_w]
         rfl
       refine pure_ (i := 10) (N := some 19) (v := ?_) (a' := ?_) #[true, true, true, true, true, true, true, true, true, true, true] rfl rfl (any_of HT_.out (by kernel_rfl)) (fun _ _ _ h => h) (Or.inl ⟨by rfl, ?_⟩) ?_ ?_
       rotate_left
       · intro w'
         go_simp
         with_reducible rfl
       rotate_left
       · exact aP
       refine done_ (done_of HT_.out (by kernel_rfl)) ?_
       try go_wp2
       go_ret
       exact ⟨eW, bC HB GE277⟩
   · rw [if_neg c7] at H
     exact absurd H (by simp)
 · rw [if_neg c6] at H
   exact absurd H (by simp)

/-! ### impl_Sample_keeps: function 82 -/
def impl_Sample_keeps.l0 : Nat → List Int → List (List Int) → Int → Int → List (List Int) → List Int → Option (Bool)
 | 0, _, _, _, _, _, _ => none
 | k + 1, x1, x8, x9, x10, x290000, x290001 => if x10 < x9 then (if 0 ≤ x10 then (if x10 < (x8.length : Int) then ((impl_Sample_near.f k x290000 x290001 (rd_L1 x8 x10) x1 1).bind fun t291 => (if x10 < (x290001.length : Int) then (if t291 = (rd x290001 x10) then (impl_Sample_keeps.l0 k x1 x8 x9 (wrap64 (x10 + 1)) x290000 x290001) else (some false)) else (none))) else (none)) else (none)) else (some true)
def impl_Sample_keeps.f (k : Nat) (l0_0 : List (List Int)) (l0_1 : List Int) (l1 : List Int) : Option (Bool) := impl_Sample_keeps.l0 k l1 l0_0 (l0_0.length : Int) 0 l0_0 l0_1
def impl_Sample_keeps.T4 : Bool × List (List Nat × List Nat) := (true, [([], []), ([], []), ([], []), ([0, 1, 2], [0, 1, 2]), ([], []), ([4], [4]), ([], []), ([5, 6], [5, 6]), ([7], [7]), ([3, 8], [3, 8])])
def impl_Sample_keeps.B4 : List Nat := [0, 0, 0, 7, 0, 16, 0, 112, 240, 511]
theorem impl_Sample_keeps.tab4 : rtab .any (opsOf Try.f82 4) = impl_Sample_keeps.T4 := by kernel_rfl
theorem impl_Sample_keeps.bits4 : waitsOk impl_Sample_keeps.T4.2 impl_Sample_keeps.B4 = true := by kernel_rfl
set_option maxHeartbeats 8000000 in
set_option maxRecDepth 100000 in
theorem impl_Sample_keeps.calls (k : Nat) (A0_0 : Option Addr) (c0_0 : Nat) (l0_0 : List (List Int)) (A0_1 : Option Addr) (c0_1 : Nat) (l0_1 : List Int) (A1 : Option Addr) (c1 : Nat) (l1 : List Int) (r : Bool) (w : World) (hr0_0 : Kd.C (Kd.slice 3 (Kd.int .i64)) w A0_0 l0_0.length l0_0) (hc0_0 : l0_0.length ≤ c0_0) (hr0_1 : Kd.C (Kd.int .i64) w A0_1 l0_1.length l0_1) (hc0_1 : l0_1.length ≤ c0_1) (hr1 : Kd.C (Kd.int .i64) w A1 l1.length l1) (hc1 : l1.length ≤ c1) (h : impl_Sample_keeps.f k l0_0 l0_1 l1 = some r) :
 Calls Try.prog 82 #[.agg #[.slice A0_0 l0_0.length c0_0, .slice A0_1 l0_1.length c0_1], .slice A1 l1.length c1] w fun e w' => e = .returned (.bool r) ∧ Below w.heap.size w w' := by
 have hu52 := Try.underlying52
 have HR0_0 := Aside0.mk hr0_0
 have HC0_0 := Aside0.mk hc0_0
 clear hr0_0 hc0_0
 have HR0_1 := Aside0.mk hr0_1
 have HC0_1 := Aside0.mk hc0_1
 clear hr0_1 hc0_1
 have HR1 := Aside0.mk hr1
 have HC1 := Aside0.mk hc1
 clear hr1 hc1
 have HB := Aside0.mk (Below.refl w.heap.size w)
 have H : (impl_Sample_keeps.l0 k l1 l0_0 (l0_0.length : Int) 0 l0_0 l0_1) = some r := h
 clear h
 have H' := Aside0.mk H
 clear H
 go_enter Try.func82, Try.ntmps82
 go_wp2_with (first | ((with_reducible refine gate_dst (N := 2) rfl ?_); refine box_event ?hg (N := 2) ?hd (cs := #[.slice A0_0 l0_0.length c0_0, .slice A0_1 l0_1.length c0_1]) (t := 52) ?hr ?_; (case hd => rfl); (case hg => rfl); (case hr => first | (go_simp; done) | (go_simp; rfl)); intro gb289 hg w3 hbox hb; have n0_ := Aside0.mk (below_step (bB HB) hb); have n1_ := Aside0.mk (hbox); have n2_ := Aside0.mk ((by rw [hg]; exact (below_size (bB HB)) : w.heap.size ≤ gb289)); have n3_ := Aside0.mk ((by rw [hg]; exact (below_size (bB HB)) : w.heap.size ≤ gb289)); clear HB; have HB := n0_; have BK289 := n1_; have GW289 := n2_; have GE289 := n3_; clear n0_ n1_ n2_ n3_; clear hb hbox hg; have hcz4_0 : w3.cell? ⟨gb289, 0, none⟩ = some (.slice A0_0 l0_0.length c0_0) := (blk_cell BK289.out 0).trans rfl; have hcz4_1 : w3.cell? ⟨gb289, 1, none⟩ = some (.slice A0_1 l0_1.length c0_1) := (blk_cell BK289.out 1).trans rfl; have hfz4_0 := blk_frozen BK289.out 0; have hfz4_1 := blk_frozen BK289.out 1))
 go_loopg [10] k (fun kq v10 w' => ∃ (x10_1 : Int), v10 = .int .i64 x10_1 ∧ Aside0 (impl_Sample_keeps.l0 kq l1 l0_0 (l0_0.length : Int) x10_1 l0_0 l0_1 = some r) ∧ Aside0 (kq ≤ k) ∧ Aside0 (w'.heap[gb289]? = some (.cells #[(.slice A0_0 l0_0.length c0_0), (.slice A0_1 l0_1.length c0_1)] 52 (0, 0))) ∧ Aside0 (Below w.heap.size w w'))
 case atStart => exact ⟨(0), rD, H', ⟨Nat.le_refl _⟩, ⟨pB BK289⟩, ⟨bC HB GE289⟩⟩
 case round =>
  clear H'
  try clear c1
  try clear hcz4_0
  try clear hcz4_1
  try clear hfz4_0
  try clear hfz4_1
  obtain ⟨x10_1, rfl, HA, HK1, BK289, HB⟩ := hrel
  cases gk with
  | zero => exact absurd HA.out (by simp [impl_Sample_keeps.l0])
  | succ k1 =>
   have H := HA.out
   clear HA
   simp only [impl_Sample_keeps.l0] at H
   by_cases c5 : x10_1 < (l0_0.length : Int)
   · rw [if_pos c5] at H
     have c5b0 : decide (x10_1 < (l0_0.length : Int)) = true := decide_eq_true c5
     clear c5
     by_cases c6 : 0 ≤ x10_1
     · rw [if_pos c6] at H
       have c6b0 : decide (0 ≤ x10_1) = true := decide_eq_true c6
       clear c6
       by_cases c7 : x10_1 < (l0_0.length : Int)
       · rw [if_pos c7] at H
         have c7b0 : decide (x10_1 < (l0_0.length : Int)) = true := decide_eq_true c7
         clear c7
         replace H := Option.bind_eq_some_iff.mp H
         obtain ⟨t291, A80, H⟩ := H
         replace H : (if x10_1 < (l0_1.length : Int) then (if t291 = (rd l0_1 x10_1) then (impl_Sample_keeps.l0 k1 l1 l0_0 (l0_0.length : Int) (wrap64 (x10_1 + 1)) l0_0 l0_1) else (some false)) else (none)) = some r := H
         have A8 := Aside0.mk A80
         clear A80
         by_cases c9 : x10_1 < (l0_1.length : Int)
         · rw [if_pos c9] at H
           have c9b0 : decide (x10_1 < (l0_1.length : Int)) = true := decide_eq_true c9
           clear c9
           by_cases c10 : t291 = (rd l0_1 x10_1)
           · rw [if_pos c10] at H
             have c10b0 : (t291 == (rd l0_1 x10_1)) = true := beq_iff_eq.mpr c10
             have c10b1 : (t291 != (rd l0_1 x10_1)) = false := bne_eq_false_iff_eq.mpr c10
             clear c10
             have H' := Aside0.mk H
             clear H
             have p290 : 0 ≤ (x10_1 : Int) := of_decide_eq_true aS
             have q290 : x10_1 < (l0_0.length : Int) := of_decide_eq_true aS
             obtain ⟨ad290, A290_0, c290_0, e290, hx290_0, hl290_0, hi290_0⟩ := at_L1 HR0_0.out x10_1 p290 q290
             cases e290
             replace hx290_0 := (HB.out.cell (World.block_lt_of_cell? w _ hx290_0)).trans hx290_0
             have HR290_0 := Aside0.mk hi290_0
             have HC290_0 := Aside0.mk hl290_0
             clear hi290_0 hl290_0
             replace p290 := eq_true p290
             replace q290 := eq_true q290
             try go_wp2
             have n0_ := Aside0.mk (blk_drew BK289.out)
             have n1_ := Aside0.mk (below_drew1 HB.out)
             clear BK289
             clear HB
             have BK289 := n0_
             have HB := n1_
             clear n0_ n1_
             have p292 : 0 ≤ (x10_1 : Int) := of_decide_eq_true aS
             have q292 : x10_1 < (l0_1.length : Int) := of_decide_eq_true aS
             obtain ⟨ad292, e292, hx292_0⟩ := Kd.at_int HR0_1.out x10_1 p292 q292
             have hw292_0 := hx292_0
             cases e292
             replace hx292_0 := (HB.out.cell (World.block_lt_of_cell? w _ hx292_0)).trans hx292_0
             replace p292 := eq_true p292
             replace q292 := eq_true q292
             refine start_ (n := 10) (S := fun w' => w'.cell? ⟨gb289, 0, none⟩ = some (.slice (some ad290) l0_0.length c0_0) ∧ w'.cell? ⟨gb289, 1, none⟩ = some (.slice (some ad292) l0_1.length c0_1) ∧ w'.cell? (ad292.add (x10_1).toNat) = some (.int .i64 (rd l0_1 x10_1))) (ds := []) #[false, false, false, false, false, false, false, false, false, false] (by kernel_rfl) rfl rfl ⟨(blk_cell BK289.out 0).trans rfl, (blk_cell BK289.out 1).trans rfl, ((HB.out.cell (World.block_lt_of_cell? w _ hw292_0)).trans hw292_0)⟩ (fun hHeld => ?_); refine with_tabW impl_Sample_keeps.tab4 impl_Sample_keeps.bits4 (fun HT_ HW_ => ?_)
             generalize wr.drew = w11 at BK289 HB hx292_0 hHeld ⊢
             refine pure_ (i := 1) (N := some 16) (v := ?_) (a' := ?_) #[false, true, false, false, false, false, false, false, false, false] rfl rfl (any_of HT_.out (by kernel_rfl)) (fun _ _ _ h => h) (Or.inl ⟨by rfl, ?_⟩) ?_ ?_
             rotate_left
             · intro w'
               go_simp
               with_reducible rfl
             rotate_left
             · exact aP
             refine pure_ (i := 2) (N := some 17) (v := ?_) (a' := ?_) #[false, true, true, false, false, false, false, false, false, false] rfl rfl (any_of HT_.out (by kernel_rfl)) (fun _ _ _ h => h) (Or.inl ⟨by rfl, ?_⟩) ?_ ?_
             rotate_left
             · intro w'
               go_simp
               with_reducible rfl
             rotate_left
             · exact aP
             refine pure_ (i := 4) (N := some 19) (v := ?_) (a' := ?_) #[false, true, true, false, true, false, false, false, false, false] rfl rfl (any_of HT_.out (by kernel_rfl)) (fun _ _ _ h => h) (Or.inl ⟨by rfl, ?_⟩) ?_ ?_
             rotate_left
             · intro w'
               go_simp
               with_reducible rfl
             rotate_left
             · exact aP
             refine pure_ (i := 6) (N := some 21) (v := ?_) (a' := ?_) #[false, true, true, false, true, false, true, false, false, false] rfl rfl (any_of HT_.out (by kernel_rfl)) (fun _ _ _ h => h) (Or.inl ⟨by rfl, ?_⟩) ?_ ?_
             rotate_left
             · intro w'
               go_simp
               with_reducible rfl
             rotate_left
             · exact aP
             refine take_ (i := 0) (N := some 15) (v := ?_) (a' := ?_) #[true, true, true, false, true, false, true, false, false, false] rfl rfl (take_ofW HT_.out HW_.out (by kernel_rfl)) (fun _ _ _ h => h) (Or.inl ⟨by rfl, ?_⟩) hHeld ?_ ?_
             rotate_left
             · rintro w' ⟨s0, s1, s2⟩
               go_simp
               with_reducible rfl
             rotate_left
             · exact aP
             refine take_ (i := 5) (N := some 20) (v := ?_) (a' := ?_) #[true, true, true, false, true, true, true, false, false, false] rfl rfl (take_ofW HT_.out HW_.out (by kernel_rfl)) (fun _ _ _ h => h) (Or.inl ⟨by rfl, ?_⟩) hHeld ?_ ?_
             rotate_left
             · rintro w' ⟨s0, s1, s2⟩
               go_simp
               with_reducible rfl
             rotate_left
             · exact aP
             refine pure_ (i := 7) (N := some 22) (v := ?_) (a' := ?_) #[true, true, true, false, true, true, true, true, false, false] rfl rfl (any_of HT_.out (by kernel_rfl)) (fun _ _ _ h => h) (Or.inl ⟨by rfl, ?_⟩) ?_ ?_
             rotate_left
             · intro w'
               go_simp
               with_reducible rfl
             rotate_left
             · exact aP
             refine take_ (i := 8) (N := some 23) (v := ?_) (a' := ?_) #[true, true, true, false, true, true, true, true, true, false] rfl rfl (take_ofW HT_.out HW_.out (by kernel_rfl)) (fun _ _ _ h => h) (Or.inl ⟨by rfl, ?_⟩) hHeld ?_ ?_
             rotate_left
             · rintro w' ⟨s0, s1, s2⟩
               go_simp
               with_reducible rfl
             rotate_left
             · exact aP
             refine one_ (i := 3) (N := some 18) #[true, true, true, true, true, true, true, true, true, false] rfl rfl (one_of HT_.out (by kernel_rfl)) (by decide) (fun K hK => ?_)
             refine goes_ Try.func136 (by kernel_rfl) rfl #[.agg #[.slice (some ad290) l0_0.length c0_0, .slice (some ad292) l0_1.length c0_1], .slice A290_0 (rd_L1 l0_0 x10_1).length c290_0, .slice A1 l1.length c1, .int .i64 1] (by rfl) rfl rfl aT ?_
             with_reducible refine (impl_Sample_near.calls k1 _ _ l0_0 _ _ l0_1 _ _ (rd_L1 l0_0 x10_1) _ _ l1 1 t291 _ ?side1 ?side2 ?side3 ?side4 ?side5 ?side6 ?side7 ?side8 A8.out).mono ?_
             (case side1 => exact cB HR0_0 HB)
             (case side2 => exact HC0_0.out)
             (case side3 => exact cB HR0_1 HB)
             (case side4 => exact HC0_1.out)
             (case side5 => exact cB HR290_0 HB)
             (case side6 => exact HC290_0.out)
             (case side7 => exact cB HR1 HB)
             (case side8 => exact HC1.out)
             rintro e w12 ⟨rfl, hb⟩
             refine ⟨_, rfl, ?_⟩
             have n0_ := Aside0.mk (bW BK289 hb)
             have n1_ := Aside0.mk (below_step (bC HB GE289) hb)
             clear BK289
             clear HB
             have BK289 := n0_
             have HB := n1_
             clear n0_ n1_
             (try clear hb)
             (try clear hb2)
             (try clear hk)
             (try clear hi)
             refine hK.out _ _ ⟨(blk_cell BK289.out 0).trans rfl, (blk_cell BK289.out 1).trans rfl, ((HB.out.cell (World.block_lt_of_cell? w _ hw292_0)).trans hw292_0)⟩ (fun hHeld => ?_)
             clear hK K
             refine norm_ (a' := ?_) ?_ ?_
             rotate_left
             · show Act.put _ (some 18) _ = _
               simp only [Act.put, List.setIfInBounds_toArray, List.set_cons_zero, List.set_cons_succ, i64_w, i32_w]
               rfl
             refine pure_ (i := 9) (N := some 24) (v := ?_) (a' := ?_) #[true, true, true, true, true, true, true, true, true, true] rfl rfl (any_of HT_.out (by kernel_rfl)) (fun _ _ _ h => h) (Or.inl ⟨by rfl, ?_⟩) ?_ ?_
             rotate_left
             · intro w'
               go_simp
               with_reducible rfl
             rotate_left
             · exact aP
             refine done_ (done_of HT_.out (by kernel_rfl)) ?_
             try go_wp2
             go_roundg k1
             case measure => have := HK1.out; omega
             case rel => exact ⟨(wrap64 (x10_1 + 1)), rD, H', ⟨by have := HK1.out; omega⟩, ⟨pB BK289⟩, ⟨bC HB GE289⟩⟩
           · rw [if_neg c10] at H
             have c10b0 : (t291 == (rd l0_1 x10_1)) = false := beq_eq_false_iff_ne.mpr c10
             have c10b1 : (t291 != (rd l0_1 x10_1)) = true := bne_iff_ne.mpr c10
             obtain rfl := Option.some.inj H
             have p290 : 0 ≤ (x10_1 : Int) := of_decide_eq_true aS
             have q290 : x10_1 < (l0_0.length : Int) := of_decide_eq_true aS
             obtain ⟨ad290, A290_0, c290_0, e290, hx290_0, hl290_0, hi290_0⟩ := at_L1 HR0_0.out x10_1 p290 q290
             cases e290
             replace hx290_0 := (HB.out.cell (World.block_lt_of_cell? w _ hx290_0)).trans hx290_0
             have HR290_0 := Aside0.mk hi290_0
             have HC290_0 := Aside0.mk hl290_0
             clear hi290_0 hl290_0
             replace p290 := eq_true p290
             replace q290 := eq_true q290
             try go_wp2
             have n0_ := Aside0.mk (blk_drew BK289.out)
             have n1_ := Aside0.mk (below_drew1 HB.out)
             clear BK289
             clear HB
             have BK289 := n0_
             have HB := n1_
             clear n0_ n1_
             have p292 : 0 ≤ (x10_1 : Int) := of_decide_eq_true aS
             have q292 : x10_1 < (l0_1.length : Int) := of_decide_eq_true aS
             obtain ⟨ad292, e292, hx292_0⟩ := Kd.at_int HR0_1.out x10_1 p292 q292
             have hw292_0 := hx292_0
             cases e292
             replace hx292_0 := (HB.out.cell (World.block_lt_of_cell? w _ hx292_0)).trans hx292_0
             replace p292 := eq_true p292
             replace q292 := eq_true q292
             refine start_ (n := 10) (S := fun w' => w'.cell? ⟨gb289, 0, none⟩ = some (.slice (some ad290) l0_0.length c0_0) ∧ w'.cell? ⟨gb289, 1, none⟩ = some (.slice (some ad292) l0_1.length c0_1) ∧ w'.cell? (ad292.add (x10_1).toNat) = some (.int .i64 (rd l0_1 x10_1))) (ds := []) #[false, false, false, false, false, false, false, false, false, false] (by kernel_rfl) rfl rfl ⟨(blk_cell BK289.out 0).trans rfl, (blk_cell BK289.out 1).trans rfl, ((HB.out.cell (World.block_lt_of_cell? w _ hw292_0)).trans hw292_0)⟩ (fun hHeld => ?_); refine with_tabW impl_Sample_keeps.tab4 impl_Sample_keeps.bits4 (fun HT_ HW_ => ?_)
             generalize wr.drew = w13 at BK289 HB hx292_0 hHeld ⊢
             refine pure_ (i := 1) (N := some 16) (v := ?_) (a' := ?_) #[false, true, false, false, false, false, false, false, false, false] rfl rfl (any_of HT_.out (by kernel_rfl)) (fun _ _ _ h => h) (Or.inl ⟨by rfl, ?_⟩) ?_ ?_
             rotate_left
             · intro w'
               go_simp
               with_reducible rfl
             rotate_left
             · exact aP
             refine pure_ (i := 2) (N := some 17) (v := ?_) (a' := ?_) #[false, true, true, false, false, false, false, false, false, false] rfl rfl (any_of HT_.out (by kernel_rfl)) (fun _ _ _ h => h) (Or.inl ⟨by rfl, ?_⟩) ?_ ?_
             rotate_left
             · intro w'
               go_simp
               with_reducible rfl
             rotate_left
             · exact aP
             refine pure_ (i := 4) (N := some 19) (v := ?_) (a' := ?_) #[false, true, true, false, true, false, false, false, false, false] rfl rfl (any_of HT_.out (by kernel_rfl)) (fun _ _ _ h => h) (Or.inl ⟨by rfl, ?_⟩) ?_ ?_
             rotate_left
             · intro w'
               go_simp
               with_reducible rfl
             rotate_left
             · exact aP
             refine pure_ (i := 6) (N := some 21) (v := ?_) (a' := ?_) #[false, true, true, false, true, false, true, false, false, false] rfl rfl (any_of HT_.out (by kernel_rfl)) (fun _ _ _ h => h) (Or.inl ⟨by rfl, ?_⟩) ?_ ?_
             rotate_left
             · intro w'
               go_simp
               with_reducible rfl
             rotate_left
             · exact aP
             refine take_ (i := 0) (N := some 15) (v := ?_) (a' := ?_) #[true, true, true, false, true, false, true, false, false, false] rfl rfl (take_ofW HT_.out HW_.out (by kernel_rfl)) (fun _ _ _ h => h) (Or.inl ⟨by rfl, ?_⟩) hHeld ?_ ?_
             rotate_left
             · rintro w' ⟨s0, s1, s2⟩
               go_simp
               with_reducible rfl
             rotate_left
             · exact aP
             refine take_ (i := 5) (N := some 20) (v := ?_) (a' := ?_) #[true, true, true, false, true, true, true, false, false, false] rfl rfl (take_ofW HT_.out HW_.out (by kernel_rfl)) (fun _ _ _ h => h) (Or.inl ⟨by rfl, ?_⟩) hHeld ?_ ?_
             rotate_left
             · rintro w' ⟨s0, s1, s2⟩
               go_simp
               with_reducible rfl
             rotate_left
             · exact aP
             refine pure_ (i := 7) (N := some 22) (v := ?_) (a' := ?_) #[true, true, true, false, true, true, true, true, false, false] rfl rfl (any_of HT_.out (by kernel_rfl)) (fun _ _ _ h => h) (Or.inl ⟨by rfl, ?_⟩) ?_ ?_
             rotate_left
             · intro w'
               go_simp
               with_reducible rfl
             rotate_left
             · exact aP
             refine take_ (i := 8) (N := some 23) (v := ?_) (a' := ?_) #[true, true, true, false, true, true, true, true, true, false] rfl rfl (take_ofW HT_.out HW_.out (by kernel_rfl)) (fun _ _ _ h => h) (Or.inl ⟨by rfl, ?_⟩) hHeld ?_ ?_
             rotate_left
             · rintro w' ⟨s0, s1, s2⟩
               go_simp
               with_reducible rfl
             rotate_left
             · exact aP
             refine one_ (i := 3) (N := some 18) #[true, true, true, true, true, true, true, true, true, false] rfl rfl (one_of HT_.out (by kernel_rfl)) (by decide) (fun K hK => ?_)
             refine goes_ Try.func136 (by kernel_rfl) rfl #[.agg #[.slice (some ad290) l0_0.length c0_0, .slice (some ad292) l0_1.length c0_1], .slice A290_0 (rd_L1 l0_0 x10_1).length c290_0, .slice A1 l1.length c1, .int .i64 1] (by rfl) rfl rfl aT ?_
             with_reducible refine (impl_Sample_near.calls k1 _ _ l0_0 _ _ l0_1 _ _ (rd_L1 l0_0 x10_1) _ _ l1 1 t291 _ ?side1 ?side2 ?side3 ?side4 ?side5 ?side6 ?side7 ?side8 A8.out).mono ?_
             (case side1 => exact cB HR0_0 HB)
             (case side2 => exact HC0_0.out)
             (case side3 => exact cB HR0_1 HB)
             (case side4 => exact HC0_1.out)
             (case side5 => exact cB HR290_0 HB)
             (case side6 => exact HC290_0.out)
             (case side7 => exact cB HR1 HB)
             (case side8 => exact HC1.out)
             rintro e w14 ⟨rfl, hb⟩
             refine ⟨_, rfl, ?_⟩
             have n0_ := Aside0.mk (bW BK289 hb)
             have n1_ := Aside0.mk (below_step (bC HB GE289) hb)
             clear BK289
             clear HB
             have BK289 := n0_
             have HB := n1_
             clear n0_ n1_
             (try clear hb)
             (try clear hb2)
             (try clear hk)
             (try clear hi)
             refine hK.out _ _ ⟨(blk_cell BK289.out 0).trans rfl, (blk_cell BK289.out 1).trans rfl, ((HB.out.cell (World.block_lt_of_cell? w _ hw292_0)).trans hw292_0)⟩ (fun hHeld => ?_)
             clear hK K
             refine norm_ (a' := ?_) ?_ ?_
             rotate_left
             · show Act.put _ (some 18) _ = _
               simp only [Act.put, List.setIfInBounds_toArray, List.set_cons_zero, List.set_cons_succ, i64_w, i32_w]
               rfl
             refine pure_ (i := 9) (N := some 24) (v := ?_) (a' := ?_) #[true, true, true, true, true, true, true, true, true, true] rfl rfl (any_of HT_.out (by kernel_rfl)) (fun _ _ _ h => h) (Or.inl ⟨by rfl, ?_⟩) ?_ ?_
             rotate_left
             · intro w'
               go_simp
               with_reducible rfl
             rotate_left
             · exact aP
             refine done_ (done_of HT_.out (by kernel_rfl)) ?_
             try go_wp2
             go_ret
             exact ⟨eW, bC HB GE289⟩
         · rw [if_neg c9] at H
           exact absurd H (by simp)
       · rw [if_neg c7] at H
         exact absurd H (by simp)
     · rw [if_neg c6] at H
       exact absurd H (by simp)
   · rw [if_neg c5] at H
     have c5b0 : decide (x10_1 < (l0_0.length : Int)) = false := decide_eq_false c5
     clear c5
     obtain rfl := Option.some.inj H
     go_wp2
     go_ret
     exact ⟨eW, bC HB GE289⟩

end Go.Proofs.Ytfkfahdikmfpeaa.PFnExactFewestPlaces
