-- Printed by wip/tools/myprint.py (the printer of the kit, patched by that program; roots chosen by it)
import Derived.Test.YtfkfahdikmfpeaaPFnExactBoostRoundsx0
import Derived.Test.YtfkfahdikmfpeaaPFnExactBoostRoundsx9
import Derived.Test.YtfkfahdikmfpeaaPFnExactBoostRoundsx10
import Derived.Test.YtfkfahdikmfpeaaPFnExactBoostRoundsx12
import Derived.Test.YtfkfahdikmfpeaaPFnExactBoostRoundsx13
import Derived.Test.YtfkfahdikmfpeaaSh
namespace Go.Proofs.Ytfkfahdikmfpeaa.PFnExactBoostRounds
open Go.RowKit Go.Proofs.Ytfkfahdikmfpeaa.Sh Go.Proofs.YtfkfahdikmfpeaaW.PrintWords Go.Proofs.YtfkfahdikmfpeaaW.PrintLast Go.Proofs.YtfkfahdikmfpeaaW.PrintMore
attribute [local go_sem] max2_int min2_int max_two min_two max_three min_three max_four min_four   -- for this text's walks alone
set_option linter.unusedVariables false
set_option linter.unusedSimpArgs false

/-! ### impl_BoostRounds: function 56 -/
mutual
def impl_BoostRounds.j0 : Nat → Int → Bool → List (List Int) → List Int → Option ((List (S39)) × List Int × Bool)
 | 0, _, _, _, _ => none
 | k + 1, x1, x19, x350000, x350001 => if x19 = true then (some (([] : List (S39)), ([] : List Int), false)) else ((impl_Sample_even.f k x350000 x350001 1).bind fun t355 => (impl_BoostRounds.l0 k (([] : List (S39))) t355 x1 0 x350000 x350001))
def impl_BoostRounds.l0 : Nat → List (S39) → List Int → Int → Int → List (List Int) → List Int → Option ((List (S39)) × List Int × Bool)
 | 0, _, _, _, _, _, _ => none
 | k + 1, x7, x8, x23, x24, x350000, x350001 => if x24 < x23 then ((impl_Sample_bestStump.f k x350000 x350001 x8).bind fun bt358 => ((impl_Plane_mistakes.f k bt358.1 bt358.2 x350000 x350001).bind fun t363 => (impl_BoostRounds.l1 k x7 x8 x23 x24 t363 (t363.length : Int) 0 x350000 x350001 bt358.1 bt358.2))) else (some (x7, x8, true))
def impl_BoostRounds.l1 : Nat → List (S39) → List Int → Int → Int → List Int → Int → Int → List (List Int) → List Int → List Int → Int → Option ((List (S39)) × List Int × Bool)
 | 0, _, _, _, _, _, _, _, _, _, _, _ => none
 | k + 1, x7, x8, x23, x24, x31, x32, x33, x350000, x350001, x363000, x363001 => if x33 < x32 then (if 0 ≤ x33 then (if x33 < (x31.length : Int) then (if 0 ≤ (rd x31 x33) then (if (rd x31 x33) < (x8.length : Int) then (impl_BoostRounds.l1 k x7 (x8.set ((rd x31 x33) : Int).toNat (wrap64 ((rd x8 (rd x31 x33)) * 2))) x23 x24 x31 x32 (wrap64 (x33 + 1)) x350000 x350001 x363000 x363001) else (none)) else (none)) else (none)) else (none)) else (if x7.length < 4398046511104 then (impl_BoostRounds.l0 k (x7 ++ [(⟨x363000, x363001⟩ : S39)]) x8 x23 (wrap64 (x24 + 1)) x350000 x350001) else (none))
end
def impl_BoostRounds.f (k : Nat) (l0_0 : List (List Int)) (l0_1 : List Int) (a1 : Int) : Option ((List (S39)) × List Int × Bool) := (impl_hasPoints.f k l0_0 l0_1).bind fun t350 => (if t350 = true then ((impl_within.f a1 0 8).bind fun t351 => (impl_BoostRounds.j0 k a1 (!t351) l0_0 l0_1)) else (impl_BoostRounds.j0 k a1 true l0_0 l0_1))
set_option maxHeartbeats 8000000 in
set_option maxRecDepth 100000 in
theorem impl_BoostRounds.calls (k : Nat) (A0_0 : Option Addr) (c0_0 : Nat) (l0_0 : List (List Int)) (A0_1 : Option Addr) (c0_1 : Nat) (l0_1 : List Int) (a1 : Int) (r1 : List (S39)) (r2 : List Int) (r3 : Bool) (w : World) (hr0_0 : Kd.C (Kd.slice 3 (Kd.int .i64)) w A0_0 l0_0.length l0_0) (hc0_0 : l0_0.length ≤ c0_0) (hr0_1 : Kd.C (Kd.int .i64) w A0_1 l0_1.length l0_1) (hc0_1 : l0_1.length ≤ c0_1) (h : impl_BoostRounds.f k l0_0 l0_1 a1 = some (r1, r2, r3)) :
 Calls Try.prog 56 #[.agg #[.slice A0_0 l0_0.length c0_0, .slice A0_1 l0_1.length c0_1], .int .i64 a1] w fun e w' => ∃ v0_ v1_ : Value, e = .returned (.tuple #[v0_, v1_, .bool r3]) ∧ Kd.S k39 39 w' w.heap.size (fun k_ => some k_ ≠ (v1_ : Value).ownBlock) v0_ r1 ∧ Kd.R (Kd.int .i64) 3 w' w.heap.size (fun _ => True) v1_ r2 ∧ Below w.heap.size w w' := by
 have hu52 := Try.underlying52
 have hu39 := Try.underlying39
 have HR0_0 := Aside0.mk hr0_0
 have HC0_0 := Aside0.mk hc0_0
 clear hr0_0 hc0_0
 have HR0_1 := Aside0.mk hr0_1
 have HC0_1 := Aside0.mk hc0_1
 clear hr0_1 hc0_1
 have HB := Aside0.mk (Below.refl w.heap.size w)
 have H : ((impl_hasPoints.f k l0_0 l0_1).bind fun t350 => (if t350 = true then ((impl_within.f a1 0 8).bind fun t351 => (impl_BoostRounds.j0 k a1 (!t351) l0_0 l0_1)) else (impl_BoostRounds.j0 k a1 true l0_0 l0_1))) = some (r1, r2, r3) := h
 clear h
 have HC3 := Aside0.mk H
 clear H
 go_enter Try.func56, Try.ntmps56
 go_upto_region 1 with (first | ((with_reducible refine gate_dst (N := 2) rfl ?_); refine box_event ?hg (N := 2) ?hd (cs := #[.slice A0_0 l0_0.length c0_0, .slice A0_1 l0_1.length c0_1]) (t := 52) ?hr ?_; (case hd => rfl); (case hg => rfl); (case hr => first | (go_simp; done) | (go_simp; rfl)); intro gb349 hg w4 hbox hb; have n0_ := Aside0.mk (below_step (bB HB) hb); have n1_ := Aside0.mk (hbox); have n2_ := Aside0.mk ((by rw [hg]; exact (below_size (bB HB)) : w.heap.size ≤ gb349)); have n3_ := Aside0.mk ((by rw [hg]; exact (below_size (bB HB)) : w.heap.size ≤ gb349)); clear HB; have HB := n0_; have BK349 := n1_; have GW349 := n2_; have GE349 := n3_; clear n0_ n1_ n2_ n3_; clear hb hbox hg))
 (try simp only [Act.put, List.setIfInBounds_toArray, List.set_cons_zero, List.set_cons_succ])
 go_cut [19] (fun v19 wc => ∃ (kq : Nat) (x19_2 : Bool), v19 = .bool x19_2 ∧ Aside0 (impl_BoostRounds.j0 kq a1 x19_2 l0_0 l0_1 = some (r1, r2, r3)) ∧ Aside0 (kq ≤ k) ∧ Aside0 (wc.heap[gb349]? = some (.cells #[(.slice A0_0 l0_0.length c0_0), (.slice A0_1 l0_1.length c0_1)] 52 (0, 0))) ∧ Aside0 (Below w.heap.size w wc))
 case first =>
  have H := HC3.out
  clear HC3
  replace H := Option.bind_eq_some_iff.mp H
  obtain ⟨t350, A50, H⟩ := H
  replace H : (if t350 = true then ((impl_within.f a1 0 8).bind fun t351 => (impl_BoostRounds.j0 k a1 (!t351) l0_0 l0_1)) else (impl_BoostRounds.j0 k a1 true l0_0 l0_1)) = some (r1, r2, r3) := H
  have A5 := Aside0.mk A50
  clear A50
  by_cases c6 : t350 = true
  · subst c6
    have H1 : ((impl_within.f a1 0 8).bind fun t351 => (impl_BoostRounds.j0 k a1 (!t351) l0_0 l0_1)) = some (r1, r2, r3) := by rw [if_pos rfl] at H; exact H
    clear H
    have H := H1
    clear H1
    replace H := Option.bind_eq_some_iff.mp H
    obtain ⟨t351, A70, H⟩ := H
    replace H : (impl_BoostRounds.j0 k a1 (!t351) l0_0 l0_1) = some (r1, r2, r3) := H
    have A7 := Aside0.mk A70
    clear A70
    have H' := Aside0.mk H
    clear H
    have hcz8_0 : w4.cell? ⟨gb349, 0, none⟩ = some (.slice A0_0 l0_0.length c0_0) := (blk_cell BK349.out 0).trans rfl
    have hcz8_1 : w4.cell? ⟨gb349, 1, none⟩ = some (.slice A0_1 l0_1.length c0_1) := (blk_cell BK349.out 1).trans rfl
    have hfz8_0 := blk_frozen BK349.out 0
    have hfz8_1 := blk_frozen BK349.out 1
    go_wp2_with (first | ((with_reducible refine gate_callee (f := 98) rfl ?_); refine goesL_ (some 13) rfl rfl Try.func98 (by kernel_rfl) rfl #[.agg #[.slice A0_0 l0_0.length c0_0, .slice A0_1 l0_1.length c0_1]] rfl aT ?_; (with_reducible refine (impl_hasPoints.calls k _ _ l0_0 _ _ l0_1 true _ ?side1 ?side2 ?side3 ?side4 A5.out).mono ?_); (case side1 => exact cB HR0_0 HB); (case side2 => exact HC0_0.out); (case side3 => exact cB HR0_1 HB); (case side4 => exact HC0_1.out); rintro e w9 ⟨rfl, hb⟩; refine ⟨_, rfl, ?_⟩; have n0_ := Aside0.mk (bW BK349 hb); have n1_ := Aside0.mk (below_step (bC HB GE349) hb); clear BK349; clear HB; have BK349 := n0_; have HB := n1_; clear n0_ n1_; (try clear hb); (try clear hb2); (try clear hk); (try clear hi)) | (go_at_call 93; (with_reducible refine (impl_within.calls a1 0 8 t351 _ A7.out).mono ?_); rintro e w' ⟨rfl, ⟨nd, rfl⟩⟩))
    go_meet
    case rel => exact ⟨_, (!t351), rD, H', ⟨by first | omega | exact Nat.le_refl _⟩, ⟨pB BK349⟩, ⟨bC HB GE349⟩⟩
  · replace c6 := Bool.eq_false_iff.mpr c6
    subst c6
    have H1 : (impl_BoostRounds.j0 k a1 true l0_0 l0_1) = some (r1, r2, r3) := by rw [if_neg (show ¬ (false = true) by decide)] at H; exact H
    clear H
    have H := H1
    clear H1
    have H' := Aside0.mk H
    clear H
    have hcz10_0 : w4.cell? ⟨gb349, 0, none⟩ = some (.slice A0_0 l0_0.length c0_0) := (blk_cell BK349.out 0).trans rfl
    have hcz10_1 : w4.cell? ⟨gb349, 1, none⟩ = some (.slice A0_1 l0_1.length c0_1) := (blk_cell BK349.out 1).trans rfl
    have hfz10_0 := blk_frozen BK349.out 0
    have hfz10_1 := blk_frozen BK349.out 1
    go_wp2_with (first | ((with_reducible refine gate_callee (f := 98) rfl ?_); refine goesL_ (some 13) rfl rfl Try.func98 (by kernel_rfl) rfl #[.agg #[.slice A0_0 l0_0.length c0_0, .slice A0_1 l0_1.length c0_1]] rfl aT ?_; (with_reducible refine (impl_hasPoints.calls k _ _ l0_0 _ _ l0_1 false _ ?side1 ?side2 ?side3 ?side4 A5.out).mono ?_); (case side1 => exact cB HR0_0 HB); (case side2 => exact HC0_0.out); (case side3 => exact cB HR0_1 HB); (case side4 => exact HC0_1.out); rintro e w11 ⟨rfl, hb⟩; refine ⟨_, rfl, ?_⟩; have n0_ := Aside0.mk (bW BK349 hb); have n1_ := Aside0.mk (below_step (bC HB GE349) hb); clear BK349; clear HB; have BK349 := n0_; have HB := n1_; clear n0_ n1_; (try clear hb); (try clear hb2); (try clear hk); (try clear hi)))
    go_meet
    case rel => exact ⟨_, (true), rD, H', ⟨by first | omega | exact Nat.le_refl _⟩, ⟨pB BK349⟩, ⟨bC HB GE349⟩⟩
 case rest =>
  clear HC3
  obtain ⟨kq, x19_2, rfl, HA, HJ2, BK349, HB⟩ := hcut
  cases kq with
  | zero => exact absurd HA.out (by simp [impl_BoostRounds.j0])
  | succ kj2 =>
   have H := HA.out
   clear HA
   simp only [impl_BoostRounds.j0] at H
   by_cases c12 : x19_2 = true
   · subst c12
     have H1 : (some (([] : List (S39)), ([] : List Int), false)) = some (r1, r2, r3) := by rw [if_pos rfl] at H; exact H
     clear H
     have H := H1
     clear H1
     simp only [Option.some.injEq, Prod.mk.injEq] at H
     obtain ⟨rfl, rfl, rfl⟩ := H
     go_wp2
     go_ret3
     exact ⟨_, _, eW, by first | exact Kd.S_nil _ _ _ _ _ | exact Kd.N_nil _ _ _ _ _ | exact Kd.V_nil _ _ _ _ _ | exact Kd.Q_nil _ _ _ _ _ | exact Kd.R_nil _ _ _ _ _, by first | exact Kd.R_nil _ _ _ _ _ | exact Kd.N_nil _ _ _ _ _ | exact Kd.V_nil _ _ _ _ _ | exact Kd.Q_nil _ _ _ _ _ | exact Kd.S_nil _ _ _ _ _, bC HB GE349⟩
   · replace c12 := Bool.eq_false_iff.mpr c12
     subst c12
     have H1 : ((impl_Sample_even.f kj2 l0_0 l0_1 1).bind fun t355 => (impl_BoostRounds.l0 kj2 (([] : List (S39))) t355 a1 0 l0_0 l0_1)) = some (r1, r2, r3) := by rw [if_neg (show ¬ (false = true) by decide)] at H; exact H
     clear H
     have H := H1
     clear H1
     obtain ⟨y352, hy352⟩ : ∃ y_ : List (S39), y_ = (([] : List (S39))) := ⟨_, rfl⟩
     replace H : ((impl_Sample_even.f kj2 l0_0 l0_1 1).bind fun t355 => (impl_BoostRounds.l0 kj2 y352 t355 a1 0 l0_0 l0_1)) = some (r1, r2, r3) := by first | (rw [hy352]; with_reducible exact H) | (have H2_ := (Option.bind_some _ _).symm.trans H; rw [hy352]; with_reducible exact H2_) | (have H2_ := (Option.bind_some _ _).symm.trans H; with_reducible exact H2_) | with_reducible exact H | (rw [hy352]; exact H) | exact H
     have Ny352 := Aside0.mk hy352
     clear hy352
     replace H := Option.bind_eq_some_iff.mp H
     obtain ⟨t355, A130, H⟩ := H
     replace H : (impl_BoostRounds.l0 kj2 y352 t355 a1 0 l0_0 l0_1) = some (r1, r2, r3) := H
     have A13 := Aside0.mk A130
     clear A130
     have H' := Aside0.mk H
     clear H
     go_wp2_with (first | ((with_reducible refine gate_dst (N := 20) rfl ?_); refine Kd.S_lit k39 _ 39 ?hg (N := 20) ?hd (xs := ([] : List (S39))) (inner := []) (ok := fun _ => True) (okp := fun _ => True) ?hr ?hp (fun _ hk => hk) trivial (Below.refl _ _) (Nat.le_refl _) (by simp) ?_; (case hd => rfl); (case hg => rfl); (case hr => first | (go_simp; done) | (go_simp; rfl)); (case hp => exact (Reps.none _ _)); intro v353 w14 ho15 hb hg_ hnew_; clear hg_ hnew_; (first | rw [← Ny352.out] at ho15 | (simp only [Int.reduceToNat] at ho15; rw [← Ny352.out] at ho15)); have n0_ := Aside0.mk (Kd.S_lower ho15 (below_size (bC HB GE349))); have n1_ := Aside0.mk (bW BK349 hb); have n2_ := Aside0.mk (below_step (bC HB GE349) hb); clear BK349; clear HB; have HO354 := n0_; have BK349 := n1_; have HB := n2_; clear n0_ n1_ n2_; clear hb ho15; have hcz16_0 : w14.cell? ⟨gb349, 0, none⟩ = some (.slice A0_0 l0_0.length c0_0) := (blk_cell BK349.out 0).trans rfl; have hcz16_1 : w14.cell? ⟨gb349, 1, none⟩ = some (.slice A0_1 l0_1.length c0_1) := (blk_cell BK349.out 1).trans rfl; have hfz16_0 := blk_frozen BK349.out 0; have hfz16_1 := blk_frozen BK349.out 1) | ((with_reducible refine gate_callee (f := 110) rfl ?_); refine goesL_ (some 22) rfl rfl Try.func110 (by kernel_rfl) rfl #[.agg #[.slice A0_0 l0_0.length c0_0, .slice A0_1 l0_1.length c0_1], .int .i64 1] rfl aT ?_; (with_reducible refine (impl_Sample_even.calls kj2 _ _ l0_0 _ _ l0_1 1 t355 _ ?side1 ?side2 ?side3 ?side4 A13.out).mono ?_); (case side1 => exact cB HR0_0 HB); (case side2 => exact HC0_0.out); (case side3 => exact cB HR0_1 HB); (case side4 => exact HC0_1.out); rintro e w17 ⟨v356, rfl, ho0, hb⟩; refine ⟨_, rfl, ?_⟩; have n0_ := Aside0.mk (Kd.S_elder' (pS HO354) (Kd.R_base ho0) hb); have n1_ := Aside0.mk (Kd.R_lower ho0 (below_size (bC HB GE349))); have n2_ := Aside0.mk (bW BK349 hb); have n3_ := Aside0.mk (below_step (bC HB GE349) hb); clear HO354; clear BK349; clear HB; have HO354 := n0_; have HO357 := n1_; have BK349 := n2_; have HB := n3_; clear n0_ n1_ n2_ n3_; (try clear hb); (try clear hb2); (try clear hk); (try clear hi); (try clear ho0)))
     go_loopg [7, 24] kj2 (fun kq v7 v24 w' => ∃ (x7_2 : List (S39)) (x8_2 : List Int) (x24_2 : Int), v24 = .int .i64 x24_2 ∧ Aside0 (impl_BoostRounds.l0 kq x7_2 x8_2 a1 x24_2 l0_0 l0_1 = some (r1, r2, r3)) ∧ Aside0 (kq ≤ kj2) ∧ Aside0 (Kd.S k39 39 w' w.heap.size (fun k_ => some k_ ≠ (v356 : Value).ownBlock) v7 x7_2) ∧ Aside0 (Kd.R (Kd.int .i64) 3 w' w.heap.size (fun _ => True) v356 x8_2) ∧ Aside0 (w'.heap[gb349]? = some (.cells #[(.slice A0_0 l0_0.length c0_0), (.slice A0_1 l0_1.length c0_1)] 52 (0, 0))) ∧ Aside0 (Below w.heap.size w w'))
     case atStart => exact ⟨(y352), (t355), (0), rD, H', ⟨Nat.le_refl _⟩, ⟨by (with_reducible repeat (first | apply Kd.S_alloc | apply Kd.S_drewN | apply Kd.S_drew)); exact Kd.S_mono HO354.out (fun _ hk => hk.2)⟩, ⟨pR HO357⟩, ⟨pB BK349⟩, ⟨bC HB GE349⟩⟩
     case round =>
      clear H'
      try clear c12
      try clear hcz16_0
      try clear hcz16_1
      try clear hfz16_0
      try clear hfz16_1
      obtain ⟨x7_2, x8_2, x24_2, rfl, HA, HK2, HO_7, HO_8, BK349, HB⟩ := hrel
      cases gk with
      | zero => exact absurd HA.out (by simp [impl_BoostRounds.l0])
      | succ k2 =>
       have H := HA.out
       clear HA
       simp only [impl_BoostRounds.l0] at H
       by_cases c18 : x24_2 < a1
       · rw [if_pos c18] at H
         have c18b0 : decide (x24_2 < a1) = true := decide_eq_true c18
         clear c18
         replace H := Option.bind_eq_some_iff.mp H
         obtain ⟨⟨t358, t361⟩, A190, H⟩ := H
         replace H : ((impl_Plane_mistakes.f k2 t358 t361 l0_0 l0_1).bind fun t363 => (impl_BoostRounds.l1 k2 x7_2 x8_2 a1 x24_2 t363 (t363.length : Int) 0 l0_0 l0_1 t358 t361)) = some (r1, r2, r3) := H
         have A19 := Aside0.mk A190
         clear A190
         replace H := Option.bind_eq_some_iff.mp H
         obtain ⟨t363, A200, H⟩ := H
         replace H : (impl_BoostRounds.l1 k2 x7_2 x8_2 a1 x24_2 t363 (t363.length : Int) 0 l0_0 l0_1 t358 t361) = some (r1, r2, r3) := H
         have A20 := Aside0.mk A200
         clear A200
         have H' := Aside0.mk H
         clear H
         have hcz21_0 : wr.cell? ⟨gb349, 0, none⟩ = some (.slice A0_0 l0_0.length c0_0) := (blk_cell BK349.out 0).trans rfl
         have hcz21_1 : wr.cell? ⟨gb349, 1, none⟩ = some (.slice A0_1 l0_1.length c0_1) := (blk_cell BK349.out 1).trans rfl
         have hfz21_0 := blk_frozen BK349.out 0
         have hfz21_1 := blk_frozen BK349.out 1
         obtain ⟨Ao22, co22, eo22⟩ := Kd.R_slice HO_8.out
         subst eo22
         go_wp2_with (first | ((with_reducible refine gate_callee (f := 105) rfl ?_); refine goesL_ (some 28) rfl rfl Try.func105 (by kernel_rfl) rfl #[.agg #[.slice A0_0 l0_0.length c0_0, .slice A0_1 l0_1.length c0_1], .slice Ao22 x8_2.length co22] rfl aT ?_; (with_reducible refine (impl_Sample_bestStump.calls k2 _ _ l0_0 _ _ l0_1 _ _ x8_2 t358 t361 _ ?side1 ?side2 ?side3 ?side4 ?side5 ?side6 A19.out).mono ?_); (case side1 => exact cB HR0_0 HB); (case side2 => exact HC0_0.out); (case side3 => exact cB HR0_1 HB); (case side4 => exact HC0_1.out); (case side5 => exact cR HO_8); (case side6 => exact (Kd.R_reads' HO_8.out).2.1); rintro e w23 ⟨v359, rfl, ho0, hb⟩; refine ⟨_, rfl, ?_⟩; have n0_ := Aside0.mk (Kd.S_elder' (pS HO_7) (Kd.R_base ho0) hb); have n1_ := Aside0.mk (Kd.R_elder' (pR HO_8) (Kd.R_base ho0) hb); have n2_ := Aside0.mk (Kd.R_lower (Kd.R_new' ho0 (Kd.R_lt (pR HO_8))) (below_size (bC HB GE349))); have n3_ := Aside0.mk (bW BK349 hb); have n4_ := Aside0.mk (below_step (bC HB GE349) hb); clear HO_7; clear HO_8; clear BK349; clear HB; have HO_7 := n0_; have HO_8 := n1_; have HO360 := n2_; have BK349 := n3_; have HB := n4_; clear n0_ n1_ n2_ n3_ n4_; (try clear hb); (try clear hb2); (try clear hk); (try clear hi); (try clear ho0)) | ((with_reducible refine gate_dst (N := 9) rfl ?_); refine box_event ?hg (N := 9) ?hd (cs := #[.slice none 0 0, .int .i64 0]) (t := 39) ?hr ?_; (case hd => rfl); (case hg => rfl); (case hr => first | (go_simp; done) | (go_simp; rfl)); intro gb362 hg w24 hbox hb; have n0_ := Aside0.mk (Kd.S_below (Kd.S_elderB (pS HO_7) gb362 (Nat.le_of_eq hg.symm)) hb); have n1_ := Aside0.mk (Kd.R_below (pR HO_8) hb); have n2_ := Aside0.mk (Kd.R_below (pR HO360) hb); have n3_ := Aside0.mk (bW BK349 hb); have n4_ := Aside0.mk (below_step (bC HB GE349) hb); have n5_ := Aside0.mk (hbox); have n6_ := Aside0.mk ((by rw [hg]; exact (below_size (bC HB GE349)) : w.heap.size ≤ gb362)); have n7_ := Aside0.mk ((by rw [hg]; exact (below_size (bC HB GE349)) : w.heap.size ≤ gb362)); have n8_ := Aside0.mk ((by rw [hg]; exact Nat.ne_of_lt (blk_lt (g := gb349) (o := .cells #[.slice A0_0 l0_0.length c0_0, .slice A0_1 l0_1.length c0_1] 52 (0, 0)) (pB BK349)) : gb349 ≠ gb362)); have n9_ := Aside0.mk ((by rw [hg]; exact Nat.ne_of_gt (blk_lt (g := gb349) (o := .cells #[.slice A0_0 l0_0.length c0_0, .slice A0_1 l0_1.length c0_1] 52 (0, 0)) (pB BK349)) : gb362 ≠ gb349)); clear HO_7; clear HO_8; clear HO360; clear BK349; clear HB; have HO_7 := n0_; have HO_8 := n1_; have HO360 := n2_; have BK349 := n3_; have HB := n4_; have BK362 := n5_; have GW362 := n6_; have GE362 := n7_; have NB349_362 := n8_; have NB362_349 := n9_; clear n0_ n1_ n2_ n3_ n4_ n5_ n6_ n7_ n8_ n9_; clear hb hbox hg; obtain ⟨Ao25, co25, eo25⟩ := Kd.R_slice HO360.out; subst eo25; have hnb26 := NB362_349.out; have hnc26 := NB349_362.out; have hcz27_0 : w24.cell? ⟨gb362, 0, none⟩ = some (.slice none 0 0) := (blk_cell BK362.out 0).trans rfl; have hcz27_1 : w24.cell? ⟨gb362, 1, none⟩ = some (.int .i64 0) := (blk_cell BK362.out 1).trans rfl; have hfz27_0 := blk_frozen BK362.out 0; have hfz27_1 := blk_frozen BK362.out 1; have hcz28_0 : w24.cell? ⟨gb349, 0, none⟩ = some (.slice A0_0 l0_0.length c0_0) := (blk_cell BK349.out 0).trans rfl; have hcz28_1 : w24.cell? ⟨gb349, 1, none⟩ = some (.slice A0_1 l0_1.length c0_1) := (blk_cell BK349.out 1).trans rfl; have hfz28_0 := blk_frozen BK349.out 0; have hfz28_1 := blk_frozen BK349.out 1) | ((with_reducible refine gate_callee (f := 111) rfl ?_); refine goesL_ (some 31) rfl rfl Try.func111 (by kernel_rfl) rfl #[.agg #[.slice Ao25 t358.length co25, .int .i64 t361], .agg #[.slice A0_0 l0_0.length c0_0, .slice A0_1 l0_1.length c0_1]] rfl aT ?_; (with_reducible refine (impl_Plane_mistakes.calls k2 _ _ t358 t361 _ _ l0_0 _ _ l0_1 t363 _ ?side1 ?side2 ?side3 ?side4 ?side5 ?side6 A20.out).mono ?_); (case side1 => refine (Kd.R_reads' (e := 3) (base := w.heap.size) (ok := fun k_ => (True ∧ some k_ ≠ (.slice Ao22 x8_2.length co22 : Value).ownBlock)) (n := t358.length) (c := co25) ?_).2.2; exact (sR HO360 BK362 gb362 (.slice Ao25 t358.length co25) (.int .i64 t361))); (case side2 => exact (Kd.R_reads' HO360.out).2.1); (case side3 => exact Kd.C_below HR0_0.out (bD HB GE349 GE362)); (case side4 => exact HC0_0.out); (case side5 => exact Kd.C_below HR0_1.out (bD HB GE349 GE362)); (case side6 => exact HC0_1.out); rintro e w29 ⟨v364, rfl, ho0, hb⟩; refine ⟨_, rfl, ?_⟩; have n0_ := Aside0.mk (Kd.S_elder' (vS HO_7 gb362 (.slice Ao25 t358.length co25) (.int .i64 t361)) (Kd.R_base ho0) hb); have n1_ := Aside0.mk (Kd.R_elder' (sR HO_8 BK362 gb362 (.slice Ao25 t358.length co25) (.int .i64 t361)) (Kd.R_base ho0) hb); have n2_ := Aside0.mk (Kd.R_elder' (sR HO360 BK362 gb362 (.slice Ao25 t358.length co25) (.int .i64 t361)) (Kd.R_base ho0) hb); have n3_ := Aside0.mk (Kd.R_lower (Kd.R_new' (Kd.R_new' ho0 (Kd.R_lt (sR HO_8 BK362 gb362 (.slice Ao25 t358.length co25) (.int .i64 t361)))) (Kd.R_lt (sR HO360 BK362 gb362 (.slice Ao25 t358.length co25) (.int .i64 t361)))) (below_size (bD HB GE349 GE362))); have n4_ := Aside0.mk (g2 BK349 NB349_362 NB349_362 hb); have n5_ := Aside0.mk (blk_below (g := gb362) (o := .cells #[.slice Ao25 t358.length co25, .int .i64 t361] 39 (0, 0)) (by (with_reducible repeat (first | refine blk_drewN ?_ _ | refine blk_drew ?_ | refine blk_alloc ?_ _)); refine blk_put (cs := #[.slice Ao25 t358.length co25, .int .i64 0]) ?_ 1 _ rfl; (with_reducible repeat (first | refine blk_drewN ?_ _ | refine blk_drew ?_ | refine blk_alloc ?_ _)); refine blk_put (cs := #[.slice none 0 0, .int .i64 0]) ?_ 0 _ rfl; (with_reducible repeat (first | refine blk_drewN ?_ _ | refine blk_drew ?_ | refine blk_alloc ?_ _)); exact BK362.out) hb); have n6_ := Aside0.mk (below_step (bD HB GE349 GE362) hb); clear HO_7; clear HO_8; clear HO360; clear BK349; clear BK362; clear HB; have HO_7 := n0_; have HO_8 := n1_; have HO360 := n2_; have HO365 := n3_; have BK349 := n4_; have BK362 := n5_; have HB := n6_; clear n0_ n1_ n2_ n3_ n4_ n5_ n6_; (try clear hb); (try clear hb2); (try clear hk); (try clear hi); (try clear ho0); obtain ⟨Ao30, co30, eo30⟩ := Kd.R_slice HO365.out; subst eo30))
         go_loopg [33] k2 (fun kq v33 w' => ∃ (x8_3 : List Int) (x33_3 : Int), v33 = .int .i64 x33_3 ∧ Aside0 (impl_BoostRounds.l1 kq x7_2 x8_3 a1 x24_2 t363 (t363.length : Int) x33_3 l0_0 l0_1 t358 t361 = some (r1, r2, r3)) ∧ Aside0 (kq ≤ k2) ∧ Aside0 (Kd.S k39 39 w' w.heap.size (fun k_ => some k_ ≠ ((.slice Ao22 x8_2.length co22) : Value).ownBlock ∧ some k_ ≠ ((.slice Ao30 t363.length co30) : Value).ownBlock ∧ some k_ ≠ ((.slice Ao25 t358.length co25) : Value).ownBlock ∧ k_ ≠ gb362) u7 x7_2) ∧ Aside0 (Kd.R (Kd.int .i64) 3 w' w.heap.size (fun k_ => some k_ ≠ ((.slice Ao30 t363.length co30) : Value).ownBlock ∧ some k_ ≠ ((.slice Ao25 t358.length co25) : Value).ownBlock) (.slice Ao22 x8_2.length co22) x8_3) ∧ Aside0 (Kd.R (Kd.int .i64) 3 w' w.heap.size (fun k_ => some k_ ≠ ((.slice Ao22 x8_2.length co22) : Value).ownBlock ∧ some k_ ≠ ((.slice Ao25 t358.length co25) : Value).ownBlock) (.slice Ao30 t363.length co30) t363) ∧ Aside0 (Kd.R (Kd.int .i64) 3 w' w.heap.size (fun k_ => some k_ ≠ ((.slice Ao22 x8_2.length co22) : Value).ownBlock ∧ some k_ ≠ ((.slice Ao30 t363.length co30) : Value).ownBlock) (.slice Ao25 t358.length co25) t358) ∧ Aside0 (w'.heap[gb349]? = some (.cells #[(.slice A0_0 l0_0.length c0_0), (.slice A0_1 l0_1.length c0_1)] 52 (0, 0))) ∧ Aside0 (w'.heap[gb362]? = some (.cells #[(.slice Ao25 t358.length co25), .int .i64 t361] 39 (0, 0))) ∧ Aside0 (Below w.heap.size w w'))
         case atStart => exact ⟨(x8_2), (0), rD, H', ⟨Nat.le_refl _⟩, ⟨by (with_reducible repeat (first | apply Kd.S_alloc | apply Kd.S_drewN | apply Kd.S_drew)); exact Kd.S_mono HO_7.out (fun _ hk => ⟨hk.1.1.1, ⟨hk.2, ⟨hk.1.1.2, hk.1.2⟩⟩⟩)⟩, ⟨by (with_reducible repeat (first | apply Kd.R_alloc | apply Kd.R_drewN | apply Kd.R_drew)); exact Kd.R_mono HO_8.out (fun _ hk => ⟨hk.2, hk.1.2⟩)⟩, ⟨by (with_reducible repeat (first | apply Kd.R_alloc | apply Kd.R_drewN | apply Kd.R_drew)); exact Kd.R_mono HO365.out (fun _ hk => ⟨hk.1.2, hk.2⟩)⟩, ⟨by (with_reducible repeat (first | apply Kd.R_alloc | apply Kd.R_drewN | apply Kd.R_drew)); exact Kd.R_mono HO360.out (fun _ hk => ⟨hk.1.2, hk.2⟩)⟩, ⟨pB BK349⟩, ⟨pB BK362⟩, ⟨bD HB GE349 GE362⟩⟩
         case round =>
          clear H'
          try clear c12
          try clear c18
          try clear c18b0
          try clear hcz16_0
          try clear hcz16_1
          try clear hcz21_0
          try clear hcz21_1
          try clear hcz27_0
          try clear hcz27_1
          try clear hcz28_0
          try clear hcz28_1
          try clear hfz16_0
          try clear hfz16_1
          try clear hfz21_0
          try clear hfz21_1
          try clear hfz27_0
          try clear hfz27_1
          try clear hfz28_0
          try clear hfz28_1
          obtain ⟨x8_3, x33_3, rfl, HA, HK3, HO_7, HO_8, HO_31, HO_363000, BK349, BK362, HB⟩ := hrel
          have hl8_3 := (Kd.R_reads' HO_8.out).1
          rw [hl8_3] at HO_8
          (try simp only [hl8_3])
          (try simp only [hl8_3] at BK349)
          (try simp only [hl8_3] at BK362)
          (try simp only [hl8_3] at HO_7)
          (try simp only [hl8_3] at HO_31)
          (try simp only [hl8_3] at HO_363000)
          cases gk with
          | zero => exact absurd HA.out (by simp [impl_BoostRounds.l1])
          | succ k3 =>
           have H := HA.out
           clear HA
           simp only [impl_BoostRounds.l1] at H
           by_cases c31 : x33_3 < (t363.length : Int)
           · rw [if_pos c31] at H
             have c31b0 : decide (x33_3 < (t363.length : Int)) = true := decide_eq_true c31
             (try simp only [hl8_3] at c31b0)
             clear c31
             by_cases c32 : 0 ≤ x33_3
             · rw [if_pos c32] at H
               have c32b0 : decide (0 ≤ x33_3) = true := decide_eq_true c32
               clear c32
               by_cases c33 : x33_3 < (t363.length : Int)
               · rw [if_pos c33] at H
                 have c33b0 : decide (x33_3 < (t363.length : Int)) = true := decide_eq_true c33
                 (try simp only [hl8_3] at c33b0)
                 clear c33
                 by_cases c34 : 0 ≤ (rd t363 x33_3)
                 · rw [if_pos c34] at H
                   have c34b0 : decide (0 ≤ (rd t363 x33_3)) = true := decide_eq_true c34
                   clear c34
                   by_cases c35 : (rd t363 x33_3) < (x8_3.length : Int)
                   · rw [if_pos c35] at H
                     have c35b0 : decide ((rd t363 x33_3) < (x8_3.length : Int)) = true := decide_eq_true c35
                     (try simp only [hl8_3] at c35b0)
                     clear c35
                     obtain ⟨y368, hy368⟩ : ∃ y_ : List Int, y_ = (x8_3.set ((rd t363 x33_3) : Int).toNat (wrap64 ((rd x8_3 (rd t363 x33_3)) * 2))) := ⟨_, rfl⟩
                     replace H : (impl_BoostRounds.l1 k3 x7_2 y368 a1 x24_2 t363 (t363.length : Int) (wrap64 (x33_3 + 1)) l0_0 l0_1 t358 t361) = some (r1, r2, r3) := by first | (rw [hy368]; with_reducible exact H) | (have H2_ := (Option.bind_some _ _).symm.trans H; rw [hy368]; with_reducible exact H2_) | (have H2_ := (Option.bind_some _ _).symm.trans H; with_reducible exact H2_) | with_reducible exact H | (rw [hy368]; exact H) | exact H
                     have Ny368 := Aside0.mk hy368
                     clear hy368
                     have H' := Aside0.mk H
                     clear H
                     have p366 : 0 ≤ (x33_3 : Int) := of_decide_eq_true aS
                     have q366 : x33_3 < (t363.length : Int) := of_decide_eq_true aS
                     obtain ⟨ad366, e366, hx366_0⟩ := Kd.at_int (Kd.R_reads' HO_31.out).2.2 x33_3 p366 q366
                     cases e366
                     replace p366 := eq_true p366
                     replace q366 := eq_true q366
                     have p367 : 0 ≤ ((rd t363 x33_3) : Int) := of_decide_eq_true aS
                     have q367 : (rd t363 x33_3) < (x8_3.length : Int) := of_decide_eq_true aS
                     obtain ⟨ad367, e367, hx367_0⟩ := Kd.at_int (Kd.R_reads' HO_8.out).2.2 (rd t363 x33_3) p367 q367
                     cases e367
                     replace p367 := eq_true p367
                     replace q367 := eq_true q367
                     have p36 : 0 ≤ ((rd t363 x33_3) : Int) := of_decide_eq_true aS
                     have q36 : ((rd t363 x33_3) : Int) < ((x8_3.length : Int) : Int) := of_decide_eq_true aS
                     obtain ⟨go36, co36, eo36, gb36, gl36, cl36, HG36⟩ := Kd.R_form HO_8.out (by omega)
                     (first | cases eo36 | (injection eo36 with ea_ en_ ec_; (first | subst ea_ | (injection ea_ with ea_; subst ea_)); subst ec_; clear en_))
                     have GB36 := Aside0.mk gb36
                     have GG36 := Aside0.mk HG36
                     clear gb36 gl36 HG36
                     (first | simp only [add_plain] at hx367_0 | skip)
                     obtain ⟨hx36_0, hf36_0⟩ := Kd.R_celln 0 HO_8.out ((rd t363 x33_3) : Int) p36 q36
                     replace p36 := eq_true p36
                     replace q36 := eq_true q36
                     have HP37 := Kd.R_putg HO_8.out ((rd t363 x33_3) : Int) (wrap64 ((rd x8_3 (rd t363 x33_3)) * 2))
                     go_wp2_with (first | ((with_reducible refine gate_store (t := 3) (p := 42) rfl ?_); refine store_event (t := 3) (p := 42) (v := ?vo_w38) (w1 := (wr.setCell ⟨go36, ((rd t363 x33_3) : Int).toNat, none⟩ (.int .i64 (wrap64 ((rd x8_3 (rd t363 x33_3)) * 2))))) ?hg ?ho ?hn ?hr ?_; (case ho => rfl); (case hg => rfl); (case hn => rfl); (case hr => first | (go_simp; done) | (go_simp; rfl)); intro w38 hw; have hg : wr.grownBy w38 (some go36) := (by rw [hw]; exact HP37.2); have hp_ : Kd.R (Kd.int .i64) 3 w38 w.heap.size (fun k_ => some k_ ≠ (.slice (some ad366) t363.length co30 : Value).ownBlock ∧ some k_ ≠ (.slice Ao25 t358.length co25 : Value).ownBlock) (.slice (some ⟨go36, 0, none⟩) x8_3.length co22) y368 := (by rw [hw, Ny368.out]; exact HP37.1); clear HP37; have n0_ := Aside0.mk (Kd.S_after (v := (.slice (some ⟨go36, 0, none⟩) x8_3.length co22)) (v1 := (.slice (some ⟨go36, 0, none⟩) x8_3.length co22)) (ok := (fun k_ => some k_ ≠ (.slice (some ad366) t363.length co30 : Value).ownBlock ∧ some k_ ≠ (.slice Ao25 t358.length co25 : Value).ownBlock ∧ k_ ≠ gb362)) (by (with_reducible repeat (first | apply Kd.S_alloc | apply Kd.S_drewN | apply Kd.S_drew)); exact Kd.S_mono HO_7.out (fun _ hk => ⟨⟨hk.2.1, ⟨hk.2.2.1, hk.2.2.2⟩⟩, hk.1⟩)) hg (.inl rfl)); have n1_ := Aside0.mk (hp_); have n2_ := Aside0.mk (Kd.R_after (v := (.slice (some ⟨go36, 0, none⟩) x8_3.length co22)) (v1 := (.slice (some ⟨go36, 0, none⟩) x8_3.length co22)) (ok := (fun k_ => some k_ ≠ (.slice Ao25 t358.length co25 : Value).ownBlock)) (by (with_reducible repeat (first | apply Kd.R_alloc | apply Kd.R_drewN | apply Kd.R_drew)); exact Kd.R_mono HO_31.out (fun _ hk => ⟨hk.2, hk.1⟩)) hg (.inl rfl)); have n3_ := Aside0.mk (Kd.R_after (v := (.slice (some ⟨go36, 0, none⟩) x8_3.length co22)) (v1 := (.slice (some ⟨go36, 0, none⟩) x8_3.length co22)) (ok := (fun k_ => some k_ ≠ (.slice (some ad366) t363.length co30 : Value).ownBlock)) (by (with_reducible repeat (first | apply Kd.R_alloc | apply Kd.R_drewN | apply Kd.R_drew)); exact Kd.R_mono HO_363000.out (fun _ hk => ⟨hk.2, hk.1⟩)) hg (.inl rfl)); have n4_ := Aside0.mk (blk_grown (g := gb349) (o := .cells #[.slice A0_0 l0_0.length c0_0, .slice A0_1 l0_1.length c0_1] 52 (0, 0)) (pB BK349) hg (Kd.R_ne HO_8.out BK349.out (by decide))); have n5_ := Aside0.mk (blk_grown (g := gb362) (o := .cells #[.slice Ao25 t358.length co25, .int .i64 t361] 39 (0, 0)) (pB BK362) hg (Kd.R_ne HO_8.out BK362.out (by decide))); have n6_ := Aside0.mk ((by rw [hw]; exact below_set (HB.out) GB36.out : Below w.heap.size w w38)); clear HO_7; clear HO_8; clear HO_31; clear HO_363000; clear BK349; clear BK362; clear HB; have HO_7 := n0_; have HO_8 := n1_; have HO_31 := n2_; have HO_363000 := n3_; have BK349 := n4_; have BK362 := n5_; have HB := n6_; clear n0_ n1_ n2_ n3_ n4_ n5_ n6_; clear hg hw hp_))
                     (try simp only [← hl8_3])
                     go_roundg k3
                     case measure => have := HJ2.out; have := HK2.out; have := HK3.out; omega
                     case rel => exact ⟨(y368), (wrap64 (x33_3 + 1)), rD, H', ⟨by have := HJ2.out; have := HK2.out; have := HK3.out; omega⟩, ⟨by (try simp only [hl8_3]); (with_reducible repeat (first | apply Kd.S_alloc | apply Kd.S_drewN | apply Kd.S_drew)); exact Kd.S_mono HO_7.out (fun _ hk => ⟨hk.2, ⟨hk.1.1, ⟨hk.1.2.1, hk.1.2.2⟩⟩⟩)⟩, ⟨by (try simp only [hl8_3]); (with_reducible repeat (first | apply Kd.R_alloc | apply Kd.R_drewN | apply Kd.R_drew)); exact HO_8.out⟩, ⟨by (try simp only [hl8_3]); (with_reducible repeat (first | apply Kd.R_alloc | apply Kd.R_drewN | apply Kd.R_drew)); exact Kd.R_mono HO_31.out (fun _ hk => ⟨hk.2, hk.1⟩)⟩, ⟨by (try simp only [hl8_3]); (with_reducible repeat (first | apply Kd.R_alloc | apply Kd.R_drewN | apply Kd.R_drew)); exact Kd.R_mono HO_363000.out (fun _ hk => ⟨hk.2, hk.1⟩)⟩, ⟨by (try simp only [hl8_3]); (with_reducible repeat (first | refine blk_drewN ?_ _ | refine blk_drew ?_ | refine blk_alloc ?_ _)); exact BK349.out⟩, ⟨by (try simp only [hl8_3]); (with_reducible repeat (first | refine blk_drewN ?_ _ | refine blk_drew ?_ | refine blk_alloc ?_ _)); exact BK362.out⟩, ⟨bD HB GE349 GE362⟩⟩
                   · rw [if_neg c35] at H
                     exact absurd H (by simp)
                 · rw [if_neg c34] at H
                   exact absurd H (by simp)
               · rw [if_neg c33] at H
                 exact absurd H (by simp)
             · rw [if_neg c32] at H
               exact absurd H (by simp)
           · rw [if_neg c31] at H
             have c31b0 : decide (x33_3 < (t363.length : Int)) = false := decide_eq_false c31
             (try simp only [hl8_3] at c31b0)
             clear c31
             by_cases c39 : x7_2.length < 4398046511104
             · rw [if_pos c39] at H
               have LMc39 := Aside0.mk c39
               clear c39
               obtain ⟨y369, hy369⟩ : ∃ y_ : List (S39), y_ = (x7_2 ++ [(⟨t358, t361⟩ : S39)]) := ⟨_, rfl⟩
               replace H : (impl_BoostRounds.l0 k3 y369 x8_3 a1 (wrap64 (x24_2 + 1)) l0_0 l0_1) = some (r1, r2, r3) := by first | (rw [hy369]; with_reducible exact H) | (have H2_ := (Option.bind_some _ _).symm.trans H; rw [hy369]; with_reducible exact H2_) | (have H2_ := (Option.bind_some _ _).symm.trans H; with_reducible exact H2_) | with_reducible exact H | (rw [hy369]; exact H) | exact H
               have Ny369 := Aside0.mk hy369
               clear hy369
               have H' := Aside0.mk H
               clear H
               have hnb40 := NB362_349.out
               have hnc40 := NB349_362.out
               have hcz41_0 : wr.cell? ⟨gb362, 0, none⟩ = some (.slice Ao25 t358.length co25) := (blk_cell BK362.out 0).trans rfl
               have hcz41_1 : wr.cell? ⟨gb362, 1, none⟩ = some (.int .i64 t361) := (blk_cell BK362.out 1).trans rfl
               have hfz41_0 := blk_frozen BK362.out 0
               have hfz41_1 := blk_frozen BK362.out 1
               go_wp2_with (first | ((with_reducible refine gate_builtin (b := .append) (xs := #[.tmp 44, .tmp 46]) rfl ?_); at_builtin; refine Kd.S_append k39 (w0 := w) w.heap.size rfl (.tmp 44) (.tmp 46) 65 39 (.agg #[(.slice none 0 0), (.int .i64 0)]) 32 rfl Try.underlying65 info39 rfl (by decide) (by omega) u7 x7_2 (⟨t358, t361⟩ : S39) [.slice Ao25 t358.length co25, .int .i64 t361] (fun k_ => some k_ ≠ (.slice Ao22 x8_3.length co22 : Value).ownBlock ∧ some k_ ≠ (.slice Ao30 t363.length co30 : Value).ownBlock ∧ k_ ≠ gb362) (fun k_ => some k_ = (.slice Ao25 t358.length co25 : Value).ownBlock) rfl rfl ?aP (fun k_ hk_ => ((Kd.R_mono (ok' := fun k_ => ((fun k_ => some k_ ≠ (.slice Ao22 x8_3.length co22 : Value).ownBlock ∧ some k_ ≠ (.slice Ao30 t363.length co30 : Value).ownBlock ∧ k_ ≠ gb362)) k_ ∧ some k_ ≠ (u7 : Value).ownBlock) (Kd.R_types (Kd.R_apart' (HO_363000.out) (Kd.S_typed HO_7.out) (by decide)) BK362.out (by decide)) (fun k_ hk => ⟨⟨hk.1.1.1, ⟨hk.1.1.2, hk.2⟩⟩, hk.1.2⟩))).1 k_ hk_.symm) ?aF ?aO ?aB ?aS ?aL ?_; (case aP => exact k39_mkM _ _ _ (⟨t358, t361⟩ : S39) (Kd.R_mono (Kd.R_tight rfl (Kd.R_mono (ok' := fun k_ => ((fun k_ => some k_ ≠ (.slice Ao22 x8_3.length co22 : Value).ownBlock ∧ some k_ ≠ (.slice Ao30 t363.length co30 : Value).ownBlock ∧ k_ ≠ gb362)) k_ ∧ some k_ ≠ (u7 : Value).ownBlock) (Kd.R_types (Kd.R_apart' (HO_363000.out) (Kd.S_typed HO_7.out) (by decide)) BK362.out (by decide)) (fun k_ hk => ⟨⟨hk.1.1.1, ⟨hk.1.1.2, hk.2⟩⟩, hk.1.2⟩))) (fun _ h_ => h_))); (case aB => exact (bD HB GE349 GE362)); (case aF => exact (fun k_ hk => ⟨Kd.fresh' (Kd.R_lt (pR HO_8)) k_ hk, Kd.fresh' (Kd.R_lt (pR HO_31)) k_ hk, Kd.freshB (g := gb362) (o := .cells #[.slice Ao25 t358.length co25, .int .i64 t361] 39 (0, 0)) (pB BK362) k_ hk⟩)); (case aO => exact (by (with_reducible repeat (first | apply Kd.S_alloc | apply Kd.S_drewN | apply Kd.S_drew)); exact Kd.S_mono HO_7.out (fun k_ hk => ⟨⟨hk.1, ⟨hk.2.1, hk.2.2.2⟩⟩, fun e_ => hk.2.2.1 e_⟩))); (case aS => exact (below_size (bD HB GE349 GE362))); (case aL => have := LMc39.out; omega); intro v370 w42 ho hb hg hat; rw [← Ny369.out] at ho; have n0_ := Aside0.mk (Kd.R_over' (pR HO_8) (Kd.S_typed (pS HO_7)) (by decide) hg); have n1_ := Aside0.mk (Kd.R_over' (pR HO_31) (Kd.S_typed (pS HO_7)) (by decide) hg); have n2_ := Aside0.mk (blk_grown (g := gb349) (o := .cells #[.slice A0_0 l0_0.length c0_0, .slice A0_1 l0_1.length c0_1] 52 (0, 0)) (pB BK349) hg (Kd.S_ne HO_7.out BK349.out (by decide))); have n3_ := Aside0.mk (blk_grown (g := gb362) (o := .cells #[.slice Ao25 t358.length co25, .int .i64 t361] 39 (0, 0)) (pB BK362) hg (Kd.S_away HO_7.out (fun _ hk => hk.2.2.2))); have n4_ := Aside0.mk (hb); have n5_ := Aside0.mk (ho); clear HO_8; clear HO_31; clear BK349; clear BK362; clear HB; clear HO_7; clear HO_363000; have HO_8 := n0_; have HO_31 := n1_; have BK349 := n2_; have BK362 := n3_; have HB := n4_; have HO371 := n5_; clear n0_ n1_ n2_ n3_ n4_ n5_; clear ho hb hg hat))
               (try simp only [← hl8_3])
               go_roundg k3
               case measure => have := HJ2.out; have := HK2.out; have := HK3.out; omega
               case rel => exact ⟨(y369), (x8_3), (wrap64 (x24_2 + 1)), rD, H', ⟨by have := HJ2.out; have := HK2.out; have := HK3.out; omega⟩, ⟨by (try simp only [hl8_3]); (with_reducible repeat (first | apply Kd.S_alloc | apply Kd.S_drewN | apply Kd.S_drew)); exact Kd.S_mono HO371.out (fun _ hk => hk.1)⟩, ⟨by (try simp only [hl8_3]); (with_reducible repeat (first | apply Kd.R_alloc | apply Kd.R_drewN | apply Kd.R_drew)); exact Kd.R_mono HO_8.out (fun _ hk => trivial)⟩, ⟨by (try simp only [hl8_3]); (with_reducible repeat (first | refine blk_drewN ?_ _ | refine blk_drew ?_ | refine blk_alloc ?_ _)); exact BK349.out⟩, ⟨bD HB GE349 GE362⟩⟩
             · rw [if_neg c39] at H
               exact absurd H (by simp)
       · rw [if_neg c18] at H
         have c18b0 : decide (x24_2 < a1) = false := decide_eq_false c18
         clear c18
         simp only [Option.some.injEq, Prod.mk.injEq] at H
         obtain ⟨rfl, rfl, rfl⟩ := H
         go_wp2
         go_ret3
         exact ⟨_, _, eW, by (with_reducible repeat (first | apply Kd.S_alloc | apply Kd.S_drewN | apply Kd.S_drew)); exact HO_7.out, by (with_reducible repeat (first | apply Kd.R_alloc | apply Kd.R_drewN | apply Kd.R_drew)); exact HO_8.out, bC HB GE349⟩

-- NOT PRINTED: function 12 (laws_FnExactBoostRounds)

end Go.Proofs.Ytfkfahdikmfpeaa.PFnExactBoostRounds
