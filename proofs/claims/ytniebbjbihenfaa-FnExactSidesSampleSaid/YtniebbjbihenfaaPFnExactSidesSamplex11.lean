-- Printed by wip/tools/myprint.py (the printer of the kit, patched by that program; roots chosen by it)
import Derived.Test.YtniebbjbihenfaaPFnExactSidesSamplex0
import Derived.Test.YtniebbjbihenfaaPFnExactSidesSamplex9
import Derived.Test.YtniebbjbihenfaaPFnExactSidesSamplex10
import Derived.Test.YtniebbjbihenfaaSh
namespace Go.Proofs.Ytniebbjbihenfaa.PFnExactSidesSample
open Go.RowKit Go.Proofs.Ytniebbjbihenfaa.Sh Go.Proofs.YtniebbjbihenfaaW.PrintWords Go.Proofs.YtniebbjbihenfaaW.PrintLast Go.Proofs.YtniebbjbihenfaaW.PrintMore
attribute [local go_sem] max2_int min2_int max_two min_two max_three min_three max_four min_four   -- for this text's walks alone
set_option linter.unusedVariables false
set_option linter.unusedSimpArgs false

/-! ### impl_SidesSample: function 48 -/
mutual
def impl_SidesSample.j0 : Nat → List (S42) → Bool → List (List Int) → List Int → Option ((List (List Int)) × List Int × Bool)
 | 0, _, _, _, _ => none
 | k + 1, x1, x27, x254000, x254001 => if x27 = true then (some (([] : List (List Int)), ([] : List Int), false)) else ((impl_copied.f x254001).bind fun t258 => (impl_SidesSample.l0 k x1 x254000 (x254000.length : Int) 0 ([] : List (List Int)) t258))
def impl_SidesSample.l0 : Nat → List (S42) → List (List Int) → Int → Int → List (List Int) → List Int → Option ((List (List Int)) × List Int × Bool)
 | 0, _, _, _, _, _, _ => none
 | k + 1, x1, x34, x35, x36, x262000, x262001 => if x36 < x35 then (if 0 ≤ x36 then (if x36 < (x34.length : Int) then (impl_SidesSample.l1 k x1 (rd_L1 x34 x36) (([] : List Int)) x34 x35 x36 x1 (x1.length : Int) 0 x262000 x262001) else (none)) else (none)) else (some (x262000, x262001, true))
def impl_SidesSample.l1 : Nat → List (S42) → List Int → List Int → List (List Int) → Int → Int → List (S42) → Int → Int → List (List Int) → List Int → Option ((List (List Int)) × List Int × Bool)
 | 0, _, _, _, _, _, _, _, _, _, _, _ => none
 | k + 1, x1, x8, x9, x34, x35, x36, x41, x42, x43, x262000, x262001 => if x43 < x42 then (if 0 ≤ x43 then (if x43 < (x41.length : Int) then ((impl_Plane_side.f k ((rd_T42 x41 x43).f0) ((rd_T42 x41 x43).f1) x8).bind fun t268 => (if x9.length < 17592186044416 then (impl_SidesSample.l1 k x1 x8 (x9 ++ [t268]) x34 x35 x36 x41 x42 (wrap64 (x43 + 1)) x262000 x262001) else (none))) else (none)) else (none)) else (if x262000.length < 5864062014805 then (impl_SidesSample.l0 k x1 x34 x35 (wrap64 (x36 + 1)) (x262000 ++ [x9]) x262001) else (none))
end
def impl_SidesSample.f (k : Nat) (l0_0 : List (List Int)) (l0_1 : List Int) (l1 : List (S42)) : Option ((List (List Int)) × List Int × Bool) := (impl_isJury.f k l1).bind fun t255 => (if t255 = true then (if (l1.length : Int) > 4 then (impl_SidesSample.j0 k l1 true l0_0 l0_1) else (if 0 < (l1.length : Int) then ((impl_suits.f k l0_0 l0_1 ((rd_T42 l1 0).f0) ((rd_T42 l1 0).f1)).bind fun t257 => (impl_SidesSample.j0 k l1 (!t257) l0_0 l0_1)) else (none))) else (impl_SidesSample.j0 k l1 true l0_0 l0_1))
def impl_SidesSample.T1 : Bool × List (List Nat × List Nat) := (true, [([], []), ([0], [0]), ([1], [1]), ([2, 1], [2]), ([3], [3]), ([4, 3], [3, 4]), ([5, 3], [3, 5]), ([3, 6], [3, 6]), ([7, 3], [7]), ([8], [8]), ([8], [8]), ([10, 8], [8, 10]), ([11, 8], [8, 11]), ([9, 12, 8, 8], [8, 9, 12]), ([13, 8], [8, 13]), ([8, 14], [8, 14])])
def impl_SidesSample.B1 : List Nat := [0, 1, 3, 7, 15, 31, 63, 127, 255, 511, 511, 1535, 3583, 8191, 16383, 32767]
theorem impl_SidesSample.tab1 : rtab .any (opsOf Try.f48 1) = impl_SidesSample.T1 := by kernel_rfl
theorem impl_SidesSample.bits1 : waitsOk impl_SidesSample.T1.2 impl_SidesSample.B1 = true := by kernel_rfl
set_option maxHeartbeats 8000000 in
set_option maxRecDepth 100000 in
theorem impl_SidesSample.calls (k : Nat) (A0_0 : Option Addr) (c0_0 : Nat) (l0_0 : List (List Int)) (A0_1 : Option Addr) (c0_1 : Nat) (l0_1 : List Int) (A1 : Option Addr) (c1 : Nat) (l1 : List (S42)) (r1 : List (List Int)) (r2 : List Int) (r3 : Bool) (w : World) (hr0_0 : Kd.C (Kd.slice 3 (Kd.int .i64)) w A0_0 l0_0.length l0_0) (hc0_0 : l0_0.length ≤ c0_0) (hr0_1 : Kd.C (Kd.int .i64) w A0_1 l0_1.length l0_1) (hc0_1 : l0_1.length ≤ c0_1) (hr1 : Kd.C k42 w A1 l1.length l1) (hc1 : l1.length ≤ c1) (h : impl_SidesSample.f k l0_0 l0_1 l1 = some (r1, r2, r3)) :
 Calls Try.prog 48 #[.agg #[.slice A0_0 l0_0.length c0_0, .slice A0_1 l0_1.length c0_1], .slice A1 l1.length c1] w fun e w' => ∃ v0_ v1_ : Value, e = .returned (.tuple #[.agg #[v0_, v1_], .bool r3]) ∧ Kd.S (Kd.slice 3 (Kd.int .i64)) 23 w' w.heap.size (fun k_ => some k_ ≠ (v1_ : Value).ownBlock) v0_ r1 ∧ Kd.R (Kd.int .i64) 3 w' w.heap.size (fun _ => True) v1_ r2 ∧ Below w.heap.size w w' := by
 have hu29 := Try.underlying29
 have hu42 := Try.underlying42
 have HR0_0 := Aside0.mk hr0_0
 have HC0_0 := Aside0.mk hc0_0
 clear hr0_0 hc0_0
 have HR0_1 := Aside0.mk hr0_1
 have HC0_1 := Aside0.mk hc0_1
 clear hr0_1 hc0_1
 have HR1 := Aside0.mk hr1
 have HC1 := Aside0.mk hc1
 clear hr1 hc1
 have HB := Aside0.mk (Below.refl w.heap.size w)
 have H : ((impl_isJury.f k l1).bind fun t255 => (if t255 = true then (if (l1.length : Int) > 4 then (impl_SidesSample.j0 k l1 true l0_0 l0_1) else (if 0 < (l1.length : Int) then ((impl_suits.f k l0_0 l0_1 ((rd_T42 l1 0).f0) ((rd_T42 l1 0).f1)).bind fun t257 => (impl_SidesSample.j0 k l1 (!t257) l0_0 l0_1)) else (none))) else (impl_SidesSample.j0 k l1 true l0_0 l0_1))) = some (r1, r2, r3) := h
 clear h
 have HC3 := Aside0.mk H
 clear H
 go_enter Try.func48, Try.ntmps48
 go_upto_region 1 with (first | ((with_reducible refine gate_dst (N := 2) rfl ?_); refine box_event ?hg (N := 2) ?hd (cs := #[.slice A0_0 l0_0.length c0_0, .slice A0_1 l0_1.length c0_1]) (t := 29) ?hr ?_; (case hd => rfl); (case hg => rfl); (case hr => first | (go_simp; done) | (go_simp; rfl)); intro gb253 hg w4 hbox hb; have n0_ := Aside0.mk (below_step (bB HB) hb); have n1_ := Aside0.mk (hbox); have n2_ := Aside0.mk ((by rw [hg]; exact (below_size (bB HB)) : w.heap.size ≤ gb253)); have n3_ := Aside0.mk ((by rw [hg]; exact (below_size (bB HB)) : w.heap.size ≤ gb253)); clear HB; have HB := n0_; have BK253 := n1_; have GW253 := n2_; have GE253 := n3_; clear n0_ n1_ n2_ n3_; clear hb hbox hg) | ((with_reducible refine gate_dst (N := 4) rfl ?_); refine box_event ?hg (N := 4) ?hd (cs := #[.slice none 0 0, .slice none 0 0]) (t := 29) ?hr ?_; (case hd => rfl); (case hg => rfl); (case hr => first | (go_simp; done) | (go_simp; rfl)); intro gb254 hg w5 hbox hb; have n0_ := Aside0.mk (blk_below (g := gb253) (o := .cells #[.slice A0_0 l0_0.length c0_0, .slice A0_1 l0_1.length c0_1] 29 (0, 0)) (pB BK253) hb); have n1_ := Aside0.mk (below_step (bC HB GE253) hb); have n2_ := Aside0.mk (hbox); have n3_ := Aside0.mk ((by rw [hg]; exact (below_size (bC HB GE253)) : w.heap.size ≤ gb254)); have n4_ := Aside0.mk ((by rw [hg]; exact (below_size (bC HB GE253)) : w.heap.size ≤ gb254)); have n5_ := Aside0.mk ((by rw [hg]; exact Nat.ne_of_lt (blk_lt (g := gb253) (o := .cells #[.slice A0_0 l0_0.length c0_0, .slice A0_1 l0_1.length c0_1] 29 (0, 0)) (pB BK253)) : gb253 ≠ gb254)); have n6_ := Aside0.mk ((by rw [hg]; exact Nat.ne_of_gt (blk_lt (g := gb253) (o := .cells #[.slice A0_0 l0_0.length c0_0, .slice A0_1 l0_1.length c0_1] 29 (0, 0)) (pB BK253)) : gb254 ≠ gb253)); clear BK253; clear HB; have BK253 := n0_; have HB := n1_; have BK254 := n2_; have GW254 := n3_; have GE254 := n4_; have NB253_254 := n5_; have NB254_253 := n6_; clear n0_ n1_ n2_ n3_ n4_ n5_ n6_; clear hb hbox hg))
 (try simp only [Act.put, List.setIfInBounds_toArray, List.set_cons_zero, List.set_cons_succ])
 go_cut [27] (fun v27 wc => ∃ (kq : Nat) (x27_2 : Bool), v27 = .bool x27_2 ∧ Aside0 (impl_SidesSample.j0 kq l1 x27_2 l0_0 l0_1 = some (r1, r2, r3)) ∧ Aside0 (kq ≤ k) ∧ Aside0 (wc.heap[gb253]? = some (.cells #[(.slice A0_0 l0_0.length c0_0), (.slice A0_1 l0_1.length c0_1)] 29 (0, 0))) ∧ Aside0 (wc.heap[gb254]? = some (.cells #[(.slice none 0 0), (.slice none 0 0)] 29 (0, 0))) ∧ Aside0 (Below w.heap.size w wc))
 case first =>
  have H := HC3.out
  clear HC3
  replace H := Option.bind_eq_some_iff.mp H
  obtain ⟨t255, A60, H⟩ := H
  replace H : (if t255 = true then (if (l1.length : Int) > 4 then (impl_SidesSample.j0 k l1 true l0_0 l0_1) else (if 0 < (l1.length : Int) then ((impl_suits.f k l0_0 l0_1 ((rd_T42 l1 0).f0) ((rd_T42 l1 0).f1)).bind fun t257 => (impl_SidesSample.j0 k l1 (!t257) l0_0 l0_1)) else (none))) else (impl_SidesSample.j0 k l1 true l0_0 l0_1)) = some (r1, r2, r3) := H
  have A6 := Aside0.mk A60
  clear A60
  by_cases c7 : t255 = true
  · subst c7
    have H1 : (if (l1.length : Int) > 4 then (impl_SidesSample.j0 k l1 true l0_0 l0_1) else (if 0 < (l1.length : Int) then ((impl_suits.f k l0_0 l0_1 ((rd_T42 l1 0).f0) ((rd_T42 l1 0).f1)).bind fun t257 => (impl_SidesSample.j0 k l1 (!t257) l0_0 l0_1)) else (none))) = some (r1, r2, r3) := by rw [if_pos rfl] at H; exact H
    clear H
    have H := H1
    clear H1
    by_cases c8 : (l1.length : Int) > 4
    · rw [if_pos c8] at H
      have c8b0 : decide (4 < (l1.length : Int)) = true := decide_eq_true c8
      have c8b1 : decide (4 < l1.length) = true := decide_eq_true (by omega)
      clear c8
      (first | rw [c8b0] | (simp only [i64_w, i32_w]; rw [c8b0]) | skip)
      have H' := Aside0.mk H
      clear H
      try go_wp2
      have n0_ := Aside0.mk (blk_drew BK253.out)
      have n1_ := Aside0.mk (blk_drew BK254.out)
      have n2_ := Aside0.mk (below_drew1 HB.out)
      clear BK253
      clear BK254
      clear HB
      have BK253 := n0_
      have BK254 := n1_
      have HB := n2_
      clear n0_ n1_ n2_
      refine start_ (n := 16) (S := fun w' => True) (ds := []) #[false, false, false, false, false, false, false, false, false, false, false, false, false, false, false, false] (by kernel_rfl) rfl rfl trivial (fun hHeld => ?_); refine with_tabW impl_SidesSample.tab1 impl_SidesSample.bits1 (fun HT_ HW_ => ?_)
      generalize w5.drew = w9 at BK253 BK254 HB hHeld ⊢
      refine pure_ (i := 0) (N := some 12) (v := ?_) (a' := ?_) #[true, false, false, false, false, false, false, false, false, false, false, false, false, false, false, false] rfl rfl (any_of HT_.out (by kernel_rfl)) (fun _ _ _ h => h) (Or.inl ⟨by rfl, ?_⟩) ?_ ?_
      rotate_left
      · intro w'
        go_simp
        with_reducible rfl
      rotate_left
      · exact aP
      refine one_ (i := 1) (N := some 13) #[true, true, false, false, false, false, false, false, false, false, false, false, false, false, false, false] rfl rfl (one_of HT_.out (by kernel_rfl)) (by decide) (fun K hK => ?_)
      refine goes_ Try.func106 (by kernel_rfl) rfl #[.slice A1 l1.length c1] (by rfl) rfl rfl aT ?_
      with_reducible refine (impl_isJury.calls k _ _ l1 true _ ?side1 ?side2 A6.out).mono ?_
      (case side1 => exact cB HR1 HB)
      (case side2 => exact HC1.out)
      rintro e w10 ⟨rfl, hb⟩
      refine ⟨_, rfl, ?_⟩
      have n0_ := Aside0.mk (blk_below (g := gb253) (o := .cells #[.slice A0_0 l0_0.length c0_0, .slice A0_1 l0_1.length c0_1] 29 (0, 0)) (pB BK253) hb)
      have n1_ := Aside0.mk (blk_below (g := gb254) (o := .cells #[.slice none 0 0, .slice none 0 0] 29 (0, 0)) (pB BK254) hb)
      have n2_ := Aside0.mk (below_step (bD HB GE253 GE254) hb)
      clear BK253
      clear BK254
      clear HB
      have BK253 := n0_
      have BK254 := n1_
      have HB := n2_
      clear n0_ n1_ n2_
      (try clear hb)
      (try clear hb2)
      (try clear hk)
      (try clear hi)
      refine hK.out _ _ trivial (fun hHeld => ?_)
      clear hK K
      refine norm_ (a' := ?_) ?_ ?_
      rotate_left
      · show Act.put _ (some 13) _ = _
        simp only [Act.put, List.setIfInBounds_toArray, List.set_cons_zero, List.set_cons_succ, i64_w, i32_w]
        rfl
      refine pure_ (i := 2) (N := some 14) (v := ?_) (a' := ?_) #[true, true, true, false, false, false, false, false, false, false, false, false, false, false, false, false] rfl rfl (any_of HT_.out (by kernel_rfl)) (fun _ _ _ h => h) (Or.inl ⟨by rfl, ?_⟩) ?_ ?_
      rotate_left
      · intro w'
        go_simp
        with_reducible rfl
      rotate_left
      · exact aP
      refine pure_ (i := 3) (N := some 15) (v := ?_) (a' := ?_) #[true, true, true, true, false, false, false, false, false, false, false, false, false, false, false, false] rfl rfl (any_of HT_.out (by kernel_rfl)) (fun _ _ _ h => h) (Or.inl ⟨by rfl, ?_⟩) ?_ ?_
      rotate_left
      · intro w'
        go_simp
        with_reducible rfl
      rotate_left
      · exact aP
      refine pure_ (i := 4) (N := some 16) (v := ?_) (a' := ?_) #[true, true, true, true, true, false, false, false, false, false, false, false, false, false, false, false] rfl rfl (any_of HT_.out (by kernel_rfl)) (fun _ _ _ h => h) (Or.inl ⟨by rfl, ?_⟩) ?_ ?_
      rotate_left
      · intro w'
        go_simp
        with_reducible rfl
      rotate_left
      · exact aP
      refine pure_ (i := 5) (N := some 17) (v := ?_) (a' := ?_) #[true, true, true, true, true, true, false, false, false, false, false, false, false, false, false, false] rfl rfl (any_of HT_.out (by kernel_rfl)) (fun _ _ _ h => h) (Or.inl ⟨by rfl, ?_⟩) ?_ ?_
      rotate_left
      · intro w'
        go_simp
        with_reducible rfl
      rotate_left
      · exact aP
      refine pure_ (i := 6) (N := some 18) (v := ?_) (a' := ?_) #[true, true, true, true, true, true, true, false, false, false, false, false, false, false, false, false] rfl rfl (any_of HT_.out (by kernel_rfl)) (fun _ _ _ h => h) (Or.inl ⟨by rfl, ?_⟩) ?_ ?_
      rotate_left
      · intro w'
        go_simp
        with_reducible rfl
      rotate_left
      · exact aP
      refine pure_ (i := 7) (N := some 19) (v := ?_) (a' := ?_) #[true, true, true, true, true, true, true, true, false, false, false, false, false, false, false, false] rfl rfl (any_of HT_.out (by kernel_rfl)) (fun _ _ _ h => h) (Or.inl ⟨by rfl, ?_⟩) ?_ ?_
      rotate_left
      · intro w'
        go_simp
        with_reducible rfl
      rotate_left
      · exact aP
      refine pure_ (i := 8) (N := some 20) (v := ?_) (a' := ?_) #[true, true, true, true, true, true, true, true, true, false, false, false, false, false, false, false] rfl rfl (any_of HT_.out (by kernel_rfl)) (fun _ _ _ h => h) (Or.inl ⟨by rfl, ?_⟩) ?_ ?_
      rotate_left
      · intro w'
        go_simp
        with_reducible rfl
      rotate_left
      · exact aP
      refine pure_ (i := 9) (N := some 21) (v := undef) (a' := ?_) #[true, true, true, true, true, true, true, true, true, true, false, false, false, false, false, false] rfl rfl (any_of HT_.out (by kernel_rfl)) (fun _ _ _ h => h) (Or.inr ⟨by rfl, rfl⟩) ?_ ?_
      rotate_left
      · exact aP
      refine pure_ (i := 10) (N := some 22) (v := undef) (a' := ?_) #[true, true, true, true, true, true, true, true, true, true, true, false, false, false, false, false] rfl rfl (any_of HT_.out (by kernel_rfl)) (fun _ _ _ h => h) (Or.inr ⟨by rfl, rfl⟩) ?_ ?_
      rotate_left
      · exact aP
      refine pure_ (i := 11) (N := some 23) (v := undef) (a' := ?_) #[true, true, true, true, true, true, true, true, true, true, true, true, false, false, false, false] rfl rfl (any_of HT_.out (by kernel_rfl)) (fun _ _ _ h => h) (Or.inr ⟨by rfl, rfl⟩) ?_ ?_
      rotate_left
      · exact aP
      refine pure_ (i := 12) (N := some 24) (v := undef) (a' := ?_) #[true, true, true, true, true, true, true, true, true, true, true, true, true, false, false, false] rfl rfl (any_of HT_.out (by kernel_rfl)) (fun _ _ _ h => h) (Or.inr ⟨by rfl, rfl⟩) ?_ ?_
      rotate_left
      · exact aP
      refine pure_ (i := 13) (N := some 25) (v := undef) (a' := ?_) #[true, true, true, true, true, true, true, true, true, true, true, true, true, true, false, false] rfl rfl (any_of HT_.out (by kernel_rfl)) (fun _ _ _ h => h) (Or.inr ⟨by rfl, rfl⟩) ?_ ?_
      rotate_left
      · exact aP
      refine pure_ (i := 14) (N := some 26) (v := undef) (a' := ?_) #[true, true, true, true, true, true, true, true, true, true, true, true, true, true, true, false] rfl rfl (any_of HT_.out (by kernel_rfl)) (fun _ _ _ h => h) (Or.inr ⟨by rfl, rfl⟩) ?_ ?_
      rotate_left
      · exact aP
      refine pure_ (i := 15) (N := some 27) (v := ?_) (a' := ?_) #[true, true, true, true, true, true, true, true, true, true, true, true, true, true, true, true] rfl rfl (any_of HT_.out (by kernel_rfl)) (fun _ _ _ h => h) (Or.inl ⟨by rfl, ?_⟩) ?_ ?_
      rotate_left
      · intro w'
        go_simp
        with_reducible rfl
      rotate_left
      · exact aP
      refine done_ (done_of HT_.out (by kernel_rfl)) ?_
      try go_wp2
      go_meet
      case rel => exact ⟨_, (true), rD, H', ⟨by first | omega | exact Nat.le_refl _⟩, ⟨pB BK253⟩, ⟨pB BK254⟩, ⟨bD HB GE253 GE254⟩⟩
    · rw [if_neg c8] at H
      have c8b0 : decide (4 < (l1.length : Int)) = false := decide_eq_false c8
      have c8b1 : decide (4 < l1.length) = false := decide_eq_false (by omega)
      clear c8
      (first | rw [c8b0] | (simp only [i64_w, i32_w]; rw [c8b0]) | skip)
      by_cases c11 : 0 < (l1.length : Int)
      · rw [if_pos c11] at H
        have c11b0 : decide (0 < (l1.length : Int)) = true := decide_eq_true c11
        have c11b1 : decide (0 < l1.length) = true := decide_eq_true (by omega)
        clear c11
        replace H := Option.bind_eq_some_iff.mp H
        obtain ⟨t257, A120, H⟩ := H
        replace H : (impl_SidesSample.j0 k l1 (!t257) l0_0 l0_1) = some (r1, r2, r3) := H
        have A12 := Aside0.mk A120
        clear A120
        have H' := Aside0.mk H
        clear H
        try go_wp2
        have n0_ := Aside0.mk (blk_drew BK253.out)
        have n1_ := Aside0.mk (blk_drew BK254.out)
        have n2_ := Aside0.mk (below_drew1 HB.out)
        clear BK253
        clear BK254
        clear HB
        have BK253 := n0_
        have BK254 := n1_
        have HB := n2_
        clear n0_ n1_ n2_
        have p256 : 0 ≤ (0 : Int) := (by omega)
        have q256 : 0 < (l1.length : Int) := of_decide_eq_true aS
        obtain ⟨ad256, A256_0, c256_0, e256, hx256_0, hx256_1, hl256_0, hi256_0⟩ := at_T42 HR1.out 0 p256 q256
        have hw256_1 := hx256_1
        (try rw [show ((0 : Int)).toNat = 0 from rfl] at hw256_1)
        (try rw [show 0 * 2 = 0 from rfl] at hw256_1)
        (try rw [Addr.add_zero'] at hw256_1)
        have hw256_0 := hx256_0
        (try rw [show ((0 : Int)).toNat = 0 from rfl] at hw256_0)
        (try rw [show 0 * 2 = 0 from rfl] at hw256_0)
        (try rw [Addr.add_zero'] at hw256_0)
        cases e256
        have qi256 : (0 < l1.length) = True := eq_true (by omega)
        (try rw [show ((0 : Int)).toNat = 0 from rfl] at hx256_0)
        (try rw [show 0 * 2 = 0 from rfl] at hx256_0)
        (try rw [Addr.add_zero'] at hx256_0)
        (try rw [show ((0 : Int)).toNat = 0 from rfl] at hx256_1)
        (try rw [show 0 * 2 = 0 from rfl] at hx256_1)
        (try rw [Addr.add_zero'] at hx256_1)
        replace hx256_0 := (HB.out.cell (World.block_lt_of_cell? w _ hx256_0)).trans hx256_0
        replace hx256_1 := (HB.out.cell (World.block_lt_of_cell? w _ hx256_1)).trans hx256_1
        have HR256_0 := Aside0.mk hi256_0
        have HC256_0 := Aside0.mk hl256_0
        clear hi256_0 hl256_0
        replace p256 := eq_true p256
        replace q256 := eq_true q256
        refine start_ (n := 16) (S := fun w' => w'.cell? ⟨gb253, 0, none⟩ = some (.slice A0_0 l0_0.length c0_0) ∧ w'.cell? ⟨gb253, 1, none⟩ = some (.slice A0_1 l0_1.length c0_1) ∧ w'.cell? ad256 = some (.slice A256_0 ((rd_T42 l1 0).f0).length c256_0) ∧ w'.cell? ⟨ad256.block, ad256.off + 1, none⟩ = some (.int .i64 ((rd_T42 l1 0).f1))) (ds := []) #[false, false, false, false, false, false, false, false, false, false, false, false, false, false, false, false] (by kernel_rfl) rfl rfl ⟨(blk_cell BK253.out 0).trans rfl, (blk_cell BK253.out 1).trans rfl, ((HB.out.cell (World.block_lt_of_cell? w _ hw256_0)).trans hw256_0), ((HB.out.cell (World.block_lt_of_cell? w _ hw256_1)).trans hw256_1)⟩ (fun hHeld => ?_); refine with_tabW impl_SidesSample.tab1 impl_SidesSample.bits1 (fun HT_ HW_ => ?_)
        generalize w5.drew = w13 at BK253 BK254 HB HR256_0 hx256_0 hx256_1 hHeld ⊢
        refine pure_ (i := 0) (N := some 12) (v := ?_) (a' := ?_) #[true, false, false, false, false, false, false, false, false, false, false, false, false, false, false, false] rfl rfl (any_of HT_.out (by kernel_rfl)) (fun _ _ _ h => h) (Or.inl ⟨by rfl, ?_⟩) ?_ ?_
        rotate_left
        · intro w'
          go_simp
          with_reducible rfl
        rotate_left
        · exact aP
        refine one_ (i := 1) (N := some 13) #[true, true, false, false, false, false, false, false, false, false, false, false, false, false, false, false] rfl rfl (one_of HT_.out (by kernel_rfl)) (by decide) (fun K hK => ?_)
        refine goes_ Try.func106 (by kernel_rfl) rfl #[.slice (some ad256) l1.length c1] (by rfl) rfl rfl aT ?_
        with_reducible refine (impl_isJury.calls k _ _ l1 true _ ?side1 ?side2 A6.out).mono ?_
        (case side1 => exact cB HR1 HB)
        (case side2 => exact HC1.out)
        rintro e w14 ⟨rfl, hb⟩
        refine ⟨_, rfl, ?_⟩
        have n0_ := Aside0.mk (blk_below (g := gb253) (o := .cells #[.slice A0_0 l0_0.length c0_0, .slice A0_1 l0_1.length c0_1] 29 (0, 0)) (pB BK253) hb)
        have n1_ := Aside0.mk (blk_below (g := gb254) (o := .cells #[.slice none 0 0, .slice none 0 0] 29 (0, 0)) (pB BK254) hb)
        have n2_ := Aside0.mk (below_step (bD HB GE253 GE254) hb)
        clear BK253
        clear BK254
        clear HB
        have BK253 := n0_
        have BK254 := n1_
        have HB := n2_
        clear n0_ n1_ n2_
        (try clear hb)
        (try clear hb2)
        (try clear hk)
        (try clear hi)
        refine hK.out _ _ ⟨(blk_cell BK253.out 0).trans rfl, (blk_cell BK253.out 1).trans rfl, ((HB.out.cell (World.block_lt_of_cell? w _ hw256_0)).trans hw256_0), ((HB.out.cell (World.block_lt_of_cell? w _ hw256_1)).trans hw256_1)⟩ (fun hHeld => ?_)
        clear hK K
        refine norm_ (a' := ?_) ?_ ?_
        rotate_left
        · show Act.put _ (some 13) _ = _
          simp only [Act.put, List.setIfInBounds_toArray, List.set_cons_zero, List.set_cons_succ, i64_w, i32_w]
          rfl
        refine pure_ (i := 2) (N := some 14) (v := ?_) (a' := ?_) #[true, true, true, false, false, false, false, false, false, false, false, false, false, false, false, false] rfl rfl (any_of HT_.out (by kernel_rfl)) (fun _ _ _ h => h) (Or.inl ⟨by rfl, ?_⟩) ?_ ?_
        rotate_left
        · intro w'
          go_simp
          with_reducible rfl
        rotate_left
        · exact aP
        refine pure_ (i := 3) (N := some 15) (v := ?_) (a' := ?_) #[true, true, true, true, false, false, false, false, false, false, false, false, false, false, false, false] rfl rfl (any_of HT_.out (by kernel_rfl)) (fun _ _ _ h => h) (Or.inl ⟨by rfl, ?_⟩) ?_ ?_
        rotate_left
        · intro w'
          go_simp
          with_reducible rfl
        rotate_left
        · exact aP
        refine pure_ (i := 4) (N := some 16) (v := ?_) (a' := ?_) #[true, true, true, true, true, false, false, false, false, false, false, false, false, false, false, false] rfl rfl (any_of HT_.out (by kernel_rfl)) (fun _ _ _ h => h) (Or.inl ⟨by rfl, ?_⟩) ?_ ?_
        rotate_left
        · intro w'
          go_simp
          with_reducible rfl
        rotate_left
        · exact aP
        refine pure_ (i := 5) (N := some 17) (v := ?_) (a' := ?_) #[true, true, true, true, true, true, false, false, false, false, false, false, false, false, false, false] rfl rfl (any_of HT_.out (by kernel_rfl)) (fun _ _ _ h => h) (Or.inl ⟨by rfl, ?_⟩) ?_ ?_
        rotate_left
        · intro w'
          go_simp
          with_reducible rfl
        rotate_left
        · exact aP
        refine pure_ (i := 6) (N := some 18) (v := ?_) (a' := ?_) #[true, true, true, true, true, true, true, false, false, false, false, false, false, false, false, false] rfl rfl (any_of HT_.out (by kernel_rfl)) (fun _ _ _ h => h) (Or.inl ⟨by rfl, ?_⟩) ?_ ?_
        rotate_left
        · intro w'
          go_simp
          with_reducible rfl
        rotate_left
        · exact aP
        refine pure_ (i := 7) (N := some 19) (v := ?_) (a' := ?_) #[true, true, true, true, true, true, true, true, false, false, false, false, false, false, false, false] rfl rfl (any_of HT_.out (by kernel_rfl)) (fun _ _ _ h => h) (Or.inl ⟨by rfl, ?_⟩) ?_ ?_
        rotate_left
        · intro w'
          go_simp
          with_reducible rfl
        rotate_left
        · exact aP
        refine pure_ (i := 8) (N := some 20) (v := ?_) (a' := ?_) #[true, true, true, true, true, true, true, true, true, false, false, false, false, false, false, false] rfl rfl (any_of HT_.out (by kernel_rfl)) (fun _ _ _ h => h) (Or.inl ⟨by rfl, ?_⟩) ?_ ?_
        rotate_left
        · intro w'
          go_simp
          with_reducible rfl
        rotate_left
        · exact aP
        refine pure_ (i := 10) (N := some 22) (v := ?_) (a' := ?_) #[true, true, true, true, true, true, true, true, true, false, true, false, false, false, false, false] rfl rfl (any_of HT_.out (by kernel_rfl)) (fun _ _ _ h => h) (Or.inl ⟨by rfl, ?_⟩) ?_ ?_
        rotate_left
        · intro w'
          go_simp
          with_reducible rfl
        rotate_left
        · exact aP
        refine pure_ (i := 11) (N := some 23) (v := ?_) (a' := ?_) #[true, true, true, true, true, true, true, true, true, false, true, true, false, false, false, false] rfl rfl (any_of HT_.out (by kernel_rfl)) (fun _ _ _ h => h) (Or.inl ⟨by rfl, ?_⟩) ?_ ?_
        rotate_left
        · intro w'
          go_simp
          with_reducible rfl
        rotate_left
        · exact aP
        refine take_ (i := 9) (N := some 21) (v := ?_) (a' := ?_) #[true, true, true, true, true, true, true, true, true, true, true, true, false, false, false, false] rfl rfl (take_ofW HT_.out HW_.out (by kernel_rfl)) (fun _ _ _ h => h) (Or.inl ⟨by rfl, ?_⟩) hHeld ?_ ?_
        rotate_left
        · rintro w' ⟨s0, s1, s2, s3⟩
          go_simp
          with_reducible rfl
        rotate_left
        · exact aP
        refine take_ (i := 12) (N := some 24) (v := ?_) (a' := ?_) #[true, true, true, true, true, true, true, true, true, true, true, true, true, false, false, false] rfl rfl (take_ofW HT_.out HW_.out (by kernel_rfl)) (fun _ _ _ h => h) (Or.inl ⟨by rfl, ?_⟩) hHeld ?_ ?_
        rotate_left
        · rintro w' ⟨s0, s1, s2, s3⟩
          go_simp
          with_reducible rfl
        rotate_left
        · exact aP
        refine one_ (i := 13) (N := some 25) #[true, true, true, true, true, true, true, true, true, true, true, true, true, true, false, false] rfl rfl (one_of HT_.out (by kernel_rfl)) (by decide) (fun K hK => ?_)
        refine goes_ Try.func76 (by kernel_rfl) rfl #[.agg #[.slice A0_0 l0_0.length c0_0, .slice A0_1 l0_1.length c0_1], .agg #[.slice A256_0 ((rd_T42 l1 0).f0).length c256_0, .int .i64 ((rd_T42 l1 0).f1)]] (by rfl) rfl rfl aT ?_
        with_reducible refine (impl_suits.calls k _ _ l0_0 _ _ l0_1 _ _ ((rd_T42 l1 0).f0) ((rd_T42 l1 0).f1) t257 _ ?side1 ?side2 ?side3 ?side4 ?side5 ?side6 A12.out).mono ?_
        (case side1 => exact cB HR0_0 HB)
        (case side2 => exact HC0_0.out)
        (case side3 => exact cB HR0_1 HB)
        (case side4 => exact HC0_1.out)
        (case side5 => exact cB HR256_0 HB)
        (case side6 => exact HC256_0.out)
        rintro e w15 ⟨rfl, hb⟩
        refine ⟨_, rfl, ?_⟩
        have n0_ := Aside0.mk (blk_below (g := gb253) (o := .cells #[.slice A0_0 l0_0.length c0_0, .slice A0_1 l0_1.length c0_1] 29 (0, 0)) (pB BK253) hb)
        have n1_ := Aside0.mk (blk_below (g := gb254) (o := .cells #[.slice none 0 0, .slice none 0 0] 29 (0, 0)) (pB BK254) hb)
        have n2_ := Aside0.mk (below_step (bD HB GE253 GE254) hb)
        clear BK253
        clear BK254
        clear HB
        have BK253 := n0_
        have BK254 := n1_
        have HB := n2_
        clear n0_ n1_ n2_
        (try clear hb)
        (try clear hb2)
        (try clear hk)
        (try clear hi)
        refine hK.out _ _ ⟨(blk_cell BK253.out 0).trans rfl, (blk_cell BK253.out 1).trans rfl, ((HB.out.cell (World.block_lt_of_cell? w _ hw256_0)).trans hw256_0), ((HB.out.cell (World.block_lt_of_cell? w _ hw256_1)).trans hw256_1)⟩ (fun hHeld => ?_)
        clear hK K
        refine norm_ (a' := ?_) ?_ ?_
        rotate_left
        · show Act.put _ (some 25) _ = _
          simp only [Act.put, List.setIfInBounds_toArray, List.set_cons_zero, List.set_cons_succ, i64_w, i32_w]
          rfl
        refine pure_ (i := 14) (N := some 26) (v := ?_) (a' := ?_) #[true, true, true, true, true, true, true, true, true, true, true, true, true, true, true, false] rfl rfl (any_of HT_.out (by kernel_rfl)) (fun _ _ _ h => h) (Or.inl ⟨by rfl, ?_⟩) ?_ ?_
        rotate_left
        · intro w'
          go_simp
          with_reducible rfl
        rotate_left
        · exact aP
        refine pure_ (i := 15) (N := some 27) (v := ?_) (a' := ?_) #[true, true, true, true, true, true, true, true, true, true, true, true, true, true, true, true] rfl rfl (any_of HT_.out (by kernel_rfl)) (fun _ _ _ h => h) (Or.inl ⟨by rfl, ?_⟩) ?_ ?_
        rotate_left
        · intro w'
          go_simp
          with_reducible rfl
        rotate_left
        · exact aP
        refine done_ (done_of HT_.out (by kernel_rfl)) ?_
        try go_wp2
        go_meet
        case rel => exact ⟨_, (!t257), rD, H', ⟨by first | omega | exact Nat.le_refl _⟩, ⟨pB BK253⟩, ⟨pB BK254⟩, ⟨bD HB GE253 GE254⟩⟩
      · rw [if_neg c11] at H
        exact absurd H (by simp)
  · replace c7 := Bool.eq_false_iff.mpr c7
    subst c7
    have H1 : (impl_SidesSample.j0 k l1 true l0_0 l0_1) = some (r1, r2, r3) := by rw [if_neg (show ¬ (false = true) by decide)] at H; exact H
    clear H
    have H := H1
    clear H1
    have H' := Aside0.mk H
    clear H
    try go_wp2
    have n0_ := Aside0.mk (blk_drew BK253.out)
    have n1_ := Aside0.mk (blk_drew BK254.out)
    have n2_ := Aside0.mk (below_drew1 HB.out)
    clear BK253
    clear BK254
    clear HB
    have BK253 := n0_
    have BK254 := n1_
    have HB := n2_
    clear n0_ n1_ n2_
    refine start_ (n := 16) (S := fun w' => True) (ds := []) #[false, false, false, false, false, false, false, false, false, false, false, false, false, false, false, false] (by kernel_rfl) rfl rfl trivial (fun hHeld => ?_); refine with_tabW impl_SidesSample.tab1 impl_SidesSample.bits1 (fun HT_ HW_ => ?_)
    generalize w5.drew = w16 at BK253 BK254 HB hHeld ⊢
    refine pure_ (i := 0) (N := some 12) (v := ?_) (a' := ?_) #[true, false, false, false, false, false, false, false, false, false, false, false, false, false, false, false] rfl rfl (any_of HT_.out (by kernel_rfl)) (fun _ _ _ h => h) (Or.inl ⟨by rfl, ?_⟩) ?_ ?_
    rotate_left
    · intro w'
      go_simp
      with_reducible rfl
    rotate_left
    · exact aP
    refine one_ (i := 1) (N := some 13) #[true, true, false, false, false, false, false, false, false, false, false, false, false, false, false, false] rfl rfl (one_of HT_.out (by kernel_rfl)) (by decide) (fun K hK => ?_)
    refine goes_ Try.func106 (by kernel_rfl) rfl #[.slice A1 l1.length c1] (by rfl) rfl rfl aT ?_
    with_reducible refine (impl_isJury.calls k _ _ l1 false _ ?side1 ?side2 A6.out).mono ?_
    (case side1 => exact cB HR1 HB)
    (case side2 => exact HC1.out)
    rintro e w17 ⟨rfl, hb⟩
    refine ⟨_, rfl, ?_⟩
    have n0_ := Aside0.mk (blk_below (g := gb253) (o := .cells #[.slice A0_0 l0_0.length c0_0, .slice A0_1 l0_1.length c0_1] 29 (0, 0)) (pB BK253) hb)
    have n1_ := Aside0.mk (blk_below (g := gb254) (o := .cells #[.slice none 0 0, .slice none 0 0] 29 (0, 0)) (pB BK254) hb)
    have n2_ := Aside0.mk (below_step (bD HB GE253 GE254) hb)
    clear BK253
    clear BK254
    clear HB
    have BK253 := n0_
    have BK254 := n1_
    have HB := n2_
    clear n0_ n1_ n2_
    (try clear hb)
    (try clear hb2)
    (try clear hk)
    (try clear hi)
    refine hK.out _ _ trivial (fun hHeld => ?_)
    clear hK K
    refine norm_ (a' := ?_) ?_ ?_
    rotate_left
    · show Act.put _ (some 13) _ = _
      simp only [Act.put, List.setIfInBounds_toArray, List.set_cons_zero, List.set_cons_succ, i64_w, i32_w]
      rfl
    refine pure_ (i := 2) (N := some 14) (v := ?_) (a' := ?_) #[true, true, true, false, false, false, false, false, false, false, false, false, false, false, false, false] rfl rfl (any_of HT_.out (by kernel_rfl)) (fun _ _ _ h => h) (Or.inl ⟨by rfl, ?_⟩) ?_ ?_
    rotate_left
    · intro w'
      go_simp
      with_reducible rfl
    rotate_left
    · exact aP
    refine pure_ (i := 3) (N := some 15) (v := ?_) (a' := ?_) #[true, true, true, true, false, false, false, false, false, false, false, false, false, false, false, false] rfl rfl (any_of HT_.out (by kernel_rfl)) (fun _ _ _ h => h) (Or.inl ⟨by rfl, ?_⟩) ?_ ?_
    rotate_left
    · intro w'
      go_simp
      with_reducible rfl
    rotate_left
    · exact aP
    refine pure_ (i := 4) (N := some 16) (v := undef) (a' := ?_) #[true, true, true, true, true, false, false, false, false, false, false, false, false, false, false, false] rfl rfl (any_of HT_.out (by kernel_rfl)) (fun _ _ _ h => h) (Or.inr ⟨by rfl, rfl⟩) ?_ ?_
    rotate_left
    · exact aP
    refine pure_ (i := 5) (N := some 17) (v := undef) (a' := ?_) #[true, true, true, true, true, true, false, false, false, false, false, false, false, false, false, false] rfl rfl (any_of HT_.out (by kernel_rfl)) (fun _ _ _ h => h) (Or.inr ⟨by rfl, rfl⟩) ?_ ?_
    rotate_left
    · exact aP
    refine pure_ (i := 6) (N := some 18) (v := undef) (a' := ?_) #[true, true, true, true, true, true, true, false, false, false, false, false, false, false, false, false] rfl rfl (any_of HT_.out (by kernel_rfl)) (fun _ _ _ h => h) (Or.inr ⟨by rfl, rfl⟩) ?_ ?_
    rotate_left
    · exact aP
    refine pure_ (i := 7) (N := some 19) (v := ?_) (a' := ?_) #[true, true, true, true, true, true, true, true, false, false, false, false, false, false, false, false] rfl rfl (any_of HT_.out (by kernel_rfl)) (fun _ _ _ h => h) (Or.inl ⟨by rfl, ?_⟩) ?_ ?_
    rotate_left
    · intro w'
      go_simp
      with_reducible rfl
    rotate_left
    · exact aP
    refine pure_ (i := 8) (N := some 20) (v := ?_) (a' := ?_) #[true, true, true, true, true, true, true, true, true, false, false, false, false, false, false, false] rfl rfl (any_of HT_.out (by kernel_rfl)) (fun _ _ _ h => h) (Or.inl ⟨by rfl, ?_⟩) ?_ ?_
    rotate_left
    · intro w'
      go_simp
      with_reducible rfl
    rotate_left
    · exact aP
    refine pure_ (i := 9) (N := some 21) (v := undef) (a' := ?_) #[true, true, true, true, true, true, true, true, true, true, false, false, false, false, false, false] rfl rfl (any_of HT_.out (by kernel_rfl)) (fun _ _ _ h => h) (Or.inr ⟨by rfl, rfl⟩) ?_ ?_
    rotate_left
    · exact aP
    refine pure_ (i := 10) (N := some 22) (v := undef) (a' := ?_) #[true, true, true, true, true, true, true, true, true, true, true, false, false, false, false, false] rfl rfl (any_of HT_.out (by kernel_rfl)) (fun _ _ _ h => h) (Or.inr ⟨by rfl, rfl⟩) ?_ ?_
    rotate_left
    · exact aP
    refine pure_ (i := 11) (N := some 23) (v := undef) (a' := ?_) #[true, true, true, true, true, true, true, true, true, true, true, true, false, false, false, false] rfl rfl (any_of HT_.out (by kernel_rfl)) (fun _ _ _ h => h) (Or.inr ⟨by rfl, rfl⟩) ?_ ?_
    rotate_left
    · exact aP
    refine pure_ (i := 12) (N := some 24) (v := undef) (a' := ?_) #[true, true, true, true, true, true, true, true, true, true, true, true, true, false, false, false] rfl rfl (any_of HT_.out (by kernel_rfl)) (fun _ _ _ h => h) (Or.inr ⟨by rfl, rfl⟩) ?_ ?_
    rotate_left
    · exact aP
    refine pure_ (i := 13) (N := some 25) (v := undef) (a' := ?_) #[true, true, true, true, true, true, true, true, true, true, true, true, true, true, false, false] rfl rfl (any_of HT_.out (by kernel_rfl)) (fun _ _ _ h => h) (Or.inr ⟨by rfl, rfl⟩) ?_ ?_
    rotate_left
    · exact aP
    refine pure_ (i := 14) (N := some 26) (v := undef) (a' := ?_) #[true, true, true, true, true, true, true, true, true, true, true, true, true, true, true, false] rfl rfl (any_of HT_.out (by kernel_rfl)) (fun _ _ _ h => h) (Or.inr ⟨by rfl, rfl⟩) ?_ ?_
    rotate_left
    · exact aP
    refine pure_ (i := 15) (N := some 27) (v := ?_) (a' := ?_) #[true, true, true, true, true, true, true, true, true, true, true, true, true, true, true, true] rfl rfl (any_of HT_.out (by kernel_rfl)) (fun _ _ _ h => h) (Or.inl ⟨by rfl, ?_⟩) ?_ ?_
    rotate_left
    · intro w'
      go_simp
      with_reducible rfl
    rotate_left
    · exact aP
    refine done_ (done_of HT_.out (by kernel_rfl)) ?_
    try go_wp2
    go_meet
    case rel => exact ⟨_, (true), rD, H', ⟨by first | omega | exact Nat.le_refl _⟩, ⟨pB BK253⟩, ⟨pB BK254⟩, ⟨bD HB GE253 GE254⟩⟩
 case rest =>
  clear HC3
  try clear c1
  try clear c2
  try clear p2
  try clear q2
  try clear hx2
  try clear qi2
  try clear c4
  try clear c7
  try clear c8
  try clear c8b0
  try clear c8b1
  try clear c10
  try clear c11
  try clear c11b0
  try clear c11b1
  try clear hx256_0
  try clear hx256_1
  try clear p256
  try clear q256
  obtain ⟨kq, x27_2, rfl, HA, HJ2, BK253, BK254, HB⟩ := hcut
  cases kq with
  | zero => exact absurd HA.out (by simp [impl_SidesSample.j0])
  | succ kj2 =>
   have H := HA.out
   clear HA
   simp only [impl_SidesSample.j0] at H
   by_cases c18 : x27_2 = true
   · subst c18
     have H1 : (some (([] : List (List Int)), ([] : List Int), false)) = some (r1, r2, r3) := by rw [if_pos rfl] at H; exact H
     clear H
     have H := H1
     clear H1
     simp only [Option.some.injEq, Prod.mk.injEq] at H
     obtain ⟨rfl, rfl, rfl⟩ := H
     have hnb19 := NB254_253.out
     have hnc19 := NB253_254.out
     have hcz20_0 : wc.cell? ⟨gb254, 0, none⟩ = some (.slice none 0 0) := (blk_cell BK254.out 0).trans rfl
     have hcz20_1 : wc.cell? ⟨gb254, 1, none⟩ = some (.slice none 0 0) := (blk_cell BK254.out 1).trans rfl
     have hfz20_0 := blk_frozen BK254.out 0
     have hfz20_1 := blk_frozen BK254.out 1
     go_wp2
     refine bodyPost_ret (results_ct rfl _ _ gb254 29 #[.slice none 0 0, .slice none 0 0] (0, 0) _ rfl (by (with_reducible repeat (first | refine blk_drewN ?_ _ | refine blk_drew ?_ | refine blk_alloc ?_ _)); refine blk_put (cs := #[.slice none 0 0, .slice none 0 0]) ?_ 1 _ rfl; (with_reducible repeat (first | refine blk_drewN ?_ _ | refine blk_drew ?_ | refine blk_alloc ?_ _)); refine blk_put (cs := #[.slice none 0 0, .slice none 0 0]) ?_ 0 _ rfl; (with_reducible repeat (first | refine blk_drewN ?_ _ | refine blk_drew ?_ | refine blk_alloc ?_ _)); exact BK254.out) Try.underlying29 rfl (by kernel_rfl)) rfl ?_
     exact ⟨_, _, eW, by first | exact Kd.S_nil _ _ _ _ _ | exact Kd.N_nil _ _ _ _ _ | exact Kd.V_nil _ _ _ _ _ | exact Kd.Q_nil _ _ _ _ _ | exact Kd.R_nil _ _ _ _ _, by first | exact Kd.R_nil _ _ _ _ _ | exact Kd.N_nil _ _ _ _ _ | exact Kd.V_nil _ _ _ _ _ | exact Kd.Q_nil _ _ _ _ _ | exact Kd.S_nil _ _ _ _ _, bD HB GE253 GE254⟩
   · replace c18 := Bool.eq_false_iff.mpr c18
     subst c18
     have H1 : ((impl_copied.f l0_1).bind fun t258 => (impl_SidesSample.l0 kj2 l1 l0_0 (l0_0.length : Int) 0 ([] : List (List Int)) t258)) = some (r1, r2, r3) := by rw [if_neg (show ¬ (false = true) by decide)] at H; exact H
     clear H
     have H := H1
     clear H1
     replace H := Option.bind_eq_some_iff.mp H
     obtain ⟨t258, A210, H⟩ := H
     replace H : (impl_SidesSample.l0 kj2 l1 l0_0 (l0_0.length : Int) 0 ([] : List (List Int)) t258) = some (r1, r2, r3) := H
     have A21 := Aside0.mk A210
     clear A210
     have H' := Aside0.mk H
     clear H
     have hnb22 := NB253_254.out
     have hnc22 := NB254_253.out
     have hcz23_0 : wc.cell? ⟨gb253, 0, none⟩ = some (.slice A0_0 l0_0.length c0_0) := (blk_cell BK253.out 0).trans rfl
     have hcz23_1 : wc.cell? ⟨gb253, 1, none⟩ = some (.slice A0_1 l0_1.length c0_1) := (blk_cell BK253.out 1).trans rfl
     have hfz23_0 := blk_frozen BK253.out 0
     have hfz23_1 := blk_frozen BK253.out 1
     go_wp2_with (first | ((with_reducible refine gate_callee (f := 107) rfl ?_); refine goesL_ (some 31) rfl rfl Try.func107 (by kernel_rfl) rfl #[.slice A0_1 l0_1.length c0_1] rfl aT ?_; (with_reducible refine (impl_copied.calls _ _ l0_1 t258 _ ?side1 ?side2 A21.out).mono ?_); (case side1 => exact cB HR0_1 HB); (case side2 => exact HC0_1.out); rintro e w24 ⟨v259, rfl, ho0, hb⟩; refine ⟨_, rfl, ?_⟩; have n0_ := Aside0.mk (Kd.R_lower ho0 (below_size (bD HB GE253 GE254))); have n1_ := Aside0.mk (blk_below (g := gb253) (o := .cells #[.slice A0_0 l0_0.length c0_0, .slice A0_1 l0_1.length c0_1] 29 (0, 0)) (pB BK253) hb); have n2_ := Aside0.mk (blk_below (g := gb254) (o := .cells #[.slice none 0 0, .slice none 0 0] 29 (0, 0)) (pB BK254) hb); have n3_ := Aside0.mk (below_step (bD HB GE253 GE254) hb); clear BK253; clear BK254; clear HB; have HO260 := n0_; have BK253 := n1_; have BK254 := n2_; have HB := n3_; clear n0_ n1_ n2_ n3_; (try clear hb); (try clear hb2); (try clear hk); (try clear hi); (try clear ho0); obtain ⟨Ao25, co25, eo25⟩ := Kd.R_slice HO260.out; subst eo25) | ((with_reducible refine gate_dst (N := 6) rfl ?_); refine box_event ?hg (N := 6) ?hd (cs := #[.slice none 0 0, .slice none 0 0]) (t := 29) ?hr ?_; (case hd => rfl); (case hg => rfl); (case hr => first | (go_simp; done) | (go_simp; rfl)); intro gb261 hg w26 hbox hb; have n0_ := Aside0.mk (Kd.R_below (pR HO260) hb); have n1_ := Aside0.mk (blk_below (g := gb253) (o := .cells #[.slice A0_0 l0_0.length c0_0, .slice A0_1 l0_1.length c0_1] 29 (0, 0)) (pB BK253) hb); have n2_ := Aside0.mk (blk_below (g := gb254) (o := .cells #[.slice none 0 0, .slice none 0 0] 29 (0, 0)) (pB BK254) hb); have n3_ := Aside0.mk (below_step (bD HB GE253 GE254) hb); have n4_ := Aside0.mk (hbox); have n5_ := Aside0.mk ((by rw [hg]; exact (below_size (bD HB GE253 GE254)) : w.heap.size ≤ gb261)); have n6_ := Aside0.mk ((by rw [hg]; exact (below_size (bD HB GE253 GE254)) : w.heap.size ≤ gb261)); have n7_ := Aside0.mk ((by rw [hg]; exact Nat.ne_of_lt (blk_lt (g := gb253) (o := .cells #[.slice A0_0 l0_0.length c0_0, .slice A0_1 l0_1.length c0_1] 29 (0, 0)) (pB BK253)) : gb253 ≠ gb261)); have n8_ := Aside0.mk ((by rw [hg]; exact Nat.ne_of_gt (blk_lt (g := gb253) (o := .cells #[.slice A0_0 l0_0.length c0_0, .slice A0_1 l0_1.length c0_1] 29 (0, 0)) (pB BK253)) : gb261 ≠ gb253)); have n9_ := Aside0.mk ((by rw [hg]; exact Nat.ne_of_lt (blk_lt (g := gb254) (o := .cells #[.slice none 0 0, .slice none 0 0] 29 (0, 0)) (pB BK254)) : gb254 ≠ gb261)); have n10_ := Aside0.mk ((by rw [hg]; exact Nat.ne_of_gt (blk_lt (g := gb254) (o := .cells #[.slice none 0 0, .slice none 0 0] 29 (0, 0)) (pB BK254)) : gb261 ≠ gb254)); clear HO260; clear BK253; clear BK254; clear HB; have HO260 := n0_; have BK253 := n1_; have BK254 := n2_; have HB := n3_; have BK261 := n4_; have GW261 := n5_; have GE261 := n6_; have NB253_261 := n7_; have NB261_253 := n8_; have NB254_261 := n9_; have NB261_254 := n10_; clear n0_ n1_ n2_ n3_ n4_ n5_ n6_ n7_ n8_ n9_ n10_; clear hb hbox hg; have hnb27 := NB261_253.out; have hnc27 := NB253_261.out; have hnb28 := NB261_254.out; have hnc28 := NB254_261.out; have hcz29_0 : w26.cell? ⟨gb261, 0, none⟩ = some (.slice none 0 0) := (blk_cell BK261.out 0).trans rfl; have hcz29_1 : w26.cell? ⟨gb261, 1, none⟩ = some (.slice none 0 0) := (blk_cell BK261.out 1).trans rfl; have hfz29_0 := blk_frozen BK261.out 0; have hfz29_1 := blk_frozen BK261.out 1; have hcz30_0 : w26.cell? ⟨gb253, 0, none⟩ = some (.slice A0_0 l0_0.length c0_0) := (blk_cell BK253.out 0).trans rfl; have hcz30_1 : w26.cell? ⟨gb253, 1, none⟩ = some (.slice A0_1 l0_1.length c0_1) := (blk_cell BK253.out 1).trans rfl; have hfz30_0 := blk_frozen BK253.out 0; have hfz30_1 := blk_frozen BK253.out 1))
     go_loopg [36] kj2 (fun kq v36 w' => ∃ (x36_2 : Int) (x262000_2 : List (List Int)) (u262000 : Value), v36 = .int .i64 x36_2 ∧ Aside0 (impl_SidesSample.l0 kq l1 l0_0 (l0_0.length : Int) x36_2 x262000_2 t258 = some (r1, r2, r3)) ∧ Aside0 (kq ≤ kj2) ∧ Aside0 (Kd.S (Kd.slice 3 (Kd.int .i64)) 23 w' w.heap.size (fun k_ => some k_ ≠ ((.slice Ao25 t258.length co25) : Value).ownBlock) u262000 x262000_2) ∧ Aside0 (Kd.R (Kd.int .i64) 3 w' w.heap.size (fun _ => True) (.slice Ao25 t258.length co25) t258) ∧ Aside0 (w'.heap[gb253]? = some (.cells #[(.slice A0_0 l0_0.length c0_0), (.slice A0_1 l0_1.length c0_1)] 29 (0, 0))) ∧ Aside0 (w'.heap[gb254]? = some (.cells #[(.slice none 0 0), (.slice none 0 0)] 29 (0, 0))) ∧ Aside0 (w'.heap[gb261]? = some (.cells #[u262000, (.slice Ao25 t258.length co25)] 29 (0, 0))) ∧ Aside0 (Below w.heap.size w w'))
     case atStart => exact ⟨(0), (([] : List (List Int))), (.slice none 0 0), rD, H', ⟨Nat.le_refl _⟩, ⟨by first | exact Kd.S_nil _ _ _ _ _ | exact Kd.N_nil _ _ _ _ _ | exact Kd.V_nil _ _ _ _ _ | exact Kd.Q_nil _ _ _ _ _ | exact Kd.R_nil _ _ _ _ _⟩, ⟨by (with_reducible repeat (first | apply Kd.R_alloc | apply Kd.R_drewN | apply Kd.R_drew)); exact Kd.R_mono (Kd.R_far (p := ⟨gb261, 1, none⟩) (Kd.R_far (p := ⟨gb261, 0, none⟩) (Kd.R_types HO260.out BK261.out (by decide)) (fun _ hk => hk.2) (.slice none 0 0)) (fun _ hk => hk.2) (.slice Ao25 t258.length co25)) (fun _ hk => trivial)⟩, ⟨by (with_reducible repeat (first | refine blk_drewN ?_ _ | refine blk_drew ?_ | refine blk_alloc ?_ _)); refine blk_far ?_ NB253_261.out _; (with_reducible repeat (first | refine blk_drewN ?_ _ | refine blk_drew ?_ | refine blk_alloc ?_ _)); refine blk_far ?_ NB253_261.out _; (with_reducible repeat (first | refine blk_drewN ?_ _ | refine blk_drew ?_ | refine blk_alloc ?_ _)); exact BK253.out⟩, ⟨by (with_reducible repeat (first | refine blk_drewN ?_ _ | refine blk_drew ?_ | refine blk_alloc ?_ _)); refine blk_far ?_ NB254_261.out _; (with_reducible repeat (first | refine blk_drewN ?_ _ | refine blk_drew ?_ | refine blk_alloc ?_ _)); refine blk_far ?_ NB254_261.out _; (with_reducible repeat (first | refine blk_drewN ?_ _ | refine blk_drew ?_ | refine blk_alloc ?_ _)); exact BK254.out⟩, ⟨by (with_reducible repeat (first | refine blk_drewN ?_ _ | refine blk_drew ?_ | refine blk_alloc ?_ _)); refine blk_put (cs := #[.slice none 0 0, .slice none 0 0]) ?_ 1 _ rfl; (with_reducible repeat (first | refine blk_drewN ?_ _ | refine blk_drew ?_ | refine blk_alloc ?_ _)); refine blk_put (cs := #[.slice none 0 0, .slice none 0 0]) ?_ 0 _ rfl; (with_reducible repeat (first | refine blk_drewN ?_ _ | refine blk_drew ?_ | refine blk_alloc ?_ _)); exact BK261.out⟩, ⟨bE HB GE253 GE254 GE261⟩⟩
     case round =>
      clear H'
      try clear c1
      try clear c2
      try clear p2
      try clear q2
      try clear hx2
      try clear qi2
      try clear c4
      try clear c7
      try clear c8
      try clear c8b0
      try clear c8b1
      try clear c10
      try clear c11
      try clear c11b0
      try clear c11b1
      try clear c18
      try clear c19
      try clear c22
      try clear c25
      try clear p25
      try clear q25
      try clear hx25
      try clear qi25
      try clear c27
      try clear c28
      try clear hcz20_0
      try clear hcz20_1
      try clear hcz23_0
      try clear hcz23_1
      try clear hcz29_0
      try clear hcz29_1
      try clear hcz30_0
      try clear hcz30_1
      try clear hfz20_0
      try clear hfz20_1
      try clear hfz23_0
      try clear hfz23_1
      try clear hfz29_0
      try clear hfz29_1
      try clear hfz30_0
      try clear hfz30_1
      try clear hx256_0
      try clear hx256_1
      try clear p2
      try clear p256
      try clear q2
      try clear q256
      obtain ⟨x36_2, x262000_2, u262000, rfl, HA, HK2, HO_262000, HO_262001, BK253, BK254, BK261, HB⟩ := hrel
      cases gk with
      | zero => exact absurd HA.out (by simp [impl_SidesSample.l0])
      | succ k2 =>
       have H := HA.out
       clear HA
       simp only [impl_SidesSample.l0] at H
       by_cases c31 : x36_2 < (l0_0.length : Int)
       · rw [if_pos c31] at H
         have c31b0 : decide (x36_2 < (l0_0.length : Int)) = true := decide_eq_true c31
         clear c31
         by_cases c32 : 0 ≤ x36_2
         · rw [if_pos c32] at H
           have c32b0 : decide (0 ≤ x36_2) = true := decide_eq_true c32
           clear c32
           by_cases c33 : x36_2 < (l0_0.length : Int)
           · rw [if_pos c33] at H
             have c33b0 : decide (x36_2 < (l0_0.length : Int)) = true := decide_eq_true c33
             clear c33
             obtain ⟨y263, hy263⟩ : ∃ y_ : List Int, y_ = (([] : List Int)) := ⟨_, rfl⟩
             replace H : (impl_SidesSample.l1 k2 l1 (rd_L1 l0_0 x36_2) y263 l0_0 (l0_0.length : Int) x36_2 l1 (l1.length : Int) 0 x262000_2 t258) = some (r1, r2, r3) := by first | (rw [hy263]; with_reducible exact H) | (have H2_ := (Option.bind_some _ _).symm.trans H; rw [hy263]; with_reducible exact H2_) | (have H2_ := (Option.bind_some _ _).symm.trans H; with_reducible exact H2_) | with_reducible exact H | (rw [hy263]; exact H) | exact H
             have Ny263 := Aside0.mk hy263
             clear hy263
             have H' := Aside0.mk H
             clear H
             have p262 : 0 ≤ (x36_2 : Int) := of_decide_eq_true aS
             have q262 : x36_2 < (l0_0.length : Int) := of_decide_eq_true aS
             obtain ⟨ad262, A262_0, c262_0, e262, hx262_0, hl262_0, hi262_0⟩ := at_L1 HR0_0.out x36_2 p262 q262
             cases e262
             replace hx262_0 := (HB.out.cell (World.block_lt_of_cell? w _ hx262_0)).trans hx262_0
             have HR262_0 := Aside0.mk hi262_0
             have HC262_0 := Aside0.mk hl262_0
             clear hi262_0 hl262_0
             replace p262 := eq_true p262
             replace q262 := eq_true q262
             go_wp2_with (first | ((with_reducible refine gate_dst (N := 40) rfl ?_); refine Kd.R_lit (Kd.int .i64) _ 3 ?hg (N := 40) ?hd (xs := ([] : List Int)) (inner := []) (ok := fun _ => True) (okp := fun _ => True) ?hr ?hp (fun _ hk => hk) trivial (Below.refl _ _) (Nat.le_refl _) (by simp) ?_; (case hd => rfl); (case hg => rfl); (case hr => first | (go_simp; done) | (go_simp; rfl)); (case hp => exact (Reps.none _ _)); intro v264 w34 ho35 hb hg_ hnew_; clear hg_ hnew_; (first | rw [← Ny263.out] at ho35 | (simp only [Int.reduceToNat] at ho35; rw [← Ny263.out] at ho35)); have n0_ := Aside0.mk (Kd.S_elder' (pS HO_262000) (Kd.R_base ho35) hb); have n1_ := Aside0.mk (Kd.R_elder' (pR HO_262001) (Kd.R_base ho35) hb); have n2_ := Aside0.mk (Kd.R_lower (Kd.R_new' ho35 (Kd.R_lt (pR HO_262001))) (below_size (bE HB GE253 GE254 GE261))); have n3_ := Aside0.mk (blk_below (g := gb253) (o := .cells #[.slice (some ad262) l0_0.length c0_0, .slice A0_1 l0_1.length c0_1] 29 (0, 0)) (pB BK253) hb); have n4_ := Aside0.mk (blk_below (g := gb254) (o := .cells #[.slice none 0 0, .slice none 0 0] 29 (0, 0)) (pB BK254) hb); have n5_ := Aside0.mk (blk_below (g := gb261) (o := .cells #[u262000, .slice Ao25 t258.length co25] 29 (0, 0)) (pB BK261) hb); have n6_ := Aside0.mk (below_step (bE HB GE253 GE254 GE261) hb); clear HO_262000; clear HO_262001; clear BK253; clear BK254; clear BK261; clear HB; have HO_262000 := n0_; have HO_262001 := n1_; have HO265 := n2_; have BK253 := n3_; have BK254 := n4_; have BK261 := n5_; have HB := n6_; clear n0_ n1_ n2_ n3_ n4_ n5_ n6_; clear hb ho35))
             go_loopg [9, 43] k2 (fun kq v9 v43 w' => ∃ (x9_3 : List Int) (x43_3 : Int), v43 = .int .i64 x43_3 ∧ Aside0 (impl_SidesSample.l1 kq l1 (rd_L1 l0_0 x36_2) x9_3 l0_0 (l0_0.length : Int) x36_2 l1 (l1.length : Int) x43_3 x262000_2 t258 = some (r1, r2, r3)) ∧ Aside0 (kq ≤ k2) ∧ Aside0 (Kd.R (Kd.int .i64) 3 w' w.heap.size (fun k_ => some k_ ≠ ((.slice Ao25 t258.length co25) : Value).ownBlock) v9 x9_3) ∧ Aside0 (Kd.S (Kd.slice 3 (Kd.int .i64)) 23 w' w.heap.size (fun k_ => some k_ ≠ (v9 : Value).ownBlock ∧ some k_ ≠ ((.slice Ao25 t258.length co25) : Value).ownBlock) u262000 x262000_2) ∧ Aside0 (Kd.R (Kd.int .i64) 3 w' w.heap.size (fun k_ => some k_ ≠ (v9 : Value).ownBlock) (.slice Ao25 t258.length co25) t258) ∧ Aside0 (w'.heap[gb253]? = some (.cells #[(.slice (some ad262) l0_0.length c0_0), (.slice A0_1 l0_1.length c0_1)] 29 (0, 0))) ∧ Aside0 (w'.heap[gb254]? = some (.cells #[(.slice none 0 0), (.slice none 0 0)] 29 (0, 0))) ∧ Aside0 (w'.heap[gb261]? = some (.cells #[u262000, (.slice Ao25 t258.length co25)] 29 (0, 0))) ∧ Aside0 (Below w.heap.size w w'))
             case atStart => exact ⟨(y263), (0), rD, H', ⟨Nat.le_refl _⟩, ⟨by (with_reducible repeat (first | apply Kd.R_alloc | apply Kd.R_drewN | apply Kd.R_drew)); exact Kd.R_mono HO265.out (fun _ hk => hk.2)⟩, ⟨by (with_reducible repeat (first | apply Kd.S_alloc | apply Kd.S_drewN | apply Kd.S_drew)); exact Kd.S_mono HO_262000.out (fun _ hk => ⟨hk.2, hk.1⟩)⟩, ⟨by (with_reducible repeat (first | apply Kd.R_alloc | apply Kd.R_drewN | apply Kd.R_drew)); exact Kd.R_mono HO_262001.out (fun _ hk => hk.2)⟩, ⟨pB BK253⟩, ⟨pB BK254⟩, ⟨pB BK261⟩, ⟨bE HB GE253 GE254 GE261⟩⟩
             case round =>
              clear H'
              try clear c1
              try clear c2
              try clear p2
              try clear q2
              try clear hx2
              try clear qi2
              try clear c3
              try clear c4
              try clear c7
              try clear c8
              try clear c8b0
              try clear c8b1
              try clear c10
              try clear c11
              try clear c11b0
              try clear c11b1
              try clear c18
              try clear c19
              try clear c22
              try clear c25
              try clear p25
              try clear q25
              try clear hx25
              try clear qi25
              try clear c26
              try clear p26
              try clear q26
              try clear hx26
              try clear c27
              try clear c28
              try clear c31
              try clear c31b0
              try clear c32
              try clear c32b0
              try clear c33
              try clear c33b0
              try clear hcz20_0
              try clear hcz20_1
              try clear hcz23_0
              try clear hcz23_1
              try clear hcz29_0
              try clear hcz29_1
              try clear hcz30_0
              try clear hcz30_1
              try clear hfz20_0
              try clear hfz20_1
              try clear hfz23_0
              try clear hfz23_1
              try clear hfz29_0
              try clear hfz29_1
              try clear hfz30_0
              try clear hfz30_1
              try clear hx256_0
              try clear hx256_1
              try clear hx262_0
              try clear p2
              try clear p25
              try clear p256
              try clear p262
              try clear q2
              try clear q25
              try clear q256
              try clear q262
              obtain ⟨x9_3, x43_3, rfl, HA, HK3, HO_9, HO_262000, HO_262001, BK253, BK254, BK261, HB⟩ := hrel
              cases gk with
              | zero => exact absurd HA.out (by simp [impl_SidesSample.l1])
              | succ k3 =>
               have H := HA.out
               clear HA
               simp only [impl_SidesSample.l1] at H
               by_cases c36 : x43_3 < (l1.length : Int)
               · rw [if_pos c36] at H
                 have c36b0 : decide (x43_3 < (l1.length : Int)) = true := decide_eq_true c36
                 clear c36
                 by_cases c37 : 0 ≤ x43_3
                 · rw [if_pos c37] at H
                   have c37b0 : decide (0 ≤ x43_3) = true := decide_eq_true c37
                   clear c37
                   by_cases c38 : x43_3 < (l1.length : Int)
                   · rw [if_pos c38] at H
                     have c38b0 : decide (x43_3 < (l1.length : Int)) = true := decide_eq_true c38
                     clear c38
                     replace H := Option.bind_eq_some_iff.mp H
                     obtain ⟨t268, A390, H⟩ := H
                     replace H : (if x9_3.length < 17592186044416 then (impl_SidesSample.l1 k3 l1 (rd_L1 l0_0 x36_2) (x9_3 ++ [t268]) l0_0 (l0_0.length : Int) x36_2 l1 (l1.length : Int) (wrap64 (x43_3 + 1)) x262000_2 t258) else (none)) = some (r1, r2, r3) := H
                     have A39 := Aside0.mk A390
                     clear A390
                     by_cases c40 : x9_3.length < 17592186044416
                     · rw [if_pos c40] at H
                       have LMc40 := Aside0.mk c40
                       clear c40
                       obtain ⟨y269, hy269⟩ : ∃ y_ : List Int, y_ = (x9_3 ++ [t268]) := ⟨_, rfl⟩
                       replace H : (impl_SidesSample.l1 k3 l1 (rd_L1 l0_0 x36_2) y269 l0_0 (l0_0.length : Int) x36_2 l1 (l1.length : Int) (wrap64 (x43_3 + 1)) x262000_2 t258) = some (r1, r2, r3) := by first | (rw [hy269]; with_reducible exact H) | (have H2_ := (Option.bind_some _ _).symm.trans H; rw [hy269]; with_reducible exact H2_) | (have H2_ := (Option.bind_some _ _).symm.trans H; with_reducible exact H2_) | with_reducible exact H | (rw [hy269]; exact H) | exact H
                       have Ny269 := Aside0.mk hy269
                       clear hy269
                       have H' := Aside0.mk H
                       clear H
                       have p266 : 0 ≤ (x43_3 : Int) := of_decide_eq_true aS
                       have q266 : x43_3 < (l1.length : Int) := of_decide_eq_true aS
                       obtain ⟨ad266, A266_0, c266_0, e266, hx266_0, hx266_1, hl266_0, hi266_0⟩ := at_T42 HR1.out x43_3 p266 q266
                       cases e266
                       replace hx266_0 := (HB.out.cell (World.block_lt_of_cell? w _ hx266_0)).trans hx266_0
                       replace hx266_1 := (HB.out.cell (World.block_lt_of_cell? w _ hx266_1)).trans hx266_1
                       have HR266_0 := Aside0.mk hi266_0
                       have HC266_0 := Aside0.mk hl266_0
                       clear hi266_0 hl266_0
                       replace p266 := eq_true p266
                       replace q266 := eq_true q266
                       go_wp2_with (first | ((with_reducible refine gate_dst (N := 11) rfl ?_); refine box_event ?hg (N := 11) ?hd (cs := #[.slice none 0 0, .int .i64 0]) (t := 42) ?hr ?_; (case hd => rfl); (case hg => rfl); (case hr => first | (go_simp; done) | (go_simp; rfl)); intro gb267 hg w41 hbox hb; have n0_ := Aside0.mk (Kd.R_below (pR HO_9) hb); have n1_ := Aside0.mk (Kd.S_below (pS HO_262000) hb); have n2_ := Aside0.mk (Kd.R_below (pR HO_262001) hb); have n3_ := Aside0.mk (blk_below (g := gb253) (o := .cells #[.slice (some ad262) l0_0.length c0_0, .slice A0_1 l0_1.length c0_1] 29 (0, 0)) (pB BK253) hb); have n4_ := Aside0.mk (blk_below (g := gb254) (o := .cells #[.slice none 0 0, .slice none 0 0] 29 (0, 0)) (pB BK254) hb); have n5_ := Aside0.mk (blk_below (g := gb261) (o := .cells #[u262000, .slice Ao25 t258.length co25] 29 (0, 0)) (pB BK261) hb); have n6_ := Aside0.mk (below_step (bE HB GE253 GE254 GE261) hb); have n7_ := Aside0.mk (hbox); have n8_ := Aside0.mk ((by rw [hg]; exact (below_size (bE HB GE253 GE254 GE261)) : w.heap.size ≤ gb267)); have n9_ := Aside0.mk ((by rw [hg]; exact (below_size (bE HB GE253 GE254 GE261)) : w.heap.size ≤ gb267)); have n10_ := Aside0.mk ((by rw [hg]; exact Nat.ne_of_lt (blk_lt (g := gb253) (o := .cells #[.slice (some ad262) l0_0.length c0_0, .slice A0_1 l0_1.length c0_1] 29 (0, 0)) (pB BK253)) : gb253 ≠ gb267)); have n11_ := Aside0.mk ((by rw [hg]; exact Nat.ne_of_gt (blk_lt (g := gb253) (o := .cells #[.slice (some ad262) l0_0.length c0_0, .slice A0_1 l0_1.length c0_1] 29 (0, 0)) (pB BK253)) : gb267 ≠ gb253)); have n12_ := Aside0.mk ((by rw [hg]; exact Nat.ne_of_lt (blk_lt (g := gb254) (o := .cells #[.slice none 0 0, .slice none 0 0] 29 (0, 0)) (pB BK254)) : gb254 ≠ gb267)); have n13_ := Aside0.mk ((by rw [hg]; exact Nat.ne_of_gt (blk_lt (g := gb254) (o := .cells #[.slice none 0 0, .slice none 0 0] 29 (0, 0)) (pB BK254)) : gb267 ≠ gb254)); have n14_ := Aside0.mk ((by rw [hg]; exact Nat.ne_of_lt (blk_lt (g := gb261) (o := .cells #[u262000, .slice Ao25 t258.length co25] 29 (0, 0)) (pB BK261)) : gb261 ≠ gb267)); have n15_ := Aside0.mk ((by rw [hg]; exact Nat.ne_of_gt (blk_lt (g := gb261) (o := .cells #[u262000, .slice Ao25 t258.length co25] 29 (0, 0)) (pB BK261)) : gb267 ≠ gb261)); clear HO_9; clear HO_262000; clear HO_262001; clear BK253; clear BK254; clear BK261; clear HB; have HO_9 := n0_; have HO_262000 := n1_; have HO_262001 := n2_; have BK253 := n3_; have BK254 := n4_; have BK261 := n5_; have HB := n6_; have BK267 := n7_; have GW267 := n8_; have GE267 := n9_; have NB253_267 := n10_; have NB267_253 := n11_; have NB254_267 := n12_; have NB267_254 := n13_; have NB261_267 := n14_; have NB267_261 := n15_; clear n0_ n1_ n2_ n3_ n4_ n5_ n6_ n7_ n8_ n9_ n10_ n11_ n12_ n13_ n14_ n15_; clear hb hbox hg; have hnb42 := NB267_253.out; have hnc42 := NB253_267.out; have hnb43 := NB267_254.out; have hnc43 := NB254_267.out; have hnb44 := NB267_261.out; have hnc44 := NB261_267.out; have hcz45_0 : w41.cell? ⟨gb267, 0, none⟩ = some (.slice none 0 0) := (blk_cell BK267.out 0).trans rfl; have hcz45_1 : w41.cell? ⟨gb267, 1, none⟩ = some (.int .i64 0) := (blk_cell BK267.out 1).trans rfl; have hfz45_0 := blk_frozen BK267.out 0; have hfz45_1 := blk_frozen BK267.out 1) | ((with_reducible refine gate_callee (f := 108) rfl ?_); refine goesL_ (some 50) rfl rfl Try.func108 (by kernel_rfl) rfl #[.agg #[.slice A266_0 ((rd_T42 l1 x43_3).f0).length c266_0, .int .i64 ((rd_T42 l1 x43_3).f1)], .slice A262_0 (rd_L1 l0_0 x36_2).length c262_0] rfl aT ?_; (with_reducible refine (impl_Plane_side.calls k3 _ _ ((rd_T42 l1 x43_3).f0) ((rd_T42 l1 x43_3).f1) _ _ (rd_L1 l0_0 x36_2) t268 _ ?side1 ?side2 ?side3 ?side4 A39.out).mono ?_); (case side1 => exact Kd.C_below HR266_0.out (by repeat (first | (with_reducible first | exact HB.out | apply below_alloc | apply pw_below_drewN | apply below_drew1 | refine below_set ?_ GE253.out | refine below_set ?_ GE254.out | refine below_set ?_ GE261.out | refine below_set ?_ GE267.out) | exact HB.out))); (case side2 => exact HC266_0.out); (case side3 => exact Kd.C_below HR262_0.out (by repeat (first | (with_reducible first | exact HB.out | apply below_alloc | apply pw_below_drewN | apply below_drew1 | refine below_set ?_ GE253.out | refine below_set ?_ GE254.out | refine below_set ?_ GE261.out | refine below_set ?_ GE267.out) | exact HB.out))); (case side4 => exact HC262_0.out); rintro e w46 ⟨rfl, hb⟩; refine ⟨_, rfl, ?_⟩; have n0_ := Aside0.mk (Kd.R_below (by (with_reducible repeat (first | apply Kd.R_alloc | apply Kd.R_drewN | apply Kd.R_drew)); exact (Kd.R_mono (Kd.R_far (p := ⟨gb267, 1, none⟩) (Kd.R_far (p := ⟨gb267, 0, none⟩) (Kd.R_types HO_9.out BK267.out (by decide)) (fun _ hk => hk.2) (.slice A266_0 ((rd_T42 l1 x43_3).f0).length c266_0)) (fun _ hk => hk.2) (.int .i64 ((rd_T42 l1 x43_3).f1))) (fun _ h_ => h_.1))) hb); have n1_ := Aside0.mk (Kd.S_below (by (with_reducible repeat (first | apply Kd.S_alloc | apply Kd.S_drewN | apply Kd.S_drew)); exact (Kd.S_mono (Kd.S_far (p := ⟨gb267, 1, none⟩) (Kd.S_far (p := ⟨gb267, 0, none⟩) (Kd.S_types HO_262000.out BK267.out (by decide)) (fun _ hk => hk.2) (.slice A266_0 ((rd_T42 l1 x43_3).f0).length c266_0)) (fun _ hk => hk.2) (.int .i64 ((rd_T42 l1 x43_3).f1))) (fun _ h_ => h_.1))) hb); have n2_ := Aside0.mk (Kd.R_below (by (with_reducible repeat (first | apply Kd.R_alloc | apply Kd.R_drewN | apply Kd.R_drew)); exact (Kd.R_mono (Kd.R_far (p := ⟨gb267, 1, none⟩) (Kd.R_far (p := ⟨gb267, 0, none⟩) (Kd.R_types HO_262001.out BK267.out (by decide)) (fun _ hk => hk.2) (.slice A266_0 ((rd_T42 l1 x43_3).f0).length c266_0)) (fun _ hk => hk.2) (.int .i64 ((rd_T42 l1 x43_3).f1))) (fun _ h_ => h_.1))) hb); have n3_ := Aside0.mk (blk_below (g := gb253) (o := .cells #[.slice (some ad262) l0_0.length c0_0, .slice A0_1 l0_1.length c0_1] 29 (0, 0)) (by (with_reducible repeat (first | refine blk_drewN ?_ _ | refine blk_drew ?_ | refine blk_alloc ?_ _)); refine blk_far ?_ NB253_267.out _; (with_reducible repeat (first | refine blk_drewN ?_ _ | refine blk_drew ?_ | refine blk_alloc ?_ _)); refine blk_far ?_ NB253_267.out _; (with_reducible repeat (first | refine blk_drewN ?_ _ | refine blk_drew ?_ | refine blk_alloc ?_ _)); exact BK253.out) hb); have n4_ := Aside0.mk (blk_below (g := gb254) (o := .cells #[.slice none 0 0, .slice none 0 0] 29 (0, 0)) (by (with_reducible repeat (first | refine blk_drewN ?_ _ | refine blk_drew ?_ | refine blk_alloc ?_ _)); refine blk_far ?_ NB254_267.out _; (with_reducible repeat (first | refine blk_drewN ?_ _ | refine blk_drew ?_ | refine blk_alloc ?_ _)); refine blk_far ?_ NB254_267.out _; (with_reducible repeat (first | refine blk_drewN ?_ _ | refine blk_drew ?_ | refine blk_alloc ?_ _)); exact BK254.out) hb); have n5_ := Aside0.mk (blk_below (g := gb261) (o := .cells #[u262000, .slice Ao25 t258.length co25] 29 (0, 0)) (by (with_reducible repeat (first | refine blk_drewN ?_ _ | refine blk_drew ?_ | refine blk_alloc ?_ _)); refine blk_far ?_ NB261_267.out _; (with_reducible repeat (first | refine blk_drewN ?_ _ | refine blk_drew ?_ | refine blk_alloc ?_ _)); refine blk_far ?_ NB261_267.out _; (with_reducible repeat (first | refine blk_drewN ?_ _ | refine blk_drew ?_ | refine blk_alloc ?_ _)); exact BK261.out) hb); have n6_ := Aside0.mk (blk_below (g := gb267) (o := .cells #[.slice A266_0 ((rd_T42 l1 x43_3).f0).length c266_0, .int .i64 ((rd_T42 l1 x43_3).f1)] 42 (0, 0)) (by (with_reducible repeat (first | refine blk_drewN ?_ _ | refine blk_drew ?_ | refine blk_alloc ?_ _)); refine blk_put (cs := #[.slice A266_0 ((rd_T42 l1 x43_3).f0).length c266_0, .int .i64 0]) ?_ 1 _ rfl; (with_reducible repeat (first | refine blk_drewN ?_ _ | refine blk_drew ?_ | refine blk_alloc ?_ _)); refine blk_put (cs := #[.slice none 0 0, .int .i64 0]) ?_ 0 _ rfl; (with_reducible repeat (first | refine blk_drewN ?_ _ | refine blk_drew ?_ | refine blk_alloc ?_ _)); exact BK267.out) hb); have n7_ := Aside0.mk (below_step (by repeat (first | (with_reducible first | exact HB.out | apply below_alloc | apply pw_below_drewN | apply below_drew1 | refine below_set ?_ GE253.out | refine below_set ?_ GE254.out | refine below_set ?_ GE261.out | refine below_set ?_ GE267.out) | exact HB.out)) hb); clear HO_9; clear HO_262000; clear HO_262001; clear BK253; clear BK254; clear BK261; clear BK267; clear HB; have HO_9 := n0_; have HO_262000 := n1_; have HO_262001 := n2_; have BK253 := n3_; have BK254 := n4_; have BK261 := n5_; have BK267 := n6_; have HB := n7_; clear n0_ n1_ n2_ n3_ n4_ n5_ n6_ n7_; (try clear hb); (try clear hb2); (try clear hk); (try clear hi)) | ((with_reducible refine gate_builtin (b := .append) (xs := #[.tmp 47, .tmp 51]) rfl ?_); at_builtin; refine Kd.R_append (Kd.int .i64) (w0 := w) w.heap.size rfl (.tmp 47) (.tmp 51) 23 3 (.int .i64 0) 8 rfl Try.underlying23 info3 rfl (by decide) (by omega) u9 x9_3 t268 [.int .i64 t268] (fun k_ => some k_ ≠ (.slice Ao25 t258.length co25 : Value).ownBlock) (fun _ => False) rfl rfl ?aP (fun _ hk => hk.elim) ?aF ?aO ?aB ?aS ?aL ?_; (case aP => exact rfl); (case aB => exact (by repeat (first | (with_reducible first | exact HB.out | apply below_alloc | apply pw_below_drewN | apply below_drew1 | refine below_set ?_ GE253.out | refine below_set ?_ GE254.out | refine below_set ?_ GE261.out | refine below_set ?_ GE267.out) | exact HB.out))); (case aF => exact (fun k_ hk => Kd.fresh' (Kd.R_lt (pR HO_262001)) k_ hk)); (case aO => exact (pR HO_9)); (case aS => exact (below_size (by repeat (first | (with_reducible first | exact HB.out | apply below_alloc | apply pw_below_drewN | apply below_drew1 | refine below_set ?_ GE253.out | refine below_set ?_ GE254.out | refine below_set ?_ GE261.out | refine below_set ?_ GE267.out) | exact HB.out)))); (case aL => have := LMc40.out; omega); intro v270 w47 ho hb hg hat; rw [← Ny269.out] at ho; have n0_ := Aside0.mk (Kd.S_after (ok := (fun k_ => some k_ ≠ (.slice Ao25 t258.length co25 : Value).ownBlock)) (by (with_reducible repeat (first | apply Kd.S_alloc | apply Kd.S_drewN | apply Kd.S_drew)); exact Kd.S_mono HO_262000.out (fun _ hk => ⟨hk.2, hk.1⟩)) hg hat); have n1_ := Aside0.mk (Kd.R_after (ok := (fun _ => True)) (by (with_reducible repeat (first | apply Kd.R_alloc | apply Kd.R_drewN | apply Kd.R_drew)); exact Kd.R_mono HO_262001.out (fun _ hk => ⟨trivial, hk⟩)) hg hat); have n2_ := Aside0.mk (blk_grown (g := gb253) (o := .cells #[.slice (some ad262) l0_0.length c0_0, .slice A0_1 l0_1.length c0_1] 29 (0, 0)) (pB BK253) hg (Kd.R_ne HO_9.out BK253.out (by decide))); have n3_ := Aside0.mk (blk_grown (g := gb254) (o := .cells #[.slice none 0 0, .slice none 0 0] 29 (0, 0)) (pB BK254) hg (Kd.R_ne HO_9.out BK254.out (by decide))); have n4_ := Aside0.mk (blk_grown (g := gb261) (o := .cells #[u262000, .slice Ao25 t258.length co25] 29 (0, 0)) (pB BK261) hg (Kd.R_ne HO_9.out BK261.out (by decide))); have n5_ := Aside0.mk (blk_grown (g := gb267) (o := .cells #[.slice A266_0 ((rd_T42 l1 x43_3).f0).length c266_0, .int .i64 ((rd_T42 l1 x43_3).f1)] 42 (0, 0)) (pB BK267) hg (Kd.R_ne HO_9.out BK267.out (by decide))); have n6_ := Aside0.mk (hb); have n7_ := Aside0.mk (ho); clear HO_262000; clear HO_262001; clear BK253; clear BK254; clear BK261; clear BK267; clear HB; clear HO_9; have HO_262000 := n0_; have HO_262001 := n1_; have BK253 := n2_; have BK254 := n3_; have BK261 := n4_; have BK267 := n5_; have HB := n6_; have HO271 := n7_; clear n0_ n1_ n2_ n3_ n4_ n5_ n6_ n7_; clear ho hb hg hat))
                       go_roundg k3
                       case measure => have := HJ2.out; have := HK2.out; have := HK3.out; omega
                       case rel => exact ⟨(y269), (wrap64 (x43_3 + 1)), rD, H', ⟨by have := HJ2.out; have := HK2.out; have := HK3.out; omega⟩, ⟨pR HO271⟩, ⟨by (with_reducible repeat (first | apply Kd.S_alloc | apply Kd.S_drewN | apply Kd.S_drew)); exact Kd.S_mono HO_262000.out (fun _ hk => ⟨hk.2, hk.1⟩)⟩, ⟨by (with_reducible repeat (first | apply Kd.R_alloc | apply Kd.R_drewN | apply Kd.R_drew)); exact Kd.R_mono HO_262001.out (fun _ hk => hk.2)⟩, ⟨pB BK253⟩, ⟨pB BK254⟩, ⟨pB BK261⟩, ⟨by repeat (first | (with_reducible first | exact HB.out | apply below_alloc | apply pw_below_drewN | apply below_drew1 | refine below_set ?_ GE253.out | refine below_set ?_ GE254.out | refine below_set ?_ GE261.out | refine below_set ?_ GE267.out) | exact HB.out)⟩⟩
                     · rw [if_neg c40] at H
                       exact absurd H (by simp)
                   · rw [if_neg c38] at H
                     exact absurd H (by simp)
                 · rw [if_neg c37] at H
                   exact absurd H (by simp)
               · rw [if_neg c36] at H
                 have c36b0 : decide (x43_3 < (l1.length : Int)) = false := decide_eq_false c36
                 clear c36
                 by_cases c48 : x262000_2.length < 5864062014805
                 · rw [if_pos c48] at H
                   have LMc48 := Aside0.mk c48
                   clear c48
                   obtain ⟨y272, hy272⟩ : ∃ y_ : List (List Int), y_ = (x262000_2 ++ [x9_3]) := ⟨_, rfl⟩
                   replace H : (impl_SidesSample.l0 k3 l1 l0_0 (l0_0.length : Int) (wrap64 (x36_2 + 1)) y272 t258) = some (r1, r2, r3) := by first | (rw [hy272]; with_reducible exact H) | (have H2_ := (Option.bind_some _ _).symm.trans H; rw [hy272]; with_reducible exact H2_) | (have H2_ := (Option.bind_some _ _).symm.trans H; with_reducible exact H2_) | with_reducible exact H | (rw [hy272]; exact H) | exact H
                   have Ny272 := Aside0.mk hy272
                   clear hy272
                   have H' := Aside0.mk H
                   clear H
                   have hnb49 := NB261_253.out
                   have hnc49 := NB253_261.out
                   have hnb50 := NB261_254.out
                   have hnc50 := NB254_261.out
                   have hcz51_0 : wr.cell? ⟨gb261, 0, none⟩ = some (u262000) := (blk_cell BK261.out 0).trans rfl
                   have hcz51_1 : wr.cell? ⟨gb261, 1, none⟩ = some (.slice Ao25 t258.length co25) := (blk_cell BK261.out 1).trans rfl
                   have hfz51_0 := blk_frozen BK261.out 0
                   have hfz51_1 := blk_frozen BK261.out 1
                   obtain ⟨Ao53, co53, eo53⟩ := Kd.R_slice HO_9.out
                   subst eo53
                   go_wp2_with (first | ((with_reducible refine gate_builtin (b := .append) (xs := #[.tmp 55, .tmp 57]) rfl ?_); at_builtin; refine Kd.S_append (Kd.slice 3 (Kd.int .i64)) (w0 := w) w.heap.size rfl (.tmp 55) (.tmp 57) 22 23 (.slice none 0 0) 24 rfl Try.underlying22 info23 rfl (by decide) (by omega) u262000 x262000_2 x9_3 [.slice Ao53 x9_3.length co53] (fun k_ => some k_ ≠ (.slice Ao25 t258.length co25 : Value).ownBlock) (fun k_ => some k_ = (.slice Ao53 x9_3.length co53 : Value).ownBlock) rfl rfl ?aP (fun k_ hk_ => ((Kd.R_mono (ok' := fun k_ => ((fun k_ => some k_ ≠ (.slice Ao25 t258.length co25 : Value).ownBlock)) k_ ∧ some k_ ≠ (u262000 : Value).ownBlock) (Kd.R_apart' (HO_9.out) (Kd.S_typed HO_262000.out) (by decide)) (fun k_ hk => ⟨hk.1, hk.2⟩))).1 k_ hk_.symm) ?aF ?aO ?aB ?aS ?aL ?_; (case aP => exact Kd.M_row (Kd.R_mono (Kd.R_tight rfl (Kd.R_mono (ok' := fun k_ => ((fun k_ => some k_ ≠ (.slice Ao25 t258.length co25 : Value).ownBlock)) k_ ∧ some k_ ≠ (u262000 : Value).ownBlock) (Kd.R_apart' (HO_9.out) (Kd.S_typed HO_262000.out) (by decide)) (fun k_ hk => ⟨hk.1, hk.2⟩))) (fun _ h_ => h_))); (case aB => exact (bE HB GE253 GE254 GE261)); (case aF => exact (fun k_ hk => Kd.fresh' (Kd.R_lt (pR HO_262001)) k_ hk)); (case aO => exact (by (with_reducible repeat (first | apply Kd.S_alloc | apply Kd.S_drewN | apply Kd.S_drew)); exact Kd.S_mono HO_262000.out (fun k_ hk => ⟨hk.2, fun e_ => hk.1 e_⟩))); (case aS => exact (below_size (bE HB GE253 GE254 GE261))); (case aL => have := LMc48.out; omega); intro v273 w52 ho hb hg hat; rw [← Ny272.out] at ho; have n0_ := Aside0.mk (Kd.R_over' (pR HO_262001) (Kd.S_typed (pS HO_262000)) (by decide) hg); have n1_ := Aside0.mk (blk_grown (g := gb253) (o := .cells #[.slice (some ad262) l0_0.length c0_0, .slice A0_1 l0_1.length c0_1] 29 (0, 0)) (pB BK253) hg (Kd.S_ne HO_262000.out BK253.out (by decide))); have n2_ := Aside0.mk (blk_grown (g := gb254) (o := .cells #[.slice none 0 0, .slice none 0 0] 29 (0, 0)) (pB BK254) hg (Kd.S_ne HO_262000.out BK254.out (by decide))); have n3_ := Aside0.mk (blk_grown (g := gb261) (o := .cells #[u262000, .slice Ao25 t258.length co25] 29 (0, 0)) (pB BK261) hg (Kd.S_ne HO_262000.out BK261.out (by decide))); have n4_ := Aside0.mk (hb); have n5_ := Aside0.mk (ho); clear HO_262001; clear BK253; clear BK254; clear BK261; clear HB; clear HO_262000; clear HO_9; have HO_262001 := n0_; have BK253 := n1_; have BK254 := n2_; have BK261 := n3_; have HB := n4_; have HO274 := n5_; clear n0_ n1_ n2_ n3_ n4_ n5_; clear ho hb hg hat; obtain ⟨Ao54, co54, eo54⟩ := Kd.S_slice HO274.out; subst eo54; have hcz55_0 : w52.cell? ⟨gb261, 0, none⟩ = some (u262000) := (blk_cell BK261.out 0).trans rfl; have hcz55_1 : w52.cell? ⟨gb261, 1, none⟩ = some (.slice Ao25 t258.length co25) := (blk_cell BK261.out 1).trans rfl; have hfz55_0 := blk_frozen BK261.out 0; have hfz55_1 := blk_frozen BK261.out 1))
                   go_roundg k3
                   case measure => have := HJ2.out; have := HK2.out; have := HK3.out; omega
                   case rel => exact ⟨(wrap64 (x36_2 + 1)), (y272), (.slice Ao54 y272.length co54), rD, H', ⟨by have := HJ2.out; have := HK2.out; have := HK3.out; omega⟩, ⟨by (with_reducible repeat (first | apply Kd.S_alloc | apply Kd.S_drewN | apply Kd.S_drew)); exact Kd.S_mono (Kd.S_far (p := ⟨gb261, 0, none⟩) (Kd.S_types HO274.out BK261.out (by decide)) (fun _ hk => hk.2) (.slice Ao54 y272.length co54)) (fun _ hk => hk.1)⟩, ⟨by (with_reducible repeat (first | apply Kd.R_alloc | apply Kd.R_drewN | apply Kd.R_drew)); exact Kd.R_mono (Kd.R_far (p := ⟨gb261, 0, none⟩) (Kd.R_types HO_262001.out BK261.out (by decide)) (fun _ hk => hk.2) (.slice Ao54 y272.length co54)) (fun _ hk => trivial)⟩, ⟨by (with_reducible repeat (first | refine blk_drewN ?_ _ | refine blk_drew ?_ | refine blk_alloc ?_ _)); refine blk_far ?_ NB253_261.out _; (with_reducible repeat (first | refine blk_drewN ?_ _ | refine blk_drew ?_ | refine blk_alloc ?_ _)); exact BK253.out⟩, ⟨by (with_reducible repeat (first | refine blk_drewN ?_ _ | refine blk_drew ?_ | refine blk_alloc ?_ _)); refine blk_far ?_ NB254_261.out _; (with_reducible repeat (first | refine blk_drewN ?_ _ | refine blk_drew ?_ | refine blk_alloc ?_ _)); exact BK254.out⟩, ⟨by (with_reducible repeat (first | refine blk_drewN ?_ _ | refine blk_drew ?_ | refine blk_alloc ?_ _)); refine blk_put (cs := #[u262000, .slice Ao25 t258.length co25]) ?_ 0 _ rfl; (with_reducible repeat (first | refine blk_drewN ?_ _ | refine blk_drew ?_ | refine blk_alloc ?_ _)); exact BK261.out⟩, ⟨bE HB GE253 GE254 GE261⟩⟩
                 · rw [if_neg c48] at H
                   exact absurd H (by simp)
           · rw [if_neg c33] at H
             exact absurd H (by simp)
         · rw [if_neg c32] at H
           exact absurd H (by simp)
       · rw [if_neg c31] at H
         have c31b0 : decide (x36_2 < (l0_0.length : Int)) = false := decide_eq_false c31
         clear c31
         simp only [Option.some.injEq, Prod.mk.injEq] at H
         obtain ⟨rfl, rfl, rfl⟩ := H
         have hnb56 := NB261_253.out
         have hnc56 := NB253_261.out
         have hnb57 := NB261_254.out
         have hnc57 := NB254_261.out
         have hcz58_0 : wr.cell? ⟨gb261, 0, none⟩ = some (u262000) := (blk_cell BK261.out 0).trans rfl
         have hcz58_1 : wr.cell? ⟨gb261, 1, none⟩ = some (.slice Ao25 t258.length co25) := (blk_cell BK261.out 1).trans rfl
         have hfz58_0 := blk_frozen BK261.out 0
         have hfz58_1 := blk_frozen BK261.out 1
         obtain ⟨Ao59, co59, eo59⟩ := Kd.S_slice HO_262000.out
         subst eo59
         have hnb60 := NB254_253.out
         have hnc60 := NB253_254.out
         have hcz61_0 : wr.cell? ⟨gb254, 0, none⟩ = some (.slice none 0 0) := (blk_cell BK254.out 0).trans rfl
         have hcz61_1 : wr.cell? ⟨gb254, 1, none⟩ = some (.slice none 0 0) := (blk_cell BK254.out 1).trans rfl
         have hfz61_0 := blk_frozen BK254.out 0
         have hfz61_1 := blk_frozen BK254.out 1
         go_wp2
         refine bodyPost_ret (results_ct rfl _ _ gb254 29 #[.slice Ao59 x262000_2.length co59, .slice Ao25 t258.length co25] (0, 0) _ rfl (by (with_reducible repeat (first | refine blk_drewN ?_ _ | refine blk_drew ?_ | refine blk_alloc ?_ _)); refine blk_put (cs := #[.slice Ao59 x262000_2.length co59, .slice none 0 0]) ?_ 1 _ rfl; (with_reducible repeat (first | refine blk_drewN ?_ _ | refine blk_drew ?_ | refine blk_alloc ?_ _)); refine blk_put (cs := #[.slice none 0 0, .slice none 0 0]) ?_ 0 _ rfl; (with_reducible repeat (first | refine blk_drewN ?_ _ | refine blk_drew ?_ | refine blk_alloc ?_ _)); exact BK254.out) Try.underlying29 rfl (by kernel_rfl)) rfl ?_
         exact ⟨_, _, eW, by (with_reducible repeat (first | apply Kd.S_alloc | apply Kd.S_drewN | apply Kd.S_drew)); exact Kd.S_mono (Kd.S_far (p := ⟨gb254, 1, none⟩) (Kd.S_far (p := ⟨gb254, 0, none⟩) (Kd.S_types HO_262000.out BK254.out (by decide)) (fun _ hk => hk.2) (.slice Ao59 x262000_2.length co59)) (fun _ hk => hk.2) (.slice Ao25 t258.length co25)) (fun _ hk => hk.1), by (with_reducible repeat (first | apply Kd.R_alloc | apply Kd.R_drewN | apply Kd.R_drew)); exact Kd.R_mono (Kd.R_far (p := ⟨gb254, 1, none⟩) (Kd.R_far (p := ⟨gb254, 0, none⟩) (Kd.R_types HO_262001.out BK254.out (by decide)) (fun _ hk => hk.2) (.slice Ao59 x262000_2.length co59)) (fun _ hk => hk.2) (.slice Ao25 t258.length co25)) (fun _ hk => trivial), bE HB GE253 GE254 GE261⟩

end Go.Proofs.Ytniebbjbihenfaa.PFnExactSidesSample
