-- Printed by wip/tools/myprint.py (the printer of the kit, patched by that program; roots chosen by it)
import Derived.Test.YtihhedemdkifhaaPFnExactLeftOutMistakesx0
import Derived.Test.YtihhedemdkifhaaPFnExactLeftOutMistakesx2
import Derived.Test.YtihhedemdkifhaaPFnExactLeftOutMistakesx3
import Derived.Test.YtihhedemdkifhaaPFnExactLeftOutMistakesx5
import Derived.Test.YtihhedemdkifhaaSh
namespace Go.Proofs.Ytihhedemdkifhaa.PFnExactLeftOutMistakes
open Go.RowKit Go.Proofs.Ytihhedemdkifhaa.Sh Go.Proofs.YtihhedemdkifhaaW.PrintWords Go.Proofs.YtihhedemdkifhaaW.PrintLast Go.Proofs.YtihhedemdkifhaaW.PrintMore
attribute [local go_sem] max2_int min2_int max_two min_two max_three min_three max_four min_four   -- for this text's walks alone
set_option linter.unusedVariables false
set_option linter.unusedSimpArgs false

/-! ### spec_LeftOutMistakes: function 40 -/
mutual
def spec_LeftOutMistakes.j0 : Nat → Int → List Int → Bool → List (List Int) → List Int → Option (List Int × Bool)
 | 0, _, _, _, _, _ => none
 | k + 1, x1, x6, x20, x172000, x172001 => if x20 = true then (some (x6, false)) else (spec_LeftOutMistakes.l0 k x1 x6 0 x172000 x172001)
def spec_LeftOutMistakes.l0 : Nat → Int → List Int → Int → List (List Int) → List Int → Option (List Int × Bool)
 | 0, _, _, _, _, _ => none
 | k + 1, x1, x6, x7, x172000, x172001 => if x7 < (x172000.length : Int) then ((spec_l4Left.f k (x172000.length : Int) (([x7] : List Int))).bind fun t180 => (if 0 ≤ x7 then ((spec_l10Label.f k x172000 x172001 t180 (rd_L1 x172000 x7) x1).bind fun t184 => (if x7 < (x172001.length : Int) then (if t184 = (rd x172001 x7) then (spec_LeftOutMistakes.l0 k x1 x6 (wrap64 (x7 + 1)) x172000 x172001) else (if x6.length < 17592186044416 then (spec_LeftOutMistakes.l0 k x1 (x6 ++ [x7]) (wrap64 (x7 + 1)) x172000 x172001) else (none))) else (none))) else (none))) else (some (x6, true))
end
def spec_LeftOutMistakes.f (k : Nat) (l0_0 : List (List Int)) (l0_1 : List Int) (a1 : Int) : Option (List Int × Bool) := (some (([] : List Int) : List Int)).bind fun y172 => ((spec_l2Sample.f k l0_0 l0_1).bind fun t175 => (if t175 = true then ((spec_l1In.f a1 1 (wrap64 ((l0_0.length : Int) - 1))).bind fun t176 => (spec_LeftOutMistakes.j0 k a1 y172 (!t176) l0_0 l0_1)) else (spec_LeftOutMistakes.j0 k a1 y172 true l0_0 l0_1)))
def spec_LeftOutMistakes.T7 : Bool × List (List Nat × List Nat) := (true, [([], []), ([], []), ([1], [1]), ([2], [2]), ([], []), ([4], [4]), ([3, 5], [3, 5]), ([], []), ([7], [7]), ([], []), ([8, 9], [8, 9]), ([10], [10]), ([], []), ([0, 6, 11, 12, 6], [0, 6, 11, 12]), ([], []), ([14], [14]), ([], []), ([15, 16], [15, 16]), ([17], [17]), ([13, 18], [13, 18])])
def spec_LeftOutMistakes.B7 : List Nat := [0, 0, 2, 6, 0, 16, 62, 0, 128, 0, 896, 1920, 0, 8191, 0, 16384, 0, 114688, 245760, 524287]
theorem spec_LeftOutMistakes.tab7 : rtab .any (opsOf Try.f40 7) = spec_LeftOutMistakes.T7 := by kernel_rfl
theorem spec_LeftOutMistakes.bits7 : waitsOk spec_LeftOutMistakes.T7.2 spec_LeftOutMistakes.B7 = true := by kernel_rfl
set_option maxHeartbeats 8000000 in
set_option maxRecDepth 100000 in
theorem spec_LeftOutMistakes.calls (k : Nat) (A0_0 : Option Addr) (c0_0 : Nat) (l0_0 : List (List Int)) (A0_1 : Option Addr) (c0_1 : Nat) (l0_1 : List Int) (a1 : Int) (r1 : List Int) (r2 : Bool) (w : World) (hr0_0 : Kd.C (Kd.slice 3 (Kd.int .i64)) w A0_0 l0_0.length l0_0) (hc0_0 : l0_0.length ≤ c0_0) (hr0_1 : Kd.C (Kd.int .i64) w A0_1 l0_1.length l0_1) (hc0_1 : l0_1.length ≤ c0_1) (h : spec_LeftOutMistakes.f k l0_0 l0_1 a1 = some (r1, r2)) :
 Calls Try.prog 40 #[.agg #[.slice A0_0 l0_0.length c0_0, .slice A0_1 l0_1.length c0_1], .int .i64 a1] w fun e w' => ∃ v0_ : Value, e = .returned (.tuple #[v0_, .bool r2]) ∧ Kd.R (Kd.int .i64) 3 w' w.heap.size (fun _ => True) v0_ r1 ∧ Below w.heap.size w w' := by
 have hu49 := Try.underlying49
 have HR0_0 := Aside0.mk hr0_0
 have HC0_0 := Aside0.mk hc0_0
 clear hr0_0 hc0_0
 have HR0_1 := Aside0.mk hr0_1
 have HC0_1 := Aside0.mk hc0_1
 clear hr0_1 hc0_1
 have HB := Aside0.mk (Below.refl w.heap.size w)
 have H : ((some (([] : List Int) : List Int)).bind fun y172 => ((spec_l2Sample.f k l0_0 l0_1).bind fun t175 => (if t175 = true then ((spec_l1In.f a1 1 (wrap64 ((l0_0.length : Int) - 1))).bind fun t176 => (spec_LeftOutMistakes.j0 k a1 y172 (!t176) l0_0 l0_1)) else (spec_LeftOutMistakes.j0 k a1 y172 true l0_0 l0_1)))) = some (r1, r2) := h
 clear h
 obtain ⟨y172, hy172⟩ : ∃ y_ : List Int, y_ = (([] : List Int)) := ⟨_, rfl⟩
 replace H : ((spec_l2Sample.f k l0_0 l0_1).bind fun t175 => (if t175 = true then ((spec_l1In.f a1 1 (wrap64 ((l0_0.length : Int) - 1))).bind fun t176 => (spec_LeftOutMistakes.j0 k a1 y172 (!t176) l0_0 l0_1)) else (spec_LeftOutMistakes.j0 k a1 y172 true l0_0 l0_1))) = some (r1, r2) := by first | (rw [hy172]; with_reducible exact H) | (have H2_ := (Option.bind_some _ _).symm.trans H; rw [hy172]; with_reducible exact H2_) | (have H2_ := (Option.bind_some _ _).symm.trans H; with_reducible exact H2_) | with_reducible exact H | (rw [hy172]; exact H) | exact H
 have Ny172 := Aside0.mk hy172
 clear hy172
 have HC3 := Aside0.mk H
 clear H
 go_enter Try.func40, Try.ntmps40
 go_upto_region 2 with (first | ((with_reducible refine gate_dst (N := 2) rfl ?_); refine box_event ?hg (N := 2) ?hd (cs := #[.slice A0_0 l0_0.length c0_0, .slice A0_1 l0_1.length c0_1]) (t := 49) ?hr ?_; (case hd => rfl); (case hg => rfl); (case hr => first | (go_simp; done) | (go_simp; rfl)); intro gb171 hg w4 hbox hb; have n0_ := Aside0.mk (below_step (bB HB) hb); have n1_ := Aside0.mk (hbox); have n2_ := Aside0.mk ((by rw [hg]; exact (below_size (bB HB)) : w.heap.size ≤ gb171)); have n3_ := Aside0.mk ((by rw [hg]; exact (below_size (bB HB)) : w.heap.size ≤ gb171)); clear HB; have HB := n0_; have BK171 := n1_; have GW171 := n2_; have GE171 := n3_; clear n0_ n1_ n2_ n3_; clear hb hbox hg) | ((with_reducible refine gate_dst (N := 8) rfl ?_); refine Kd.R_lit (Kd.int .i64) _ 3 ?hg (N := 8) ?hd (xs := ([] : List Int)) (inner := []) (ok := fun _ => True) (okp := fun _ => True) ?hr ?hp (fun _ hk => hk) trivial (Below.refl _ _) (Nat.le_refl _) (by simp) ?_; (case hd => rfl); (case hg => rfl); (case hr => first | (go_simp; done) | (go_simp; rfl)); (case hp => exact (Reps.none _ _)); intro v173 w5 ho6 hb hg_ hnew_; clear hg_ hnew_; (first | rw [← Ny172.out] at ho6 | (simp only [Int.reduceToNat] at ho6; rw [← Ny172.out] at ho6)); have n0_ := Aside0.mk (Kd.R_lower ho6 (below_size (bC HB GE171))); have n1_ := Aside0.mk (bW BK171 hb); have n2_ := Aside0.mk (below_step (bC HB GE171) hb); clear BK171; clear HB; have HO174 := n0_; have BK171 := n1_; have HB := n2_; clear n0_ n1_ n2_; clear hb ho6))
 (try simp only [Act.put, List.setIfInBounds_toArray, List.set_cons_zero, List.set_cons_succ])
 go_cut [20] (fun v20 wc => ∃ (kq : Nat) (x20_2 : Bool), v20 = .bool x20_2 ∧ Aside0 (spec_LeftOutMistakes.j0 kq a1 y172 x20_2 l0_0 l0_1 = some (r1, r2)) ∧ Aside0 (kq ≤ k) ∧ Aside0 (Kd.R (Kd.int .i64) 3 wc w.heap.size (fun _ => True) v173 y172) ∧ Aside0 (wc.heap[gb171]? = some (.cells #[(.slice A0_0 l0_0.length c0_0), (.slice A0_1 l0_1.length c0_1)] 49 (0, 0))) ∧ Aside0 (Below w.heap.size w wc))
 case first =>
  have H := HC3.out
  clear HC3
  replace H := Option.bind_eq_some_iff.mp H
  obtain ⟨t175, A70, H⟩ := H
  replace H : (if t175 = true then ((spec_l1In.f a1 1 (wrap64 ((l0_0.length : Int) - 1))).bind fun t176 => (spec_LeftOutMistakes.j0 k a1 y172 (!t176) l0_0 l0_1)) else (spec_LeftOutMistakes.j0 k a1 y172 true l0_0 l0_1)) = some (r1, r2) := H
  have A7 := Aside0.mk A70
  clear A70
  by_cases c8 : t175 = true
  · subst c8
    have H1 : ((spec_l1In.f a1 1 (wrap64 ((l0_0.length : Int) - 1))).bind fun t176 => (spec_LeftOutMistakes.j0 k a1 y172 (!t176) l0_0 l0_1)) = some (r1, r2) := by rw [if_pos rfl] at H; exact H
    clear H
    have H := H1
    clear H1
    replace H := Option.bind_eq_some_iff.mp H
    obtain ⟨t176, A90, H⟩ := H
    replace H : (spec_LeftOutMistakes.j0 k a1 y172 (!t176) l0_0 l0_1) = some (r1, r2) := H
    have A9 := Aside0.mk A90
    clear A90
    have H' := Aside0.mk H
    clear H
    have hcz10_0 : w5.cell? ⟨gb171, 0, none⟩ = some (.slice A0_0 l0_0.length c0_0) := (blk_cell BK171.out 0).trans rfl
    have hcz10_1 : w5.cell? ⟨gb171, 1, none⟩ = some (.slice A0_1 l0_1.length c0_1) := (blk_cell BK171.out 1).trans rfl
    have hfz10_0 := blk_frozen BK171.out 0
    have hfz10_1 := blk_frozen BK171.out 1
    go_wp2_with (first | ((with_reducible refine gate_callee (f := 68) rfl ?_); refine goesL_ (some 10) rfl rfl Try.func68 (by kernel_rfl) rfl #[.agg #[.slice A0_0 l0_0.length c0_0, .slice A0_1 l0_1.length c0_1]] rfl aT ?_; (with_reducible refine (spec_l2Sample.calls k _ _ l0_0 _ _ l0_1 true _ ?side1 ?side2 ?side3 ?side4 A7.out).mono ?_); (case side1 => exact cB HR0_0 HB); (case side2 => exact HC0_0.out); (case side3 => exact cB HR0_1 HB); (case side4 => exact HC0_1.out); rintro e w11 ⟨rfl, hb⟩; refine ⟨_, rfl, ?_⟩; have n0_ := Aside0.mk (Kd.R_below (pR HO174) hb); have n1_ := Aside0.mk (bW BK171 hb); have n2_ := Aside0.mk (below_step (bC HB GE171) hb); clear HO174; clear BK171; clear HB; have HO174 := n0_; have BK171 := n1_; have HB := n2_; clear n0_ n1_ n2_; (try clear hb); (try clear hb2); (try clear hk); (try clear hi); have hcz12_0 : w11.cell? ⟨gb171, 0, none⟩ = some (.slice A0_0 l0_0.length c0_0) := (blk_cell BK171.out 0).trans rfl; have hcz12_1 : w11.cell? ⟨gb171, 1, none⟩ = some (.slice A0_1 l0_1.length c0_1) := (blk_cell BK171.out 1).trans rfl; have hfz12_0 := blk_frozen BK171.out 0; have hfz12_1 := blk_frozen BK171.out 1) | (go_at_call 53; (with_reducible refine (spec_l1In.calls a1 1 (wrap64 ((l0_0.length : Int) - 1)) t176 _ A9.out).mono ?_); rintro e w' ⟨rfl, ⟨nd, rfl⟩⟩))
    go_meet
    case rel => exact ⟨_, (!t176), rD, H', ⟨by first | omega | exact Nat.le_refl _⟩, ⟨pR HO174⟩, ⟨pB BK171⟩, ⟨bC HB GE171⟩⟩
  · replace c8 := Bool.eq_false_iff.mpr c8
    subst c8
    have H1 : (spec_LeftOutMistakes.j0 k a1 y172 true l0_0 l0_1) = some (r1, r2) := by rw [if_neg (show ¬ (false = true) by decide)] at H; exact H
    clear H
    have H := H1
    clear H1
    have H' := Aside0.mk H
    clear H
    have hcz13_0 : w5.cell? ⟨gb171, 0, none⟩ = some (.slice A0_0 l0_0.length c0_0) := (blk_cell BK171.out 0).trans rfl
    have hcz13_1 : w5.cell? ⟨gb171, 1, none⟩ = some (.slice A0_1 l0_1.length c0_1) := (blk_cell BK171.out 1).trans rfl
    have hfz13_0 := blk_frozen BK171.out 0
    have hfz13_1 := blk_frozen BK171.out 1
    go_wp2_with (first | ((with_reducible refine gate_callee (f := 68) rfl ?_); refine goesL_ (some 10) rfl rfl Try.func68 (by kernel_rfl) rfl #[.agg #[.slice A0_0 l0_0.length c0_0, .slice A0_1 l0_1.length c0_1]] rfl aT ?_; (with_reducible refine (spec_l2Sample.calls k _ _ l0_0 _ _ l0_1 false _ ?side1 ?side2 ?side3 ?side4 A7.out).mono ?_); (case side1 => exact cB HR0_0 HB); (case side2 => exact HC0_0.out); (case side3 => exact cB HR0_1 HB); (case side4 => exact HC0_1.out); rintro e w14 ⟨rfl, hb⟩; refine ⟨_, rfl, ?_⟩; have n0_ := Aside0.mk (Kd.R_below (pR HO174) hb); have n1_ := Aside0.mk (bW BK171 hb); have n2_ := Aside0.mk (below_step (bC HB GE171) hb); clear HO174; clear BK171; clear HB; have HO174 := n0_; have BK171 := n1_; have HB := n2_; clear n0_ n1_ n2_; (try clear hb); (try clear hb2); (try clear hk); (try clear hi)))
    go_meet
    case rel => exact ⟨_, (true), rD, H', ⟨by first | omega | exact Nat.le_refl _⟩, ⟨pR HO174⟩, ⟨pB BK171⟩, ⟨bC HB GE171⟩⟩
 case rest =>
  clear HC3
  obtain ⟨kq, x20_2, rfl, HA, HJ2, HO_6, BK171, HB⟩ := hcut
  cases kq with
  | zero => exact absurd HA.out (by simp [spec_LeftOutMistakes.j0])
  | succ kj2 =>
   have H := HA.out
   clear HA
   simp only [spec_LeftOutMistakes.j0] at H
   by_cases c15 : x20_2 = true
   · subst c15
     have H1 : (some (y172, false)) = some (r1, r2) := by rw [if_pos rfl] at H; exact H
     clear H
     have H := H1
     clear H1
     simp only [Option.some.injEq, Prod.mk.injEq] at H
     obtain ⟨rfl, rfl⟩ := H
     go_wp2
     go_ret2
     exact ⟨_, eW, by (with_reducible repeat (first | apply Kd.R_alloc | apply Kd.R_drewN | apply Kd.R_drew)); exact HO_6.out, bC HB GE171⟩
   · replace c15 := Bool.eq_false_iff.mpr c15
     subst c15
     have H1 : (spec_LeftOutMistakes.l0 kj2 a1 y172 0 l0_0 l0_1) = some (r1, r2) := by rw [if_neg (show ¬ (false = true) by decide)] at H; exact H
     clear H
     have H := H1
     clear H1
     have H' := Aside0.mk H
     clear H
     go_wp2
     go_loopg [6, 7] kj2 (fun kq v6 v7 w' => ∃ (x6_2 : List Int) (x7_2 : Int), v7 = .int .i64 x7_2 ∧ Aside0 (spec_LeftOutMistakes.l0 kq a1 x6_2 x7_2 l0_0 l0_1 = some (r1, r2)) ∧ Aside0 (kq ≤ kj2) ∧ Aside0 (Kd.R (Kd.int .i64) 3 w' w.heap.size (fun _ => True) v6 x6_2) ∧ Aside0 (w'.heap[gb171]? = some (.cells #[(.slice A0_0 l0_0.length c0_0), (.slice A0_1 l0_1.length c0_1)] 49 (0, 0))) ∧ Aside0 (Below w.heap.size w w'))
     case atStart => exact ⟨(y172), (0), rD, H', ⟨Nat.le_refl _⟩, ⟨pR HO_6⟩, ⟨pB BK171⟩, ⟨bC HB GE171⟩⟩
     case round =>
      clear H'
      try clear c15
      obtain ⟨x6_2, x7_2, rfl, HA, HK2, HO_6, BK171, HB⟩ := hrel
      cases gk with
      | zero => exact absurd HA.out (by simp [spec_LeftOutMistakes.l0])
      | succ k2 =>
       have H := HA.out
       clear HA
       simp only [spec_LeftOutMistakes.l0] at H
       by_cases c16 : x7_2 < (l0_0.length : Int)
       · rw [if_pos c16] at H
         have c16b0 : decide (x7_2 < (l0_0.length : Int)) = true := decide_eq_true c16
         clear c16
         obtain ⟨y177, hy177⟩ : ∃ y_ : List Int, y_ = (([x7_2] : List Int)) := ⟨_, rfl⟩
         replace H : ((spec_l4Left.f k2 (l0_0.length : Int) y177).bind fun t180 => (if 0 ≤ x7_2 then ((spec_l10Label.f k2 l0_0 l0_1 t180 (rd_L1 l0_0 x7_2) a1).bind fun t184 => (if x7_2 < (l0_1.length : Int) then (if t184 = (rd l0_1 x7_2) then (spec_LeftOutMistakes.l0 k2 a1 x6_2 (wrap64 (x7_2 + 1)) l0_0 l0_1) else (if x6_2.length < 17592186044416 then (spec_LeftOutMistakes.l0 k2 a1 (x6_2 ++ [x7_2]) (wrap64 (x7_2 + 1)) l0_0 l0_1) else (none))) else (none))) else (none))) = some (r1, r2) := by first | (rw [hy177]; with_reducible exact H) | (have H2_ := (Option.bind_some _ _).symm.trans H; rw [hy177]; with_reducible exact H2_) | (have H2_ := (Option.bind_some _ _).symm.trans H; with_reducible exact H2_) | with_reducible exact H | (rw [hy177]; exact H) | exact H
         have Ny177 := Aside0.mk hy177
         clear hy177
         replace H := Option.bind_eq_some_iff.mp H
         obtain ⟨t180, A170, H⟩ := H
         replace H : (if 0 ≤ x7_2 then ((spec_l10Label.f k2 l0_0 l0_1 t180 (rd_L1 l0_0 x7_2) a1).bind fun t184 => (if x7_2 < (l0_1.length : Int) then (if t184 = (rd l0_1 x7_2) then (spec_LeftOutMistakes.l0 k2 a1 x6_2 (wrap64 (x7_2 + 1)) l0_0 l0_1) else (if x6_2.length < 17592186044416 then (spec_LeftOutMistakes.l0 k2 a1 (x6_2 ++ [x7_2]) (wrap64 (x7_2 + 1)) l0_0 l0_1) else (none))) else (none))) else (none)) = some (r1, r2) := H
         have A17 := Aside0.mk A170
         clear A170
         by_cases c18 : 0 ≤ x7_2
         · rw [if_pos c18] at H
           have c18b0 : decide (0 ≤ x7_2) = true := decide_eq_true c18
           clear c18
           replace H := Option.bind_eq_some_iff.mp H
           obtain ⟨t184, A190, H⟩ := H
           replace H : (if x7_2 < (l0_1.length : Int) then (if t184 = (rd l0_1 x7_2) then (spec_LeftOutMistakes.l0 k2 a1 x6_2 (wrap64 (x7_2 + 1)) l0_0 l0_1) else (if x6_2.length < 17592186044416 then (spec_LeftOutMistakes.l0 k2 a1 (x6_2 ++ [x7_2]) (wrap64 (x7_2 + 1)) l0_0 l0_1) else (none))) else (none)) = some (r1, r2) := H
           have A19 := Aside0.mk A190
           clear A190
           by_cases c20 : x7_2 < (l0_1.length : Int)
           · rw [if_pos c20] at H
             have c20b0 : decide (x7_2 < (l0_1.length : Int)) = true := decide_eq_true c20
             clear c20
             by_cases c21 : t184 = (rd l0_1 x7_2)
             · rw [if_pos c21] at H
               have c21b0 : (t184 == (rd l0_1 x7_2)) = true := beq_iff_eq.mpr c21
               have c21b1 : (t184 != (rd l0_1 x7_2)) = false := bne_eq_false_iff_eq.mpr c21
               clear c21
               have H' := Aside0.mk H
               clear H
               have hcz22_0 : wr.cell? ⟨gb171, 0, none⟩ = some (.slice A0_0 l0_0.length c0_0) := (blk_cell BK171.out 0).trans rfl
               have hcz22_1 : wr.cell? ⟨gb171, 1, none⟩ = some (.slice A0_1 l0_1.length c0_1) := (blk_cell BK171.out 1).trans rfl
               have hfz22_0 := blk_frozen BK171.out 0
               have hfz22_1 := blk_frozen BK171.out 1
               try go_wp2
               have n0_ := Aside0.mk (Kd.R_drew HO_6.out)
               have n1_ := Aside0.mk (blk_drew BK171.out)
               have n2_ := Aside0.mk (below_drew1 HB.out)
               clear HO_6
               clear BK171
               clear HB
               have HO_6 := n0_
               have BK171 := n1_
               have HB := n2_
               clear n0_ n1_ n2_
               have p183 : 0 ≤ (x7_2 : Int) := of_decide_eq_true aS
               have q183 : x7_2 < (l0_0.length : Int) := of_decide_eq_true aS
               obtain ⟨ad183, A183_0, c183_0, e183, hx183_0, hl183_0, hi183_0⟩ := at_L1 HR0_0.out x7_2 p183 q183
               have hw183_0 := hx183_0
               cases e183
               replace hx183_0 := (HB.out.cell (World.block_lt_of_cell? w _ hx183_0)).trans hx183_0
               have HR183_0 := Aside0.mk hi183_0
               have HC183_0 := Aside0.mk hl183_0
               clear hi183_0 hl183_0
               replace p183 := eq_true p183
               replace q183 := eq_true q183
               have p185 : 0 ≤ (x7_2 : Int) := of_decide_eq_true aS
               have q185 : x7_2 < (l0_1.length : Int) := of_decide_eq_true aS
               obtain ⟨ad185, e185, hx185_0⟩ := Kd.at_int HR0_1.out x7_2 p185 q185
               have hw185_0 := hx185_0
               cases e185
               replace hx185_0 := (HB.out.cell (World.block_lt_of_cell? w _ hx185_0)).trans hx185_0
               replace p185 := eq_true p185
               replace q185 := eq_true q185
               refine start_ (n := 20) (S := fun w' => w'.cell? ⟨gb171, 0, none⟩ = some (.slice (some ad183) l0_0.length c0_0) ∧ w'.cell? ⟨gb171, 1, none⟩ = some (.slice (some ad185) l0_1.length c0_1) ∧ w'.cell? (ad183.add (x7_2).toNat) = some (.slice A183_0 (rd_L1 l0_0 x7_2).length c183_0) ∧ w'.cell? (ad185.add (x7_2).toNat) = some (.int .i64 (rd l0_1 x7_2))) (ds := []) #[false, false, false, false, false, false, false, false, false, false, false, false, false, false, false, false, false, false, false, false] (by kernel_rfl) rfl rfl ⟨(blk_cell BK171.out 0).trans rfl, (blk_cell BK171.out 1).trans rfl, ((HB.out.cell (World.block_lt_of_cell? w _ hw183_0)).trans hw183_0), ((HB.out.cell (World.block_lt_of_cell? w _ hw185_0)).trans hw185_0)⟩ (fun hHeld => ?_); refine with_tabW spec_LeftOutMistakes.tab7 spec_LeftOutMistakes.bits7 (fun HT_ HW_ => ?_)
               generalize wr.drew = w23 at HO_6 BK171 HB HR183_0 hx183_0 hx185_0 hHeld ⊢
               refine pure_ (i := 1) (N := some 30) (v := ?_) (a' := ?_) #[false, true, false, false, false, false, false, false, false, false, false, false, false, false, false, false, false, false, false, false] rfl rfl (any_of HT_.out (by kernel_rfl)) (fun _ _ _ h => h) (Or.inl ⟨by rfl, ?_⟩) ?_ ?_
               rotate_left
               · intro w'
                 go_simp
                 with_reducible rfl
               rotate_left
               · exact aP
               refine pure_ (i := 4) (N := some 33) (v := ?_) (a' := ?_) #[false, true, false, false, true, false, false, false, false, false, false, false, false, false, false, false, false, false, false, false] rfl rfl (any_of HT_.out (by kernel_rfl)) (fun _ _ _ h => h) (Or.inl ⟨by rfl, ?_⟩) ?_ ?_
               rotate_left
               · intro w'
                 go_simp
                 with_reducible rfl
               rotate_left
               · exact aP
               refine pure_ (i := 7) (N := some 36) (v := ?_) (a' := ?_) #[false, true, false, false, true, false, false, true, false, false, false, false, false, false, false, false, false, false, false, false] rfl rfl (any_of HT_.out (by kernel_rfl)) (fun _ _ _ h => h) (Or.inl ⟨by rfl, ?_⟩) ?_ ?_
               rotate_left
               · intro w'
                 go_simp
                 with_reducible rfl
               rotate_left
               · exact aP
               refine pure_ (i := 9) (N := some 38) (v := ?_) (a' := ?_) #[false, true, false, false, true, false, false, true, false, true, false, false, false, false, false, false, false, false, false, false] rfl rfl (any_of HT_.out (by kernel_rfl)) (fun _ _ _ h => h) (Or.inl ⟨by rfl, ?_⟩) ?_ ?_
               rotate_left
               · intro w'
                 go_simp
                 with_reducible rfl
               rotate_left
               · exact aP
               refine pure_ (i := 12) (N := some 41) (v := ?_) (a' := ?_) #[false, true, false, false, true, false, false, true, false, true, false, false, true, false, false, false, false, false, false, false] rfl rfl (any_of HT_.out (by kernel_rfl)) (fun _ _ _ h => h) (Or.inl ⟨by rfl, ?_⟩) ?_ ?_
               rotate_left
               · intro w'
                 go_simp
                 with_reducible rfl
               rotate_left
               · exact aP
               refine pure_ (i := 14) (N := some 43) (v := ?_) (a' := ?_) #[false, true, false, false, true, false, false, true, false, true, false, false, true, false, true, false, false, false, false, false] rfl rfl (any_of HT_.out (by kernel_rfl)) (fun _ _ _ h => h) (Or.inl ⟨by rfl, ?_⟩) ?_ ?_
               rotate_left
               · intro w'
                 go_simp
                 with_reducible rfl
               rotate_left
               · exact aP
               refine pure_ (i := 16) (N := some 45) (v := ?_) (a' := ?_) #[false, true, false, false, true, false, false, true, false, true, false, false, true, false, true, false, true, false, false, false] rfl rfl (any_of HT_.out (by kernel_rfl)) (fun _ _ _ h => h) (Or.inl ⟨by rfl, ?_⟩) ?_ ?_
               rotate_left
               · intro w'
                 go_simp
                 with_reducible rfl
               rotate_left
               · exact aP
               refine take_ (i := 0) (N := some 29) (v := ?_) (a' := ?_) #[true, true, false, false, true, false, false, true, false, true, false, false, true, false, true, false, true, false, false, false] rfl rfl (take_ofW HT_.out HW_.out (by kernel_rfl)) (fun _ _ _ h => h) (Or.inl ⟨by rfl, ?_⟩) hHeld ?_ ?_
               rotate_left
               · rintro w' ⟨s0, s1, s2, s3⟩
                 go_simp
                 with_reducible rfl
               rotate_left
               · exact aP
               refine take_ (i := 2) (N := some 31) (v := ?_) (a' := ?_) #[true, true, true, false, true, false, false, true, false, true, false, false, true, false, true, false, true, false, false, false] rfl rfl (take_ofW HT_.out HW_.out (by kernel_rfl)) (fun _ _ _ h => h) (Or.inl ⟨by rfl, ?_⟩) hHeld ?_ ?_
               rotate_left
               · rintro w' ⟨s0, s1, s2, s3⟩
                 go_simp
                 with_reducible rfl
               rotate_left
               · exact aP
               refine pure_ (i := 3) (N := some 32) (v := ?_) (a' := ?_) #[true, true, true, true, true, false, false, true, false, true, false, false, true, false, true, false, true, false, false, false] rfl rfl (any_of HT_.out (by kernel_rfl)) (fun _ _ _ h => h) (Or.inl ⟨by rfl, ?_⟩) ?_ ?_
               rotate_left
               · intro w'
                 go_simp
                 with_reducible rfl
               rotate_left
               · exact aP
               refine take_ (i := 8) (N := some 37) (v := ?_) (a' := ?_) #[true, true, true, true, true, false, false, true, true, true, false, false, true, false, true, false, true, false, false, false] rfl rfl (take_ofW HT_.out HW_.out (by kernel_rfl)) (fun _ _ _ h => h) (Or.inl ⟨by rfl, ?_⟩) hHeld ?_ ?_
               rotate_left
               · rintro w' ⟨s0, s1, s2, s3⟩
                 go_simp
                 with_reducible rfl
               rotate_left
               · exact aP
               refine pure_ (i := 10) (N := some 39) (v := ?_) (a' := ?_) #[true, true, true, true, true, false, false, true, true, true, true, false, true, false, true, false, true, false, false, false] rfl rfl (any_of HT_.out (by kernel_rfl)) (fun _ _ _ h => h) (Or.inl ⟨by rfl, ?_⟩) ?_ ?_
               rotate_left
               · intro w'
                 go_simp
                 with_reducible rfl
               rotate_left
               · exact aP
               refine take_ (i := 11) (N := some 40) (v := ?_) (a' := ?_) #[true, true, true, true, true, false, false, true, true, true, true, true, true, false, true, false, true, false, false, false] rfl rfl (take_ofW HT_.out HW_.out (by kernel_rfl)) (fun _ _ _ h => h) (Or.inl ⟨by rfl, ?_⟩) hHeld ?_ ?_
               rotate_left
               · rintro w' ⟨s0, s1, s2, s3⟩
                 go_simp
                 with_reducible rfl
               rotate_left
               · exact aP
               refine take_ (i := 15) (N := some 44) (v := ?_) (a' := ?_) #[true, true, true, true, true, false, false, true, true, true, true, true, true, false, true, true, true, false, false, false] rfl rfl (take_ofW HT_.out HW_.out (by kernel_rfl)) (fun _ _ _ h => h) (Or.inl ⟨by rfl, ?_⟩) hHeld ?_ ?_
               rotate_left
               · rintro w' ⟨s0, s1, s2, s3⟩
                 go_simp
                 with_reducible rfl
               rotate_left
               · exact aP
               refine pure_ (i := 17) (N := some 46) (v := ?_) (a' := ?_) #[true, true, true, true, true, false, false, true, true, true, true, true, true, false, true, true, true, true, false, false] rfl rfl (any_of HT_.out (by kernel_rfl)) (fun _ _ _ h => h) (Or.inl ⟨by rfl, ?_⟩) ?_ ?_
               rotate_left
               · intro w'
                 go_simp
                 with_reducible rfl
               rotate_left
               · exact aP
               refine take_ (i := 18) (N := some 47) (v := ?_) (a' := ?_) #[true, true, true, true, true, false, false, true, true, true, true, true, true, false, true, true, true, true, true, false] rfl rfl (take_ofW HT_.out HW_.out (by kernel_rfl)) (fun _ _ _ h => h) (Or.inl ⟨by rfl, ?_⟩) hHeld ?_ ?_
               rotate_left
               · rintro w' ⟨s0, s1, s2, s3⟩
                 go_simp
                 with_reducible rfl
               rotate_left
               · exact aP
               refine one_ (i := 5) (N := some 34) #[true, true, true, true, true, true, false, true, true, true, true, true, true, false, true, true, true, true, true, false] rfl rfl (one_of HT_.out (by kernel_rfl)) (by decide) (fun K hK => ?_)
               refine Kd.R_lit_step (Kd.int .i64) _ 3 ?hg (N := 34) ?hd (xs := ([x7_2] : List Int)) (inner := [.int .i64 x7_2]) (ok := fun _ => True) (okp := fun _ => True) ?hr ?hp (fun _ hk => hk) trivial (Below.refl _ _) (Nat.le_refl _) (by simp) ?_; (case hd => rfl); (case hg => rfl); (case hr => first | (go_simp; done) | (go_simp; rfl)); (case hp => exact (Reps.one (show Kd.M (Kd.int .i64) _ _ _ x7_2 [.int .i64 x7_2] from rfl) (Reps.none _ _)))
               intro v178 w24 ho25 hb hg_ hnew_
               clear hg_ hnew_
               (first | rw [← Ny177.out] at ho25 | (simp only [Int.reduceToNat] at ho25; rw [← Ny177.out] at ho25))
               have n0_ := Aside0.mk (Kd.R_elder' (pR HO_6) (Kd.R_base ho25) hb)
               have n1_ := Aside0.mk (Kd.R_lower (Kd.R_new' ho25 (Kd.R_lt (pR HO_6))) (below_size (bC HB GE171)))
               have n2_ := Aside0.mk (bW BK171 hb)
               have n3_ := Aside0.mk (below_step (bC HB GE171) hb)
               clear HO_6
               clear BK171
               clear HB
               have HO_6 := n0_
               have HO179 := n1_
               have BK171 := n2_
               have HB := n3_
               clear n0_ n1_ n2_ n3_
               clear hb ho25
               obtain ⟨Ao26, co26, eo26⟩ := Kd.R_slice HO179.out
               (first | subst eo26 | (injection eo26 with f1_ f2_ f3_; have f4_ := f1_.symm; have f5_ := f3_.symm; clear f1_ f2_ f3_; subst f4_; subst f5_))
               refine hK.out _ _ ⟨(blk_cell BK171.out 0).trans rfl, (blk_cell BK171.out 1).trans rfl, ((HB.out.cell (World.block_lt_of_cell? w _ hw183_0)).trans hw183_0), ((HB.out.cell (World.block_lt_of_cell? w _ hw185_0)).trans hw185_0)⟩ (fun hHeld => ?_)
               clear hK K
               refine norm_ (a' := ?_) ?_ ?_
               rotate_left
               · show Act.put _ (some 34) _ = _
                 simp only [Act.put, List.setIfInBounds_toArray, List.set_cons_zero, List.set_cons_succ, i64_w, i32_w]
                 rfl
               refine one_ (i := 6) (N := some 35) #[true, true, true, true, true, true, true, true, true, true, true, true, true, false, true, true, true, true, true, false] rfl rfl (one_of HT_.out (by kernel_rfl)) (by decide) (fun K hK => ?_)
               refine goes_ Try.func83 (by kernel_rfl) rfl #[.int .i64 (l0_0.length : Int), .slice Ao26 y177.length co26] (by rfl) rfl rfl aT ?_
               with_reducible refine (spec_l4Left.calls k2 (l0_0.length : Int) _ _ y177 t180 _ ?side1 ?side2 A17.out).mono ?_
               (case side1 => exact cR HO179)
               (case side2 => exact (Kd.R_reads' HO179.out).2.1)
               rintro e w27 ⟨v181, rfl, ho0, hb⟩
               refine ⟨_, rfl, ?_⟩
               have n0_ := Aside0.mk (Kd.R_elder' (pR HO_6) (Kd.R_base ho0) hb)
               have n1_ := Aside0.mk (Kd.R_elder' (pR HO179) (Kd.R_base ho0) hb)
               have n2_ := Aside0.mk (Kd.R_lower (Kd.R_new' (Kd.R_new' ho0 (Kd.R_lt (pR HO_6))) (Kd.R_lt (pR HO179))) (below_size (bC HB GE171)))
               have n3_ := Aside0.mk (bW BK171 hb)
               have n4_ := Aside0.mk (below_step (bC HB GE171) hb)
               clear HO_6
               clear HO179
               clear BK171
               clear HB
               have HO_6 := n0_
               have HO179 := n1_
               have HO182 := n2_
               have BK171 := n3_
               have HB := n4_
               clear n0_ n1_ n2_ n3_ n4_
               (try clear hb)
               (try clear hb2)
               (try clear hk)
               (try clear hi)
               (try clear ho0)
               obtain ⟨Ao28, co28, eo28⟩ := Kd.R_slice HO182.out
               (first | subst eo28 | (injection eo28 with f1_ f2_ f3_; have f4_ := f1_.symm; have f5_ := f3_.symm; clear f1_ f2_ f3_; subst f4_; subst f5_))
               refine hK.out _ _ ⟨(blk_cell BK171.out 0).trans rfl, (blk_cell BK171.out 1).trans rfl, ((HB.out.cell (World.block_lt_of_cell? w _ hw183_0)).trans hw183_0), ((HB.out.cell (World.block_lt_of_cell? w _ hw185_0)).trans hw185_0)⟩ (fun hHeld => ?_)
               clear hK K
               refine norm_ (a' := ?_) ?_ ?_
               rotate_left
               · show Act.put _ (some 35) _ = _
                 simp only [Act.put, List.setIfInBounds_toArray, List.set_cons_zero, List.set_cons_succ, i64_w, i32_w]
                 rfl
               refine one_ (i := 13) (N := some 42) #[true, true, true, true, true, true, true, true, true, true, true, true, true, true, true, true, true, true, true, false] rfl rfl (one_of HT_.out (by kernel_rfl)) (by decide) (fun K hK => ?_)
               refine goes_ Try.func81 (by kernel_rfl) rfl #[.agg #[.slice (some ad183) l0_0.length c0_0, .slice (some ad185) l0_1.length c0_1], .slice Ao28 t180.length co28, .slice A183_0 (rd_L1 l0_0 x7_2).length c183_0, .int .i64 a1] (by rfl) rfl rfl aT ?_
               with_reducible refine (spec_l10Label.calls k2 _ _ l0_0 _ _ l0_1 _ _ t180 _ _ (rd_L1 l0_0 x7_2) a1 t184 _ ?side1 ?side2 ?side3 ?side4 ?side5 ?side6 ?side7 ?side8 A19.out).mono ?_
               (case side1 => exact cB HR0_0 HB)
               (case side2 => exact HC0_0.out)
               (case side3 => exact cB HR0_1 HB)
               (case side4 => exact HC0_1.out)
               (case side5 => exact cR HO182)
               (case side6 => exact (Kd.R_reads' HO182.out).2.1)
               (case side7 => exact cB HR183_0 HB)
               (case side8 => exact HC183_0.out)
               rintro e w29 ⟨rfl, hb⟩
               refine ⟨_, rfl, ?_⟩
               have n0_ := Aside0.mk (Kd.R_below (pR HO_6) hb)
               have n1_ := Aside0.mk (Kd.R_below (pR HO179) hb)
               have n2_ := Aside0.mk (Kd.R_below (pR HO182) hb)
               have n3_ := Aside0.mk (bW BK171 hb)
               have n4_ := Aside0.mk (below_step (bC HB GE171) hb)
               clear HO_6
               clear HO179
               clear HO182
               clear BK171
               clear HB
               have HO_6 := n0_
               have HO179 := n1_
               have HO182 := n2_
               have BK171 := n3_
               have HB := n4_
               clear n0_ n1_ n2_ n3_ n4_
               (try clear hb)
               (try clear hb2)
               (try clear hk)
               (try clear hi)
               refine hK.out _ _ ⟨(blk_cell BK171.out 0).trans rfl, (blk_cell BK171.out 1).trans rfl, ((HB.out.cell (World.block_lt_of_cell? w _ hw183_0)).trans hw183_0), ((HB.out.cell (World.block_lt_of_cell? w _ hw185_0)).trans hw185_0)⟩ (fun hHeld => ?_)
               clear hK K
               refine norm_ (a' := ?_) ?_ ?_
               rotate_left
               · show Act.put _ (some 42) _ = _
                 simp only [Act.put, List.setIfInBounds_toArray, List.set_cons_zero, List.set_cons_succ, i64_w, i32_w]
                 rfl
               refine pure_ (i := 19) (N := some 48) (v := ?_) (a' := ?_) #[true, true, true, true, true, true, true, true, true, true, true, true, true, true, true, true, true, true, true, true] rfl rfl (any_of HT_.out (by kernel_rfl)) (fun _ _ _ h => h) (Or.inl ⟨by rfl, ?_⟩) ?_ ?_
               rotate_left
               · intro w'
                 go_simp
                 with_reducible rfl
               rotate_left
               · exact aP
               refine done_ (done_of HT_.out (by kernel_rfl)) ?_
               try go_wp2
               go_roundg k2
               case measure => have := HJ2.out; have := HK2.out; omega
               case rel => exact ⟨(x6_2), (wrap64 (x7_2 + 1)), rD, H', ⟨by have := HJ2.out; have := HK2.out; omega⟩, ⟨by (with_reducible repeat (first | apply Kd.R_alloc | apply Kd.R_drewN | apply Kd.R_drew)); exact Kd.R_mono HO_6.out (fun _ hk => trivial)⟩, ⟨pB BK171⟩, ⟨bC HB GE171⟩⟩
             · rw [if_neg c21] at H
               have c21b0 : (t184 == (rd l0_1 x7_2)) = false := beq_eq_false_iff_ne.mpr c21
               have c21b1 : (t184 != (rd l0_1 x7_2)) = true := bne_iff_ne.mpr c21
               by_cases c30 : x6_2.length < 17592186044416
               · rw [if_pos c30] at H
                 have LMc30 := Aside0.mk c30
                 clear c30
                 obtain ⟨y186, hy186⟩ : ∃ y_ : List Int, y_ = (x6_2 ++ [x7_2]) := ⟨_, rfl⟩
                 replace H : (spec_LeftOutMistakes.l0 k2 a1 y186 (wrap64 (x7_2 + 1)) l0_0 l0_1) = some (r1, r2) := by first | (rw [hy186]; with_reducible exact H) | (have H2_ := (Option.bind_some _ _).symm.trans H; rw [hy186]; with_reducible exact H2_) | (have H2_ := (Option.bind_some _ _).symm.trans H; with_reducible exact H2_) | with_reducible exact H | (rw [hy186]; exact H) | exact H
                 have Ny186 := Aside0.mk hy186
                 clear hy186
                 have H' := Aside0.mk H
                 clear H
                 have hcz31_0 : wr.cell? ⟨gb171, 0, none⟩ = some (.slice A0_0 l0_0.length c0_0) := (blk_cell BK171.out 0).trans rfl
                 have hcz31_1 : wr.cell? ⟨gb171, 1, none⟩ = some (.slice A0_1 l0_1.length c0_1) := (blk_cell BK171.out 1).trans rfl
                 have hfz31_0 := blk_frozen BK171.out 0
                 have hfz31_1 := blk_frozen BK171.out 1
                 try go_wp2
                 have n0_ := Aside0.mk (Kd.R_drew HO_6.out)
                 have n1_ := Aside0.mk (blk_drew BK171.out)
                 have n2_ := Aside0.mk (below_drew1 HB.out)
                 clear HO_6
                 clear BK171
                 clear HB
                 have HO_6 := n0_
                 have BK171 := n1_
                 have HB := n2_
                 clear n0_ n1_ n2_
                 have p183 : 0 ≤ (x7_2 : Int) := of_decide_eq_true aS
                 have q183 : x7_2 < (l0_0.length : Int) := of_decide_eq_true aS
                 obtain ⟨ad183, A183_0, c183_0, e183, hx183_0, hl183_0, hi183_0⟩ := at_L1 HR0_0.out x7_2 p183 q183
                 have hw183_0 := hx183_0
                 cases e183
                 replace hx183_0 := (HB.out.cell (World.block_lt_of_cell? w _ hx183_0)).trans hx183_0
                 have HR183_0 := Aside0.mk hi183_0
                 have HC183_0 := Aside0.mk hl183_0
                 clear hi183_0 hl183_0
                 replace p183 := eq_true p183
                 replace q183 := eq_true q183
                 have p185 : 0 ≤ (x7_2 : Int) := of_decide_eq_true aS
                 have q185 : x7_2 < (l0_1.length : Int) := of_decide_eq_true aS
                 obtain ⟨ad185, e185, hx185_0⟩ := Kd.at_int HR0_1.out x7_2 p185 q185
                 have hw185_0 := hx185_0
                 cases e185
                 replace hx185_0 := (HB.out.cell (World.block_lt_of_cell? w _ hx185_0)).trans hx185_0
                 replace p185 := eq_true p185
                 replace q185 := eq_true q185
                 refine start_ (n := 20) (S := fun w' => w'.cell? ⟨gb171, 0, none⟩ = some (.slice (some ad183) l0_0.length c0_0) ∧ w'.cell? ⟨gb171, 1, none⟩ = some (.slice (some ad185) l0_1.length c0_1) ∧ w'.cell? (ad183.add (x7_2).toNat) = some (.slice A183_0 (rd_L1 l0_0 x7_2).length c183_0) ∧ w'.cell? (ad185.add (x7_2).toNat) = some (.int .i64 (rd l0_1 x7_2))) (ds := []) #[false, false, false, false, false, false, false, false, false, false, false, false, false, false, false, false, false, false, false, false] (by kernel_rfl) rfl rfl ⟨(blk_cell BK171.out 0).trans rfl, (blk_cell BK171.out 1).trans rfl, ((HB.out.cell (World.block_lt_of_cell? w _ hw183_0)).trans hw183_0), ((HB.out.cell (World.block_lt_of_cell? w _ hw185_0)).trans hw185_0)⟩ (fun hHeld => ?_); refine with_tabW spec_LeftOutMistakes.tab7 spec_LeftOutMistakes.bits7 (fun HT_ HW_ => ?_)
                 generalize wr.drew = w32 at HO_6 BK171 HB HR183_0 hx183_0 hx185_0 hHeld ⊢
                 refine pure_ (i := 1) (N := some 30) (v := ?_) (a' := ?_) #[false, true, false, false, false, false, false, false, false, false, false, false, false, false, false, false, false, false, false, false] rfl rfl (any_of HT_.out (by kernel_rfl)) (fun _ _ _ h => h) (Or.inl ⟨by rfl, ?_⟩) ?_ ?_
                 rotate_left
                 · intro w'
                   go_simp
                   with_reducible rfl
                 rotate_left
                 · exact aP
                 refine pure_ (i := 4) (N := some 33) (v := ?_) (a' := ?_) #[false, true, false, false, true, false, false, false, false, false, false, false, false, false, false, false, false, false, false, false] rfl rfl (any_of HT_.out (by kernel_rfl)) (fun _ _ _ h => h) (Or.inl ⟨by rfl, ?_⟩) ?_ ?_
                 rotate_left
                 · intro w'
                   go_simp
                   with_reducible rfl
                 rotate_left
                 · exact aP
                 refine pure_ (i := 7) (N := some 36) (v := ?_) (a' := ?_) #[false, true, false, false, true, false, false, true, false, false, false, false, false, false, false, false, false, false, false, false] rfl rfl (any_of HT_.out (by kernel_rfl)) (fun _ _ _ h => h) (Or.inl ⟨by rfl, ?_⟩) ?_ ?_
                 rotate_left
                 · intro w'
                   go_simp
                   with_reducible rfl
                 rotate_left
                 · exact aP
                 refine pure_ (i := 9) (N := some 38) (v := ?_) (a' := ?_) #[false, true, false, false, true, false, false, true, false, true, false, false, false, false, false, false, false, false, false, false] rfl rfl (any_of HT_.out (by kernel_rfl)) (fun _ _ _ h => h) (Or.inl ⟨by rfl, ?_⟩) ?_ ?_
                 rotate_left
                 · intro w'
                   go_simp
                   with_reducible rfl
                 rotate_left
                 · exact aP
                 refine pure_ (i := 12) (N := some 41) (v := ?_) (a' := ?_) #[false, true, false, false, true, false, false, true, false, true, false, false, true, false, false, false, false, false, false, false] rfl rfl (any_of HT_.out (by kernel_rfl)) (fun _ _ _ h => h) (Or.inl ⟨by rfl, ?_⟩) ?_ ?_
                 rotate_left
                 · intro w'
                   go_simp
                   with_reducible rfl
                 rotate_left
                 · exact aP
                 refine pure_ (i := 14) (N := some 43) (v := ?_) (a' := ?_) #[false, true, false, false, true, false, false, true, false, true, false, false, true, false, true, false, false, false, false, false] rfl rfl (any_of HT_.out (by kernel_rfl)) (fun _ _ _ h => h) (Or.inl ⟨by rfl, ?_⟩) ?_ ?_
                 rotate_left
                 · intro w'
                   go_simp
                   with_reducible rfl
                 rotate_left
                 · exact aP
                 refine pure_ (i := 16) (N := some 45) (v := ?_) (a' := ?_) #[false, true, false, false, true, false, false, true, false, true, false, false, true, false, true, false, true, false, false, false] rfl rfl (any_of HT_.out (by kernel_rfl)) (fun _ _ _ h => h) (Or.inl ⟨by rfl, ?_⟩) ?_ ?_
                 rotate_left
                 · intro w'
                   go_simp
                   with_reducible rfl
                 rotate_left
                 · exact aP
                 refine take_ (i := 0) (N := some 29) (v := ?_) (a' := ?_) #[true, true, false, false, true, false, false, true, false, true, false, false, true, false, true, false, true, false, false, false] rfl rfl (take_ofW HT_.out HW_.out (by kernel_rfl)) (fun _ _ _ h => h) (Or.inl ⟨by rfl, ?_⟩) hHeld ?_ ?_
                 rotate_left
                 · rintro w' ⟨s0, s1, s2, s3⟩
                   go_simp
                   with_reducible rfl
                 rotate_left
                 · exact aP
                 refine take_ (i := 2) (N := some 31) (v := ?_) (a' := ?_) #[true, true, true, false, true, false, false, true, false, true, false, false, true, false, true, false, true, false, false, false] rfl rfl (take_ofW HT_.out HW_.out (by kernel_rfl)) (fun _ _ _ h => h) (Or.inl ⟨by rfl, ?_⟩) hHeld ?_ ?_
                 rotate_left
                 · rintro w' ⟨s0, s1, s2, s3⟩
                   go_simp
                   with_reducible rfl
                 rotate_left
                 · exact aP
                 refine pure_ (i := 3) (N := some 32) (v := ?_) (a' := ?_) #[true, true, true, true, true, false, false, true, false, true, false, false, true, false, true, false, true, false, false, false] rfl rfl (any_of HT_.out (by kernel_rfl)) (fun _ _ _ h => h) (Or.inl ⟨by rfl, ?_⟩) ?_ ?_
                 rotate_left
                 · intro w'
                   go_simp
                   with_reducible rfl
                 rotate_left
                 · exact aP
                 refine take_ (i := 8) (N := some 37) (v := ?_) (a' := ?_) #[true, true, true, true, true, false, false, true, true, true, false, false, true, false, true, false, true, false, false, false] rfl rfl (take_ofW HT_.out HW_.out (by kernel_rfl)) (fun _ _ _ h => h) (Or.inl ⟨by rfl, ?_⟩) hHeld ?_ ?_
                 rotate_left
                 · rintro w' ⟨s0, s1, s2, s3⟩
                   go_simp
                   with_reducible rfl
                 rotate_left
                 · exact aP
                 refine pure_ (i := 10) (N := some 39) (v := ?_) (a' := ?_) #[true, true, true, true, true, false, false, true, true, true, true, false, true, false, true, false, true, false, false, false] rfl rfl (any_of HT_.out (by kernel_rfl)) (fun _ _ _ h => h) (Or.inl ⟨by rfl, ?_⟩) ?_ ?_
                 rotate_left
                 · intro w'
                   go_simp
                   with_reducible rfl
                 rotate_left
                 · exact aP
                 refine take_ (i := 11) (N := some 40) (v := ?_) (a' := ?_) #[true, true, true, true, true, false, false, true, true, true, true, true, true, false, true, false, true, false, false, false] rfl rfl (take_ofW HT_.out HW_.out (by kernel_rfl)) (fun _ _ _ h => h) (Or.inl ⟨by rfl, ?_⟩) hHeld ?_ ?_
                 rotate_left
                 · rintro w' ⟨s0, s1, s2, s3⟩
                   go_simp
                   with_reducible rfl
                 rotate_left
                 · exact aP
                 refine take_ (i := 15) (N := some 44) (v := ?_) (a' := ?_) #[true, true, true, true, true, false, false, true, true, true, true, true, true, false, true, true, true, false, false, false] rfl rfl (take_ofW HT_.out HW_.out (by kernel_rfl)) (fun _ _ _ h => h) (Or.inl ⟨by rfl, ?_⟩) hHeld ?_ ?_
                 rotate_left
                 · rintro w' ⟨s0, s1, s2, s3⟩
                   go_simp
                   with_reducible rfl
                 rotate_left
                 · exact aP
                 refine pure_ (i := 17) (N := some 46) (v := ?_) (a' := ?_) #[true, true, true, true, true, false, false, true, true, true, true, true, true, false, true, true, true, true, false, false] rfl rfl (any_of HT_.out (by kernel_rfl)) (fun _ _ _ h => h) (Or.inl ⟨by rfl, ?_⟩) ?_ ?_
                 rotate_left
                 · intro w'
                   go_simp
                   with_reducible rfl
                 rotate_left
                 · exact aP
                 refine take_ (i := 18) (N := some 47) (v := ?_) (a' := ?_) #[true, true, true, true, true, false, false, true, true, true, true, true, true, false, true, true, true, true, true, false] rfl rfl (take_ofW HT_.out HW_.out (by kernel_rfl)) (fun _ _ _ h => h) (Or.inl ⟨by rfl, ?_⟩) hHeld ?_ ?_
                 rotate_left
                 · rintro w' ⟨s0, s1, s2, s3⟩
                   go_simp
                   with_reducible rfl
                 rotate_left
                 · exact aP
                 refine one_ (i := 5) (N := some 34) #[true, true, true, true, true, true, false, true, true, true, true, true, true, false, true, true, true, true, true, false] rfl rfl (one_of HT_.out (by kernel_rfl)) (by decide) (fun K hK => ?_)
                 refine Kd.R_lit_step (Kd.int .i64) _ 3 ?hg (N := 34) ?hd (xs := ([x7_2] : List Int)) (inner := [.int .i64 x7_2]) (ok := fun _ => True) (okp := fun _ => True) ?hr ?hp (fun _ hk => hk) trivial (Below.refl _ _) (Nat.le_refl _) (by simp) ?_; (case hd => rfl); (case hg => rfl); (case hr => first | (go_simp; done) | (go_simp; rfl)); (case hp => exact (Reps.one (show Kd.M (Kd.int .i64) _ _ _ x7_2 [.int .i64 x7_2] from rfl) (Reps.none _ _)))
                 intro v178 w33 ho34 hb hg_ hnew_
                 clear hg_ hnew_
                 (first | rw [← Ny177.out] at ho34 | (simp only [Int.reduceToNat] at ho34; rw [← Ny177.out] at ho34))
                 have n0_ := Aside0.mk (Kd.R_elder' (pR HO_6) (Kd.R_base ho34) hb)
                 have n1_ := Aside0.mk (Kd.R_lower (Kd.R_new' ho34 (Kd.R_lt (pR HO_6))) (below_size (bC HB GE171)))
                 have n2_ := Aside0.mk (bW BK171 hb)
                 have n3_ := Aside0.mk (below_step (bC HB GE171) hb)
                 clear HO_6
                 clear BK171
                 clear HB
                 have HO_6 := n0_
                 have HO179 := n1_
                 have BK171 := n2_
                 have HB := n3_
                 clear n0_ n1_ n2_ n3_
                 clear hb ho34
                 obtain ⟨Ao35, co35, eo35⟩ := Kd.R_slice HO179.out
                 (first | subst eo35 | (injection eo35 with f1_ f2_ f3_; have f4_ := f1_.symm; have f5_ := f3_.symm; clear f1_ f2_ f3_; subst f4_; subst f5_))
                 refine hK.out _ _ ⟨(blk_cell BK171.out 0).trans rfl, (blk_cell BK171.out 1).trans rfl, ((HB.out.cell (World.block_lt_of_cell? w _ hw183_0)).trans hw183_0), ((HB.out.cell (World.block_lt_of_cell? w _ hw185_0)).trans hw185_0)⟩ (fun hHeld => ?_)
                 clear hK K
                 refine norm_ (a' := ?_) ?_ ?_
                 rotate_left
                 · show Act.put _ (some 34) _ = _
                   simp only [Act.put, List.setIfInBounds_toArray, List.set_cons_zero, List.set_cons_succ, i64_w, i32_w]
                   rfl
                 refine one_ (i := 6) (N := some 35) #[true, true, true, true, true, true, true, true, true, true, true, true, true, false, true, true, true, true, true, false] rfl rfl (one_of HT_.out (by kernel_rfl)) (by decide) (fun K hK => ?_)
                 refine goes_ Try.func83 (by kernel_rfl) rfl #[.int .i64 (l0_0.length : Int), .slice Ao35 y177.length co35] (by rfl) rfl rfl aT ?_
                 with_reducible refine (spec_l4Left.calls k2 (l0_0.length : Int) _ _ y177 t180 _ ?side1 ?side2 A17.out).mono ?_
                 (case side1 => exact cR HO179)
                 (case side2 => exact (Kd.R_reads' HO179.out).2.1)
                 rintro e w36 ⟨v181, rfl, ho0, hb⟩
                 refine ⟨_, rfl, ?_⟩
                 have n0_ := Aside0.mk (Kd.R_elder' (pR HO_6) (Kd.R_base ho0) hb)
                 have n1_ := Aside0.mk (Kd.R_elder' (pR HO179) (Kd.R_base ho0) hb)
                 have n2_ := Aside0.mk (Kd.R_lower (Kd.R_new' (Kd.R_new' ho0 (Kd.R_lt (pR HO_6))) (Kd.R_lt (pR HO179))) (below_size (bC HB GE171)))
                 have n3_ := Aside0.mk (bW BK171 hb)
                 have n4_ := Aside0.mk (below_step (bC HB GE171) hb)
                 clear HO_6
                 clear HO179
                 clear BK171
                 clear HB
                 have HO_6 := n0_
                 have HO179 := n1_
                 have HO182 := n2_
                 have BK171 := n3_
                 have HB := n4_
                 clear n0_ n1_ n2_ n3_ n4_
                 (try clear hb)
                 (try clear hb2)
                 (try clear hk)
                 (try clear hi)
                 (try clear ho0)
                 obtain ⟨Ao37, co37, eo37⟩ := Kd.R_slice HO182.out
                 (first | subst eo37 | (injection eo37 with f1_ f2_ f3_; have f4_ := f1_.symm; have f5_ := f3_.symm; clear f1_ f2_ f3_; subst f4_; subst f5_))
                 refine hK.out _ _ ⟨(blk_cell BK171.out 0).trans rfl, (blk_cell BK171.out 1).trans rfl, ((HB.out.cell (World.block_lt_of_cell? w _ hw183_0)).trans hw183_0), ((HB.out.cell (World.block_lt_of_cell? w _ hw185_0)).trans hw185_0)⟩ (fun hHeld => ?_)
                 clear hK K
                 refine norm_ (a' := ?_) ?_ ?_
                 rotate_left
                 · show Act.put _ (some 35) _ = _
                   simp only [Act.put, List.setIfInBounds_toArray, List.set_cons_zero, List.set_cons_succ, i64_w, i32_w]
                   rfl
                 refine one_ (i := 13) (N := some 42) #[true, true, true, true, true, true, true, true, true, true, true, true, true, true, true, true, true, true, true, false] rfl rfl (one_of HT_.out (by kernel_rfl)) (by decide) (fun K hK => ?_)
                 refine goes_ Try.func81 (by kernel_rfl) rfl #[.agg #[.slice (some ad183) l0_0.length c0_0, .slice (some ad185) l0_1.length c0_1], .slice Ao37 t180.length co37, .slice A183_0 (rd_L1 l0_0 x7_2).length c183_0, .int .i64 a1] (by rfl) rfl rfl aT ?_
                 with_reducible refine (spec_l10Label.calls k2 _ _ l0_0 _ _ l0_1 _ _ t180 _ _ (rd_L1 l0_0 x7_2) a1 t184 _ ?side1 ?side2 ?side3 ?side4 ?side5 ?side6 ?side7 ?side8 A19.out).mono ?_
                 (case side1 => exact cB HR0_0 HB)
                 (case side2 => exact HC0_0.out)
                 (case side3 => exact cB HR0_1 HB)
                 (case side4 => exact HC0_1.out)
                 (case side5 => exact cR HO182)
                 (case side6 => exact (Kd.R_reads' HO182.out).2.1)
                 (case side7 => exact cB HR183_0 HB)
                 (case side8 => exact HC183_0.out)
                 rintro e w38 ⟨rfl, hb⟩
                 refine ⟨_, rfl, ?_⟩
                 have n0_ := Aside0.mk (Kd.R_below (pR HO_6) hb)
                 have n1_ := Aside0.mk (Kd.R_below (pR HO179) hb)
                 have n2_ := Aside0.mk (Kd.R_below (pR HO182) hb)
                 have n3_ := Aside0.mk (bW BK171 hb)
                 have n4_ := Aside0.mk (below_step (bC HB GE171) hb)
                 clear HO_6
                 clear HO179
                 clear HO182
                 clear BK171
                 clear HB
                 have HO_6 := n0_
                 have HO179 := n1_
                 have HO182 := n2_
                 have BK171 := n3_
                 have HB := n4_
                 clear n0_ n1_ n2_ n3_ n4_
                 (try clear hb)
                 (try clear hb2)
                 (try clear hk)
                 (try clear hi)
                 refine hK.out _ _ ⟨(blk_cell BK171.out 0).trans rfl, (blk_cell BK171.out 1).trans rfl, ((HB.out.cell (World.block_lt_of_cell? w _ hw183_0)).trans hw183_0), ((HB.out.cell (World.block_lt_of_cell? w _ hw185_0)).trans hw185_0)⟩ (fun hHeld => ?_)
                 clear hK K
                 refine norm_ (a' := ?_) ?_ ?_
                 rotate_left
                 · show Act.put _ (some 42) _ = _
                   simp only [Act.put, List.setIfInBounds_toArray, List.set_cons_zero, List.set_cons_succ, i64_w, i32_w]
                   rfl
                 refine pure_ (i := 19) (N := some 48) (v := ?_) (a' := ?_) #[true, true, true, true, true, true, true, true, true, true, true, true, true, true, true, true, true, true, true, true] rfl rfl (any_of HT_.out (by kernel_rfl)) (fun _ _ _ h => h) (Or.inl ⟨by rfl, ?_⟩) ?_ ?_
                 rotate_left
                 · intro w'
                   go_simp
                   with_reducible rfl
                 rotate_left
                 · exact aP
                 refine done_ (done_of HT_.out (by kernel_rfl)) ?_
                 try go_wp2_with (first | ((with_reducible refine gate_builtin (b := .append) (xs := #[.tmp 49, .tmp 51]) rfl ?_); at_builtin; refine Kd.R_append (Kd.int .i64) (w0 := w) w.heap.size rfl (.tmp 49) (.tmp 51) 22 3 (.int .i64 0) 8 rfl Try.underlying22 info3 rfl (by decide) (by omega) u6 x6_2 x7_2 [.int .i64 x7_2] (fun k_ => some k_ ≠ (.slice Ao35 y177.length co35 : Value).ownBlock ∧ some k_ ≠ (.slice Ao37 t180.length co37 : Value).ownBlock) (fun _ => False) rfl rfl ?aP (fun _ hk => hk.elim) ?aF ?aO ?aB ?aS ?aL ?_; (case aP => exact rfl); (case aB => exact (bC HB GE171)); (case aF => exact (fun k_ hk => ⟨Kd.fresh' (Kd.R_lt (pR HO179)) k_ hk, Kd.fresh' (Kd.R_lt (pR HO182)) k_ hk⟩)); (case aO => exact (by (with_reducible repeat (first | apply Kd.R_alloc | apply Kd.R_drewN | apply Kd.R_drew)); exact Kd.R_mono HO_6.out (fun _ hk => ⟨hk.1.2, hk.2⟩))); (case aS => exact (below_size (bC HB GE171))); (case aL => have := LMc30.out; omega); intro v187 w39 ho hb hg hat; rw [← Ny186.out] at ho; have n0_ := Aside0.mk (blk_grown (g := gb171) (o := .cells #[.slice (some ad183) l0_0.length c0_0, .slice (some ad185) l0_1.length c0_1] 49 (0, 0)) (pB BK171) hg (Kd.R_ne HO_6.out BK171.out (by decide))); have n1_ := Aside0.mk (Kd.R_after (ok := (fun k_ => some k_ ≠ (.slice Ao37 t180.length co37 : Value).ownBlock)) (by (with_reducible repeat (first | apply Kd.R_alloc | apply Kd.R_drewN | apply Kd.R_drew)); exact Kd.R_mono HO179.out (fun _ hk => ⟨hk.2, hk.1.2⟩)) hg hat); have n2_ := Aside0.mk (Kd.R_after (ok := (fun k_ => some k_ ≠ (.slice Ao35 y177.length co35 : Value).ownBlock)) (by (with_reducible repeat (first | apply Kd.R_alloc | apply Kd.R_drewN | apply Kd.R_drew)); exact Kd.R_mono HO182.out (fun _ hk => ⟨hk.2, hk.1.2⟩)) hg hat); have n3_ := Aside0.mk (hb); have n4_ := Aside0.mk (ho); clear BK171; clear HO179; clear HO182; clear HB; clear HO_6; have BK171 := n0_; have HO179 := n1_; have HO182 := n2_; have HB := n3_; have HO188 := n4_; clear n0_ n1_ n2_ n3_ n4_; clear ho hb hg hat))
                 go_roundg k2
                 case measure => have := HJ2.out; have := HK2.out; omega
                 case rel => exact ⟨(y186), (wrap64 (x7_2 + 1)), rD, H', ⟨by have := HJ2.out; have := HK2.out; omega⟩, ⟨by (with_reducible repeat (first | apply Kd.R_alloc | apply Kd.R_drewN | apply Kd.R_drew)); exact Kd.R_mono HO188.out (fun _ hk => trivial)⟩, ⟨pB BK171⟩, ⟨bC HB GE171⟩⟩
               · rw [if_neg c30] at H
                 exact absurd H (by simp)
           · rw [if_neg c20] at H
             exact absurd H (by simp)
         · rw [if_neg c18] at H
           exact absurd H (by simp)
       · rw [if_neg c16] at H
         have c16b0 : decide (x7_2 < (l0_0.length : Int)) = false := decide_eq_false c16
         clear c16
         simp only [Option.some.injEq, Prod.mk.injEq] at H
         obtain ⟨rfl, rfl⟩ := H
         have hcz40_0 : wr.cell? ⟨gb171, 0, none⟩ = some (.slice A0_0 l0_0.length c0_0) := (blk_cell BK171.out 0).trans rfl
         have hcz40_1 : wr.cell? ⟨gb171, 1, none⟩ = some (.slice A0_1 l0_1.length c0_1) := (blk_cell BK171.out 1).trans rfl
         have hfz40_0 := blk_frozen BK171.out 0
         have hfz40_1 := blk_frozen BK171.out 1
         go_wp2
         go_ret2
         exact ⟨_, eW, by (with_reducible repeat (first | apply Kd.R_alloc | apply Kd.R_drewN | apply Kd.R_drew)); exact HO_6.out, bC HB GE171⟩

/-! ### impl_within: function 58 -/
def impl_within.f (a0 : Int) (a1 : Int) (a2 : Int) : Option (Bool) := if a0 ≥ a1 then (some (decide (a0 ≤ a2))) else (some false)
set_option maxHeartbeats 8000000 in
set_option maxRecDepth 100000 in
theorem impl_within.calls (a0 : Int) (a1 : Int) (a2 : Int) (r : Bool) (w : World) (h : impl_within.f a0 a1 a2 = some r) :
 Calls Try.prog 58 #[.int .i64 a0, .int .i64 a1, .int .i64 a2] w fun e w' => e = .returned (.bool r) ∧ Drawn0 w w' := by
 have H : (if a0 ≥ a1 then (some (decide (a0 ≤ a2))) else (some false)) = some r := h
 clear h
 by_cases c4 : a0 ≥ a1
 · rw [if_pos c4] at H
   have c4b0 : decide (a1 ≤ a0) = true := decide_eq_true c4
   clear c4
   obtain rfl := Option.some.inj H
   go_enter Try.func58, Try.ntmps58
   go_wp2
   go_ret
   exact ⟨rD, by repeat (first | exact Drawn0.refl _ | apply Drawn0.step)⟩
 · rw [if_neg c4] at H
   have c4b0 : decide (a1 ≤ a0) = false := decide_eq_false c4
   clear c4
   obtain rfl := Option.some.inj H
   go_enter Try.func58, Try.ntmps58
   go_wp2
   go_ret
   exact ⟨rD, by repeat (first | exact Drawn0.refl _ | apply Drawn0.step)⟩

end Go.Proofs.Ytihhedemdkifhaa.PFnExactLeftOutMistakes
