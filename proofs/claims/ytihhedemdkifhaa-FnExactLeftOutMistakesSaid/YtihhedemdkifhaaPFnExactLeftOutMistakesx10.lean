-- Printed by wip/tools/myprint.py (the printer of the kit, patched by that program; roots chosen by it)
import Derived.Test.YtihhedemdkifhaaPFnExactLeftOutMistakesx0
import Derived.Test.YtihhedemdkifhaaPFnExactLeftOutMistakesx6
import Derived.Test.YtihhedemdkifhaaPFnExactLeftOutMistakesx7
import Derived.Test.YtihhedemdkifhaaPFnExactLeftOutMistakesx9
import Derived.Test.YtihhedemdkifhaaSh
namespace Go.Proofs.Ytihhedemdkifhaa.PFnExactLeftOutMistakes
open Go.RowKit Go.Proofs.Ytihhedemdkifhaa.Sh Go.Proofs.YtihhedemdkifhaaW.PrintWords Go.Proofs.YtihhedemdkifhaaW.PrintLast Go.Proofs.YtihhedemdkifhaaW.PrintMore
attribute [local go_sem] max2_int min2_int max_two min_two max_three min_three max_four min_four   -- for this text's walks alone
set_option linter.unusedVariables false
set_option linter.unusedSimpArgs false

/-! ### impl_LeftOutMistakes: function 41 -/
mutual
def impl_LeftOutMistakes.j0 : Nat → Int → Bool → List (List Int) → List Int → Option (List Int × Bool)
 | 0, _, _, _, _ => none
 | k + 1, x1, x20, x242000, x242001 => if x20 = true then (some (([] : List Int), false)) else (impl_LeftOutMistakes.l0 k x1 (([] : List Int)) x242000 (x242000.length : Int) 0 x242000 x242001)
def impl_LeftOutMistakes.l0 : Nat → Int → List Int → List (List Int) → Int → Int → List (List Int) → List Int → Option (List Int × Bool)
 | 0, _, _, _, _, _, _, _ => none
 | k + 1, x1, x6, x23, x24, x25, x242000, x242001 => if x25 < x24 then (if 0 ≤ x25 then (if x25 < (x23.length : Int) then ((impl_without.f k (x242000.length : Int) (([x25] : List Int))).bind fun t251 => ((impl_Sample_near.f k x242000 x242001 (rd_L1 x23 x25) t251 x1).bind fun t254 => (if x25 < (x242001.length : Int) then (if t254 = (rd x242001 x25) then (impl_LeftOutMistakes.l0 k x1 x6 x23 x24 (wrap64 (x25 + 1)) x242000 x242001) else (if x6.length < 17592186044416 then (impl_LeftOutMistakes.l0 k x1 (x6 ++ [x25]) x23 x24 (wrap64 (x25 + 1)) x242000 x242001) else (none))) else (none)))) else (none)) else (none)) else (some (x6, true))
end
def impl_LeftOutMistakes.f (k : Nat) (l0_0 : List (List Int)) (l0_1 : List Int) (a1 : Int) : Option (List Int × Bool) := (impl_IsSample.f k l0_0 l0_1).bind fun t242 => (if t242 = true then ((impl_within.f a1 1 (wrap64 ((l0_0.length : Int) - 1))).bind fun t243 => (impl_LeftOutMistakes.j0 k a1 (!t243) l0_0 l0_1)) else (impl_LeftOutMistakes.j0 k a1 true l0_0 l0_1))
def impl_LeftOutMistakes.T7 : Bool × List (List Nat × List Nat) := (true, [([], []), ([], []), ([], []), ([2], [2]), ([3], [3]), ([], []), ([5], [5]), ([4, 6], [4, 6]), ([], []), ([0, 1, 7, 8, 7], [0, 1, 7, 8]), ([], []), ([10], [10]), ([], []), ([11, 12], [11, 12]), ([13], [13]), ([9, 14], [9, 14])])
def impl_LeftOutMistakes.B7 : List Nat := [0, 0, 0, 4, 12, 0, 32, 124, 0, 511, 0, 1024, 0, 7168, 15360, 32767]
theorem impl_LeftOutMistakes.tab7 : rtab .any (opsOf Try.f41 7) = impl_LeftOutMistakes.T7 := by kernel_rfl
theorem impl_LeftOutMistakes.bits7 : waitsOk impl_LeftOutMistakes.T7.2 impl_LeftOutMistakes.B7 = true := by kernel_rfl
set_option maxHeartbeats 8000000 in
set_option maxRecDepth 100000 in
theorem impl_LeftOutMistakes.calls (k : Nat) (A0_0 : Option Addr) (c0_0 : Nat) (l0_0 : List (List Int)) (A0_1 : Option Addr) (c0_1 : Nat) (l0_1 : List Int) (a1 : Int) (r1 : List Int) (r2 : Bool) (w : World) (hr0_0 : Kd.C (Kd.slice 3 (Kd.int .i64)) w A0_0 l0_0.length l0_0) (hc0_0 : l0_0.length ≤ c0_0) (hr0_1 : Kd.C (Kd.int .i64) w A0_1 l0_1.length l0_1) (hc0_1 : l0_1.length ≤ c0_1) (h : impl_LeftOutMistakes.f k l0_0 l0_1 a1 = some (r1, r2)) :
 Calls Try.prog 41 #[.agg #[.slice A0_0 l0_0.length c0_0, .slice A0_1 l0_1.length c0_1], .int .i64 a1] w fun e w' => ∃ v0_ : Value, e = .returned (.tuple #[v0_, .bool r2]) ∧ Kd.R (Kd.int .i64) 3 w' w.heap.size (fun _ => True) v0_ r1 ∧ Below w.heap.size w w' := by
 have hu49 := Try.underlying49
 have HR0_0 := Aside0.mk hr0_0
 have HC0_0 := Aside0.mk hc0_0
 clear hr0_0 hc0_0
 have HR0_1 := Aside0.mk hr0_1
 have HC0_1 := Aside0.mk hc0_1
 clear hr0_1 hc0_1
 have HB := Aside0.mk (Below.refl w.heap.size w)
 have H : ((impl_IsSample.f k l0_0 l0_1).bind fun t242 => (if t242 = true then ((impl_within.f a1 1 (wrap64 ((l0_0.length : Int) - 1))).bind fun t243 => (impl_LeftOutMistakes.j0 k a1 (!t243) l0_0 l0_1)) else (impl_LeftOutMistakes.j0 k a1 true l0_0 l0_1))) = some (r1, r2) := h
 clear h
 have HC3 := Aside0.mk H
 clear H
 go_enter Try.func41, Try.ntmps41
 go_upto_region 1 with (first | ((with_reducible refine gate_dst (N := 2) rfl ?_); refine box_event ?hg (N := 2) ?hd (cs := #[.slice A0_0 l0_0.length c0_0, .slice A0_1 l0_1.length c0_1]) (t := 49) ?hr ?_; (case hd => rfl); (case hg => rfl); (case hr => first | (go_simp; done) | (go_simp; rfl)); intro gb241 hg w4 hbox hb; have n0_ := Aside0.mk (below_step (bB HB) hb); have n1_ := Aside0.mk (hbox); have n2_ := Aside0.mk ((by rw [hg]; exact (below_size (bB HB)) : w.heap.size ≤ gb241)); have n3_ := Aside0.mk ((by rw [hg]; exact (below_size (bB HB)) : w.heap.size ≤ gb241)); clear HB; have HB := n0_; have BK241 := n1_; have GW241 := n2_; have GE241 := n3_; clear n0_ n1_ n2_ n3_; clear hb hbox hg))
 (try simp only [Act.put, List.setIfInBounds_toArray, List.set_cons_zero, List.set_cons_succ])
 go_cut [20] (fun v20 wc => ∃ (kq : Nat) (x20_2 : Bool), v20 = .bool x20_2 ∧ Aside0 (impl_LeftOutMistakes.j0 kq a1 x20_2 l0_0 l0_1 = some (r1, r2)) ∧ Aside0 (kq ≤ k) ∧ Aside0 (wc.heap[gb241]? = some (.cells #[(.slice A0_0 l0_0.length c0_0), (.slice A0_1 l0_1.length c0_1)] 49 (0, 0))) ∧ Aside0 (Below w.heap.size w wc))
 case first =>
  have H := HC3.out
  clear HC3
  replace H := Option.bind_eq_some_iff.mp H
  obtain ⟨t242, A50, H⟩ := H
  replace H : (if t242 = true then ((impl_within.f a1 1 (wrap64 ((l0_0.length : Int) - 1))).bind fun t243 => (impl_LeftOutMistakes.j0 k a1 (!t243) l0_0 l0_1)) else (impl_LeftOutMistakes.j0 k a1 true l0_0 l0_1)) = some (r1, r2) := H
  have A5 := Aside0.mk A50
  clear A50
  by_cases c6 : t242 = true
  · subst c6
    have H1 : ((impl_within.f a1 1 (wrap64 ((l0_0.length : Int) - 1))).bind fun t243 => (impl_LeftOutMistakes.j0 k a1 (!t243) l0_0 l0_1)) = some (r1, r2) := by rw [if_pos rfl] at H; exact H
    clear H
    have H := H1
    clear H1
    replace H := Option.bind_eq_some_iff.mp H
    obtain ⟨t243, A70, H⟩ := H
    replace H : (impl_LeftOutMistakes.j0 k a1 (!t243) l0_0 l0_1) = some (r1, r2) := H
    have A7 := Aside0.mk A70
    clear A70
    have H' := Aside0.mk H
    clear H
    have hcz8_0 : w4.cell? ⟨gb241, 0, none⟩ = some (.slice A0_0 l0_0.length c0_0) := (blk_cell BK241.out 0).trans rfl
    have hcz8_1 : w4.cell? ⟨gb241, 1, none⟩ = some (.slice A0_1 l0_1.length c0_1) := (blk_cell BK241.out 1).trans rfl
    have hfz8_0 := blk_frozen BK241.out 0
    have hfz8_1 := blk_frozen BK241.out 1
    go_wp2_with (first | ((with_reducible refine gate_callee (f := 71) rfl ?_); refine goesL_ (some 10) rfl rfl Try.func71 (by kernel_rfl) rfl #[.agg #[.slice A0_0 l0_0.length c0_0, .slice A0_1 l0_1.length c0_1]] rfl aT ?_; (with_reducible refine (impl_IsSample.calls k _ _ l0_0 _ _ l0_1 true _ ?side1 ?side2 ?side3 ?side4 A5.out).mono ?_); (case side1 => exact cB HR0_0 HB); (case side2 => exact HC0_0.out); (case side3 => exact cB HR0_1 HB); (case side4 => exact HC0_1.out); rintro e w9 ⟨rfl, hb⟩; refine ⟨_, rfl, ?_⟩; have n0_ := Aside0.mk (bW BK241 hb); have n1_ := Aside0.mk (below_step (bC HB GE241) hb); clear BK241; clear HB; have BK241 := n0_; have HB := n1_; clear n0_ n1_; (try clear hb); (try clear hb2); (try clear hk); (try clear hi); have hcz10_0 : w9.cell? ⟨gb241, 0, none⟩ = some (.slice A0_0 l0_0.length c0_0) := (blk_cell BK241.out 0).trans rfl; have hcz10_1 : w9.cell? ⟨gb241, 1, none⟩ = some (.slice A0_1 l0_1.length c0_1) := (blk_cell BK241.out 1).trans rfl; have hfz10_0 := blk_frozen BK241.out 0; have hfz10_1 := blk_frozen BK241.out 1) | (go_at_call 58; (with_reducible refine (impl_within.calls a1 1 (wrap64 ((l0_0.length : Int) - 1)) t243 _ A7.out).mono ?_); rintro e w' ⟨rfl, ⟨nd, rfl⟩⟩))
    go_meet
    case rel => exact ⟨_, (!t243), rD, H', ⟨by first | omega | exact Nat.le_refl _⟩, ⟨pB BK241⟩, ⟨bC HB GE241⟩⟩
  · replace c6 := Bool.eq_false_iff.mpr c6
    subst c6
    have H1 : (impl_LeftOutMistakes.j0 k a1 true l0_0 l0_1) = some (r1, r2) := by rw [if_neg (show ¬ (false = true) by decide)] at H; exact H
    clear H
    have H := H1
    clear H1
    have H' := Aside0.mk H
    clear H
    have hcz11_0 : w4.cell? ⟨gb241, 0, none⟩ = some (.slice A0_0 l0_0.length c0_0) := (blk_cell BK241.out 0).trans rfl
    have hcz11_1 : w4.cell? ⟨gb241, 1, none⟩ = some (.slice A0_1 l0_1.length c0_1) := (blk_cell BK241.out 1).trans rfl
    have hfz11_0 := blk_frozen BK241.out 0
    have hfz11_1 := blk_frozen BK241.out 1
    go_wp2_with (first | ((with_reducible refine gate_callee (f := 71) rfl ?_); refine goesL_ (some 10) rfl rfl Try.func71 (by kernel_rfl) rfl #[.agg #[.slice A0_0 l0_0.length c0_0, .slice A0_1 l0_1.length c0_1]] rfl aT ?_; (with_reducible refine (impl_IsSample.calls k _ _ l0_0 _ _ l0_1 false _ ?side1 ?side2 ?side3 ?side4 A5.out).mono ?_); (case side1 => exact cB HR0_0 HB); (case side2 => exact HC0_0.out); (case side3 => exact cB HR0_1 HB); (case side4 => exact HC0_1.out); rintro e w12 ⟨rfl, hb⟩; refine ⟨_, rfl, ?_⟩; have n0_ := Aside0.mk (bW BK241 hb); have n1_ := Aside0.mk (below_step (bC HB GE241) hb); clear BK241; clear HB; have BK241 := n0_; have HB := n1_; clear n0_ n1_; (try clear hb); (try clear hb2); (try clear hk); (try clear hi)))
    go_meet
    case rel => exact ⟨_, (true), rD, H', ⟨by first | omega | exact Nat.le_refl _⟩, ⟨pB BK241⟩, ⟨bC HB GE241⟩⟩
 case rest =>
  clear HC3
  obtain ⟨kq, x20_2, rfl, HA, HJ2, BK241, HB⟩ := hcut
  cases kq with
  | zero => exact absurd HA.out (by simp [impl_LeftOutMistakes.j0])
  | succ kj2 =>
   have H := HA.out
   clear HA
   simp only [impl_LeftOutMistakes.j0] at H
   by_cases c13 : x20_2 = true
   · subst c13
     have H1 : (some (([] : List Int), false)) = some (r1, r2) := by rw [if_pos rfl] at H; exact H
     clear H
     have H := H1
     clear H1
     simp only [Option.some.injEq, Prod.mk.injEq] at H
     obtain ⟨rfl, rfl⟩ := H
     go_wp2
     go_ret2
     exact ⟨_, eW, by first | exact Kd.R_nil _ _ _ _ _ | exact Kd.N_nil _ _ _ _ _ | exact Kd.V_nil _ _ _ _ _ | exact Kd.Q_nil _ _ _ _ _ | exact Kd.S_nil _ _ _ _ _, bC HB GE241⟩
   · replace c13 := Bool.eq_false_iff.mpr c13
     subst c13
     have H1 : (impl_LeftOutMistakes.l0 kj2 a1 (([] : List Int)) l0_0 (l0_0.length : Int) 0 l0_0 l0_1) = some (r1, r2) := by rw [if_neg (show ¬ (false = true) by decide)] at H; exact H
     clear H
     have H := H1
     clear H1
     obtain ⟨y244, hy244⟩ : ∃ y_ : List Int, y_ = (([] : List Int)) := ⟨_, rfl⟩
     replace H : (impl_LeftOutMistakes.l0 kj2 a1 y244 l0_0 (l0_0.length : Int) 0 l0_0 l0_1) = some (r1, r2) := by first | (rw [hy244]; with_reducible exact H) | (have H2_ := (Option.bind_some _ _).symm.trans H; rw [hy244]; with_reducible exact H2_) | (have H2_ := (Option.bind_some _ _).symm.trans H; with_reducible exact H2_) | with_reducible exact H | (rw [hy244]; exact H) | exact H
     have Ny244 := Aside0.mk hy244
     clear hy244
     have H' := Aside0.mk H
     clear H
     go_wp2_with (first | ((with_reducible refine gate_dst (N := 21) rfl ?_); refine Kd.R_lit (Kd.int .i64) _ 3 ?hg (N := 21) ?hd (xs := ([] : List Int)) (inner := []) (ok := fun _ => True) (okp := fun _ => True) ?hr ?hp (fun _ hk => hk) trivial (Below.refl _ _) (Nat.le_refl _) (by simp) ?_; (case hd => rfl); (case hg => rfl); (case hr => first | (go_simp; done) | (go_simp; rfl)); (case hp => exact (Reps.none _ _)); intro v245 w14 ho15 hb hg_ hnew_; clear hg_ hnew_; (first | rw [← Ny244.out] at ho15 | (simp only [Int.reduceToNat] at ho15; rw [← Ny244.out] at ho15)); have n0_ := Aside0.mk (Kd.R_lower ho15 (below_size (bC HB GE241))); have n1_ := Aside0.mk (bW BK241 hb); have n2_ := Aside0.mk (below_step (bC HB GE241) hb); clear BK241; clear HB; have HO246 := n0_; have BK241 := n1_; have HB := n2_; clear n0_ n1_ n2_; clear hb ho15; have hcz16_0 : w14.cell? ⟨gb241, 0, none⟩ = some (.slice A0_0 l0_0.length c0_0) := (blk_cell BK241.out 0).trans rfl; have hcz16_1 : w14.cell? ⟨gb241, 1, none⟩ = some (.slice A0_1 l0_1.length c0_1) := (blk_cell BK241.out 1).trans rfl; have hfz16_0 := blk_frozen BK241.out 0; have hfz16_1 := blk_frozen BK241.out 1))
     go_loopg [6, 25] kj2 (fun kq v6 v25 w' => ∃ (x6_2 : List Int) (x25_2 : Int), v25 = .int .i64 x25_2 ∧ Aside0 (impl_LeftOutMistakes.l0 kq a1 x6_2 l0_0 (l0_0.length : Int) x25_2 l0_0 l0_1 = some (r1, r2)) ∧ Aside0 (kq ≤ kj2) ∧ Aside0 (Kd.R (Kd.int .i64) 3 w' w.heap.size (fun _ => True) v6 x6_2) ∧ Aside0 (w'.heap[gb241]? = some (.cells #[(.slice A0_0 l0_0.length c0_0), (.slice A0_1 l0_1.length c0_1)] 49 (0, 0))) ∧ Aside0 (Below w.heap.size w w'))
     case atStart => exact ⟨(y244), (0), rD, H', ⟨Nat.le_refl _⟩, ⟨pR HO246⟩, ⟨pB BK241⟩, ⟨bC HB GE241⟩⟩
     case round =>
      clear H'
      try clear c13
      try clear hcz16_0
      try clear hcz16_1
      try clear hfz16_0
      try clear hfz16_1
      obtain ⟨x6_2, x25_2, rfl, HA, HK2, HO_6, BK241, HB⟩ := hrel
      cases gk with
      | zero => exact absurd HA.out (by simp [impl_LeftOutMistakes.l0])
      | succ k2 =>
       have H := HA.out
       clear HA
       simp only [impl_LeftOutMistakes.l0] at H
       by_cases c17 : x25_2 < (l0_0.length : Int)
       · rw [if_pos c17] at H
         have c17b0 : decide (x25_2 < (l0_0.length : Int)) = true := decide_eq_true c17
         clear c17
         by_cases c18 : 0 ≤ x25_2
         · rw [if_pos c18] at H
           have c18b0 : decide (0 ≤ x25_2) = true := decide_eq_true c18
           clear c18
           by_cases c19 : x25_2 < (l0_0.length : Int)
           · rw [if_pos c19] at H
             have c19b0 : decide (x25_2 < (l0_0.length : Int)) = true := decide_eq_true c19
             clear c19
             obtain ⟨y248, hy248⟩ : ∃ y_ : List Int, y_ = (([x25_2] : List Int)) := ⟨_, rfl⟩
             replace H : ((impl_without.f k2 (l0_0.length : Int) y248).bind fun t251 => ((impl_Sample_near.f k2 l0_0 l0_1 (rd_L1 l0_0 x25_2) t251 a1).bind fun t254 => (if x25_2 < (l0_1.length : Int) then (if t254 = (rd l0_1 x25_2) then (impl_LeftOutMistakes.l0 k2 a1 x6_2 l0_0 (l0_0.length : Int) (wrap64 (x25_2 + 1)) l0_0 l0_1) else (if x6_2.length < 17592186044416 then (impl_LeftOutMistakes.l0 k2 a1 (x6_2 ++ [x25_2]) l0_0 (l0_0.length : Int) (wrap64 (x25_2 + 1)) l0_0 l0_1) else (none))) else (none)))) = some (r1, r2) := by first | (rw [hy248]; with_reducible exact H) | (have H2_ := (Option.bind_some _ _).symm.trans H; rw [hy248]; with_reducible exact H2_) | (have H2_ := (Option.bind_some _ _).symm.trans H; with_reducible exact H2_) | with_reducible exact H | (rw [hy248]; exact H) | exact H
             have Ny248 := Aside0.mk hy248
             clear hy248
             replace H := Option.bind_eq_some_iff.mp H
             obtain ⟨t251, A200, H⟩ := H
             replace H : ((impl_Sample_near.f k2 l0_0 l0_1 (rd_L1 l0_0 x25_2) t251 a1).bind fun t254 => (if x25_2 < (l0_1.length : Int) then (if t254 = (rd l0_1 x25_2) then (impl_LeftOutMistakes.l0 k2 a1 x6_2 l0_0 (l0_0.length : Int) (wrap64 (x25_2 + 1)) l0_0 l0_1) else (if x6_2.length < 17592186044416 then (impl_LeftOutMistakes.l0 k2 a1 (x6_2 ++ [x25_2]) l0_0 (l0_0.length : Int) (wrap64 (x25_2 + 1)) l0_0 l0_1) else (none))) else (none))) = some (r1, r2) := H
             have A20 := Aside0.mk A200
             clear A200
             replace H := Option.bind_eq_some_iff.mp H
             obtain ⟨t254, A210, H⟩ := H
             replace H : (if x25_2 < (l0_1.length : Int) then (if t254 = (rd l0_1 x25_2) then (impl_LeftOutMistakes.l0 k2 a1 x6_2 l0_0 (l0_0.length : Int) (wrap64 (x25_2 + 1)) l0_0 l0_1) else (if x6_2.length < 17592186044416 then (impl_LeftOutMistakes.l0 k2 a1 (x6_2 ++ [x25_2]) l0_0 (l0_0.length : Int) (wrap64 (x25_2 + 1)) l0_0 l0_1) else (none))) else (none)) = some (r1, r2) := H
             have A21 := Aside0.mk A210
             clear A210
             by_cases c22 : x25_2 < (l0_1.length : Int)
             · rw [if_pos c22] at H
               have c22b0 : decide (x25_2 < (l0_1.length : Int)) = true := decide_eq_true c22
               clear c22
               by_cases c23 : t254 = (rd l0_1 x25_2)
               · rw [if_pos c23] at H
                 have c23b0 : (t254 == (rd l0_1 x25_2)) = true := beq_iff_eq.mpr c23
                 have c23b1 : (t254 != (rd l0_1 x25_2)) = false := bne_eq_false_iff_eq.mpr c23
                 clear c23
                 have H' := Aside0.mk H
                 clear H
                 have p247 : 0 ≤ (x25_2 : Int) := of_decide_eq_true aS
                 have q247 : x25_2 < (l0_0.length : Int) := of_decide_eq_true aS
                 obtain ⟨ad247, A247_0, c247_0, e247, hx247_0, hl247_0, hi247_0⟩ := at_L1 HR0_0.out x25_2 p247 q247
                 cases e247
                 replace hx247_0 := (HB.out.cell (World.block_lt_of_cell? w _ hx247_0)).trans hx247_0
                 have HR247_0 := Aside0.mk hi247_0
                 have HC247_0 := Aside0.mk hl247_0
                 clear hi247_0 hl247_0
                 replace p247 := eq_true p247
                 replace q247 := eq_true q247
                 try go_wp2
                 have n0_ := Aside0.mk (Kd.R_drew HO_6.out)
                 have n1_ := Aside0.mk (blk_drew BK241.out)
                 have n2_ := Aside0.mk (below_drew1 HB.out)
                 clear HO_6
                 clear BK241
                 clear HB
                 have HO_6 := n0_
                 have BK241 := n1_
                 have HB := n2_
                 clear n0_ n1_ n2_
                 have p255 : 0 ≤ (x25_2 : Int) := of_decide_eq_true aS
                 have q255 : x25_2 < (l0_1.length : Int) := of_decide_eq_true aS
                 obtain ⟨ad255, e255, hx255_0⟩ := Kd.at_int HR0_1.out x25_2 p255 q255
                 have hw255_0 := hx255_0
                 cases e255
                 replace hx255_0 := (HB.out.cell (World.block_lt_of_cell? w _ hx255_0)).trans hx255_0
                 replace p255 := eq_true p255
                 replace q255 := eq_true q255
                 refine start_ (n := 16) (S := fun w' => w'.cell? ⟨gb241, 0, none⟩ = some (.slice (some ad247) l0_0.length c0_0) ∧ w'.cell? ⟨gb241, 1, none⟩ = some (.slice (some ad255) l0_1.length c0_1) ∧ w'.cell? (ad255.add (x25_2).toNat) = some (.int .i64 (rd l0_1 x25_2))) (ds := []) #[false, false, false, false, false, false, false, false, false, false, false, false, false, false, false, false] (by kernel_rfl) rfl rfl ⟨(blk_cell BK241.out 0).trans rfl, (blk_cell BK241.out 1).trans rfl, ((HB.out.cell (World.block_lt_of_cell? w _ hw255_0)).trans hw255_0)⟩ (fun hHeld => ?_); refine with_tabW impl_LeftOutMistakes.tab7 impl_LeftOutMistakes.bits7 (fun HT_ HW_ => ?_)
                 generalize wr.drew = w24 at HO_6 BK241 HB hx255_0 hHeld ⊢
                 refine pure_ (i := 1) (N := some 31) (v := ?_) (a' := ?_) #[false, true, false, false, false, false, false, false, false, false, false, false, false, false, false, false] rfl rfl (any_of HT_.out (by kernel_rfl)) (fun _ _ _ h => h) (Or.inl ⟨by rfl, ?_⟩) ?_ ?_
                 rotate_left
                 · intro w'
                   go_simp
                   with_reducible rfl
                 rotate_left
                 · exact aP
                 refine pure_ (i := 2) (N := some 32) (v := ?_) (a' := ?_) #[false, true, true, false, false, false, false, false, false, false, false, false, false, false, false, false] rfl rfl (any_of HT_.out (by kernel_rfl)) (fun _ _ _ h => h) (Or.inl ⟨by rfl, ?_⟩) ?_ ?_
                 rotate_left
                 · intro w'
                   go_simp
                   with_reducible rfl
                 rotate_left
                 · exact aP
                 refine pure_ (i := 5) (N := some 35) (v := ?_) (a' := ?_) #[false, true, true, false, false, true, false, false, false, false, false, false, false, false, false, false] rfl rfl (any_of HT_.out (by kernel_rfl)) (fun _ _ _ h => h) (Or.inl ⟨by rfl, ?_⟩) ?_ ?_
                 rotate_left
                 · intro w'
                   go_simp
                   with_reducible rfl
                 rotate_left
                 · exact aP
                 refine pure_ (i := 8) (N := some 38) (v := ?_) (a' := ?_) #[false, true, true, false, false, true, false, false, true, false, false, false, false, false, false, false] rfl rfl (any_of HT_.out (by kernel_rfl)) (fun _ _ _ h => h) (Or.inl ⟨by rfl, ?_⟩) ?_ ?_
                 rotate_left
                 · intro w'
                   go_simp
                   with_reducible rfl
                 rotate_left
                 · exact aP
                 refine pure_ (i := 10) (N := some 40) (v := ?_) (a' := ?_) #[false, true, true, false, false, true, false, false, true, false, true, false, false, false, false, false] rfl rfl (any_of HT_.out (by kernel_rfl)) (fun _ _ _ h => h) (Or.inl ⟨by rfl, ?_⟩) ?_ ?_
                 rotate_left
                 · intro w'
                   go_simp
                   with_reducible rfl
                 rotate_left
                 · exact aP
                 refine pure_ (i := 12) (N := some 42) (v := ?_) (a' := ?_) #[false, true, true, false, false, true, false, false, true, false, true, false, true, false, false, false] rfl rfl (any_of HT_.out (by kernel_rfl)) (fun _ _ _ h => h) (Or.inl ⟨by rfl, ?_⟩) ?_ ?_
                 rotate_left
                 · intro w'
                   go_simp
                   with_reducible rfl
                 rotate_left
                 · exact aP
                 refine take_ (i := 0) (N := some 30) (v := ?_) (a' := ?_) #[true, true, true, false, false, true, false, false, true, false, true, false, true, false, false, false] rfl rfl (take_ofW HT_.out HW_.out (by kernel_rfl)) (fun _ _ _ h => h) (Or.inl ⟨by rfl, ?_⟩) hHeld ?_ ?_
                 rotate_left
                 · rintro w' ⟨s0, s1, s2⟩
                   go_simp
                   with_reducible rfl
                 rotate_left
                 · exact aP
                 refine take_ (i := 3) (N := some 33) (v := ?_) (a' := ?_) #[true, true, true, true, false, true, false, false, true, false, true, false, true, false, false, false] rfl rfl (take_ofW HT_.out HW_.out (by kernel_rfl)) (fun _ _ _ h => h) (Or.inl ⟨by rfl, ?_⟩) hHeld ?_ ?_
                 rotate_left
                 · rintro w' ⟨s0, s1, s2⟩
                   go_simp
                   with_reducible rfl
                 rotate_left
                 · exact aP
                 refine pure_ (i := 4) (N := some 34) (v := ?_) (a' := ?_) #[true, true, true, true, true, true, false, false, true, false, true, false, true, false, false, false] rfl rfl (any_of HT_.out (by kernel_rfl)) (fun _ _ _ h => h) (Or.inl ⟨by rfl, ?_⟩) ?_ ?_
                 rotate_left
                 · intro w'
                   go_simp
                   with_reducible rfl
                 rotate_left
                 · exact aP
                 refine take_ (i := 11) (N := some 41) (v := ?_) (a' := ?_) #[true, true, true, true, true, true, false, false, true, false, true, true, true, false, false, false] rfl rfl (take_ofW HT_.out HW_.out (by kernel_rfl)) (fun _ _ _ h => h) (Or.inl ⟨by rfl, ?_⟩) hHeld ?_ ?_
                 rotate_left
                 · rintro w' ⟨s0, s1, s2⟩
                   go_simp
                   with_reducible rfl
                 rotate_left
                 · exact aP
                 refine pure_ (i := 13) (N := some 43) (v := ?_) (a' := ?_) #[true, true, true, true, true, true, false, false, true, false, true, true, true, true, false, false] rfl rfl (any_of HT_.out (by kernel_rfl)) (fun _ _ _ h => h) (Or.inl ⟨by rfl, ?_⟩) ?_ ?_
                 rotate_left
                 · intro w'
                   go_simp
                   with_reducible rfl
                 rotate_left
                 · exact aP
                 refine take_ (i := 14) (N := some 44) (v := ?_) (a' := ?_) #[true, true, true, true, true, true, false, false, true, false, true, true, true, true, true, false] rfl rfl (take_ofW HT_.out HW_.out (by kernel_rfl)) (fun _ _ _ h => h) (Or.inl ⟨by rfl, ?_⟩) hHeld ?_ ?_
                 rotate_left
                 · rintro w' ⟨s0, s1, s2⟩
                   go_simp
                   with_reducible rfl
                 rotate_left
                 · exact aP
                 refine one_ (i := 6) (N := some 36) #[true, true, true, true, true, true, true, false, true, false, true, true, true, true, true, false] rfl rfl (one_of HT_.out (by kernel_rfl)) (by decide) (fun K hK => ?_)
                 refine Kd.R_lit_step (Kd.int .i64) _ 3 ?hg (N := 36) ?hd (xs := ([x25_2] : List Int)) (inner := [.int .i64 x25_2]) (ok := fun _ => True) (okp := fun _ => True) ?hr ?hp (fun _ hk => hk) trivial (Below.refl _ _) (Nat.le_refl _) (by simp) ?_; (case hd => rfl); (case hg => rfl); (case hr => first | (go_simp; done) | (go_simp; rfl)); (case hp => exact (Reps.one (show Kd.M (Kd.int .i64) _ _ _ x25_2 [.int .i64 x25_2] from rfl) (Reps.none _ _)))
                 intro v249 w25 ho26 hb hg_ hnew_
                 clear hg_ hnew_
                 (first | rw [← Ny248.out] at ho26 | (simp only [Int.reduceToNat] at ho26; rw [← Ny248.out] at ho26))
                 have n0_ := Aside0.mk (Kd.R_elder' (pR HO_6) (Kd.R_base ho26) hb)
                 have n1_ := Aside0.mk (Kd.R_lower (Kd.R_new' ho26 (Kd.R_lt (pR HO_6))) (below_size (bC HB GE241)))
                 have n2_ := Aside0.mk (bW BK241 hb)
                 have n3_ := Aside0.mk (below_step (bC HB GE241) hb)
                 clear HO_6
                 clear BK241
                 clear HB
                 have HO_6 := n0_
                 have HO250 := n1_
                 have BK241 := n2_
                 have HB := n3_
                 clear n0_ n1_ n2_ n3_
                 clear hb ho26
                 obtain ⟨Ao27, co27, eo27⟩ := Kd.R_slice HO250.out
                 (first | subst eo27 | (injection eo27 with f1_ f2_ f3_; have f4_ := f1_.symm; have f5_ := f3_.symm; clear f1_ f2_ f3_; subst f4_; subst f5_))
                 refine hK.out _ _ ⟨(blk_cell BK241.out 0).trans rfl, (blk_cell BK241.out 1).trans rfl, ((HB.out.cell (World.block_lt_of_cell? w _ hw255_0)).trans hw255_0)⟩ (fun hHeld => ?_)
                 clear hK K
                 refine norm_ (a' := ?_) ?_ ?_
                 rotate_left
                 · show Act.put _ (some 36) _ = _
                   simp only [Act.put, List.setIfInBounds_toArray, List.set_cons_zero, List.set_cons_succ, i64_w, i32_w]
                   rfl
                 refine one_ (i := 7) (N := some 37) #[true, true, true, true, true, true, true, true, true, false, true, true, true, true, true, false] rfl rfl (one_of HT_.out (by kernel_rfl)) (by decide) (fun K hK => ?_)
                 refine goes_ Try.func84 (by kernel_rfl) rfl #[.int .i64 (l0_0.length : Int), .slice Ao27 y248.length co27] (by rfl) rfl rfl aT ?_
                 with_reducible refine (impl_without.calls k2 (l0_0.length : Int) _ _ y248 t251 _ ?side1 ?side2 A20.out).mono ?_
                 (case side1 => exact cR HO250)
                 (case side2 => exact (Kd.R_reads' HO250.out).2.1)
                 rintro e w28 ⟨v252, rfl, ho0, hb⟩
                 refine ⟨_, rfl, ?_⟩
                 have n0_ := Aside0.mk (Kd.R_elder' (pR HO_6) (Kd.R_base ho0) hb)
                 have n1_ := Aside0.mk (Kd.R_elder' (pR HO250) (Kd.R_base ho0) hb)
                 have n2_ := Aside0.mk (Kd.R_lower (Kd.R_new' (Kd.R_new' ho0 (Kd.R_lt (pR HO_6))) (Kd.R_lt (pR HO250))) (below_size (bC HB GE241)))
                 have n3_ := Aside0.mk (bW BK241 hb)
                 have n4_ := Aside0.mk (below_step (bC HB GE241) hb)
                 clear HO_6
                 clear HO250
                 clear BK241
                 clear HB
                 have HO_6 := n0_
                 have HO250 := n1_
                 have HO253 := n2_
                 have BK241 := n3_
                 have HB := n4_
                 clear n0_ n1_ n2_ n3_ n4_
                 (try clear hb)
                 (try clear hb2)
                 (try clear hk)
                 (try clear hi)
                 (try clear ho0)
                 obtain ⟨Ao29, co29, eo29⟩ := Kd.R_slice HO253.out
                 (first | subst eo29 | (injection eo29 with f1_ f2_ f3_; have f4_ := f1_.symm; have f5_ := f3_.symm; clear f1_ f2_ f3_; subst f4_; subst f5_))
                 refine hK.out _ _ ⟨(blk_cell BK241.out 0).trans rfl, (blk_cell BK241.out 1).trans rfl, ((HB.out.cell (World.block_lt_of_cell? w _ hw255_0)).trans hw255_0)⟩ (fun hHeld => ?_)
                 clear hK K
                 refine norm_ (a' := ?_) ?_ ?_
                 rotate_left
                 · show Act.put _ (some 37) _ = _
                   simp only [Act.put, List.setIfInBounds_toArray, List.set_cons_zero, List.set_cons_succ, i64_w, i32_w]
                   rfl
                 refine one_ (i := 9) (N := some 39) #[true, true, true, true, true, true, true, true, true, true, true, true, true, true, true, false] rfl rfl (one_of HT_.out (by kernel_rfl)) (by decide) (fun K hK => ?_)
                 refine goes_ Try.func82 (by kernel_rfl) rfl #[.agg #[.slice (some ad247) l0_0.length c0_0, .slice (some ad255) l0_1.length c0_1], .slice A247_0 (rd_L1 l0_0 x25_2).length c247_0, .slice Ao29 t251.length co29, .int .i64 a1] (by rfl) rfl rfl aT ?_
                 with_reducible refine (impl_Sample_near.calls k2 _ _ l0_0 _ _ l0_1 _ _ (rd_L1 l0_0 x25_2) _ _ t251 a1 t254 _ ?side1 ?side2 ?side3 ?side4 ?side5 ?side6 ?side7 ?side8 A21.out).mono ?_
                 (case side1 => exact cB HR0_0 HB)
                 (case side2 => exact HC0_0.out)
                 (case side3 => exact cB HR0_1 HB)
                 (case side4 => exact HC0_1.out)
                 (case side5 => exact cB HR247_0 HB)
                 (case side6 => exact HC247_0.out)
                 (case side7 => exact cR HO253)
                 (case side8 => exact (Kd.R_reads' HO253.out).2.1)
                 rintro e w30 ⟨rfl, hb⟩
                 refine ⟨_, rfl, ?_⟩
                 have n0_ := Aside0.mk (Kd.R_below (pR HO_6) hb)
                 have n1_ := Aside0.mk (Kd.R_below (pR HO250) hb)
                 have n2_ := Aside0.mk (Kd.R_below (pR HO253) hb)
                 have n3_ := Aside0.mk (bW BK241 hb)
                 have n4_ := Aside0.mk (below_step (bC HB GE241) hb)
                 clear HO_6
                 clear HO250
                 clear HO253
                 clear BK241
                 clear HB
                 have HO_6 := n0_
                 have HO250 := n1_
                 have HO253 := n2_
                 have BK241 := n3_
                 have HB := n4_
                 clear n0_ n1_ n2_ n3_ n4_
                 (try clear hb)
                 (try clear hb2)
                 (try clear hk)
                 (try clear hi)
                 refine hK.out _ _ ⟨(blk_cell BK241.out 0).trans rfl, (blk_cell BK241.out 1).trans rfl, ((HB.out.cell (World.block_lt_of_cell? w _ hw255_0)).trans hw255_0)⟩ (fun hHeld => ?_)
                 clear hK K
                 refine norm_ (a' := ?_) ?_ ?_
                 rotate_left
                 · show Act.put _ (some 39) _ = _
                   simp only [Act.put, List.setIfInBounds_toArray, List.set_cons_zero, List.set_cons_succ, i64_w, i32_w]
                   rfl
                 refine pure_ (i := 15) (N := some 45) (v := ?_) (a' := ?_) #[true, true, true, true, true, true, true, true, true, true, true, true, true, true, true, true] rfl rfl (any_of HT_.out (by kernel_rfl)) (fun _ _ _ h => h) (Or.inl ⟨by rfl, ?_⟩) ?_ ?_
                 rotate_left
                 · intro w'
                   go_simp
                   with_reducible rfl
                 rotate_left
                 · exact aP
                 refine done_ (done_of HT_.out (by kernel_rfl)) ?_
                 try go_wp2
                 go_roundg k2
                 case measure => have := HJ2.out; have := HK2.out; omega
                 case rel => exact ⟨(x6_2), (wrap64 (x25_2 + 1)), rD, H', ⟨by have := HJ2.out; have := HK2.out; omega⟩, ⟨by (with_reducible repeat (first | apply Kd.R_alloc | apply Kd.R_drewN | apply Kd.R_drew)); exact Kd.R_mono HO_6.out (fun _ hk => trivial)⟩, ⟨pB BK241⟩, ⟨bC HB GE241⟩⟩
               · rw [if_neg c23] at H
                 have c23b0 : (t254 == (rd l0_1 x25_2)) = false := beq_eq_false_iff_ne.mpr c23
                 have c23b1 : (t254 != (rd l0_1 x25_2)) = true := bne_iff_ne.mpr c23
                 by_cases c31 : x6_2.length < 17592186044416
                 · rw [if_pos c31] at H
                   have LMc31 := Aside0.mk c31
                   clear c31
                   obtain ⟨y256, hy256⟩ : ∃ y_ : List Int, y_ = (x6_2 ++ [x25_2]) := ⟨_, rfl⟩
                   replace H : (impl_LeftOutMistakes.l0 k2 a1 y256 l0_0 (l0_0.length : Int) (wrap64 (x25_2 + 1)) l0_0 l0_1) = some (r1, r2) := by first | (rw [hy256]; with_reducible exact H) | (have H2_ := (Option.bind_some _ _).symm.trans H; rw [hy256]; with_reducible exact H2_) | (have H2_ := (Option.bind_some _ _).symm.trans H; with_reducible exact H2_) | with_reducible exact H | (rw [hy256]; exact H) | exact H
                   have Ny256 := Aside0.mk hy256
                   clear hy256
                   have H' := Aside0.mk H
                   clear H
                   have p247 : 0 ≤ (x25_2 : Int) := of_decide_eq_true aS
                   have q247 : x25_2 < (l0_0.length : Int) := of_decide_eq_true aS
                   obtain ⟨ad247, A247_0, c247_0, e247, hx247_0, hl247_0, hi247_0⟩ := at_L1 HR0_0.out x25_2 p247 q247
                   cases e247
                   replace hx247_0 := (HB.out.cell (World.block_lt_of_cell? w _ hx247_0)).trans hx247_0
                   have HR247_0 := Aside0.mk hi247_0
                   have HC247_0 := Aside0.mk hl247_0
                   clear hi247_0 hl247_0
                   replace p247 := eq_true p247
                   replace q247 := eq_true q247
                   try go_wp2
                   have n0_ := Aside0.mk (Kd.R_drew HO_6.out)
                   have n1_ := Aside0.mk (blk_drew BK241.out)
                   have n2_ := Aside0.mk (below_drew1 HB.out)
                   clear HO_6
                   clear BK241
                   clear HB
                   have HO_6 := n0_
                   have BK241 := n1_
                   have HB := n2_
                   clear n0_ n1_ n2_
                   have p255 : 0 ≤ (x25_2 : Int) := of_decide_eq_true aS
                   have q255 : x25_2 < (l0_1.length : Int) := of_decide_eq_true aS
                   obtain ⟨ad255, e255, hx255_0⟩ := Kd.at_int HR0_1.out x25_2 p255 q255
                   have hw255_0 := hx255_0
                   cases e255
                   replace hx255_0 := (HB.out.cell (World.block_lt_of_cell? w _ hx255_0)).trans hx255_0
                   replace p255 := eq_true p255
                   replace q255 := eq_true q255
                   refine start_ (n := 16) (S := fun w' => w'.cell? ⟨gb241, 0, none⟩ = some (.slice (some ad247) l0_0.length c0_0) ∧ w'.cell? ⟨gb241, 1, none⟩ = some (.slice (some ad255) l0_1.length c0_1) ∧ w'.cell? (ad255.add (x25_2).toNat) = some (.int .i64 (rd l0_1 x25_2))) (ds := []) #[false, false, false, false, false, false, false, false, false, false, false, false, false, false, false, false] (by kernel_rfl) rfl rfl ⟨(blk_cell BK241.out 0).trans rfl, (blk_cell BK241.out 1).trans rfl, ((HB.out.cell (World.block_lt_of_cell? w _ hw255_0)).trans hw255_0)⟩ (fun hHeld => ?_); refine with_tabW impl_LeftOutMistakes.tab7 impl_LeftOutMistakes.bits7 (fun HT_ HW_ => ?_)
                   generalize wr.drew = w32 at HO_6 BK241 HB hx255_0 hHeld ⊢
                   refine pure_ (i := 1) (N := some 31) (v := ?_) (a' := ?_) #[false, true, false, false, false, false, false, false, false, false, false, false, false, false, false, false] rfl rfl (any_of HT_.out (by kernel_rfl)) (fun _ _ _ h => h) (Or.inl ⟨by rfl, ?_⟩) ?_ ?_
                   rotate_left
                   · intro w'
                     go_simp
                     with_reducible rfl
                   rotate_left
                   · exact aP
                   refine pure_ (i := 2) (N := some 32) (v := ?_) (a' := ?_) #[false, true, true, false, false, false, false, false, false, false, false, false, false, false, false, false] rfl rfl (any_of HT_.out (by kernel_rfl)) (fun _ _ _ h => h) (Or.inl ⟨by rfl, ?_⟩) ?_ ?_
                   rotate_left
                   · intro w'
                     go_simp
                     with_reducible rfl
                   rotate_left
                   · exact aP
                   refine pure_ (i := 5) (N := some 35) (v := ?_) (a' := ?_) #[false, true, true, false, false, true, false, false, false, false, false, false, false, false, false, false] rfl rfl (any_of HT_.out (by kernel_rfl)) (fun _ _ _ h => h) (Or.inl ⟨by rfl, ?_⟩) ?_ ?_
                   rotate_left
                   · intro w'
                     go_simp
                     with_reducible rfl
                   rotate_left
                   · exact aP
                   refine pure_ (i := 8) (N := some 38) (v := ?_) (a' := ?_) #[false, true, true, false, false, true, false, false, true, false, false, false, false, false, false, false] rfl rfl (any_of HT_.out (by kernel_rfl)) (fun _ _ _ h => h) (Or.inl ⟨by rfl, ?_⟩) ?_ ?_
                   rotate_left
                   · intro w'
                     go_simp
                     with_reducible rfl
                   rotate_left
                   · exact aP
                   refine pure_ (i := 10) (N := some 40) (v := ?_) (a' := ?_) #[false, true, true, false, false, true, false, false, true, false, true, false, false, false, false, false] rfl rfl (any_of HT_.out (by kernel_rfl)) (fun _ _ _ h => h) (Or.inl ⟨by rfl, ?_⟩) ?_ ?_
                   rotate_left
                   · intro w'
                     go_simp
                     with_reducible rfl
                   rotate_left
                   · exact aP
                   refine pure_ (i := 12) (N := some 42) (v := ?_) (a' := ?_) #[false, true, true, false, false, true, false, false, true, false, true, false, true, false, false, false] rfl rfl (any_of HT_.out (by kernel_rfl)) (fun _ _ _ h => h) (Or.inl ⟨by rfl, ?_⟩) ?_ ?_
                   rotate_left
                   · intro w'
                     go_simp
                     with_reducible rfl
                   rotate_left
                   · exact aP
                   refine take_ (i := 0) (N := some 30) (v := ?_) (a' := ?_) #[true, true, true, false, false, true, false, false, true, false, true, false, true, false, false, false] rfl rfl (take_ofW HT_.out HW_.out (by kernel_rfl)) (fun _ _ _ h => h) (Or.inl ⟨by rfl, ?_⟩) hHeld ?_ ?_
                   rotate_left
                   · rintro w' ⟨s0, s1, s2⟩
                     go_simp
                     with_reducible rfl
                   rotate_left
                   · exact aP
                   refine take_ (i := 3) (N := some 33) (v := ?_) (a' := ?_) #[true, true, true, true, false, true, false, false, true, false, true, false, true, false, false, false] rfl rfl (take_ofW HT_.out HW_.out (by kernel_rfl)) (fun _ _ _ h => h) (Or.inl ⟨by rfl, ?_⟩) hHeld ?_ ?_
                   rotate_left
                   · rintro w' ⟨s0, s1, s2⟩
                     go_simp
                     with_reducible rfl
                   rotate_left
                   · exact aP
                   refine pure_ (i := 4) (N := some 34) (v := ?_) (a' := ?_) #[true, true, true, true, true, true, false, false, true, false, true, false, true, false, false, false] rfl rfl (any_of HT_.out (by kernel_rfl)) (fun _ _ _ h => h) (Or.inl ⟨by rfl, ?_⟩) ?_ ?_
                   rotate_left
                   · intro w'
                     go_simp
                     with_reducible rfl
                   rotate_left
                   · exact aP
                   refine take_ (i := 11) (N := some 41) (v := ?_) (a' := ?_) #[true, true, true, true, true, true, false, false, true, false, true, true, true, false, false, false] rfl rfl (take_ofW HT_.out HW_.out (by kernel_rfl)) (fun _ _ _ h => h) (Or.inl ⟨by rfl, ?_⟩) hHeld ?_ ?_
                   rotate_left
                   · rintro w' ⟨s0, s1, s2⟩
                     go_simp
                     with_reducible rfl
                   rotate_left
                   · exact aP
                   refine pure_ (i := 13) (N := some 43) (v := ?_) (a' := ?_) #[true, true, true, true, true, true, false, false, true, false, true, true, true, true, false, false] rfl rfl (any_of HT_.out (by kernel_rfl)) (fun _ _ _ h => h) (Or.inl ⟨by rfl, ?_⟩) ?_ ?_
                   rotate_left
                   · intro w'
                     go_simp
                     with_reducible rfl
                   rotate_left
                   · exact aP
                   refine take_ (i := 14) (N := some 44) (v := ?_) (a' := ?_) #[true, true, true, true, true, true, false, false, true, false, true, true, true, true, true, false] rfl rfl (take_ofW HT_.out HW_.out (by kernel_rfl)) (fun _ _ _ h => h) (Or.inl ⟨by rfl, ?_⟩) hHeld ?_ ?_
                   rotate_left
                   · rintro w' ⟨s0, s1, s2⟩
                     go_simp
                     with_reducible rfl
                   rotate_left
                   · exact aP
                   refine one_ (i := 6) (N := some 36) #[true, true, true, true, true, true, true, false, true, false, true, true, true, true, true, false] rfl rfl (one_of HT_.out (by kernel_rfl)) (by decide) (fun K hK => ?_)
                   refine Kd.R_lit_step (Kd.int .i64) _ 3 ?hg (N := 36) ?hd (xs := ([x25_2] : List Int)) (inner := [.int .i64 x25_2]) (ok := fun _ => True) (okp := fun _ => True) ?hr ?hp (fun _ hk => hk) trivial (Below.refl _ _) (Nat.le_refl _) (by simp) ?_; (case hd => rfl); (case hg => rfl); (case hr => first | (go_simp; done) | (go_simp; rfl)); (case hp => exact (Reps.one (show Kd.M (Kd.int .i64) _ _ _ x25_2 [.int .i64 x25_2] from rfl) (Reps.none _ _)))
                   intro v249 w33 ho34 hb hg_ hnew_
                   clear hg_ hnew_
                   (first | rw [← Ny248.out] at ho34 | (simp only [Int.reduceToNat] at ho34; rw [← Ny248.out] at ho34))
                   have n0_ := Aside0.mk (Kd.R_elder' (pR HO_6) (Kd.R_base ho34) hb)
                   have n1_ := Aside0.mk (Kd.R_lower (Kd.R_new' ho34 (Kd.R_lt (pR HO_6))) (below_size (bC HB GE241)))
                   have n2_ := Aside0.mk (bW BK241 hb)
                   have n3_ := Aside0.mk (below_step (bC HB GE241) hb)
                   clear HO_6
                   clear BK241
                   clear HB
                   have HO_6 := n0_
                   have HO250 := n1_
                   have BK241 := n2_
                   have HB := n3_
                   clear n0_ n1_ n2_ n3_
                   clear hb ho34
                   obtain ⟨Ao35, co35, eo35⟩ := Kd.R_slice HO250.out
                   (first | subst eo35 | (injection eo35 with f1_ f2_ f3_; have f4_ := f1_.symm; have f5_ := f3_.symm; clear f1_ f2_ f3_; subst f4_; subst f5_))
                   refine hK.out _ _ ⟨(blk_cell BK241.out 0).trans rfl, (blk_cell BK241.out 1).trans rfl, ((HB.out.cell (World.block_lt_of_cell? w _ hw255_0)).trans hw255_0)⟩ (fun hHeld => ?_)
                   clear hK K
                   refine norm_ (a' := ?_) ?_ ?_
                   rotate_left
                   · show Act.put _ (some 36) _ = _
                     simp only [Act.put, List.setIfInBounds_toArray, List.set_cons_zero, List.set_cons_succ, i64_w, i32_w]
                     rfl
                   refine one_ (i := 7) (N := some 37) #[true, true, true, true, true, true, true, true, true, false, true, true, true, true, true, false] rfl rfl (one_of HT_.out (by kernel_rfl)) (by decide) (fun K hK => ?_)
                   refine goes_ Try.func84 (by kernel_rfl) rfl #[.int .i64 (l0_0.length : Int), .slice Ao35 y248.length co35] (by rfl) rfl rfl aT ?_
                   with_reducible refine (impl_without.calls k2 (l0_0.length : Int) _ _ y248 t251 _ ?side1 ?side2 A20.out).mono ?_
                   (case side1 => exact cR HO250)
                   (case side2 => exact (Kd.R_reads' HO250.out).2.1)
                   rintro e w36 ⟨v252, rfl, ho0, hb⟩
                   refine ⟨_, rfl, ?_⟩
                   have n0_ := Aside0.mk (Kd.R_elder' (pR HO_6) (Kd.R_base ho0) hb)
                   have n1_ := Aside0.mk (Kd.R_elder' (pR HO250) (Kd.R_base ho0) hb)
                   have n2_ := Aside0.mk (Kd.R_lower (Kd.R_new' (Kd.R_new' ho0 (Kd.R_lt (pR HO_6))) (Kd.R_lt (pR HO250))) (below_size (bC HB GE241)))
                   have n3_ := Aside0.mk (bW BK241 hb)
                   have n4_ := Aside0.mk (below_step (bC HB GE241) hb)
                   clear HO_6
                   clear HO250
                   clear BK241
                   clear HB
                   have HO_6 := n0_
                   have HO250 := n1_
                   have HO253 := n2_
                   have BK241 := n3_
                   have HB := n4_
                   clear n0_ n1_ n2_ n3_ n4_
                   (try clear hb)
                   (try clear hb2)
                   (try clear hk)
                   (try clear hi)
                   (try clear ho0)
                   obtain ⟨Ao37, co37, eo37⟩ := Kd.R_slice HO253.out
                   (first | subst eo37 | (injection eo37 with f1_ f2_ f3_; have f4_ := f1_.symm; have f5_ := f3_.symm; clear f1_ f2_ f3_; subst f4_; subst f5_))
                   refine hK.out _ _ ⟨(blk_cell BK241.out 0).trans rfl, (blk_cell BK241.out 1).trans rfl, ((HB.out.cell (World.block_lt_of_cell? w _ hw255_0)).trans hw255_0)⟩ (fun hHeld => ?_)
                   clear hK K
                   refine norm_ (a' := ?_) ?_ ?_
                   rotate_left
                   · show Act.put _ (some 37) _ = _
                     simp only [Act.put, List.setIfInBounds_toArray, List.set_cons_zero, List.set_cons_succ, i64_w, i32_w]
                     rfl
                   refine one_ (i := 9) (N := some 39) #[true, true, true, true, true, true, true, true, true, true, true, true, true, true, true, false] rfl rfl (one_of HT_.out (by kernel_rfl)) (by decide) (fun K hK => ?_)
                   refine goes_ Try.func82 (by kernel_rfl) rfl #[.agg #[.slice (some ad247) l0_0.length c0_0, .slice (some ad255) l0_1.length c0_1], .slice A247_0 (rd_L1 l0_0 x25_2).length c247_0, .slice Ao37 t251.length co37, .int .i64 a1] (by rfl) rfl rfl aT ?_
                   with_reducible refine (impl_Sample_near.calls k2 _ _ l0_0 _ _ l0_1 _ _ (rd_L1 l0_0 x25_2) _ _ t251 a1 t254 _ ?side1 ?side2 ?side3 ?side4 ?side5 ?side6 ?side7 ?side8 A21.out).mono ?_
                   (case side1 => exact cB HR0_0 HB)
                   (case side2 => exact HC0_0.out)
                   (case side3 => exact cB HR0_1 HB)
                   (case side4 => exact HC0_1.out)
                   (case side5 => exact cB HR247_0 HB)
                   (case side6 => exact HC247_0.out)
                   (case side7 => exact cR HO253)
                   (case side8 => exact (Kd.R_reads' HO253.out).2.1)
                   rintro e w38 ⟨rfl, hb⟩
                   refine ⟨_, rfl, ?_⟩
                   have n0_ := Aside0.mk (Kd.R_below (pR HO_6) hb)
                   have n1_ := Aside0.mk (Kd.R_below (pR HO250) hb)
                   have n2_ := Aside0.mk (Kd.R_below (pR HO253) hb)
                   have n3_ := Aside0.mk (bW BK241 hb)
                   have n4_ := Aside0.mk (below_step (bC HB GE241) hb)
                   clear HO_6
                   clear HO250
                   clear HO253
                   clear BK241
                   clear HB
                   have HO_6 := n0_
                   have HO250 := n1_
                   have HO253 := n2_
                   have BK241 := n3_
                   have HB := n4_
                   clear n0_ n1_ n2_ n3_ n4_
                   (try clear hb)
                   (try clear hb2)
                   (try clear hk)
                   (try clear hi)
                   refine hK.out _ _ ⟨(blk_cell BK241.out 0).trans rfl, (blk_cell BK241.out 1).trans rfl, ((HB.out.cell (World.block_lt_of_cell? w _ hw255_0)).trans hw255_0)⟩ (fun hHeld => ?_)
                   clear hK K
                   refine norm_ (a' := ?_) ?_ ?_
                   rotate_left
                   · show Act.put _ (some 39) _ = _
                     simp only [Act.put, List.setIfInBounds_toArray, List.set_cons_zero, List.set_cons_succ, i64_w, i32_w]
                     rfl
                   refine pure_ (i := 15) (N := some 45) (v := ?_) (a' := ?_) #[true, true, true, true, true, true, true, true, true, true, true, true, true, true, true, true] rfl rfl (any_of HT_.out (by kernel_rfl)) (fun _ _ _ h => h) (Or.inl ⟨by rfl, ?_⟩) ?_ ?_
                   rotate_left
                   · intro w'
                     go_simp
                     with_reducible rfl
                   rotate_left
                   · exact aP
                   refine done_ (done_of HT_.out (by kernel_rfl)) ?_
                   try go_wp2_with (first | ((with_reducible refine gate_builtin (b := .append) (xs := #[.tmp 46, .tmp 48]) rfl ?_); at_builtin; refine Kd.R_append (Kd.int .i64) (w0 := w) w.heap.size rfl (.tmp 46) (.tmp 48) 22 3 (.int .i64 0) 8 rfl Try.underlying22 info3 rfl (by decide) (by omega) u6 x6_2 x25_2 [.int .i64 x25_2] (fun k_ => some k_ ≠ (.slice Ao35 y248.length co35 : Value).ownBlock ∧ some k_ ≠ (.slice Ao37 t251.length co37 : Value).ownBlock) (fun _ => False) rfl rfl ?aP (fun _ hk => hk.elim) ?aF ?aO ?aB ?aS ?aL ?_; (case aP => exact rfl); (case aB => exact (bC HB GE241)); (case aF => exact (fun k_ hk => ⟨Kd.fresh' (Kd.R_lt (pR HO250)) k_ hk, Kd.fresh' (Kd.R_lt (pR HO253)) k_ hk⟩)); (case aO => exact (by (with_reducible repeat (first | apply Kd.R_alloc | apply Kd.R_drewN | apply Kd.R_drew)); exact Kd.R_mono HO_6.out (fun _ hk => ⟨hk.1.2, hk.2⟩))); (case aS => exact (below_size (bC HB GE241))); (case aL => have := LMc31.out; omega); intro v257 w39 ho hb hg hat; rw [← Ny256.out] at ho; have n0_ := Aside0.mk (blk_grown (g := gb241) (o := .cells #[.slice (some ad247) l0_0.length c0_0, .slice (some ad255) l0_1.length c0_1] 49 (0, 0)) (pB BK241) hg (Kd.R_ne HO_6.out BK241.out (by decide))); have n1_ := Aside0.mk (Kd.R_after (ok := (fun k_ => some k_ ≠ (.slice Ao37 t251.length co37 : Value).ownBlock)) (by (with_reducible repeat (first | apply Kd.R_alloc | apply Kd.R_drewN | apply Kd.R_drew)); exact Kd.R_mono HO250.out (fun _ hk => ⟨hk.2, hk.1.2⟩)) hg hat); have n2_ := Aside0.mk (Kd.R_after (ok := (fun k_ => some k_ ≠ (.slice Ao35 y248.length co35 : Value).ownBlock)) (by (with_reducible repeat (first | apply Kd.R_alloc | apply Kd.R_drewN | apply Kd.R_drew)); exact Kd.R_mono HO253.out (fun _ hk => ⟨hk.2, hk.1.2⟩)) hg hat); have n3_ := Aside0.mk (hb); have n4_ := Aside0.mk (ho); clear BK241; clear HO250; clear HO253; clear HB; clear HO_6; have BK241 := n0_; have HO250 := n1_; have HO253 := n2_; have HB := n3_; have HO258 := n4_; clear n0_ n1_ n2_ n3_ n4_; clear ho hb hg hat))
                   go_roundg k2
                   case measure => have := HJ2.out; have := HK2.out; omega
                   case rel => exact ⟨(y256), (wrap64 (x25_2 + 1)), rD, H', ⟨by have := HJ2.out; have := HK2.out; omega⟩, ⟨by (with_reducible repeat (first | apply Kd.R_alloc | apply Kd.R_drewN | apply Kd.R_drew)); exact Kd.R_mono HO258.out (fun _ hk => trivial)⟩, ⟨pB BK241⟩, ⟨bC HB GE241⟩⟩
                 · rw [if_neg c31] at H
                   exact absurd H (by simp)
             · rw [if_neg c22] at H
               exact absurd H (by simp)
           · rw [if_neg c19] at H
             exact absurd H (by simp)
         · rw [if_neg c18] at H
           exact absurd H (by simp)
       · rw [if_neg c17] at H
         have c17b0 : decide (x25_2 < (l0_0.length : Int)) = false := decide_eq_false c17
         clear c17
         simp only [Option.some.injEq, Prod.mk.injEq] at H
         obtain ⟨rfl, rfl⟩ := H
         go_wp2
         go_ret2
         exact ⟨_, eW, by (with_reducible repeat (first | apply Kd.R_alloc | apply Kd.R_drewN | apply Kd.R_drew)); exact HO_6.out, bC HB GE241⟩

-- NOT PRINTED: function 10 (laws_FnExactLeftOutMistakes)

end Go.Proofs.Ytihhedemdkifhaa.PFnExactLeftOutMistakes
