-- Printed by wip/tools/myprint.py (the printer of the kit, patched by that program; roots chosen by it)
import Derived.Test.YtpboffjnnnmicaaPFnExactWithOppositesx0
import Derived.Test.YtpboffjnnnmicaaPFnExactWithOppositesx5
import Derived.Test.YtpboffjnnnmicaaSh
namespace Go.Proofs.Ytpboffjnnnmicaa.PFnExactWithOpposites
open Go.RowKit Go.Proofs.Ytpboffjnnnmicaa.Sh Go.Proofs.YtpboffjnnnmicaaW.PrintWords Go.Proofs.YtpboffjnnnmicaaW.PrintLast Go.Proofs.YtpboffjnnnmicaaW.PrintMore
attribute [local go_sem] max2_int min2_int max_two min_two max_three min_three max_four min_four   -- for this text's walks alone
set_option linter.unusedVariables false
set_option linter.unusedSimpArgs false

/-! ### impl_WithOpposites: function 50 -/
mutual
def impl_WithOpposites.j0 : Nat → Bool → List (List Int) → List Int → Option ((List (List Int)) × List Int × Bool)
 | 0, _, _, _ => none
 | k + 1, x17, x215000, x215001 => if x17 = true then (some (([] : List (List Int)), ([] : List Int), false)) else ((impl_copies.f k x215000).bind fun t217 => ((impl_copied.f x215001).bind fun t220 => (impl_WithOpposites.l0 k x215000 (x215000.length : Int) 0 t217 t220)))
def impl_WithOpposites.l0 : Nat → List (List Int) → Int → Int → List (List Int) → List Int → Option ((List (List Int)) × List Int × Bool)
 | 0, _, _, _, _, _ => none
 | k + 1, x27, x28, x29, x224000, x224001 => if x29 < x28 then (if 0 ≤ x29 then (if x29 < (x27.length : Int) then ((impl_copied.f (rd_L1 x27 x29)).bind fun t225 => (impl_WithOpposites.l1 k t225 x27 x28 x29 (t225.length : Int) 0 x224000 x224001)) else (none)) else (none)) else (some (x224000, x224001, true))
def impl_WithOpposites.l1 : Nat → List Int → List (List Int) → Int → Int → Int → Int → List (List Int) → List Int → Option ((List (List Int)) × List Int × Bool)
 | 0, _, _, _, _, _, _, _, _ => none
 | k + 1, x7, x27, x28, x29, x36, x37, x224000, x224001 => if x37 < x36 then (if 0 ≤ x37 then (if x37 < (x7.length : Int) then (impl_WithOpposites.l1 k (x7.set (x37 : Int).toNat (wrap64 ((rd x7 x37) * (-1)))) x27 x28 x29 x36 (wrap64 (x37 + 1)) x224000 x224001) else (none)) else (none)) else (if x224000.length < 5864062014805 then (impl_WithOpposites.l0 k x27 x28 (wrap64 (x29 + 1)) (x224000 ++ [x7]) x224001) else (none))
end
def impl_WithOpposites.f (k : Nat) (l0_0 : List (List Int)) (l0_1 : List Int) : Option ((List (List Int)) × List Int × Bool) := (impl_IsPanel.f k l0_0 l0_1).bind fun t216 => (if t216 = true then (impl_WithOpposites.j0 k (decide ((l0_0.length : Int) > 4)) l0_0 l0_1) else (impl_WithOpposites.j0 k true l0_0 l0_1))
def impl_WithOpposites.T3 : Bool × List (List Nat × List Nat) := (true, [([], []), ([0], [0]), ([1], [1]), ([], []), ([3], [3]), ([4, 2], [4]), ([2, 5], [2, 5]), ([], []), ([7, 6, 5, 0, 1, 2, 3, 4, 5, 6, 7], [6, 7])])
def impl_WithOpposites.B3 : List Nat := [0, 1, 3, 0, 8, 31, 63, 0, 255]
theorem impl_WithOpposites.tab3 : rtab .any (opsOf Try.f50 3) = impl_WithOpposites.T3 := by kernel_rfl
theorem impl_WithOpposites.bits3 : waitsOk impl_WithOpposites.T3.2 impl_WithOpposites.B3 = true := by kernel_rfl
set_option maxHeartbeats 8000000 in
set_option maxRecDepth 100000 in
theorem impl_WithOpposites.calls (k : Nat) (A0_0 : Option Addr) (c0_0 : Nat) (l0_0 : List (List Int)) (A0_1 : Option Addr) (c0_1 : Nat) (l0_1 : List Int) (r1 : List (List Int)) (r2 : List Int) (r3 : Bool) (w : World) (hr0_0 : Kd.C (Kd.slice 3 (Kd.int .i64)) w A0_0 l0_0.length l0_0) (hc0_0 : l0_0.length ≤ c0_0) (hr0_1 : Kd.C (Kd.int .i64) w A0_1 l0_1.length l0_1) (hc0_1 : l0_1.length ≤ c0_1) (h : impl_WithOpposites.f k l0_0 l0_1 = some (r1, r2, r3)) :
 Calls Try.prog 50 #[.agg #[.slice A0_0 l0_0.length c0_0, .slice A0_1 l0_1.length c0_1]] w fun e w' => ∃ v0_ v1_ : Value, e = .returned (.tuple #[.agg #[v0_, v1_], .bool r3]) ∧ Kd.S (Kd.slice 3 (Kd.int .i64)) 23 w' w.heap.size (fun k_ => some k_ ≠ (v1_ : Value).ownBlock) v0_ r1 ∧ Kd.R (Kd.int .i64) 3 w' w.heap.size (fun _ => True) v1_ r2 ∧ Below w.heap.size w w' := by
 have hu29 := Try.underlying29
 have HR0_0 := Aside0.mk hr0_0
 have HC0_0 := Aside0.mk hc0_0
 clear hr0_0 hc0_0
 have HR0_1 := Aside0.mk hr0_1
 have HC0_1 := Aside0.mk hc0_1
 clear hr0_1 hc0_1
 have HB := Aside0.mk (Below.refl w.heap.size w)
 have H : ((impl_IsPanel.f k l0_0 l0_1).bind fun t216 => (if t216 = true then (impl_WithOpposites.j0 k (decide ((l0_0.length : Int) > 4)) l0_0 l0_1) else (impl_WithOpposites.j0 k true l0_0 l0_1))) = some (r1, r2, r3) := h
 clear h
 have HC2 := Aside0.mk H
 clear H
 go_enter Try.func50, Try.ntmps50
 go_upto_region 1 with (first | ((with_reducible refine gate_dst (N := 1) rfl ?_); refine box_event ?hg (N := 1) ?hd (cs := #[.slice A0_0 l0_0.length c0_0, .slice A0_1 l0_1.length c0_1]) (t := 29) ?hr ?_; (case hd => rfl); (case hg => rfl); (case hr => first | (go_simp; done) | (go_simp; rfl)); intro gb214 hg w3 hbox hb; have n0_ := Aside0.mk (below_step (bB HB) hb); have n1_ := Aside0.mk (hbox); have n2_ := Aside0.mk ((by rw [hg]; exact (below_size (bB HB)) : w.heap.size ≤ gb214)); have n3_ := Aside0.mk ((by rw [hg]; exact (below_size (bB HB)) : w.heap.size ≤ gb214)); clear HB; have HB := n0_; have BK214 := n1_; have GW214 := n2_; have GE214 := n3_; clear n0_ n1_ n2_ n3_; clear hb hbox hg) | ((with_reducible refine gate_dst (N := 2) rfl ?_); refine box_event ?hg (N := 2) ?hd (cs := #[.slice none 0 0, .slice none 0 0]) (t := 29) ?hr ?_; (case hd => rfl); (case hg => rfl); (case hr => first | (go_simp; done) | (go_simp; rfl)); intro gb215 hg w4 hbox hb; have n0_ := Aside0.mk (blk_below (g := gb214) (o := .cells #[.slice A0_0 l0_0.length c0_0, .slice A0_1 l0_1.length c0_1] 29 (0, 0)) (pB BK214) hb); have n1_ := Aside0.mk (below_step (bC HB GE214) hb); have n2_ := Aside0.mk (hbox); have n3_ := Aside0.mk ((by rw [hg]; exact (below_size (bC HB GE214)) : w.heap.size ≤ gb215)); have n4_ := Aside0.mk ((by rw [hg]; exact (below_size (bC HB GE214)) : w.heap.size ≤ gb215)); have n5_ := Aside0.mk ((by rw [hg]; exact Nat.ne_of_lt (blk_lt (g := gb214) (o := .cells #[.slice A0_0 l0_0.length c0_0, .slice A0_1 l0_1.length c0_1] 29 (0, 0)) (pB BK214)) : gb214 ≠ gb215)); have n6_ := Aside0.mk ((by rw [hg]; exact Nat.ne_of_gt (blk_lt (g := gb214) (o := .cells #[.slice A0_0 l0_0.length c0_0, .slice A0_1 l0_1.length c0_1] 29 (0, 0)) (pB BK214)) : gb215 ≠ gb214)); clear BK214; clear HB; have BK214 := n0_; have HB := n1_; have BK215 := n2_; have GW215 := n3_; have GE215 := n4_; have NB214_215 := n5_; have NB215_214 := n6_; clear n0_ n1_ n2_ n3_ n4_ n5_ n6_; clear hb hbox hg))
 (try simp only [Act.put, List.setIfInBounds_toArray, List.set_cons_zero, List.set_cons_succ])
 go_cut [17] (fun v17 wc => ∃ (kq : Nat) (x17_1 : Bool), v17 = .bool x17_1 ∧ Aside0 (impl_WithOpposites.j0 kq x17_1 l0_0 l0_1 = some (r1, r2, r3)) ∧ Aside0 (kq ≤ k) ∧ Aside0 (wc.heap[gb214]? = some (.cells #[(.slice A0_0 l0_0.length c0_0), (.slice A0_1 l0_1.length c0_1)] 29 (0, 0))) ∧ Aside0 (wc.heap[gb215]? = some (.cells #[(.slice none 0 0), (.slice none 0 0)] 29 (0, 0))) ∧ Aside0 (Below w.heap.size w wc))
 case first =>
  have H := HC2.out
  clear HC2
  replace H := Option.bind_eq_some_iff.mp H
  obtain ⟨t216, A50, H⟩ := H
  replace H : (if t216 = true then (impl_WithOpposites.j0 k (decide ((l0_0.length : Int) > 4)) l0_0 l0_1) else (impl_WithOpposites.j0 k true l0_0 l0_1)) = some (r1, r2, r3) := H
  have A5 := Aside0.mk A50
  clear A50
  by_cases c6 : t216 = true
  · subst c6
    have H1 : (impl_WithOpposites.j0 k (decide ((l0_0.length : Int) > 4)) l0_0 l0_1) = some (r1, r2, r3) := by rw [if_pos rfl] at H; exact H
    clear H
    have H := H1
    clear H1
    have H' := Aside0.mk H
    clear H
    have hnb7 := NB214_215.out
    have hnc7 := NB215_214.out
    have hcz8_0 : w4.cell? ⟨gb214, 0, none⟩ = some (.slice A0_0 l0_0.length c0_0) := (blk_cell BK214.out 0).trans rfl
    have hcz8_1 : w4.cell? ⟨gb214, 1, none⟩ = some (.slice A0_1 l0_1.length c0_1) := (blk_cell BK214.out 1).trans rfl
    have hfz8_0 := blk_frozen BK214.out 0
    have hfz8_1 := blk_frozen BK214.out 1
    go_wp2_with (first | ((with_reducible refine gate_callee (f := 59) rfl ?_); refine goesL_ (some 10) rfl rfl Try.func59 (by kernel_rfl) rfl #[.agg #[.slice A0_0 l0_0.length c0_0, .slice A0_1 l0_1.length c0_1]] rfl aT ?_; (with_reducible refine (impl_IsPanel.calls k _ _ l0_0 _ _ l0_1 true _ ?side1 ?side2 ?side3 ?side4 A5.out).mono ?_); (case side1 => exact cB HR0_0 HB); (case side2 => exact HC0_0.out); (case side3 => exact cB HR0_1 HB); (case side4 => exact HC0_1.out); rintro e w9 ⟨rfl, hb⟩; refine ⟨_, rfl, ?_⟩; have n0_ := Aside0.mk (blk_below (g := gb214) (o := .cells #[.slice A0_0 l0_0.length c0_0, .slice A0_1 l0_1.length c0_1] 29 (0, 0)) (pB BK214) hb); have n1_ := Aside0.mk (blk_below (g := gb215) (o := .cells #[.slice none 0 0, .slice none 0 0] 29 (0, 0)) (pB BK215) hb); have n2_ := Aside0.mk (below_step (bD HB GE214 GE215) hb); clear BK214; clear BK215; clear HB; have BK214 := n0_; have BK215 := n1_; have HB := n2_; clear n0_ n1_ n2_; (try clear hb); (try clear hb2); (try clear hk); (try clear hi); have hcz10_0 : w9.cell? ⟨gb214, 0, none⟩ = some (.slice A0_0 l0_0.length c0_0) := (blk_cell BK214.out 0).trans rfl; have hcz10_1 : w9.cell? ⟨gb214, 1, none⟩ = some (.slice A0_1 l0_1.length c0_1) := (blk_cell BK214.out 1).trans rfl; have hfz10_0 := blk_frozen BK214.out 0; have hfz10_1 := blk_frozen BK214.out 1))
    go_meet
    case rel => exact ⟨_, (decide ((l0_0.length : Int) > 4)), rD, H', ⟨by first | omega | exact Nat.le_refl _⟩, ⟨pB BK214⟩, ⟨pB BK215⟩, ⟨bD HB GE214 GE215⟩⟩
  · replace c6 := Bool.eq_false_iff.mpr c6
    subst c6
    have H1 : (impl_WithOpposites.j0 k true l0_0 l0_1) = some (r1, r2, r3) := by rw [if_neg (show ¬ (false = true) by decide)] at H; exact H
    clear H
    have H := H1
    clear H1
    have H' := Aside0.mk H
    clear H
    have hnb11 := NB214_215.out
    have hnc11 := NB215_214.out
    have hcz12_0 : w4.cell? ⟨gb214, 0, none⟩ = some (.slice A0_0 l0_0.length c0_0) := (blk_cell BK214.out 0).trans rfl
    have hcz12_1 : w4.cell? ⟨gb214, 1, none⟩ = some (.slice A0_1 l0_1.length c0_1) := (blk_cell BK214.out 1).trans rfl
    have hfz12_0 := blk_frozen BK214.out 0
    have hfz12_1 := blk_frozen BK214.out 1
    go_wp2_with (first | ((with_reducible refine gate_callee (f := 59) rfl ?_); refine goesL_ (some 10) rfl rfl Try.func59 (by kernel_rfl) rfl #[.agg #[.slice A0_0 l0_0.length c0_0, .slice A0_1 l0_1.length c0_1]] rfl aT ?_; (with_reducible refine (impl_IsPanel.calls k _ _ l0_0 _ _ l0_1 false _ ?side1 ?side2 ?side3 ?side4 A5.out).mono ?_); (case side1 => exact cB HR0_0 HB); (case side2 => exact HC0_0.out); (case side3 => exact cB HR0_1 HB); (case side4 => exact HC0_1.out); rintro e w13 ⟨rfl, hb⟩; refine ⟨_, rfl, ?_⟩; have n0_ := Aside0.mk (blk_below (g := gb214) (o := .cells #[.slice A0_0 l0_0.length c0_0, .slice A0_1 l0_1.length c0_1] 29 (0, 0)) (pB BK214) hb); have n1_ := Aside0.mk (blk_below (g := gb215) (o := .cells #[.slice none 0 0, .slice none 0 0] 29 (0, 0)) (pB BK215) hb); have n2_ := Aside0.mk (below_step (bD HB GE214 GE215) hb); clear BK214; clear BK215; clear HB; have BK214 := n0_; have BK215 := n1_; have HB := n2_; clear n0_ n1_ n2_; (try clear hb); (try clear hb2); (try clear hk); (try clear hi)))
    go_meet
    case rel => exact ⟨_, (true), rD, H', ⟨by first | omega | exact Nat.le_refl _⟩, ⟨pB BK214⟩, ⟨pB BK215⟩, ⟨bD HB GE214 GE215⟩⟩
 case rest =>
  clear HC2
  try clear c1
  try clear p2
  try clear c5
  try clear c6
  try clear c7
  try clear c11
  try clear hcz10_0
  try clear hcz10_1
  try clear hcz12_0
  try clear hcz12_1
  try clear hcz8_0
  try clear hcz8_1
  try clear hfz10_0
  try clear hfz10_1
  try clear hfz12_0
  try clear hfz12_1
  try clear hfz8_0
  try clear hfz8_1
  obtain ⟨kq, x17_1, rfl, HA, HJ1, BK214, BK215, HB⟩ := hcut
  cases kq with
  | zero => exact absurd HA.out (by simp [impl_WithOpposites.j0])
  | succ kj1 =>
   have H := HA.out
   clear HA
   simp only [impl_WithOpposites.j0] at H
   by_cases c14 : x17_1 = true
   · subst c14
     have H1 : (some (([] : List (List Int)), ([] : List Int), false)) = some (r1, r2, r3) := by rw [if_pos rfl] at H; exact H
     clear H
     have H := H1
     clear H1
     simp only [Option.some.injEq, Prod.mk.injEq] at H
     obtain ⟨rfl, rfl, rfl⟩ := H
     have hnb15 := NB215_214.out
     have hnc15 := NB214_215.out
     have hcz16_0 : wc.cell? ⟨gb215, 0, none⟩ = some (.slice none 0 0) := (blk_cell BK215.out 0).trans rfl
     have hcz16_1 : wc.cell? ⟨gb215, 1, none⟩ = some (.slice none 0 0) := (blk_cell BK215.out 1).trans rfl
     have hfz16_0 := blk_frozen BK215.out 0
     have hfz16_1 := blk_frozen BK215.out 1
     go_wp2
     refine bodyPost_ret (results_ct rfl _ _ gb215 29 #[.slice none 0 0, .slice none 0 0] (0, 0) _ rfl (by (with_reducible repeat (first | refine blk_drewN ?_ _ | refine blk_drew ?_ | refine blk_alloc ?_ _)); refine blk_put (cs := #[.slice none 0 0, .slice none 0 0]) ?_ 1 _ rfl; (with_reducible repeat (first | refine blk_drewN ?_ _ | refine blk_drew ?_ | refine blk_alloc ?_ _)); refine blk_put (cs := #[.slice none 0 0, .slice none 0 0]) ?_ 0 _ rfl; (with_reducible repeat (first | refine blk_drewN ?_ _ | refine blk_drew ?_ | refine blk_alloc ?_ _)); exact BK215.out) Try.underlying29 rfl (by kernel_rfl)) rfl ?_
     exact ⟨_, _, eW, by first | exact Kd.S_nil _ _ _ _ _ | exact Kd.N_nil _ _ _ _ _ | exact Kd.V_nil _ _ _ _ _ | exact Kd.Q_nil _ _ _ _ _ | exact Kd.R_nil _ _ _ _ _, by first | exact Kd.R_nil _ _ _ _ _ | exact Kd.N_nil _ _ _ _ _ | exact Kd.V_nil _ _ _ _ _ | exact Kd.Q_nil _ _ _ _ _ | exact Kd.S_nil _ _ _ _ _, bD HB GE214 GE215⟩
   · replace c14 := Bool.eq_false_iff.mpr c14
     subst c14
     have H1 : ((impl_copies.f kj1 l0_0).bind fun t217 => ((impl_copied.f l0_1).bind fun t220 => (impl_WithOpposites.l0 kj1 l0_0 (l0_0.length : Int) 0 t217 t220))) = some (r1, r2, r3) := by rw [if_neg (show ¬ (false = true) by decide)] at H; exact H
     clear H
     have H := H1
     clear H1
     replace H := Option.bind_eq_some_iff.mp H
     obtain ⟨t217, A170, H⟩ := H
     replace H : ((impl_copied.f l0_1).bind fun t220 => (impl_WithOpposites.l0 kj1 l0_0 (l0_0.length : Int) 0 t217 t220)) = some (r1, r2, r3) := H
     have A17 := Aside0.mk A170
     clear A170
     replace H := Option.bind_eq_some_iff.mp H
     obtain ⟨t220, A180, H⟩ := H
     replace H : (impl_WithOpposites.l0 kj1 l0_0 (l0_0.length : Int) 0 t217 t220) = some (r1, r2, r3) := H
     have A18 := Aside0.mk A180
     clear A180
     have H' := Aside0.mk H
     clear H
     try go_wp2
     have n0_ := Aside0.mk (blk_drew BK214.out)
     have n1_ := Aside0.mk (blk_drew BK215.out)
     have n2_ := Aside0.mk (below_drew1 HB.out)
     clear BK214
     clear BK215
     clear HB
     have BK214 := n0_
     have BK215 := n1_
     have HB := n2_
     clear n0_ n1_ n2_
     refine start_ (n := 9) (S := fun w' => w'.cell? ⟨gb214, 0, none⟩ = some (.slice A0_0 l0_0.length c0_0) ∧ w'.cell? ⟨gb214, 1, none⟩ = some (.slice A0_1 l0_1.length c0_1)) (ds := []) #[false, false, false, false, false, false, false, false, false] (by kernel_rfl) rfl rfl ⟨(blk_cell BK214.out 0).trans rfl, (blk_cell BK214.out 1).trans rfl⟩ (fun hHeld => ?_); refine with_tabW impl_WithOpposites.tab3 impl_WithOpposites.bits3 (fun HT_ HW_ => ?_)
     generalize wc.drew = w19 at BK214 BK215 HB hHeld ⊢
     refine pure_ (i := 0) (N := some 19) (v := ?_) (a' := ?_) #[true, false, false, false, false, false, false, false, false] rfl rfl (any_of HT_.out (by kernel_rfl)) (fun _ _ _ h => h) (Or.inl ⟨by rfl, ?_⟩) ?_ ?_
     rotate_left
     · intro w'
       go_simp
       with_reducible rfl
     rotate_left
     · exact aP
     refine pure_ (i := 3) (N := some 22) (v := ?_) (a' := ?_) #[true, false, false, true, false, false, false, false, false] rfl rfl (any_of HT_.out (by kernel_rfl)) (fun _ _ _ h => h) (Or.inl ⟨by rfl, ?_⟩) ?_ ?_
     rotate_left
     · intro w'
       go_simp
       with_reducible rfl
     rotate_left
     · exact aP
     refine take_ (i := 1) (N := some 20) (v := ?_) (a' := ?_) #[true, true, false, true, false, false, false, false, false] rfl rfl (take_ofW HT_.out HW_.out (by kernel_rfl)) (fun _ _ _ h => h) (Or.inl ⟨by rfl, ?_⟩) hHeld ?_ ?_
     rotate_left
     · rintro w' ⟨s0, s1⟩
       go_simp
       with_reducible rfl
     rotate_left
     · exact aP
     refine take_ (i := 4) (N := some 23) (v := ?_) (a' := ?_) #[true, true, false, true, true, false, false, false, false] rfl rfl (take_ofW HT_.out HW_.out (by kernel_rfl)) (fun _ _ _ h => h) (Or.inl ⟨by rfl, ?_⟩) hHeld ?_ ?_
     rotate_left
     · rintro w' ⟨s0, s1⟩
       go_simp
       with_reducible rfl
     rotate_left
     · exact aP
     refine join_ (σ := Value × Value × Nat) 1 #[true, true, true, true, true, true, true, true, false] (fun s_ => [(21, s_.1), (24, s_.2.1), (4, .pointer (some ⟨s_.2.2, 0, none⟩)), (25, .agg #[s_.1, s_.2.1])]) (fun s_ w' => (w'.cell? ⟨gb214, 0, none⟩ = some (.slice A0_0 l0_0.length c0_0) ∧ w'.cell? ⟨gb214, 1, none⟩ = some (.slice A0_1 l0_1.length c0_1)) ∧ (Kd.S (Kd.slice 3 (Kd.int .i64)) 23 w' w.heap.size (fun k_ => some k_ ≠ (s_.2.1 : Value).ownBlock) s_.1 t217) ∧ (Kd.R (Kd.int .i64) 3 w' w.heap.size (fun _ => True) s_.2.1 t220) ∧ (w'.heap[gb214]? = some (.cells #[.slice A0_0 l0_0.length c0_0, .slice A0_1 l0_1.length c0_1] 29 (0, 0))) ∧ (w'.heap[gb215]? = some (.cells #[.slice none 0 0, .slice none 0 0] 29 (0, 0))) ∧ (w'.heap[s_.2.2]? = some (.cells #[.slice none 0 0, .slice none 0 0] 29 (0, 0))) ∧ (w.heap.size ≤ s_.2.2) ∧ (w.heap.size ≤ s_.2.2) ∧ (gb214 ≠ s_.2.2) ∧ (s_.2.2 ≠ gb214) ∧ (gb215 ≠ s_.2.2) ∧ (s_.2.2 ≠ gb215) ∧ (Below w.heap.size w w')) ?_ ?_
     rotate_left
     · intro hCont
       refine two_ (i := 2) (j := 7) (Ni := some 21) (Nj := some 4) #[true, true, true, true, true, false, false, false, false] #[true, true, false, true, true, false, false, true, false] rfl rfl rfl rfl (two_of HT_.out (by kernel_rfl)) (by decide) (by decide) (fun K hK => ?_) (fun K hK => ?_)
       · skip
         refine goes_ Try.func97 (by kernel_rfl) rfl #[.slice A0_0 l0_0.length c0_0] (by rfl) rfl rfl aT ?_
         with_reducible refine (impl_copies.calls kj1 _ _ l0_0 t217 _ ?side1 ?side2 A17.out).mono ?_
         (case side1 => exact cB HR0_0 HB)
         (case side2 => exact HC0_0.out)
         rintro e w20 ⟨v218, rfl, ho0, hb⟩
         refine ⟨_, rfl, ?_⟩
         have n0_ := Aside0.mk (Kd.S_lower ho0 (below_size (bD HB GE214 GE215)))
         have n1_ := Aside0.mk (blk_below (g := gb214) (o := .cells #[.slice A0_0 l0_0.length c0_0, .slice A0_1 l0_1.length c0_1] 29 (0, 0)) (pB BK214) hb)
         have n2_ := Aside0.mk (blk_below (g := gb215) (o := .cells #[.slice none 0 0, .slice none 0 0] 29 (0, 0)) (pB BK215) hb)
         have n3_ := Aside0.mk (below_step (bD HB GE214 GE215) hb)
         clear BK214
         clear BK215
         clear HB
         have HO219 := n0_
         have BK214 := n1_
         have BK215 := n2_
         have HB := n3_
         clear n0_ n1_ n2_ n3_
         (try clear hb)
         (try clear hb2)
         (try clear hk)
         (try clear hi)
         (try clear ho0)
         refine hK.out _ _ ⟨(blk_cell BK214.out 0).trans rfl, (blk_cell BK214.out 1).trans rfl⟩ (fun hHeld => ?_)
         clear hK K
         refine norm_ (a' := ?_) ?_ ?_
         rotate_left
         · show Act.put _ (some 21) _ = _
           simp only [Act.put, List.setIfInBounds_toArray, List.set_cons_zero, List.set_cons_succ, i64_w, i32_w]
           rfl
         refine two_ (i := 5) (j := 7) (Ni := some 24) (Nj := some 4) #[true, true, true, true, true, true, false, false, false] #[true, true, true, true, true, false, false, true, false] rfl rfl rfl rfl (two_of HT_.out (by kernel_rfl)) (by decide) (by decide) (fun K hK => ?_) (fun K hK => ?_)
         · skip
           refine goes_ Try.func98 (by kernel_rfl) rfl #[.slice A0_1 l0_1.length c0_1] (by rfl) rfl rfl aT ?_
           with_reducible refine (impl_copied.calls _ _ l0_1 t220 _ ?side1 ?side2 A18.out).mono ?_
           (case side1 => exact cB HR0_1 HB)
           (case side2 => exact HC0_1.out)
           rintro e w21 ⟨v221, rfl, ho0, hb⟩
           refine ⟨_, rfl, ?_⟩
           have n0_ := Aside0.mk (Kd.S_elder' (pS HO219) (Kd.R_base ho0) hb)
           have n1_ := Aside0.mk (Kd.R_lower ho0 (below_size (bD HB GE214 GE215)))
           have n2_ := Aside0.mk (blk_below (g := gb214) (o := .cells #[.slice A0_0 l0_0.length c0_0, .slice A0_1 l0_1.length c0_1] 29 (0, 0)) (pB BK214) hb)
           have n3_ := Aside0.mk (blk_below (g := gb215) (o := .cells #[.slice none 0 0, .slice none 0 0] 29 (0, 0)) (pB BK215) hb)
           have n4_ := Aside0.mk (below_step (bD HB GE214 GE215) hb)
           clear HO219
           clear BK214
           clear BK215
           clear HB
           have HO219 := n0_
           have HO222 := n1_
           have BK214 := n2_
           have BK215 := n3_
           have HB := n4_
           clear n0_ n1_ n2_ n3_ n4_
           (try clear hb)
           (try clear hb2)
           (try clear hk)
           (try clear hi)
           (try clear ho0)
           obtain ⟨Ao22, co22, eo22⟩ := Kd.R_slice HO222.out
           (first | subst eo22 | (injection eo22 with f1_ f2_ f3_; have f4_ := f1_.symm; have f5_ := f3_.symm; clear f1_ f2_ f3_; subst f4_; subst f5_))
           obtain ⟨Ao23, co23, eo23⟩ := Kd.S_slice HO219.out
           (first | subst eo23 | (injection eo23 with f1_ f2_ f3_; have f4_ := f1_.symm; have f5_ := f3_.symm; clear f1_ f2_ f3_; subst f4_; subst f5_))
           refine hK.out _ _ ⟨(blk_cell BK214.out 0).trans rfl, (blk_cell BK214.out 1).trans rfl⟩ (fun hHeld => ?_)
           clear hK K
           refine norm_ (a' := ?_) ?_ ?_
           rotate_left
           · show Act.put _ (some 24) _ = _
             simp only [Act.put, List.setIfInBounds_toArray, List.set_cons_zero, List.set_cons_succ, i64_w, i32_w]
             rfl
           refine pure_ (i := 6) (N := some 25) (v := ?_) (a' := ?_) #[true, true, true, true, true, true, true, false, false] rfl rfl (any_of HT_.out (by kernel_rfl)) (fun _ _ _ h => h) (Or.inl ⟨by rfl, ?_⟩) ?_ ?_
           rotate_left
           · intro w'
             go_simp
             with_reducible rfl
           rotate_left
           · exact aP
           refine one_ (i := 7) (N := some 4) #[true, true, true, true, true, true, true, true, false] rfl rfl (one_of HT_.out (by kernel_rfl)) (by decide) (fun K hK => ?_)
           refine box_step ?hg (N := 4) ?hd (cs := #[.slice none 0 0, .slice none 0 0]) (t := 29) ?hr ?_; (case hd => rfl); (case hg => rfl); (case hr => first | (go_simp; done) | (go_simp; rfl))
           intro gb223 hg w24 hbox hb
           have n0_ := Aside0.mk (Kd.S_below (pS HO219) hb)
           have n1_ := Aside0.mk (Kd.R_below (pR HO222) hb)
           have n2_ := Aside0.mk (blk_below (g := gb214) (o := .cells #[.slice A0_0 l0_0.length c0_0, .slice A0_1 l0_1.length c0_1] 29 (0, 0)) (pB BK214) hb)
           have n3_ := Aside0.mk (blk_below (g := gb215) (o := .cells #[.slice none 0 0, .slice none 0 0] 29 (0, 0)) (pB BK215) hb)
           have n4_ := Aside0.mk (below_step (bD HB GE214 GE215) hb)
           have n5_ := Aside0.mk (hbox)
           have n6_ := Aside0.mk ((by rw [hg]; exact (below_size (bD HB GE214 GE215)) : w.heap.size ≤ gb223))
           have n7_ := Aside0.mk ((by rw [hg]; exact (below_size (bD HB GE214 GE215)) : w.heap.size ≤ gb223))
           have n8_ := Aside0.mk ((by rw [hg]; exact Nat.ne_of_lt (blk_lt (g := gb214) (o := .cells #[.slice A0_0 l0_0.length c0_0, .slice A0_1 l0_1.length c0_1] 29 (0, 0)) (pB BK214)) : gb214 ≠ gb223))
           have n9_ := Aside0.mk ((by rw [hg]; exact Nat.ne_of_gt (blk_lt (g := gb214) (o := .cells #[.slice A0_0 l0_0.length c0_0, .slice A0_1 l0_1.length c0_1] 29 (0, 0)) (pB BK214)) : gb223 ≠ gb214))
           have n10_ := Aside0.mk ((by rw [hg]; exact Nat.ne_of_lt (blk_lt (g := gb215) (o := .cells #[.slice none 0 0, .slice none 0 0] 29 (0, 0)) (pB BK215)) : gb215 ≠ gb223))
           have n11_ := Aside0.mk ((by rw [hg]; exact Nat.ne_of_gt (blk_lt (g := gb215) (o := .cells #[.slice none 0 0, .slice none 0 0] 29 (0, 0)) (pB BK215)) : gb223 ≠ gb215))
           clear HO219
           clear HO222
           clear BK214
           clear BK215
           clear HB
           have HO219 := n0_
           have HO222 := n1_
           have BK214 := n2_
           have BK215 := n3_
           have HB := n4_
           have BK223 := n5_
           have GW223 := n6_
           have GE223 := n7_
           have NB214_223 := n8_
           have NB223_214 := n9_
           have NB215_223 := n10_
           have NB223_215 := n11_
           clear n0_ n1_ n2_ n3_ n4_ n5_ n6_ n7_ n8_ n9_ n10_ n11_
           clear hb hbox hg
           refine hK.out _ _ ⟨(blk_cell BK214.out 0).trans rfl, (blk_cell BK214.out 1).trans rfl⟩ (fun hHeld => ?_)
           clear hK K
           refine norm_ (a' := ?_) ?_ ?_
           rotate_left
           · show Act.put _ (some 4) _ = _
             simp only [Act.put, List.setIfInBounds_toArray, List.set_cons_zero, List.set_cons_succ, i64_w, i32_w]
             rfl
           exact norm_ (by simp only [putAll, Act.put, List.setIfInBounds_toArray, List.set_cons_zero, List.set_cons_succ]) (hCont (.slice Ao23 t217.length co23, .slice Ao22 t220.length co22, gb223) _ ⟨hHeld, (by (with_reducible repeat (first | apply Kd.S_alloc | apply Kd.S_drewN | apply Kd.S_drew)); exact Kd.S_mono HO219.out (fun _ hk => hk.2)), (pR HO222), (pB BK214), (pB BK215), (pB BK223), GW223.out, GE223.out, NB214_223.out, NB223_214.out, NB215_223.out, NB223_215.out, (bE HB GE214 GE215 GE223)⟩)
         · skip
           refine box_step ?hg (N := 4) ?hd (cs := #[.slice none 0 0, .slice none 0 0]) (t := 29) ?hr ?_; (case hd => rfl); (case hg => rfl); (case hr => first | (go_simp; done) | (go_simp; rfl))
           intro gb223 hg w21 hbox hb
           have n0_ := Aside0.mk (Kd.S_below (pS HO219) hb)
           have n1_ := Aside0.mk (blk_below (g := gb214) (o := .cells #[.slice A0_0 l0_0.length c0_0, .slice A0_1 l0_1.length c0_1] 29 (0, 0)) (pB BK214) hb)
           have n2_ := Aside0.mk (blk_below (g := gb215) (o := .cells #[.slice none 0 0, .slice none 0 0] 29 (0, 0)) (pB BK215) hb)
           have n3_ := Aside0.mk (below_step (bD HB GE214 GE215) hb)
           have n4_ := Aside0.mk (hbox)
           have n5_ := Aside0.mk ((by rw [hg]; exact (below_size (bD HB GE214 GE215)) : w.heap.size ≤ gb223))
           have n6_ := Aside0.mk ((by rw [hg]; exact (below_size (bD HB GE214 GE215)) : w.heap.size ≤ gb223))
           have n7_ := Aside0.mk ((by rw [hg]; exact Nat.ne_of_lt (blk_lt (g := gb214) (o := .cells #[.slice A0_0 l0_0.length c0_0, .slice A0_1 l0_1.length c0_1] 29 (0, 0)) (pB BK214)) : gb214 ≠ gb223))
           have n8_ := Aside0.mk ((by rw [hg]; exact Nat.ne_of_gt (blk_lt (g := gb214) (o := .cells #[.slice A0_0 l0_0.length c0_0, .slice A0_1 l0_1.length c0_1] 29 (0, 0)) (pB BK214)) : gb223 ≠ gb214))
           have n9_ := Aside0.mk ((by rw [hg]; exact Nat.ne_of_lt (blk_lt (g := gb215) (o := .cells #[.slice none 0 0, .slice none 0 0] 29 (0, 0)) (pB BK215)) : gb215 ≠ gb223))
           have n10_ := Aside0.mk ((by rw [hg]; exact Nat.ne_of_gt (blk_lt (g := gb215) (o := .cells #[.slice none 0 0, .slice none 0 0] 29 (0, 0)) (pB BK215)) : gb223 ≠ gb215))
           clear HO219
           clear BK214
           clear BK215
           clear HB
           have HO219 := n0_
           have BK214 := n1_
           have BK215 := n2_
           have HB := n3_
           have BK223 := n4_
           have GW223 := n5_
           have GE223 := n6_
           have NB214_223 := n7_
           have NB223_214 := n8_
           have NB215_223 := n9_
           have NB223_215 := n10_
           clear n0_ n1_ n2_ n3_ n4_ n5_ n6_ n7_ n8_ n9_ n10_
           clear hb hbox hg
           refine hK.out _ _ ⟨(blk_cell BK214.out 0).trans rfl, (blk_cell BK214.out 1).trans rfl⟩ (fun hHeld => ?_)
           clear hK K
           refine norm_ (a' := ?_) ?_ ?_
           rotate_left
           · show Act.put _ (some 4) _ = _
             simp only [Act.put, List.setIfInBounds_toArray, List.set_cons_zero, List.set_cons_succ, i64_w, i32_w]
             rfl
           refine one_ (i := 5) (N := some 24) #[true, true, true, true, true, true, false, true, false] rfl rfl (one_of HT_.out (by kernel_rfl)) (by decide) (fun K hK => ?_)
           refine goes_ Try.func98 (by kernel_rfl) rfl #[.slice A0_1 l0_1.length c0_1] (by rfl) rfl rfl aT ?_
           with_reducible refine (impl_copied.calls _ _ l0_1 t220 _ ?side1 ?side2 A18.out).mono ?_
           (case side1 => exact cB HR0_1 HB)
           (case side2 => exact HC0_1.out)
           rintro e w22 ⟨v221, rfl, ho0, hb⟩
           refine ⟨_, rfl, ?_⟩
           have n0_ := Aside0.mk (Kd.S_elder' (pS HO219) (Kd.R_base ho0) hb)
           have n1_ := Aside0.mk (Kd.R_lower ho0 (below_size (bE HB GE214 GE215 GE223)))
           have n2_ := Aside0.mk (blk_below (g := gb214) (o := .cells #[.slice A0_0 l0_0.length c0_0, .slice A0_1 l0_1.length c0_1] 29 (0, 0)) (pB BK214) hb)
           have n3_ := Aside0.mk (blk_below (g := gb215) (o := .cells #[.slice none 0 0, .slice none 0 0] 29 (0, 0)) (pB BK215) hb)
           have n4_ := Aside0.mk (blk_below (g := gb223) (o := .cells #[.slice none 0 0, .slice none 0 0] 29 (0, 0)) (pB BK223) hb)
           have n5_ := Aside0.mk (below_step (bE HB GE214 GE215 GE223) hb)
           clear HO219
           clear BK214
           clear BK215
           clear BK223
           clear HB
           have HO219 := n0_
           have HO222 := n1_
           have BK214 := n2_
           have BK215 := n3_
           have BK223 := n4_
           have HB := n5_
           clear n0_ n1_ n2_ n3_ n4_ n5_
           (try clear hb)
           (try clear hb2)
           (try clear hk)
           (try clear hi)
           (try clear ho0)
           obtain ⟨Ao23, co23, eo23⟩ := Kd.R_slice HO222.out
           (first | subst eo23 | (injection eo23 with f1_ f2_ f3_; have f4_ := f1_.symm; have f5_ := f3_.symm; clear f1_ f2_ f3_; subst f4_; subst f5_))
           obtain ⟨Ao24, co24, eo24⟩ := Kd.S_slice HO219.out
           (first | subst eo24 | (injection eo24 with f1_ f2_ f3_; have f4_ := f1_.symm; have f5_ := f3_.symm; clear f1_ f2_ f3_; subst f4_; subst f5_))
           refine hK.out _ _ ⟨(blk_cell BK214.out 0).trans rfl, (blk_cell BK214.out 1).trans rfl⟩ (fun hHeld => ?_)
           clear hK K
           refine norm_ (a' := ?_) ?_ ?_
           rotate_left
           · show Act.put _ (some 24) _ = _
             simp only [Act.put, List.setIfInBounds_toArray, List.set_cons_zero, List.set_cons_succ, i64_w, i32_w]
             rfl
           refine pure_ (i := 6) (N := some 25) (v := ?_) (a' := ?_) #[true, true, true, true, true, true, true, true, false] rfl rfl (any_of HT_.out (by kernel_rfl)) (fun _ _ _ h => h) (Or.inl ⟨by rfl, ?_⟩) ?_ ?_
           rotate_left
           · intro w'
             go_simp
             with_reducible rfl
           rotate_left
           · exact aP
           exact norm_ (by simp only [putAll, Act.put, List.setIfInBounds_toArray, List.set_cons_zero, List.set_cons_succ]) (hCont (.slice Ao24 t217.length co24, .slice Ao23 t220.length co23, gb223) _ ⟨hHeld, (by (with_reducible repeat (first | apply Kd.S_alloc | apply Kd.S_drewN | apply Kd.S_drew)); exact Kd.S_mono HO219.out (fun _ hk => hk.2)), (pR HO222), (pB BK214), (pB BK215), (pB BK223), GW223.out, GE223.out, NB214_223.out, NB223_214.out, NB215_223.out, NB223_215.out, (bE HB GE214 GE215 GE223)⟩)
       · skip
         refine box_step ?hg (N := 4) ?hd (cs := #[.slice none 0 0, .slice none 0 0]) (t := 29) ?hr ?_; (case hd => rfl); (case hg => rfl); (case hr => first | (go_simp; done) | (go_simp; rfl))
         intro gb223 hg w20 hbox hb
         have n0_ := Aside0.mk (blk_below (g := gb214) (o := .cells #[.slice A0_0 l0_0.length c0_0, .slice A0_1 l0_1.length c0_1] 29 (0, 0)) (pB BK214) hb)
         have n1_ := Aside0.mk (blk_below (g := gb215) (o := .cells #[.slice none 0 0, .slice none 0 0] 29 (0, 0)) (pB BK215) hb)
         have n2_ := Aside0.mk (below_step (bD HB GE214 GE215) hb)
         have n3_ := Aside0.mk (hbox)
         have n4_ := Aside0.mk ((by rw [hg]; exact (below_size (bD HB GE214 GE215)) : w.heap.size ≤ gb223))
         have n5_ := Aside0.mk ((by rw [hg]; exact (below_size (bD HB GE214 GE215)) : w.heap.size ≤ gb223))
         have n6_ := Aside0.mk ((by rw [hg]; exact Nat.ne_of_lt (blk_lt (g := gb214) (o := .cells #[.slice A0_0 l0_0.length c0_0, .slice A0_1 l0_1.length c0_1] 29 (0, 0)) (pB BK214)) : gb214 ≠ gb223))
         have n7_ := Aside0.mk ((by rw [hg]; exact Nat.ne_of_gt (blk_lt (g := gb214) (o := .cells #[.slice A0_0 l0_0.length c0_0, .slice A0_1 l0_1.length c0_1] 29 (0, 0)) (pB BK214)) : gb223 ≠ gb214))
         have n8_ := Aside0.mk ((by rw [hg]; exact Nat.ne_of_lt (blk_lt (g := gb215) (o := .cells #[.slice none 0 0, .slice none 0 0] 29 (0, 0)) (pB BK215)) : gb215 ≠ gb223))
         have n9_ := Aside0.mk ((by rw [hg]; exact Nat.ne_of_gt (blk_lt (g := gb215) (o := .cells #[.slice none 0 0, .slice none 0 0] 29 (0, 0)) (pB BK215)) : gb223 ≠ gb215))
         clear BK214
         clear BK215
         clear HB
         have BK214 := n0_
         have BK215 := n1_
         have HB := n2_
         have BK223 := n3_
         have GW223 := n4_
         have GE223 := n5_
         have NB214_223 := n6_
         have NB223_214 := n7_
         have NB215_223 := n8_
         have NB223_215 := n9_
         clear n0_ n1_ n2_ n3_ n4_ n5_ n6_ n7_ n8_ n9_
         clear hb hbox hg
         refine hK.out _ _ ⟨(blk_cell BK214.out 0).trans rfl, (blk_cell BK214.out 1).trans rfl⟩ (fun hHeld => ?_)
         clear hK K
         refine norm_ (a' := ?_) ?_ ?_
         rotate_left
         · show Act.put _ (some 4) _ = _
           simp only [Act.put, List.setIfInBounds_toArray, List.set_cons_zero, List.set_cons_succ, i64_w, i32_w]
           rfl
         refine one_ (i := 2) (N := some 21) #[true, true, true, true, true, false, false, true, false] rfl rfl (one_of HT_.out (by kernel_rfl)) (by decide) (fun K hK => ?_)
         refine goes_ Try.func97 (by kernel_rfl) rfl #[.slice A0_0 l0_0.length c0_0] (by rfl) rfl rfl aT ?_
         with_reducible refine (impl_copies.calls kj1 _ _ l0_0 t217 _ ?side1 ?side2 A17.out).mono ?_
         (case side1 => exact cB HR0_0 HB)
         (case side2 => exact HC0_0.out)
         rintro e w21 ⟨v218, rfl, ho0, hb⟩
         refine ⟨_, rfl, ?_⟩
         have n0_ := Aside0.mk (Kd.S_lower ho0 (below_size (bE HB GE214 GE215 GE223)))
         have n1_ := Aside0.mk (blk_below (g := gb214) (o := .cells #[.slice A0_0 l0_0.length c0_0, .slice A0_1 l0_1.length c0_1] 29 (0, 0)) (pB BK214) hb)
         have n2_ := Aside0.mk (blk_below (g := gb215) (o := .cells #[.slice none 0 0, .slice none 0 0] 29 (0, 0)) (pB BK215) hb)
         have n3_ := Aside0.mk (blk_below (g := gb223) (o := .cells #[.slice none 0 0, .slice none 0 0] 29 (0, 0)) (pB BK223) hb)
         have n4_ := Aside0.mk (below_step (bE HB GE214 GE215 GE223) hb)
         clear BK214
         clear BK215
         clear BK223
         clear HB
         have HO219 := n0_
         have BK214 := n1_
         have BK215 := n2_
         have BK223 := n3_
         have HB := n4_
         clear n0_ n1_ n2_ n3_ n4_
         (try clear hb)
         (try clear hb2)
         (try clear hk)
         (try clear hi)
         (try clear ho0)
         refine hK.out _ _ ⟨(blk_cell BK214.out 0).trans rfl, (blk_cell BK214.out 1).trans rfl⟩ (fun hHeld => ?_)
         clear hK K
         refine norm_ (a' := ?_) ?_ ?_
         rotate_left
         · show Act.put _ (some 21) _ = _
           simp only [Act.put, List.setIfInBounds_toArray, List.set_cons_zero, List.set_cons_succ, i64_w, i32_w]
           rfl
         refine one_ (i := 5) (N := some 24) #[true, true, true, true, true, true, false, true, false] rfl rfl (one_of HT_.out (by kernel_rfl)) (by decide) (fun K hK => ?_)
         refine goes_ Try.func98 (by kernel_rfl) rfl #[.slice A0_1 l0_1.length c0_1] (by rfl) rfl rfl aT ?_
         with_reducible refine (impl_copied.calls _ _ l0_1 t220 _ ?side1 ?side2 A18.out).mono ?_
         (case side1 => exact cB HR0_1 HB)
         (case side2 => exact HC0_1.out)
         rintro e w22 ⟨v221, rfl, ho0, hb⟩
         refine ⟨_, rfl, ?_⟩
         have n0_ := Aside0.mk (Kd.S_elder' (pS HO219) (Kd.R_base ho0) hb)
         have n1_ := Aside0.mk (Kd.R_lower ho0 (below_size (bE HB GE214 GE215 GE223)))
         have n2_ := Aside0.mk (blk_below (g := gb214) (o := .cells #[.slice A0_0 l0_0.length c0_0, .slice A0_1 l0_1.length c0_1] 29 (0, 0)) (pB BK214) hb)
         have n3_ := Aside0.mk (blk_below (g := gb215) (o := .cells #[.slice none 0 0, .slice none 0 0] 29 (0, 0)) (pB BK215) hb)
         have n4_ := Aside0.mk (blk_below (g := gb223) (o := .cells #[.slice none 0 0, .slice none 0 0] 29 (0, 0)) (pB BK223) hb)
         have n5_ := Aside0.mk (below_step (bE HB GE214 GE215 GE223) hb)
         clear HO219
         clear BK214
         clear BK215
         clear BK223
         clear HB
         have HO219 := n0_
         have HO222 := n1_
         have BK214 := n2_
         have BK215 := n3_
         have BK223 := n4_
         have HB := n5_
         clear n0_ n1_ n2_ n3_ n4_ n5_
         (try clear hb)
         (try clear hb2)
         (try clear hk)
         (try clear hi)
         (try clear ho0)
         obtain ⟨Ao23, co23, eo23⟩ := Kd.R_slice HO222.out
         (first | subst eo23 | (injection eo23 with f1_ f2_ f3_; have f4_ := f1_.symm; have f5_ := f3_.symm; clear f1_ f2_ f3_; subst f4_; subst f5_))
         obtain ⟨Ao24, co24, eo24⟩ := Kd.S_slice HO219.out
         (first | subst eo24 | (injection eo24 with f1_ f2_ f3_; have f4_ := f1_.symm; have f5_ := f3_.symm; clear f1_ f2_ f3_; subst f4_; subst f5_))
         refine hK.out _ _ ⟨(blk_cell BK214.out 0).trans rfl, (blk_cell BK214.out 1).trans rfl⟩ (fun hHeld => ?_)
         clear hK K
         refine norm_ (a' := ?_) ?_ ?_
         rotate_left
         · show Act.put _ (some 24) _ = _
           simp only [Act.put, List.setIfInBounds_toArray, List.set_cons_zero, List.set_cons_succ, i64_w, i32_w]
           rfl
         refine pure_ (i := 6) (N := some 25) (v := ?_) (a' := ?_) #[true, true, true, true, true, true, true, true, false] rfl rfl (any_of HT_.out (by kernel_rfl)) (fun _ _ _ h => h) (Or.inl ⟨by rfl, ?_⟩) ?_ ?_
         rotate_left
         · intro w'
           go_simp
           with_reducible rfl
         rotate_left
         · exact aP
         exact norm_ (by simp only [putAll, Act.put, List.setIfInBounds_toArray, List.set_cons_zero, List.set_cons_succ]) (hCont (.slice Ao24 t217.length co24, .slice Ao23 t220.length co23, gb223) _ ⟨hHeld, (by (with_reducible repeat (first | apply Kd.S_alloc | apply Kd.S_drewN | apply Kd.S_drew)); exact Kd.S_mono HO219.out (fun _ hk => hk.2)), (pR HO222), (pB BK214), (pB BK215), (pB BK223), GW223.out, GE223.out, NB214_223.out, NB223_214.out, NB215_223.out, NB223_215.out, (bE HB GE214 GE215 GE223)⟩)
     rintro ⟨v218, v221, gb223⟩ w25 ⟨hS_, h0_, h1_, h2_, h3_, h4_, h5_, h6_, h7_, h8_, h9_, h10_, h11_⟩
     have n0_ : Aside0 (Kd.S (Kd.slice 3 (Kd.int .i64)) 23 w25 w.heap.size (fun k_ => some k_ ≠ (v221 : Value).ownBlock) v218 t217) := ⟨h0_⟩
     have n1_ : Aside0 (Kd.R (Kd.int .i64) 3 w25 w.heap.size (fun _ => True) v221 t220) := ⟨h1_⟩
     have n2_ : Aside0 (w25.heap[gb214]? = some (.cells #[.slice A0_0 l0_0.length c0_0, .slice A0_1 l0_1.length c0_1] 29 (0, 0))) := ⟨h2_⟩
     have n3_ : Aside0 (w25.heap[gb215]? = some (.cells #[.slice none 0 0, .slice none 0 0] 29 (0, 0))) := ⟨h3_⟩
     have n4_ : Aside0 (w25.heap[gb223]? = some (.cells #[.slice none 0 0, .slice none 0 0] 29 (0, 0))) := ⟨h4_⟩
     have n5_ : Aside0 (w.heap.size ≤ gb223) := ⟨h5_⟩
     have n6_ : Aside0 (w.heap.size ≤ gb223) := ⟨h6_⟩
     have n7_ : Aside0 (gb214 ≠ gb223) := ⟨h7_⟩
     have n8_ : Aside0 (gb223 ≠ gb214) := ⟨h8_⟩
     have n9_ : Aside0 (gb215 ≠ gb223) := ⟨h9_⟩
     have n10_ : Aside0 (gb223 ≠ gb215) := ⟨h10_⟩
     have n11_ : Aside0 (Below w.heap.size w w25) := ⟨h11_⟩
     clear BK214
     clear BK215
     clear HB
     clear h0_ h1_ h2_ h3_ h4_ h5_ h6_ h7_ h8_ h9_ h10_ h11_
     have HO219 := n0_
     have HO222 := n1_
     have BK214 := n2_
     have BK215 := n3_
     have BK223 := n4_
     have GW223 := n5_
     have GE223 := n6_
     have NB214_223 := n7_
     have NB223_214 := n8_
     have NB215_223 := n9_
     have NB223_215 := n10_
     have HB := n11_
     clear n0_ n1_ n2_ n3_ n4_ n5_ n6_ n7_ n8_ n9_ n10_ n11_
     have hHeld : w25.cell? ⟨gb214, 0, none⟩ = some (.slice A0_0 l0_0.length c0_0) ∧ w25.cell? ⟨gb214, 1, none⟩ = some (.slice A0_1 l0_1.length c0_1) := hS_
     obtain ⟨Ao26, co26, eo26⟩ := Kd.R_slice HO222.out
     (first | subst eo26 | (injection eo26 with f1_ f2_ f3_; have f4_ := f1_.symm; have f5_ := f3_.symm; clear f1_ f2_ f3_; subst f4_; subst f5_))
     obtain ⟨Ao27, co27, eo27⟩ := Kd.S_slice HO219.out
     (first | subst eo27 | (injection eo27 with f1_ f2_ f3_; have f4_ := f1_.symm; have f5_ := f3_.symm; clear f1_ f2_ f3_; subst f4_; subst f5_))
     refine norm_ (a' := ?_) ?_ ?_
     rotate_left
     · simp only [putAll, Act.put, List.setIfInBounds_toArray, List.set_cons_zero, List.set_cons_succ]
       rfl
     refine one_ (i := 8) (N := none) #[true, true, true, true, true, true, true, true, true] rfl rfl (one_of HT_.out (by kernel_rfl)) (by decide) (fun K hK => ?_)
     have hs28 : w25.cell? ⟨gb223, 0, none⟩ = some (.slice none 0 0) := (blk_cell BK223.out 0).trans rfl
     have hfs28 := blk_frozen BK223.out 0
     have hns28_0 := NB214_223.out
     have hns28_1 := NB215_223.out
     have hms28_0 := NB223_214.out
     have hms28_1 := NB223_215.out
     have hs29 : w25.cell? ⟨gb223, 1, none⟩ = some (.slice none 0 0) := (blk_cell BK223.out 1).trans rfl
     have hfs29 := blk_frozen BK223.out 1
     have hns29_0 := NB214_223.out
     have hns29_1 := NB215_223.out
     have hms29_0 := NB223_214.out
     have hms29_1 := NB223_215.out
     refine skip_ (w1 := ?_) (by rfl) rfl ?_ ?_
     rotate_left
     · go_simp
       rfl
     refine hK.out _ _ ⟨((cell_far (p := ⟨gb223, _, none⟩) NB214_223.out _).trans (((cell_far (p := ⟨gb223, _, none⟩) NB214_223.out _).trans (hHeld.1)))), ((cell_far (p := ⟨gb223, _, none⟩) NB214_223.out _).trans (((cell_far (p := ⟨gb223, _, none⟩) NB214_223.out _).trans (hHeld.2))))⟩ (fun hHeld => ?_)
     clear hK K
     refine done_ (done_of HT_.out (by kernel_rfl)) ?_
     have hnb30 := NB214_215.out
     have hnc30 := NB215_214.out
     have hnb31 := NB214_223.out
     have hnc31 := NB223_214.out
     have hcz32_0 : w25.cell? ⟨gb214, 0, none⟩ = some (.slice A0_0 l0_0.length c0_0) := (blk_cell BK214.out 0).trans rfl
     have hcz32_1 : w25.cell? ⟨gb214, 1, none⟩ = some (.slice A0_1 l0_1.length c0_1) := (blk_cell BK214.out 1).trans rfl
     have hfz32_0 := blk_frozen BK214.out 0
     have hfz32_1 := blk_frozen BK214.out 1
     try go_wp2
     go_loopg [29] kj1 (fun kq v29 w' => ∃ (x29_2 : Int) (x224000_2 : List (List Int)) (x224001_2 : List Int) (u224000 : Value) (u224001 : Value), v29 = .int .i64 x29_2 ∧ Aside0 (impl_WithOpposites.l0 kq l0_0 (l0_0.length : Int) x29_2 x224000_2 x224001_2 = some (r1, r2, r3)) ∧ Aside0 (kq ≤ kj1) ∧ Aside0 (Kd.S (Kd.slice 3 (Kd.int .i64)) 23 w' w.heap.size (fun k_ => some k_ ≠ (u224001 : Value).ownBlock) u224000 x224000_2) ∧ Aside0 (Kd.R (Kd.int .i64) 3 w' w.heap.size (fun _ => True) u224001 x224001_2) ∧ Aside0 (w'.heap[gb214]? = some (.cells #[(.slice A0_0 l0_0.length c0_0), (.slice A0_1 l0_1.length c0_1)] 29 (0, 0))) ∧ Aside0 (w'.heap[gb215]? = some (.cells #[(.slice none 0 0), (.slice none 0 0)] 29 (0, 0))) ∧ Aside0 (w'.heap[gb223]? = some (.cells #[u224000, u224001] 29 (0, 0))) ∧ Aside0 (Below w.heap.size w w'))
     case atStart => exact ⟨(0), (t217), (t220), (.slice Ao27 t217.length co27), (.slice Ao26 t220.length co26), rD, H', ⟨Nat.le_refl _⟩, ⟨by (with_reducible repeat (first | apply Kd.S_alloc | apply Kd.S_drewN | apply Kd.S_drew)); exact Kd.S_mono (Kd.S_far (p := ⟨gb223, 1, none⟩) (Kd.S_far (p := ⟨gb223, 0, none⟩) (Kd.S_types HO219.out BK223.out (by decide)) (fun _ hk => hk.2) (.slice Ao27 t217.length co27)) (fun _ hk => hk.2) (.slice Ao26 t220.length co26)) (fun _ hk => hk.1)⟩, ⟨by (with_reducible repeat (first | apply Kd.R_alloc | apply Kd.R_drewN | apply Kd.R_drew)); exact Kd.R_mono (Kd.R_far (p := ⟨gb223, 1, none⟩) (Kd.R_far (p := ⟨gb223, 0, none⟩) (Kd.R_types HO222.out BK223.out (by decide)) (fun _ hk => hk.2) (.slice Ao27 t217.length co27)) (fun _ hk => hk.2) (.slice Ao26 t220.length co26)) (fun _ hk => trivial)⟩, ⟨by (with_reducible repeat (first | refine blk_drewN ?_ _ | refine blk_drew ?_ | refine blk_alloc ?_ _)); refine blk_far ?_ NB214_223.out _; (with_reducible repeat (first | refine blk_drewN ?_ _ | refine blk_drew ?_ | refine blk_alloc ?_ _)); refine blk_far ?_ NB214_223.out _; (with_reducible repeat (first | refine blk_drewN ?_ _ | refine blk_drew ?_ | refine blk_alloc ?_ _)); exact BK214.out⟩, ⟨by (with_reducible repeat (first | refine blk_drewN ?_ _ | refine blk_drew ?_ | refine blk_alloc ?_ _)); refine blk_far ?_ NB215_223.out _; (with_reducible repeat (first | refine blk_drewN ?_ _ | refine blk_drew ?_ | refine blk_alloc ?_ _)); refine blk_far ?_ NB215_223.out _; (with_reducible repeat (first | refine blk_drewN ?_ _ | refine blk_drew ?_ | refine blk_alloc ?_ _)); exact BK215.out⟩, ⟨by (with_reducible repeat (first | refine blk_drewN ?_ _ | refine blk_drew ?_ | refine blk_alloc ?_ _)); refine blk_put (cs := #[.slice Ao27 t217.length co27, .slice none 0 0]) ?_ 1 _ rfl; (with_reducible repeat (first | refine blk_drewN ?_ _ | refine blk_drew ?_ | refine blk_alloc ?_ _)); refine blk_put (cs := #[.slice none 0 0, .slice none 0 0]) ?_ 0 _ rfl; (with_reducible repeat (first | refine blk_drewN ?_ _ | refine blk_drew ?_ | refine blk_alloc ?_ _)); exact BK223.out⟩, ⟨bE HB GE214 GE215 GE223⟩⟩
     case round =>
      clear H'
      try clear c1
      try clear p2
      try clear c3
      try clear c5
      try clear c6
      try clear c7
      try clear c9
      try clear c11
      try clear c14
      try clear c15
      try clear c30
      try clear c31
      try clear hcz10_0
      try clear hcz10_1
      try clear hcz12_0
      try clear hcz12_1
      try clear hcz16_0
      try clear hcz16_1
      try clear hcz32_0
      try clear hcz32_1
      try clear hcz8_0
      try clear hcz8_1
      try clear hfz10_0
      try clear hfz10_1
      try clear hfz12_0
      try clear hfz12_1
      try clear hfz16_0
      try clear hfz16_1
      try clear hfz32_0
      try clear hfz32_1
      try clear hfz8_0
      try clear hfz8_1
      try clear p2
      obtain ⟨x29_2, x224000_2, x224001_2, u224000, u224001, rfl, HA, HK2, HO_224000, HO_224001, BK214, BK215, BK223, HB⟩ := hrel
      cases gk with
      | zero => exact absurd HA.out (by simp [impl_WithOpposites.l0])
      | succ k2 =>
       have H := HA.out
       clear HA
       simp only [impl_WithOpposites.l0] at H
       by_cases c33 : x29_2 < (l0_0.length : Int)
       · rw [if_pos c33] at H
         have c33b0 : decide (x29_2 < (l0_0.length : Int)) = true := decide_eq_true c33
         clear c33
         by_cases c34 : 0 ≤ x29_2
         · rw [if_pos c34] at H
           have c34b0 : decide (0 ≤ x29_2) = true := decide_eq_true c34
           clear c34
           by_cases c35 : x29_2 < (l0_0.length : Int)
           · rw [if_pos c35] at H
             have c35b0 : decide (x29_2 < (l0_0.length : Int)) = true := decide_eq_true c35
             clear c35
             replace H := Option.bind_eq_some_iff.mp H
             obtain ⟨t225, A360, H⟩ := H
             replace H : (impl_WithOpposites.l1 k2 t225 l0_0 (l0_0.length : Int) x29_2 (t225.length : Int) 0 x224000_2 x224001_2) = some (r1, r2, r3) := H
             have A36 := Aside0.mk A360
             clear A360
             have H' := Aside0.mk H
             clear H
             have p224 : 0 ≤ (x29_2 : Int) := of_decide_eq_true aS
             have q224 : x29_2 < (l0_0.length : Int) := of_decide_eq_true aS
             obtain ⟨ad224, A224_0, c224_0, e224, hx224_0, hl224_0, hi224_0⟩ := at_L1 HR0_0.out x29_2 p224 q224
             cases e224
             replace hx224_0 := (HB.out.cell (World.block_lt_of_cell? w _ hx224_0)).trans hx224_0
             have HR224_0 := Aside0.mk hi224_0
             have HC224_0 := Aside0.mk hl224_0
             clear hi224_0 hl224_0
             replace p224 := eq_true p224
             replace q224 := eq_true q224
             go_wp2_with (first | ((with_reducible refine gate_callee (f := 98) rfl ?_); refine goesL_ (some 34) rfl rfl Try.func98 (by kernel_rfl) rfl #[.slice A224_0 (rd_L1 l0_0 x29_2).length c224_0] rfl aT ?_; (with_reducible refine (impl_copied.calls _ _ (rd_L1 l0_0 x29_2) t225 _ ?side1 ?side2 A36.out).mono ?_); (case side1 => exact cB HR224_0 HB); (case side2 => exact HC224_0.out); rintro e w37 ⟨v226, rfl, ho0, hb⟩; refine ⟨_, rfl, ?_⟩; have n0_ := Aside0.mk (Kd.S_elder' (pS HO_224000) (Kd.R_base ho0) hb); have n1_ := Aside0.mk (Kd.R_elder' (pR HO_224001) (Kd.R_base ho0) hb); have n2_ := Aside0.mk (Kd.R_lower (Kd.R_new' ho0 (Kd.R_lt (pR HO_224001))) (below_size (bE HB GE214 GE215 GE223))); have n3_ := Aside0.mk (blk_below (g := gb214) (o := .cells #[.slice (some ad224) l0_0.length c0_0, .slice A0_1 l0_1.length c0_1] 29 (0, 0)) (pB BK214) hb); have n4_ := Aside0.mk (blk_below (g := gb215) (o := .cells #[.slice none 0 0, .slice none 0 0] 29 (0, 0)) (pB BK215) hb); have n5_ := Aside0.mk (blk_below (g := gb223) (o := .cells #[u224000, u224001] 29 (0, 0)) (pB BK223) hb); have n6_ := Aside0.mk (below_step (bE HB GE214 GE215 GE223) hb); clear HO_224000; clear HO_224001; clear BK214; clear BK215; clear BK223; clear HB; have HO_224000 := n0_; have HO_224001 := n1_; have HO227 := n2_; have BK214 := n3_; have BK215 := n4_; have BK223 := n5_; have HB := n6_; clear n0_ n1_ n2_ n3_ n4_ n5_ n6_; (try clear hb); (try clear hb2); (try clear hk); (try clear hi); (try clear ho0); obtain ⟨Ao38, co38, eo38⟩ := Kd.R_slice HO227.out; subst eo38))
             go_loopg [37] k2 (fun kq v37 w' => ∃ (x7_3 : List Int) (x37_3 : Int), v37 = .int .i64 x37_3 ∧ Aside0 (impl_WithOpposites.l1 kq x7_3 l0_0 (l0_0.length : Int) x29_2 (t225.length : Int) x37_3 x224000_2 x224001_2 = some (r1, r2, r3)) ∧ Aside0 (kq ≤ k2) ∧ Aside0 (Kd.R (Kd.int .i64) 3 w' w.heap.size (fun k_ => some k_ ≠ (u224001 : Value).ownBlock) (.slice Ao38 t225.length co38) x7_3) ∧ Aside0 (Kd.S (Kd.slice 3 (Kd.int .i64)) 23 w' w.heap.size (fun k_ => some k_ ≠ ((.slice Ao38 t225.length co38) : Value).ownBlock ∧ some k_ ≠ (u224001 : Value).ownBlock) u224000 x224000_2) ∧ Aside0 (Kd.R (Kd.int .i64) 3 w' w.heap.size (fun k_ => some k_ ≠ ((.slice Ao38 t225.length co38) : Value).ownBlock) u224001 x224001_2) ∧ Aside0 (w'.heap[gb214]? = some (.cells #[(.slice (some ad224) l0_0.length c0_0), (.slice A0_1 l0_1.length c0_1)] 29 (0, 0))) ∧ Aside0 (w'.heap[gb215]? = some (.cells #[(.slice none 0 0), (.slice none 0 0)] 29 (0, 0))) ∧ Aside0 (w'.heap[gb223]? = some (.cells #[u224000, u224001] 29 (0, 0))) ∧ Aside0 (Below w.heap.size w w'))
             case atStart => exact ⟨(t225), (0), rD, H', ⟨Nat.le_refl _⟩, ⟨by (with_reducible repeat (first | apply Kd.R_alloc | apply Kd.R_drewN | apply Kd.R_drew)); exact Kd.R_mono HO227.out (fun _ hk => hk.2)⟩, ⟨by (with_reducible repeat (first | apply Kd.S_alloc | apply Kd.S_drewN | apply Kd.S_drew)); exact Kd.S_mono HO_224000.out (fun _ hk => ⟨hk.2, hk.1⟩)⟩, ⟨by (with_reducible repeat (first | apply Kd.R_alloc | apply Kd.R_drewN | apply Kd.R_drew)); exact Kd.R_mono HO_224001.out (fun _ hk => hk.2)⟩, ⟨pB BK214⟩, ⟨pB BK215⟩, ⟨pB BK223⟩, ⟨bE HB GE214 GE215 GE223⟩⟩
             case round =>
              clear H'
              try clear c1
              try clear c2
              try clear p2
              try clear q2
              try clear hx2
              try clear c3
              try clear c5
              try clear c6
              try clear c7
              try clear c9
              try clear c11
              try clear c14
              try clear c15
              try clear c22
              try clear p22
              try clear q22
              try clear hx22
              try clear c30
              try clear c31
              try clear c33
              try clear c33b0
              try clear c34
              try clear c34b0
              try clear c35
              try clear c35b0
              try clear hcz10_0
              try clear hcz10_1
              try clear hcz12_0
              try clear hcz12_1
              try clear hcz16_0
              try clear hcz16_1
              try clear hcz32_0
              try clear hcz32_1
              try clear hcz8_0
              try clear hcz8_1
              try clear hfz10_0
              try clear hfz10_1
              try clear hfz12_0
              try clear hfz12_1
              try clear hfz16_0
              try clear hfz16_1
              try clear hfz32_0
              try clear hfz32_1
              try clear hfz8_0
              try clear hfz8_1
              try clear hx224_0
              try clear p2
              try clear p224
              try clear q224
              obtain ⟨x7_3, x37_3, rfl, HA, HK3, HO_7, HO_224000, HO_224001, BK214, BK215, BK223, HB⟩ := hrel
              have hl7_3 := (Kd.R_reads' HO_7.out).1
              rw [hl7_3] at HO_7
              (try simp only [hl7_3])
              (try simp only [hl7_3] at BK214)
              (try simp only [hl7_3] at BK215)
              (try simp only [hl7_3] at BK223)
              (try simp only [hl7_3] at HO_224000)
              (try simp only [hl7_3] at HO_224001)
              cases gk with
              | zero => exact absurd HA.out (by simp [impl_WithOpposites.l1])
              | succ k3 =>
               have H := HA.out
               clear HA
               simp only [impl_WithOpposites.l1] at H
               by_cases c39 : x37_3 < (t225.length : Int)
               · rw [if_pos c39] at H
                 have c39b0 : decide (x37_3 < (t225.length : Int)) = true := decide_eq_true c39
                 (try simp only [hl7_3] at c39b0)
                 clear c39
                 by_cases c40 : 0 ≤ x37_3
                 · rw [if_pos c40] at H
                   have c40b0 : decide (0 ≤ x37_3) = true := decide_eq_true c40
                   clear c40
                   by_cases c41 : x37_3 < (x7_3.length : Int)
                   · rw [if_pos c41] at H
                     have c41b0 : decide (x37_3 < (x7_3.length : Int)) = true := decide_eq_true c41
                     (try simp only [hl7_3] at c41b0)
                     clear c41
                     obtain ⟨y229, hy229⟩ : ∃ y_ : List Int, y_ = (x7_3.set (x37_3 : Int).toNat (wrap64 ((rd x7_3 x37_3) * (-1)))) := ⟨_, rfl⟩
                     replace H : (impl_WithOpposites.l1 k3 y229 l0_0 (l0_0.length : Int) x29_2 (t225.length : Int) (wrap64 (x37_3 + 1)) x224000_2 x224001_2) = some (r1, r2, r3) := by first | (rw [hy229]; with_reducible exact H) | (have H2_ := (Option.bind_some _ _).symm.trans H; rw [hy229]; with_reducible exact H2_) | (have H2_ := (Option.bind_some _ _).symm.trans H; with_reducible exact H2_) | with_reducible exact H | (rw [hy229]; exact H) | exact H
                     have Ny229 := Aside0.mk hy229
                     clear hy229
                     have H' := Aside0.mk H
                     clear H
                     have p228 : 0 ≤ (x37_3 : Int) := of_decide_eq_true aS
                     have q228 : x37_3 < (x7_3.length : Int) := of_decide_eq_true aS
                     obtain ⟨ad228, e228, hx228_0⟩ := Kd.at_int (Kd.R_reads' HO_7.out).2.2 x37_3 p228 q228
                     cases e228
                     replace p228 := eq_true p228
                     replace q228 := eq_true q228
                     have p42 : 0 ≤ (x37_3 : Int) := of_decide_eq_true aS
                     have q42 : (x37_3 : Int) < ((x7_3.length : Int) : Int) := of_decide_eq_true aS
                     obtain ⟨go42, co42, eo42, gb42, gl42, cl42, HG42⟩ := Kd.R_form HO_7.out (by omega)
                     (first | cases eo42 | (injection eo42 with ea_ en_ ec_; (first | subst ea_ | (injection ea_ with ea_; subst ea_)); subst ec_; clear en_))
                     have GB42 := Aside0.mk gb42
                     have GG42 := Aside0.mk HG42
                     clear gb42 gl42 HG42
                     (first | simp only [add_plain] at hx228_0 | skip)
                     obtain ⟨hx42_0, hf42_0⟩ := Kd.R_celln 0 HO_7.out (x37_3 : Int) p42 q42
                     replace p42 := eq_true p42
                     replace q42 := eq_true q42
                     have HP43 := Kd.R_putg HO_7.out (x37_3 : Int) (wrap64 ((rd x7_3 x37_3) * (-1)))
                     go_wp2_with (first | ((with_reducible refine gate_store (t := 3) (p := 45) rfl ?_); refine store_event (t := 3) (p := 45) (v := ?vo_w44) (w1 := (wr.setCell ⟨go42, (x37_3 : Int).toNat, none⟩ (.int .i64 (wrap64 ((rd x7_3 x37_3) * (-1)))))) ?hg ?ho ?hn ?hr ?_; (case ho => rfl); (case hg => rfl); (case hn => rfl); (case hr => first | (go_simp; done) | (go_simp; rfl)); intro w44 hw; have hg : wr.grownBy w44 (some go42) := (by rw [hw]; exact HP43.2); have hp_ : Kd.R (Kd.int .i64) 3 w44 w.heap.size (fun k_ => some k_ ≠ (u224001 : Value).ownBlock) (.slice (some ⟨go42, 0, none⟩) x7_3.length co38) y229 := (by rw [hw, Ny229.out]; exact HP43.1); clear HP43; have n0_ := Aside0.mk (hp_); have n1_ := Aside0.mk (Kd.S_after (v := (.slice (some ⟨go42, 0, none⟩) x7_3.length co38)) (v1 := (.slice (some ⟨go42, 0, none⟩) x7_3.length co38)) (ok := (fun k_ => some k_ ≠ (u224001 : Value).ownBlock)) (by (with_reducible repeat (first | apply Kd.S_alloc | apply Kd.S_drewN | apply Kd.S_drew)); exact Kd.S_mono HO_224000.out (fun _ hk => ⟨hk.2, hk.1⟩)) hg (.inl rfl)); have n2_ := Aside0.mk (Kd.R_after (v := (.slice (some ⟨go42, 0, none⟩) x7_3.length co38)) (v1 := (.slice (some ⟨go42, 0, none⟩) x7_3.length co38)) (ok := (fun _ => True)) (by (with_reducible repeat (first | apply Kd.R_alloc | apply Kd.R_drewN | apply Kd.R_drew)); exact Kd.R_mono HO_224001.out (fun _ hk => ⟨trivial, hk⟩)) hg (.inl rfl)); have n3_ := Aside0.mk (blk_grown (g := gb214) (o := .cells #[.slice (some ad224) l0_0.length c0_0, .slice A0_1 l0_1.length c0_1] 29 (0, 0)) (pB BK214) hg (Kd.R_ne HO_7.out BK214.out (by decide))); have n4_ := Aside0.mk (blk_grown (g := gb215) (o := .cells #[.slice none 0 0, .slice none 0 0] 29 (0, 0)) (pB BK215) hg (Kd.R_ne HO_7.out BK215.out (by decide))); have n5_ := Aside0.mk (blk_grown (g := gb223) (o := .cells #[u224000, u224001] 29 (0, 0)) (pB BK223) hg (Kd.R_ne HO_7.out BK223.out (by decide))); have n6_ := Aside0.mk ((by rw [hw]; exact below_set (HB.out) GB42.out : Below w.heap.size w w44)); clear HO_7; clear HO_224000; clear HO_224001; clear BK214; clear BK215; clear BK223; clear HB; have HO_7 := n0_; have HO_224000 := n1_; have HO_224001 := n2_; have BK214 := n3_; have BK215 := n4_; have BK223 := n5_; have HB := n6_; clear n0_ n1_ n2_ n3_ n4_ n5_ n6_; clear hg hw hp_))
                     (try simp only [← hl7_3])
                     go_roundg k3
                     case measure => have := HJ1.out; have := HK2.out; have := HK3.out; omega
                     case rel => exact ⟨(y229), (wrap64 (x37_3 + 1)), rD, H', ⟨by have := HJ1.out; have := HK2.out; have := HK3.out; omega⟩, ⟨by (try simp only [hl7_3]); (with_reducible repeat (first | apply Kd.R_alloc | apply Kd.R_drewN | apply Kd.R_drew)); exact HO_7.out⟩, ⟨by (try simp only [hl7_3]); (with_reducible repeat (first | apply Kd.S_alloc | apply Kd.S_drewN | apply Kd.S_drew)); exact Kd.S_mono HO_224000.out (fun _ hk => ⟨hk.2, hk.1⟩)⟩, ⟨by (try simp only [hl7_3]); (with_reducible repeat (first | apply Kd.R_alloc | apply Kd.R_drewN | apply Kd.R_drew)); exact Kd.R_mono HO_224001.out (fun _ hk => hk.2)⟩, ⟨by (try simp only [hl7_3]); (with_reducible repeat (first | refine blk_drewN ?_ _ | refine blk_drew ?_ | refine blk_alloc ?_ _)); exact BK214.out⟩, ⟨by (try simp only [hl7_3]); (with_reducible repeat (first | refine blk_drewN ?_ _ | refine blk_drew ?_ | refine blk_alloc ?_ _)); exact BK215.out⟩, ⟨by (try simp only [hl7_3]); (with_reducible repeat (first | refine blk_drewN ?_ _ | refine blk_drew ?_ | refine blk_alloc ?_ _)); exact BK223.out⟩, ⟨bE HB GE214 GE215 GE223⟩⟩
                   · rw [if_neg c41] at H
                     exact absurd H (by simp)
                 · rw [if_neg c40] at H
                   exact absurd H (by simp)
               · rw [if_neg c39] at H
                 have c39b0 : decide (x37_3 < (t225.length : Int)) = false := decide_eq_false c39
                 (try simp only [hl7_3] at c39b0)
                 clear c39
                 by_cases c45 : x224000_2.length < 5864062014805
                 · rw [if_pos c45] at H
                   have LMc45 := Aside0.mk c45
                   clear c45
                   obtain ⟨y230, hy230⟩ : ∃ y_ : List (List Int), y_ = (x224000_2 ++ [x7_3]) := ⟨_, rfl⟩
                   replace H : (impl_WithOpposites.l0 k3 l0_0 (l0_0.length : Int) (wrap64 (x29_2 + 1)) y230 x224001_2) = some (r1, r2, r3) := by first | (rw [hy230]; with_reducible exact H) | (have H2_ := (Option.bind_some _ _).symm.trans H; rw [hy230]; with_reducible exact H2_) | (have H2_ := (Option.bind_some _ _).symm.trans H; with_reducible exact H2_) | with_reducible exact H | (rw [hy230]; exact H) | exact H
                   have Ny230 := Aside0.mk hy230
                   clear hy230
                   have H' := Aside0.mk H
                   clear H
                   have hnb46 := NB223_214.out
                   have hnc46 := NB214_223.out
                   have hnb47 := NB223_215.out
                   have hnc47 := NB215_223.out
                   have hcz48_0 : wr.cell? ⟨gb223, 0, none⟩ = some (u224000) := (blk_cell BK223.out 0).trans rfl
                   have hcz48_1 : wr.cell? ⟨gb223, 1, none⟩ = some (u224001) := (blk_cell BK223.out 1).trans rfl
                   have hfz48_0 := blk_frozen BK223.out 0
                   have hfz48_1 := blk_frozen BK223.out 1
                   go_wp2_with (first | ((with_reducible refine gate_builtin (b := .append) (xs := #[.tmp 48, .tmp 50]) rfl ?_); at_builtin; refine Kd.S_append (Kd.slice 3 (Kd.int .i64)) (w0 := w) w.heap.size rfl (.tmp 48) (.tmp 50) 22 23 (.slice none 0 0) 24 rfl Try.underlying22 info23 rfl (by decide) (by omega) u224000 x224000_2 x7_3 [.slice Ao38 x7_3.length co38] (fun k_ => some k_ ≠ (u224001 : Value).ownBlock) (fun k_ => some k_ = (.slice Ao38 x7_3.length co38 : Value).ownBlock) rfl rfl ?aP (fun k_ hk_ => ((Kd.R_mono (ok' := fun k_ => ((fun k_ => some k_ ≠ (u224001 : Value).ownBlock)) k_ ∧ some k_ ≠ (u224000 : Value).ownBlock) (Kd.R_apart' (HO_7.out) (Kd.S_typed HO_224000.out) (by decide)) (fun k_ hk => ⟨hk.1, hk.2⟩))).1 k_ hk_.symm) ?aF ?aO ?aB ?aS ?aL ?_; (case aP => exact Kd.M_row (Kd.R_mono (Kd.R_tight rfl (Kd.R_mono (ok' := fun k_ => ((fun k_ => some k_ ≠ (u224001 : Value).ownBlock)) k_ ∧ some k_ ≠ (u224000 : Value).ownBlock) (Kd.R_apart' (HO_7.out) (Kd.S_typed HO_224000.out) (by decide)) (fun k_ hk => ⟨hk.1, hk.2⟩))) (fun _ h_ => h_))); (case aB => exact (bE HB GE214 GE215 GE223)); (case aF => exact (fun k_ hk => Kd.fresh' (Kd.R_lt (pR HO_224001)) k_ hk)); (case aO => exact (by (with_reducible repeat (first | apply Kd.S_alloc | apply Kd.S_drewN | apply Kd.S_drew)); exact Kd.S_mono HO_224000.out (fun k_ hk => ⟨hk.2, fun e_ => hk.1 e_⟩))); (case aS => exact (below_size (bE HB GE214 GE215 GE223))); (case aL => have := LMc45.out; omega); intro v231 w49 ho hb hg hat; rw [← Ny230.out] at ho; have n0_ := Aside0.mk (Kd.R_over' (pR HO_224001) (Kd.S_typed (pS HO_224000)) (by decide) hg); have n1_ := Aside0.mk (blk_grown (g := gb214) (o := .cells #[.slice (some ad224) l0_0.length c0_0, .slice A0_1 l0_1.length c0_1] 29 (0, 0)) (pB BK214) hg (Kd.S_ne HO_224000.out BK214.out (by decide))); have n2_ := Aside0.mk (blk_grown (g := gb215) (o := .cells #[.slice none 0 0, .slice none 0 0] 29 (0, 0)) (pB BK215) hg (Kd.S_ne HO_224000.out BK215.out (by decide))); have n3_ := Aside0.mk (blk_grown (g := gb223) (o := .cells #[u224000, u224001] 29 (0, 0)) (pB BK223) hg (Kd.S_ne HO_224000.out BK223.out (by decide))); have n4_ := Aside0.mk (hb); have n5_ := Aside0.mk (ho); clear HO_224001; clear BK214; clear BK215; clear BK223; clear HB; clear HO_224000; clear HO_7; have HO_224001 := n0_; have BK214 := n1_; have BK215 := n2_; have BK223 := n3_; have HB := n4_; have HO232 := n5_; clear n0_ n1_ n2_ n3_ n4_ n5_; clear ho hb hg hat; obtain ⟨Ao50, co50, eo50⟩ := Kd.S_slice HO232.out; subst eo50; have hcz51_0 : w49.cell? ⟨gb223, 0, none⟩ = some (u224000) := (blk_cell BK223.out 0).trans rfl; have hcz51_1 : w49.cell? ⟨gb223, 1, none⟩ = some (u224001) := (blk_cell BK223.out 1).trans rfl; have hfz51_0 := blk_frozen BK223.out 0; have hfz51_1 := blk_frozen BK223.out 1))
                   (try simp only [← hl7_3])
                   go_roundg k3
                   case measure => have := HJ1.out; have := HK2.out; have := HK3.out; omega
                   case rel => exact ⟨(wrap64 (x29_2 + 1)), (y230), (x224001_2), (.slice Ao50 y230.length co50), (u224001), rD, H', ⟨by have := HJ1.out; have := HK2.out; have := HK3.out; omega⟩, ⟨by (try simp only [hl7_3]); (with_reducible repeat (first | apply Kd.S_alloc | apply Kd.S_drewN | apply Kd.S_drew)); exact Kd.S_mono (Kd.S_far (p := ⟨gb223, 0, none⟩) (Kd.S_types HO232.out BK223.out (by decide)) (fun _ hk => hk.2) (.slice Ao50 y230.length co50)) (fun _ hk => hk.1)⟩, ⟨by (try simp only [hl7_3]); (with_reducible repeat (first | apply Kd.R_alloc | apply Kd.R_drewN | apply Kd.R_drew)); exact Kd.R_mono (Kd.R_far (p := ⟨gb223, 0, none⟩) (Kd.R_types HO_224001.out BK223.out (by decide)) (fun _ hk => hk.2) (.slice Ao50 y230.length co50)) (fun _ hk => trivial)⟩, ⟨by (try simp only [hl7_3]); (with_reducible repeat (first | refine blk_drewN ?_ _ | refine blk_drew ?_ | refine blk_alloc ?_ _)); refine blk_far ?_ NB214_223.out _; (with_reducible repeat (first | refine blk_drewN ?_ _ | refine blk_drew ?_ | refine blk_alloc ?_ _)); exact BK214.out⟩, ⟨by (try simp only [hl7_3]); (with_reducible repeat (first | refine blk_drewN ?_ _ | refine blk_drew ?_ | refine blk_alloc ?_ _)); refine blk_far ?_ NB215_223.out _; (with_reducible repeat (first | refine blk_drewN ?_ _ | refine blk_drew ?_ | refine blk_alloc ?_ _)); exact BK215.out⟩, ⟨by (try simp only [hl7_3]); (with_reducible repeat (first | refine blk_drewN ?_ _ | refine blk_drew ?_ | refine blk_alloc ?_ _)); refine blk_put (cs := #[u224000, u224001]) ?_ 0 _ rfl; (with_reducible repeat (first | refine blk_drewN ?_ _ | refine blk_drew ?_ | refine blk_alloc ?_ _)); exact BK223.out⟩, ⟨bE HB GE214 GE215 GE223⟩⟩
                 · rw [if_neg c45] at H
                   exact absurd H (by simp)
           · rw [if_neg c35] at H
             exact absurd H (by simp)
         · rw [if_neg c34] at H
           exact absurd H (by simp)
       · rw [if_neg c33] at H
         have c33b0 : decide (x29_2 < (l0_0.length : Int)) = false := decide_eq_false c33
         clear c33
         simp only [Option.some.injEq, Prod.mk.injEq] at H
         obtain ⟨rfl, rfl, rfl⟩ := H
         have hnb52 := NB223_214.out
         have hnc52 := NB214_223.out
         have hnb53 := NB223_215.out
         have hnc53 := NB215_223.out
         have hcz54_0 : wr.cell? ⟨gb223, 0, none⟩ = some (u224000) := (blk_cell BK223.out 0).trans rfl
         have hcz54_1 : wr.cell? ⟨gb223, 1, none⟩ = some (u224001) := (blk_cell BK223.out 1).trans rfl
         have hfz54_0 := blk_frozen BK223.out 0
         have hfz54_1 := blk_frozen BK223.out 1
         obtain ⟨Ao55, co55, eo55⟩ := Kd.S_slice HO_224000.out
         subst eo55
         have hnb56 := NB215_214.out
         have hnc56 := NB214_215.out
         have hcz57_0 : wr.cell? ⟨gb215, 0, none⟩ = some (.slice none 0 0) := (blk_cell BK215.out 0).trans rfl
         have hcz57_1 : wr.cell? ⟨gb215, 1, none⟩ = some (.slice none 0 0) := (blk_cell BK215.out 1).trans rfl
         have hfz57_0 := blk_frozen BK215.out 0
         have hfz57_1 := blk_frozen BK215.out 1
         obtain ⟨Ao58, co58, eo58⟩ := Kd.R_slice HO_224001.out
         subst eo58
         go_wp2
         refine bodyPost_ret (results_ct rfl _ _ gb215 29 #[.slice Ao55 x224000_2.length co55, .slice Ao58 x224001_2.length co58] (0, 0) _ rfl (by (with_reducible repeat (first | refine blk_drewN ?_ _ | refine blk_drew ?_ | refine blk_alloc ?_ _)); refine blk_put (cs := #[.slice Ao55 x224000_2.length co55, .slice none 0 0]) ?_ 1 _ rfl; (with_reducible repeat (first | refine blk_drewN ?_ _ | refine blk_drew ?_ | refine blk_alloc ?_ _)); refine blk_put (cs := #[.slice none 0 0, .slice none 0 0]) ?_ 0 _ rfl; (with_reducible repeat (first | refine blk_drewN ?_ _ | refine blk_drew ?_ | refine blk_alloc ?_ _)); exact BK215.out) Try.underlying29 rfl (by kernel_rfl)) rfl ?_
         exact ⟨_, _, eW, by (with_reducible repeat (first | apply Kd.S_alloc | apply Kd.S_drewN | apply Kd.S_drew)); exact Kd.S_mono (Kd.S_far (p := ⟨gb215, 1, none⟩) (Kd.S_far (p := ⟨gb215, 0, none⟩) (Kd.S_types HO_224000.out BK215.out (by decide)) (fun _ hk => hk.2) (.slice Ao55 x224000_2.length co55)) (fun _ hk => hk.2) (.slice Ao58 x224001_2.length co58)) (fun _ hk => hk.1), by (with_reducible repeat (first | apply Kd.R_alloc | apply Kd.R_drewN | apply Kd.R_drew)); exact Kd.R_mono (Kd.R_far (p := ⟨gb215, 1, none⟩) (Kd.R_far (p := ⟨gb215, 0, none⟩) (Kd.R_types HO_224001.out BK215.out (by decide)) (fun _ hk => hk.2) (.slice Ao55 x224000_2.length co55)) (fun _ hk => hk.2) (.slice Ao58 x224001_2.length co58)) (fun _ hk => trivial), bE HB GE214 GE215 GE223⟩

end Go.Proofs.Ytpboffjnnnmicaa.PFnExactWithOpposites
