-- Printed by wip/tools/myprint.py (the printer of the kit, patched by that program; roots chosen by it)
import Derived.Test.YtniebbjbihenfaaPFnExactSidesSamplex0
import Derived.Test.YtniebbjbihenfaaPFnExactSidesSamplex2
import Derived.Test.YtniebbjbihenfaaSh
namespace Go.Proofs.Ytniebbjbihenfaa.PFnExactSidesSample
open Go.RowKit Go.Proofs.Ytniebbjbihenfaa.Sh Go.Proofs.YtniebbjbihenfaaW.PrintWords Go.Proofs.YtniebbjbihenfaaW.PrintLast Go.Proofs.YtniebbjbihenfaaW.PrintMore
attribute [local go_sem] max2_int min2_int max_two min_two max_three min_three max_four min_four   -- for this text's walks alone
set_option linter.unusedVariables false
set_option linter.unusedSimpArgs false

/-! ### spec_l2Sample: function 64 -/
mutual
def spec_l2Sample.j0 : Nat → Bool → List (List Int) → List Int → Option (Bool)
 | 0, _, _, _ => none
 | k + 1, x22, x151000, x151001 => if x22 = true then (some false) else (spec_l2Sample.l0 k 0 x151000 x151001)
def spec_l2Sample.l0 : Nat → Int → List (List Int) → List Int → Option (Bool)
 | 0, _, _, _ => none
 | k + 1, x3, x151000, x151001 => if x3 < (x151000.length : Int) then (if 0 ≤ x3 then ((spec_l2Point.f k (rd_L1 x151000 x3)).bind fun t153 => (if t153 = true then (if 0 < (x151000.length : Int) then (if ((rd_L1 x151000 x3).length : Int) = ((rd_L1 x151000 0).length : Int) then (spec_l2Sample.l0 k (wrap64 (x3 + 1)) x151000 x151001) else (some false)) else (none)) else (some false))) else (none)) else (some true)
end
def spec_l2Sample.f (k : Nat) (l0_0 : List (List Int)) (l0_1 : List Int) : Option (Bool) := if (l0_0.length : Int) > 16 then (spec_l2Sample.j0 k true l0_0 l0_1) else (if (l0_1.length : Int) = (l0_0.length : Int) then ((spec_l2Labels.f k l0_1).bind fun t151 => (spec_l2Sample.j0 k (!t151) l0_0 l0_1)) else (spec_l2Sample.j0 k true l0_0 l0_1))
set_option maxHeartbeats 8000000 in
set_option maxRecDepth 100000 in
theorem spec_l2Sample.calls (k : Nat) (A0_0 : Option Addr) (c0_0 : Nat) (l0_0 : List (List Int)) (A0_1 : Option Addr) (c0_1 : Nat) (l0_1 : List Int) (r : Bool) (w : World) (hr0_0 : Kd.C (Kd.slice 3 (Kd.int .i64)) w A0_0 l0_0.length l0_0) (hc0_0 : l0_0.length ≤ c0_0) (hr0_1 : Kd.C (Kd.int .i64) w A0_1 l0_1.length l0_1) (hc0_1 : l0_1.length ≤ c0_1) (h : spec_l2Sample.f k l0_0 l0_1 = some r) :
 Calls Try.prog 64 #[.agg #[.slice A0_0 l0_0.length c0_0, .slice A0_1 l0_1.length c0_1]] w fun e w' => e = .returned (.bool r) ∧ Below w.heap.size w w' := by
 have hu29 := Try.underlying29
 have HR0_0 := Aside0.mk hr0_0
 have HC0_0 := Aside0.mk hc0_0
 clear hr0_0 hc0_0
 have HR0_1 := Aside0.mk hr0_1
 have HC0_1 := Aside0.mk hc0_1
 clear hr0_1 hc0_1
 have HB := Aside0.mk (Below.refl w.heap.size w)
 have H : (if (l0_0.length : Int) > 16 then (spec_l2Sample.j0 k true l0_0 l0_1) else (if (l0_1.length : Int) = (l0_0.length : Int) then ((spec_l2Labels.f k l0_1).bind fun t151 => (spec_l2Sample.j0 k (!t151) l0_0 l0_1)) else (spec_l2Sample.j0 k true l0_0 l0_1))) = some r := h
 clear h
 have HC2 := Aside0.mk H
 clear H
 go_enter Try.func64, Try.ntmps64
 go_upto_region 1 with (first | ((with_reducible refine gate_dst (N := 1) rfl ?_); refine box_event ?hg (N := 1) ?hd (cs := #[.slice A0_0 l0_0.length c0_0, .slice A0_1 l0_1.length c0_1]) (t := 29) ?hr ?_; (case hd => rfl); (case hg => rfl); (case hr => first | (go_simp; done) | (go_simp; rfl)); intro gb150 hg w3 hbox hb; have n0_ := Aside0.mk (below_step (bB HB) hb); have n1_ := Aside0.mk (hbox); have n2_ := Aside0.mk ((by rw [hg]; exact (below_size (bB HB)) : w.heap.size ≤ gb150)); have n3_ := Aside0.mk ((by rw [hg]; exact (below_size (bB HB)) : w.heap.size ≤ gb150)); clear HB; have HB := n0_; have BK150 := n1_; have GW150 := n2_; have GE150 := n3_; clear n0_ n1_ n2_ n3_; clear hb hbox hg))
 repeat (go_quiet (first | ((with_reducible refine gate_dst (N := 1) rfl ?_); refine box_event ?hg (N := 1) ?hd (cs := #[.slice A0_0 l0_0.length c0_0, .slice A0_1 l0_1.length c0_1]) (t := 29) ?hr ?_; (case hd => rfl); (case hg => rfl); (case hr => first | (go_simp; done) | (go_simp; rfl)); intro gb150 hg w3 hbox hb; have n0_ := Aside0.mk (below_step (bB HB) hb); have n1_ := Aside0.mk (hbox); have n2_ := Aside0.mk ((by rw [hg]; exact (below_size (bB HB)) : w.heap.size ≤ gb150)); have n3_ := Aside0.mk ((by rw [hg]; exact (below_size (bB HB)) : w.heap.size ≤ gb150)); clear HB; have HB := n0_; have BK150 := n1_; have GW150 := n2_; have GE150 := n3_; clear n0_ n1_ n2_ n3_; clear hb hbox hg)); go_upto_region 1 with (first | ((with_reducible refine gate_dst (N := 1) rfl ?_); refine box_event ?hg (N := 1) ?hd (cs := #[.slice A0_0 l0_0.length c0_0, .slice A0_1 l0_1.length c0_1]) (t := 29) ?hr ?_; (case hd => rfl); (case hg => rfl); (case hr => first | (go_simp; done) | (go_simp; rfl)); intro gb150 hg w3 hbox hb; have n0_ := Aside0.mk (below_step (bB HB) hb); have n1_ := Aside0.mk (hbox); have n2_ := Aside0.mk ((by rw [hg]; exact (below_size (bB HB)) : w.heap.size ≤ gb150)); have n3_ := Aside0.mk ((by rw [hg]; exact (below_size (bB HB)) : w.heap.size ≤ gb150)); clear HB; have HB := n0_; have BK150 := n1_; have GW150 := n2_; have GE150 := n3_; clear n0_ n1_ n2_ n3_; clear hb hbox hg)))
 (try simp only [Act.put, List.setIfInBounds_toArray, List.set_cons_zero, List.set_cons_succ])
 go_cut [22] (fun v22 wc => ∃ (kq : Nat) (x22_1 : Bool), v22 = .bool x22_1 ∧ Aside0 (spec_l2Sample.j0 kq x22_1 l0_0 l0_1 = some r) ∧ Aside0 (kq ≤ k) ∧ Aside0 (wc.heap[gb150]? = some (.cells #[(.slice A0_0 l0_0.length c0_0), (.slice A0_1 l0_1.length c0_1)] 29 (0, 0))) ∧ Aside0 (Below w.heap.size w wc))
 case first =>
  have H := HC2.out
  clear HC2
  by_cases c4 : (l0_0.length : Int) > 16
  · rw [if_pos c4] at H
    have c4b0 : decide (16 < (l0_0.length : Int)) = true := decide_eq_true c4
    have c4b1 : decide (16 < l0_0.length) = true := decide_eq_true (by omega)
    clear c4
    (first | rw [c4b0] | (simp only [i64_w, i32_w]; rw [c4b0]) | skip)
    have H' := Aside0.mk H
    clear H
    have hcz5_0 : w3.cell? ⟨gb150, 0, none⟩ = some (.slice A0_0 l0_0.length c0_0) := (blk_cell BK150.out 0).trans rfl
    have hcz5_1 : w3.cell? ⟨gb150, 1, none⟩ = some (.slice A0_1 l0_1.length c0_1) := (blk_cell BK150.out 1).trans rfl
    have hfz5_0 := blk_frozen BK150.out 0
    have hfz5_1 := blk_frozen BK150.out 1
    go_wp2
    repeat (go_quiet (fail); try go_wp2)
    go_meet
    case rel => exact ⟨_, (true), rD, H', ⟨by first | omega | exact Nat.le_refl _⟩, ⟨pB BK150⟩, ⟨bC HB GE150⟩⟩
  · rw [if_neg c4] at H
    have c4b0 : decide (16 < (l0_0.length : Int)) = false := decide_eq_false c4
    have c4b1 : decide (16 < l0_0.length) = false := decide_eq_false (by omega)
    clear c4
    (first | rw [c4b0] | (simp only [i64_w, i32_w]; rw [c4b0]) | skip)
    by_cases c6 : (l0_1.length : Int) = (l0_0.length : Int)
    · rw [if_pos c6] at H
      have c6b0 : ((l0_1.length : Int) == (l0_0.length : Int)) = true := beq_iff_eq.mpr c6
      have c6b1 : ((l0_1.length : Int) != (l0_0.length : Int)) = false := bne_eq_false_iff_eq.mpr c6
      have c6b2 : (l0_1.length == l0_0.length) = true := by first | simpa using c6 | (simp at c6 ⊢; omega)
      clear c6
      replace H := Option.bind_eq_some_iff.mp H
      obtain ⟨t151, A70, H⟩ := H
      replace H : (spec_l2Sample.j0 k (!t151) l0_0 l0_1) = some r := H
      have A7 := Aside0.mk A70
      clear A70
      have H' := Aside0.mk H
      clear H
      have hcz8_0 : w3.cell? ⟨gb150, 0, none⟩ = some (.slice A0_0 l0_0.length c0_0) := (blk_cell BK150.out 0).trans rfl
      have hcz8_1 : w3.cell? ⟨gb150, 1, none⟩ = some (.slice A0_1 l0_1.length c0_1) := (blk_cell BK150.out 1).trans rfl
      have hfz8_0 := blk_frozen BK150.out 0
      have hfz8_1 := blk_frozen BK150.out 1
      go_wp2_with (first | (go_at_call 125; (with_reducible refine (spec_l2Labels.calls k _ _ l0_1 t151 _ ?side1 ?side2 A7.out).mono ?_); (case side1 => exact cB HR0_1 HB); (case side2 => exact HC0_1.out); rintro e w' ⟨rfl, ⟨nd, rfl⟩⟩; (try first | exact ⟨rfl, _, World.drewN_drewN _ _ _⟩ | exact ⟨rfl, _, Eq.trans (World.drewN_drewN _ _ _) (congrArg (World.drewN _) (Nat.add_assoc _ _ _))⟩)))
      repeat (go_quiet (first | (go_at_call 125; (with_reducible refine (spec_l2Labels.calls k _ _ l0_1 t151 _ ?side1 ?side2 A7.out).mono ?_); (case side1 => exact cB HR0_1 HB); (case side2 => exact HC0_1.out); rintro e w' ⟨rfl, ⟨nd, rfl⟩⟩; (try first | exact ⟨rfl, _, World.drewN_drewN _ _ _⟩ | exact ⟨rfl, _, Eq.trans (World.drewN_drewN _ _ _) (congrArg (World.drewN _) (Nat.add_assoc _ _ _))⟩))); try go_wp2_with (first | (go_at_call 125; (with_reducible refine (spec_l2Labels.calls k _ _ l0_1 t151 _ ?side1 ?side2 A7.out).mono ?_); (case side1 => exact cB HR0_1 HB); (case side2 => exact HC0_1.out); rintro e w' ⟨rfl, ⟨nd, rfl⟩⟩; (try first | exact ⟨rfl, _, World.drewN_drewN _ _ _⟩ | exact ⟨rfl, _, Eq.trans (World.drewN_drewN _ _ _) (congrArg (World.drewN _) (Nat.add_assoc _ _ _))⟩))))
      go_meet
      case rel => exact ⟨_, (!t151), rD, H', ⟨by first | omega | exact Nat.le_refl _⟩, ⟨pB BK150⟩, ⟨bC HB GE150⟩⟩
    · rw [if_neg c6] at H
      have c6b0 : ((l0_1.length : Int) == (l0_0.length : Int)) = false := beq_eq_false_iff_ne.mpr c6
      have c6b1 : ((l0_1.length : Int) != (l0_0.length : Int)) = true := bne_iff_ne.mpr c6
      have c6b2 : (l0_1.length == l0_0.length) = false := by first | simpa using c6 | (simp at c6 ⊢; omega)
      have H' := Aside0.mk H
      clear H
      have hcz9_0 : w3.cell? ⟨gb150, 0, none⟩ = some (.slice A0_0 l0_0.length c0_0) := (blk_cell BK150.out 0).trans rfl
      have hcz9_1 : w3.cell? ⟨gb150, 1, none⟩ = some (.slice A0_1 l0_1.length c0_1) := (blk_cell BK150.out 1).trans rfl
      have hfz9_0 := blk_frozen BK150.out 0
      have hfz9_1 := blk_frozen BK150.out 1
      go_wp2
      repeat (go_quiet (fail); try go_wp2)
      go_meet
      case rel => exact ⟨_, (true), rD, H', ⟨by first | omega | exact Nat.le_refl _⟩, ⟨pB BK150⟩, ⟨bC HB GE150⟩⟩
 case rest =>
  clear HC2
  try clear p2
  try clear c4
  try clear c4b0
  try clear c4b1
  try clear c6
  try clear c6b0
  try clear c6b1
  try clear c6b2
  try clear hcz5_0
  try clear hcz5_1
  try clear hcz8_0
  try clear hcz8_1
  try clear hcz9_0
  try clear hcz9_1
  try clear hfz5_0
  try clear hfz5_1
  try clear hfz8_0
  try clear hfz8_1
  try clear hfz9_0
  try clear hfz9_1
  obtain ⟨kq, x22_1, rfl, HA, HJ1, BK150, HB⟩ := hcut
  cases kq with
  | zero => exact absurd HA.out (by simp [spec_l2Sample.j0])
  | succ kj1 =>
   have H := HA.out
   clear HA
   simp only [spec_l2Sample.j0] at H
   by_cases c10 : x22_1 = true
   · subst c10
     have H1 : (some false) = some r := by rw [if_pos rfl] at H; exact H
     clear H
     have H := H1
     clear H1
     obtain rfl := Option.some.inj H
     go_wp2
     repeat (go_quiet (fail); try go_wp2)
     go_ret
     exact ⟨eW, bC HB GE150⟩
   · replace c10 := Bool.eq_false_iff.mpr c10
     subst c10
     have H1 : (spec_l2Sample.l0 kj1 0 l0_0 l0_1) = some r := by rw [if_neg (show ¬ (false = true) by decide)] at H; exact H
     clear H
     have H := H1
     clear H1
     have H' := Aside0.mk H
     clear H
     go_wp2
     repeat (go_quiet (fail); try go_wp2)
     go_loopg [3] kj1 (fun kq v3 w' => ∃ (x3_2 : Int), v3 = .int .i64 x3_2 ∧ Aside0 (spec_l2Sample.l0 kq x3_2 l0_0 l0_1 = some r) ∧ Aside0 (kq ≤ kj1) ∧ Aside0 (w'.heap[gb150]? = some (.cells #[(.slice A0_0 l0_0.length c0_0), (.slice A0_1 l0_1.length c0_1)] 29 (0, 0))) ∧ Aside0 (Below w.heap.size w w'))
     case atStart => exact ⟨(0), rD, H', ⟨Nat.le_refl _⟩, ⟨pB BK150⟩, ⟨bC HB GE150⟩⟩
     case round =>
      clear H'
      try clear c1
      try clear p2
      try clear c4
      try clear c4b0
      try clear c4b1
      try clear c6
      try clear c6b0
      try clear c6b1
      try clear c6b2
      try clear c10
      try clear hcz5_0
      try clear hcz5_1
      try clear hcz8_0
      try clear hcz8_1
      try clear hcz9_0
      try clear hcz9_1
      try clear hfz5_0
      try clear hfz5_1
      try clear hfz8_0
      try clear hfz8_1
      try clear hfz9_0
      try clear hfz9_1
      try clear p2
      obtain ⟨x3_2, rfl, HA, HK2, BK150, HB⟩ := hrel
      cases gk with
      | zero => exact absurd HA.out (by simp [spec_l2Sample.l0])
      | succ k2 =>
       have H := HA.out
       clear HA
       simp only [spec_l2Sample.l0] at H
       by_cases c11 : x3_2 < (l0_0.length : Int)
       · rw [if_pos c11] at H
         have c11b0 : decide (x3_2 < (l0_0.length : Int)) = true := decide_eq_true c11
         clear c11
         by_cases c12 : 0 ≤ x3_2
         · rw [if_pos c12] at H
           have c12b0 : decide (0 ≤ x3_2) = true := decide_eq_true c12
           clear c12
           replace H := Option.bind_eq_some_iff.mp H
           obtain ⟨t153, A130, H⟩ := H
           replace H : (if t153 = true then (if 0 < (l0_0.length : Int) then (if ((rd_L1 l0_0 x3_2).length : Int) = ((rd_L1 l0_0 0).length : Int) then (spec_l2Sample.l0 k2 (wrap64 (x3_2 + 1)) l0_0 l0_1) else (some false)) else (none)) else (some false)) = some r := H
           have A13 := Aside0.mk A130
           clear A130
           by_cases c14 : t153 = true
           · subst c14
             have H1 : (if 0 < (l0_0.length : Int) then (if ((rd_L1 l0_0 x3_2).length : Int) = ((rd_L1 l0_0 0).length : Int) then (spec_l2Sample.l0 k2 (wrap64 (x3_2 + 1)) l0_0 l0_1) else (some false)) else (none)) = some r := by rw [if_pos rfl] at H; exact H
             clear H
             have H := H1
             clear H1
             by_cases c15 : 0 < (l0_0.length : Int)
             · rw [if_pos c15] at H
               have c15b0 : decide (0 < (l0_0.length : Int)) = true := decide_eq_true c15
               have c15b1 : decide (0 < l0_0.length) = true := decide_eq_true (by omega)
               clear c15
               by_cases c16 : ((rd_L1 l0_0 x3_2).length : Int) = ((rd_L1 l0_0 0).length : Int)
               · rw [if_pos c16] at H
                 have c16b0 : (((rd_L1 l0_0 x3_2).length : Int) == ((rd_L1 l0_0 0).length : Int)) = true := beq_iff_eq.mpr c16
                 have c16b1 : (((rd_L1 l0_0 x3_2).length : Int) != ((rd_L1 l0_0 0).length : Int)) = false := bne_eq_false_iff_eq.mpr c16
                 have c16b2 : ((rd_L1 l0_0 x3_2).length == (rd_L1 l0_0 0).length) = true := by first | simpa using c16 | (simp at c16 ⊢; omega)
                 clear c16
                 have H' := Aside0.mk H
                 clear H
                 have hcz17_0 : wr.cell? ⟨gb150, 0, none⟩ = some (.slice A0_0 l0_0.length c0_0) := (blk_cell BK150.out 0).trans rfl
                 have hcz17_1 : wr.cell? ⟨gb150, 1, none⟩ = some (.slice A0_1 l0_1.length c0_1) := (blk_cell BK150.out 1).trans rfl
                 have hfz17_0 := blk_frozen BK150.out 0
                 have hfz17_1 := blk_frozen BK150.out 1
                 have p152 : 0 ≤ (x3_2 : Int) := of_decide_eq_true aS
                 have q152 : x3_2 < (l0_0.length : Int) := of_decide_eq_true aS
                 obtain ⟨ad152, A152_0, c152_0, e152, hx152_0, hl152_0, hi152_0⟩ := at_L1 HR0_0.out x3_2 p152 q152
                 cases e152
                 replace hx152_0 := (HB.out.cell (World.block_lt_of_cell? w _ hx152_0)).trans hx152_0
                 have HR152_0 := Aside0.mk hi152_0
                 have HC152_0 := Aside0.mk hl152_0
                 clear hi152_0 hl152_0
                 replace p152 := eq_true p152
                 replace q152 := eq_true q152
                 go_wp2_with (first | (go_at_call 126; (with_reducible refine (spec_l2Point.calls k2 _ _ (rd_L1 l0_0 x3_2) true _ ?side1 ?side2 A13.out).mono ?_); (case side1 => exact cB HR152_0 HB); (case side2 => exact HC152_0.out); rintro e w' ⟨rfl, ⟨nd, rfl⟩⟩; (try first | exact ⟨rfl, _, World.drewN_drewN _ _ _⟩ | exact ⟨rfl, _, Eq.trans (World.drewN_drewN _ _ _) (congrArg (World.drewN _) (Nat.add_assoc _ _ _))⟩); have p154 : 0 ≤ (x3_2 : Int) := of_decide_eq_true aS; have q154 : x3_2 < (l0_0.length : Int) := of_decide_eq_true aS; obtain ⟨ad154, A154_0, c154_0, e154, hx154_0, hl154_0, hi154_0⟩ := at_L1 HR0_0.out x3_2 p154 q154; obtain rfl : ad152 = ad154 := (by injection e154); replace hx154_0 := (HB.out.cell (World.block_lt_of_cell? w _ hx154_0)).trans hx154_0; have HR154_0 := Aside0.mk hi154_0; have HC154_0 := Aside0.mk hl154_0; clear hi154_0 hl154_0; replace p154 := eq_true p154; replace q154 := eq_true q154; have ea_ := Option.some.inj (hx152_0.symm.trans hx154_0); injection ea_ with ea_ en_ ec_; subst ea_; subst ec_; clear en_; have p155 : 0 ≤ (0 : Int) := (by omega); have q155 : 0 < (l0_0.length : Int) := of_decide_eq_true aS; obtain ⟨ad155, A155_0, c155_0, e155, hx155_0, hl155_0, hi155_0⟩ := at_L1 HR0_0.out 0 p155 q155; obtain rfl : ad152 = ad155 := (by injection e155); have qi155 : (0 < l0_0.length) = True := eq_true (by omega); (try rw [show ((0 : Int)).toNat = 0 from rfl] at hx155_0); (try rw [Addr.add_zero'] at hx155_0); replace hx155_0 := (HB.out.cell (World.block_lt_of_cell? w _ hx155_0)).trans hx155_0; have HR155_0 := Aside0.mk hi155_0; have HC155_0 := Aside0.mk hl155_0; clear hi155_0 hl155_0; replace p155 := eq_true p155; replace q155 := eq_true q155))
                 repeat (go_quiet (first | (go_at_call 126; (with_reducible refine (spec_l2Point.calls k2 _ _ (rd_L1 l0_0 x3_2) true _ ?side1 ?side2 A13.out).mono ?_); (case side1 => exact cB HR152_0 HB); (case side2 => exact HC152_0.out); rintro e w' ⟨rfl, ⟨nd, rfl⟩⟩; (try first | exact ⟨rfl, _, World.drewN_drewN _ _ _⟩ | exact ⟨rfl, _, Eq.trans (World.drewN_drewN _ _ _) (congrArg (World.drewN _) (Nat.add_assoc _ _ _))⟩); have p154 : 0 ≤ (x3_2 : Int) := of_decide_eq_true aS; have q154 : x3_2 < (l0_0.length : Int) := of_decide_eq_true aS; obtain ⟨ad154, A154_0, c154_0, e154, hx154_0, hl154_0, hi154_0⟩ := at_L1 HR0_0.out x3_2 p154 q154; obtain rfl : ad152 = ad154 := (by injection e154); replace hx154_0 := (HB.out.cell (World.block_lt_of_cell? w _ hx154_0)).trans hx154_0; have HR154_0 := Aside0.mk hi154_0; have HC154_0 := Aside0.mk hl154_0; clear hi154_0 hl154_0; replace p154 := eq_true p154; replace q154 := eq_true q154; have ea_ := Option.some.inj (hx152_0.symm.trans hx154_0); injection ea_ with ea_ en_ ec_; subst ea_; subst ec_; clear en_; have p155 : 0 ≤ (0 : Int) := (by omega); have q155 : 0 < (l0_0.length : Int) := of_decide_eq_true aS; obtain ⟨ad155, A155_0, c155_0, e155, hx155_0, hl155_0, hi155_0⟩ := at_L1 HR0_0.out 0 p155 q155; obtain rfl : ad152 = ad155 := (by injection e155); have qi155 : (0 < l0_0.length) = True := eq_true (by omega); (try rw [show ((0 : Int)).toNat = 0 from rfl] at hx155_0); (try rw [Addr.add_zero'] at hx155_0); replace hx155_0 := (HB.out.cell (World.block_lt_of_cell? w _ hx155_0)).trans hx155_0; have HR155_0 := Aside0.mk hi155_0; have HC155_0 := Aside0.mk hl155_0; clear hi155_0 hl155_0; replace p155 := eq_true p155; replace q155 := eq_true q155)); try go_wp2_with (first | (go_at_call 126; (with_reducible refine (spec_l2Point.calls k2 _ _ (rd_L1 l0_0 x3_2) true _ ?side1 ?side2 A13.out).mono ?_); (case side1 => exact cB HR152_0 HB); (case side2 => exact HC152_0.out); rintro e w' ⟨rfl, ⟨nd, rfl⟩⟩; (try first | exact ⟨rfl, _, World.drewN_drewN _ _ _⟩ | exact ⟨rfl, _, Eq.trans (World.drewN_drewN _ _ _) (congrArg (World.drewN _) (Nat.add_assoc _ _ _))⟩); have p154 : 0 ≤ (x3_2 : Int) := of_decide_eq_true aS; have q154 : x3_2 < (l0_0.length : Int) := of_decide_eq_true aS; obtain ⟨ad154, A154_0, c154_0, e154, hx154_0, hl154_0, hi154_0⟩ := at_L1 HR0_0.out x3_2 p154 q154; obtain rfl : ad152 = ad154 := (by injection e154); replace hx154_0 := (HB.out.cell (World.block_lt_of_cell? w _ hx154_0)).trans hx154_0; have HR154_0 := Aside0.mk hi154_0; have HC154_0 := Aside0.mk hl154_0; clear hi154_0 hl154_0; replace p154 := eq_true p154; replace q154 := eq_true q154; have ea_ := Option.some.inj (hx152_0.symm.trans hx154_0); injection ea_ with ea_ en_ ec_; subst ea_; subst ec_; clear en_; have p155 : 0 ≤ (0 : Int) := (by omega); have q155 : 0 < (l0_0.length : Int) := of_decide_eq_true aS; obtain ⟨ad155, A155_0, c155_0, e155, hx155_0, hl155_0, hi155_0⟩ := at_L1 HR0_0.out 0 p155 q155; obtain rfl : ad152 = ad155 := (by injection e155); have qi155 : (0 < l0_0.length) = True := eq_true (by omega); (try rw [show ((0 : Int)).toNat = 0 from rfl] at hx155_0); (try rw [Addr.add_zero'] at hx155_0); replace hx155_0 := (HB.out.cell (World.block_lt_of_cell? w _ hx155_0)).trans hx155_0; have HR155_0 := Aside0.mk hi155_0; have HC155_0 := Aside0.mk hl155_0; clear hi155_0 hl155_0; replace p155 := eq_true p155; replace q155 := eq_true q155)))
                 go_roundg k2
                 case measure => have := HJ1.out; have := HK2.out; omega
                 case rel => exact ⟨(wrap64 (x3_2 + 1)), rD, H', ⟨by have := HJ1.out; have := HK2.out; omega⟩, ⟨pB BK150⟩, ⟨bC HB GE150⟩⟩
               · rw [if_neg c16] at H
                 have c16b0 : (((rd_L1 l0_0 x3_2).length : Int) == ((rd_L1 l0_0 0).length : Int)) = false := beq_eq_false_iff_ne.mpr c16
                 have c16b1 : (((rd_L1 l0_0 x3_2).length : Int) != ((rd_L1 l0_0 0).length : Int)) = true := bne_iff_ne.mpr c16
                 have c16b2 : ((rd_L1 l0_0 x3_2).length == (rd_L1 l0_0 0).length) = false := by first | simpa using c16 | (simp at c16 ⊢; omega)
                 obtain rfl := Option.some.inj H
                 have hcz18_0 : wr.cell? ⟨gb150, 0, none⟩ = some (.slice A0_0 l0_0.length c0_0) := (blk_cell BK150.out 0).trans rfl
                 have hcz18_1 : wr.cell? ⟨gb150, 1, none⟩ = some (.slice A0_1 l0_1.length c0_1) := (blk_cell BK150.out 1).trans rfl
                 have hfz18_0 := blk_frozen BK150.out 0
                 have hfz18_1 := blk_frozen BK150.out 1
                 have p152 : 0 ≤ (x3_2 : Int) := of_decide_eq_true aS
                 have q152 : x3_2 < (l0_0.length : Int) := of_decide_eq_true aS
                 obtain ⟨ad152, A152_0, c152_0, e152, hx152_0, hl152_0, hi152_0⟩ := at_L1 HR0_0.out x3_2 p152 q152
                 cases e152
                 replace hx152_0 := (HB.out.cell (World.block_lt_of_cell? w _ hx152_0)).trans hx152_0
                 have HR152_0 := Aside0.mk hi152_0
                 have HC152_0 := Aside0.mk hl152_0
                 clear hi152_0 hl152_0
                 replace p152 := eq_true p152
                 replace q152 := eq_true q152
                 go_wp2_with (first | (go_at_call 126; (with_reducible refine (spec_l2Point.calls k2 _ _ (rd_L1 l0_0 x3_2) true _ ?side1 ?side2 A13.out).mono ?_); (case side1 => exact cB HR152_0 HB); (case side2 => exact HC152_0.out); rintro e w' ⟨rfl, ⟨nd, rfl⟩⟩; (try first | exact ⟨rfl, _, World.drewN_drewN _ _ _⟩ | exact ⟨rfl, _, Eq.trans (World.drewN_drewN _ _ _) (congrArg (World.drewN _) (Nat.add_assoc _ _ _))⟩); have p154 : 0 ≤ (x3_2 : Int) := of_decide_eq_true aS; have q154 : x3_2 < (l0_0.length : Int) := of_decide_eq_true aS; obtain ⟨ad154, A154_0, c154_0, e154, hx154_0, hl154_0, hi154_0⟩ := at_L1 HR0_0.out x3_2 p154 q154; obtain rfl : ad152 = ad154 := (by injection e154); replace hx154_0 := (HB.out.cell (World.block_lt_of_cell? w _ hx154_0)).trans hx154_0; have HR154_0 := Aside0.mk hi154_0; have HC154_0 := Aside0.mk hl154_0; clear hi154_0 hl154_0; replace p154 := eq_true p154; replace q154 := eq_true q154; have ea_ := Option.some.inj (hx152_0.symm.trans hx154_0); injection ea_ with ea_ en_ ec_; subst ea_; subst ec_; clear en_; have p155 : 0 ≤ (0 : Int) := (by omega); have q155 : 0 < (l0_0.length : Int) := of_decide_eq_true aS; obtain ⟨ad155, A155_0, c155_0, e155, hx155_0, hl155_0, hi155_0⟩ := at_L1 HR0_0.out 0 p155 q155; obtain rfl : ad152 = ad155 := (by injection e155); have qi155 : (0 < l0_0.length) = True := eq_true (by omega); (try rw [show ((0 : Int)).toNat = 0 from rfl] at hx155_0); (try rw [Addr.add_zero'] at hx155_0); replace hx155_0 := (HB.out.cell (World.block_lt_of_cell? w _ hx155_0)).trans hx155_0; have HR155_0 := Aside0.mk hi155_0; have HC155_0 := Aside0.mk hl155_0; clear hi155_0 hl155_0; replace p155 := eq_true p155; replace q155 := eq_true q155))
                 repeat (go_quiet (first | (go_at_call 126; (with_reducible refine (spec_l2Point.calls k2 _ _ (rd_L1 l0_0 x3_2) true _ ?side1 ?side2 A13.out).mono ?_); (case side1 => exact cB HR152_0 HB); (case side2 => exact HC152_0.out); rintro e w' ⟨rfl, ⟨nd, rfl⟩⟩; (try first | exact ⟨rfl, _, World.drewN_drewN _ _ _⟩ | exact ⟨rfl, _, Eq.trans (World.drewN_drewN _ _ _) (congrArg (World.drewN _) (Nat.add_assoc _ _ _))⟩); have p154 : 0 ≤ (x3_2 : Int) := of_decide_eq_true aS; have q154 : x3_2 < (l0_0.length : Int) := of_decide_eq_true aS; obtain ⟨ad154, A154_0, c154_0, e154, hx154_0, hl154_0, hi154_0⟩ := at_L1 HR0_0.out x3_2 p154 q154; obtain rfl : ad152 = ad154 := (by injection e154); replace hx154_0 := (HB.out.cell (World.block_lt_of_cell? w _ hx154_0)).trans hx154_0; have HR154_0 := Aside0.mk hi154_0; have HC154_0 := Aside0.mk hl154_0; clear hi154_0 hl154_0; replace p154 := eq_true p154; replace q154 := eq_true q154; have ea_ := Option.some.inj (hx152_0.symm.trans hx154_0); injection ea_ with ea_ en_ ec_; subst ea_; subst ec_; clear en_; have p155 : 0 ≤ (0 : Int) := (by omega); have q155 : 0 < (l0_0.length : Int) := of_decide_eq_true aS; obtain ⟨ad155, A155_0, c155_0, e155, hx155_0, hl155_0, hi155_0⟩ := at_L1 HR0_0.out 0 p155 q155; obtain rfl : ad152 = ad155 := (by injection e155); have qi155 : (0 < l0_0.length) = True := eq_true (by omega); (try rw [show ((0 : Int)).toNat = 0 from rfl] at hx155_0); (try rw [Addr.add_zero'] at hx155_0); replace hx155_0 := (HB.out.cell (World.block_lt_of_cell? w _ hx155_0)).trans hx155_0; have HR155_0 := Aside0.mk hi155_0; have HC155_0 := Aside0.mk hl155_0; clear hi155_0 hl155_0; replace p155 := eq_true p155; replace q155 := eq_true q155)); try go_wp2_with (first | (go_at_call 126; (with_reducible refine (spec_l2Point.calls k2 _ _ (rd_L1 l0_0 x3_2) true _ ?side1 ?side2 A13.out).mono ?_); (case side1 => exact cB HR152_0 HB); (case side2 => exact HC152_0.out); rintro e w' ⟨rfl, ⟨nd, rfl⟩⟩; (try first | exact ⟨rfl, _, World.drewN_drewN _ _ _⟩ | exact ⟨rfl, _, Eq.trans (World.drewN_drewN _ _ _) (congrArg (World.drewN _) (Nat.add_assoc _ _ _))⟩); have p154 : 0 ≤ (x3_2 : Int) := of_decide_eq_true aS; have q154 : x3_2 < (l0_0.length : Int) := of_decide_eq_true aS; obtain ⟨ad154, A154_0, c154_0, e154, hx154_0, hl154_0, hi154_0⟩ := at_L1 HR0_0.out x3_2 p154 q154; obtain rfl : ad152 = ad154 := (by injection e154); replace hx154_0 := (HB.out.cell (World.block_lt_of_cell? w _ hx154_0)).trans hx154_0; have HR154_0 := Aside0.mk hi154_0; have HC154_0 := Aside0.mk hl154_0; clear hi154_0 hl154_0; replace p154 := eq_true p154; replace q154 := eq_true q154; have ea_ := Option.some.inj (hx152_0.symm.trans hx154_0); injection ea_ with ea_ en_ ec_; subst ea_; subst ec_; clear en_; have p155 : 0 ≤ (0 : Int) := (by omega); have q155 : 0 < (l0_0.length : Int) := of_decide_eq_true aS; obtain ⟨ad155, A155_0, c155_0, e155, hx155_0, hl155_0, hi155_0⟩ := at_L1 HR0_0.out 0 p155 q155; obtain rfl : ad152 = ad155 := (by injection e155); have qi155 : (0 < l0_0.length) = True := eq_true (by omega); (try rw [show ((0 : Int)).toNat = 0 from rfl] at hx155_0); (try rw [Addr.add_zero'] at hx155_0); replace hx155_0 := (HB.out.cell (World.block_lt_of_cell? w _ hx155_0)).trans hx155_0; have HR155_0 := Aside0.mk hi155_0; have HC155_0 := Aside0.mk hl155_0; clear hi155_0 hl155_0; replace p155 := eq_true p155; replace q155 := eq_true q155)))
                 go_ret
                 exact ⟨eW, bC HB GE150⟩
             · rw [if_neg c15] at H
               exact absurd H (by simp)
           · replace c14 := Bool.eq_false_iff.mpr c14
             subst c14
             have H1 : (some false) = some r := by rw [if_neg (show ¬ (false = true) by decide)] at H; exact H
             clear H
             have H := H1
             clear H1
             obtain rfl := Option.some.inj H
             have hcz19_0 : wr.cell? ⟨gb150, 0, none⟩ = some (.slice A0_0 l0_0.length c0_0) := (blk_cell BK150.out 0).trans rfl
             have hcz19_1 : wr.cell? ⟨gb150, 1, none⟩ = some (.slice A0_1 l0_1.length c0_1) := (blk_cell BK150.out 1).trans rfl
             have hfz19_0 := blk_frozen BK150.out 0
             have hfz19_1 := blk_frozen BK150.out 1
             have p152 : 0 ≤ (x3_2 : Int) := of_decide_eq_true aS
             have q152 : x3_2 < (l0_0.length : Int) := of_decide_eq_true aS
             obtain ⟨ad152, A152_0, c152_0, e152, hx152_0, hl152_0, hi152_0⟩ := at_L1 HR0_0.out x3_2 p152 q152
             cases e152
             replace hx152_0 := (HB.out.cell (World.block_lt_of_cell? w _ hx152_0)).trans hx152_0
             have HR152_0 := Aside0.mk hi152_0
             have HC152_0 := Aside0.mk hl152_0
             clear hi152_0 hl152_0
             replace p152 := eq_true p152
             replace q152 := eq_true q152
             go_wp2_with (first | (go_at_call 126; (with_reducible refine (spec_l2Point.calls k2 _ _ (rd_L1 l0_0 x3_2) false _ ?side1 ?side2 A13.out).mono ?_); (case side1 => exact cB HR152_0 HB); (case side2 => exact HC152_0.out); rintro e w' ⟨rfl, ⟨nd, rfl⟩⟩; (try first | exact ⟨rfl, _, World.drewN_drewN _ _ _⟩ | exact ⟨rfl, _, Eq.trans (World.drewN_drewN _ _ _) (congrArg (World.drewN _) (Nat.add_assoc _ _ _))⟩)))
             repeat (go_quiet (first | (go_at_call 126; (with_reducible refine (spec_l2Point.calls k2 _ _ (rd_L1 l0_0 x3_2) false _ ?side1 ?side2 A13.out).mono ?_); (case side1 => exact cB HR152_0 HB); (case side2 => exact HC152_0.out); rintro e w' ⟨rfl, ⟨nd, rfl⟩⟩; (try first | exact ⟨rfl, _, World.drewN_drewN _ _ _⟩ | exact ⟨rfl, _, Eq.trans (World.drewN_drewN _ _ _) (congrArg (World.drewN _) (Nat.add_assoc _ _ _))⟩))); try go_wp2_with (first | (go_at_call 126; (with_reducible refine (spec_l2Point.calls k2 _ _ (rd_L1 l0_0 x3_2) false _ ?side1 ?side2 A13.out).mono ?_); (case side1 => exact cB HR152_0 HB); (case side2 => exact HC152_0.out); rintro e w' ⟨rfl, ⟨nd, rfl⟩⟩; (try first | exact ⟨rfl, _, World.drewN_drewN _ _ _⟩ | exact ⟨rfl, _, Eq.trans (World.drewN_drewN _ _ _) (congrArg (World.drewN _) (Nat.add_assoc _ _ _))⟩))))
             go_ret
             exact ⟨eW, bC HB GE150⟩
         · rw [if_neg c12] at H
           exact absurd H (by simp)
       · rw [if_neg c11] at H
         have c11b0 : decide (x3_2 < (l0_0.length : Int)) = false := decide_eq_false c11
         clear c11
         obtain rfl := Option.some.inj H
         have hcz20_0 : wr.cell? ⟨gb150, 0, none⟩ = some (.slice A0_0 l0_0.length c0_0) := (blk_cell BK150.out 0).trans rfl
         have hcz20_1 : wr.cell? ⟨gb150, 1, none⟩ = some (.slice A0_1 l0_1.length c0_1) := (blk_cell BK150.out 1).trans rfl
         have hfz20_0 := blk_frozen BK150.out 0
         have hfz20_1 := blk_frozen BK150.out 1
         go_wp2
         repeat (go_quiet (fail); try go_wp2)
         go_ret
         exact ⟨eW, bC HB GE150⟩

/-! ### spec_l2Plane: function 131 -/
def spec_l2Plane.f (k : Nat) (l0_0 : List Int) (a0_1 : Int) : Option (Bool) := (spec_l1In.f (l0_0.length : Int) 1 4).bind fun t157 => (if t157 = true then ((spec_l2Numbers.f k l0_0 99).bind fun t158 => (if t158 = true then ((spec_l1In.f a0_1 (-99) 99).bind fun t159 => (some t159)) else (some false))) else (some false))
set_option maxHeartbeats 8000000 in
set_option maxRecDepth 100000 in
theorem spec_l2Plane.calls (k : Nat) (A0_0 : Option Addr) (c0_0 : Nat) (l0_0 : List Int) (a0_1 : Int) (r : Bool) (w : World) (hr0_0 : Kd.C (Kd.int .i64) w A0_0 l0_0.length l0_0) (hc0_0 : l0_0.length ≤ c0_0) (h : spec_l2Plane.f k l0_0 a0_1 = some r) :
 Calls Try.prog 131 #[.agg #[.slice A0_0 l0_0.length c0_0, .int .i64 a0_1]] w fun e w' => e = .returned (.bool r) ∧ Below w.heap.size w w' := by
 have hu42 := Try.underlying42
 have HR0_0 := Aside0.mk hr0_0
 have HC0_0 := Aside0.mk hc0_0
 clear hr0_0 hc0_0
 have HB := Aside0.mk (Below.refl w.heap.size w)
 have H : ((spec_l1In.f (l0_0.length : Int) 1 4).bind fun t157 => (if t157 = true then ((spec_l2Numbers.f k l0_0 99).bind fun t158 => (if t158 = true then ((spec_l1In.f a0_1 (-99) 99).bind fun t159 => (some t159)) else (some false))) else (some false))) = some r := h
 clear h
 replace H := Option.bind_eq_some_iff.mp H
 obtain ⟨t157, A20, H⟩ := H
 replace H : (if t157 = true then ((spec_l2Numbers.f k l0_0 99).bind fun t158 => (if t158 = true then ((spec_l1In.f a0_1 (-99) 99).bind fun t159 => (some t159)) else (some false))) else (some false)) = some r := H
 have A2 := Aside0.mk A20
 clear A20
 by_cases c3 : t157 = true
 · subst c3
   have H1 : ((spec_l2Numbers.f k l0_0 99).bind fun t158 => (if t158 = true then ((spec_l1In.f a0_1 (-99) 99).bind fun t159 => (some t159)) else (some false))) = some r := by rw [if_pos rfl] at H; exact H
   clear H
   have H := H1
   clear H1
   replace H := Option.bind_eq_some_iff.mp H
   obtain ⟨t158, A40, H⟩ := H
   replace H : (if t158 = true then ((spec_l1In.f a0_1 (-99) 99).bind fun t159 => (some t159)) else (some false)) = some r := H
   have A4 := Aside0.mk A40
   clear A40
   by_cases c5 : t158 = true
   · subst c5
     have H1 : ((spec_l1In.f a0_1 (-99) 99).bind fun t159 => (some t159)) = some r := by rw [if_pos rfl] at H; exact H
     clear H
     have H := H1
     clear H1
     replace H := Option.bind_eq_some_iff.mp H
     obtain ⟨t159, A60, H⟩ := H
     replace H : (some t159) = some r := H
     have A6 := Aside0.mk A60
     clear A60
     obtain rfl := Option.some.inj H
     go_enter Try.func131, Try.ntmps131
     go_wp2_with (first | ((with_reducible refine gate_dst (N := 1) rfl ?_); refine box_event ?hg (N := 1) ?hd (cs := #[.slice A0_0 l0_0.length c0_0, .int .i64 a0_1]) (t := 42) ?hr ?_; (case hd => rfl); (case hg => rfl); (case hr => first | (go_simp; done) | (go_simp; rfl)); intro gb156 hg w7 hbox hb; have n0_ := Aside0.mk (below_step (bB HB) hb); have n1_ := Aside0.mk (hbox); have n2_ := Aside0.mk ((by rw [hg]; exact (below_size (bB HB)) : w.heap.size ≤ gb156)); have n3_ := Aside0.mk ((by rw [hg]; exact (below_size (bB HB)) : w.heap.size ≤ gb156)); clear HB; have HB := n0_; have BK156 := n1_; have GW156 := n2_; have GE156 := n3_; clear n0_ n1_ n2_ n3_; clear hb hbox hg; have hcz8_0 : w7.cell? ⟨gb156, 0, none⟩ = some (.slice A0_0 l0_0.length c0_0) := (blk_cell BK156.out 0).trans rfl; have hcz8_1 : w7.cell? ⟨gb156, 1, none⟩ = some (.int .i64 a0_1) := (blk_cell BK156.out 1).trans rfl; have hfz8_0 := blk_frozen BK156.out 0; have hfz8_1 := blk_frozen BK156.out 1) | ((with_reducible refine gate_callee (f := 66) rfl ?_); refine goesL_ (some 6) rfl rfl Try.func66 (by kernel_rfl) rfl #[.int .i64 (l0_0.length : Int), .int .i64 1, .int .i64 4] rfl aT ?_; (with_reducible refine (spec_l1In.calls (l0_0.length : Int) 1 4 true _ A2.out).mono ?_); rintro e w' ⟨rfl, ⟨nd, rfl⟩⟩; refine ⟨_, rfl, ?_⟩) | (go_at_call 156; (with_reducible refine (spec_l2Numbers.calls k _ _ l0_0 99 true _ ?side1 ?side2 A4.out).mono ?_); (case side1 => repeat (first | exact (Kd.C_below HR0_0.out (bC HB GE156)) | (with_reducible refine Kd.C_alloc ?_ _) | (with_reducible refine Kd.C_drewN ?_ _) | (with_reducible refine Kd.C_drew ?_))); (case side2 => exact HC0_0.out); rintro e w' ⟨rfl, ⟨nd, rfl⟩⟩) | (go_at_call 66; (with_reducible refine (spec_l1In.calls a0_1 (-99) 99 t159 _ A6.out).mono ?_); rintro e w' ⟨rfl, ⟨nd, rfl⟩⟩))
     go_ret
     exact ⟨eW, bC HB GE156⟩
   · replace c5 := Bool.eq_false_iff.mpr c5
     subst c5
     have H1 : (some false) = some r := by rw [if_neg (show ¬ (false = true) by decide)] at H; exact H
     clear H
     have H := H1
     clear H1
     obtain rfl := Option.some.inj H
     go_enter Try.func131, Try.ntmps131
     go_wp2_with (first | ((with_reducible refine gate_dst (N := 1) rfl ?_); refine box_event ?hg (N := 1) ?hd (cs := #[.slice A0_0 l0_0.length c0_0, .int .i64 a0_1]) (t := 42) ?hr ?_; (case hd => rfl); (case hg => rfl); (case hr => first | (go_simp; done) | (go_simp; rfl)); intro gb156 hg w9 hbox hb; have n0_ := Aside0.mk (below_step (bB HB) hb); have n1_ := Aside0.mk (hbox); have n2_ := Aside0.mk ((by rw [hg]; exact (below_size (bB HB)) : w.heap.size ≤ gb156)); have n3_ := Aside0.mk ((by rw [hg]; exact (below_size (bB HB)) : w.heap.size ≤ gb156)); clear HB; have HB := n0_; have BK156 := n1_; have GW156 := n2_; have GE156 := n3_; clear n0_ n1_ n2_ n3_; clear hb hbox hg; have hcz10_0 : w9.cell? ⟨gb156, 0, none⟩ = some (.slice A0_0 l0_0.length c0_0) := (blk_cell BK156.out 0).trans rfl; have hcz10_1 : w9.cell? ⟨gb156, 1, none⟩ = some (.int .i64 a0_1) := (blk_cell BK156.out 1).trans rfl; have hfz10_0 := blk_frozen BK156.out 0; have hfz10_1 := blk_frozen BK156.out 1) | ((with_reducible refine gate_callee (f := 66) rfl ?_); refine goesL_ (some 6) rfl rfl Try.func66 (by kernel_rfl) rfl #[.int .i64 (l0_0.length : Int), .int .i64 1, .int .i64 4] rfl aT ?_; (with_reducible refine (spec_l1In.calls (l0_0.length : Int) 1 4 true _ A2.out).mono ?_); rintro e w' ⟨rfl, ⟨nd, rfl⟩⟩; refine ⟨_, rfl, ?_⟩) | (go_at_call 156; (with_reducible refine (spec_l2Numbers.calls k _ _ l0_0 99 false _ ?side1 ?side2 A4.out).mono ?_); (case side1 => repeat (first | exact (Kd.C_below HR0_0.out (bC HB GE156)) | (with_reducible refine Kd.C_alloc ?_ _) | (with_reducible refine Kd.C_drewN ?_ _) | (with_reducible refine Kd.C_drew ?_))); (case side2 => exact HC0_0.out); rintro e w' ⟨rfl, ⟨nd, rfl⟩⟩))
     go_ret
     exact ⟨eW, bC HB GE156⟩
 · replace c3 := Bool.eq_false_iff.mpr c3
   subst c3
   have H1 : (some false) = some r := by rw [if_neg (show ¬ (false = true) by decide)] at H; exact H
   clear H
   have H := H1
   clear H1
   obtain rfl := Option.some.inj H
   go_enter Try.func131, Try.ntmps131
   go_wp2_with (first | ((with_reducible refine gate_dst (N := 1) rfl ?_); refine box_event ?hg (N := 1) ?hd (cs := #[.slice A0_0 l0_0.length c0_0, .int .i64 a0_1]) (t := 42) ?hr ?_; (case hd => rfl); (case hg => rfl); (case hr => first | (go_simp; done) | (go_simp; rfl)); intro gb156 hg w11 hbox hb; have n0_ := Aside0.mk (below_step (bB HB) hb); have n1_ := Aside0.mk (hbox); have n2_ := Aside0.mk ((by rw [hg]; exact (below_size (bB HB)) : w.heap.size ≤ gb156)); have n3_ := Aside0.mk ((by rw [hg]; exact (below_size (bB HB)) : w.heap.size ≤ gb156)); clear HB; have HB := n0_; have BK156 := n1_; have GW156 := n2_; have GE156 := n3_; clear n0_ n1_ n2_ n3_; clear hb hbox hg; have hcz12_0 : w11.cell? ⟨gb156, 0, none⟩ = some (.slice A0_0 l0_0.length c0_0) := (blk_cell BK156.out 0).trans rfl; have hcz12_1 : w11.cell? ⟨gb156, 1, none⟩ = some (.int .i64 a0_1) := (blk_cell BK156.out 1).trans rfl; have hfz12_0 := blk_frozen BK156.out 0; have hfz12_1 := blk_frozen BK156.out 1) | ((with_reducible refine gate_callee (f := 66) rfl ?_); refine goesL_ (some 6) rfl rfl Try.func66 (by kernel_rfl) rfl #[.int .i64 (l0_0.length : Int), .int .i64 1, .int .i64 4] rfl aT ?_; (with_reducible refine (spec_l1In.calls (l0_0.length : Int) 1 4 false _ A2.out).mono ?_); rintro e w' ⟨rfl, ⟨nd, rfl⟩⟩; refine ⟨_, rfl, ?_⟩))
   go_ret
   exact ⟨eW, bC HB GE156⟩

end Go.Proofs.Ytniebbjbihenfaa.PFnExactSidesSample
