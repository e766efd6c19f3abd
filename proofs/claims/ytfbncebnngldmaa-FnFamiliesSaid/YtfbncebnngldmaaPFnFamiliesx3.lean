-- Printed by wip/tools/myprint.py (the printer of the kit, patched by that program; roots chosen by it)
import Derived.Test.YtfbncebnngldmaaPFnFamiliesx0
import Derived.Test.YtfbncebnngldmaaPFnFamiliesx2
import Derived.Test.YtfbncebnngldmaaSh
namespace Go.Proofs.Ytfbncebnngldmaa.PFnFamilies
open Go.RowKit Go.Proofs.Ytfbncebnngldmaa.Sh Go.Proofs.YtfbncebnngldmaaW.PrintWords Go.Proofs.YtfbncebnngldmaaW.PrintLast Go.Proofs.YtfbncebnngldmaaW.PrintMore
attribute [local go_sem] max2_int min2_int max_two min_two max_three min_three max_four min_four   -- for this text's walks alone
set_option linter.unusedVariables false
set_option linter.unusedSimpArgs false

/-! ### laws_vNet: function 14 -/
mutual
def laws_vNet.j0 : Nat → Bool → Int → List (List (S45)) → Int → List (List (S45)) → Option (Bool)
 | 0, _, _, _, _, _ => none
 | k + 1, x20, x260000, x260001, x261000, x261001 => if x20 = true then (some false) else (laws_vNet.l0 k 0 x260000 x260001 x261000 x261001)
def laws_vNet.l0 : Nat → Int → Int → List (List (S45)) → Int → List (List (S45)) → Option (Bool)
 | 0, _, _, _, _, _ => none
 | k + 1, x5, x260000, x260001, x261000, x261001 => if x5 < (x260001.length : Int) then (if 0 ≤ x5 then (if x5 < (x261001.length : Int) then (if ((rd_L5 x260001 x5).length : Int) = ((rd_L5 x261001 x5).length : Int) then (laws_vNet.l1 k x5 0 x260000 x260001 x261000 x261001) else (some false)) else (none)) else (none)) else (some true)
def laws_vNet.l1 : Nat → Int → Int → Int → List (List (S45)) → Int → List (List (S45)) → Option (Bool)
 | 0, _, _, _, _, _, _ => none
 | k + 1, x5, x6, x260000, x260001, x261000, x261001 => if 0 ≤ x5 then (if x5 < (x260001.length : Int) then (if x6 < ((rd_L5 x260001 x5).length : Int) then (if 0 ≤ x6 then (if x5 < (x261001.length : Int) then (if x6 < ((rd_L5 x261001 x5).length : Int) then ((laws_vPlane.f k ((rd_T45 (rd_L5 x260001 x5) x6).f0) ((rd_T45 (rd_L5 x260001 x5) x6).f1) ((rd_T45 (rd_L5 x261001 x5) x6).f0) ((rd_T45 (rd_L5 x261001 x5) x6).f1)).bind fun t268 => (if t268 = true then (laws_vNet.l1 k x5 (wrap64 (x6 + 1)) x260000 x260001 x261000 x261001) else (some false))) else (none)) else (none)) else (none)) else (laws_vNet.l0 k (wrap64 (x5 + 1)) x260000 x260001 x261000 x261001)) else (none)) else (none)
end
def laws_vNet.f (k : Nat) (a0_0 : Int) (l0_1 : List (List (S45))) (a1_0 : Int) (l1_1 : List (List (S45))) : Option (Bool) := if a0_0 = a1_0 then (laws_vNet.j0 k ((l0_1.length : Int) != (l1_1.length : Int)) a0_0 l0_1 a1_0 l1_1) else (laws_vNet.j0 k true a0_0 l0_1 a1_0 l1_1)
def laws_vNet.T6 : Bool × List (List Nat × List Nat) := (true, [([], []), ([0], [0]), ([], []), ([1, 2], [1, 2]), ([3], [3]), ([4], [4]), ([], []), ([6], [6]), ([], []), ([7, 8], [7, 8]), ([9], [9]), ([10], [10]), ([5, 11], [5, 11])])
def laws_vNet.B6 : List Nat := [0, 1, 0, 7, 15, 31, 0, 64, 0, 448, 960, 1984, 4095]
theorem laws_vNet.tab6 : rtab .any (opsOf Try.f14 6) = laws_vNet.T6 := by kernel_rfl
theorem laws_vNet.bits6 : waitsOk laws_vNet.T6.2 laws_vNet.B6 = true := by kernel_rfl
def laws_vNet.T11 : Bool × List (List Nat × List Nat) := (true, [([], []), ([0], [0]), ([], []), ([1, 2], [1, 2]), ([3], [3]), ([], []), ([4, 5], [4, 5]), ([6], [6]), ([], []), ([8], [8]), ([], []), ([9, 10], [9, 10]), ([11], [11]), ([], []), ([12, 13], [12, 13]), ([14], [14]), ([7, 15], [7, 15]), ([16], [16])])
def laws_vNet.B11 : List Nat := [0, 1, 0, 7, 15, 0, 63, 127, 0, 256, 0, 1792, 3840, 0, 16128, 32512, 65535, 131071]
theorem laws_vNet.tab11 : rtab .any (opsOf Try.f14 11) = laws_vNet.T11 := by kernel_rfl
theorem laws_vNet.bits11 : waitsOk laws_vNet.T11.2 laws_vNet.B11 = true := by kernel_rfl
set_option maxHeartbeats 8000000 in
set_option maxRecDepth 100000 in
theorem laws_vNet.calls (k : Nat) (a0_0 : Int) (A0_1 : Option Addr) (c0_1 : Nat) (l0_1 : List (List (S45))) (a1_0 : Int) (A1_1 : Option Addr) (c1_1 : Nat) (l1_1 : List (List (S45))) (r : Bool) (w : World) (hr0_1 : Kd.C (Kd.slice 45 k45) w A0_1 l0_1.length l0_1) (hc0_1 : l0_1.length ≤ c0_1) (hr1_1 : Kd.C (Kd.slice 45 k45) w A1_1 l1_1.length l1_1) (hc1_1 : l1_1.length ≤ c1_1) (h : laws_vNet.f k a0_0 l0_1 a1_0 l1_1 = some r) :
 Calls Try.prog 14 #[.agg #[.int .i64 a0_0, .slice A0_1 l0_1.length c0_1], .agg #[.int .i64 a1_0, .slice A1_1 l1_1.length c1_1]] w fun e w' => e = .returned (.bool r) ∧ Below w.heap.size w w' := by
 have hu27 := Try.underlying27
 have hu45 := Try.underlying45
 have HR0_1 := Aside0.mk hr0_1
 have HC0_1 := Aside0.mk hc0_1
 clear hr0_1 hc0_1
 have HR1_1 := Aside0.mk hr1_1
 have HC1_1 := Aside0.mk hc1_1
 clear hr1_1 hc1_1
 have HB := Aside0.mk (Below.refl w.heap.size w)
 have H : (if a0_0 = a1_0 then (laws_vNet.j0 k ((l0_1.length : Int) != (l1_1.length : Int)) a0_0 l0_1 a1_0 l1_1) else (laws_vNet.j0 k true a0_0 l0_1 a1_0 l1_1)) = some r := h
 clear h
 have HC3 := Aside0.mk H
 clear H
 go_enter Try.func14, Try.ntmps14
 go_upto_region 1 with (first | ((with_reducible refine gate_dst (N := 2) rfl ?_); refine box_event ?hg (N := 2) ?hd (cs := #[.int .i64 a0_0, .slice A0_1 l0_1.length c0_1]) (t := 27) ?hr ?_; (case hd => rfl); (case hg => rfl); (case hr => first | (go_simp; done) | (go_simp; rfl)); intro gb259 hg w4 hbox hb; have n0_ := Aside0.mk (below_step (bB HB) hb); have n1_ := Aside0.mk (hbox); have n2_ := Aside0.mk ((by rw [hg]; exact (below_size (bB HB)) : w.heap.size ≤ gb259)); have n3_ := Aside0.mk ((by rw [hg]; exact (below_size (bB HB)) : w.heap.size ≤ gb259)); clear HB; have HB := n0_; have BK259 := n1_; have GW259 := n2_; have GE259 := n3_; clear n0_ n1_ n2_ n3_; clear hb hbox hg) | ((with_reducible refine gate_dst (N := 3) rfl ?_); refine box_event ?hg (N := 3) ?hd (cs := #[.int .i64 a1_0, .slice A1_1 l1_1.length c1_1]) (t := 27) ?hr ?_; (case hd => rfl); (case hg => rfl); (case hr => first | (go_simp; done) | (go_simp; rfl)); intro gb260 hg w5 hbox hb; have n0_ := Aside0.mk (bW BK259 hb); have n1_ := Aside0.mk (below_step (bC HB GE259) hb); have n2_ := Aside0.mk (hbox); have n3_ := Aside0.mk ((by rw [hg]; exact (below_size (bC HB GE259)) : w.heap.size ≤ gb260)); have n4_ := Aside0.mk ((by rw [hg]; exact (below_size (bC HB GE259)) : w.heap.size ≤ gb260)); have n5_ := Aside0.mk ((by rw [hg]; exact Nat.ne_of_lt (blk_lt (g := gb259) (o := .cells #[.int .i64 a0_0, .slice A0_1 l0_1.length c0_1] 27 (0, 0)) (pB BK259)) : gb259 ≠ gb260)); have n6_ := Aside0.mk ((by rw [hg]; exact Nat.ne_of_gt (blk_lt (g := gb259) (o := .cells #[.int .i64 a0_0, .slice A0_1 l0_1.length c0_1] 27 (0, 0)) (pB BK259)) : gb260 ≠ gb259)); clear BK259; clear HB; have BK259 := n0_; have HB := n1_; have BK260 := n2_; have GW260 := n3_; have GE260 := n4_; have NB259_260 := n5_; have NB260_259 := n6_; clear n0_ n1_ n2_ n3_ n4_ n5_ n6_; clear hb hbox hg))
 (try simp only [Act.put, List.setIfInBounds_toArray, List.set_cons_zero, List.set_cons_succ])
 go_cut [20] (fun v20 wc => ∃ (kq : Nat) (x20_2 : Bool), v20 = .bool x20_2 ∧ Aside0 (laws_vNet.j0 kq x20_2 a0_0 l0_1 a1_0 l1_1 = some r) ∧ Aside0 (kq ≤ k) ∧ Aside0 (wc.heap[gb259]? = some (.cells #[.int .i64 a0_0, (.slice A0_1 l0_1.length c0_1)] 27 (0, 0))) ∧ Aside0 (wc.heap[gb260]? = some (.cells #[.int .i64 a1_0, (.slice A1_1 l1_1.length c1_1)] 27 (0, 0))) ∧ Aside0 (Below w.heap.size w wc))
 case first =>
  have H := HC3.out
  clear HC3
  by_cases c6 : a0_0 = a1_0
  · rw [if_pos c6] at H
    have c6b0 : (a0_0 == a1_0) = true := beq_iff_eq.mpr c6
    have c6b1 : (a0_0 != a1_0) = false := bne_eq_false_iff_eq.mpr c6
    clear c6
    (first | rw [c6b0] | (simp only [i64_w, i32_w]; rw [c6b0]) | skip)
    have H' := Aside0.mk H
    clear H
    have hnb7 := NB259_260.out
    have hnc7 := NB260_259.out
    have hcz8_0 : w5.cell? ⟨gb259, 0, none⟩ = some (.int .i64 a0_0) := (blk_cell BK259.out 0).trans rfl
    have hcz8_1 : w5.cell? ⟨gb259, 1, none⟩ = some (.slice A0_1 l0_1.length c0_1) := (blk_cell BK259.out 1).trans rfl
    have hfz8_0 := blk_frozen BK259.out 0
    have hfz8_1 := blk_frozen BK259.out 1
    have hcz9_0 : w5.cell? ⟨gb260, 0, none⟩ = some (.int .i64 a1_0) := (blk_cell BK260.out 0).trans rfl
    have hcz9_1 : w5.cell? ⟨gb260, 1, none⟩ = some (.slice A1_1 l1_1.length c1_1) := (blk_cell BK260.out 1).trans rfl
    have hfz9_0 := blk_frozen BK260.out 0
    have hfz9_1 := blk_frozen BK260.out 1
    go_wp2
    go_meet
    case rel => exact ⟨_, (((l0_1.length : Int) != (l1_1.length : Int))), rD, H', ⟨by first | omega | exact Nat.le_refl _⟩, ⟨pB BK259⟩, ⟨pB BK260⟩, ⟨bD HB GE259 GE260⟩⟩
  · rw [if_neg c6] at H
    have c6b0 : (a0_0 == a1_0) = false := beq_eq_false_iff_ne.mpr c6
    have c6b1 : (a0_0 != a1_0) = true := bne_iff_ne.mpr c6
    (first | rw [c6b0] | (simp only [i64_w, i32_w]; rw [c6b0]) | skip)
    have H' := Aside0.mk H
    clear H
    have hnb10 := NB259_260.out
    have hnc10 := NB260_259.out
    have hcz11_0 : w5.cell? ⟨gb259, 0, none⟩ = some (.int .i64 a0_0) := (blk_cell BK259.out 0).trans rfl
    have hcz11_1 : w5.cell? ⟨gb259, 1, none⟩ = some (.slice A0_1 l0_1.length c0_1) := (blk_cell BK259.out 1).trans rfl
    have hfz11_0 := blk_frozen BK259.out 0
    have hfz11_1 := blk_frozen BK259.out 1
    have hcz12_0 : w5.cell? ⟨gb260, 0, none⟩ = some (.int .i64 a1_0) := (blk_cell BK260.out 0).trans rfl
    have hcz12_1 : w5.cell? ⟨gb260, 1, none⟩ = some (.slice A1_1 l1_1.length c1_1) := (blk_cell BK260.out 1).trans rfl
    have hfz12_0 := blk_frozen BK260.out 0
    have hfz12_1 := blk_frozen BK260.out 1
    go_wp2
    go_meet
    case rel => exact ⟨_, (true), rD, H', ⟨by first | omega | exact Nat.le_refl _⟩, ⟨pB BK259⟩, ⟨pB BK260⟩, ⟨bD HB GE259 GE260⟩⟩
 case rest =>
  clear HC3
  obtain ⟨kq, x20_2, rfl, HA, HJ2, BK259, BK260, HB⟩ := hcut
  cases kq with
  | zero => exact absurd HA.out (by simp [laws_vNet.j0])
  | succ kj2 =>
   have H := HA.out
   clear HA
   simp only [laws_vNet.j0] at H
   by_cases c13 : x20_2 = true
   · subst c13
     have H1 : (some false) = some r := by rw [if_pos rfl] at H; exact H
     clear H
     have H := H1
     clear H1
     obtain rfl := Option.some.inj H
     go_wp2
     go_ret
     exact ⟨eW, bD HB GE259 GE260⟩
   · replace c13 := Bool.eq_false_iff.mpr c13
     subst c13
     have H1 : (laws_vNet.l0 kj2 0 a0_0 l0_1 a1_0 l1_1) = some r := by rw [if_neg (show ¬ (false = true) by decide)] at H; exact H
     clear H
     have H := H1
     clear H1
     have H' := Aside0.mk H
     clear H
     go_wp2
     go_loopg [5] kj2 (fun kq v5 w' => ∃ (x5_2 : Int), v5 = .int .i64 x5_2 ∧ Aside0 (laws_vNet.l0 kq x5_2 a0_0 l0_1 a1_0 l1_1 = some r) ∧ Aside0 (kq ≤ kj2) ∧ Aside0 (w'.heap[gb259]? = some (.cells #[.int .i64 a0_0, (.slice A0_1 l0_1.length c0_1)] 27 (0, 0))) ∧ Aside0 (w'.heap[gb260]? = some (.cells #[.int .i64 a1_0, (.slice A1_1 l1_1.length c1_1)] 27 (0, 0))) ∧ Aside0 (Below w.heap.size w w'))
     case atStart => exact ⟨(0), rD, H', ⟨Nat.le_refl _⟩, ⟨pB BK259⟩, ⟨pB BK260⟩, ⟨bD HB GE259 GE260⟩⟩
     case round =>
      clear H'
      try clear c13
      obtain ⟨x5_2, rfl, HA, HK2, BK259, BK260, HB⟩ := hrel
      cases gk with
      | zero => exact absurd HA.out (by simp [laws_vNet.l0])
      | succ k2 =>
       have H := HA.out
       clear HA
       simp only [laws_vNet.l0] at H
       by_cases c14 : x5_2 < (l0_1.length : Int)
       · rw [if_pos c14] at H
         have c14b0 : decide (x5_2 < (l0_1.length : Int)) = true := decide_eq_true c14
         clear c14
         by_cases c15 : 0 ≤ x5_2
         · rw [if_pos c15] at H
           have c15b0 : decide (0 ≤ x5_2) = true := decide_eq_true c15
           clear c15
           by_cases c16 : x5_2 < (l1_1.length : Int)
           · rw [if_pos c16] at H
             have c16b0 : decide (x5_2 < (l1_1.length : Int)) = true := decide_eq_true c16
             clear c16
             by_cases c17 : ((rd_L5 l0_1 x5_2).length : Int) = ((rd_L5 l1_1 x5_2).length : Int)
             · rw [if_pos c17] at H
               have c17b0 : (((rd_L5 l0_1 x5_2).length : Int) == ((rd_L5 l1_1 x5_2).length : Int)) = true := beq_iff_eq.mpr c17
               have c17b1 : (((rd_L5 l0_1 x5_2).length : Int) != ((rd_L5 l1_1 x5_2).length : Int)) = false := bne_eq_false_iff_eq.mpr c17
               have c17b2 : ((rd_L5 l0_1 x5_2).length == (rd_L5 l1_1 x5_2).length) = true := by first | simpa using c17 | (simp at c17 ⊢; omega)
               clear c17
               have H' := Aside0.mk H
               clear H
               have hnb18 := NB259_260.out
               have hnc18 := NB260_259.out
               have hcz19_0 : wr.cell? ⟨gb259, 0, none⟩ = some (.int .i64 a0_0) := (blk_cell BK259.out 0).trans rfl
               have hcz19_1 : wr.cell? ⟨gb259, 1, none⟩ = some (.slice A0_1 l0_1.length c0_1) := (blk_cell BK259.out 1).trans rfl
               have hfz19_0 := blk_frozen BK259.out 0
               have hfz19_1 := blk_frozen BK259.out 1
               try go_wp2
               have n0_ := Aside0.mk (blk_drew BK259.out)
               have n1_ := Aside0.mk (blk_drew BK260.out)
               have n2_ := Aside0.mk (below_drew1 HB.out)
               clear BK259
               clear BK260
               clear HB
               have BK259 := n0_
               have BK260 := n1_
               have HB := n2_
               clear n0_ n1_ n2_
               have p261 : 0 ≤ (x5_2 : Int) := of_decide_eq_true aS
               have q261 : x5_2 < (l0_1.length : Int) := of_decide_eq_true aS
               obtain ⟨ad261, A261_0, c261_0, e261, hx261_0, hl261_0, hi261_0⟩ := at_L5 HR0_1.out x5_2 p261 q261
               have hw261_0 := hx261_0
               cases e261
               replace hx261_0 := (HB.out.cell (World.block_lt_of_cell? w _ hx261_0)).trans hx261_0
               have HR261_0 := Aside0.mk hi261_0
               have HC261_0 := Aside0.mk hl261_0
               clear hi261_0 hl261_0
               replace p261 := eq_true p261
               replace q261 := eq_true q261
               have p262 : 0 ≤ (x5_2 : Int) := of_decide_eq_true aS
               have q262 : x5_2 < (l1_1.length : Int) := of_decide_eq_true aS
               obtain ⟨ad262, A262_0, c262_0, e262, hx262_0, hl262_0, hi262_0⟩ := at_L5 HR1_1.out x5_2 p262 q262
               have hw262_0 := hx262_0
               cases e262
               replace hx262_0 := (HB.out.cell (World.block_lt_of_cell? w _ hx262_0)).trans hx262_0
               have HR262_0 := Aside0.mk hi262_0
               have HC262_0 := Aside0.mk hl262_0
               clear hi262_0 hl262_0
               replace p262 := eq_true p262
               replace q262 := eq_true q262
               refine start_ (n := 13) (S := fun w' => w'.cell? ⟨gb259, 0, none⟩ = some (.int .i64 a0_0) ∧ w'.cell? ⟨gb259, 1, none⟩ = some (.slice (some ad261) l0_1.length c0_1) ∧ w'.cell? ⟨gb260, 0, none⟩ = some (.int .i64 a1_0) ∧ w'.cell? ⟨gb260, 1, none⟩ = some (.slice (some ad262) l1_1.length c1_1) ∧ w'.cell? (ad261.add (x5_2).toNat) = some (.slice A261_0 (rd_L5 l0_1 x5_2).length c261_0) ∧ w'.cell? (ad262.add (x5_2).toNat) = some (.slice A262_0 (rd_L5 l1_1 x5_2).length c262_0)) (ds := []) #[false, false, false, false, false, false, false, false, false, false, false, false, false] (by kernel_rfl) rfl rfl ⟨(blk_cell BK259.out 0).trans rfl, (blk_cell BK259.out 1).trans rfl, (blk_cell BK260.out 0).trans rfl, (blk_cell BK260.out 1).trans rfl, ((HB.out.cell (World.block_lt_of_cell? w _ hw261_0)).trans hw261_0), ((HB.out.cell (World.block_lt_of_cell? w _ hw262_0)).trans hw262_0)⟩ (fun hHeld => ?_); refine with_tabW laws_vNet.tab6 laws_vNet.bits6 (fun HT_ HW_ => ?_)
               generalize wr.drew = w20 at BK259 BK260 HB HR261_0 HR262_0 hx261_0 hx262_0 hHeld ⊢
               refine pure_ (i := 0) (N := some 28) (v := ?_) (a' := ?_) #[true, false, false, false, false, false, false, false, false, false, false, false, false] rfl rfl (any_of HT_.out (by kernel_rfl)) (fun _ _ _ h => h) (Or.inl ⟨by rfl, ?_⟩) ?_ ?_
               rotate_left
               · intro w'
                 go_simp
                 with_reducible rfl
               rotate_left
               · exact aP
               refine pure_ (i := 2) (N := some 30) (v := ?_) (a' := ?_) #[true, false, true, false, false, false, false, false, false, false, false, false, false] rfl rfl (any_of HT_.out (by kernel_rfl)) (fun _ _ _ h => h) (Or.inl ⟨by rfl, ?_⟩) ?_ ?_
               rotate_left
               · intro w'
                 go_simp
                 with_reducible rfl
               rotate_left
               · exact aP
               refine pure_ (i := 6) (N := some 34) (v := ?_) (a' := ?_) #[true, false, true, false, false, false, true, false, false, false, false, false, false] rfl rfl (any_of HT_.out (by kernel_rfl)) (fun _ _ _ h => h) (Or.inl ⟨by rfl, ?_⟩) ?_ ?_
               rotate_left
               · intro w'
                 go_simp
                 with_reducible rfl
               rotate_left
               · exact aP
               refine pure_ (i := 8) (N := some 36) (v := ?_) (a' := ?_) #[true, false, true, false, false, false, true, false, true, false, false, false, false] rfl rfl (any_of HT_.out (by kernel_rfl)) (fun _ _ _ h => h) (Or.inl ⟨by rfl, ?_⟩) ?_ ?_
               rotate_left
               · intro w'
                 go_simp
                 with_reducible rfl
               rotate_left
               · exact aP
               refine take_ (i := 1) (N := some 29) (v := ?_) (a' := ?_) #[true, true, true, false, false, false, true, false, true, false, false, false, false] rfl rfl (take_ofW HT_.out HW_.out (by kernel_rfl)) (fun _ _ _ h => h) (Or.inl ⟨by rfl, ?_⟩) hHeld ?_ ?_
               rotate_left
               · rintro w' ⟨s0, s1, s2, s3, s4, s5⟩
                 go_simp
                 with_reducible rfl
               rotate_left
               · exact aP
               refine pure_ (i := 3) (N := some 31) (v := ?_) (a' := ?_) #[true, true, true, true, false, false, true, false, true, false, false, false, false] rfl rfl (any_of HT_.out (by kernel_rfl)) (fun _ _ _ h => h) (Or.inl ⟨by rfl, ?_⟩) ?_ ?_
               rotate_left
               · intro w'
                 go_simp
                 with_reducible rfl
               rotate_left
               · exact aP
               refine take_ (i := 4) (N := some 32) (v := ?_) (a' := ?_) #[true, true, true, true, true, false, true, false, true, false, false, false, false] rfl rfl (take_ofW HT_.out HW_.out (by kernel_rfl)) (fun _ _ _ h => h) (Or.inl ⟨by rfl, ?_⟩) hHeld ?_ ?_
               rotate_left
               · rintro w' ⟨s0, s1, s2, s3, s4, s5⟩
                 go_simp
                 with_reducible rfl
               rotate_left
               · exact aP
               refine pure_ (i := 5) (N := some 33) (v := ?_) (a' := ?_) #[true, true, true, true, true, true, true, false, true, false, false, false, false] rfl rfl (any_of HT_.out (by kernel_rfl)) (fun _ _ _ h => h) (Or.inl ⟨by rfl, ?_⟩) ?_ ?_
               rotate_left
               · intro w'
                 go_simp
                 with_reducible rfl
               rotate_left
               · exact aP
               refine take_ (i := 7) (N := some 35) (v := ?_) (a' := ?_) #[true, true, true, true, true, true, true, true, true, false, false, false, false] rfl rfl (take_ofW HT_.out HW_.out (by kernel_rfl)) (fun _ _ _ h => h) (Or.inl ⟨by rfl, ?_⟩) hHeld ?_ ?_
               rotate_left
               · rintro w' ⟨s0, s1, s2, s3, s4, s5⟩
                 go_simp
                 with_reducible rfl
               rotate_left
               · exact aP
               refine pure_ (i := 9) (N := some 37) (v := ?_) (a' := ?_) #[true, true, true, true, true, true, true, true, true, true, false, false, false] rfl rfl (any_of HT_.out (by kernel_rfl)) (fun _ _ _ h => h) (Or.inl ⟨by rfl, ?_⟩) ?_ ?_
               rotate_left
               · intro w'
                 go_simp
                 with_reducible rfl
               rotate_left
               · exact aP
               refine take_ (i := 10) (N := some 38) (v := ?_) (a' := ?_) #[true, true, true, true, true, true, true, true, true, true, true, false, false] rfl rfl (take_ofW HT_.out HW_.out (by kernel_rfl)) (fun _ _ _ h => h) (Or.inl ⟨by rfl, ?_⟩) hHeld ?_ ?_
               rotate_left
               · rintro w' ⟨s0, s1, s2, s3, s4, s5⟩
                 go_simp
                 with_reducible rfl
               rotate_left
               · exact aP
               refine pure_ (i := 11) (N := some 39) (v := ?_) (a' := ?_) #[true, true, true, true, true, true, true, true, true, true, true, true, false] rfl rfl (any_of HT_.out (by kernel_rfl)) (fun _ _ _ h => h) (Or.inl ⟨by rfl, ?_⟩) ?_ ?_
               rotate_left
               · intro w'
                 go_simp
                 with_reducible rfl
               rotate_left
               · exact aP
               refine pure_ (i := 12) (N := some 40) (v := ?_) (a' := ?_) #[true, true, true, true, true, true, true, true, true, true, true, true, true] rfl rfl (any_of HT_.out (by kernel_rfl)) (fun _ _ _ h => h) (Or.inl ⟨by rfl, ?_⟩) ?_ ?_
               rotate_left
               · intro w'
                 go_simp
                 with_reducible rfl
               rotate_left
               · exact aP
               refine done_ (done_of HT_.out (by kernel_rfl)) ?_
               try go_wp2
               go_loopg [6] k2 (fun kq v6 w' => ∃ (x6_3 : Int), v6 = .int .i64 x6_3 ∧ Aside0 (laws_vNet.l1 kq x5_2 x6_3 a0_0 l0_1 a1_0 l1_1 = some r) ∧ Aside0 (kq ≤ k2) ∧ Aside0 (w'.heap[gb259]? = some (.cells #[.int .i64 a0_0, (.slice (some ad261) l0_1.length c0_1)] 27 (0, 0))) ∧ Aside0 (w'.heap[gb260]? = some (.cells #[.int .i64 a1_0, (.slice (some ad262) l1_1.length c1_1)] 27 (0, 0))) ∧ Aside0 (Below w.heap.size w w'))
               case atStart => exact ⟨(0), rD, H', ⟨Nat.le_refl _⟩, ⟨pB BK259⟩, ⟨pB BK260⟩, ⟨bD HB GE259 GE260⟩⟩
               case round =>
                clear H'
                try clear c13
                try clear c14
                try clear c14b0
                try clear c15
                try clear c15b0
                try clear c16
                try clear c16b0
                try clear c17
                try clear c17b0
                try clear c17b1
                try clear c17b2
                try clear hcz19_0
                try clear hcz19_1
                try clear hfz19_0
                try clear hfz19_1
                try clear hx261_0
                try clear hx262_0
                try clear p261
                try clear p262
                try clear q261
                try clear q262
                obtain ⟨x6_3, rfl, HA, HK3, BK259, BK260, HB⟩ := hrel
                cases gk with
                | zero => exact absurd HA.out (by simp [laws_vNet.l1])
                | succ k3 =>
                 have H := HA.out
                 clear HA
                 simp only [laws_vNet.l1] at H
                 by_cases c21 : 0 ≤ x5_2
                 · rw [if_pos c21] at H
                   have c21b0 : decide (0 ≤ x5_2) = true := decide_eq_true c21
                   clear c21
                   by_cases c22 : x5_2 < (l0_1.length : Int)
                   · rw [if_pos c22] at H
                     have c22b0 : decide (x5_2 < (l0_1.length : Int)) = true := decide_eq_true c22
                     clear c22
                     by_cases c23 : x6_3 < ((rd_L5 l0_1 x5_2).length : Int)
                     · rw [if_pos c23] at H
                       have c23b0 : decide (x6_3 < ((rd_L5 l0_1 x5_2).length : Int)) = true := decide_eq_true c23
                       clear c23
                       by_cases c24 : 0 ≤ x6_3
                       · rw [if_pos c24] at H
                         have c24b0 : decide (0 ≤ x6_3) = true := decide_eq_true c24
                         clear c24
                         by_cases c25 : x5_2 < (l1_1.length : Int)
                         · rw [if_pos c25] at H
                           have c25b0 : decide (x5_2 < (l1_1.length : Int)) = true := decide_eq_true c25
                           clear c25
                           by_cases c26 : x6_3 < ((rd_L5 l1_1 x5_2).length : Int)
                           · rw [if_pos c26] at H
                             have c26b0 : decide (x6_3 < ((rd_L5 l1_1 x5_2).length : Int)) = true := decide_eq_true c26
                             clear c26
                             replace H := Option.bind_eq_some_iff.mp H
                             obtain ⟨t268, A270, H⟩ := H
                             replace H : (if t268 = true then (laws_vNet.l1 k3 x5_2 (wrap64 (x6_3 + 1)) a0_0 l0_1 a1_0 l1_1) else (some false)) = some r := H
                             have A27 := Aside0.mk A270
                             clear A270
                             by_cases c28 : t268 = true
                             · subst c28
                               have H1 : (laws_vNet.l1 k3 x5_2 (wrap64 (x6_3 + 1)) a0_0 l0_1 a1_0 l1_1) = some r := by rw [if_pos rfl] at H; exact H
                               clear H
                               have H := H1
                               clear H1
                               have H' := Aside0.mk H
                               clear H
                               have hnb29 := NB259_260.out
                               have hnc29 := NB260_259.out
                               have hcz30_0 : wr.cell? ⟨gb259, 0, none⟩ = some (.int .i64 a0_0) := (blk_cell BK259.out 0).trans rfl
                               have hcz30_1 : wr.cell? ⟨gb259, 1, none⟩ = some (.slice (some ad261) l0_1.length c0_1) := (blk_cell BK259.out 1).trans rfl
                               have hfz30_0 := blk_frozen BK259.out 0
                               have hfz30_1 := blk_frozen BK259.out 1
                               have p263 : 0 ≤ (x5_2 : Int) := of_decide_eq_true aS
                               have q263 : x5_2 < (l0_1.length : Int) := of_decide_eq_true aS
                               obtain ⟨ad263, A263_0, c263_0, e263, hx263_0, hl263_0, hi263_0⟩ := at_L5 HR0_1.out x5_2 p263 q263
                               obtain rfl : ad261 = ad263 := (by injection e263)
                               replace hx263_0 := (HB.out.cell (World.block_lt_of_cell? w _ hx263_0)).trans hx263_0
                               have HR263_0 := Aside0.mk hi263_0
                               have HC263_0 := Aside0.mk hl263_0
                               clear hi263_0 hl263_0
                               replace p263 := eq_true p263
                               replace q263 := eq_true q263
                               try go_wp2
                               have n0_ := Aside0.mk (blk_drew BK259.out)
                               have n1_ := Aside0.mk (blk_drew BK260.out)
                               have n2_ := Aside0.mk (below_drew1 HB.out)
                               clear BK259
                               clear BK260
                               clear HB
                               have BK259 := n0_
                               have BK260 := n1_
                               have HB := n2_
                               clear n0_ n1_ n2_
                               have p264 : 0 ≤ (x5_2 : Int) := of_decide_eq_true aS
                               have q264 : x5_2 < (l0_1.length : Int) := of_decide_eq_true aS
                               obtain ⟨ad264, A264_0, c264_0, e264, hx264_0, hl264_0, hi264_0⟩ := at_L5 HR0_1.out x5_2 p264 q264
                               have hw264_0 := hx264_0
                               obtain rfl : ad261 = ad264 := (by injection e264)
                               replace hx264_0 := (HB.out.cell (World.block_lt_of_cell? w _ hx264_0)).trans hx264_0
                               have HR264_0 := Aside0.mk hi264_0
                               have HC264_0 := Aside0.mk hl264_0
                               clear hi264_0 hl264_0
                               replace p264 := eq_true p264
                               replace q264 := eq_true q264
                               have p265 : 0 ≤ (x6_3 : Int) := of_decide_eq_true aS
                               have q265 : x6_3 < ((rd_L5 l0_1 x5_2).length : Int) := of_decide_eq_true aS
                               obtain ⟨ad265, A265_0, c265_0, e265, hx265_0, hx265_1, hl265_0, hi265_0⟩ := at_T45 HR264_0.out x6_3 p265 q265
                               have hw265_1 := hx265_1
                               have hw265_0 := hx265_0
                               cases e265
                               replace hx265_0 := (HB.out.cell (World.block_lt_of_cell? w _ hx265_0)).trans hx265_0
                               replace hx265_1 := (HB.out.cell (World.block_lt_of_cell? w _ hx265_1)).trans hx265_1
                               have HR265_0 := Aside0.mk hi265_0
                               have HC265_0 := Aside0.mk hl265_0
                               clear hi265_0 hl265_0
                               replace p265 := eq_true p265
                               replace q265 := eq_true q265
                               have p266 : 0 ≤ (x5_2 : Int) := of_decide_eq_true aS
                               have q266 : x5_2 < (l1_1.length : Int) := of_decide_eq_true aS
                               obtain ⟨ad266, A266_0, c266_0, e266, hx266_0, hl266_0, hi266_0⟩ := at_L5 HR1_1.out x5_2 p266 q266
                               have hw266_0 := hx266_0
                               obtain rfl : ad262 = ad266 := (by injection e266)
                               replace hx266_0 := (HB.out.cell (World.block_lt_of_cell? w _ hx266_0)).trans hx266_0
                               have HR266_0 := Aside0.mk hi266_0
                               have HC266_0 := Aside0.mk hl266_0
                               clear hi266_0 hl266_0
                               replace p266 := eq_true p266
                               replace q266 := eq_true q266
                               have p267 : 0 ≤ (x6_3 : Int) := of_decide_eq_true aS
                               have q267 : x6_3 < ((rd_L5 l1_1 x5_2).length : Int) := of_decide_eq_true aS
                               obtain ⟨ad267, A267_0, c267_0, e267, hx267_0, hx267_1, hl267_0, hi267_0⟩ := at_T45 HR266_0.out x6_3 p267 q267
                               have hw267_1 := hx267_1
                               have hw267_0 := hx267_0
                               cases e267
                               replace hx267_0 := (HB.out.cell (World.block_lt_of_cell? w _ hx267_0)).trans hx267_0
                               replace hx267_1 := (HB.out.cell (World.block_lt_of_cell? w _ hx267_1)).trans hx267_1
                               have HR267_0 := Aside0.mk hi267_0
                               have HC267_0 := Aside0.mk hl267_0
                               clear hi267_0 hl267_0
                               replace p267 := eq_true p267
                               replace q267 := eq_true q267
                               refine start_ (n := 18) (S := fun w' => w'.cell? ⟨gb259, 0, none⟩ = some (.int .i64 a0_0) ∧ w'.cell? ⟨gb259, 1, none⟩ = some (.slice (some ad261) l0_1.length c0_1) ∧ w'.cell? ⟨gb260, 0, none⟩ = some (.int .i64 a1_0) ∧ w'.cell? ⟨gb260, 1, none⟩ = some (.slice (some ad262) l1_1.length c1_1) ∧ w'.cell? (ad261.add (x5_2).toNat) = some (.slice (some ad265) (rd_L5 l0_1 x5_2).length c264_0) ∧ w'.cell? (ad265.add ((x6_3).toNat * 2)) = some (.slice A265_0 ((rd_T45 (rd_L5 l0_1 x5_2) x6_3).f0).length c265_0) ∧ w'.cell? ⟨(ad265.add ((x6_3).toNat * 2)).block, (ad265.add ((x6_3).toNat * 2)).off + 1, none⟩ = some (.int .i64 ((rd_T45 (rd_L5 l0_1 x5_2) x6_3).f1)) ∧ w'.cell? (ad262.add (x5_2).toNat) = some (.slice (some ad267) (rd_L5 l1_1 x5_2).length c266_0) ∧ w'.cell? (ad267.add ((x6_3).toNat * 2)) = some (.slice A267_0 ((rd_T45 (rd_L5 l1_1 x5_2) x6_3).f0).length c267_0) ∧ w'.cell? ⟨(ad267.add ((x6_3).toNat * 2)).block, (ad267.add ((x6_3).toNat * 2)).off + 1, none⟩ = some (.int .i64 ((rd_T45 (rd_L5 l1_1 x5_2) x6_3).f1))) (ds := []) #[false, false, false, false, false, false, false, false, false, false, false, false, false, false, false, false, false, false] (by kernel_rfl) rfl rfl ⟨(blk_cell BK259.out 0).trans rfl, (blk_cell BK259.out 1).trans rfl, (blk_cell BK260.out 0).trans rfl, (blk_cell BK260.out 1).trans rfl, ((HB.out.cell (World.block_lt_of_cell? w _ hw264_0)).trans hw264_0), ((HB.out.cell (World.block_lt_of_cell? w _ hw265_0)).trans hw265_0), ((HB.out.cell (World.block_lt_of_cell? w _ hw265_1)).trans hw265_1), ((HB.out.cell (World.block_lt_of_cell? w _ hw266_0)).trans hw266_0), ((HB.out.cell (World.block_lt_of_cell? w _ hw267_0)).trans hw267_0), ((HB.out.cell (World.block_lt_of_cell? w _ hw267_1)).trans hw267_1)⟩ (fun hHeld => ?_); refine with_tabW laws_vNet.tab11 laws_vNet.bits11 (fun HT_ HW_ => ?_)
                               generalize wr.drew = w31 at BK259 BK260 HB HR264_0 HR265_0 HR266_0 HR267_0 hx264_0 hx265_0 hx265_1 hx266_0 hx267_0 hx267_1 hHeld ⊢
                               refine pure_ (i := 0) (N := some 51) (v := ?_) (a' := ?_) #[true, false, false, false, false, false, false, false, false, false, false, false, false, false, false, false, false, false] rfl rfl (any_of HT_.out (by kernel_rfl)) (fun _ _ _ h => h) (Or.inl ⟨by rfl, ?_⟩) ?_ ?_
                               rotate_left
                               · intro w'
                                 go_simp
                                 with_reducible rfl
                               rotate_left
                               · exact aP
                               refine pure_ (i := 2) (N := some 53) (v := ?_) (a' := ?_) #[true, false, true, false, false, false, false, false, false, false, false, false, false, false, false, false, false, false] rfl rfl (any_of HT_.out (by kernel_rfl)) (fun _ _ _ h => h) (Or.inl ⟨by rfl, ?_⟩) ?_ ?_
                               rotate_left
                               · intro w'
                                 go_simp
                                 with_reducible rfl
                               rotate_left
                               · exact aP
                               refine pure_ (i := 5) (N := some 56) (v := ?_) (a' := ?_) #[true, false, true, false, false, true, false, false, false, false, false, false, false, false, false, false, false, false] rfl rfl (any_of HT_.out (by kernel_rfl)) (fun _ _ _ h => h) (Or.inl ⟨by rfl, ?_⟩) ?_ ?_
                               rotate_left
                               · intro w'
                                 go_simp
                                 with_reducible rfl
                               rotate_left
                               · exact aP
                               refine pure_ (i := 8) (N := some 59) (v := ?_) (a' := ?_) #[true, false, true, false, false, true, false, false, true, false, false, false, false, false, false, false, false, false] rfl rfl (any_of HT_.out (by kernel_rfl)) (fun _ _ _ h => h) (Or.inl ⟨by rfl, ?_⟩) ?_ ?_
                               rotate_left
                               · intro w'
                                 go_simp
                                 with_reducible rfl
                               rotate_left
                               · exact aP
                               refine pure_ (i := 10) (N := some 61) (v := ?_) (a' := ?_) #[true, false, true, false, false, true, false, false, true, false, true, false, false, false, false, false, false, false] rfl rfl (any_of HT_.out (by kernel_rfl)) (fun _ _ _ h => h) (Or.inl ⟨by rfl, ?_⟩) ?_ ?_
                               rotate_left
                               · intro w'
                                 go_simp
                                 with_reducible rfl
                               rotate_left
                               · exact aP
                               refine pure_ (i := 13) (N := some 64) (v := ?_) (a' := ?_) #[true, false, true, false, false, true, false, false, true, false, true, false, false, true, false, false, false, false] rfl rfl (any_of HT_.out (by kernel_rfl)) (fun _ _ _ h => h) (Or.inl ⟨by rfl, ?_⟩) ?_ ?_
                               rotate_left
                               · intro w'
                                 go_simp
                                 with_reducible rfl
                               rotate_left
                               · exact aP
                               refine take_ (i := 1) (N := some 52) (v := ?_) (a' := ?_) #[true, true, true, false, false, true, false, false, true, false, true, false, false, true, false, false, false, false] rfl rfl (take_ofW HT_.out HW_.out (by kernel_rfl)) (fun _ _ _ h => h) (Or.inl ⟨by rfl, ?_⟩) hHeld ?_ ?_
                               rotate_left
                               · rintro w' ⟨s0, s1, s2, s3, s4, s5, s6, s7, s8, s9⟩
                                 go_simp
                                 with_reducible rfl
                               rotate_left
                               · exact aP
                               refine pure_ (i := 3) (N := some 54) (v := ?_) (a' := ?_) #[true, true, true, true, false, true, false, false, true, false, true, false, false, true, false, false, false, false] rfl rfl (any_of HT_.out (by kernel_rfl)) (fun _ _ _ h => h) (Or.inl ⟨by rfl, ?_⟩) ?_ ?_
                               rotate_left
                               · intro w'
                                 go_simp
                                 with_reducible rfl
                               rotate_left
                               · exact aP
                               refine take_ (i := 4) (N := some 55) (v := ?_) (a' := ?_) #[true, true, true, true, true, true, false, false, true, false, true, false, false, true, false, false, false, false] rfl rfl (take_ofW HT_.out HW_.out (by kernel_rfl)) (fun _ _ _ h => h) (Or.inl ⟨by rfl, ?_⟩) hHeld ?_ ?_
                               rotate_left
                               · rintro w' ⟨s0, s1, s2, s3, s4, s5, s6, s7, s8, s9⟩
                                 go_simp
                                 with_reducible rfl
                               rotate_left
                               · exact aP
                               refine pure_ (i := 6) (N := some 57) (v := ?_) (a' := ?_) #[true, true, true, true, true, true, true, false, true, false, true, false, false, true, false, false, false, false] rfl rfl (any_of HT_.out (by kernel_rfl)) (fun _ _ _ h => h) (Or.inl ⟨by rfl, ?_⟩) ?_ ?_
                               rotate_left
                               · intro w'
                                 go_simp
                                 with_reducible rfl
                               rotate_left
                               · exact aP
                               refine take_ (i := 7) (N := some 58) (v := ?_) (a' := ?_) #[true, true, true, true, true, true, true, true, true, false, true, false, false, true, false, false, false, false] rfl rfl (take_ofW HT_.out HW_.out (by kernel_rfl)) (fun _ _ _ h => h) (Or.inl ⟨by rfl, ?_⟩) hHeld ?_ ?_
                               rotate_left
                               · rintro w' ⟨s0, s1, s2, s3, s4, s5, s6, s7, s8, s9⟩
                                 go_simp
                                 with_reducible rfl
                               rotate_left
                               · exact aP
                               refine take_ (i := 9) (N := some 60) (v := ?_) (a' := ?_) #[true, true, true, true, true, true, true, true, true, true, true, false, false, true, false, false, false, false] rfl rfl (take_ofW HT_.out HW_.out (by kernel_rfl)) (fun _ _ _ h => h) (Or.inl ⟨by rfl, ?_⟩) hHeld ?_ ?_
                               rotate_left
                               · rintro w' ⟨s0, s1, s2, s3, s4, s5, s6, s7, s8, s9⟩
                                 go_simp
                                 with_reducible rfl
                               rotate_left
                               · exact aP
                               refine pure_ (i := 11) (N := some 62) (v := ?_) (a' := ?_) #[true, true, true, true, true, true, true, true, true, true, true, true, false, true, false, false, false, false] rfl rfl (any_of HT_.out (by kernel_rfl)) (fun _ _ _ h => h) (Or.inl ⟨by rfl, ?_⟩) ?_ ?_
                               rotate_left
                               · intro w'
                                 go_simp
                                 with_reducible rfl
                               rotate_left
                               · exact aP
                               refine take_ (i := 12) (N := some 63) (v := ?_) (a' := ?_) #[true, true, true, true, true, true, true, true, true, true, true, true, true, true, false, false, false, false] rfl rfl (take_ofW HT_.out HW_.out (by kernel_rfl)) (fun _ _ _ h => h) (Or.inl ⟨by rfl, ?_⟩) hHeld ?_ ?_
                               rotate_left
                               · rintro w' ⟨s0, s1, s2, s3, s4, s5, s6, s7, s8, s9⟩
                                 go_simp
                                 with_reducible rfl
                               rotate_left
                               · exact aP
                               refine pure_ (i := 14) (N := some 65) (v := ?_) (a' := ?_) #[true, true, true, true, true, true, true, true, true, true, true, true, true, true, true, false, false, false] rfl rfl (any_of HT_.out (by kernel_rfl)) (fun _ _ _ h => h) (Or.inl ⟨by rfl, ?_⟩) ?_ ?_
                               rotate_left
                               · intro w'
                                 go_simp
                                 with_reducible rfl
                               rotate_left
                               · exact aP
                               refine take_ (i := 15) (N := some 66) (v := ?_) (a' := ?_) #[true, true, true, true, true, true, true, true, true, true, true, true, true, true, true, true, false, false] rfl rfl (take_ofW HT_.out HW_.out (by kernel_rfl)) (fun _ _ _ h => h) (Or.inl ⟨by rfl, ?_⟩) hHeld ?_ ?_
                               rotate_left
                               · rintro w' ⟨s0, s1, s2, s3, s4, s5, s6, s7, s8, s9⟩
                                 go_simp
                                 with_reducible rfl
                               rotate_left
                               · exact aP
                               refine one_ (i := 16) (N := some 67) #[true, true, true, true, true, true, true, true, true, true, true, true, true, true, true, true, true, false] rfl rfl (one_of HT_.out (by kernel_rfl)) (by decide) (fun K hK => ?_)
                               refine goes_ Try.func22 (by kernel_rfl) rfl #[.agg #[.slice A265_0 ((rd_T45 (rd_L5 l0_1 x5_2) x6_3).f0).length c265_0, .int .i64 ((rd_T45 (rd_L5 l0_1 x5_2) x6_3).f1)], .agg #[.slice A267_0 ((rd_T45 (rd_L5 l1_1 x5_2) x6_3).f0).length c267_0, .int .i64 ((rd_T45 (rd_L5 l1_1 x5_2) x6_3).f1)]] (by rfl) rfl rfl aT ?_
                               with_reducible refine (laws_vPlane.calls k3 _ _ ((rd_T45 (rd_L5 l0_1 x5_2) x6_3).f0) ((rd_T45 (rd_L5 l0_1 x5_2) x6_3).f1) _ _ ((rd_T45 (rd_L5 l1_1 x5_2) x6_3).f0) ((rd_T45 (rd_L5 l1_1 x5_2) x6_3).f1) true _ ?side1 ?side2 ?side3 ?side4 A27.out).mono ?_
                               (case side1 => exact cB HR265_0 HB)
                               (case side2 => exact HC265_0.out)
                               (case side3 => exact cB HR267_0 HB)
                               (case side4 => exact HC267_0.out)
                               rintro e w32 ⟨rfl, hb⟩
                               refine ⟨_, rfl, ?_⟩
                               have n0_ := Aside0.mk (bW BK259 hb)
                               have n1_ := Aside0.mk (bW BK260 hb)
                               have n2_ := Aside0.mk (below_step (bD HB GE259 GE260) hb)
                               clear BK259
                               clear BK260
                               clear HB
                               have BK259 := n0_
                               have BK260 := n1_
                               have HB := n2_
                               clear n0_ n1_ n2_
                               (try clear hb)
                               (try clear hb2)
                               (try clear hk)
                               (try clear hi)
                               refine hK.out _ _ ⟨(blk_cell BK259.out 0).trans rfl, (blk_cell BK259.out 1).trans rfl, (blk_cell BK260.out 0).trans rfl, (blk_cell BK260.out 1).trans rfl, ((HB.out.cell (World.block_lt_of_cell? w _ hw264_0)).trans hw264_0), ((HB.out.cell (World.block_lt_of_cell? w _ hw265_0)).trans hw265_0), ((HB.out.cell (World.block_lt_of_cell? w _ hw265_1)).trans hw265_1), ((HB.out.cell (World.block_lt_of_cell? w _ hw266_0)).trans hw266_0), ((HB.out.cell (World.block_lt_of_cell? w _ hw267_0)).trans hw267_0), ((HB.out.cell (World.block_lt_of_cell? w _ hw267_1)).trans hw267_1)⟩ (fun hHeld => ?_)
                               clear hK K
                               refine norm_ (a' := ?_) ?_ ?_
                               rotate_left
                               · show Act.put _ (some 67) _ = _
                                 simp only [Act.put, List.setIfInBounds_toArray, List.set_cons_zero, List.set_cons_succ, i64_w, i32_w]
                                 rfl
                               refine pure_ (i := 17) (N := some 68) (v := ?_) (a' := ?_) #[true, true, true, true, true, true, true, true, true, true, true, true, true, true, true, true, true, true] rfl rfl (any_of HT_.out (by kernel_rfl)) (fun _ _ _ h => h) (Or.inl ⟨by rfl, ?_⟩) ?_ ?_
                               rotate_left
                               · intro w'
                                 go_simp
                                 with_reducible rfl
                               rotate_left
                               · exact aP
                               refine done_ (done_of HT_.out (by kernel_rfl)) ?_
                               try go_wp2
                               go_roundg k3
                               case measure => have := HJ2.out; have := HK2.out; have := HK3.out; omega
                               case rel => exact ⟨(wrap64 (x6_3 + 1)), rD, H', ⟨by have := HJ2.out; have := HK2.out; have := HK3.out; omega⟩, ⟨pB BK259⟩, ⟨pB BK260⟩, ⟨bD HB GE259 GE260⟩⟩
                             · replace c28 := Bool.eq_false_iff.mpr c28
                               subst c28
                               have H1 : (some false) = some r := by rw [if_neg (show ¬ (false = true) by decide)] at H; exact H
                               clear H
                               have H := H1
                               clear H1
                               obtain rfl := Option.some.inj H
                               have hnb33 := NB259_260.out
                               have hnc33 := NB260_259.out
                               have hcz34_0 : wr.cell? ⟨gb259, 0, none⟩ = some (.int .i64 a0_0) := (blk_cell BK259.out 0).trans rfl
                               have hcz34_1 : wr.cell? ⟨gb259, 1, none⟩ = some (.slice (some ad261) l0_1.length c0_1) := (blk_cell BK259.out 1).trans rfl
                               have hfz34_0 := blk_frozen BK259.out 0
                               have hfz34_1 := blk_frozen BK259.out 1
                               have p263 : 0 ≤ (x5_2 : Int) := of_decide_eq_true aS
                               have q263 : x5_2 < (l0_1.length : Int) := of_decide_eq_true aS
                               obtain ⟨ad263, A263_0, c263_0, e263, hx263_0, hl263_0, hi263_0⟩ := at_L5 HR0_1.out x5_2 p263 q263
                               obtain rfl : ad261 = ad263 := (by injection e263)
                               replace hx263_0 := (HB.out.cell (World.block_lt_of_cell? w _ hx263_0)).trans hx263_0
                               have HR263_0 := Aside0.mk hi263_0
                               have HC263_0 := Aside0.mk hl263_0
                               clear hi263_0 hl263_0
                               replace p263 := eq_true p263
                               replace q263 := eq_true q263
                               try go_wp2
                               have n0_ := Aside0.mk (blk_drew BK259.out)
                               have n1_ := Aside0.mk (blk_drew BK260.out)
                               have n2_ := Aside0.mk (below_drew1 HB.out)
                               clear BK259
                               clear BK260
                               clear HB
                               have BK259 := n0_
                               have BK260 := n1_
                               have HB := n2_
                               clear n0_ n1_ n2_
                               have p264 : 0 ≤ (x5_2 : Int) := of_decide_eq_true aS
                               have q264 : x5_2 < (l0_1.length : Int) := of_decide_eq_true aS
                               obtain ⟨ad264, A264_0, c264_0, e264, hx264_0, hl264_0, hi264_0⟩ := at_L5 HR0_1.out x5_2 p264 q264
                               have hw264_0 := hx264_0
                               obtain rfl : ad261 = ad264 := (by injection e264)
                               replace hx264_0 := (HB.out.cell (World.block_lt_of_cell? w _ hx264_0)).trans hx264_0
                               have HR264_0 := Aside0.mk hi264_0
                               have HC264_0 := Aside0.mk hl264_0
                               clear hi264_0 hl264_0
                               replace p264 := eq_true p264
                               replace q264 := eq_true q264
                               have p265 : 0 ≤ (x6_3 : Int) := of_decide_eq_true aS
                               have q265 : x6_3 < ((rd_L5 l0_1 x5_2).length : Int) := of_decide_eq_true aS
                               obtain ⟨ad265, A265_0, c265_0, e265, hx265_0, hx265_1, hl265_0, hi265_0⟩ := at_T45 HR264_0.out x6_3 p265 q265
                               have hw265_1 := hx265_1
                               have hw265_0 := hx265_0
                               cases e265
                               replace hx265_0 := (HB.out.cell (World.block_lt_of_cell? w _ hx265_0)).trans hx265_0
                               replace hx265_1 := (HB.out.cell (World.block_lt_of_cell? w _ hx265_1)).trans hx265_1
                               have HR265_0 := Aside0.mk hi265_0
                               have HC265_0 := Aside0.mk hl265_0
                               clear hi265_0 hl265_0
                               replace p265 := eq_true p265
                               replace q265 := eq_true q265
                               have p266 : 0 ≤ (x5_2 : Int) := of_decide_eq_true aS
                               have q266 : x5_2 < (l1_1.length : Int) := of_decide_eq_true aS
                               obtain ⟨ad266, A266_0, c266_0, e266, hx266_0, hl266_0, hi266_0⟩ := at_L5 HR1_1.out x5_2 p266 q266
                               have hw266_0 := hx266_0
                               obtain rfl : ad262 = ad266 := (by injection e266)
                               replace hx266_0 := (HB.out.cell (World.block_lt_of_cell? w _ hx266_0)).trans hx266_0
                               have HR266_0 := Aside0.mk hi266_0
                               have HC266_0 := Aside0.mk hl266_0
                               clear hi266_0 hl266_0
                               replace p266 := eq_true p266
                               replace q266 := eq_true q266
                               have p267 : 0 ≤ (x6_3 : Int) := of_decide_eq_true aS
                               have q267 : x6_3 < ((rd_L5 l1_1 x5_2).length : Int) := of_decide_eq_true aS
                               obtain ⟨ad267, A267_0, c267_0, e267, hx267_0, hx267_1, hl267_0, hi267_0⟩ := at_T45 HR266_0.out x6_3 p267 q267
                               have hw267_1 := hx267_1
                               have hw267_0 := hx267_0
                               cases e267
                               replace hx267_0 := (HB.out.cell (World.block_lt_of_cell? w _ hx267_0)).trans hx267_0
                               replace hx267_1 := (HB.out.cell (World.block_lt_of_cell? w _ hx267_1)).trans hx267_1
                               have HR267_0 := Aside0.mk hi267_0
                               have HC267_0 := Aside0.mk hl267_0
                               clear hi267_0 hl267_0
                               replace p267 := eq_true p267
                               replace q267 := eq_true q267
                               refine start_ (n := 18) (S := fun w' => w'.cell? ⟨gb259, 0, none⟩ = some (.int .i64 a0_0) ∧ w'.cell? ⟨gb259, 1, none⟩ = some (.slice (some ad261) l0_1.length c0_1) ∧ w'.cell? ⟨gb260, 0, none⟩ = some (.int .i64 a1_0) ∧ w'.cell? ⟨gb260, 1, none⟩ = some (.slice (some ad262) l1_1.length c1_1) ∧ w'.cell? (ad261.add (x5_2).toNat) = some (.slice (some ad265) (rd_L5 l0_1 x5_2).length c264_0) ∧ w'.cell? (ad265.add ((x6_3).toNat * 2)) = some (.slice A265_0 ((rd_T45 (rd_L5 l0_1 x5_2) x6_3).f0).length c265_0) ∧ w'.cell? ⟨(ad265.add ((x6_3).toNat * 2)).block, (ad265.add ((x6_3).toNat * 2)).off + 1, none⟩ = some (.int .i64 ((rd_T45 (rd_L5 l0_1 x5_2) x6_3).f1)) ∧ w'.cell? (ad262.add (x5_2).toNat) = some (.slice (some ad267) (rd_L5 l1_1 x5_2).length c266_0) ∧ w'.cell? (ad267.add ((x6_3).toNat * 2)) = some (.slice A267_0 ((rd_T45 (rd_L5 l1_1 x5_2) x6_3).f0).length c267_0) ∧ w'.cell? ⟨(ad267.add ((x6_3).toNat * 2)).block, (ad267.add ((x6_3).toNat * 2)).off + 1, none⟩ = some (.int .i64 ((rd_T45 (rd_L5 l1_1 x5_2) x6_3).f1))) (ds := []) #[false, false, false, false, false, false, false, false, false, false, false, false, false, false, false, false, false, false] (by kernel_rfl) rfl rfl ⟨(blk_cell BK259.out 0).trans rfl, (blk_cell BK259.out 1).trans rfl, (blk_cell BK260.out 0).trans rfl, (blk_cell BK260.out 1).trans rfl, ((HB.out.cell (World.block_lt_of_cell? w _ hw264_0)).trans hw264_0), ((HB.out.cell (World.block_lt_of_cell? w _ hw265_0)).trans hw265_0), ((HB.out.cell (World.block_lt_of_cell? w _ hw265_1)).trans hw265_1), ((HB.out.cell (World.block_lt_of_cell? w _ hw266_0)).trans hw266_0), ((HB.out.cell (World.block_lt_of_cell? w _ hw267_0)).trans hw267_0), ((HB.out.cell (World.block_lt_of_cell? w _ hw267_1)).trans hw267_1)⟩ (fun hHeld => ?_); refine with_tabW laws_vNet.tab11 laws_vNet.bits11 (fun HT_ HW_ => ?_)
                               generalize wr.drew = w35 at BK259 BK260 HB HR264_0 HR265_0 HR266_0 HR267_0 hx264_0 hx265_0 hx265_1 hx266_0 hx267_0 hx267_1 hHeld ⊢
                               refine pure_ (i := 0) (N := some 51) (v := ?_) (a' := ?_) #[true, false, false, false, false, false, false, false, false, false, false, false, false, false, false, false, false, false] rfl rfl (any_of HT_.out (by kernel_rfl)) (fun _ _ _ h => h) (Or.inl ⟨by rfl, ?_⟩) ?_ ?_
                               rotate_left
                               · intro w'
                                 go_simp
                                 with_reducible rfl
                               rotate_left
                               · exact aP
                               refine pure_ (i := 2) (N := some 53) (v := ?_) (a' := ?_) #[true, false, true, false, false, false, false, false, false, false, false, false, false, false, false, false, false, false] rfl rfl (any_of HT_.out (by kernel_rfl)) (fun _ _ _ h => h) (Or.inl ⟨by rfl, ?_⟩) ?_ ?_
                               rotate_left
                               · intro w'
                                 go_simp
                                 with_reducible rfl
                               rotate_left
                               · exact aP
                               refine pure_ (i := 5) (N := some 56) (v := ?_) (a' := ?_) #[true, false, true, false, false, true, false, false, false, false, false, false, false, false, false, false, false, false] rfl rfl (any_of HT_.out (by kernel_rfl)) (fun _ _ _ h => h) (Or.inl ⟨by rfl, ?_⟩) ?_ ?_
                               rotate_left
                               · intro w'
                                 go_simp
                                 with_reducible rfl
                               rotate_left
                               · exact aP
                               refine pure_ (i := 8) (N := some 59) (v := ?_) (a' := ?_) #[true, false, true, false, false, true, false, false, true, false, false, false, false, false, false, false, false, false] rfl rfl (any_of HT_.out (by kernel_rfl)) (fun _ _ _ h => h) (Or.inl ⟨by rfl, ?_⟩) ?_ ?_
                               rotate_left
                               · intro w'
                                 go_simp
                                 with_reducible rfl
                               rotate_left
                               · exact aP
                               refine pure_ (i := 10) (N := some 61) (v := ?_) (a' := ?_) #[true, false, true, false, false, true, false, false, true, false, true, false, false, false, false, false, false, false] rfl rfl (any_of HT_.out (by kernel_rfl)) (fun _ _ _ h => h) (Or.inl ⟨by rfl, ?_⟩) ?_ ?_
                               rotate_left
                               · intro w'
                                 go_simp
                                 with_reducible rfl
                               rotate_left
                               · exact aP
                               refine pure_ (i := 13) (N := some 64) (v := ?_) (a' := ?_) #[true, false, true, false, false, true, false, false, true, false, true, false, false, true, false, false, false, false] rfl rfl (any_of HT_.out (by kernel_rfl)) (fun _ _ _ h => h) (Or.inl ⟨by rfl, ?_⟩) ?_ ?_
                               rotate_left
                               · intro w'
                                 go_simp
                                 with_reducible rfl
                               rotate_left
                               · exact aP
                               refine take_ (i := 1) (N := some 52) (v := ?_) (a' := ?_) #[true, true, true, false, false, true, false, false, true, false, true, false, false, true, false, false, false, false] rfl rfl (take_ofW HT_.out HW_.out (by kernel_rfl)) (fun _ _ _ h => h) (Or.inl ⟨by rfl, ?_⟩) hHeld ?_ ?_
                               rotate_left
                               · rintro w' ⟨s0, s1, s2, s3, s4, s5, s6, s7, s8, s9⟩
                                 go_simp
                                 with_reducible rfl
                               rotate_left
                               · exact aP
                               refine pure_ (i := 3) (N := some 54) (v := ?_) (a' := ?_) #[true, true, true, true, false, true, false, false, true, false, true, false, false, true, false, false, false, false] rfl rfl (any_of HT_.out (by kernel_rfl)) (fun _ _ _ h => h) (Or.inl ⟨by rfl, ?_⟩) ?_ ?_
                               rotate_left
                               · intro w'
                                 go_simp
                                 with_reducible rfl
                               rotate_left
                               · exact aP
                               refine take_ (i := 4) (N := some 55) (v := ?_) (a' := ?_) #[true, true, true, true, true, true, false, false, true, false, true, false, false, true, false, false, false, false] rfl rfl (take_ofW HT_.out HW_.out (by kernel_rfl)) (fun _ _ _ h => h) (Or.inl ⟨by rfl, ?_⟩) hHeld ?_ ?_
                               rotate_left
                               · rintro w' ⟨s0, s1, s2, s3, s4, s5, s6, s7, s8, s9⟩
                                 go_simp
                                 with_reducible rfl
                               rotate_left
                               · exact aP
                               refine pure_ (i := 6) (N := some 57) (v := ?_) (a' := ?_) #[true, true, true, true, true, true, true, false, true, false, true, false, false, true, false, false, false, false] rfl rfl (any_of HT_.out (by kernel_rfl)) (fun _ _ _ h => h) (Or.inl ⟨by rfl, ?_⟩) ?_ ?_
                               rotate_left
                               · intro w'
                                 go_simp
                                 with_reducible rfl
                               rotate_left
                               · exact aP
                               refine take_ (i := 7) (N := some 58) (v := ?_) (a' := ?_) #[true, true, true, true, true, true, true, true, true, false, true, false, false, true, false, false, false, false] rfl rfl (take_ofW HT_.out HW_.out (by kernel_rfl)) (fun _ _ _ h => h) (Or.inl ⟨by rfl, ?_⟩) hHeld ?_ ?_
                               rotate_left
                               · rintro w' ⟨s0, s1, s2, s3, s4, s5, s6, s7, s8, s9⟩
                                 go_simp
                                 with_reducible rfl
                               rotate_left
                               · exact aP
                               refine take_ (i := 9) (N := some 60) (v := ?_) (a' := ?_) #[true, true, true, true, true, true, true, true, true, true, true, false, false, true, false, false, false, false] rfl rfl (take_ofW HT_.out HW_.out (by kernel_rfl)) (fun _ _ _ h => h) (Or.inl ⟨by rfl, ?_⟩) hHeld ?_ ?_
                               rotate_left
                               · rintro w' ⟨s0, s1, s2, s3, s4, s5, s6, s7, s8, s9⟩
                                 go_simp
                                 with_reducible rfl
                               rotate_left
                               · exact aP
                               refine pure_ (i := 11) (N := some 62) (v := ?_) (a' := ?_) #[true, true, true, true, true, true, true, true, true, true, true, true, false, true, false, false, false, false] rfl rfl (any_of HT_.out (by kernel_rfl)) (fun _ _ _ h => h) (Or.inl ⟨by rfl, ?_⟩) ?_ ?_
                               rotate_left
                               · intro w'
                                 go_simp
                                 with_reducible rfl
                               rotate_left
                               · exact aP
                               refine take_ (i := 12) (N := some 63) (v := ?_) (a' := ?_) #[true, true, true, true, true, true, true, true, true, true, true, true, true, true, false, false, false, false] rfl rfl (take_ofW HT_.out HW_.out (by kernel_rfl)) (fun _ _ _ h => h) (Or.inl ⟨by rfl, ?_⟩) hHeld ?_ ?_
                               rotate_left
                               · rintro w' ⟨s0, s1, s2, s3, s4, s5, s6, s7, s8, s9⟩
                                 go_simp
                                 with_reducible rfl
                               rotate_left
                               · exact aP
                               refine pure_ (i := 14) (N := some 65) (v := ?_) (a' := ?_) #[true, true, true, true, true, true, true, true, true, true, true, true, true, true, true, false, false, false] rfl rfl (any_of HT_.out (by kernel_rfl)) (fun _ _ _ h => h) (Or.inl ⟨by rfl, ?_⟩) ?_ ?_
                               rotate_left
                               · intro w'
                                 go_simp
                                 with_reducible rfl
                               rotate_left
                               · exact aP
                               refine take_ (i := 15) (N := some 66) (v := ?_) (a' := ?_) #[true, true, true, true, true, true, true, true, true, true, true, true, true, true, true, true, false, false] rfl rfl (take_ofW HT_.out HW_.out (by kernel_rfl)) (fun _ _ _ h => h) (Or.inl ⟨by rfl, ?_⟩) hHeld ?_ ?_
                               rotate_left
                               · rintro w' ⟨s0, s1, s2, s3, s4, s5, s6, s7, s8, s9⟩
                                 go_simp
                                 with_reducible rfl
                               rotate_left
                               · exact aP
                               refine one_ (i := 16) (N := some 67) #[true, true, true, true, true, true, true, true, true, true, true, true, true, true, true, true, true, false] rfl rfl (one_of HT_.out (by kernel_rfl)) (by decide) (fun K hK => ?_)
                               refine goes_ Try.func22 (by kernel_rfl) rfl #[.agg #[.slice A265_0 ((rd_T45 (rd_L5 l0_1 x5_2) x6_3).f0).length c265_0, .int .i64 ((rd_T45 (rd_L5 l0_1 x5_2) x6_3).f1)], .agg #[.slice A267_0 ((rd_T45 (rd_L5 l1_1 x5_2) x6_3).f0).length c267_0, .int .i64 ((rd_T45 (rd_L5 l1_1 x5_2) x6_3).f1)]] (by rfl) rfl rfl aT ?_
                               with_reducible refine (laws_vPlane.calls k3 _ _ ((rd_T45 (rd_L5 l0_1 x5_2) x6_3).f0) ((rd_T45 (rd_L5 l0_1 x5_2) x6_3).f1) _ _ ((rd_T45 (rd_L5 l1_1 x5_2) x6_3).f0) ((rd_T45 (rd_L5 l1_1 x5_2) x6_3).f1) false _ ?side1 ?side2 ?side3 ?side4 A27.out).mono ?_
                               (case side1 => exact cB HR265_0 HB)
                               (case side2 => exact HC265_0.out)
                               (case side3 => exact cB HR267_0 HB)
                               (case side4 => exact HC267_0.out)
                               rintro e w36 ⟨rfl, hb⟩
                               refine ⟨_, rfl, ?_⟩
                               have n0_ := Aside0.mk (bW BK259 hb)
                               have n1_ := Aside0.mk (bW BK260 hb)
                               have n2_ := Aside0.mk (below_step (bD HB GE259 GE260) hb)
                               clear BK259
                               clear BK260
                               clear HB
                               have BK259 := n0_
                               have BK260 := n1_
                               have HB := n2_
                               clear n0_ n1_ n2_
                               (try clear hb)
                               (try clear hb2)
                               (try clear hk)
                               (try clear hi)
                               refine hK.out _ _ ⟨(blk_cell BK259.out 0).trans rfl, (blk_cell BK259.out 1).trans rfl, (blk_cell BK260.out 0).trans rfl, (blk_cell BK260.out 1).trans rfl, ((HB.out.cell (World.block_lt_of_cell? w _ hw264_0)).trans hw264_0), ((HB.out.cell (World.block_lt_of_cell? w _ hw265_0)).trans hw265_0), ((HB.out.cell (World.block_lt_of_cell? w _ hw265_1)).trans hw265_1), ((HB.out.cell (World.block_lt_of_cell? w _ hw266_0)).trans hw266_0), ((HB.out.cell (World.block_lt_of_cell? w _ hw267_0)).trans hw267_0), ((HB.out.cell (World.block_lt_of_cell? w _ hw267_1)).trans hw267_1)⟩ (fun hHeld => ?_)
                               clear hK K
                               refine norm_ (a' := ?_) ?_ ?_
                               rotate_left
                               · show Act.put _ (some 67) _ = _
                                 simp only [Act.put, List.setIfInBounds_toArray, List.set_cons_zero, List.set_cons_succ, i64_w, i32_w]
                                 rfl
                               refine pure_ (i := 17) (N := some 68) (v := ?_) (a' := ?_) #[true, true, true, true, true, true, true, true, true, true, true, true, true, true, true, true, true, true] rfl rfl (any_of HT_.out (by kernel_rfl)) (fun _ _ _ h => h) (Or.inl ⟨by rfl, ?_⟩) ?_ ?_
                               rotate_left
                               · intro w'
                                 go_simp
                                 with_reducible rfl
                               rotate_left
                               · exact aP
                               refine done_ (done_of HT_.out (by kernel_rfl)) ?_
                               try go_wp2
                               go_ret
                               exact ⟨eW, bD HB GE259 GE260⟩
                           · rw [if_neg c26] at H
                             exact absurd H (by simp)
                         · rw [if_neg c25] at H
                           exact absurd H (by simp)
                       · rw [if_neg c24] at H
                         exact absurd H (by simp)
                     · rw [if_neg c23] at H
                       have c23b0 : decide (x6_3 < ((rd_L5 l0_1 x5_2).length : Int)) = false := decide_eq_false c23
                       clear c23
                       have H' := Aside0.mk H
                       clear H
                       have hnb37 := NB259_260.out
                       have hnc37 := NB260_259.out
                       have hcz38_0 : wr.cell? ⟨gb259, 0, none⟩ = some (.int .i64 a0_0) := (blk_cell BK259.out 0).trans rfl
                       have hcz38_1 : wr.cell? ⟨gb259, 1, none⟩ = some (.slice (some ad261) l0_1.length c0_1) := (blk_cell BK259.out 1).trans rfl
                       have hfz38_0 := blk_frozen BK259.out 0
                       have hfz38_1 := blk_frozen BK259.out 1
                       have p263 : 0 ≤ (x5_2 : Int) := of_decide_eq_true aS
                       have q263 : x5_2 < (l0_1.length : Int) := of_decide_eq_true aS
                       obtain ⟨ad263, A263_0, c263_0, e263, hx263_0, hl263_0, hi263_0⟩ := at_L5 HR0_1.out x5_2 p263 q263
                       obtain rfl : ad261 = ad263 := (by injection e263)
                       replace hx263_0 := (HB.out.cell (World.block_lt_of_cell? w _ hx263_0)).trans hx263_0
                       have HR263_0 := Aside0.mk hi263_0
                       have HC263_0 := Aside0.mk hl263_0
                       clear hi263_0 hl263_0
                       replace p263 := eq_true p263
                       replace q263 := eq_true q263
                       go_wp2
                       go_roundg k3
                       case measure => have := HJ2.out; have := HK2.out; have := HK3.out; omega
                       case rel => exact ⟨(wrap64 (x5_2 + 1)), rD, H', ⟨by have := HJ2.out; have := HK2.out; have := HK3.out; omega⟩, ⟨pB BK259⟩, ⟨pB BK260⟩, ⟨bD HB GE259 GE260⟩⟩
                   · rw [if_neg c22] at H
                     exact absurd H (by simp)
                 · rw [if_neg c21] at H
                   exact absurd H (by simp)
             · rw [if_neg c17] at H
               have c17b0 : (((rd_L5 l0_1 x5_2).length : Int) == ((rd_L5 l1_1 x5_2).length : Int)) = false := beq_eq_false_iff_ne.mpr c17
               have c17b1 : (((rd_L5 l0_1 x5_2).length : Int) != ((rd_L5 l1_1 x5_2).length : Int)) = true := bne_iff_ne.mpr c17
               have c17b2 : ((rd_L5 l0_1 x5_2).length == (rd_L5 l1_1 x5_2).length) = false := by first | simpa using c17 | (simp at c17 ⊢; omega)
               obtain rfl := Option.some.inj H
               have hnb39 := NB259_260.out
               have hnc39 := NB260_259.out
               have hcz40_0 : wr.cell? ⟨gb259, 0, none⟩ = some (.int .i64 a0_0) := (blk_cell BK259.out 0).trans rfl
               have hcz40_1 : wr.cell? ⟨gb259, 1, none⟩ = some (.slice A0_1 l0_1.length c0_1) := (blk_cell BK259.out 1).trans rfl
               have hfz40_0 := blk_frozen BK259.out 0
               have hfz40_1 := blk_frozen BK259.out 1
               try go_wp2
               have n0_ := Aside0.mk (blk_drew BK259.out)
               have n1_ := Aside0.mk (blk_drew BK260.out)
               have n2_ := Aside0.mk (below_drew1 HB.out)
               clear BK259
               clear BK260
               clear HB
               have BK259 := n0_
               have BK260 := n1_
               have HB := n2_
               clear n0_ n1_ n2_
               have p261 : 0 ≤ (x5_2 : Int) := of_decide_eq_true aS
               have q261 : x5_2 < (l0_1.length : Int) := of_decide_eq_true aS
               obtain ⟨ad261, A261_0, c261_0, e261, hx261_0, hl261_0, hi261_0⟩ := at_L5 HR0_1.out x5_2 p261 q261
               have hw261_0 := hx261_0
               cases e261
               replace hx261_0 := (HB.out.cell (World.block_lt_of_cell? w _ hx261_0)).trans hx261_0
               have HR261_0 := Aside0.mk hi261_0
               have HC261_0 := Aside0.mk hl261_0
               clear hi261_0 hl261_0
               replace p261 := eq_true p261
               replace q261 := eq_true q261
               have p262 : 0 ≤ (x5_2 : Int) := of_decide_eq_true aS
               have q262 : x5_2 < (l1_1.length : Int) := of_decide_eq_true aS
               obtain ⟨ad262, A262_0, c262_0, e262, hx262_0, hl262_0, hi262_0⟩ := at_L5 HR1_1.out x5_2 p262 q262
               have hw262_0 := hx262_0
               cases e262
               replace hx262_0 := (HB.out.cell (World.block_lt_of_cell? w _ hx262_0)).trans hx262_0
               have HR262_0 := Aside0.mk hi262_0
               have HC262_0 := Aside0.mk hl262_0
               clear hi262_0 hl262_0
               replace p262 := eq_true p262
               replace q262 := eq_true q262
               refine start_ (n := 13) (S := fun w' => w'.cell? ⟨gb259, 0, none⟩ = some (.int .i64 a0_0) ∧ w'.cell? ⟨gb259, 1, none⟩ = some (.slice (some ad261) l0_1.length c0_1) ∧ w'.cell? ⟨gb260, 0, none⟩ = some (.int .i64 a1_0) ∧ w'.cell? ⟨gb260, 1, none⟩ = some (.slice (some ad262) l1_1.length c1_1) ∧ w'.cell? (ad261.add (x5_2).toNat) = some (.slice A261_0 (rd_L5 l0_1 x5_2).length c261_0) ∧ w'.cell? (ad262.add (x5_2).toNat) = some (.slice A262_0 (rd_L5 l1_1 x5_2).length c262_0)) (ds := []) #[false, false, false, false, false, false, false, false, false, false, false, false, false] (by kernel_rfl) rfl rfl ⟨(blk_cell BK259.out 0).trans rfl, (blk_cell BK259.out 1).trans rfl, (blk_cell BK260.out 0).trans rfl, (blk_cell BK260.out 1).trans rfl, ((HB.out.cell (World.block_lt_of_cell? w _ hw261_0)).trans hw261_0), ((HB.out.cell (World.block_lt_of_cell? w _ hw262_0)).trans hw262_0)⟩ (fun hHeld => ?_); refine with_tabW laws_vNet.tab6 laws_vNet.bits6 (fun HT_ HW_ => ?_)
               generalize wr.drew = w41 at BK259 BK260 HB HR261_0 HR262_0 hx261_0 hx262_0 hHeld ⊢
               refine pure_ (i := 0) (N := some 28) (v := ?_) (a' := ?_) #[true, false, false, false, false, false, false, false, false, false, false, false, false] rfl rfl (any_of HT_.out (by kernel_rfl)) (fun _ _ _ h => h) (Or.inl ⟨by rfl, ?_⟩) ?_ ?_
               rotate_left
               · intro w'
                 go_simp
                 with_reducible rfl
               rotate_left
               · exact aP
               refine pure_ (i := 2) (N := some 30) (v := ?_) (a' := ?_) #[true, false, true, false, false, false, false, false, false, false, false, false, false] rfl rfl (any_of HT_.out (by kernel_rfl)) (fun _ _ _ h => h) (Or.inl ⟨by rfl, ?_⟩) ?_ ?_
               rotate_left
               · intro w'
                 go_simp
                 with_reducible rfl
               rotate_left
               · exact aP
               refine pure_ (i := 6) (N := some 34) (v := ?_) (a' := ?_) #[true, false, true, false, false, false, true, false, false, false, false, false, false] rfl rfl (any_of HT_.out (by kernel_rfl)) (fun _ _ _ h => h) (Or.inl ⟨by rfl, ?_⟩) ?_ ?_
               rotate_left
               · intro w'
                 go_simp
                 with_reducible rfl
               rotate_left
               · exact aP
               refine pure_ (i := 8) (N := some 36) (v := ?_) (a' := ?_) #[true, false, true, false, false, false, true, false, true, false, false, false, false] rfl rfl (any_of HT_.out (by kernel_rfl)) (fun _ _ _ h => h) (Or.inl ⟨by rfl, ?_⟩) ?_ ?_
               rotate_left
               · intro w'
                 go_simp
                 with_reducible rfl
               rotate_left
               · exact aP
               refine take_ (i := 1) (N := some 29) (v := ?_) (a' := ?_) #[true, true, true, false, false, false, true, false, true, false, false, false, false] rfl rfl (take_ofW HT_.out HW_.out (by kernel_rfl)) (fun _ _ _ h => h) (Or.inl ⟨by rfl, ?_⟩) hHeld ?_ ?_
               rotate_left
               · rintro w' ⟨s0, s1, s2, s3, s4, s5⟩
                 go_simp
                 with_reducible rfl
               rotate_left
               · exact aP
               refine pure_ (i := 3) (N := some 31) (v := ?_) (a' := ?_) #[true, true, true, true, false, false, true, false, true, false, false, false, false] rfl rfl (any_of HT_.out (by kernel_rfl)) (fun _ _ _ h => h) (Or.inl ⟨by rfl, ?_⟩) ?_ ?_
               rotate_left
               · intro w'
                 go_simp
                 with_reducible rfl
               rotate_left
               · exact aP
               refine take_ (i := 4) (N := some 32) (v := ?_) (a' := ?_) #[true, true, true, true, true, false, true, false, true, false, false, false, false] rfl rfl (take_ofW HT_.out HW_.out (by kernel_rfl)) (fun _ _ _ h => h) (Or.inl ⟨by rfl, ?_⟩) hHeld ?_ ?_
               rotate_left
               · rintro w' ⟨s0, s1, s2, s3, s4, s5⟩
                 go_simp
                 with_reducible rfl
               rotate_left
               · exact aP
               refine pure_ (i := 5) (N := some 33) (v := ?_) (a' := ?_) #[true, true, true, true, true, true, true, false, true, false, false, false, false] rfl rfl (any_of HT_.out (by kernel_rfl)) (fun _ _ _ h => h) (Or.inl ⟨by rfl, ?_⟩) ?_ ?_
               rotate_left
               · intro w'
                 go_simp
                 with_reducible rfl
               rotate_left
               · exact aP
               refine take_ (i := 7) (N := some 35) (v := ?_) (a' := ?_) #[true, true, true, true, true, true, true, true, true, false, false, false, false] rfl rfl (take_ofW HT_.out HW_.out (by kernel_rfl)) (fun _ _ _ h => h) (Or.inl ⟨by rfl, ?_⟩) hHeld ?_ ?_
               rotate_left
               · rintro w' ⟨s0, s1, s2, s3, s4, s5⟩
                 go_simp
                 with_reducible rfl
               rotate_left
               · exact aP
               refine pure_ (i := 9) (N := some 37) (v := ?_) (a' := ?_) #[true, true, true, true, true, true, true, true, true, true, false, false, false] rfl rfl (any_of HT_.out (by kernel_rfl)) (fun _ _ _ h => h) (Or.inl ⟨by rfl, ?_⟩) ?_ ?_
               rotate_left
               · intro w'
                 go_simp
                 with_reducible rfl
               rotate_left
               · exact aP
               refine take_ (i := 10) (N := some 38) (v := ?_) (a' := ?_) #[true, true, true, true, true, true, true, true, true, true, true, false, false] rfl rfl (take_ofW HT_.out HW_.out (by kernel_rfl)) (fun _ _ _ h => h) (Or.inl ⟨by rfl, ?_⟩) hHeld ?_ ?_
               rotate_left
               · rintro w' ⟨s0, s1, s2, s3, s4, s5⟩
                 go_simp
                 with_reducible rfl
               rotate_left
               · exact aP
               refine pure_ (i := 11) (N := some 39) (v := ?_) (a' := ?_) #[true, true, true, true, true, true, true, true, true, true, true, true, false] rfl rfl (any_of HT_.out (by kernel_rfl)) (fun _ _ _ h => h) (Or.inl ⟨by rfl, ?_⟩) ?_ ?_
               rotate_left
               · intro w'
                 go_simp
                 with_reducible rfl
               rotate_left
               · exact aP
               refine pure_ (i := 12) (N := some 40) (v := ?_) (a' := ?_) #[true, true, true, true, true, true, true, true, true, true, true, true, true] rfl rfl (any_of HT_.out (by kernel_rfl)) (fun _ _ _ h => h) (Or.inl ⟨by rfl, ?_⟩) ?_ ?_
               rotate_left
               · intro w'
                 go_simp
                 with_reducible rfl
               rotate_left
               · exact aP
               refine done_ (done_of HT_.out (by kernel_rfl)) ?_
               try go_wp2
               go_ret
               exact ⟨eW, bD HB GE259 GE260⟩
           · rw [if_neg c16] at H
             exact absurd H (by simp)
         · rw [if_neg c15] at H
           exact absurd H (by simp)
       · rw [if_neg c14] at H
         have c14b0 : decide (x5_2 < (l0_1.length : Int)) = false := decide_eq_false c14
         clear c14
         obtain rfl := Option.some.inj H
         have hnb42 := NB259_260.out
         have hnc42 := NB260_259.out
         have hcz43_0 : wr.cell? ⟨gb259, 0, none⟩ = some (.int .i64 a0_0) := (blk_cell BK259.out 0).trans rfl
         have hcz43_1 : wr.cell? ⟨gb259, 1, none⟩ = some (.slice A0_1 l0_1.length c0_1) := (blk_cell BK259.out 1).trans rfl
         have hfz43_0 := blk_frozen BK259.out 0
         have hfz43_1 := blk_frozen BK259.out 1
         go_wp2
         go_ret
         exact ⟨eW, bD HB GE259 GE260⟩

end Go.Proofs.Ytfbncebnngldmaa.PFnFamilies
