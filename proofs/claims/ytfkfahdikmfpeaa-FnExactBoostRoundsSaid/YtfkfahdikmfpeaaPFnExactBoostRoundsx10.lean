-- Printed by wip/tools/myprint.py (the printer of the kit, patched by that program; roots chosen by it)
import Derived.Lib.OwnBridge
import Derived.Sort.OwnSortedInts
import Derived.Test.YtfkfahdikmfpeaaShelf
import Derived.Test.YtfkfahdikmfpeaaPFnExactBoostRoundsx0
import Derived.Test.YtfkfahdikmfpeaaPFnExactBoostRoundsx9
import Derived.Test.YtfkfahdikmfpeaaSh
namespace Go.Proofs.Ytfkfahdikmfpeaa.PFnExactBoostRounds
open Go.RowKit Go.Proofs.Ytfkfahdikmfpeaa.Sh Go.Proofs.YtfkfahdikmfpeaaW.PrintWords Go.Proofs.YtfkfahdikmfpeaaW.PrintLast Go.Proofs.YtfkfahdikmfpeaaW.PrintMore
attribute [local go_sem] max2_int min2_int max_two min_two max_three min_three max_four min_four   -- for this text's walks alone
set_option linter.unusedVariables false
set_option linter.unusedSimpArgs false

/-! ### impl_IsSample: function 152 -/
mutual
def impl_IsSample.j0 : Nat → Bool → List (List Int) → List Int → Option (Bool)
 | 0, _, _, _ => none
 | k + 1, x17, x269000, x269001 => if x17 = true then (some false) else (impl_IsSample.l0 k x269000 (x269000.length : Int) 0 x269000 x269001)
def impl_IsSample.l0 : Nat → List (List Int) → Int → Int → List (List Int) → List Int → Option (Bool)
 | 0, _, _, _, _, _ => none
 | k + 1, x19, x20, x21, x269000, x269001 => if x21 < x20 then (if 0 ≤ x21 then (if x21 < (x19.length : Int) then ((impl_IsPoint.f k (rd_L1 x19 x21)).bind fun t270 => (if t270 = true then (if 0 < (x269000.length : Int) then (if ((rd_L1 x19 x21).length : Int) = ((rd_L1 x269000 0).length : Int) then (if x21 < (x269001.length : Int) then ((impl_isLabel.f (rd x269001 x21)).bind fun t273 => (if t273 = true then (impl_IsSample.l0 k x19 x20 (wrap64 (x21 + 1)) x269000 x269001) else (some false))) else (none)) else (some false)) else (none)) else (some false))) else (none)) else (none)) else (some true)
end
def impl_IsSample.f (k : Nat) (l0_0 : List (List Int)) (l0_1 : List Int) : Option (Bool) := if (l0_0.length : Int) > 16 then (impl_IsSample.j0 k true l0_0 l0_1) else (impl_IsSample.j0 k ((l0_1.length : Int) != (l0_0.length : Int)) l0_0 l0_1)
set_option maxHeartbeats 8000000 in
set_option maxRecDepth 100000 in
theorem impl_IsSample.calls (k : Nat) (A0_0 : Option Addr) (c0_0 : Nat) (l0_0 : List (List Int)) (A0_1 : Option Addr) (c0_1 : Nat) (l0_1 : List Int) (r : Bool) (w : World) (hr0_0 : Kd.C (Kd.slice 3 (Kd.int .i64)) w A0_0 l0_0.length l0_0) (hc0_0 : l0_0.length ≤ c0_0) (hr0_1 : Kd.C (Kd.int .i64) w A0_1 l0_1.length l0_1) (hc0_1 : l0_1.length ≤ c0_1) (h : impl_IsSample.f k l0_0 l0_1 = some r) :
 Calls Try.prog 152 #[.agg #[.slice A0_0 l0_0.length c0_0, .slice A0_1 l0_1.length c0_1]] w fun e w' => e = .returned (.bool r) ∧ Below w.heap.size w w' := by
 have hu52 := Try.underlying52
 have HR0_0 := Aside0.mk hr0_0
 have HC0_0 := Aside0.mk hc0_0
 clear hr0_0 hc0_0
 have HR0_1 := Aside0.mk hr0_1
 have HC0_1 := Aside0.mk hc0_1
 clear hr0_1 hc0_1
 have HB := Aside0.mk (Below.refl w.heap.size w)
 have H : (if (l0_0.length : Int) > 16 then (impl_IsSample.j0 k true l0_0 l0_1) else (impl_IsSample.j0 k ((l0_1.length : Int) != (l0_0.length : Int)) l0_0 l0_1)) = some r := h
 clear h
 have HC2 := Aside0.mk H
 clear H
 go_enter Try.func152, Try.ntmps152
 go_upto_region 1 with (first | ((with_reducible refine gate_dst (N := 1) rfl ?_); refine box_event ?hg (N := 1) ?hd (cs := #[.slice A0_0 l0_0.length c0_0, .slice A0_1 l0_1.length c0_1]) (t := 52) ?hr ?_; (case hd => rfl); (case hg => rfl); (case hr => first | (go_simp; done) | (go_simp; rfl)); intro gb268 hg w3 hbox hb; have n0_ := Aside0.mk (below_step (bB HB) hb); have n1_ := Aside0.mk (hbox); have n2_ := Aside0.mk ((by rw [hg]; exact (below_size (bB HB)) : w.heap.size ≤ gb268)); have n3_ := Aside0.mk ((by rw [hg]; exact (below_size (bB HB)) : w.heap.size ≤ gb268)); clear HB; have HB := n0_; have BK268 := n1_; have GW268 := n2_; have GE268 := n3_; clear n0_ n1_ n2_ n3_; clear hb hbox hg))
 (try simp only [Act.put, List.setIfInBounds_toArray, List.set_cons_zero, List.set_cons_succ])
 go_cut [17] (fun v17 wc => ∃ (kq : Nat) (x17_1 : Bool), v17 = .bool x17_1 ∧ Aside0 (impl_IsSample.j0 kq x17_1 l0_0 l0_1 = some r) ∧ Aside0 (kq ≤ k) ∧ Aside0 (wc.heap[gb268]? = some (.cells #[(.slice A0_0 l0_0.length c0_0), (.slice A0_1 l0_1.length c0_1)] 52 (0, 0))) ∧ Aside0 (Below w.heap.size w wc))
 case first =>
  have H := HC2.out
  clear HC2
  by_cases c4 : (l0_0.length : Int) > 16
  · rw [if_pos c4] at H
    have c4b0 : decide (16 < (l0_0.length : Int)) = true := decide_eq_true c4
    have c4b1 : decide (16 < l0_0.length) = true := decide_eq_true (by omega)
    clear c4
    (first | rw [c4b0] | (simp only [i64_w, i32_w]; rw [c4b0]) | skip)
    have H' := Aside0.mk H
    clear H
    have hcz5_0 : w3.cell? ⟨gb268, 0, none⟩ = some (.slice A0_0 l0_0.length c0_0) := (blk_cell BK268.out 0).trans rfl
    have hcz5_1 : w3.cell? ⟨gb268, 1, none⟩ = some (.slice A0_1 l0_1.length c0_1) := (blk_cell BK268.out 1).trans rfl
    have hfz5_0 := blk_frozen BK268.out 0
    have hfz5_1 := blk_frozen BK268.out 1
    go_wp2
    go_meet
    case rel => exact ⟨_, (true), rD, H', ⟨by first | omega | exact Nat.le_refl _⟩, ⟨pB BK268⟩, ⟨bC HB GE268⟩⟩
  · rw [if_neg c4] at H
    have c4b0 : decide (16 < (l0_0.length : Int)) = false := decide_eq_false c4
    have c4b1 : decide (16 < l0_0.length) = false := decide_eq_false (by omega)
    clear c4
    (first | rw [c4b0] | (simp only [i64_w, i32_w]; rw [c4b0]) | skip)
    have H' := Aside0.mk H
    clear H
    have hcz6_0 : w3.cell? ⟨gb268, 0, none⟩ = some (.slice A0_0 l0_0.length c0_0) := (blk_cell BK268.out 0).trans rfl
    have hcz6_1 : w3.cell? ⟨gb268, 1, none⟩ = some (.slice A0_1 l0_1.length c0_1) := (blk_cell BK268.out 1).trans rfl
    have hfz6_0 := blk_frozen BK268.out 0
    have hfz6_1 := blk_frozen BK268.out 1
    go_wp2
    go_meet
    case rel => exact ⟨_, (((l0_1.length : Int) != (l0_0.length : Int))), rD, H', ⟨by first | omega | exact Nat.le_refl _⟩, ⟨pB BK268⟩, ⟨bC HB GE268⟩⟩
 case rest =>
  clear HC2
  obtain ⟨kq, x17_1, rfl, HA, HJ1, BK268, HB⟩ := hcut
  cases kq with
  | zero => exact absurd HA.out (by simp [impl_IsSample.j0])
  | succ kj1 =>
   have H := HA.out
   clear HA
   simp only [impl_IsSample.j0] at H
   by_cases c7 : x17_1 = true
   · subst c7
     have H1 : (some false) = some r := by rw [if_pos rfl] at H; exact H
     clear H
     have H := H1
     clear H1
     obtain rfl := Option.some.inj H
     go_wp2
     go_ret
     exact ⟨eW, bC HB GE268⟩
   · replace c7 := Bool.eq_false_iff.mpr c7
     subst c7
     have H1 : (impl_IsSample.l0 kj1 l0_0 (l0_0.length : Int) 0 l0_0 l0_1) = some r := by rw [if_neg (show ¬ (false = true) by decide)] at H; exact H
     clear H
     have H := H1
     clear H1
     have H' := Aside0.mk H
     clear H
     have hcz8_0 : wc.cell? ⟨gb268, 0, none⟩ = some (.slice A0_0 l0_0.length c0_0) := (blk_cell BK268.out 0).trans rfl
     have hcz8_1 : wc.cell? ⟨gb268, 1, none⟩ = some (.slice A0_1 l0_1.length c0_1) := (blk_cell BK268.out 1).trans rfl
     have hfz8_0 := blk_frozen BK268.out 0
     have hfz8_1 := blk_frozen BK268.out 1
     go_wp2
     go_loopg [21] kj1 (fun kq v21 w' => ∃ (x21_2 : Int), v21 = .int .i64 x21_2 ∧ Aside0 (impl_IsSample.l0 kq l0_0 (l0_0.length : Int) x21_2 l0_0 l0_1 = some r) ∧ Aside0 (kq ≤ kj1) ∧ Aside0 (w'.heap[gb268]? = some (.cells #[(.slice A0_0 l0_0.length c0_0), (.slice A0_1 l0_1.length c0_1)] 52 (0, 0))) ∧ Aside0 (Below w.heap.size w w'))
     case atStart => exact ⟨(0), rD, H', ⟨Nat.le_refl _⟩, ⟨pB BK268⟩, ⟨bC HB GE268⟩⟩
     case round =>
      clear H'
      try clear c7
      try clear hcz8_0
      try clear hcz8_1
      try clear hfz8_0
      try clear hfz8_1
      obtain ⟨x21_2, rfl, HA, HK2, BK268, HB⟩ := hrel
      cases gk with
      | zero => exact absurd HA.out (by simp [impl_IsSample.l0])
      | succ k2 =>
       have H := HA.out
       clear HA
       simp only [impl_IsSample.l0] at H
       by_cases c9 : x21_2 < (l0_0.length : Int)
       · rw [if_pos c9] at H
         have c9b0 : decide (x21_2 < (l0_0.length : Int)) = true := decide_eq_true c9
         clear c9
         by_cases c10 : 0 ≤ x21_2
         · rw [if_pos c10] at H
           have c10b0 : decide (0 ≤ x21_2) = true := decide_eq_true c10
           clear c10
           by_cases c11 : x21_2 < (l0_0.length : Int)
           · rw [if_pos c11] at H
             have c11b0 : decide (x21_2 < (l0_0.length : Int)) = true := decide_eq_true c11
             clear c11
             replace H := Option.bind_eq_some_iff.mp H
             obtain ⟨t270, A120, H⟩ := H
             replace H : (if t270 = true then (if 0 < (l0_0.length : Int) then (if ((rd_L1 l0_0 x21_2).length : Int) = ((rd_L1 l0_0 0).length : Int) then (if x21_2 < (l0_1.length : Int) then ((impl_isLabel.f (rd l0_1 x21_2)).bind fun t273 => (if t273 = true then (impl_IsSample.l0 k2 l0_0 (l0_0.length : Int) (wrap64 (x21_2 + 1)) l0_0 l0_1) else (some false))) else (none)) else (some false)) else (none)) else (some false)) = some r := H
             have A12 := Aside0.mk A120
             clear A120
             by_cases c13 : t270 = true
             · subst c13
               have H1 : (if 0 < (l0_0.length : Int) then (if ((rd_L1 l0_0 x21_2).length : Int) = ((rd_L1 l0_0 0).length : Int) then (if x21_2 < (l0_1.length : Int) then ((impl_isLabel.f (rd l0_1 x21_2)).bind fun t273 => (if t273 = true then (impl_IsSample.l0 k2 l0_0 (l0_0.length : Int) (wrap64 (x21_2 + 1)) l0_0 l0_1) else (some false))) else (none)) else (some false)) else (none)) = some r := by rw [if_pos rfl] at H; exact H
               clear H
               have H := H1
               clear H1
               by_cases c14 : 0 < (l0_0.length : Int)
               · rw [if_pos c14] at H
                 have c14b0 : decide (0 < (l0_0.length : Int)) = true := decide_eq_true c14
                 have c14b1 : decide (0 < l0_0.length) = true := decide_eq_true (by omega)
                 clear c14
                 by_cases c15 : ((rd_L1 l0_0 x21_2).length : Int) = ((rd_L1 l0_0 0).length : Int)
                 · rw [if_pos c15] at H
                   have c15b0 : (((rd_L1 l0_0 x21_2).length : Int) == ((rd_L1 l0_0 0).length : Int)) = true := beq_iff_eq.mpr c15
                   have c15b1 : (((rd_L1 l0_0 x21_2).length : Int) != ((rd_L1 l0_0 0).length : Int)) = false := bne_eq_false_iff_eq.mpr c15
                   have c15b2 : ((rd_L1 l0_0 x21_2).length == (rd_L1 l0_0 0).length) = true := by first | simpa using c15 | (simp at c15 ⊢; omega)
                   clear c15
                   by_cases c16 : x21_2 < (l0_1.length : Int)
                   · rw [if_pos c16] at H
                     have c16b0 : decide (x21_2 < (l0_1.length : Int)) = true := decide_eq_true c16
                     clear c16
                     replace H := Option.bind_eq_some_iff.mp H
                     obtain ⟨t273, A170, H⟩ := H
                     replace H : (if t273 = true then (impl_IsSample.l0 k2 l0_0 (l0_0.length : Int) (wrap64 (x21_2 + 1)) l0_0 l0_1) else (some false)) = some r := H
                     have A17 := Aside0.mk A170
                     clear A170
                     by_cases c18 : t273 = true
                     · subst c18
                       have H1 : (impl_IsSample.l0 k2 l0_0 (l0_0.length : Int) (wrap64 (x21_2 + 1)) l0_0 l0_1) = some r := by rw [if_pos rfl] at H; exact H
                       clear H
                       have H := H1
                       clear H1
                       have H' := Aside0.mk H
                       clear H
                       have p269 : 0 ≤ (x21_2 : Int) := of_decide_eq_true aS
                       have q269 : x21_2 < (l0_0.length : Int) := of_decide_eq_true aS
                       obtain ⟨ad269, A269_0, c269_0, e269, hx269_0, hl269_0, hi269_0⟩ := at_L1 HR0_0.out x21_2 p269 q269
                       cases e269
                       replace hx269_0 := (HB.out.cell (World.block_lt_of_cell? w _ hx269_0)).trans hx269_0
                       have HR269_0 := Aside0.mk hi269_0
                       have HC269_0 := Aside0.mk hl269_0
                       clear hi269_0 hl269_0
                       replace p269 := eq_true p269
                       replace q269 := eq_true q269
                       go_wp2_with (first | ((with_reducible refine gate_callee (f := 194) rfl ?_); refine goesL_ (some 27) rfl rfl Try.func194 (by kernel_rfl) rfl #[.slice A269_0 (rd_L1 l0_0 x21_2).length c269_0] rfl aT ?_; (with_reducible refine (impl_IsPoint.calls k2 _ _ (rd_L1 l0_0 x21_2) true _ ?side1 ?side2 A12.out).mono ?_); (case side1 => exact cB HR269_0 HB); (case side2 => exact HC269_0.out); rintro e w' ⟨rfl, ⟨nd, rfl⟩⟩; refine ⟨_, rfl, ?_⟩; have hcz19_0 : wr.cell? ⟨gb268, 0, none⟩ = some (.slice (some ad269) l0_0.length c0_0) := (blk_cell BK268.out 0).trans rfl; have hcz19_1 : wr.cell? ⟨gb268, 1, none⟩ = some (.slice A0_1 l0_1.length c0_1) := (blk_cell BK268.out 1).trans rfl; have hfz19_0 := blk_frozen BK268.out 0; have hfz19_1 := blk_frozen BK268.out 1; have p271 : 0 ≤ (0 : Int) := (by omega); have q271 : 0 < (l0_0.length : Int) := of_decide_eq_true aS; obtain ⟨ad271, A271_0, c271_0, e271, hx271_0, hl271_0, hi271_0⟩ := at_L1 HR0_0.out 0 p271 q271; obtain rfl : ad269 = ad271 := (by injection e271); have qi271 : (0 < l0_0.length) = True := eq_true (by omega); (try rw [show ((0 : Int)).toNat = 0 from rfl] at hx271_0); (try rw [Addr.add_zero'] at hx271_0); replace hx271_0 := (HB.out.cell (World.block_lt_of_cell? w _ hx271_0)).trans hx271_0; have HR271_0 := Aside0.mk hi271_0; have HC271_0 := Aside0.mk hl271_0; clear hi271_0 hl271_0; replace p271 := eq_true p271; replace q271 := eq_true q271; have p272 : 0 ≤ (x21_2 : Int) := of_decide_eq_true aS; have q272 : x21_2 < (l0_1.length : Int) := of_decide_eq_true aS; obtain ⟨ad272, e272, hx272_0⟩ := Kd.at_int HR0_1.out x21_2 p272 q272; cases e272; replace hx272_0 := (HB.out.cell (World.block_lt_of_cell? w _ hx272_0)).trans hx272_0; replace p272 := eq_true p272; replace q272 := eq_true q272) | (go_at_call 195; (with_reducible refine (impl_isLabel.calls (rd l0_1 x21_2) true _ A17.out).mono ?_); rintro e w' ⟨rfl, ⟨nd, rfl⟩⟩))
                       go_roundg k2
                       case measure => have := HJ1.out; have := HK2.out; omega
                       case rel => exact ⟨(wrap64 (x21_2 + 1)), rD, H', ⟨by have := HJ1.out; have := HK2.out; omega⟩, ⟨pB BK268⟩, ⟨bC HB GE268⟩⟩
                     · replace c18 := Bool.eq_false_iff.mpr c18
                       subst c18
                       have H1 : (some false) = some r := by rw [if_neg (show ¬ (false = true) by decide)] at H; exact H
                       clear H
                       have H := H1
                       clear H1
                       obtain rfl := Option.some.inj H
                       have p269 : 0 ≤ (x21_2 : Int) := of_decide_eq_true aS
                       have q269 : x21_2 < (l0_0.length : Int) := of_decide_eq_true aS
                       obtain ⟨ad269, A269_0, c269_0, e269, hx269_0, hl269_0, hi269_0⟩ := at_L1 HR0_0.out x21_2 p269 q269
                       cases e269
                       replace hx269_0 := (HB.out.cell (World.block_lt_of_cell? w _ hx269_0)).trans hx269_0
                       have HR269_0 := Aside0.mk hi269_0
                       have HC269_0 := Aside0.mk hl269_0
                       clear hi269_0 hl269_0
                       replace p269 := eq_true p269
                       replace q269 := eq_true q269
                       go_wp2_with (first | ((with_reducible refine gate_callee (f := 194) rfl ?_); refine goesL_ (some 27) rfl rfl Try.func194 (by kernel_rfl) rfl #[.slice A269_0 (rd_L1 l0_0 x21_2).length c269_0] rfl aT ?_; (with_reducible refine (impl_IsPoint.calls k2 _ _ (rd_L1 l0_0 x21_2) true _ ?side1 ?side2 A12.out).mono ?_); (case side1 => exact cB HR269_0 HB); (case side2 => exact HC269_0.out); rintro e w' ⟨rfl, ⟨nd, rfl⟩⟩; refine ⟨_, rfl, ?_⟩; have hcz20_0 : wr.cell? ⟨gb268, 0, none⟩ = some (.slice (some ad269) l0_0.length c0_0) := (blk_cell BK268.out 0).trans rfl; have hcz20_1 : wr.cell? ⟨gb268, 1, none⟩ = some (.slice A0_1 l0_1.length c0_1) := (blk_cell BK268.out 1).trans rfl; have hfz20_0 := blk_frozen BK268.out 0; have hfz20_1 := blk_frozen BK268.out 1; have p271 : 0 ≤ (0 : Int) := (by omega); have q271 : 0 < (l0_0.length : Int) := of_decide_eq_true aS; obtain ⟨ad271, A271_0, c271_0, e271, hx271_0, hl271_0, hi271_0⟩ := at_L1 HR0_0.out 0 p271 q271; obtain rfl : ad269 = ad271 := (by injection e271); have qi271 : (0 < l0_0.length) = True := eq_true (by omega); (try rw [show ((0 : Int)).toNat = 0 from rfl] at hx271_0); (try rw [Addr.add_zero'] at hx271_0); replace hx271_0 := (HB.out.cell (World.block_lt_of_cell? w _ hx271_0)).trans hx271_0; have HR271_0 := Aside0.mk hi271_0; have HC271_0 := Aside0.mk hl271_0; clear hi271_0 hl271_0; replace p271 := eq_true p271; replace q271 := eq_true q271; have p272 : 0 ≤ (x21_2 : Int) := of_decide_eq_true aS; have q272 : x21_2 < (l0_1.length : Int) := of_decide_eq_true aS; obtain ⟨ad272, e272, hx272_0⟩ := Kd.at_int HR0_1.out x21_2 p272 q272; cases e272; replace hx272_0 := (HB.out.cell (World.block_lt_of_cell? w _ hx272_0)).trans hx272_0; replace p272 := eq_true p272; replace q272 := eq_true q272) | (go_at_call 195; (with_reducible refine (impl_isLabel.calls (rd l0_1 x21_2) false _ A17.out).mono ?_); rintro e w' ⟨rfl, ⟨nd, rfl⟩⟩))
                       go_ret
                       exact ⟨eW, bC HB GE268⟩
                   · rw [if_neg c16] at H
                     exact absurd H (by simp)
                 · rw [if_neg c15] at H
                   have c15b0 : (((rd_L1 l0_0 x21_2).length : Int) == ((rd_L1 l0_0 0).length : Int)) = false := beq_eq_false_iff_ne.mpr c15
                   have c15b1 : (((rd_L1 l0_0 x21_2).length : Int) != ((rd_L1 l0_0 0).length : Int)) = true := bne_iff_ne.mpr c15
                   have c15b2 : ((rd_L1 l0_0 x21_2).length == (rd_L1 l0_0 0).length) = false := by first | simpa using c15 | (simp at c15 ⊢; omega)
                   obtain rfl := Option.some.inj H
                   have p269 : 0 ≤ (x21_2 : Int) := of_decide_eq_true aS
                   have q269 : x21_2 < (l0_0.length : Int) := of_decide_eq_true aS
                   obtain ⟨ad269, A269_0, c269_0, e269, hx269_0, hl269_0, hi269_0⟩ := at_L1 HR0_0.out x21_2 p269 q269
                   cases e269
                   replace hx269_0 := (HB.out.cell (World.block_lt_of_cell? w _ hx269_0)).trans hx269_0
                   have HR269_0 := Aside0.mk hi269_0
                   have HC269_0 := Aside0.mk hl269_0
                   clear hi269_0 hl269_0
                   replace p269 := eq_true p269
                   replace q269 := eq_true q269
                   go_wp2_with (first | ((with_reducible refine gate_callee (f := 194) rfl ?_); refine goesL_ (some 27) rfl rfl Try.func194 (by kernel_rfl) rfl #[.slice A269_0 (rd_L1 l0_0 x21_2).length c269_0] rfl aT ?_; (with_reducible refine (impl_IsPoint.calls k2 _ _ (rd_L1 l0_0 x21_2) true _ ?side1 ?side2 A12.out).mono ?_); (case side1 => exact cB HR269_0 HB); (case side2 => exact HC269_0.out); rintro e w' ⟨rfl, ⟨nd, rfl⟩⟩; refine ⟨_, rfl, ?_⟩; have hcz21_0 : wr.cell? ⟨gb268, 0, none⟩ = some (.slice (some ad269) l0_0.length c0_0) := (blk_cell BK268.out 0).trans rfl; have hcz21_1 : wr.cell? ⟨gb268, 1, none⟩ = some (.slice A0_1 l0_1.length c0_1) := (blk_cell BK268.out 1).trans rfl; have hfz21_0 := blk_frozen BK268.out 0; have hfz21_1 := blk_frozen BK268.out 1; have p271 : 0 ≤ (0 : Int) := (by omega); have q271 : 0 < (l0_0.length : Int) := of_decide_eq_true aS; obtain ⟨ad271, A271_0, c271_0, e271, hx271_0, hl271_0, hi271_0⟩ := at_L1 HR0_0.out 0 p271 q271; obtain rfl : ad269 = ad271 := (by injection e271); have qi271 : (0 < l0_0.length) = True := eq_true (by omega); (try rw [show ((0 : Int)).toNat = 0 from rfl] at hx271_0); (try rw [Addr.add_zero'] at hx271_0); replace hx271_0 := (HB.out.cell (World.block_lt_of_cell? w _ hx271_0)).trans hx271_0; have HR271_0 := Aside0.mk hi271_0; have HC271_0 := Aside0.mk hl271_0; clear hi271_0 hl271_0; replace p271 := eq_true p271; replace q271 := eq_true q271))
                   go_ret
                   exact ⟨eW, bC HB GE268⟩
               · rw [if_neg c14] at H
                 exact absurd H (by simp)
             · replace c13 := Bool.eq_false_iff.mpr c13
               subst c13
               have H1 : (some false) = some r := by rw [if_neg (show ¬ (false = true) by decide)] at H; exact H
               clear H
               have H := H1
               clear H1
               obtain rfl := Option.some.inj H
               have p269 : 0 ≤ (x21_2 : Int) := of_decide_eq_true aS
               have q269 : x21_2 < (l0_0.length : Int) := of_decide_eq_true aS
               obtain ⟨ad269, A269_0, c269_0, e269, hx269_0, hl269_0, hi269_0⟩ := at_L1 HR0_0.out x21_2 p269 q269
               cases e269
               replace hx269_0 := (HB.out.cell (World.block_lt_of_cell? w _ hx269_0)).trans hx269_0
               have HR269_0 := Aside0.mk hi269_0
               have HC269_0 := Aside0.mk hl269_0
               clear hi269_0 hl269_0
               replace p269 := eq_true p269
               replace q269 := eq_true q269
               go_wp2_with (first | ((with_reducible refine gate_callee (f := 194) rfl ?_); refine goesL_ (some 27) rfl rfl Try.func194 (by kernel_rfl) rfl #[.slice A269_0 (rd_L1 l0_0 x21_2).length c269_0] rfl aT ?_; (with_reducible refine (impl_IsPoint.calls k2 _ _ (rd_L1 l0_0 x21_2) false _ ?side1 ?side2 A12.out).mono ?_); (case side1 => exact cB HR269_0 HB); (case side2 => exact HC269_0.out); rintro e w' ⟨rfl, ⟨nd, rfl⟩⟩; refine ⟨_, rfl, ?_⟩))
               go_ret
               exact ⟨eW, bC HB GE268⟩
           · rw [if_neg c11] at H
             exact absurd H (by simp)
         · rw [if_neg c10] at H
           exact absurd H (by simp)
       · rw [if_neg c9] at H
         have c9b0 : decide (x21_2 < (l0_0.length : Int)) = false := decide_eq_false c9
         clear c9
         obtain rfl := Option.some.inj H
         go_wp2
         go_ret
         exact ⟨eW, bC HB GE268⟩

/-! ### impl_hasPoints: function 98 -/
def impl_hasPoints.f (k : Nat) (l0_0 : List (List Int)) (l0_1 : List Int) : Option (Bool) := (impl_IsSample.f k l0_0 l0_1).bind fun t275 => (if t275 = true then (some (decide ((l0_0.length : Int) > 0))) else (some false))
set_option maxHeartbeats 8000000 in
set_option maxRecDepth 100000 in
theorem impl_hasPoints.calls (k : Nat) (A0_0 : Option Addr) (c0_0 : Nat) (l0_0 : List (List Int)) (A0_1 : Option Addr) (c0_1 : Nat) (l0_1 : List Int) (r : Bool) (w : World) (hr0_0 : Kd.C (Kd.slice 3 (Kd.int .i64)) w A0_0 l0_0.length l0_0) (hc0_0 : l0_0.length ≤ c0_0) (hr0_1 : Kd.C (Kd.int .i64) w A0_1 l0_1.length l0_1) (hc0_1 : l0_1.length ≤ c0_1) (h : impl_hasPoints.f k l0_0 l0_1 = some r) :
 Calls Try.prog 98 #[.agg #[.slice A0_0 l0_0.length c0_0, .slice A0_1 l0_1.length c0_1]] w fun e w' => e = .returned (.bool r) ∧ Below w.heap.size w w' := by
 have hu52 := Try.underlying52
 have HR0_0 := Aside0.mk hr0_0
 have HC0_0 := Aside0.mk hc0_0
 clear hr0_0 hc0_0
 have HR0_1 := Aside0.mk hr0_1
 have HC0_1 := Aside0.mk hc0_1
 clear hr0_1 hc0_1
 have HB := Aside0.mk (Below.refl w.heap.size w)
 have H : ((impl_IsSample.f k l0_0 l0_1).bind fun t275 => (if t275 = true then (some (decide ((l0_0.length : Int) > 0))) else (some false))) = some r := h
 clear h
 replace H := Option.bind_eq_some_iff.mp H
 obtain ⟨t275, A20, H⟩ := H
 replace H : (if t275 = true then (some (decide ((l0_0.length : Int) > 0))) else (some false)) = some r := H
 have A2 := Aside0.mk A20
 clear A20
 by_cases c3 : t275 = true
 · subst c3
   have H1 : (some (decide ((l0_0.length : Int) > 0))) = some r := by rw [if_pos rfl] at H; exact H
   clear H
   have H := H1
   clear H1
   obtain rfl := Option.some.inj H
   go_enter Try.func98, Try.ntmps98
   go_wp2_with (first | ((with_reducible refine gate_dst (N := 1) rfl ?_); refine box_event ?hg (N := 1) ?hd (cs := #[.slice A0_0 l0_0.length c0_0, .slice A0_1 l0_1.length c0_1]) (t := 52) ?hr ?_; (case hd => rfl); (case hg => rfl); (case hr => first | (go_simp; done) | (go_simp; rfl)); intro gb274 hg w4 hbox hb; have n0_ := Aside0.mk (below_step (bB HB) hb); have n1_ := Aside0.mk (hbox); have n2_ := Aside0.mk ((by rw [hg]; exact (below_size (bB HB)) : w.heap.size ≤ gb274)); have n3_ := Aside0.mk ((by rw [hg]; exact (below_size (bB HB)) : w.heap.size ≤ gb274)); clear HB; have HB := n0_; have BK274 := n1_; have GW274 := n2_; have GE274 := n3_; clear n0_ n1_ n2_ n3_; clear hb hbox hg; have hcz5_0 : w4.cell? ⟨gb274, 0, none⟩ = some (.slice A0_0 l0_0.length c0_0) := (blk_cell BK274.out 0).trans rfl; have hcz5_1 : w4.cell? ⟨gb274, 1, none⟩ = some (.slice A0_1 l0_1.length c0_1) := (blk_cell BK274.out 1).trans rfl; have hfz5_0 := blk_frozen BK274.out 0; have hfz5_1 := blk_frozen BK274.out 1) | ((with_reducible refine gate_callee (f := 152) rfl ?_); refine goesL_ (some 4) rfl rfl Try.func152 (by kernel_rfl) rfl #[.agg #[.slice A0_0 l0_0.length c0_0, .slice A0_1 l0_1.length c0_1]] rfl aT ?_; (with_reducible refine (impl_IsSample.calls k _ _ l0_0 _ _ l0_1 true _ ?side1 ?side2 ?side3 ?side4 A2.out).mono ?_); (case side1 => exact cB HR0_0 HB); (case side2 => exact HC0_0.out); (case side3 => exact cB HR0_1 HB); (case side4 => exact HC0_1.out); rintro e w6 ⟨rfl, hb⟩; refine ⟨_, rfl, ?_⟩; have n0_ := Aside0.mk (bW BK274 hb); have n1_ := Aside0.mk (below_step (bC HB GE274) hb); clear BK274; clear HB; have BK274 := n0_; have HB := n1_; clear n0_ n1_; (try clear hb); (try clear hb2); (try clear hk); (try clear hi); have hcz7_0 : w6.cell? ⟨gb274, 0, none⟩ = some (.slice A0_0 l0_0.length c0_0) := (blk_cell BK274.out 0).trans rfl; have hcz7_1 : w6.cell? ⟨gb274, 1, none⟩ = some (.slice A0_1 l0_1.length c0_1) := (blk_cell BK274.out 1).trans rfl; have hfz7_0 := blk_frozen BK274.out 0; have hfz7_1 := blk_frozen BK274.out 1))
   go_ret
   exact ⟨eW, bC HB GE274⟩
 · replace c3 := Bool.eq_false_iff.mpr c3
   subst c3
   have H1 : (some false) = some r := by rw [if_neg (show ¬ (false = true) by decide)] at H; exact H
   clear H
   have H := H1
   clear H1
   obtain rfl := Option.some.inj H
   go_enter Try.func98, Try.ntmps98
   go_wp2_with (first | ((with_reducible refine gate_dst (N := 1) rfl ?_); refine box_event ?hg (N := 1) ?hd (cs := #[.slice A0_0 l0_0.length c0_0, .slice A0_1 l0_1.length c0_1]) (t := 52) ?hr ?_; (case hd => rfl); (case hg => rfl); (case hr => first | (go_simp; done) | (go_simp; rfl)); intro gb274 hg w8 hbox hb; have n0_ := Aside0.mk (below_step (bB HB) hb); have n1_ := Aside0.mk (hbox); have n2_ := Aside0.mk ((by rw [hg]; exact (below_size (bB HB)) : w.heap.size ≤ gb274)); have n3_ := Aside0.mk ((by rw [hg]; exact (below_size (bB HB)) : w.heap.size ≤ gb274)); clear HB; have HB := n0_; have BK274 := n1_; have GW274 := n2_; have GE274 := n3_; clear n0_ n1_ n2_ n3_; clear hb hbox hg; have hcz9_0 : w8.cell? ⟨gb274, 0, none⟩ = some (.slice A0_0 l0_0.length c0_0) := (blk_cell BK274.out 0).trans rfl; have hcz9_1 : w8.cell? ⟨gb274, 1, none⟩ = some (.slice A0_1 l0_1.length c0_1) := (blk_cell BK274.out 1).trans rfl; have hfz9_0 := blk_frozen BK274.out 0; have hfz9_1 := blk_frozen BK274.out 1) | ((with_reducible refine gate_callee (f := 152) rfl ?_); refine goesL_ (some 4) rfl rfl Try.func152 (by kernel_rfl) rfl #[.agg #[.slice A0_0 l0_0.length c0_0, .slice A0_1 l0_1.length c0_1]] rfl aT ?_; (with_reducible refine (impl_IsSample.calls k _ _ l0_0 _ _ l0_1 false _ ?side1 ?side2 ?side3 ?side4 A2.out).mono ?_); (case side1 => exact cB HR0_0 HB); (case side2 => exact HC0_0.out); (case side3 => exact cB HR0_1 HB); (case side4 => exact HC0_1.out); rintro e w10 ⟨rfl, hb⟩; refine ⟨_, rfl, ?_⟩; have n0_ := Aside0.mk (bW BK274 hb); have n1_ := Aside0.mk (below_step (bC HB GE274) hb); clear BK274; clear HB; have BK274 := n0_; have HB := n1_; clear n0_ n1_; (try clear hb); (try clear hb2); (try clear hk); (try clear hi)))
   go_ret
   exact ⟨eW, bC HB GE274⟩

/-! ### slices_Sort_int_int: function 92 -/
theorem slices_Sort_int_int.reps_of {w : World} {base : Nat} {ok : Nat → Prop} {xs : List Int} {inner : List Value} (h : Reps ((Kd.int .i64).M w base ok) 1 xs inner) : inner = xs.map (Value.int .i64) := by
 have hl : inner.length = xs.length := by have := h.1; omega
 refine List.ext_getElem (by rw [List.length_map]; exact hl) (fun i h1 h2 => ?_)
 have hi : i < xs.length := by omega
 have e : (inner.drop (i * 1)).take 1 = [Value.int .i64 xs[i]] := h.2 i xs[i] (List.getElem?_eq_getElem hi)
 have e2 : ((inner.drop (i * 1)).take 1)[0]? = some (Value.int .i64 xs[i]) := by rw [e]; rfl
 rw [List.getElem?_take, if_pos (by decide), List.getElem?_drop, show i * 1 + 0 = i from by omega, List.getElem?_eq_getElem h1] at e2
 rw [List.getElem_map]
 exact Option.some.inj e2
theorem slices_Sort_int_int.reps_to (w : World) (base : Nat) (ok : Nat → Prop) (xs : List Int) : Reps ((Kd.int .i64).M w base ok) 1 xs (xs.map (Value.int .i64)) := by
 refine ⟨by simp, fun j p hp => ?_⟩
 obtain ⟨hj, rfl⟩ := List.getElem?_eq_some_iff.1 hp
 show ((xs.map (Value.int .i64)).drop (j * 1)).take 1 = [Value.int .i64 xs[j]]
 rw [Nat.mul_one, ← List.map_drop, List.drop_eq_getElem_cons hj]
 rfl
def slices_Sort_int_int.f (l0 : List Int) : Option (List Int) := if l0.length < 4611686018427387904 then some (l0.mergeSort fun x y => decide (x ≤ y)) else none
theorem slices_Sort_int_int.calls (P0_ : Nat → Prop) (u9000_ : Value) (l0 : List Int) (r1 : List Int) (w0 w : World) (hB : Below w0.heap.size w0 w) (ho0 : Kd.R (Kd.int .i64) 3 w w0.heap.size P0_ u9000_ l0) (h : slices_Sort_int_int.f l0 = some (r1)) :
 Calls Try.prog 92 #[u9000_] w fun e w' => e = .returned (.tuple #[]) ∧ Kd.R (Kd.int .i64) 3 w' w0.heap.size (fun k_ => (P0_ k_ ∨ w.heap.size ≤ k_)) u9000_ r1 ∧ Below w0.heap.size w0 w' ∧ Kept w w' (fun k_ => P0_ k_) := by
 unfold slices_Sort_int_int.f at h
 split at h
 · next hsz =>
   obtain rfl := Option.some.inj h
   obtain ⟨hown, inner, ho, hr⟩ := ho0
   obtain rfl := slices_Sort_int_int.reps_of hr
   rcases ho.2 with ⟨hnil, hn0⟩ | ⟨g, cap, cur, hv, hbase, hb, h1, h2, h3, h4⟩
   · subst hnil
     obtain rfl : l0 = [] := List.eq_nil_of_length_eq_zero hn0
     refine (Go.Proofs.Try.slices_Sort_int_none none 0 w).mono ?_
     rintro e w' ⟨rfl, rfl⟩
     exact ⟨rfl, by simpa using Kd.R_nil (Kd.int .i64) 3 w' w0.heap.size (fun k_ => (P0_ k_ ∨ w'.heap.size ≤ k_)), hB, Kept.refl _ _⟩
   · subst hv
     have hH : Go.Sort.Holds (Value.int .i64) w g 0 l0.toArray := Go.holds_of_blockI hb (by have h5 := h4; rw [show (Kd.int .i64).sz = 1 from rfl, Nat.mul_one] at h5; exact h5)
     refine (Go.Proofs.Try.slices_Sort_int g 0 cap l0 w hH (blk_lt hb) hsz).mono ?_
     rintro e w' ⟨rfl, nn, os, rfl⟩
     have hl2 : (l0.mergeSort fun x y => decide (x ≤ y)).length = l0.length := List.length_mergeSort l0
     have hg := Go.grownBy_sortedI (w := w) (g := g) (n := nn) (os := os) (l0.mergeSort fun x y => decide (x ≤ y)).toArray
     have hro := Go.ownsRow_sortedI (n := nn) (os := os) (ts := l0.mergeSort fun x y => decide (x ≤ y)) hl2 hbase hb h1 h2 h3
     have hP : P0_ g := hown g rfl
     refine ⟨rfl, ⟨fun k hk => .inl (hown k hk), _, by rw [hl2]; exact hro, slices_Sort_int_int.reps_to _ _ _ _⟩, pw_below_grown hB _ hB.size hg (fun k e => by injection e with e; omega), Kept.of_grown hg (Kept.refl _ _) (fun k e => by injection e with e; subst e; exact .inl hP)⟩
 · exact absurd h (by simp)

/-! ### slices_Max_int_int: function 153 -/
def slices_Max_int_int.l0 : Nat → List Int → Int → Int → Option (Int)
 | 0, _, _, _ => none
 | k + 1, x0, x3, x4 => if x4 < (x0.length : Int) then (if 0 ≤ x4 then (slices_Max_int_int.l0 k x0 (mx x3 (rd x0 x4)) (wrap64 (x4 + 1))) else (none)) else (some x3)
def slices_Max_int_int.f (k : Nat) (l0 : List Int) : Option (Int) := if (l0.length : Int) < 1 then (none) else (if 0 < (l0.length : Int) then (slices_Max_int_int.l0 k l0 (rd l0 0) 1) else (none))
set_option maxHeartbeats 8000000 in
set_option maxRecDepth 100000 in
theorem slices_Max_int_int.calls (k : Nat) (A0 : Option Addr) (c0 : Nat) (l0 : List Int) (r : Int) (w : World) (hr0 : Kd.C (Kd.int .i64) w A0 l0.length l0) (hc0 : l0.length ≤ c0) (h : slices_Max_int_int.f k l0 = some r) :
 Calls Try.prog 153 #[.slice A0 l0.length c0] w fun e w' => e = .returned (.int .i64 r) ∧ Below w.heap.size w w' := by
 have HR0 := Aside0.mk hr0
 have HC0 := Aside0.mk hc0
 clear hr0 hc0
 have HB := Aside0.mk (Below.refl w.heap.size w)
 have H : (if (l0.length : Int) < 1 then (none) else (if 0 < (l0.length : Int) then (slices_Max_int_int.l0 k l0 (rd l0 0) 1) else (none))) = some r := h
 clear h
 by_cases c2 : (l0.length : Int) < 1
 · rw [if_pos c2] at H
   exact absurd H (by simp)
 · rw [if_neg c2] at H
   have c2b0 : decide ((l0.length : Int) < 1) = false := decide_eq_false c2
   have c2b1 : decide (l0.length < 1) = false := decide_eq_false (by omega)
   clear c2
   by_cases c3 : 0 < (l0.length : Int)
   · rw [if_pos c3] at H
     have c3b0 : decide (0 < (l0.length : Int)) = true := decide_eq_true c3
     have c3b1 : decide (0 < l0.length) = true := decide_eq_true (by omega)
     clear c3
     have H' := Aside0.mk H
     clear H
     have p276 : 0 ≤ (0 : Int) := (by omega)
     have q276 : 0 < (l0.length : Int) := of_decide_eq_true aS
     obtain ⟨ad276, e276, hx276_0⟩ := Kd.at_int HR0.out 0 p276 q276
     cases e276
     have qi276 : (0 < l0.length) = True := eq_true (by omega)
     (try rw [show ((0 : Int)).toNat = 0 from rfl] at hx276_0)
     (try rw [Addr.add_zero'] at hx276_0)
     replace p276 := eq_true p276
     replace q276 := eq_true q276
     go_enter Try.func153, Try.ntmps153
     go_wp2
     go_loopg [3, 4] k (fun kq v3 v4 w' => ∃ (x3_1 : Int) (x4_1 : Int), v3 = .int .i64 x3_1 ∧ v4 = .int .i64 x4_1 ∧ Aside0 (slices_Max_int_int.l0 kq l0 x3_1 x4_1 = some r) ∧ Aside0 (kq ≤ k) ∧ Aside0 (Below w.heap.size w w'))
     case atStart => exact ⟨(rd l0 0), (1), rD, rD, H', ⟨Nat.le_refl _⟩, ⟨bB HB⟩⟩
     case round =>
      clear H'
      try clear c2
      try clear c2b0
      try clear c2b1
      try clear c3
      try clear c3b0
      try clear c3b1
      try clear hx276_0
      try clear p276
      try clear q276
      obtain ⟨x3_1, x4_1, rfl, rfl, HA, HK1, HB⟩ := hrel
      cases gk with
      | zero => exact absurd HA.out (by simp [slices_Max_int_int.l0])
      | succ k1 =>
       have H := HA.out
       clear HA
       simp only [slices_Max_int_int.l0] at H
       by_cases c4 : x4_1 < (l0.length : Int)
       · rw [if_pos c4] at H
         have c4b0 : decide (x4_1 < (l0.length : Int)) = true := decide_eq_true c4
         clear c4
         by_cases c5 : 0 ≤ x4_1
         · rw [if_pos c5] at H
           have c5b0 : decide (0 ≤ x4_1) = true := decide_eq_true c5
           clear c5
           obtain ⟨ji6, hji6⟩ : ∃ j_ : Int, (mx x3_1 (rd l0 x4_1)) = j_ := ⟨_, rfl⟩
           replace H : (slices_Max_int_int.l0 k1 l0 ji6 (wrap64 (x4_1 + 1))) = some r := by first | (rw [hji6] at H; exact H) | (simp only [hji6] at H ⊢; exact H)
           have hji6_ : (if x3_1 < (rd l0 x4_1) then (rd l0 x4_1) else x3_1) = ji6 := hji6
           have H' := Aside0.mk H
           clear H
           have p277 : 0 ≤ (x4_1 : Int) := of_decide_eq_true aS
           have q277 : x4_1 < (l0.length : Int) := of_decide_eq_true aS
           obtain ⟨ad277, e277, hx277_0⟩ := Kd.at_int HR0.out x4_1 p277 q277
           obtain rfl : ad276 = ad277 := (by injection e277)
           replace hx277_0 := (HB.out.cell (World.block_lt_of_cell? w _ hx277_0)).trans hx277_0
           replace p277 := eq_true p277
           replace q277 := eq_true q277
           go_wp2
           go_roundg k1
           case measure => have := HK1.out; omega
           case rel => exact ⟨(ji6), (wrap64 (x4_1 + 1)), (by first | rfl | (simp; done) | (simp only [← hji6] <;> (first | rfl | simp)) | (simp [*]; done)), rD, H', ⟨by have := HK1.out; omega⟩, ⟨bB HB⟩⟩
         · rw [if_neg c5] at H
           exact absurd H (by simp)
       · rw [if_neg c4] at H
         have c4b0 : decide (x4_1 < (l0.length : Int)) = false := decide_eq_false c4
         clear c4
         obtain rfl := Option.some.inj H
         go_wp2
         go_ret
         exact ⟨eW, bB HB⟩
   · rw [if_neg c3] at H
     exact absurd H (by simp)

/-! ### slices_Compact_int_int: function 154 -/
theorem slices_Compact_int_int.reps_of {w : World} {base : Nat} {ok : Nat → Prop} {xs : List Int} {inner : List Value} (h : Reps ((Kd.int .i64).M w base ok) 1 xs inner) : inner = xs.map (Value.int .i64) := by
 have hl : inner.length = xs.length := by have := h.1; omega
 refine List.ext_getElem (by rw [List.length_map]; exact hl) (fun i h1 h2 => ?_)
 have hi : i < xs.length := by omega
 have e : (inner.drop (i * 1)).take 1 = [Value.int .i64 xs[i]] := h.2 i xs[i] (List.getElem?_eq_getElem hi)
 have e2 : ((inner.drop (i * 1)).take 1)[0]? = some (Value.int .i64 xs[i]) := by rw [e]; rfl
 rw [List.getElem?_take, if_pos (by decide), List.getElem?_drop, show i * 1 + 0 = i from by omega, List.getElem?_eq_getElem h1] at e2
 rw [List.getElem_map]
 exact Option.some.inj e2
theorem slices_Compact_int_int.reps_to (w : World) (base : Nat) (ok : Nat → Prop) (xs : List Int) : Reps ((Kd.int .i64).M w base ok) 1 xs (xs.map (Value.int .i64)) := by
 refine ⟨by simp, fun j p hp => ?_⟩
 obtain ⟨hj, rfl⟩ := List.getElem?_eq_some_iff.1 hp
 show ((xs.map (Value.int .i64)).drop (j * 1)).take 1 = [Value.int .i64 xs[j]]
 rw [Nat.mul_one, ← List.map_drop, List.drop_eq_getElem_cons hj]
 rfl
def slices_Compact_int_int.f (l0 : List Int) : Option (List Int) := if l0.length ≤ 9223372036854775807 then some (Go.Lib.compact l0) else none
theorem slices_Compact_int_int.calls (P0_ : Nat → Prop) (u9000_ : Value) (l0 : List Int) (r : List Int) (w0 w : World) (hB : Below w0.heap.size w0 w) (ho0 : Kd.R (Kd.int .i64) 3 w w0.heap.size P0_ u9000_ l0) (h : slices_Compact_int_int.f l0 = some r) :
 Calls Try.prog 154 #[u9000_] w fun e w' => ∃ v0_ : Value, e = .returned (v0_) ∧ Kd.R (Kd.int .i64) 3 w' w0.heap.size (fun k_ => (P0_ k_ ∨ w.heap.size ≤ k_)) v0_ r ∧ Below w0.heap.size w0 w' ∧ Kept w w' (fun k_ => P0_ k_) := by
 unfold slices_Compact_int_int.f at h
 split at h
 · next hsz =>
   obtain rfl := Option.some.inj h
   obtain ⟨hown, inner, ho, hr⟩ := ho0
   obtain rfl := slices_Compact_int_int.reps_of hr
   rcases ho.2 with ⟨hnil, hn0⟩ | ⟨g, cap, cur, hv, hbase, hb, h1, h2, h3, h4⟩
   · subst hnil
     obtain rfl : l0 = [] := List.eq_nil_of_length_eq_zero hn0
     refine (Go.Proofs.Try.slices_Compact_int_empty none 0 w).mono ?_
     rintro e w' ⟨rfl, rfl⟩
     have e0 : Go.Lib.compact ([] : List Int) = [] := List.eq_nil_of_length_eq_zero (by have := Go.Lib.compact_length_le ([] : List Int); simp only [List.length_nil] at this; omega)
     exact ⟨_, rfl, by rw [e0]; exact Kd.R_nil (Kd.int .i64) 3 w' w0.heap.size (fun k_ => (P0_ k_ ∨ w'.heap.size ≤ k_)), hB, Kept.refl _ _⟩
   · subst hv
     have hH : Go.Sort.Holds (Value.int .i64) w g 0 l0.toArray := Go.holds_of_blockI hb (by have h5 := h4; rw [show (Kd.int .i64).sz = 1 from rfl, Nat.mul_one] at h5; exact h5)
     refine (Go.Proofs.Try.slices_Compact_int g 0 cap l0 w hH hsz h1).mono ?_
     rintro e w' ⟨rfl, q, rfl⟩
     have hle := Go.Lib.compact_length_le l0
     have hg := Go.grownBy_sortedI (w := w) (g := g) (n := q) (os := #[]) (Go.Lib.compact l0 ++ List.replicate (l0.length - (Go.Lib.compact l0).length) 0).toArray
     rw [Go.Sort.grow_empty] at hg
     have hro := Go.Lib.ownsRow_putRow (q := q) (ys := Go.Lib.compact l0 ++ List.replicate (l0.length - (Go.Lib.compact l0).length) 0) ho (by rw [List.length_append, List.length_replicate]; omega) hle
     rw [List.take_left] at hro
     have hP : P0_ g := hown g rfl
     refine ⟨_, rfl, ⟨fun k hk => .inl (by injection hk with hk; subst hk; exact hP), _, hro, slices_Compact_int_int.reps_to _ _ _ _⟩, pw_below_grown hB _ hB.size hg (fun k e => by injection e with e; omega), Kept.of_grown hg (Kept.refl _ _) (fun k e => by injection e with e; subst e; exact .inl hP)⟩
 · exact absurd h (by simp)

end Go.Proofs.Ytfkfahdikmfpeaa.PFnExactBoostRounds
