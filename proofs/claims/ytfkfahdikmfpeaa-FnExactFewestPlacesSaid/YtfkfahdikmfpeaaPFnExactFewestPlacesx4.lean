-- Printed by wip/tools/myprint.py (the printer of the kit, patched by that program; roots chosen by it)
import Derived.Test.YtfkfahdikmfpeaaWRepsOne
import Derived.Test.YtfkfahdikmfpeaaPFnExactFewestPlacesx0
import Derived.Test.YtfkfahdikmfpeaaPFnExactFewestPlacesx3
import Derived.Test.YtfkfahdikmfpeaaSh
namespace Go.Proofs.Ytfkfahdikmfpeaa.PFnExactFewestPlaces
open Go.RowKit Go.Proofs.Ytfkfahdikmfpeaa.Sh Go.Proofs.YtfkfahdikmfpeaaW.PrintWords Go.Proofs.YtfkfahdikmfpeaaW.PrintLast Go.Proofs.YtfkfahdikmfpeaaW.PrintMore
attribute [local go_sem] max2_int min2_int max_two min_two max_three min_three max_four min_four   -- for this text's walks alone
set_option linter.unusedVariables false
set_option linter.unusedSimpArgs false

/-! ### spec_l10Near: function 176 -/
def spec_l10Near.l1 : Nat → List Int → List Int → List Int → Int → Int → List (List Int) → List Int → Option (List Int)
 | 0, _, _, _, _, _, _, _ => none
 | k + 1, x1, x2, x3, x4, x9, x106000, x106001 => if x9 < (x3.length : Int) then (if 0 ≤ x9 then (if 0 ≤ (rd x3 x9) then (if (rd x3 x9) < (x106000.length : Int) then ((spec_l2Square.f k (rd_L1 x106000 (rd x3 x9)) x2).bind fun t108 => (if 0 ≤ x4 then (if x4 < (x1.length : Int) then (if 0 ≤ (rd x1 x4) then (if (rd x1 x4) < (x106000.length : Int) then ((spec_l2Square.f k (rd_L1 x106000 (rd x1 x4)) x2).bind fun t111 => (if t108 ≤ t111 then (spec_l10Near.l1 k x1 x2 x3 x4 (wrap64 (x9 + 1)) x106000 x106001) else ((some (([] : List Int) : List Int)).bind fun y112 => (if x9 ≤ (x3.length : Int) then (if y112.length + (x3.take (x9 : Int).toNat).length < 17592186044416 then ((some (y112 ++ (x3.take (x9 : Int).toNat) : List Int)).bind fun y116 => ((some (([rd x1 x4] : List Int) : List Int)).bind fun y120 => (if y116.length + y120.length < 17592186044416 then ((some (y116 ++ y120 : List Int)).bind fun y123 => (if y123.length + (x3.drop (x9 : Int).toNat).length < 17592186044416 then (some (y123 ++ (x3.drop (x9 : Int).toNat))) else (none))) else (none)))) else (none)) else (none))))) else (none)) else (none)) else (none)) else (none))) else (none)) else (none)) else (none)) else ((some (([] : List Int) : List Int)).bind fun y130 => (if 0 ≤ x9 then (if x9 ≤ (x3.length : Int) then (if y130.length + (x3.take (x9 : Int).toNat).length < 17592186044416 then ((some (y130 ++ (x3.take (x9 : Int).toNat) : List Int)).bind fun y134 => (if 0 ≤ x4 then (if x4 < (x1.length : Int) then ((some (([rd x1 x4] : List Int) : List Int)).bind fun y138 => (if y134.length + y138.length < 17592186044416 then ((some (y134 ++ y138 : List Int)).bind fun y141 => (if y141.length + (x3.drop (x9 : Int).toNat).length < 17592186044416 then (some (y141 ++ (x3.drop (x9 : Int).toNat))) else (none))) else (none))) else (none)) else (none))) else (none)) else (none)) else (none)))
def spec_l10Near.ins (k : Nat) (l0_0 : List (List Int)) (l0_1 : List Int) (l1 : List Int) (l2 : List Int) (l3 : List Int) (a4 : Int) : Option (List Int) := spec_l10Near.l1 k l1 l2 l3 a4 0 l0_0 l0_1
def spec_l10Near.T6 : Bool × List (List Nat × List Nat) := (true, [([], []), ([], []), ([1], [1]), ([0, 2], [0, 2]), ([3], [3]), ([4], [4]), ([5, 4], [4, 5]), ([4], [4]), ([4], [4]), ([7, 8, 4], [4, 7, 8]), ([9, 4], [4, 9]), ([6, 10, 4], [4, 6, 10]), ([11, 4], [4, 11]), ([4], [4]), ([12, 13, 4, 4], [4, 12, 13]), ([4], [4]), ([15, 4], [4, 15]), ([4], [4]), ([4], [4]), ([17, 18, 4], [4, 17, 18]), ([19, 4], [4, 19]), ([16, 20, 4], [4, 16, 20]), ([21, 4], [4, 21]), ([4], [4]), ([22, 23, 14, 4], [4, 22, 23]), ([14, 24, 4], [4, 14, 24]), ([4, 25], [4, 25])])
def spec_l10Near.B6 : List Nat := [0, 0, 2, 7, 15, 31, 63, 31, 31, 415, 927, 2047, 4095, 31, 16383, 31, 32799, 31, 31, 393247, 917535, 2064415, 4161567, 31, 16777215, 33554431, 67108863]
theorem spec_l10Near.tab6 : rtab .any (opsOf Try.f176 6) = spec_l10Near.T6 := by kernel_rfl
theorem spec_l10Near.bits6 : waitsOk spec_l10Near.T6.2 spec_l10Near.B6 = true := by kernel_rfl
def spec_l10Near.T8 : Bool × List (List Nat × List Nat) := (true, [([], []), ([], []), ([], []), ([1, 2], [1, 2]), ([0, 3], [0, 3]), ([], []), ([], []), ([5, 6], [5, 6]), ([7], [7]), ([8], [8]), ([4, 9, 4], [4, 9]), ([], []), ([], []), ([11, 12], [11, 12]), ([10, 13, 10], [10, 13]), ([14, 14, 0, 1, 2, 3, 4, 5, 6, 7, 8, 9, 10, 11, 12, 13, 14], [1, 11, 14])])
def spec_l10Near.B8 : List Nat := [0, 0, 0, 6, 15, 0, 0, 96, 224, 480, 1023, 0, 0, 6144, 16383, 32767]
theorem spec_l10Near.tab8 : rtab .any (opsOf Try.f176 8) = spec_l10Near.T8 := by kernel_rfl
theorem spec_l10Near.bits8 : waitsOk spec_l10Near.T8.2 spec_l10Near.B8 = true := by kernel_rfl
def spec_l10Near.l0 : Nat → List (List Int) → List Int → List Int → List Int → List Int → Int → Option (List Int)
 | 0, _, _, _, _, _, _ => none
 | k + 1, P, L, pl, x, out, i => if i < (pl.length : Int) then ((spec_l10Near.ins k P L pl x out i).bind fun y => spec_l10Near.l0 k P L pl x y (wrap64 (i + 1))) else some out
def spec_l10Near.f (k : Nat) (l0_0 : List (List Int)) (l0_1 : List Int) (l1 : List Int) (l2 : List Int) : Option (List Int) := spec_l10Near.l0 k l0_0 l0_1 l1 l2 [] 0
set_option maxHeartbeats 8000000 in
set_option maxRecDepth 100000 in
theorem spec_l10Near.calls (k : Nat) (A0_0 : Option Addr) (c0_0 : Nat) (l0_0 : List (List Int)) (A0_1 : Option Addr) (c0_1 : Nat) (l0_1 : List Int) (A1 : Option Addr) (c1 : Nat) (l1 : List Int) (A2 : Option Addr) (c2 : Nat) (l2 : List Int) (r : List Int) (w : World) (hr0_0 : Kd.C (Kd.slice 3 (Kd.int .i64)) w A0_0 l0_0.length l0_0) (hc0_0 : l0_0.length ≤ c0_0) (hr0_1 : Kd.C (Kd.int .i64) w A0_1 l0_1.length l0_1) (hc0_1 : l0_1.length ≤ c0_1) (hr1 : Kd.C (Kd.int .i64) w A1 l1.length l1) (hc1 : l1.length ≤ c1) (hr2 : Kd.C (Kd.int .i64) w A2 l2.length l2) (hc2 : l2.length ≤ c2) (h : spec_l10Near.f k l0_0 l0_1 l1 l2 = some r) :
 Calls Try.prog 176 #[.agg #[.slice A0_0 l0_0.length c0_0, .slice A0_1 l0_1.length c0_1], .slice A1 l1.length c1, .slice A2 l2.length c2] w fun e w' => ∃ v0_ : Value, e = .returned (v0_) ∧ Kd.R (Kd.int .i64) 3 w' w.heap.size (fun _ => True) v0_ r ∧ Below w.heap.size w w' := by
 have hu52 := Try.underlying52
 have HR0_0 := Aside0.mk hr0_0
 have HC0_0 := Aside0.mk hc0_0
 have HR0_1 := Aside0.mk hr0_1
 have HC0_1 := Aside0.mk hc0_1
 have HR1 := Aside0.mk hr1
 have HC1 := Aside0.mk hc1
 have HR2 := Aside0.mk hr2
 have HC2 := Aside0.mk hc2
 clear hr0_0 hc0_0 hr0_1 hc0_1 hr1 hc1 hr2 hc2
 have HB := Aside0.mk (Below.refl w.heap.size w)
 have H' := Aside0.mk (show spec_l10Near.l0 k l0_0 l0_1 l1 l2 [] 0 = some r from h)
 clear h
 go_enter Try.func176, Try.ntmps176
 go_wp2_with (first | ((with_reducible refine gate_dst (N := 3) rfl ?_); refine box_event ?hg (N := 3) ?hd (cs := #[.slice A0_0 l0_0.length c0_0, .slice A0_1 l0_1.length c0_1]) (t := 52) ?hr ?_; (case hd => rfl); (case hg => rfl); (case hr => first | (go_simp; done) | (go_simp; rfl)); intro gb105 hg w3 hbox hb; have n0_ := Aside0.mk (below_step (bB HB) hb); have n1_ := Aside0.mk hbox; have n2_ := Aside0.mk ((by rw [hg]; exact (below_size (bB HB)) : w.heap.size ≤ gb105)); clear HB; have HB := n0_; have BK105 := n1_; have GE105 := n2_; clear n0_ n1_ n2_; clear hb hbox hg) | ((with_reducible refine gate_dst (N := 10) rfl ?_); refine Kd.R_lit (Kd.int .i64) _ 3 ?hg (N := 10) ?hd (xs := ([] : List Int)) (inner := []) (ok := fun _ => True) (okp := fun _ => True) ?hr ?hp (fun _ hk => hk) trivial (Below.refl _ _) (Nat.le_refl _) (by simp) ?_; (case hd => rfl); (case hg => rfl); (case hr => first | (go_simp; done) | (go_simp; rfl)); (case hp => exact (Reps.none _ _)); intro v10 w10 ho hb hg_ hnew_; clear hg_ hnew_; have n0_ := Aside0.mk (Kd.R_lower ho (below_size (bC HB GE105))); have n1_ := Aside0.mk (bW BK105 hb); have n2_ := Aside0.mk (below_step (bC HB GE105) hb); clear BK105 HB; have HO7 := n0_; have BK105 := n1_; have HB := n2_; clear n0_ n1_ n2_; clear hb ho))
 go_loopg [7, 8] k (fun kq v7 v8 w' => ∃ (x7o : List Int) (x8o : Int), v8 = .int .i64 x8o ∧ Aside0 (spec_l10Near.l0 kq l0_0 l0_1 l1 l2 x7o x8o = some r) ∧ Aside0 (kq ≤ k) ∧ Aside0 (Kd.R (Kd.int .i64) 3 w' w.heap.size (fun _ => True) v7 x7o) ∧ Aside0 (w'.heap[gb105]? = some (.cells #[.slice A0_0 l0_0.length c0_0, .slice A0_1 l0_1.length c0_1] 52 (0, 0))) ∧ Aside0 (Below w.heap.size w w'))
 case atStart => exact ⟨[], 0, rD, H', ⟨Nat.le_refl _⟩, HO7, BK105, ⟨bC HB GE105⟩⟩
 case round =>
  clear H' HO7 BK105 HB
  obtain ⟨x7o, x8o, rfl, HA, HKo, HO7, BK105, HBo⟩ := hrel
  cases gk with
  | zero => exact absurd HA.out (by simp [spec_l10Near.l0])
  | succ ko =>
   have H := HA.out
   clear HA
   simp only [spec_l10Near.l0] at H
   obtain ⟨Aq, cq, eq_⟩ := Kd.R_slice HO7.out
   subst eq_
   by_cases co : x8o < (l1.length : Int)
   · rw [if_pos co] at H
     obtain ⟨yq, hyq, H⟩ := Option.bind_eq_some_iff.mp H
     have HN := Aside0.mk H
     have H' := Aside0.mk (show spec_l10Near.l1 ko l1 l2 x7o x8o 0 l0_0 l0_1 = some yq from hyq)
     clear H hyq
     obtain ⟨wq, rfl⟩ : ∃ z, z = wr := ⟨wr, rfl⟩
     replace HR0_0 := Aside0.mk (Kd.C_below HR0_0.out HBo.out)
     replace HR0_1 := Aside0.mk (Kd.C_below HR0_1.out HBo.out)
     replace HR1 := Aside0.mk (Kd.C_below HR1.out HBo.out)
     replace HR2 := Aside0.mk (Kd.C_below HR2.out HBo.out)
     have HRq := Aside0.mk (Kd.R_reads' HO7.out).2.2
     have HCq := Aside0.mk (Kd.R_reads' HO7.out).2.1
     have HB := Aside0.mk (Below.refl wq.heap.size wq)
     have cob : decide (x8o < (l1.length : Int)) = true := decide_eq_true co
     clear co
     go_wp2
     go_loopg [9] ko (fun kq v9 w' => ∃ (x9_1 : Int), v9 = .int .i64 x9_1 ∧ Aside0 (spec_l10Near.l1 kq l1 l2 x7o x8o x9_1 l0_0 l0_1 = some yq) ∧ Aside0 (kq ≤ ko) ∧ Aside0 (w'.heap[gb105]? = some (.cells #[(.slice A0_0 l0_0.length c0_0), (.slice A0_1 l0_1.length c0_1)] 52 (0, 0))) ∧ Aside0 (Below wq.heap.size wq w'))
     case atStart => exact ⟨(0), rD, H', ⟨Nat.le_refl _⟩, ⟨pB BK105⟩, ⟨bB HB⟩⟩
     case round =>
      clear H'
      try clear c1
      try clear c2
      obtain ⟨x9_1, rfl, HA, HK1, BK105, HB⟩ := hrel
      cases gk with
      | zero => exact absurd HA.out (by simp [spec_l10Near.l1])
      | succ k1 =>
       have H := HA.out
       clear HA
       simp only [spec_l10Near.l1] at H
       by_cases c7 : x9_1 < (x7o.length : Int)
       · rw [if_pos c7] at H
         have c7b0 : decide (x9_1 < (x7o.length : Int)) = true := decide_eq_true c7
         clear c7
         by_cases c8 : 0 ≤ x9_1
         · rw [if_pos c8] at H
           have c8b0 : decide (0 ≤ x9_1) = true := decide_eq_true c8
           clear c8
           by_cases c9 : 0 ≤ (rd x7o x9_1)
           · rw [if_pos c9] at H
             have c9b0 : decide (0 ≤ (rd x7o x9_1)) = true := decide_eq_true c9
             clear c9
             by_cases c10 : (rd x7o x9_1) < (l0_0.length : Int)
             · rw [if_pos c10] at H
               have c10b0 : decide ((rd x7o x9_1) < (l0_0.length : Int)) = true := decide_eq_true c10
               clear c10
               replace H := Option.bind_eq_some_iff.mp H
               obtain ⟨t108, A110, H⟩ := H
               replace H : (if 0 ≤ x8o then (if x8o < (l1.length : Int) then (if 0 ≤ (rd l1 x8o) then (if (rd l1 x8o) < (l0_0.length : Int) then ((spec_l2Square.f k1 (rd_L1 l0_0 (rd l1 x8o)) l2).bind fun t111 => (if t108 ≤ t111 then (spec_l10Near.l1 k1 l1 l2 x7o x8o (wrap64 (x9_1 + 1)) l0_0 l0_1) else ((some (([] : List Int) : List Int)).bind fun y112 => (if x9_1 ≤ (x7o.length : Int) then (if y112.length + (x7o.take (x9_1 : Int).toNat).length < 17592186044416 then ((some (y112 ++ (x7o.take (x9_1 : Int).toNat) : List Int)).bind fun y116 => ((some (([rd l1 x8o] : List Int) : List Int)).bind fun y120 => (if y116.length + y120.length < 17592186044416 then ((some (y116 ++ y120 : List Int)).bind fun y123 => (if y123.length + (x7o.drop (x9_1 : Int).toNat).length < 17592186044416 then (some (y123 ++ (x7o.drop (x9_1 : Int).toNat))) else (none))) else (none)))) else (none)) else (none))))) else (none)) else (none)) else (none)) else (none)) = some yq := H
               have A11 := Aside0.mk A110
               clear A110
               by_cases c12 : 0 ≤ x8o
               · rw [if_pos c12] at H
                 have c12b0 : decide (0 ≤ x8o) = true := decide_eq_true c12
                 clear c12
                 by_cases c13 : x8o < (l1.length : Int)
                 · rw [if_pos c13] at H
                   have c13b0 : decide (x8o < (l1.length : Int)) = true := decide_eq_true c13
                   clear c13
                   by_cases c14 : 0 ≤ (rd l1 x8o)
                   · rw [if_pos c14] at H
                     have c14b0 : decide (0 ≤ (rd l1 x8o)) = true := decide_eq_true c14
                     clear c14
                     by_cases c15 : (rd l1 x8o) < (l0_0.length : Int)
                     · rw [if_pos c15] at H
                       have c15b0 : decide ((rd l1 x8o) < (l0_0.length : Int)) = true := decide_eq_true c15
                       clear c15
                       replace H := Option.bind_eq_some_iff.mp H
                       obtain ⟨t111, A160, H⟩ := H
                       replace H : (if t108 ≤ t111 then (spec_l10Near.l1 k1 l1 l2 x7o x8o (wrap64 (x9_1 + 1)) l0_0 l0_1) else ((some (([] : List Int) : List Int)).bind fun y112 => (if x9_1 ≤ (x7o.length : Int) then (if y112.length + (x7o.take (x9_1 : Int).toNat).length < 17592186044416 then ((some (y112 ++ (x7o.take (x9_1 : Int).toNat) : List Int)).bind fun y116 => ((some (([rd l1 x8o] : List Int) : List Int)).bind fun y120 => (if y116.length + y120.length < 17592186044416 then ((some (y116 ++ y120 : List Int)).bind fun y123 => (if y123.length + (x7o.drop (x9_1 : Int).toNat).length < 17592186044416 then (some (y123 ++ (x7o.drop (x9_1 : Int).toNat))) else (none))) else (none)))) else (none)) else (none)))) = some yq := H
                       have A16 := Aside0.mk A160
                       clear A160
                       by_cases c17 : t108 ≤ t111
                       · rw [if_pos c17] at H
                         have c17b0 : decide (t108 ≤ t111) = true := decide_eq_true c17
                         clear c17
                         have H' := Aside0.mk H
                         clear H
                         try go_wp2
                         have n0_ := Aside0.mk (blk_drew BK105.out)
                         have n1_ := Aside0.mk (below_drew1 HB.out)
                         clear BK105
                         clear HB
                         have BK105 := n0_
                         have HB := n1_
                         clear n0_ n1_
                         have p106 : 0 ≤ (x9_1 : Int) := of_decide_eq_true aS
                         have q106 : x9_1 < (x7o.length : Int) := of_decide_eq_true aS
                         obtain ⟨ad106, e106, hx106_0⟩ := Kd.at_int HRq.out x9_1 p106 q106
                         have hw106_0 := hx106_0
                         cases e106
                         replace hx106_0 := (HB.out.cell (World.block_lt_of_cell? wq _ hx106_0)).trans hx106_0
                         replace p106 := eq_true p106
                         replace q106 := eq_true q106
                         have p107 : 0 ≤ ((rd x7o x9_1) : Int) := of_decide_eq_true aS
                         have q107 : (rd x7o x9_1) < (l0_0.length : Int) := of_decide_eq_true aS
                         obtain ⟨ad107, A107_0, c107_0, e107, hx107_0, hl107_0, hi107_0⟩ := at_L1 HR0_0.out (rd x7o x9_1) p107 q107
                         have hw107_0 := hx107_0
                         cases e107
                         replace hx107_0 := (HB.out.cell (World.block_lt_of_cell? wq _ hx107_0)).trans hx107_0
                         have HR107_0 := Aside0.mk hi107_0
                         have HC107_0 := Aside0.mk hl107_0
                         clear hi107_0 hl107_0
                         replace p107 := eq_true p107
                         replace q107 := eq_true q107
                         have p109 : 0 ≤ (x8o : Int) := of_decide_eq_true aS
                         have q109 : x8o < (l1.length : Int) := of_decide_eq_true aS
                         obtain ⟨ad109, e109, hx109_0⟩ := Kd.at_int HR1.out x8o p109 q109
                         have hw109_0 := hx109_0
                         cases e109
                         replace hx109_0 := (HB.out.cell (World.block_lt_of_cell? wq _ hx109_0)).trans hx109_0
                         replace p109 := eq_true p109
                         replace q109 := eq_true q109
                         have p110 : 0 ≤ ((rd l1 x8o) : Int) := of_decide_eq_true aS
                         have q110 : (rd l1 x8o) < (l0_0.length : Int) := of_decide_eq_true aS
                         obtain ⟨ad110, A110_0, c110_0, e110, hx110_0, hl110_0, hi110_0⟩ := at_L1 HR0_0.out (rd l1 x8o) p110 q110
                         have hw110_0 := hx110_0
                         obtain rfl : ad107 = ad110 := (by injection e110)
                         replace hx110_0 := (HB.out.cell (World.block_lt_of_cell? wq _ hx110_0)).trans hx110_0
                         have HR110_0 := Aside0.mk hi110_0
                         have HC110_0 := Aside0.mk hl110_0
                         clear hi110_0 hl110_0
                         replace p110 := eq_true p110
                         replace q110 := eq_true q110
                         refine start_ (n := 27) (S := fun w' => w'.cell? ⟨gb105, 0, none⟩ = some (.slice (some ad107) l0_0.length c0_0) ∧ w'.cell? ⟨gb105, 1, none⟩ = some (.slice A0_1 l0_1.length c0_1) ∧ w'.cell? (ad106.add (x9_1).toNat) = some (.int .i64 (rd x7o x9_1)) ∧ w'.cell? (ad107.add ((rd x7o x9_1)).toNat) = some (.slice A107_0 (rd_L1 l0_0 (rd x7o x9_1)).length c107_0) ∧ w'.cell? (ad109.add (x8o).toNat) = some (.int .i64 (rd l1 x8o)) ∧ w'.cell? (ad107.add ((rd l1 x8o)).toNat) = some (.slice A110_0 (rd_L1 l0_0 (rd l1 x8o)).length c110_0)) (ds := []) #[false, false, false, false, false, false, false, false, false, false, false, false, false, false, false, false, false, false, false, false, false, false, false, false, false, false, false] (by kernel_rfl) rfl rfl ⟨(blk_cell BK105.out 0).trans rfl, (blk_cell BK105.out 1).trans rfl, ((HB.out.cell (World.block_lt_of_cell? wq _ hw106_0)).trans hw106_0), ((HB.out.cell (World.block_lt_of_cell? wq _ hw107_0)).trans hw107_0), ((HB.out.cell (World.block_lt_of_cell? wq _ hw109_0)).trans hw109_0), ((HB.out.cell (World.block_lt_of_cell? wq _ hw110_0)).trans hw110_0)⟩ (fun hHeld => ?_); refine with_tabW spec_l10Near.tab6 spec_l10Near.bits6 (fun HT_ HW_ => ?_)
                         generalize wr.drew = w18 at BK105 HB HR107_0 HR110_0 hx106_0 hx107_0 hx109_0 hx110_0 hHeld ⊢
                         refine pure_ (i := 0) (N := some 17) (v := ?_) (a' := ?_) #[true, false, false, false, false, false, false, false, false, false, false, false, false, false, false, false, false, false, false, false, false, false, false, false, false, false, false] rfl rfl (any_of HT_.out (by kernel_rfl)) (fun _ _ _ h => h) (Or.inl ⟨by rfl, ?_⟩) ?_ ?_
                         rotate_left
                         · intro w'
                           go_simp
                           with_reducible rfl
                         rotate_left
                         · exact aP
                         refine pure_ (i := 1) (N := some 18) (v := ?_) (a' := ?_) #[true, true, false, false, false, false, false, false, false, false, false, false, false, false, false, false, false, false, false, false, false, false, false, false, false, false, false] rfl rfl (any_of HT_.out (by kernel_rfl)) (fun _ _ _ h => h) (Or.inl ⟨by rfl, ?_⟩) ?_ ?_
                         rotate_left
                         · intro w'
                           go_simp
                           with_reducible rfl
                         rotate_left
                         · exact aP
                         refine pure_ (i := 2) (N := some 19) (v := ?_) (a' := ?_) #[true, true, true, false, false, false, false, false, false, false, false, false, false, false, false, false, false, false, false, false, false, false, false, false, false, false, false] rfl rfl (any_of HT_.out (by kernel_rfl)) (fun _ _ _ h => h) (Or.inl ⟨by rfl, ?_⟩) ?_ ?_
                         rotate_left
                         · intro w'
                           go_simp
                           with_reducible rfl
                         rotate_left
                         · exact aP
                         refine pure_ (i := 3) (N := some 20) (v := ?_) (a' := ?_) #[true, true, true, true, false, false, false, false, false, false, false, false, false, false, false, false, false, false, false, false, false, false, false, false, false, false, false] rfl rfl (any_of HT_.out (by kernel_rfl)) (fun _ _ _ h => h) (Or.inl ⟨by rfl, ?_⟩) ?_ ?_
                         rotate_left
                         · intro w'
                           go_simp
                           with_reducible rfl
                         rotate_left
                         · exact aP
                         refine pure_ (i := 4) (N := some 21) (v := ?_) (a' := ?_) #[true, true, true, true, true, false, false, false, false, false, false, false, false, false, false, false, false, false, false, false, false, false, false, false, false, false, false] rfl rfl (any_of HT_.out (by kernel_rfl)) (fun _ _ _ h => h) (Or.inl ⟨by rfl, ?_⟩) ?_ ?_
                         rotate_left
                         · intro w'
                           go_simp
                           with_reducible rfl
                         rotate_left
                         · exact aP
                         refine pure_ (i := 5) (N := some 22) (v := ?_) (a' := ?_) #[true, true, true, true, true, true, false, false, false, false, false, false, false, false, false, false, false, false, false, false, false, false, false, false, false, false, false] rfl rfl (any_of HT_.out (by kernel_rfl)) (fun _ _ _ h => h) (Or.inl ⟨by rfl, ?_⟩) ?_ ?_
                         rotate_left
                         · intro w'
                           go_simp
                           with_reducible rfl
                         rotate_left
                         · exact aP
                         refine pure_ (i := 7) (N := some 24) (v := ?_) (a' := ?_) #[true, true, true, true, true, true, false, true, false, false, false, false, false, false, false, false, false, false, false, false, false, false, false, false, false, false, false] rfl rfl (any_of HT_.out (by kernel_rfl)) (fun _ _ _ h => h) (Or.inl ⟨by rfl, ?_⟩) ?_ ?_
                         rotate_left
                         · intro w'
                           go_simp
                           with_reducible rfl
                         rotate_left
                         · exact aP
                         refine pure_ (i := 8) (N := some 25) (v := ?_) (a' := ?_) #[true, true, true, true, true, true, false, true, true, false, false, false, false, false, false, false, false, false, false, false, false, false, false, false, false, false, false] rfl rfl (any_of HT_.out (by kernel_rfl)) (fun _ _ _ h => h) (Or.inl ⟨by rfl, ?_⟩) ?_ ?_
                         rotate_left
                         · intro w'
                           go_simp
                           with_reducible rfl
                         rotate_left
                         · exact aP
                         refine pure_ (i := 9) (N := some 26) (v := ?_) (a' := ?_) #[true, true, true, true, true, true, false, true, true, true, false, false, false, false, false, false, false, false, false, false, false, false, false, false, false, false, false] rfl rfl (any_of HT_.out (by kernel_rfl)) (fun _ _ _ h => h) (Or.inl ⟨by rfl, ?_⟩) ?_ ?_
                         rotate_left
                         · intro w'
                           go_simp
                           with_reducible rfl
                         rotate_left
                         · exact aP
                         refine pure_ (i := 13) (N := some 30) (v := ?_) (a' := ?_) #[true, true, true, true, true, true, false, true, true, true, false, false, false, true, false, false, false, false, false, false, false, false, false, false, false, false, false] rfl rfl (any_of HT_.out (by kernel_rfl)) (fun _ _ _ h => h) (Or.inl ⟨by rfl, ?_⟩) ?_ ?_
                         rotate_left
                         · intro w'
                           go_simp
                           with_reducible rfl
                         rotate_left
                         · exact aP
                         refine pure_ (i := 15) (N := some 32) (v := ?_) (a' := ?_) #[true, true, true, true, true, true, false, true, true, true, false, false, false, true, false, true, false, false, false, false, false, false, false, false, false, false, false] rfl rfl (any_of HT_.out (by kernel_rfl)) (fun _ _ _ h => h) (Or.inl ⟨by rfl, ?_⟩) ?_ ?_
                         rotate_left
                         · intro w'
                           go_simp
                           with_reducible rfl
                         rotate_left
                         · exact aP
                         refine pure_ (i := 17) (N := some 34) (v := ?_) (a' := ?_) #[true, true, true, true, true, true, false, true, true, true, false, false, false, true, false, true, false, true, false, false, false, false, false, false, false, false, false] rfl rfl (any_of HT_.out (by kernel_rfl)) (fun _ _ _ h => h) (Or.inl ⟨by rfl, ?_⟩) ?_ ?_
                         rotate_left
                         · intro w'
                           go_simp
                           with_reducible rfl
                         rotate_left
                         · exact aP
                         refine pure_ (i := 18) (N := some 35) (v := ?_) (a' := ?_) #[true, true, true, true, true, true, false, true, true, true, false, false, false, true, false, true, false, true, true, false, false, false, false, false, false, false, false] rfl rfl (any_of HT_.out (by kernel_rfl)) (fun _ _ _ h => h) (Or.inl ⟨by rfl, ?_⟩) ?_ ?_
                         rotate_left
                         · intro w'
                           go_simp
                           with_reducible rfl
                         rotate_left
                         · exact aP
                         refine pure_ (i := 19) (N := some 36) (v := ?_) (a' := ?_) #[true, true, true, true, true, true, false, true, true, true, false, false, false, true, false, true, false, true, true, true, false, false, false, false, false, false, false] rfl rfl (any_of HT_.out (by kernel_rfl)) (fun _ _ _ h => h) (Or.inl ⟨by rfl, ?_⟩) ?_ ?_
                         rotate_left
                         · intro w'
                           go_simp
                           with_reducible rfl
                         rotate_left
                         · exact aP
                         refine pure_ (i := 23) (N := some 40) (v := ?_) (a' := ?_) #[true, true, true, true, true, true, false, true, true, true, false, false, false, true, false, true, false, true, true, true, false, false, false, true, false, false, false] rfl rfl (any_of HT_.out (by kernel_rfl)) (fun _ _ _ h => h) (Or.inl ⟨by rfl, ?_⟩) ?_ ?_
                         rotate_left
                         · intro w'
                           go_simp
                           with_reducible rfl
                         rotate_left
                         · exact aP
                         refine take_ (i := 6) (N := some 23) (v := ?_) (a' := ?_) #[true, true, true, true, true, true, true, true, true, true, false, false, false, true, false, true, false, true, true, true, false, false, false, true, false, false, false] rfl rfl (take_ofW HT_.out HW_.out (by kernel_rfl)) (fun _ _ _ h => h) (Or.inl ⟨by rfl, ?_⟩) hHeld ?_ ?_
                         rotate_left
                         · rintro w' ⟨s0, s1, s2, s3, s4, s5⟩
                           go_simp
                           with_reducible rfl
                         rotate_left
                         · exact aP
                         refine take_ (i := 10) (N := some 27) (v := ?_) (a' := ?_) #[true, true, true, true, true, true, true, true, true, true, true, false, false, true, false, true, false, true, true, true, false, false, false, true, false, false, false] rfl rfl (take_ofW HT_.out HW_.out (by kernel_rfl)) (fun _ _ _ h => h) (Or.inl ⟨by rfl, ?_⟩) hHeld ?_ ?_
                         rotate_left
                         · rintro w' ⟨s0, s1, s2, s3, s4, s5⟩
                           go_simp
                           with_reducible rfl
                         rotate_left
                         · exact aP
                         refine pure_ (i := 11) (N := some 28) (v := ?_) (a' := ?_) #[true, true, true, true, true, true, true, true, true, true, true, true, false, true, false, true, false, true, true, true, false, false, false, true, false, false, false] rfl rfl (any_of HT_.out (by kernel_rfl)) (fun _ _ _ h => h) (Or.inl ⟨by rfl, ?_⟩) ?_ ?_
                         rotate_left
                         · intro w'
                           go_simp
                           with_reducible rfl
                         rotate_left
                         · exact aP
                         refine take_ (i := 12) (N := some 29) (v := ?_) (a' := ?_) #[true, true, true, true, true, true, true, true, true, true, true, true, true, true, false, true, false, true, true, true, false, false, false, true, false, false, false] rfl rfl (take_ofW HT_.out HW_.out (by kernel_rfl)) (fun _ _ _ h => h) (Or.inl ⟨by rfl, ?_⟩) hHeld ?_ ?_
                         rotate_left
                         · rintro w' ⟨s0, s1, s2, s3, s4, s5⟩
                           go_simp
                           with_reducible rfl
                         rotate_left
                         · exact aP
                         refine take_ (i := 16) (N := some 33) (v := ?_) (a' := ?_) #[true, true, true, true, true, true, true, true, true, true, true, true, true, true, false, true, true, true, true, true, false, false, false, true, false, false, false] rfl rfl (take_ofW HT_.out HW_.out (by kernel_rfl)) (fun _ _ _ h => h) (Or.inl ⟨by rfl, ?_⟩) hHeld ?_ ?_
                         rotate_left
                         · rintro w' ⟨s0, s1, s2, s3, s4, s5⟩
                           go_simp
                           with_reducible rfl
                         rotate_left
                         · exact aP
                         refine take_ (i := 20) (N := some 37) (v := ?_) (a' := ?_) #[true, true, true, true, true, true, true, true, true, true, true, true, true, true, false, true, true, true, true, true, true, false, false, true, false, false, false] rfl rfl (take_ofW HT_.out HW_.out (by kernel_rfl)) (fun _ _ _ h => h) (Or.inl ⟨by rfl, ?_⟩) hHeld ?_ ?_
                         rotate_left
                         · rintro w' ⟨s0, s1, s2, s3, s4, s5⟩
                           go_simp
                           with_reducible rfl
                         rotate_left
                         · exact aP
                         refine pure_ (i := 21) (N := some 38) (v := ?_) (a' := ?_) #[true, true, true, true, true, true, true, true, true, true, true, true, true, true, false, true, true, true, true, true, true, true, false, true, false, false, false] rfl rfl (any_of HT_.out (by kernel_rfl)) (fun _ _ _ h => h) (Or.inl ⟨by rfl, ?_⟩) ?_ ?_
                         rotate_left
                         · intro w'
                           go_simp
                           with_reducible rfl
                         rotate_left
                         · exact aP
                         refine take_ (i := 22) (N := some 39) (v := ?_) (a' := ?_) #[true, true, true, true, true, true, true, true, true, true, true, true, true, true, false, true, true, true, true, true, true, true, true, true, false, false, false] rfl rfl (take_ofW HT_.out HW_.out (by kernel_rfl)) (fun _ _ _ h => h) (Or.inl ⟨by rfl, ?_⟩) hHeld ?_ ?_
                         rotate_left
                         · rintro w' ⟨s0, s1, s2, s3, s4, s5⟩
                           go_simp
                           with_reducible rfl
                         rotate_left
                         · exact aP
                         refine one_ (i := 14) (N := some 31) #[true, true, true, true, true, true, true, true, true, true, true, true, true, true, true, true, true, true, true, true, true, true, true, true, false, false, false] rfl rfl (one_of HT_.out (by kernel_rfl)) (by decide) (fun K hK => ?_)
                         refine goes_ Try.func201 (by kernel_rfl) rfl #[.slice A107_0 (rd_L1 l0_0 (rd x7o x9_1)).length c107_0, .slice A2 l2.length c2] (by rfl) rfl rfl aT ?_
                         with_reducible refine (spec_l2Square.calls k1 _ _ (rd_L1 l0_0 (rd x7o x9_1)) _ _ l2 t108 _ ?side1 ?side2 ?side3 ?side4 A11.out).mono ?_
                         (case side1 => exact cB HR107_0 HB)
                         (case side2 => exact HC107_0.out)
                         (case side3 => exact cB HR2 HB)
                         (case side4 => exact HC2.out)
                         rintro e w' ⟨rfl, ⟨nd, rfl⟩⟩
                         refine ⟨_, rfl, ?_⟩
                         refine hK.out _ _ ⟨(blk_cell BK105.out 0).trans rfl, (blk_cell BK105.out 1).trans rfl, ((HB.out.cell (World.block_lt_of_cell? wq _ hw106_0)).trans hw106_0), ((HB.out.cell (World.block_lt_of_cell? wq _ hw107_0)).trans hw107_0), ((HB.out.cell (World.block_lt_of_cell? wq _ hw109_0)).trans hw109_0), ((HB.out.cell (World.block_lt_of_cell? wq _ hw110_0)).trans hw110_0)⟩ (fun hHeld => ?_)
                         clear hK K
                         refine norm_ (a' := ?_) ?_ ?_
                         rotate_left
                         · show Act.put _ (some 31) _ = _
                           simp only [Act.put, List.setIfInBounds_toArray, List.set_cons_zero, List.set_cons_succ, i64_w, i32_w]
                           rfl
                         refine one_ (i := 24) (N := some 41) #[true, true, true, true, true, true, true, true, true, true, true, true, true, true, true, true, true, true, true, true, true, true, true, true, true, false, false] rfl rfl (one_of HT_.out (by kernel_rfl)) (by decide) (fun K hK => ?_)
                         refine goes_ Try.func201 (by kernel_rfl) rfl #[.slice A110_0 (rd_L1 l0_0 (rd l1 x8o)).length c110_0, .slice A2 l2.length c2] (by rfl) rfl rfl aT ?_
                         with_reducible refine (spec_l2Square.calls k1 _ _ (rd_L1 l0_0 (rd l1 x8o)) _ _ l2 t111 _ ?side1 ?side2 ?side3 ?side4 A16.out).mono ?_
                         (case side1 => repeat (first | exact (Kd.C_below HR110_0.out (bB HB)) | (with_reducible refine Kd.C_alloc ?_ _) | (with_reducible refine Kd.C_drewN ?_ _) | (with_reducible refine Kd.C_drew ?_)))
                         (case side2 => exact HC110_0.out)
                         (case side3 => repeat (first | exact (Kd.C_below HR2.out (bB HB)) | (with_reducible refine Kd.C_alloc ?_ _) | (with_reducible refine Kd.C_drewN ?_ _) | (with_reducible refine Kd.C_drew ?_)))
                         (case side4 => exact HC2.out)
                         rintro e w' ⟨rfl, ⟨nd, rfl⟩⟩
                         refine ⟨_, rfl, ?_⟩
                         refine hK.out _ _ ⟨(blk_cell BK105.out 0).trans rfl, (blk_cell BK105.out 1).trans rfl, ((HB.out.cell (World.block_lt_of_cell? wq _ hw106_0)).trans hw106_0), ((HB.out.cell (World.block_lt_of_cell? wq _ hw107_0)).trans hw107_0), ((HB.out.cell (World.block_lt_of_cell? wq _ hw109_0)).trans hw109_0), ((HB.out.cell (World.block_lt_of_cell? wq _ hw110_0)).trans hw110_0)⟩ (fun hHeld => ?_)
                         clear hK K
                         refine norm_ (a' := ?_) ?_ ?_
                         rotate_left
                         · show Act.put _ (some 41) _ = _
                           simp only [Act.put, List.setIfInBounds_toArray, List.set_cons_zero, List.set_cons_succ, i64_w, i32_w]
                           rfl
                         refine pure_ (i := 25) (N := some 42) (v := ?_) (a' := ?_) #[true, true, true, true, true, true, true, true, true, true, true, true, true, true, true, true, true, true, true, true, true, true, true, true, true, true, false] rfl rfl (any_of HT_.out (by kernel_rfl)) (fun _ _ _ h => h) (Or.inl ⟨by rfl, ?_⟩) ?_ ?_
                         rotate_left
                         · intro w'
                           go_simp
                           with_reducible rfl
                         rotate_left
                         · exact aP
                         refine pure_ (i := 26) (N := some 43) (v := ?_) (a' := ?_) #[true, true, true, true, true, true, true, true, true, true, true, true, true, true, true, true, true, true, true, true, true, true, true, true, true, true, true] rfl rfl (any_of HT_.out (by kernel_rfl)) (fun _ _ _ h => h) (Or.inl ⟨by rfl, ?_⟩) ?_ ?_
                         rotate_left
                         · intro w'
                           go_simp
                           with_reducible rfl
                         rotate_left
                         · exact aP
                         refine done_ (done_of HT_.out (by kernel_rfl)) ?_
                         try go_wp2
                         go_roundg k1
                         case measure => have := HK1.out; omega
                         case rel => exact ⟨(wrap64 (x9_1 + 1)), rD, H', ⟨by have := HK1.out; omega⟩, ⟨pB BK105⟩, ⟨bB HB⟩⟩
                       · rw [if_neg c17] at H
                         have c17b0 : decide (t108 ≤ t111) = false := decide_eq_false c17
                         clear c17
                         obtain ⟨y112, hy112⟩ : ∃ y_ : List Int, y_ = (([] : List Int)) := ⟨_, rfl⟩
                         replace H : (if x9_1 ≤ (x7o.length : Int) then (if y112.length + (x7o.take (x9_1 : Int).toNat).length < 17592186044416 then ((some (y112 ++ (x7o.take (x9_1 : Int).toNat) : List Int)).bind fun y116 => ((some (([rd l1 x8o] : List Int) : List Int)).bind fun y120 => (if y116.length + y120.length < 17592186044416 then ((some (y116 ++ y120 : List Int)).bind fun y123 => (if y123.length + (x7o.drop (x9_1 : Int).toNat).length < 17592186044416 then (some (y123 ++ (x7o.drop (x9_1 : Int).toNat))) else (none))) else (none)))) else (none)) else (none)) = some yq := by first | (rw [hy112]; with_reducible exact H) | (have H2_ := (Option.bind_some _ _).symm.trans H; rw [hy112]; with_reducible exact H2_) | (have H2_ := (Option.bind_some _ _).symm.trans H; with_reducible exact H2_) | with_reducible exact H | (rw [hy112]; exact H) | exact H
                         have Ny112 := Aside0.mk hy112
                         clear hy112
                         have c19b0 := eq_true (of_decide_eq_true aS : 0 ≤ x9_1)
                         by_cases c20 : x9_1 ≤ (x7o.length : Int)
                         · rw [if_pos c20] at H
                           have c20b0 := eq_true c20
                           have c20b1 : decide (x9_1 ≤ (x7o.length : Int)) = true := decide_eq_true c20
                           clear c20
                           by_cases c21 : y112.length + (x7o.take (x9_1 : Int).toNat).length < 17592186044416
                           · rw [if_pos c21] at H
                             have LMc21 := Aside0.mk c21
                             clear c21
                             obtain ⟨y116, hy116⟩ : ∃ y_ : List Int, y_ = (y112 ++ (x7o.take (x9_1 : Int).toNat)) := ⟨_, rfl⟩
                             replace H : ((some (([rd l1 x8o] : List Int) : List Int)).bind fun y120 => (if y116.length + y120.length < 17592186044416 then ((some (y116 ++ y120 : List Int)).bind fun y123 => (if y123.length + (x7o.drop (x9_1 : Int).toNat).length < 17592186044416 then (some (y123 ++ (x7o.drop (x9_1 : Int).toNat))) else (none))) else (none))) = some yq := by first | (rw [hy116]; with_reducible exact H) | (have H2_ := (Option.bind_some _ _).symm.trans H; rw [hy116]; with_reducible exact H2_) | (have H2_ := (Option.bind_some _ _).symm.trans H; with_reducible exact H2_) | with_reducible exact H | (rw [hy116]; exact H) | exact H
                             have Ny116 := Aside0.mk hy116
                             clear hy116
                             obtain ⟨y120, hy120⟩ : ∃ y_ : List Int, y_ = (([rd l1 x8o] : List Int)) := ⟨_, rfl⟩
                             replace H : (if y116.length + y120.length < 17592186044416 then ((some (y116 ++ y120 : List Int)).bind fun y123 => (if y123.length + (x7o.drop (x9_1 : Int).toNat).length < 17592186044416 then (some (y123 ++ (x7o.drop (x9_1 : Int).toNat))) else (none))) else (none)) = some yq := by first | (rw [hy120]; with_reducible exact H) | (have H2_ := (Option.bind_some _ _).symm.trans H; rw [hy120]; with_reducible exact H2_) | (have H2_ := (Option.bind_some _ _).symm.trans H; with_reducible exact H2_) | with_reducible exact H | (rw [hy120]; exact H) | exact H
                             have Ny120 := Aside0.mk hy120
                             clear hy120
                             by_cases c22 : y116.length + y120.length < 17592186044416
                             · rw [if_pos c22] at H
                               have LMc22 := Aside0.mk c22
                               clear c22
                               obtain ⟨y123, hy123⟩ : ∃ y_ : List Int, y_ = (y116 ++ y120) := ⟨_, rfl⟩
                               replace H : (if y123.length + (x7o.drop (x9_1 : Int).toNat).length < 17592186044416 then (some (y123 ++ (x7o.drop (x9_1 : Int).toNat))) else (none)) = some yq := by first | (rw [hy123]; with_reducible exact H) | (have H2_ := (Option.bind_some _ _).symm.trans H; rw [hy123]; with_reducible exact H2_) | (have H2_ := (Option.bind_some _ _).symm.trans H; with_reducible exact H2_) | with_reducible exact H | (rw [hy123]; exact H) | exact H
                               have Ny123 := Aside0.mk hy123
                               clear hy123
                               have c23b0 := eq_true (of_decide_eq_true aS : 0 ≤ x9_1)
                               have c24b0 := eq_true (of_decide_eq_true aS : x9_1 ≤ (x7o.length : Int))
                               by_cases c25 : y123.length + (x7o.drop (x9_1 : Int).toNat).length < 17592186044416
                               · rw [if_pos c25] at H
                                 have LMc25 := Aside0.mk c25
                                 clear c25
                                 obtain ⟨y127, hy127⟩ : ∃ y_ : List Int, y_ = (y123 ++ (x7o.drop (x9_1 : Int).toNat)) := ⟨_, rfl⟩
                                 replace H : (some y127) = some yq := by first | (rw [hy127]; with_reducible exact H) | (have H2_ := (Option.bind_some _ _).symm.trans H; rw [hy127]; with_reducible exact H2_) | (have H2_ := (Option.bind_some _ _).symm.trans H; with_reducible exact H2_) | with_reducible exact H | (rw [hy127]; exact H) | exact H
                                 have Ny127 := Aside0.mk hy127
                                 clear hy127
                                 obtain rfl := Option.some.inj H
                                 try go_wp2
                                 have n0_ := Aside0.mk (blk_drew BK105.out)
                                 have n1_ := Aside0.mk (below_drew1 HB.out)
                                 clear BK105
                                 clear HB
                                 have BK105 := n0_
                                 have HB := n1_
                                 clear n0_ n1_
                                 have p106 : 0 ≤ (x9_1 : Int) := of_decide_eq_true aS
                                 have q106 : x9_1 < (x7o.length : Int) := of_decide_eq_true aS
                                 obtain ⟨ad106, e106, hx106_0⟩ := Kd.at_int HRq.out x9_1 p106 q106
                                 have hw106_0 := hx106_0
                                 cases e106
                                 replace hx106_0 := (HB.out.cell (World.block_lt_of_cell? wq _ hx106_0)).trans hx106_0
                                 replace p106 := eq_true p106
                                 replace q106 := eq_true q106
                                 have p107 : 0 ≤ ((rd x7o x9_1) : Int) := of_decide_eq_true aS
                                 have q107 : (rd x7o x9_1) < (l0_0.length : Int) := of_decide_eq_true aS
                                 obtain ⟨ad107, A107_0, c107_0, e107, hx107_0, hl107_0, hi107_0⟩ := at_L1 HR0_0.out (rd x7o x9_1) p107 q107
                                 have hw107_0 := hx107_0
                                 cases e107
                                 replace hx107_0 := (HB.out.cell (World.block_lt_of_cell? wq _ hx107_0)).trans hx107_0
                                 have HR107_0 := Aside0.mk hi107_0
                                 have HC107_0 := Aside0.mk hl107_0
                                 clear hi107_0 hl107_0
                                 replace p107 := eq_true p107
                                 replace q107 := eq_true q107
                                 have p109 : 0 ≤ (x8o : Int) := of_decide_eq_true aS
                                 have q109 : x8o < (l1.length : Int) := of_decide_eq_true aS
                                 obtain ⟨ad109, e109, hx109_0⟩ := Kd.at_int HR1.out x8o p109 q109
                                 have hw109_0 := hx109_0
                                 cases e109
                                 replace hx109_0 := (HB.out.cell (World.block_lt_of_cell? wq _ hx109_0)).trans hx109_0
                                 replace p109 := eq_true p109
                                 replace q109 := eq_true q109
                                 have p110 : 0 ≤ ((rd l1 x8o) : Int) := of_decide_eq_true aS
                                 have q110 : (rd l1 x8o) < (l0_0.length : Int) := of_decide_eq_true aS
                                 obtain ⟨ad110, A110_0, c110_0, e110, hx110_0, hl110_0, hi110_0⟩ := at_L1 HR0_0.out (rd l1 x8o) p110 q110
                                 have hw110_0 := hx110_0
                                 obtain rfl : ad107 = ad110 := (by injection e110)
                                 replace hx110_0 := (HB.out.cell (World.block_lt_of_cell? wq _ hx110_0)).trans hx110_0
                                 have HR110_0 := Aside0.mk hi110_0
                                 have HC110_0 := Aside0.mk hl110_0
                                 clear hi110_0 hl110_0
                                 replace p110 := eq_true p110
                                 replace q110 := eq_true q110
                                 refine start_ (n := 27) (S := fun w' => w'.cell? ⟨gb105, 0, none⟩ = some (.slice (some ad107) l0_0.length c0_0) ∧ w'.cell? ⟨gb105, 1, none⟩ = some (.slice A0_1 l0_1.length c0_1) ∧ w'.cell? (ad106.add (x9_1).toNat) = some (.int .i64 (rd x7o x9_1)) ∧ w'.cell? (ad107.add ((rd x7o x9_1)).toNat) = some (.slice A107_0 (rd_L1 l0_0 (rd x7o x9_1)).length c107_0) ∧ w'.cell? (ad109.add (x8o).toNat) = some (.int .i64 (rd l1 x8o)) ∧ w'.cell? (ad107.add ((rd l1 x8o)).toNat) = some (.slice A110_0 (rd_L1 l0_0 (rd l1 x8o)).length c110_0)) (ds := []) #[false, false, false, false, false, false, false, false, false, false, false, false, false, false, false, false, false, false, false, false, false, false, false, false, false, false, false] (by kernel_rfl) rfl rfl ⟨(blk_cell BK105.out 0).trans rfl, (blk_cell BK105.out 1).trans rfl, ((HB.out.cell (World.block_lt_of_cell? wq _ hw106_0)).trans hw106_0), ((HB.out.cell (World.block_lt_of_cell? wq _ hw107_0)).trans hw107_0), ((HB.out.cell (World.block_lt_of_cell? wq _ hw109_0)).trans hw109_0), ((HB.out.cell (World.block_lt_of_cell? wq _ hw110_0)).trans hw110_0)⟩ (fun hHeld => ?_); refine with_tabW spec_l10Near.tab6 spec_l10Near.bits6 (fun HT_ HW_ => ?_)
                                 generalize wr.drew = w26 at BK105 HB HR107_0 HR110_0 hx106_0 hx107_0 hx109_0 hx110_0 hHeld ⊢
                                 refine pure_ (i := 0) (N := some 17) (v := ?_) (a' := ?_) #[true, false, false, false, false, false, false, false, false, false, false, false, false, false, false, false, false, false, false, false, false, false, false, false, false, false, false] rfl rfl (any_of HT_.out (by kernel_rfl)) (fun _ _ _ h => h) (Or.inl ⟨by rfl, ?_⟩) ?_ ?_
                                 rotate_left
                                 · intro w'
                                   go_simp
                                   with_reducible rfl
                                 rotate_left
                                 · exact aP
                                 refine pure_ (i := 1) (N := some 18) (v := ?_) (a' := ?_) #[true, true, false, false, false, false, false, false, false, false, false, false, false, false, false, false, false, false, false, false, false, false, false, false, false, false, false] rfl rfl (any_of HT_.out (by kernel_rfl)) (fun _ _ _ h => h) (Or.inl ⟨by rfl, ?_⟩) ?_ ?_
                                 rotate_left
                                 · intro w'
                                   go_simp
                                   with_reducible rfl
                                 rotate_left
                                 · exact aP
                                 refine pure_ (i := 2) (N := some 19) (v := ?_) (a' := ?_) #[true, true, true, false, false, false, false, false, false, false, false, false, false, false, false, false, false, false, false, false, false, false, false, false, false, false, false] rfl rfl (any_of HT_.out (by kernel_rfl)) (fun _ _ _ h => h) (Or.inl ⟨by rfl, ?_⟩) ?_ ?_
                                 rotate_left
                                 · intro w'
                                   go_simp
                                   with_reducible rfl
                                 rotate_left
                                 · exact aP
                                 refine pure_ (i := 3) (N := some 20) (v := ?_) (a' := ?_) #[true, true, true, true, false, false, false, false, false, false, false, false, false, false, false, false, false, false, false, false, false, false, false, false, false, false, false] rfl rfl (any_of HT_.out (by kernel_rfl)) (fun _ _ _ h => h) (Or.inl ⟨by rfl, ?_⟩) ?_ ?_
                                 rotate_left
                                 · intro w'
                                   go_simp
                                   with_reducible rfl
                                 rotate_left
                                 · exact aP
                                 refine pure_ (i := 4) (N := some 21) (v := ?_) (a' := ?_) #[true, true, true, true, true, false, false, false, false, false, false, false, false, false, false, false, false, false, false, false, false, false, false, false, false, false, false] rfl rfl (any_of HT_.out (by kernel_rfl)) (fun _ _ _ h => h) (Or.inl ⟨by rfl, ?_⟩) ?_ ?_
                                 rotate_left
                                 · intro w'
                                   go_simp
                                   with_reducible rfl
                                 rotate_left
                                 · exact aP
                                 refine pure_ (i := 5) (N := some 22) (v := ?_) (a' := ?_) #[true, true, true, true, true, true, false, false, false, false, false, false, false, false, false, false, false, false, false, false, false, false, false, false, false, false, false] rfl rfl (any_of HT_.out (by kernel_rfl)) (fun _ _ _ h => h) (Or.inl ⟨by rfl, ?_⟩) ?_ ?_
                                 rotate_left
                                 · intro w'
                                   go_simp
                                   with_reducible rfl
                                 rotate_left
                                 · exact aP
                                 refine pure_ (i := 7) (N := some 24) (v := ?_) (a' := ?_) #[true, true, true, true, true, true, false, true, false, false, false, false, false, false, false, false, false, false, false, false, false, false, false, false, false, false, false] rfl rfl (any_of HT_.out (by kernel_rfl)) (fun _ _ _ h => h) (Or.inl ⟨by rfl, ?_⟩) ?_ ?_
                                 rotate_left
                                 · intro w'
                                   go_simp
                                   with_reducible rfl
                                 rotate_left
                                 · exact aP
                                 refine pure_ (i := 8) (N := some 25) (v := ?_) (a' := ?_) #[true, true, true, true, true, true, false, true, true, false, false, false, false, false, false, false, false, false, false, false, false, false, false, false, false, false, false] rfl rfl (any_of HT_.out (by kernel_rfl)) (fun _ _ _ h => h) (Or.inl ⟨by rfl, ?_⟩) ?_ ?_
                                 rotate_left
                                 · intro w'
                                   go_simp
                                   with_reducible rfl
                                 rotate_left
                                 · exact aP
                                 refine pure_ (i := 9) (N := some 26) (v := ?_) (a' := ?_) #[true, true, true, true, true, true, false, true, true, true, false, false, false, false, false, false, false, false, false, false, false, false, false, false, false, false, false] rfl rfl (any_of HT_.out (by kernel_rfl)) (fun _ _ _ h => h) (Or.inl ⟨by rfl, ?_⟩) ?_ ?_
                                 rotate_left
                                 · intro w'
                                   go_simp
                                   with_reducible rfl
                                 rotate_left
                                 · exact aP
                                 refine pure_ (i := 13) (N := some 30) (v := ?_) (a' := ?_) #[true, true, true, true, true, true, false, true, true, true, false, false, false, true, false, false, false, false, false, false, false, false, false, false, false, false, false] rfl rfl (any_of HT_.out (by kernel_rfl)) (fun _ _ _ h => h) (Or.inl ⟨by rfl, ?_⟩) ?_ ?_
                                 rotate_left
                                 · intro w'
                                   go_simp
                                   with_reducible rfl
                                 rotate_left
                                 · exact aP
                                 refine pure_ (i := 15) (N := some 32) (v := ?_) (a' := ?_) #[true, true, true, true, true, true, false, true, true, true, false, false, false, true, false, true, false, false, false, false, false, false, false, false, false, false, false] rfl rfl (any_of HT_.out (by kernel_rfl)) (fun _ _ _ h => h) (Or.inl ⟨by rfl, ?_⟩) ?_ ?_
                                 rotate_left
                                 · intro w'
                                   go_simp
                                   with_reducible rfl
                                 rotate_left
                                 · exact aP
                                 refine pure_ (i := 17) (N := some 34) (v := ?_) (a' := ?_) #[true, true, true, true, true, true, false, true, true, true, false, false, false, true, false, true, false, true, false, false, false, false, false, false, false, false, false] rfl rfl (any_of HT_.out (by kernel_rfl)) (fun _ _ _ h => h) (Or.inl ⟨by rfl, ?_⟩) ?_ ?_
                                 rotate_left
                                 · intro w'
                                   go_simp
                                   with_reducible rfl
                                 rotate_left
                                 · exact aP
                                 refine pure_ (i := 18) (N := some 35) (v := ?_) (a' := ?_) #[true, true, true, true, true, true, false, true, true, true, false, false, false, true, false, true, false, true, true, false, false, false, false, false, false, false, false] rfl rfl (any_of HT_.out (by kernel_rfl)) (fun _ _ _ h => h) (Or.inl ⟨by rfl, ?_⟩) ?_ ?_
                                 rotate_left
                                 · intro w'
                                   go_simp
                                   with_reducible rfl
                                 rotate_left
                                 · exact aP
                                 refine pure_ (i := 19) (N := some 36) (v := ?_) (a' := ?_) #[true, true, true, true, true, true, false, true, true, true, false, false, false, true, false, true, false, true, true, true, false, false, false, false, false, false, false] rfl rfl (any_of HT_.out (by kernel_rfl)) (fun _ _ _ h => h) (Or.inl ⟨by rfl, ?_⟩) ?_ ?_
                                 rotate_left
                                 · intro w'
                                   go_simp
                                   with_reducible rfl
                                 rotate_left
                                 · exact aP
                                 refine pure_ (i := 23) (N := some 40) (v := ?_) (a' := ?_) #[true, true, true, true, true, true, false, true, true, true, false, false, false, true, false, true, false, true, true, true, false, false, false, true, false, false, false] rfl rfl (any_of HT_.out (by kernel_rfl)) (fun _ _ _ h => h) (Or.inl ⟨by rfl, ?_⟩) ?_ ?_
                                 rotate_left
                                 · intro w'
                                   go_simp
                                   with_reducible rfl
                                 rotate_left
                                 · exact aP
                                 refine take_ (i := 6) (N := some 23) (v := ?_) (a' := ?_) #[true, true, true, true, true, true, true, true, true, true, false, false, false, true, false, true, false, true, true, true, false, false, false, true, false, false, false] rfl rfl (take_ofW HT_.out HW_.out (by kernel_rfl)) (fun _ _ _ h => h) (Or.inl ⟨by rfl, ?_⟩) hHeld ?_ ?_
                                 rotate_left
                                 · rintro w' ⟨s0, s1, s2, s3, s4, s5⟩
                                   go_simp
                                   with_reducible rfl
                                 rotate_left
                                 · exact aP
                                 refine take_ (i := 10) (N := some 27) (v := ?_) (a' := ?_) #[true, true, true, true, true, true, true, true, true, true, true, false, false, true, false, true, false, true, true, true, false, false, false, true, false, false, false] rfl rfl (take_ofW HT_.out HW_.out (by kernel_rfl)) (fun _ _ _ h => h) (Or.inl ⟨by rfl, ?_⟩) hHeld ?_ ?_
                                 rotate_left
                                 · rintro w' ⟨s0, s1, s2, s3, s4, s5⟩
                                   go_simp
                                   with_reducible rfl
                                 rotate_left
                                 · exact aP
                                 refine pure_ (i := 11) (N := some 28) (v := ?_) (a' := ?_) #[true, true, true, true, true, true, true, true, true, true, true, true, false, true, false, true, false, true, true, true, false, false, false, true, false, false, false] rfl rfl (any_of HT_.out (by kernel_rfl)) (fun _ _ _ h => h) (Or.inl ⟨by rfl, ?_⟩) ?_ ?_
                                 rotate_left
                                 · intro w'
                                   go_simp
                                   with_reducible rfl
                                 rotate_left
                                 · exact aP
                                 refine take_ (i := 12) (N := some 29) (v := ?_) (a' := ?_) #[true, true, true, true, true, true, true, true, true, true, true, true, true, true, false, true, false, true, true, true, false, false, false, true, false, false, false] rfl rfl (take_ofW HT_.out HW_.out (by kernel_rfl)) (fun _ _ _ h => h) (Or.inl ⟨by rfl, ?_⟩) hHeld ?_ ?_
                                 rotate_left
                                 · rintro w' ⟨s0, s1, s2, s3, s4, s5⟩
                                   go_simp
                                   with_reducible rfl
                                 rotate_left
                                 · exact aP
                                 refine take_ (i := 16) (N := some 33) (v := ?_) (a' := ?_) #[true, true, true, true, true, true, true, true, true, true, true, true, true, true, false, true, true, true, true, true, false, false, false, true, false, false, false] rfl rfl (take_ofW HT_.out HW_.out (by kernel_rfl)) (fun _ _ _ h => h) (Or.inl ⟨by rfl, ?_⟩) hHeld ?_ ?_
                                 rotate_left
                                 · rintro w' ⟨s0, s1, s2, s3, s4, s5⟩
                                   go_simp
                                   with_reducible rfl
                                 rotate_left
                                 · exact aP
                                 refine take_ (i := 20) (N := some 37) (v := ?_) (a' := ?_) #[true, true, true, true, true, true, true, true, true, true, true, true, true, true, false, true, true, true, true, true, true, false, false, true, false, false, false] rfl rfl (take_ofW HT_.out HW_.out (by kernel_rfl)) (fun _ _ _ h => h) (Or.inl ⟨by rfl, ?_⟩) hHeld ?_ ?_
                                 rotate_left
                                 · rintro w' ⟨s0, s1, s2, s3, s4, s5⟩
                                   go_simp
                                   with_reducible rfl
                                 rotate_left
                                 · exact aP
                                 refine pure_ (i := 21) (N := some 38) (v := ?_) (a' := ?_) #[true, true, true, true, true, true, true, true, true, true, true, true, true, true, false, true, true, true, true, true, true, true, false, true, false, false, false] rfl rfl (any_of HT_.out (by kernel_rfl)) (fun _ _ _ h => h) (Or.inl ⟨by rfl, ?_⟩) ?_ ?_
                                 rotate_left
                                 · intro w'
                                   go_simp
                                   with_reducible rfl
                                 rotate_left
                                 · exact aP
                                 refine take_ (i := 22) (N := some 39) (v := ?_) (a' := ?_) #[true, true, true, true, true, true, true, true, true, true, true, true, true, true, false, true, true, true, true, true, true, true, true, true, false, false, false] rfl rfl (take_ofW HT_.out HW_.out (by kernel_rfl)) (fun _ _ _ h => h) (Or.inl ⟨by rfl, ?_⟩) hHeld ?_ ?_
                                 rotate_left
                                 · rintro w' ⟨s0, s1, s2, s3, s4, s5⟩
                                   go_simp
                                   with_reducible rfl
                                 rotate_left
                                 · exact aP
                                 refine one_ (i := 14) (N := some 31) #[true, true, true, true, true, true, true, true, true, true, true, true, true, true, true, true, true, true, true, true, true, true, true, true, false, false, false] rfl rfl (one_of HT_.out (by kernel_rfl)) (by decide) (fun K hK => ?_)
                                 refine goes_ Try.func201 (by kernel_rfl) rfl #[.slice A107_0 (rd_L1 l0_0 (rd x7o x9_1)).length c107_0, .slice A2 l2.length c2] (by rfl) rfl rfl aT ?_
                                 with_reducible refine (spec_l2Square.calls k1 _ _ (rd_L1 l0_0 (rd x7o x9_1)) _ _ l2 t108 _ ?side1 ?side2 ?side3 ?side4 A11.out).mono ?_
                                 (case side1 => exact cB HR107_0 HB)
                                 (case side2 => exact HC107_0.out)
                                 (case side3 => exact cB HR2 HB)
                                 (case side4 => exact HC2.out)
                                 rintro e w' ⟨rfl, ⟨nd, rfl⟩⟩
                                 refine ⟨_, rfl, ?_⟩
                                 refine hK.out _ _ ⟨(blk_cell BK105.out 0).trans rfl, (blk_cell BK105.out 1).trans rfl, ((HB.out.cell (World.block_lt_of_cell? wq _ hw106_0)).trans hw106_0), ((HB.out.cell (World.block_lt_of_cell? wq _ hw107_0)).trans hw107_0), ((HB.out.cell (World.block_lt_of_cell? wq _ hw109_0)).trans hw109_0), ((HB.out.cell (World.block_lt_of_cell? wq _ hw110_0)).trans hw110_0)⟩ (fun hHeld => ?_)
                                 clear hK K
                                 refine norm_ (a' := ?_) ?_ ?_
                                 rotate_left
                                 · show Act.put _ (some 31) _ = _
                                   simp only [Act.put, List.setIfInBounds_toArray, List.set_cons_zero, List.set_cons_succ, i64_w, i32_w]
                                   rfl
                                 refine one_ (i := 24) (N := some 41) #[true, true, true, true, true, true, true, true, true, true, true, true, true, true, true, true, true, true, true, true, true, true, true, true, true, false, false] rfl rfl (one_of HT_.out (by kernel_rfl)) (by decide) (fun K hK => ?_)
                                 refine goes_ Try.func201 (by kernel_rfl) rfl #[.slice A110_0 (rd_L1 l0_0 (rd l1 x8o)).length c110_0, .slice A2 l2.length c2] (by rfl) rfl rfl aT ?_
                                 with_reducible refine (spec_l2Square.calls k1 _ _ (rd_L1 l0_0 (rd l1 x8o)) _ _ l2 t111 _ ?side1 ?side2 ?side3 ?side4 A16.out).mono ?_
                                 (case side1 => repeat (first | exact (Kd.C_below HR110_0.out (bB HB)) | (with_reducible refine Kd.C_alloc ?_ _) | (with_reducible refine Kd.C_drewN ?_ _) | (with_reducible refine Kd.C_drew ?_)))
                                 (case side2 => exact HC110_0.out)
                                 (case side3 => repeat (first | exact (Kd.C_below HR2.out (bB HB)) | (with_reducible refine Kd.C_alloc ?_ _) | (with_reducible refine Kd.C_drewN ?_ _) | (with_reducible refine Kd.C_drew ?_)))
                                 (case side4 => exact HC2.out)
                                 rintro e w' ⟨rfl, ⟨nd, rfl⟩⟩
                                 refine ⟨_, rfl, ?_⟩
                                 refine hK.out _ _ ⟨(blk_cell BK105.out 0).trans rfl, (blk_cell BK105.out 1).trans rfl, ((HB.out.cell (World.block_lt_of_cell? wq _ hw106_0)).trans hw106_0), ((HB.out.cell (World.block_lt_of_cell? wq _ hw107_0)).trans hw107_0), ((HB.out.cell (World.block_lt_of_cell? wq _ hw109_0)).trans hw109_0), ((HB.out.cell (World.block_lt_of_cell? wq _ hw110_0)).trans hw110_0)⟩ (fun hHeld => ?_)
                                 clear hK K
                                 refine norm_ (a' := ?_) ?_ ?_
                                 rotate_left
                                 · show Act.put _ (some 41) _ = _
                                   simp only [Act.put, List.setIfInBounds_toArray, List.set_cons_zero, List.set_cons_succ, i64_w, i32_w]
                                   rfl
                                 refine pure_ (i := 25) (N := some 42) (v := ?_) (a' := ?_) #[true, true, true, true, true, true, true, true, true, true, true, true, true, true, true, true, true, true, true, true, true, true, true, true, true, true, false] rfl rfl (any_of HT_.out (by kernel_rfl)) (fun _ _ _ h => h) (Or.inl ⟨by rfl, ?_⟩) ?_ ?_
                                 rotate_left
                                 · intro w'
                                   go_simp
                                   with_reducible rfl
                                 rotate_left
                                 · exact aP
                                 refine pure_ (i := 26) (N := some 43) (v := ?_) (a' := ?_) #[true, true, true, true, true, true, true, true, true, true, true, true, true, true, true, true, true, true, true, true, true, true, true, true, true, true, true] rfl rfl (any_of HT_.out (by kernel_rfl)) (fun _ _ _ h => h) (Or.inl ⟨by rfl, ?_⟩) ?_ ?_
                                 rotate_left
                                 · intro w'
                                   go_simp
                                   with_reducible rfl
                                 rotate_left
                                 · exact aP
                                 refine done_ (done_of HT_.out (by kernel_rfl)) ?_
                                 try go_wp2
                                 (try (rw [drewN_self w26]; generalize hq_ : World.drewN w26 _ = w26; have n0_ : Aside0 (w26.heap[gb105]? = some (.cells #[.slice (some ad107) l0_0.length c0_0, .slice A0_1 l0_1.length c0_1] 52 (0, 0))) := ⟨by rw [← hq_]; exact (pB BK105)⟩; have n1_ : Aside0 (Below wq.heap.size wq w26) := ⟨by rw [← hq_]; exact (bB HB)⟩; clear BK105 HB hq_; have BK105 := n0_; have HB := n1_; clear n0_ n1_))
                                 have n0_ := Aside0.mk (blk_drew BK105.out)
                                 have n1_ := Aside0.mk (below_drew1 HB.out)
                                 clear BK105
                                 clear HB
                                 have BK105 := n0_
                                 have HB := n1_
                                 clear n0_ n1_
                                 obtain ⟨i028, hi028, _, hsz28, _⟩ := info_parts info3
                                 obtain ⟨hcut28, hA28, hC28⟩ := print_take_of (P := Try.prog) (Value.int .i64) 0 22 3 .i64 Try.underlying22 hi028 hsz28 (some ad106) cq x7o x9_1 (of_decide_eq_true aS) (of_decide_eq_true aS) HCq.out
                                 have HR115 := Aside0.mk (Kd.C_of_reads (h1 := fun _ => rfl) (hA28 _ (Kd.reads_of_C HRq.out)))
                                 have HC115 := Aside0.mk hC28
                                 clear hA28 hC28 hi028 hsz28
                                 have p119 : 0 ≤ (x8o : Int) := of_decide_eq_true aS
                                 have q119 : x8o < (l1.length : Int) := of_decide_eq_true aS
                                 obtain ⟨ad119, e119, hx119_0⟩ := Kd.at_int HR1.out x8o p119 q119
                                 have hw119_0 := hx119_0
                                 obtain rfl : ad109 = ad119 := (by injection e119)
                                 replace hx119_0 := (HB.out.cell (World.block_lt_of_cell? wq _ hx119_0)).trans hx119_0
                                 replace p119 := eq_true p119
                                 replace q119 := eq_true q119
                                 obtain ⟨i029, hi029, _, hsz29, _⟩ := info_parts info3
                                 obtain ⟨A29, hcut29, hA29, hC29⟩ := print_drop_of (P := Try.prog) (Value.int .i64) 0 22 3 .i64 Try.underlying22 hi029 hsz29 (some ad106) cq x7o x9_1 (of_decide_eq_true aS) (of_decide_eq_true aS) HCq.out
                                 have HR126 := Aside0.mk (Kd.C_of_reads (h1 := fun _ => rfl) (hA29 _ (Kd.reads_of_C HRq.out)))
                                 have HC126 := Aside0.mk hC29
                                 clear hA29 hC29 hi029 hsz29
                                 refine start_ (n := 16) (S := fun w' => w'.cell? (ad109.add (x8o).toNat) = some (.int .i64 (rd l1 x8o))) (ds := []) #[false, false, false, false, false, false, false, false, false, false, false, false, false, false, false, false] (by kernel_rfl) rfl rfl (((HB.out.cell (World.block_lt_of_cell? wq _ hw119_0)).trans hw119_0)) (fun hHeld => ?_); refine with_tabW spec_l10Near.tab8 spec_l10Near.bits8 (fun HT_ HW_ => ?_)
                                 generalize w26.drew = w27 at BK105 HB HR115 HR126 hx119_0 hHeld ⊢
                                 refine pure_ (i := 1) (N := some 47) (v := ?_) (a' := ?_) #[false, true, false, false, false, false, false, false, false, false, false, false, false, false, false, false] rfl rfl (any_of HT_.out (by kernel_rfl)) (fun _ _ _ h => h) (Or.inl ⟨by rfl, ?_⟩) ?_ ?_
                                 rotate_left
                                 · intro w'
                                   go_simp
                                   with_reducible rfl
                                 rotate_left
                                 · exact aP
                                 refine pure_ (i := 2) (N := some 48) (v := ?_) (a' := ?_) #[false, true, true, false, false, false, false, false, false, false, false, false, false, false, false, false] rfl rfl (any_of HT_.out (by kernel_rfl)) (fun _ _ _ h => h) (Or.inl ⟨by rfl, ?_⟩) ?_ ?_
                                 rotate_left
                                 · intro w'
                                   go_simp
                                   with_reducible rfl
                                 rotate_left
                                 · exact aP
                                 refine pure_ (i := 3) (N := some 49) (v := ?_) (a' := ?_) #[false, true, true, true, false, false, false, false, false, false, false, false, false, false, false, false] rfl rfl (any_of HT_.out (by kernel_rfl)) (fun _ _ _ h => h) (Or.inl ⟨by rfl, ?_⟩) ?_ ?_
                                 rotate_left
                                 · intro w'
                                   go_simp
                                   with_reducible rfl
                                 rotate_left
                                 · exact aP
                                 refine pure_ (i := 5) (N := some 51) (v := ?_) (a' := ?_) #[false, true, true, true, false, true, false, false, false, false, false, false, false, false, false, false] rfl rfl (any_of HT_.out (by kernel_rfl)) (fun _ _ _ h => h) (Or.inl ⟨by rfl, ?_⟩) ?_ ?_
                                 rotate_left
                                 · intro w'
                                   go_simp
                                   with_reducible rfl
                                 rotate_left
                                 · exact aP
                                 refine pure_ (i := 6) (N := some 52) (v := ?_) (a' := ?_) #[false, true, true, true, false, true, true, false, false, false, false, false, false, false, false, false] rfl rfl (any_of HT_.out (by kernel_rfl)) (fun _ _ _ h => h) (Or.inl ⟨by rfl, ?_⟩) ?_ ?_
                                 rotate_left
                                 · intro w'
                                   go_simp
                                   with_reducible rfl
                                 rotate_left
                                 · exact aP
                                 refine pure_ (i := 7) (N := some 53) (v := ?_) (a' := ?_) #[false, true, true, true, false, true, true, true, false, false, false, false, false, false, false, false] rfl rfl (any_of HT_.out (by kernel_rfl)) (fun _ _ _ h => h) (Or.inl ⟨by rfl, ?_⟩) ?_ ?_
                                 rotate_left
                                 · intro w'
                                   go_simp
                                   with_reducible rfl
                                 rotate_left
                                 · exact aP
                                 refine pure_ (i := 11) (N := some 57) (v := ?_) (a' := ?_) #[false, true, true, true, false, true, true, true, false, false, false, true, false, false, false, false] rfl rfl (any_of HT_.out (by kernel_rfl)) (fun _ _ _ h => h) (Or.inl ⟨by rfl, ?_⟩) ?_ ?_
                                 rotate_left
                                 · intro w'
                                   go_simp
                                   with_reducible rfl
                                 rotate_left
                                 · exact aP
                                 refine pure_ (i := 12) (N := some 58) (v := ?_) (a' := ?_) #[false, true, true, true, false, true, true, true, false, false, false, true, true, false, false, false] rfl rfl (any_of HT_.out (by kernel_rfl)) (fun _ _ _ h => h) (Or.inl ⟨by rfl, ?_⟩) ?_ ?_
                                 rotate_left
                                 · intro w'
                                   go_simp
                                   with_reducible rfl
                                 rotate_left
                                 · exact aP
                                 refine pure_ (i := 13) (N := some 59) (v := ?_) (a' := ?_) #[false, true, true, true, false, true, true, true, false, false, false, true, true, true, false, false] rfl rfl (any_of HT_.out (by kernel_rfl)) (fun _ _ _ h => h) (Or.inl ⟨by rfl, ?_⟩) ?_ ?_
                                 rotate_left
                                 · intro w'
                                   go_simp
                                   with_reducible rfl
                                 rotate_left
                                 · exact aP
                                 refine take_ (i := 8) (N := some 54) (v := ?_) (a' := ?_) #[false, true, true, true, false, true, true, true, true, false, false, true, true, true, false, false] rfl rfl (take_ofW HT_.out HW_.out (by kernel_rfl)) (fun _ _ _ h => h) (Or.inl ⟨by rfl, ?_⟩) hHeld ?_ ?_
                                 rotate_left
                                 · intro w' s0
                                   go_simp
                                   with_reducible rfl
                                 rotate_left
                                 · exact aP
                                 refine join_ (σ := Value × Value × Value) 3 #[true, true, true, true, true, true, true, true, true, true, false, true, true, true, false, false] (fun s_ => [(46, s_.1), (50, s_.2.1), (55, s_.2.2)]) (fun s_ w' => (w'.cell? (ad109.add (x8o).toNat) = some (.int .i64 (rd l1 x8o))) ∧ (Kd.R (Kd.int .i64) 3 w' wq.heap.size (fun k_ => some k_ ≠ (s_.2.2 : Value).ownBlock) s_.2.1 y116) ∧ (Kd.R (Kd.int .i64) 3 w' wq.heap.size (fun k_ => some k_ ≠ (s_.2.1 : Value).ownBlock) s_.2.2 y120) ∧ (w'.heap[gb105]? = some (.cells #[.slice (some ad107) l0_0.length c0_0, .slice A0_1 l0_1.length c0_1] 52 (0, 0))) ∧ (Below wq.heap.size wq w')) ?_ ?_
                                 rotate_left
                                 · intro hCont
                                   refine two_ (i := 0) (j := 9) (Ni := some 46) (Nj := some 55) #[true, true, true, true, false, true, true, true, true, false, false, true, true, true, false, false] #[false, true, true, true, false, true, true, true, true, true, false, true, true, true, false, false] rfl rfl rfl rfl (two_of HT_.out (by kernel_rfl)) (by decide) (by decide) (fun K hK => ?_) (fun K hK => ?_)
                                   · skip
                                     refine Kd.R_lit_step (Kd.int .i64) _ 3 ?hg (N := 46) ?hd (xs := ([] : List Int)) (inner := []) (ok := fun _ => True) (okp := fun _ => True) ?hr ?hp (fun _ hk => hk) trivial (Below.refl _ _) (Nat.le_refl _) (by simp) ?_; (case hd => rfl); (case hg => rfl); (case hr => first | (go_simp; done) | (go_simp; rfl)); (case hp => exact (Reps.none _ _))
                                     intro v113 w30 ho31 hb hg_ hnew_
                                     clear hg_ hnew_
                                     (first | rw [← Ny112.out] at ho31 | (simp only [Int.reduceToNat] at ho31; rw [← Ny112.out] at ho31))
                                     have n0_ := Aside0.mk (Kd.R_lower ho31 (below_size (bB HB)))
                                     have n1_ := Aside0.mk (bW BK105 hb)
                                     have n2_ := Aside0.mk (below_step (bB HB) hb)
                                     clear BK105
                                     clear HB
                                     have HO114 := n0_
                                     have BK105 := n1_
                                     have HB := n2_
                                     clear n0_ n1_ n2_
                                     clear hb ho31
                                     refine hK.out _ _ (((HB.out.cell (World.block_lt_of_cell? wq _ hw119_0)).trans hw119_0)) (fun hHeld => ?_)
                                     clear hK K
                                     refine norm_ (a' := ?_) ?_ ?_
                                     rotate_left
                                     · show Act.put _ (some 46) _ = _
                                       simp only [Act.put, List.setIfInBounds_toArray, List.set_cons_zero, List.set_cons_succ, i64_w, i32_w]
                                       rfl
                                     refine two_ (i := 4) (j := 9) (Ni := some 50) (Nj := some 55) #[true, true, true, true, true, true, true, true, true, false, false, true, true, true, false, false] #[true, true, true, true, false, true, true, true, true, true, false, true, true, true, false, false] rfl rfl rfl rfl (two_of HT_.out (by kernel_rfl)) (by decide) (by decide) (fun K hK => ?_) (fun K hK => ?_)
                                     · skip
                                       refine Kd.R_append_rows_step (Kd.int .i64) (w0 := wq) wq.heap.size (by rfl) (.tmp 46) (.tmp 49) 22 3 (.int .i64 0) 8 rfl Try.underlying22 info3 rfl (by decide) (by omega) v113 y112 (x7o.take (x9_1 : Int).toNat) _ _ _ (fun _ => True) (fun _ => False) rfl rfl ?aO ?aR (fun _ _ h => h) (fun _ h => h.elim) ?aF ?aB ?aS ?aL ?_
                                       (case aR => first | (have hq_ := Kd.C_below HR115.out HB.out; rw [show (x7o.take (x9_1 : Int).toNat).length = x9_1.toNat from (by rw [List.length_take]; have h_ : (x9_1 : Int) ≤ (x7o.length : Int) := of_decide_eq_true aS; omega)] at hq_; exact hq_) | (rw [← show (x7o.take (x9_1 : Int).toNat).length = x9_1.toNat from (by rw [List.length_take]; have h_ : (x9_1 : Int) ≤ (x7o.length : Int) := of_decide_eq_true aS; omega)]; repeat (first | exact (Kd.C_below HR115.out HB.out) | (with_reducible refine Kd.C_alloc ?_ _) | (with_reducible refine Kd.C_drewN ?_ _) | (with_reducible refine Kd.C_drew ?_))) | (repeat (first | exact (Kd.C_below HR115.out HB.out) | (with_reducible refine Kd.C_alloc ?_ _) | (with_reducible refine Kd.C_drewN ?_ _) | (with_reducible refine Kd.C_drew ?_))))
                                       (case aB => exact (bB HB))
                                       (case aF => exact (fun _ _ => trivial))
                                       (case aO => exact (pR HO114))
                                       (case aS => exact (below_size (bB HB)))
                                       (case aL => have := LMc21.out; have hlx_ := (show (x7o.take (x9_1 : Int).toNat).length = x9_1.toNat from (by rw [List.length_take]; have h_ : (x9_1 : Int) ≤ (x7o.length : Int) := of_decide_eq_true aS; omega)); omega)
                                       intro v117 w32 ho hb hg hat
                                       rw [← Ny116.out] at ho
                                       have n0_ := Aside0.mk (blk_grown (g := gb105) (o := .cells #[.slice (some ad107) l0_0.length c0_0, .slice A0_1 l0_1.length c0_1] 52 (0, 0)) (pB BK105) hg (Kd.R_ne HO114.out BK105.out (by decide)))
                                       have n1_ := Aside0.mk (hb)
                                       have n2_ := Aside0.mk (ho)
                                       clear BK105
                                       clear HB
                                       clear HO114
                                       have BK105 := n0_
                                       have HB := n1_
                                       have HO118 := n2_
                                       clear n0_ n1_ n2_
                                       clear ho hb hg hat
                                       refine hK.out _ _ (((HB.out.cell (World.block_lt_of_cell? wq _ hw119_0)).trans hw119_0)) (fun hHeld => ?_)
                                       clear hK K
                                       refine norm_ (a' := ?_) ?_ ?_
                                       rotate_left
                                       · show Act.put _ (some 50) _ = _
                                         simp only [Act.put, List.setIfInBounds_toArray, List.set_cons_zero, List.set_cons_succ, i64_w, i32_w]
                                         rfl
                                       refine one_ (i := 9) (N := some 55) #[true, true, true, true, true, true, true, true, true, true, false, true, true, true, false, false] rfl rfl (one_of HT_.out (by kernel_rfl)) (by decide) (fun K hK => ?_)
                                       refine Kd.R_lit_step (Kd.int .i64) _ 3 ?hg (N := 55) ?hd (xs := ([rd l1 x8o] : List Int)) (inner := [.int .i64 (rd l1 x8o)]) (ok := fun _ => True) (okp := fun _ => True) ?hr ?hp (fun _ hk => hk) trivial (Below.refl _ _) (Nat.le_refl _) (by simp) ?_; (case hd => rfl); (case hg => rfl); (case hr => first | (go_simp; done) | (go_simp; rfl)); (case hp => exact (Reps.one (show Kd.M (Kd.int .i64) _ _ _ (rd l1 x8o) [.int .i64 (rd l1 x8o)] from rfl) (Reps.none _ _)))
                                       intro v121 w33 ho34 hb hg_ hnew_
                                       clear hg_ hnew_
                                       (first | rw [← Ny120.out] at ho34 | (simp only [Int.reduceToNat] at ho34; rw [← Ny120.out] at ho34))
                                       have n0_ := Aside0.mk (Kd.R_elder' (pR HO118) (Kd.R_base ho34) hb)
                                       have n1_ := Aside0.mk (Kd.R_lower (Kd.R_new' ho34 (Kd.R_lt (pR HO118))) (below_size (bB HB)))
                                       have n2_ := Aside0.mk (bW BK105 hb)
                                       have n3_ := Aside0.mk (below_step (bB HB) hb)
                                       clear HO118
                                       clear BK105
                                       clear HB
                                       have HO118 := n0_
                                       have HO122 := n1_
                                       have BK105 := n2_
                                       have HB := n3_
                                       clear n0_ n1_ n2_ n3_
                                       clear hb ho34
                                       refine hK.out _ _ (((HB.out.cell (World.block_lt_of_cell? wq _ hw119_0)).trans hw119_0)) (fun hHeld => ?_)
                                       clear hK K
                                       refine norm_ (a' := ?_) ?_ ?_
                                       rotate_left
                                       · show Act.put _ (some 55) _ = _
                                         simp only [Act.put, List.setIfInBounds_toArray, List.set_cons_zero, List.set_cons_succ, i64_w, i32_w]
                                         rfl
                                       exact norm_ (by simp only [putAll, Act.put, List.setIfInBounds_toArray, List.set_cons_zero, List.set_cons_succ]) (hCont (v113, v117, v121) _ ⟨hHeld, (by (with_reducible repeat (first | apply Kd.R_alloc | apply Kd.R_drewN | apply Kd.R_drew)); exact Kd.R_mono HO118.out (fun _ hk => hk.2)), (by (with_reducible repeat (first | apply Kd.R_alloc | apply Kd.R_drewN | apply Kd.R_drew)); exact Kd.R_mono HO122.out (fun _ hk => hk.2)), (pB BK105), (bB HB)⟩)
                                     · skip
                                       refine Kd.R_lit_step (Kd.int .i64) _ 3 ?hg (N := 55) ?hd (xs := ([rd l1 x8o] : List Int)) (inner := [.int .i64 (rd l1 x8o)]) (ok := fun _ => True) (okp := fun _ => True) ?hr ?hp (fun _ hk => hk) trivial (Below.refl _ _) (Nat.le_refl _) (by simp) ?_; (case hd => rfl); (case hg => rfl); (case hr => first | (go_simp; done) | (go_simp; rfl)); (case hp => exact (Reps.one (show Kd.M (Kd.int .i64) _ _ _ (rd l1 x8o) [.int .i64 (rd l1 x8o)] from rfl) (Reps.none _ _)))
                                       intro v121 w32 ho33 hb hg_ hnew_
                                       clear hg_ hnew_
                                       (first | rw [← Ny120.out] at ho33 | (simp only [Int.reduceToNat] at ho33; rw [← Ny120.out] at ho33))
                                       have n0_ := Aside0.mk (Kd.R_elder' (pR HO114) (Kd.R_base ho33) hb)
                                       have n1_ := Aside0.mk (Kd.R_lower (Kd.R_new' ho33 (Kd.R_lt (pR HO114))) (below_size (bB HB)))
                                       have n2_ := Aside0.mk (bW BK105 hb)
                                       have n3_ := Aside0.mk (below_step (bB HB) hb)
                                       clear HO114
                                       clear BK105
                                       clear HB
                                       have HO114 := n0_
                                       have HO122 := n1_
                                       have BK105 := n2_
                                       have HB := n3_
                                       clear n0_ n1_ n2_ n3_
                                       clear hb ho33
                                       refine hK.out _ _ (((HB.out.cell (World.block_lt_of_cell? wq _ hw119_0)).trans hw119_0)) (fun hHeld => ?_)
                                       clear hK K
                                       refine norm_ (a' := ?_) ?_ ?_
                                       rotate_left
                                       · show Act.put _ (some 55) _ = _
                                         simp only [Act.put, List.setIfInBounds_toArray, List.set_cons_zero, List.set_cons_succ, i64_w, i32_w]
                                         rfl
                                       refine one_ (i := 4) (N := some 50) #[true, true, true, true, true, true, true, true, true, true, false, true, true, true, false, false] rfl rfl (one_of HT_.out (by kernel_rfl)) (by decide) (fun K hK => ?_)
                                       refine Kd.R_append_rows_step (Kd.int .i64) (w0 := wq) wq.heap.size (by rfl) (.tmp 46) (.tmp 49) 22 3 (.int .i64 0) 8 rfl Try.underlying22 info3 rfl (by decide) (by omega) v113 y112 (x7o.take (x9_1 : Int).toNat) _ _ _ (fun k_ => some k_ ≠ (v121 : Value).ownBlock) (fun _ => False) rfl rfl ?aO ?aR (fun _ _ h => h) (fun _ h => h.elim) ?aF ?aB ?aS ?aL ?_
                                       (case aR => first | (have hq_ := Kd.C_below HR115.out HB.out; rw [show (x7o.take (x9_1 : Int).toNat).length = x9_1.toNat from (by rw [List.length_take]; have h_ : (x9_1 : Int) ≤ (x7o.length : Int) := of_decide_eq_true aS; omega)] at hq_; exact hq_) | (rw [← show (x7o.take (x9_1 : Int).toNat).length = x9_1.toNat from (by rw [List.length_take]; have h_ : (x9_1 : Int) ≤ (x7o.length : Int) := of_decide_eq_true aS; omega)]; repeat (first | exact (Kd.C_below HR115.out HB.out) | (with_reducible refine Kd.C_alloc ?_ _) | (with_reducible refine Kd.C_drewN ?_ _) | (with_reducible refine Kd.C_drew ?_))) | (repeat (first | exact (Kd.C_below HR115.out HB.out) | (with_reducible refine Kd.C_alloc ?_ _) | (with_reducible refine Kd.C_drewN ?_ _) | (with_reducible refine Kd.C_drew ?_))))
                                       (case aB => exact (bB HB))
                                       (case aF => exact (fun k_ hk => Kd.fresh' (Kd.R_lt (pR HO122)) k_ hk))
                                       (case aO => exact (by (with_reducible repeat (first | apply Kd.R_alloc | apply Kd.R_drewN | apply Kd.R_drew)); exact Kd.R_mono HO114.out (fun _ hk => hk.2)))
                                       (case aS => exact (below_size (bB HB)))
                                       (case aL => have := LMc21.out; have hlx_ := (show (x7o.take (x9_1 : Int).toNat).length = x9_1.toNat from (by rw [List.length_take]; have h_ : (x9_1 : Int) ≤ (x7o.length : Int) := of_decide_eq_true aS; omega)); omega)
                                       intro v117 w34 ho hb hg hat
                                       rw [← Ny116.out] at ho
                                       have n0_ := Aside0.mk (blk_grown (g := gb105) (o := .cells #[.slice (some ad107) l0_0.length c0_0, .slice A0_1 l0_1.length c0_1] 52 (0, 0)) (pB BK105) hg (Kd.R_ne HO114.out BK105.out (by decide)))
                                       have n1_ := Aside0.mk (Kd.R_after (ok := (fun _ => True)) (pR HO122) hg hat)
                                       have n2_ := Aside0.mk (hb)
                                       have n3_ := Aside0.mk (ho)
                                       clear BK105
                                       clear HO122
                                       clear HB
                                       clear HO114
                                       have BK105 := n0_
                                       have HO122 := n1_
                                       have HB := n2_
                                       have HO118 := n3_
                                       clear n0_ n1_ n2_ n3_
                                       clear ho hb hg hat
                                       refine hK.out _ _ (((HB.out.cell (World.block_lt_of_cell? wq _ hw119_0)).trans hw119_0)) (fun hHeld => ?_)
                                       clear hK K
                                       refine norm_ (a' := ?_) ?_ ?_
                                       rotate_left
                                       · show Act.put _ (some 50) _ = _
                                         simp only [Act.put, List.setIfInBounds_toArray, List.set_cons_zero, List.set_cons_succ, i64_w, i32_w]
                                         rfl
                                       exact norm_ (by simp only [putAll, Act.put, List.setIfInBounds_toArray, List.set_cons_zero, List.set_cons_succ]) (hCont (v113, v117, v121) _ ⟨hHeld, (pR HO118), (by (with_reducible repeat (first | apply Kd.R_alloc | apply Kd.R_drewN | apply Kd.R_drew)); exact Kd.R_mono HO122.out (fun _ hk => hk.2)), (pB BK105), (bB HB)⟩)
                                   · skip
                                     refine Kd.R_lit_step (Kd.int .i64) _ 3 ?hg (N := 55) ?hd (xs := ([rd l1 x8o] : List Int)) (inner := [.int .i64 (rd l1 x8o)]) (ok := fun _ => True) (okp := fun _ => True) ?hr ?hp (fun _ hk => hk) trivial (Below.refl _ _) (Nat.le_refl _) (by simp) ?_; (case hd => rfl); (case hg => rfl); (case hr => first | (go_simp; done) | (go_simp; rfl)); (case hp => exact (Reps.one (show Kd.M (Kd.int .i64) _ _ _ (rd l1 x8o) [.int .i64 (rd l1 x8o)] from rfl) (Reps.none _ _)))
                                     intro v121 w30 ho31 hb hg_ hnew_
                                     clear hg_ hnew_
                                     (first | rw [← Ny120.out] at ho31 | (simp only [Int.reduceToNat] at ho31; rw [← Ny120.out] at ho31))
                                     have n0_ := Aside0.mk (Kd.R_lower ho31 (below_size (bB HB)))
                                     have n1_ := Aside0.mk (bW BK105 hb)
                                     have n2_ := Aside0.mk (below_step (bB HB) hb)
                                     clear BK105
                                     clear HB
                                     have HO122 := n0_
                                     have BK105 := n1_
                                     have HB := n2_
                                     clear n0_ n1_ n2_
                                     clear hb ho31
                                     refine hK.out _ _ (((HB.out.cell (World.block_lt_of_cell? wq _ hw119_0)).trans hw119_0)) (fun hHeld => ?_)
                                     clear hK K
                                     refine norm_ (a' := ?_) ?_ ?_
                                     rotate_left
                                     · show Act.put _ (some 55) _ = _
                                       simp only [Act.put, List.setIfInBounds_toArray, List.set_cons_zero, List.set_cons_succ, i64_w, i32_w]
                                       rfl
                                     refine one_ (i := 0) (N := some 46) #[true, true, true, true, false, true, true, true, true, true, false, true, true, true, false, false] rfl rfl (one_of HT_.out (by kernel_rfl)) (by decide) (fun K hK => ?_)
                                     refine Kd.R_lit_step (Kd.int .i64) _ 3 ?hg (N := 46) ?hd (xs := ([] : List Int)) (inner := []) (ok := fun _ => True) (okp := fun _ => True) ?hr ?hp (fun _ hk => hk) trivial (Below.refl _ _) (Nat.le_refl _) (by simp) ?_; (case hd => rfl); (case hg => rfl); (case hr => first | (go_simp; done) | (go_simp; rfl)); (case hp => exact (Reps.none _ _))
                                     intro v113 w32 ho33 hb hg_ hnew_
                                     clear hg_ hnew_
                                     (first | rw [← Ny112.out] at ho33 | (simp only [Int.reduceToNat] at ho33; rw [← Ny112.out] at ho33))
                                     have n0_ := Aside0.mk (Kd.R_elder' (pR HO122) (Kd.R_base ho33) hb)
                                     have n1_ := Aside0.mk (Kd.R_lower (Kd.R_new' ho33 (Kd.R_lt (pR HO122))) (below_size (bB HB)))
                                     have n2_ := Aside0.mk (bW BK105 hb)
                                     have n3_ := Aside0.mk (below_step (bB HB) hb)
                                     clear HO122
                                     clear BK105
                                     clear HB
                                     have HO122 := n0_
                                     have HO114 := n1_
                                     have BK105 := n2_
                                     have HB := n3_
                                     clear n0_ n1_ n2_ n3_
                                     clear hb ho33
                                     refine hK.out _ _ (((HB.out.cell (World.block_lt_of_cell? wq _ hw119_0)).trans hw119_0)) (fun hHeld => ?_)
                                     clear hK K
                                     refine norm_ (a' := ?_) ?_ ?_
                                     rotate_left
                                     · show Act.put _ (some 46) _ = _
                                       simp only [Act.put, List.setIfInBounds_toArray, List.set_cons_zero, List.set_cons_succ, i64_w, i32_w]
                                       rfl
                                     refine one_ (i := 4) (N := some 50) #[true, true, true, true, true, true, true, true, true, true, false, true, true, true, false, false] rfl rfl (one_of HT_.out (by kernel_rfl)) (by decide) (fun K hK => ?_)
                                     refine Kd.R_append_rows_step (Kd.int .i64) (w0 := wq) wq.heap.size (by rfl) (.tmp 46) (.tmp 49) 22 3 (.int .i64 0) 8 rfl Try.underlying22 info3 rfl (by decide) (by omega) v113 y112 (x7o.take (x9_1 : Int).toNat) _ _ _ (fun k_ => some k_ ≠ (v121 : Value).ownBlock) (fun _ => False) rfl rfl ?aO ?aR (fun _ _ h => h) (fun _ h => h.elim) ?aF ?aB ?aS ?aL ?_
                                     (case aR => first | (have hq_ := Kd.C_below HR115.out HB.out; rw [show (x7o.take (x9_1 : Int).toNat).length = x9_1.toNat from (by rw [List.length_take]; have h_ : (x9_1 : Int) ≤ (x7o.length : Int) := of_decide_eq_true aS; omega)] at hq_; exact hq_) | (rw [← show (x7o.take (x9_1 : Int).toNat).length = x9_1.toNat from (by rw [List.length_take]; have h_ : (x9_1 : Int) ≤ (x7o.length : Int) := of_decide_eq_true aS; omega)]; repeat (first | exact (Kd.C_below HR115.out HB.out) | (with_reducible refine Kd.C_alloc ?_ _) | (with_reducible refine Kd.C_drewN ?_ _) | (with_reducible refine Kd.C_drew ?_))) | (repeat (first | exact (Kd.C_below HR115.out HB.out) | (with_reducible refine Kd.C_alloc ?_ _) | (with_reducible refine Kd.C_drewN ?_ _) | (with_reducible refine Kd.C_drew ?_))))
                                     (case aB => exact (bB HB))
                                     (case aF => exact (fun k_ hk => Kd.fresh' (Kd.R_lt (pR HO122)) k_ hk))
                                     (case aO => exact (by (with_reducible repeat (first | apply Kd.R_alloc | apply Kd.R_drewN | apply Kd.R_drew)); exact Kd.R_mono HO114.out (fun _ hk => hk.2)))
                                     (case aS => exact (below_size (bB HB)))
                                     (case aL => have := LMc21.out; have hlx_ := (show (x7o.take (x9_1 : Int).toNat).length = x9_1.toNat from (by rw [List.length_take]; have h_ : (x9_1 : Int) ≤ (x7o.length : Int) := of_decide_eq_true aS; omega)); omega)
                                     intro v117 w34 ho hb hg hat
                                     rw [← Ny116.out] at ho
                                     have n0_ := Aside0.mk (blk_grown (g := gb105) (o := .cells #[.slice (some ad107) l0_0.length c0_0, .slice A0_1 l0_1.length c0_1] 52 (0, 0)) (pB BK105) hg (Kd.R_ne HO114.out BK105.out (by decide)))
                                     have n1_ := Aside0.mk (Kd.R_after (ok := (fun _ => True)) (pR HO122) hg hat)
                                     have n2_ := Aside0.mk (hb)
                                     have n3_ := Aside0.mk (ho)
                                     clear BK105
                                     clear HO122
                                     clear HB
                                     clear HO114
                                     have BK105 := n0_
                                     have HO122 := n1_
                                     have HB := n2_
                                     have HO118 := n3_
                                     clear n0_ n1_ n2_ n3_
                                     clear ho hb hg hat
                                     refine hK.out _ _ (((HB.out.cell (World.block_lt_of_cell? wq _ hw119_0)).trans hw119_0)) (fun hHeld => ?_)
                                     clear hK K
                                     refine norm_ (a' := ?_) ?_ ?_
                                     rotate_left
                                     · show Act.put _ (some 50) _ = _
                                       simp only [Act.put, List.setIfInBounds_toArray, List.set_cons_zero, List.set_cons_succ, i64_w, i32_w]
                                       rfl
                                     exact norm_ (by simp only [putAll, Act.put, List.setIfInBounds_toArray, List.set_cons_zero, List.set_cons_succ]) (hCont (v113, v117, v121) _ ⟨hHeld, (pR HO118), (by (with_reducible repeat (first | apply Kd.R_alloc | apply Kd.R_drewN | apply Kd.R_drew)); exact Kd.R_mono HO122.out (fun _ hk => hk.2)), (pB BK105), (bB HB)⟩)
                                 rintro ⟨v113, v117, v121⟩ w35 ⟨hS_, h0_, h1_, h2_, h3_⟩
                                 have n0_ : Aside0 (Kd.R (Kd.int .i64) 3 w35 wq.heap.size (fun k_ => some k_ ≠ (v121 : Value).ownBlock) v117 y116) := ⟨h0_⟩
                                 have n1_ : Aside0 (Kd.R (Kd.int .i64) 3 w35 wq.heap.size (fun k_ => some k_ ≠ (v117 : Value).ownBlock) v121 y120) := ⟨h1_⟩
                                 have n2_ : Aside0 (w35.heap[gb105]? = some (.cells #[.slice (some ad107) l0_0.length c0_0, .slice A0_1 l0_1.length c0_1] 52 (0, 0))) := ⟨h2_⟩
                                 have n3_ : Aside0 (Below wq.heap.size wq w35) := ⟨h3_⟩
                                 clear BK105
                                 clear HB
                                 clear h0_ h1_ h2_ h3_
                                 have HO118 := n0_
                                 have HO122 := n1_
                                 have BK105 := n2_
                                 have HB := n3_
                                 clear n0_ n1_ n2_ n3_
                                 have hHeld : w35.cell? (ad109.add (x8o).toNat) = some (.int .i64 (rd l1 x8o)) := hS_
                                 obtain ⟨Ao37, co37, eo37⟩ := Kd.R_slice HO122.out
                                 (first | subst eo37 | (injection eo37 with f1_ f2_ f3_; have f4_ := f1_.symm; have f5_ := f3_.symm; clear f1_ f2_ f3_; subst f4_; subst f5_))
                                 refine norm_ (a' := ?_) ?_ ?_
                                 rotate_left
                                 · simp only [putAll, Act.put, List.setIfInBounds_toArray, List.set_cons_zero, List.set_cons_succ]
                                   rfl
                                 refine one_ (i := 10) (N := some 56) #[true, true, true, true, true, true, true, true, true, true, true, true, true, true, false, false] rfl rfl (one_of HT_.out (by kernel_rfl)) (by decide) (fun K hK => ?_)
                                 refine Kd.R_append_rows_step (Kd.int .i64) (w0 := wq) wq.heap.size (by rfl) (.tmp 50) (.tmp 55) 22 3 (.int .i64 0) 8 rfl Try.underlying22 info3 rfl (by decide) (by omega) v117 y116 y120 _ _ _ (fun k_ => some k_ ≠ (.slice Ao37 y120.length co37 : Value).ownBlock) (fun _ => False) rfl rfl ?aO ?aR (fun _ _ h => h) (fun _ h => h.elim) ?aF ?aB ?aS ?aL ?_
                                 (case aR => exact cR HO122)
                                 (case aB => exact (bB HB))
                                 (case aF => exact (fun k_ hk => Kd.fresh' (Kd.R_lt (pR HO122)) k_ hk))
                                 (case aO => exact (pR HO118))
                                 (case aS => exact (below_size (bB HB)))
                                 (case aL => have := LMc22.out; omega)
                                 intro v124 w36 ho hb hg hat
                                 rw [← Ny123.out] at ho
                                 have n0_ := Aside0.mk (blk_grown (g := gb105) (o := .cells #[.slice (some ad107) l0_0.length c0_0, .slice A0_1 l0_1.length c0_1] 52 (0, 0)) (pB BK105) hg (Kd.R_ne HO118.out BK105.out (by decide)))
                                 have n1_ := Aside0.mk (Kd.R_after (ok := (fun _ => True)) (by (with_reducible repeat (first | apply Kd.R_alloc | apply Kd.R_drewN | apply Kd.R_drew)); exact Kd.R_mono HO122.out (fun _ hk => ⟨trivial, hk⟩)) hg hat)
                                 have n2_ := Aside0.mk (hb)
                                 have n3_ := Aside0.mk (ho)
                                 clear BK105
                                 clear HO122
                                 clear HB
                                 clear HO118
                                 have BK105 := n0_
                                 have HO122 := n1_
                                 have HB := n2_
                                 have HO125 := n3_
                                 clear n0_ n1_ n2_ n3_
                                 clear ho hb hg hat
                                 refine hK.out _ _ (((HB.out.cell (World.block_lt_of_cell? wq _ hw119_0)).trans hw119_0)) (fun hHeld => ?_)
                                 clear hK K
                                 refine norm_ (a' := ?_) ?_ ?_
                                 rotate_left
                                 · show Act.put _ (some 56) _ = _
                                   simp only [Act.put, List.setIfInBounds_toArray, List.set_cons_zero, List.set_cons_succ, i64_w, i32_w]
                                   rfl
                                 refine one_ (i := 14) (N := some 60) #[true, true, true, true, true, true, true, true, true, true, true, true, true, true, true, false] rfl rfl (one_of HT_.out (by kernel_rfl)) (by decide) (fun K hK => ?_)
                                 refine Kd.R_append_rows_step (Kd.int .i64) (w0 := wq) wq.heap.size (by rfl) (.tmp 56) (.tmp 59) 22 3 (.int .i64 0) 8 rfl Try.underlying22 info3 rfl (by decide) (by omega) v124 y123 (x7o.drop (x9_1 : Int).toNat) _ _ _ (fun k_ => some k_ ≠ (.slice Ao37 y120.length co37 : Value).ownBlock) (fun _ => False) rfl rfl ?aO ?aR (fun _ _ h => h) (fun _ h => h.elim) ?aF ?aB ?aS ?aL ?_
                                 (case aR => first | (have hq_ := Kd.C_below HR126.out HB.out; rw [show (x7o.drop (x9_1 : Int).toNat).length = (x7o.length - x9_1.toNat) from List.length_drop] at hq_; exact hq_) | (rw [← show (x7o.drop (x9_1 : Int).toNat).length = (x7o.length - x9_1.toNat) from List.length_drop]; repeat (first | exact (Kd.C_below HR126.out HB.out) | (with_reducible refine Kd.C_alloc ?_ _) | (with_reducible refine Kd.C_drewN ?_ _) | (with_reducible refine Kd.C_drew ?_))) | (repeat (first | exact (Kd.C_below HR126.out HB.out) | (with_reducible refine Kd.C_alloc ?_ _) | (with_reducible refine Kd.C_drewN ?_ _) | (with_reducible refine Kd.C_drew ?_))))
                                 (case aB => exact (bB HB))
                                 (case aF => exact (fun k_ hk => Kd.fresh' (Kd.R_lt (pR HO122)) k_ hk))
                                 (case aO => exact (pR HO125))
                                 (case aS => exact (below_size (bB HB)))
                                 (case aL => have := LMc25.out; have hlx_ := (show (x7o.drop (x9_1 : Int).toNat).length = (x7o.length - x9_1.toNat) from List.length_drop); omega)
                                 intro v128 w38 ho hb hg hat
                                 rw [← Ny127.out] at ho
                                 have n0_ := Aside0.mk (blk_grown (g := gb105) (o := .cells #[.slice (some ad107) l0_0.length c0_0, .slice A0_1 l0_1.length c0_1] 52 (0, 0)) (pB BK105) hg (Kd.R_ne HO125.out BK105.out (by decide)))
                                 have n1_ := Aside0.mk (Kd.R_after (ok := (fun _ => True)) (pR HO122) hg hat)
                                 have n2_ := Aside0.mk (hb)
                                 have n3_ := Aside0.mk (ho)
                                 clear BK105
                                 clear HO122
                                 clear HB
                                 clear HO125
                                 have BK105 := n0_
                                 have HO122 := n1_
                                 have HB := n2_
                                 have HO129 := n3_
                                 clear n0_ n1_ n2_ n3_
                                 clear ho hb hg hat
                                 refine hK.out _ _ (((HB.out.cell (World.block_lt_of_cell? wq _ hw119_0)).trans hw119_0)) (fun hHeld => ?_)
                                 clear hK K
                                 refine norm_ (a' := ?_) ?_ ?_
                                 rotate_left
                                 · show Act.put _ (some 60) _ = _
                                   simp only [Act.put, List.setIfInBounds_toArray, List.set_cons_zero, List.set_cons_succ, i64_w, i32_w]
                                   rfl
                                 refine pure_ (i := 15) (N := some 7) (v := ?_) (a' := ?_) #[true, true, true, true, true, true, true, true, true, true, true, true, true, true, true, true] rfl rfl (any_of HT_.out (by kernel_rfl)) (fun _ _ _ h => h) (Or.inl ⟨by rfl, ?_⟩) ?_ ?_
                                 rotate_left
                                 · intro w'
                                   go_simp
                                   with_reducible rfl
                                 rotate_left
                                 · exact aP
                                 refine done_ (done_of HT_.out (by kernel_rfl)) ?_
                                 try go_wp2
                                 go_roundg ko
                                 case measure => have := HKo.out; omega
                                 case rel => exact ⟨_, wrap64 (x8o + 1), rD, HN, ⟨by have := HKo.out; omega⟩, ⟨Kd.R_lower (by (with_reducible repeat (first | apply Kd.R_alloc | apply Kd.R_drewN | apply Kd.R_drew)); exact Kd.R_mono HO129.out (fun _ hk => trivial)) HBo.out.size⟩, ⟨pB BK105⟩, ⟨below_step HBo.out (bB HB)⟩⟩
                               · rw [if_neg c25] at H
                                 exact absurd H (by simp)
                             · rw [if_neg c22] at H
                               exact absurd H (by simp)
                           · rw [if_neg c21] at H
                             exact absurd H (by simp)
                         · rw [if_neg c20] at H
                           exact absurd H (by simp)
                     · rw [if_neg c15] at H
                       exact absurd H (by simp)
                   · rw [if_neg c14] at H
                     exact absurd H (by simp)
                 · rw [if_neg c13] at H
                   exact absurd H (by simp)
               · rw [if_neg c12] at H
                 exact absurd H (by simp)
             · rw [if_neg c10] at H
               exact absurd H (by simp)
           · rw [if_neg c9] at H
             exact absurd H (by simp)
         · rw [if_neg c8] at H
           exact absurd H (by simp)
       · rw [if_neg c7] at H
         have c7b0 : decide (x9_1 < (x7o.length : Int)) = false := decide_eq_false c7
         clear c7
         obtain ⟨y130, hy130⟩ : ∃ y_ : List Int, y_ = (([] : List Int)) := ⟨_, rfl⟩
         replace H : (if 0 ≤ x9_1 then (if x9_1 ≤ (x7o.length : Int) then (if y130.length + (x7o.take (x9_1 : Int).toNat).length < 17592186044416 then ((some (y130 ++ (x7o.take (x9_1 : Int).toNat) : List Int)).bind fun y134 => (if 0 ≤ x8o then (if x8o < (l1.length : Int) then ((some (([rd l1 x8o] : List Int) : List Int)).bind fun y138 => (if y134.length + y138.length < 17592186044416 then ((some (y134 ++ y138 : List Int)).bind fun y141 => (if y141.length + (x7o.drop (x9_1 : Int).toNat).length < 17592186044416 then (some (y141 ++ (x7o.drop (x9_1 : Int).toNat))) else (none))) else (none))) else (none)) else (none))) else (none)) else (none)) else (none)) = some yq := by first | (rw [hy130]; with_reducible exact H) | (have H2_ := (Option.bind_some _ _).symm.trans H; rw [hy130]; with_reducible exact H2_) | (have H2_ := (Option.bind_some _ _).symm.trans H; with_reducible exact H2_) | with_reducible exact H | (rw [hy130]; exact H) | exact H
         have Ny130 := Aside0.mk hy130
         clear hy130
         by_cases c39 : 0 ≤ x9_1
         · rw [if_pos c39] at H
           have c39b0 := eq_true c39
           have c39b1 : decide (0 ≤ x9_1) = true := decide_eq_true c39
           clear c39
           by_cases c40 : x9_1 ≤ (x7o.length : Int)
           · rw [if_pos c40] at H
             have c40b0 := eq_true c40
             have c40b1 : decide (x9_1 ≤ (x7o.length : Int)) = true := decide_eq_true c40
             clear c40
             by_cases c41 : y130.length + (x7o.take (x9_1 : Int).toNat).length < 17592186044416
             · rw [if_pos c41] at H
               have LMc41 := Aside0.mk c41
               clear c41
               obtain ⟨y134, hy134⟩ : ∃ y_ : List Int, y_ = (y130 ++ (x7o.take (x9_1 : Int).toNat)) := ⟨_, rfl⟩
               replace H : (if 0 ≤ x8o then (if x8o < (l1.length : Int) then ((some (([rd l1 x8o] : List Int) : List Int)).bind fun y138 => (if y134.length + y138.length < 17592186044416 then ((some (y134 ++ y138 : List Int)).bind fun y141 => (if y141.length + (x7o.drop (x9_1 : Int).toNat).length < 17592186044416 then (some (y141 ++ (x7o.drop (x9_1 : Int).toNat))) else (none))) else (none))) else (none)) else (none)) = some yq := by first | (rw [hy134]; with_reducible exact H) | (have H2_ := (Option.bind_some _ _).symm.trans H; rw [hy134]; with_reducible exact H2_) | (have H2_ := (Option.bind_some _ _).symm.trans H; with_reducible exact H2_) | with_reducible exact H | (rw [hy134]; exact H) | exact H
               have Ny134 := Aside0.mk hy134
               clear hy134
               by_cases c42 : 0 ≤ x8o
               · rw [if_pos c42] at H
                 have c42b0 : decide (0 ≤ x8o) = true := decide_eq_true c42
                 clear c42
                 by_cases c43 : x8o < (l1.length : Int)
                 · rw [if_pos c43] at H
                   have c43b0 : decide (x8o < (l1.length : Int)) = true := decide_eq_true c43
                   clear c43
                   obtain ⟨y138, hy138⟩ : ∃ y_ : List Int, y_ = (([rd l1 x8o] : List Int)) := ⟨_, rfl⟩
                   replace H : (if y134.length + y138.length < 17592186044416 then ((some (y134 ++ y138 : List Int)).bind fun y141 => (if y141.length + (x7o.drop (x9_1 : Int).toNat).length < 17592186044416 then (some (y141 ++ (x7o.drop (x9_1 : Int).toNat))) else (none))) else (none)) = some yq := by first | (rw [hy138]; with_reducible exact H) | (have H2_ := (Option.bind_some _ _).symm.trans H; rw [hy138]; with_reducible exact H2_) | (have H2_ := (Option.bind_some _ _).symm.trans H; with_reducible exact H2_) | with_reducible exact H | (rw [hy138]; exact H) | exact H
                   have Ny138 := Aside0.mk hy138
                   clear hy138
                   by_cases c44 : y134.length + y138.length < 17592186044416
                   · rw [if_pos c44] at H
                     have LMc44 := Aside0.mk c44
                     clear c44
                     obtain ⟨y141, hy141⟩ : ∃ y_ : List Int, y_ = (y134 ++ y138) := ⟨_, rfl⟩
                     replace H : (if y141.length + (x7o.drop (x9_1 : Int).toNat).length < 17592186044416 then (some (y141 ++ (x7o.drop (x9_1 : Int).toNat))) else (none)) = some yq := by first | (rw [hy141]; with_reducible exact H) | (have H2_ := (Option.bind_some _ _).symm.trans H; rw [hy141]; with_reducible exact H2_) | (have H2_ := (Option.bind_some _ _).symm.trans H; with_reducible exact H2_) | with_reducible exact H | (rw [hy141]; exact H) | exact H
                     have Ny141 := Aside0.mk hy141
                     clear hy141
                     have c45b0 := eq_true (of_decide_eq_true aS : 0 ≤ x9_1)
                     have c46b0 := eq_true (of_decide_eq_true aS : x9_1 ≤ (x7o.length : Int))
                     by_cases c47 : y141.length + (x7o.drop (x9_1 : Int).toNat).length < 17592186044416
                     · rw [if_pos c47] at H
                       have LMc47 := Aside0.mk c47
                       clear c47
                       obtain ⟨y145, hy145⟩ : ∃ y_ : List Int, y_ = (y141 ++ (x7o.drop (x9_1 : Int).toNat)) := ⟨_, rfl⟩
                       replace H : (some y145) = some yq := by first | (rw [hy145]; with_reducible exact H) | (have H2_ := (Option.bind_some _ _).symm.trans H; rw [hy145]; with_reducible exact H2_) | (have H2_ := (Option.bind_some _ _).symm.trans H; with_reducible exact H2_) | with_reducible exact H | (rw [hy145]; exact H) | exact H
                       have Ny145 := Aside0.mk hy145
                       clear hy145
                       obtain rfl := Option.some.inj H
                       try go_wp2
                       have n0_ := Aside0.mk (blk_drew BK105.out)
                       have n1_ := Aside0.mk (below_drew1 HB.out)
                       clear BK105
                       clear HB
                       have BK105 := n0_
                       have HB := n1_
                       clear n0_ n1_
                       refine start_ (n := 27) (S := fun w' => True) (ds := []) #[false, false, false, false, false, false, false, false, false, false, false, false, false, false, false, false, false, false, false, false, false, false, false, false, false, false, false] (by kernel_rfl) rfl rfl trivial (fun hHeld => ?_); refine with_tabW spec_l10Near.tab6 spec_l10Near.bits6 (fun HT_ HW_ => ?_)
                       generalize wr.drew = w48 at BK105 HB hHeld ⊢
                       refine pure_ (i := 0) (N := some 17) (v := ?_) (a' := ?_) #[true, false, false, false, false, false, false, false, false, false, false, false, false, false, false, false, false, false, false, false, false, false, false, false, false, false, false] rfl rfl (any_of HT_.out (by kernel_rfl)) (fun _ _ _ h => h) (Or.inl ⟨by rfl, ?_⟩) ?_ ?_
                       rotate_left
                       · intro w'
                         go_simp
                         with_reducible rfl
                       rotate_left
                       · exact aP
                       refine pure_ (i := 1) (N := some 18) (v := ?_) (a' := ?_) #[true, true, false, false, false, false, false, false, false, false, false, false, false, false, false, false, false, false, false, false, false, false, false, false, false, false, false] rfl rfl (any_of HT_.out (by kernel_rfl)) (fun _ _ _ h => h) (Or.inl ⟨by rfl, ?_⟩) ?_ ?_
                       rotate_left
                       · intro w'
                         go_simp
                         with_reducible rfl
                       rotate_left
                       · exact aP
                       refine pure_ (i := 2) (N := some 19) (v := ?_) (a' := ?_) #[true, true, true, false, false, false, false, false, false, false, false, false, false, false, false, false, false, false, false, false, false, false, false, false, false, false, false] rfl rfl (any_of HT_.out (by kernel_rfl)) (fun _ _ _ h => h) (Or.inl ⟨by rfl, ?_⟩) ?_ ?_
                       rotate_left
                       · intro w'
                         go_simp
                         with_reducible rfl
                       rotate_left
                       · exact aP
                       refine pure_ (i := 3) (N := some 20) (v := ?_) (a' := ?_) #[true, true, true, true, false, false, false, false, false, false, false, false, false, false, false, false, false, false, false, false, false, false, false, false, false, false, false] rfl rfl (any_of HT_.out (by kernel_rfl)) (fun _ _ _ h => h) (Or.inl ⟨by rfl, ?_⟩) ?_ ?_
                       rotate_left
                       · intro w'
                         go_simp
                         with_reducible rfl
                       rotate_left
                       · exact aP
                       refine pure_ (i := 4) (N := some 21) (v := ?_) (a' := ?_) #[true, true, true, true, true, false, false, false, false, false, false, false, false, false, false, false, false, false, false, false, false, false, false, false, false, false, false] rfl rfl (any_of HT_.out (by kernel_rfl)) (fun _ _ _ h => h) (Or.inl ⟨by rfl, ?_⟩) ?_ ?_
                       rotate_left
                       · intro w'
                         go_simp
                         with_reducible rfl
                       rotate_left
                       · exact aP
                       refine pure_ (i := 5) (N := some 22) (v := undef) (a' := ?_) #[true, true, true, true, true, true, false, false, false, false, false, false, false, false, false, false, false, false, false, false, false, false, false, false, false, false, false] rfl rfl (any_of HT_.out (by kernel_rfl)) (fun _ _ _ h => h) (Or.inr ⟨by rfl, rfl⟩) ?_ ?_
                       rotate_left
                       · exact aP
                       refine pure_ (i := 6) (N := some 23) (v := undef) (a' := ?_) #[true, true, true, true, true, true, true, false, false, false, false, false, false, false, false, false, false, false, false, false, false, false, false, false, false, false, false] rfl rfl (any_of HT_.out (by kernel_rfl)) (fun _ _ _ h => h) (Or.inr ⟨by rfl, rfl⟩) ?_ ?_
                       rotate_left
                       · exact aP
                       refine pure_ (i := 7) (N := some 24) (v := undef) (a' := ?_) #[true, true, true, true, true, true, true, true, false, false, false, false, false, false, false, false, false, false, false, false, false, false, false, false, false, false, false] rfl rfl (any_of HT_.out (by kernel_rfl)) (fun _ _ _ h => h) (Or.inr ⟨by rfl, rfl⟩) ?_ ?_
                       rotate_left
                       · exact aP
                       refine pure_ (i := 8) (N := some 25) (v := undef) (a' := ?_) #[true, true, true, true, true, true, true, true, true, false, false, false, false, false, false, false, false, false, false, false, false, false, false, false, false, false, false] rfl rfl (any_of HT_.out (by kernel_rfl)) (fun _ _ _ h => h) (Or.inr ⟨by rfl, rfl⟩) ?_ ?_
                       rotate_left
                       · exact aP
                       refine pure_ (i := 9) (N := some 26) (v := undef) (a' := ?_) #[true, true, true, true, true, true, true, true, true, true, false, false, false, false, false, false, false, false, false, false, false, false, false, false, false, false, false] rfl rfl (any_of HT_.out (by kernel_rfl)) (fun _ _ _ h => h) (Or.inr ⟨by rfl, rfl⟩) ?_ ?_
                       rotate_left
                       · exact aP
                       refine pure_ (i := 10) (N := some 27) (v := undef) (a' := ?_) #[true, true, true, true, true, true, true, true, true, true, true, false, false, false, false, false, false, false, false, false, false, false, false, false, false, false, false] rfl rfl (any_of HT_.out (by kernel_rfl)) (fun _ _ _ h => h) (Or.inr ⟨by rfl, rfl⟩) ?_ ?_
                       rotate_left
                       · exact aP
                       refine pure_ (i := 11) (N := some 28) (v := undef) (a' := ?_) #[true, true, true, true, true, true, true, true, true, true, true, true, false, false, false, false, false, false, false, false, false, false, false, false, false, false, false] rfl rfl (any_of HT_.out (by kernel_rfl)) (fun _ _ _ h => h) (Or.inr ⟨by rfl, rfl⟩) ?_ ?_
                       rotate_left
                       · exact aP
                       refine pure_ (i := 12) (N := some 29) (v := undef) (a' := ?_) #[true, true, true, true, true, true, true, true, true, true, true, true, true, false, false, false, false, false, false, false, false, false, false, false, false, false, false] rfl rfl (any_of HT_.out (by kernel_rfl)) (fun _ _ _ h => h) (Or.inr ⟨by rfl, rfl⟩) ?_ ?_
                       rotate_left
                       · exact aP
                       refine pure_ (i := 13) (N := some 30) (v := undef) (a' := ?_) #[true, true, true, true, true, true, true, true, true, true, true, true, true, true, false, false, false, false, false, false, false, false, false, false, false, false, false] rfl rfl (any_of HT_.out (by kernel_rfl)) (fun _ _ _ h => h) (Or.inr ⟨by rfl, rfl⟩) ?_ ?_
                       rotate_left
                       · exact aP
                       refine pure_ (i := 14) (N := some 31) (v := undef) (a' := ?_) #[true, true, true, true, true, true, true, true, true, true, true, true, true, true, true, false, false, false, false, false, false, false, false, false, false, false, false] rfl rfl (any_of HT_.out (by kernel_rfl)) (fun _ _ _ h => h) (Or.inr ⟨by rfl, rfl⟩) ?_ ?_
                       rotate_left
                       · exact aP
                       refine pure_ (i := 15) (N := some 32) (v := undef) (a' := ?_) #[true, true, true, true, true, true, true, true, true, true, true, true, true, true, true, true, false, false, false, false, false, false, false, false, false, false, false] rfl rfl (any_of HT_.out (by kernel_rfl)) (fun _ _ _ h => h) (Or.inr ⟨by rfl, rfl⟩) ?_ ?_
                       rotate_left
                       · exact aP
                       refine pure_ (i := 16) (N := some 33) (v := undef) (a' := ?_) #[true, true, true, true, true, true, true, true, true, true, true, true, true, true, true, true, true, false, false, false, false, false, false, false, false, false, false] rfl rfl (any_of HT_.out (by kernel_rfl)) (fun _ _ _ h => h) (Or.inr ⟨by rfl, rfl⟩) ?_ ?_
                       rotate_left
                       · exact aP
                       refine pure_ (i := 17) (N := some 34) (v := undef) (a' := ?_) #[true, true, true, true, true, true, true, true, true, true, true, true, true, true, true, true, true, true, false, false, false, false, false, false, false, false, false] rfl rfl (any_of HT_.out (by kernel_rfl)) (fun _ _ _ h => h) (Or.inr ⟨by rfl, rfl⟩) ?_ ?_
                       rotate_left
                       · exact aP
                       refine pure_ (i := 18) (N := some 35) (v := undef) (a' := ?_) #[true, true, true, true, true, true, true, true, true, true, true, true, true, true, true, true, true, true, true, false, false, false, false, false, false, false, false] rfl rfl (any_of HT_.out (by kernel_rfl)) (fun _ _ _ h => h) (Or.inr ⟨by rfl, rfl⟩) ?_ ?_
                       rotate_left
                       · exact aP
                       refine pure_ (i := 19) (N := some 36) (v := undef) (a' := ?_) #[true, true, true, true, true, true, true, true, true, true, true, true, true, true, true, true, true, true, true, true, false, false, false, false, false, false, false] rfl rfl (any_of HT_.out (by kernel_rfl)) (fun _ _ _ h => h) (Or.inr ⟨by rfl, rfl⟩) ?_ ?_
                       rotate_left
                       · exact aP
                       refine pure_ (i := 20) (N := some 37) (v := undef) (a' := ?_) #[true, true, true, true, true, true, true, true, true, true, true, true, true, true, true, true, true, true, true, true, true, false, false, false, false, false, false] rfl rfl (any_of HT_.out (by kernel_rfl)) (fun _ _ _ h => h) (Or.inr ⟨by rfl, rfl⟩) ?_ ?_
                       rotate_left
                       · exact aP
                       refine pure_ (i := 21) (N := some 38) (v := undef) (a' := ?_) #[true, true, true, true, true, true, true, true, true, true, true, true, true, true, true, true, true, true, true, true, true, true, false, false, false, false, false] rfl rfl (any_of HT_.out (by kernel_rfl)) (fun _ _ _ h => h) (Or.inr ⟨by rfl, rfl⟩) ?_ ?_
                       rotate_left
                       · exact aP
                       refine pure_ (i := 22) (N := some 39) (v := undef) (a' := ?_) #[true, true, true, true, true, true, true, true, true, true, true, true, true, true, true, true, true, true, true, true, true, true, true, false, false, false, false] rfl rfl (any_of HT_.out (by kernel_rfl)) (fun _ _ _ h => h) (Or.inr ⟨by rfl, rfl⟩) ?_ ?_
                       rotate_left
                       · exact aP
                       refine pure_ (i := 23) (N := some 40) (v := undef) (a' := ?_) #[true, true, true, true, true, true, true, true, true, true, true, true, true, true, true, true, true, true, true, true, true, true, true, true, false, false, false] rfl rfl (any_of HT_.out (by kernel_rfl)) (fun _ _ _ h => h) (Or.inr ⟨by rfl, rfl⟩) ?_ ?_
                       rotate_left
                       · exact aP
                       refine pure_ (i := 24) (N := some 41) (v := undef) (a' := ?_) #[true, true, true, true, true, true, true, true, true, true, true, true, true, true, true, true, true, true, true, true, true, true, true, true, true, false, false] rfl rfl (any_of HT_.out (by kernel_rfl)) (fun _ _ _ h => h) (Or.inr ⟨by rfl, rfl⟩) ?_ ?_
                       rotate_left
                       · exact aP
                       refine pure_ (i := 25) (N := some 42) (v := undef) (a' := ?_) #[true, true, true, true, true, true, true, true, true, true, true, true, true, true, true, true, true, true, true, true, true, true, true, true, true, true, false] rfl rfl (any_of HT_.out (by kernel_rfl)) (fun _ _ _ h => h) (Or.inr ⟨by rfl, rfl⟩) ?_ ?_
                       rotate_left
                       · exact aP
                       refine pure_ (i := 26) (N := some 43) (v := ?_) (a' := ?_) #[true, true, true, true, true, true, true, true, true, true, true, true, true, true, true, true, true, true, true, true, true, true, true, true, true, true, true] rfl rfl (any_of HT_.out (by kernel_rfl)) (fun _ _ _ h => h) (Or.inl ⟨by rfl, ?_⟩) ?_ ?_
                       rotate_left
                       · intro w'
                         go_simp
                         with_reducible rfl
                       rotate_left
                       · exact aP
                       refine done_ (done_of HT_.out (by kernel_rfl)) ?_
                       try go_wp2
                       have n0_ := Aside0.mk (blk_drew BK105.out)
                       have n1_ := Aside0.mk (below_drew1 HB.out)
                       clear BK105
                       clear HB
                       have BK105 := n0_
                       have HB := n1_
                       clear n0_ n1_
                       obtain ⟨i050, hi050, _, hsz50, _⟩ := info_parts info3
                       obtain ⟨hcut50, hA50, hC50⟩ := print_take_of (P := Try.prog) (Value.int .i64) 0 22 3 .i64 Try.underlying22 hi050 hsz50 Aq cq x7o x9_1 (of_decide_eq_true aS) (of_decide_eq_true aS) HCq.out
                       have HR133 := Aside0.mk (Kd.C_of_reads (h1 := fun _ => rfl) (hA50 _ (Kd.reads_of_C HRq.out)))
                       have HC133 := Aside0.mk hC50
                       clear hA50 hC50 hi050 hsz50
                       have p137 : 0 ≤ (x8o : Int) := of_decide_eq_true aS
                       have q137 : x8o < (l1.length : Int) := of_decide_eq_true aS
                       obtain ⟨ad137, e137, hx137_0⟩ := Kd.at_int HR1.out x8o p137 q137
                       have hw137_0 := hx137_0
                       cases e137
                       replace hx137_0 := (HB.out.cell (World.block_lt_of_cell? wq _ hx137_0)).trans hx137_0
                       replace p137 := eq_true p137
                       replace q137 := eq_true q137
                       obtain ⟨i051, hi051, _, hsz51, _⟩ := info_parts info3
                       obtain ⟨A51, hcut51, hA51, hC51⟩ := print_drop_of (P := Try.prog) (Value.int .i64) 0 22 3 .i64 Try.underlying22 hi051 hsz51 Aq cq x7o x9_1 (of_decide_eq_true aS) (of_decide_eq_true aS) HCq.out
                       have HR144 := Aside0.mk (Kd.C_of_reads (h1 := fun _ => rfl) (hA51 _ (Kd.reads_of_C HRq.out)))
                       have HC144 := Aside0.mk hC51
                       clear hA51 hC51 hi051 hsz51
                       refine start_ (n := 16) (S := fun w' => w'.cell? (ad137.add (x8o).toNat) = some (.int .i64 (rd l1 x8o))) (ds := []) #[false, false, false, false, false, false, false, false, false, false, false, false, false, false, false, false] (by kernel_rfl) rfl rfl (((HB.out.cell (World.block_lt_of_cell? wq _ hw137_0)).trans hw137_0)) (fun hHeld => ?_); refine with_tabW spec_l10Near.tab8 spec_l10Near.bits8 (fun HT_ HW_ => ?_)
                       generalize w48.drew = w49 at BK105 HB HR133 HR144 hx137_0 hHeld ⊢
                       refine pure_ (i := 1) (N := some 47) (v := ?_) (a' := ?_) #[false, true, false, false, false, false, false, false, false, false, false, false, false, false, false, false] rfl rfl (any_of HT_.out (by kernel_rfl)) (fun _ _ _ h => h) (Or.inl ⟨by rfl, ?_⟩) ?_ ?_
                       rotate_left
                       · intro w'
                         go_simp
                         with_reducible rfl
                       rotate_left
                       · exact aP
                       refine pure_ (i := 2) (N := some 48) (v := ?_) (a' := ?_) #[false, true, true, false, false, false, false, false, false, false, false, false, false, false, false, false] rfl rfl (any_of HT_.out (by kernel_rfl)) (fun _ _ _ h => h) (Or.inl ⟨by rfl, ?_⟩) ?_ ?_
                       rotate_left
                       · intro w'
                         go_simp
                         with_reducible rfl
                       rotate_left
                       · exact aP
                       refine pure_ (i := 3) (N := some 49) (v := ?_) (a' := ?_) #[false, true, true, true, false, false, false, false, false, false, false, false, false, false, false, false] rfl rfl (any_of HT_.out (by kernel_rfl)) (fun _ _ _ h => h) (Or.inl ⟨by rfl, ?_⟩) ?_ ?_
                       rotate_left
                       · intro w'
                         go_simp
                         with_reducible rfl
                       rotate_left
                       · exact aP
                       refine pure_ (i := 5) (N := some 51) (v := ?_) (a' := ?_) #[false, true, true, true, false, true, false, false, false, false, false, false, false, false, false, false] rfl rfl (any_of HT_.out (by kernel_rfl)) (fun _ _ _ h => h) (Or.inl ⟨by rfl, ?_⟩) ?_ ?_
                       rotate_left
                       · intro w'
                         go_simp
                         with_reducible rfl
                       rotate_left
                       · exact aP
                       refine pure_ (i := 6) (N := some 52) (v := ?_) (a' := ?_) #[false, true, true, true, false, true, true, false, false, false, false, false, false, false, false, false] rfl rfl (any_of HT_.out (by kernel_rfl)) (fun _ _ _ h => h) (Or.inl ⟨by rfl, ?_⟩) ?_ ?_
                       rotate_left
                       · intro w'
                         go_simp
                         with_reducible rfl
                       rotate_left
                       · exact aP
                       refine pure_ (i := 7) (N := some 53) (v := ?_) (a' := ?_) #[false, true, true, true, false, true, true, true, false, false, false, false, false, false, false, false] rfl rfl (any_of HT_.out (by kernel_rfl)) (fun _ _ _ h => h) (Or.inl ⟨by rfl, ?_⟩) ?_ ?_
                       rotate_left
                       · intro w'
                         go_simp
                         with_reducible rfl
                       rotate_left
                       · exact aP
                       refine pure_ (i := 11) (N := some 57) (v := ?_) (a' := ?_) #[false, true, true, true, false, true, true, true, false, false, false, true, false, false, false, false] rfl rfl (any_of HT_.out (by kernel_rfl)) (fun _ _ _ h => h) (Or.inl ⟨by rfl, ?_⟩) ?_ ?_
                       rotate_left
                       · intro w'
                         go_simp
                         with_reducible rfl
                       rotate_left
                       · exact aP
                       refine pure_ (i := 12) (N := some 58) (v := ?_) (a' := ?_) #[false, true, true, true, false, true, true, true, false, false, false, true, true, false, false, false] rfl rfl (any_of HT_.out (by kernel_rfl)) (fun _ _ _ h => h) (Or.inl ⟨by rfl, ?_⟩) ?_ ?_
                       rotate_left
                       · intro w'
                         go_simp
                         with_reducible rfl
                       rotate_left
                       · exact aP
                       refine pure_ (i := 13) (N := some 59) (v := ?_) (a' := ?_) #[false, true, true, true, false, true, true, true, false, false, false, true, true, true, false, false] rfl rfl (any_of HT_.out (by kernel_rfl)) (fun _ _ _ h => h) (Or.inl ⟨by rfl, ?_⟩) ?_ ?_
                       rotate_left
                       · intro w'
                         go_simp
                         with_reducible rfl
                       rotate_left
                       · exact aP
                       refine take_ (i := 8) (N := some 54) (v := ?_) (a' := ?_) #[false, true, true, true, false, true, true, true, true, false, false, true, true, true, false, false] rfl rfl (take_ofW HT_.out HW_.out (by kernel_rfl)) (fun _ _ _ h => h) (Or.inl ⟨by rfl, ?_⟩) hHeld ?_ ?_
                       rotate_left
                       · intro w' s0
                         go_simp
                         with_reducible rfl
                       rotate_left
                       · exact aP
                       refine join_ (σ := Value × Value × Value) 3 #[true, true, true, true, true, true, true, true, true, true, false, true, true, true, false, false] (fun s_ => [(46, s_.1), (50, s_.2.1), (55, s_.2.2)]) (fun s_ w' => (w'.cell? (ad137.add (x8o).toNat) = some (.int .i64 (rd l1 x8o))) ∧ (Kd.R (Kd.int .i64) 3 w' wq.heap.size (fun k_ => some k_ ≠ (s_.2.2 : Value).ownBlock) s_.2.1 y134) ∧ (Kd.R (Kd.int .i64) 3 w' wq.heap.size (fun k_ => some k_ ≠ (s_.2.1 : Value).ownBlock) s_.2.2 y138) ∧ (w'.heap[gb105]? = some (.cells #[.slice A0_0 l0_0.length c0_0, .slice A0_1 l0_1.length c0_1] 52 (0, 0))) ∧ (Below wq.heap.size wq w')) ?_ ?_
                       rotate_left
                       · intro hCont
                         refine two_ (i := 0) (j := 9) (Ni := some 46) (Nj := some 55) #[true, true, true, true, false, true, true, true, true, false, false, true, true, true, false, false] #[false, true, true, true, false, true, true, true, true, true, false, true, true, true, false, false] rfl rfl rfl rfl (two_of HT_.out (by kernel_rfl)) (by decide) (by decide) (fun K hK => ?_) (fun K hK => ?_)
                         · skip
                           refine Kd.R_lit_step (Kd.int .i64) _ 3 ?hg (N := 46) ?hd (xs := ([] : List Int)) (inner := []) (ok := fun _ => True) (okp := fun _ => True) ?hr ?hp (fun _ hk => hk) trivial (Below.refl _ _) (Nat.le_refl _) (by simp) ?_; (case hd => rfl); (case hg => rfl); (case hr => first | (go_simp; done) | (go_simp; rfl)); (case hp => exact (Reps.none _ _))
                           intro v131 w52 ho53 hb hg_ hnew_
                           clear hg_ hnew_
                           (first | rw [← Ny130.out] at ho53 | (simp only [Int.reduceToNat] at ho53; rw [← Ny130.out] at ho53))
                           have n0_ := Aside0.mk (Kd.R_lower ho53 (below_size (bB HB)))
                           have n1_ := Aside0.mk (bW BK105 hb)
                           have n2_ := Aside0.mk (below_step (bB HB) hb)
                           clear BK105
                           clear HB
                           have HO132 := n0_
                           have BK105 := n1_
                           have HB := n2_
                           clear n0_ n1_ n2_
                           clear hb ho53
                           refine hK.out _ _ (((HB.out.cell (World.block_lt_of_cell? wq _ hw137_0)).trans hw137_0)) (fun hHeld => ?_)
                           clear hK K
                           refine norm_ (a' := ?_) ?_ ?_
                           rotate_left
                           · show Act.put _ (some 46) _ = _
                             simp only [Act.put, List.setIfInBounds_toArray, List.set_cons_zero, List.set_cons_succ, i64_w, i32_w]
                             rfl
                           refine two_ (i := 4) (j := 9) (Ni := some 50) (Nj := some 55) #[true, true, true, true, true, true, true, true, true, false, false, true, true, true, false, false] #[true, true, true, true, false, true, true, true, true, true, false, true, true, true, false, false] rfl rfl rfl rfl (two_of HT_.out (by kernel_rfl)) (by decide) (by decide) (fun K hK => ?_) (fun K hK => ?_)
                           · skip
                             refine Kd.R_append_rows_step (Kd.int .i64) (w0 := wq) wq.heap.size (by rfl) (.tmp 46) (.tmp 49) 22 3 (.int .i64 0) 8 rfl Try.underlying22 info3 rfl (by decide) (by omega) v131 y130 (x7o.take (x9_1 : Int).toNat) _ _ _ (fun _ => True) (fun _ => False) rfl rfl ?aO ?aR (fun _ _ h => h) (fun _ h => h.elim) ?aF ?aB ?aS ?aL ?_
                             (case aR => first | (have hq_ := Kd.C_below HR133.out HB.out; rw [show (x7o.take (x9_1 : Int).toNat).length = x9_1.toNat from (by rw [List.length_take]; have h_ : (x9_1 : Int) ≤ (x7o.length : Int) := of_decide_eq_true aS; omega)] at hq_; exact hq_) | (rw [← show (x7o.take (x9_1 : Int).toNat).length = x9_1.toNat from (by rw [List.length_take]; have h_ : (x9_1 : Int) ≤ (x7o.length : Int) := of_decide_eq_true aS; omega)]; repeat (first | exact (Kd.C_below HR133.out HB.out) | (with_reducible refine Kd.C_alloc ?_ _) | (with_reducible refine Kd.C_drewN ?_ _) | (with_reducible refine Kd.C_drew ?_))) | (repeat (first | exact (Kd.C_below HR133.out HB.out) | (with_reducible refine Kd.C_alloc ?_ _) | (with_reducible refine Kd.C_drewN ?_ _) | (with_reducible refine Kd.C_drew ?_))))
                             (case aB => exact (bB HB))
                             (case aF => exact (fun _ _ => trivial))
                             (case aO => exact (pR HO132))
                             (case aS => exact (below_size (bB HB)))
                             (case aL => have := LMc41.out; have hlx_ := (show (x7o.take (x9_1 : Int).toNat).length = x9_1.toNat from (by rw [List.length_take]; have h_ : (x9_1 : Int) ≤ (x7o.length : Int) := of_decide_eq_true aS; omega)); omega)
                             intro v135 w54 ho hb hg hat
                             rw [← Ny134.out] at ho
                             have n0_ := Aside0.mk (blk_grown (g := gb105) (o := .cells #[.slice A0_0 l0_0.length c0_0, .slice A0_1 l0_1.length c0_1] 52 (0, 0)) (pB BK105) hg (Kd.R_ne HO132.out BK105.out (by decide)))
                             have n1_ := Aside0.mk (hb)
                             have n2_ := Aside0.mk (ho)
                             clear BK105
                             clear HB
                             clear HO132
                             have BK105 := n0_
                             have HB := n1_
                             have HO136 := n2_
                             clear n0_ n1_ n2_
                             clear ho hb hg hat
                             refine hK.out _ _ (((HB.out.cell (World.block_lt_of_cell? wq _ hw137_0)).trans hw137_0)) (fun hHeld => ?_)
                             clear hK K
                             refine norm_ (a' := ?_) ?_ ?_
                             rotate_left
                             · show Act.put _ (some 50) _ = _
                               simp only [Act.put, List.setIfInBounds_toArray, List.set_cons_zero, List.set_cons_succ, i64_w, i32_w]
                               rfl
                             refine one_ (i := 9) (N := some 55) #[true, true, true, true, true, true, true, true, true, true, false, true, true, true, false, false] rfl rfl (one_of HT_.out (by kernel_rfl)) (by decide) (fun K hK => ?_)
                             refine Kd.R_lit_step (Kd.int .i64) _ 3 ?hg (N := 55) ?hd (xs := ([rd l1 x8o] : List Int)) (inner := [.int .i64 (rd l1 x8o)]) (ok := fun _ => True) (okp := fun _ => True) ?hr ?hp (fun _ hk => hk) trivial (Below.refl _ _) (Nat.le_refl _) (by simp) ?_; (case hd => rfl); (case hg => rfl); (case hr => first | (go_simp; done) | (go_simp; rfl)); (case hp => exact (Reps.one (show Kd.M (Kd.int .i64) _ _ _ (rd l1 x8o) [.int .i64 (rd l1 x8o)] from rfl) (Reps.none _ _)))
                             intro v139 w55 ho56 hb hg_ hnew_
                             clear hg_ hnew_
                             (first | rw [← Ny138.out] at ho56 | (simp only [Int.reduceToNat] at ho56; rw [← Ny138.out] at ho56))
                             have n0_ := Aside0.mk (Kd.R_elder' (pR HO136) (Kd.R_base ho56) hb)
                             have n1_ := Aside0.mk (Kd.R_lower (Kd.R_new' ho56 (Kd.R_lt (pR HO136))) (below_size (bB HB)))
                             have n2_ := Aside0.mk (bW BK105 hb)
                             have n3_ := Aside0.mk (below_step (bB HB) hb)
                             clear HO136
                             clear BK105
                             clear HB
                             have HO136 := n0_
                             have HO140 := n1_
                             have BK105 := n2_
                             have HB := n3_
                             clear n0_ n1_ n2_ n3_
                             clear hb ho56
                             refine hK.out _ _ (((HB.out.cell (World.block_lt_of_cell? wq _ hw137_0)).trans hw137_0)) (fun hHeld => ?_)
                             clear hK K
                             refine norm_ (a' := ?_) ?_ ?_
                             rotate_left
                             · show Act.put _ (some 55) _ = _
                               simp only [Act.put, List.setIfInBounds_toArray, List.set_cons_zero, List.set_cons_succ, i64_w, i32_w]
                               rfl
                             exact norm_ (by simp only [putAll, Act.put, List.setIfInBounds_toArray, List.set_cons_zero, List.set_cons_succ]) (hCont (v131, v135, v139) _ ⟨hHeld, (by (with_reducible repeat (first | apply Kd.R_alloc | apply Kd.R_drewN | apply Kd.R_drew)); exact Kd.R_mono HO136.out (fun _ hk => hk.2)), (by (with_reducible repeat (first | apply Kd.R_alloc | apply Kd.R_drewN | apply Kd.R_drew)); exact Kd.R_mono HO140.out (fun _ hk => hk.2)), (pB BK105), (bB HB)⟩)
                           · skip
                             refine Kd.R_lit_step (Kd.int .i64) _ 3 ?hg (N := 55) ?hd (xs := ([rd l1 x8o] : List Int)) (inner := [.int .i64 (rd l1 x8o)]) (ok := fun _ => True) (okp := fun _ => True) ?hr ?hp (fun _ hk => hk) trivial (Below.refl _ _) (Nat.le_refl _) (by simp) ?_; (case hd => rfl); (case hg => rfl); (case hr => first | (go_simp; done) | (go_simp; rfl)); (case hp => exact (Reps.one (show Kd.M (Kd.int .i64) _ _ _ (rd l1 x8o) [.int .i64 (rd l1 x8o)] from rfl) (Reps.none _ _)))
                             intro v139 w54 ho55 hb hg_ hnew_
                             clear hg_ hnew_
                             (first | rw [← Ny138.out] at ho55 | (simp only [Int.reduceToNat] at ho55; rw [← Ny138.out] at ho55))
                             have n0_ := Aside0.mk (Kd.R_elder' (pR HO132) (Kd.R_base ho55) hb)
                             have n1_ := Aside0.mk (Kd.R_lower (Kd.R_new' ho55 (Kd.R_lt (pR HO132))) (below_size (bB HB)))
                             have n2_ := Aside0.mk (bW BK105 hb)
                             have n3_ := Aside0.mk (below_step (bB HB) hb)
                             clear HO132
                             clear BK105
                             clear HB
                             have HO132 := n0_
                             have HO140 := n1_
                             have BK105 := n2_
                             have HB := n3_
                             clear n0_ n1_ n2_ n3_
                             clear hb ho55
                             refine hK.out _ _ (((HB.out.cell (World.block_lt_of_cell? wq _ hw137_0)).trans hw137_0)) (fun hHeld => ?_)
                             clear hK K
                             refine norm_ (a' := ?_) ?_ ?_
                             rotate_left
                             · show Act.put _ (some 55) _ = _
                               simp only [Act.put, List.setIfInBounds_toArray, List.set_cons_zero, List.set_cons_succ, i64_w, i32_w]
                               rfl
                             refine one_ (i := 4) (N := some 50) #[true, true, true, true, true, true, true, true, true, true, false, true, true, true, false, false] rfl rfl (one_of HT_.out (by kernel_rfl)) (by decide) (fun K hK => ?_)
                             refine Kd.R_append_rows_step (Kd.int .i64) (w0 := wq) wq.heap.size (by rfl) (.tmp 46) (.tmp 49) 22 3 (.int .i64 0) 8 rfl Try.underlying22 info3 rfl (by decide) (by omega) v131 y130 (x7o.take (x9_1 : Int).toNat) _ _ _ (fun k_ => some k_ ≠ (v139 : Value).ownBlock) (fun _ => False) rfl rfl ?aO ?aR (fun _ _ h => h) (fun _ h => h.elim) ?aF ?aB ?aS ?aL ?_
                             (case aR => first | (have hq_ := Kd.C_below HR133.out HB.out; rw [show (x7o.take (x9_1 : Int).toNat).length = x9_1.toNat from (by rw [List.length_take]; have h_ : (x9_1 : Int) ≤ (x7o.length : Int) := of_decide_eq_true aS; omega)] at hq_; exact hq_) | (rw [← show (x7o.take (x9_1 : Int).toNat).length = x9_1.toNat from (by rw [List.length_take]; have h_ : (x9_1 : Int) ≤ (x7o.length : Int) := of_decide_eq_true aS; omega)]; repeat (first | exact (Kd.C_below HR133.out HB.out) | (with_reducible refine Kd.C_alloc ?_ _) | (with_reducible refine Kd.C_drewN ?_ _) | (with_reducible refine Kd.C_drew ?_))) | (repeat (first | exact (Kd.C_below HR133.out HB.out) | (with_reducible refine Kd.C_alloc ?_ _) | (with_reducible refine Kd.C_drewN ?_ _) | (with_reducible refine Kd.C_drew ?_))))
                             (case aB => exact (bB HB))
                             (case aF => exact (fun k_ hk => Kd.fresh' (Kd.R_lt (pR HO140)) k_ hk))
                             (case aO => exact (by (with_reducible repeat (first | apply Kd.R_alloc | apply Kd.R_drewN | apply Kd.R_drew)); exact Kd.R_mono HO132.out (fun _ hk => hk.2)))
                             (case aS => exact (below_size (bB HB)))
                             (case aL => have := LMc41.out; have hlx_ := (show (x7o.take (x9_1 : Int).toNat).length = x9_1.toNat from (by rw [List.length_take]; have h_ : (x9_1 : Int) ≤ (x7o.length : Int) := of_decide_eq_true aS; omega)); omega)
                             intro v135 w56 ho hb hg hat
                             rw [← Ny134.out] at ho
                             have n0_ := Aside0.mk (blk_grown (g := gb105) (o := .cells #[.slice A0_0 l0_0.length c0_0, .slice A0_1 l0_1.length c0_1] 52 (0, 0)) (pB BK105) hg (Kd.R_ne HO132.out BK105.out (by decide)))
                             have n1_ := Aside0.mk (Kd.R_after (ok := (fun _ => True)) (pR HO140) hg hat)
                             have n2_ := Aside0.mk (hb)
                             have n3_ := Aside0.mk (ho)
                             clear BK105
                             clear HO140
                             clear HB
                             clear HO132
                             have BK105 := n0_
                             have HO140 := n1_
                             have HB := n2_
                             have HO136 := n3_
                             clear n0_ n1_ n2_ n3_
                             clear ho hb hg hat
                             refine hK.out _ _ (((HB.out.cell (World.block_lt_of_cell? wq _ hw137_0)).trans hw137_0)) (fun hHeld => ?_)
                             clear hK K
                             refine norm_ (a' := ?_) ?_ ?_
                             rotate_left
                             · show Act.put _ (some 50) _ = _
                               simp only [Act.put, List.setIfInBounds_toArray, List.set_cons_zero, List.set_cons_succ, i64_w, i32_w]
                               rfl
                             exact norm_ (by simp only [putAll, Act.put, List.setIfInBounds_toArray, List.set_cons_zero, List.set_cons_succ]) (hCont (v131, v135, v139) _ ⟨hHeld, (pR HO136), (by (with_reducible repeat (first | apply Kd.R_alloc | apply Kd.R_drewN | apply Kd.R_drew)); exact Kd.R_mono HO140.out (fun _ hk => hk.2)), (pB BK105), (bB HB)⟩)
                         · skip
                           refine Kd.R_lit_step (Kd.int .i64) _ 3 ?hg (N := 55) ?hd (xs := ([rd l1 x8o] : List Int)) (inner := [.int .i64 (rd l1 x8o)]) (ok := fun _ => True) (okp := fun _ => True) ?hr ?hp (fun _ hk => hk) trivial (Below.refl _ _) (Nat.le_refl _) (by simp) ?_; (case hd => rfl); (case hg => rfl); (case hr => first | (go_simp; done) | (go_simp; rfl)); (case hp => exact (Reps.one (show Kd.M (Kd.int .i64) _ _ _ (rd l1 x8o) [.int .i64 (rd l1 x8o)] from rfl) (Reps.none _ _)))
                           intro v139 w52 ho53 hb hg_ hnew_
                           clear hg_ hnew_
                           (first | rw [← Ny138.out] at ho53 | (simp only [Int.reduceToNat] at ho53; rw [← Ny138.out] at ho53))
                           have n0_ := Aside0.mk (Kd.R_lower ho53 (below_size (bB HB)))
                           have n1_ := Aside0.mk (bW BK105 hb)
                           have n2_ := Aside0.mk (below_step (bB HB) hb)
                           clear BK105
                           clear HB
                           have HO140 := n0_
                           have BK105 := n1_
                           have HB := n2_
                           clear n0_ n1_ n2_
                           clear hb ho53
                           refine hK.out _ _ (((HB.out.cell (World.block_lt_of_cell? wq _ hw137_0)).trans hw137_0)) (fun hHeld => ?_)
                           clear hK K
                           refine norm_ (a' := ?_) ?_ ?_
                           rotate_left
                           · show Act.put _ (some 55) _ = _
                             simp only [Act.put, List.setIfInBounds_toArray, List.set_cons_zero, List.set_cons_succ, i64_w, i32_w]
                             rfl
                           refine one_ (i := 0) (N := some 46) #[true, true, true, true, false, true, true, true, true, true, false, true, true, true, false, false] rfl rfl (one_of HT_.out (by kernel_rfl)) (by decide) (fun K hK => ?_)
                           refine Kd.R_lit_step (Kd.int .i64) _ 3 ?hg (N := 46) ?hd (xs := ([] : List Int)) (inner := []) (ok := fun _ => True) (okp := fun _ => True) ?hr ?hp (fun _ hk => hk) trivial (Below.refl _ _) (Nat.le_refl _) (by simp) ?_; (case hd => rfl); (case hg => rfl); (case hr => first | (go_simp; done) | (go_simp; rfl)); (case hp => exact (Reps.none _ _))
                           intro v131 w54 ho55 hb hg_ hnew_
                           clear hg_ hnew_
                           (first | rw [← Ny130.out] at ho55 | (simp only [Int.reduceToNat] at ho55; rw [← Ny130.out] at ho55))
                           have n0_ := Aside0.mk (Kd.R_elder' (pR HO140) (Kd.R_base ho55) hb)
                           have n1_ := Aside0.mk (Kd.R_lower (Kd.R_new' ho55 (Kd.R_lt (pR HO140))) (below_size (bB HB)))
                           have n2_ := Aside0.mk (bW BK105 hb)
                           have n3_ := Aside0.mk (below_step (bB HB) hb)
                           clear HO140
                           clear BK105
                           clear HB
                           have HO140 := n0_
                           have HO132 := n1_
                           have BK105 := n2_
                           have HB := n3_
                           clear n0_ n1_ n2_ n3_
                           clear hb ho55
                           refine hK.out _ _ (((HB.out.cell (World.block_lt_of_cell? wq _ hw137_0)).trans hw137_0)) (fun hHeld => ?_)
                           clear hK K
                           refine norm_ (a' := ?_) ?_ ?_
                           rotate_left
                           · show Act.put _ (some 46) _ = _
                             simp only [Act.put, List.setIfInBounds_toArray, List.set_cons_zero, List.set_cons_succ, i64_w, i32_w]
                             rfl
                           refine one_ (i := 4) (N := some 50) #[true, true, true, true, true, true, true, true, true, true, false, true, true, true, false, false] rfl rfl (one_of HT_.out (by kernel_rfl)) (by decide) (fun K hK => ?_)
                           refine Kd.R_append_rows_step (Kd.int .i64) (w0 := wq) wq.heap.size (by rfl) (.tmp 46) (.tmp 49) 22 3 (.int .i64 0) 8 rfl Try.underlying22 info3 rfl (by decide) (by omega) v131 y130 (x7o.take (x9_1 : Int).toNat) _ _ _ (fun k_ => some k_ ≠ (v139 : Value).ownBlock) (fun _ => False) rfl rfl ?aO ?aR (fun _ _ h => h) (fun _ h => h.elim) ?aF ?aB ?aS ?aL ?_
                           (case aR => first | (have hq_ := Kd.C_below HR133.out HB.out; rw [show (x7o.take (x9_1 : Int).toNat).length = x9_1.toNat from (by rw [List.length_take]; have h_ : (x9_1 : Int) ≤ (x7o.length : Int) := of_decide_eq_true aS; omega)] at hq_; exact hq_) | (rw [← show (x7o.take (x9_1 : Int).toNat).length = x9_1.toNat from (by rw [List.length_take]; have h_ : (x9_1 : Int) ≤ (x7o.length : Int) := of_decide_eq_true aS; omega)]; repeat (first | exact (Kd.C_below HR133.out HB.out) | (with_reducible refine Kd.C_alloc ?_ _) | (with_reducible refine Kd.C_drewN ?_ _) | (with_reducible refine Kd.C_drew ?_))) | (repeat (first | exact (Kd.C_below HR133.out HB.out) | (with_reducible refine Kd.C_alloc ?_ _) | (with_reducible refine Kd.C_drewN ?_ _) | (with_reducible refine Kd.C_drew ?_))))
                           (case aB => exact (bB HB))
                           (case aF => exact (fun k_ hk => Kd.fresh' (Kd.R_lt (pR HO140)) k_ hk))
                           (case aO => exact (by (with_reducible repeat (first | apply Kd.R_alloc | apply Kd.R_drewN | apply Kd.R_drew)); exact Kd.R_mono HO132.out (fun _ hk => hk.2)))
                           (case aS => exact (below_size (bB HB)))
                           (case aL => have := LMc41.out; have hlx_ := (show (x7o.take (x9_1 : Int).toNat).length = x9_1.toNat from (by rw [List.length_take]; have h_ : (x9_1 : Int) ≤ (x7o.length : Int) := of_decide_eq_true aS; omega)); omega)
                           intro v135 w56 ho hb hg hat
                           rw [← Ny134.out] at ho
                           have n0_ := Aside0.mk (blk_grown (g := gb105) (o := .cells #[.slice A0_0 l0_0.length c0_0, .slice A0_1 l0_1.length c0_1] 52 (0, 0)) (pB BK105) hg (Kd.R_ne HO132.out BK105.out (by decide)))
                           have n1_ := Aside0.mk (Kd.R_after (ok := (fun _ => True)) (pR HO140) hg hat)
                           have n2_ := Aside0.mk (hb)
                           have n3_ := Aside0.mk (ho)
                           clear BK105
                           clear HO140
                           clear HB
                           clear HO132
                           have BK105 := n0_
                           have HO140 := n1_
                           have HB := n2_
                           have HO136 := n3_
                           clear n0_ n1_ n2_ n3_
                           clear ho hb hg hat
                           refine hK.out _ _ (((HB.out.cell (World.block_lt_of_cell? wq _ hw137_0)).trans hw137_0)) (fun hHeld => ?_)
                           clear hK K
                           refine norm_ (a' := ?_) ?_ ?_
                           rotate_left
                           · show Act.put _ (some 50) _ = _
                             simp only [Act.put, List.setIfInBounds_toArray, List.set_cons_zero, List.set_cons_succ, i64_w, i32_w]
                             rfl
                           exact norm_ (by simp only [putAll, Act.put, List.setIfInBounds_toArray, List.set_cons_zero, List.set_cons_succ]) (hCont (v131, v135, v139) _ ⟨hHeld, (pR HO136), (by (with_reducible repeat (first | apply Kd.R_alloc | apply Kd.R_drewN | apply Kd.R_drew)); exact Kd.R_mono HO140.out (fun _ hk => hk.2)), (pB BK105), (bB HB)⟩)
                       rintro ⟨v131, v135, v139⟩ w57 ⟨hS_, h0_, h1_, h2_, h3_⟩
                       have n0_ : Aside0 (Kd.R (Kd.int .i64) 3 w57 wq.heap.size (fun k_ => some k_ ≠ (v139 : Value).ownBlock) v135 y134) := ⟨h0_⟩
                       have n1_ : Aside0 (Kd.R (Kd.int .i64) 3 w57 wq.heap.size (fun k_ => some k_ ≠ (v135 : Value).ownBlock) v139 y138) := ⟨h1_⟩
                       have n2_ : Aside0 (w57.heap[gb105]? = some (.cells #[.slice A0_0 l0_0.length c0_0, .slice A0_1 l0_1.length c0_1] 52 (0, 0))) := ⟨h2_⟩
                       have n3_ : Aside0 (Below wq.heap.size wq w57) := ⟨h3_⟩
                       clear BK105
                       clear HB
                       clear h0_ h1_ h2_ h3_
                       have HO136 := n0_
                       have HO140 := n1_
                       have BK105 := n2_
                       have HB := n3_
                       clear n0_ n1_ n2_ n3_
                       have hHeld : w57.cell? (ad137.add (x8o).toNat) = some (.int .i64 (rd l1 x8o)) := hS_
                       obtain ⟨Ao59, co59, eo59⟩ := Kd.R_slice HO140.out
                       (first | subst eo59 | (injection eo59 with f1_ f2_ f3_; have f4_ := f1_.symm; have f5_ := f3_.symm; clear f1_ f2_ f3_; subst f4_; subst f5_))
                       refine norm_ (a' := ?_) ?_ ?_
                       rotate_left
                       · simp only [putAll, Act.put, List.setIfInBounds_toArray, List.set_cons_zero, List.set_cons_succ]
                         rfl
                       refine one_ (i := 10) (N := some 56) #[true, true, true, true, true, true, true, true, true, true, true, true, true, true, false, false] rfl rfl (one_of HT_.out (by kernel_rfl)) (by decide) (fun K hK => ?_)
                       refine Kd.R_append_rows_step (Kd.int .i64) (w0 := wq) wq.heap.size (by rfl) (.tmp 50) (.tmp 55) 22 3 (.int .i64 0) 8 rfl Try.underlying22 info3 rfl (by decide) (by omega) v135 y134 y138 _ _ _ (fun k_ => some k_ ≠ (.slice Ao59 y138.length co59 : Value).ownBlock) (fun _ => False) rfl rfl ?aO ?aR (fun _ _ h => h) (fun _ h => h.elim) ?aF ?aB ?aS ?aL ?_
                       (case aR => exact cR HO140)
                       (case aB => exact (bB HB))
                       (case aF => exact (fun k_ hk => Kd.fresh' (Kd.R_lt (pR HO140)) k_ hk))
                       (case aO => exact (pR HO136))
                       (case aS => exact (below_size (bB HB)))
                       (case aL => have := LMc44.out; omega)
                       intro v142 w58 ho hb hg hat
                       rw [← Ny141.out] at ho
                       have n0_ := Aside0.mk (blk_grown (g := gb105) (o := .cells #[.slice A0_0 l0_0.length c0_0, .slice A0_1 l0_1.length c0_1] 52 (0, 0)) (pB BK105) hg (Kd.R_ne HO136.out BK105.out (by decide)))
                       have n1_ := Aside0.mk (Kd.R_after (ok := (fun _ => True)) (by (with_reducible repeat (first | apply Kd.R_alloc | apply Kd.R_drewN | apply Kd.R_drew)); exact Kd.R_mono HO140.out (fun _ hk => ⟨trivial, hk⟩)) hg hat)
                       have n2_ := Aside0.mk (hb)
                       have n3_ := Aside0.mk (ho)
                       clear BK105
                       clear HO140
                       clear HB
                       clear HO136
                       have BK105 := n0_
                       have HO140 := n1_
                       have HB := n2_
                       have HO143 := n3_
                       clear n0_ n1_ n2_ n3_
                       clear ho hb hg hat
                       refine hK.out _ _ (((HB.out.cell (World.block_lt_of_cell? wq _ hw137_0)).trans hw137_0)) (fun hHeld => ?_)
                       clear hK K
                       refine norm_ (a' := ?_) ?_ ?_
                       rotate_left
                       · show Act.put _ (some 56) _ = _
                         simp only [Act.put, List.setIfInBounds_toArray, List.set_cons_zero, List.set_cons_succ, i64_w, i32_w]
                         rfl
                       refine one_ (i := 14) (N := some 60) #[true, true, true, true, true, true, true, true, true, true, true, true, true, true, true, false] rfl rfl (one_of HT_.out (by kernel_rfl)) (by decide) (fun K hK => ?_)
                       refine Kd.R_append_rows_step (Kd.int .i64) (w0 := wq) wq.heap.size (by rfl) (.tmp 56) (.tmp 59) 22 3 (.int .i64 0) 8 rfl Try.underlying22 info3 rfl (by decide) (by omega) v142 y141 (x7o.drop (x9_1 : Int).toNat) _ _ _ (fun k_ => some k_ ≠ (.slice Ao59 y138.length co59 : Value).ownBlock) (fun _ => False) rfl rfl ?aO ?aR (fun _ _ h => h) (fun _ h => h.elim) ?aF ?aB ?aS ?aL ?_
                       (case aR => first | (have hq_ := Kd.C_below HR144.out HB.out; rw [show (x7o.drop (x9_1 : Int).toNat).length = (x7o.length - x9_1.toNat) from List.length_drop] at hq_; exact hq_) | (rw [← show (x7o.drop (x9_1 : Int).toNat).length = (x7o.length - x9_1.toNat) from List.length_drop]; repeat (first | exact (Kd.C_below HR144.out HB.out) | (with_reducible refine Kd.C_alloc ?_ _) | (with_reducible refine Kd.C_drewN ?_ _) | (with_reducible refine Kd.C_drew ?_))) | (repeat (first | exact (Kd.C_below HR144.out HB.out) | (with_reducible refine Kd.C_alloc ?_ _) | (with_reducible refine Kd.C_drewN ?_ _) | (with_reducible refine Kd.C_drew ?_))))
                       (case aB => exact (bB HB))
                       (case aF => exact (fun k_ hk => Kd.fresh' (Kd.R_lt (pR HO140)) k_ hk))
                       (case aO => exact (pR HO143))
                       (case aS => exact (below_size (bB HB)))
                       (case aL => have := LMc47.out; have hlx_ := (show (x7o.drop (x9_1 : Int).toNat).length = (x7o.length - x9_1.toNat) from List.length_drop); omega)
                       intro v146 w60 ho hb hg hat
                       rw [← Ny145.out] at ho
                       have n0_ := Aside0.mk (blk_grown (g := gb105) (o := .cells #[.slice A0_0 l0_0.length c0_0, .slice A0_1 l0_1.length c0_1] 52 (0, 0)) (pB BK105) hg (Kd.R_ne HO143.out BK105.out (by decide)))
                       have n1_ := Aside0.mk (Kd.R_after (ok := (fun _ => True)) (pR HO140) hg hat)
                       have n2_ := Aside0.mk (hb)
                       have n3_ := Aside0.mk (ho)
                       clear BK105
                       clear HO140
                       clear HB
                       clear HO143
                       have BK105 := n0_
                       have HO140 := n1_
                       have HB := n2_
                       have HO147 := n3_
                       clear n0_ n1_ n2_ n3_
                       clear ho hb hg hat
                       refine hK.out _ _ (((HB.out.cell (World.block_lt_of_cell? wq _ hw137_0)).trans hw137_0)) (fun hHeld => ?_)
                       clear hK K
                       refine norm_ (a' := ?_) ?_ ?_
                       rotate_left
                       · show Act.put _ (some 60) _ = _
                         simp only [Act.put, List.setIfInBounds_toArray, List.set_cons_zero, List.set_cons_succ, i64_w, i32_w]
                         rfl
                       refine pure_ (i := 15) (N := some 7) (v := ?_) (a' := ?_) #[true, true, true, true, true, true, true, true, true, true, true, true, true, true, true, true] rfl rfl (any_of HT_.out (by kernel_rfl)) (fun _ _ _ h => h) (Or.inl ⟨by rfl, ?_⟩) ?_ ?_
                       rotate_left
                       · intro w'
                         go_simp
                         with_reducible rfl
                       rotate_left
                       · exact aP
                       refine done_ (done_of HT_.out (by kernel_rfl)) ?_
                       try go_wp2
                       go_roundg ko
                       case measure => have := HKo.out; omega
                       case rel => exact ⟨_, wrap64 (x8o + 1), rD, HN, ⟨by have := HKo.out; omega⟩, ⟨Kd.R_lower (by (with_reducible repeat (first | apply Kd.R_alloc | apply Kd.R_drewN | apply Kd.R_drew)); exact Kd.R_mono HO147.out (fun _ hk => trivial)) HBo.out.size⟩, ⟨pB BK105⟩, ⟨below_step HBo.out (bB HB)⟩⟩
                     · rw [if_neg c47] at H
                       exact absurd H (by simp)
                   · rw [if_neg c44] at H
                     exact absurd H (by simp)
                 · rw [if_neg c43] at H
                   exact absurd H (by simp)
               · rw [if_neg c42] at H
                 exact absurd H (by simp)
             · rw [if_neg c41] at H
               exact absurd H (by simp)
           · rw [if_neg c40] at H
             exact absurd H (by simp)
         · rw [if_neg c39] at H
           exact absurd H (by simp)
   · rw [if_neg co] at H
     obtain rfl := Option.some.inj H
     have cob : decide (x8o < (l1.length : Int)) = false := decide_eq_false co
     clear co
     go_wp2
     go_ret
     exact ⟨_, eW, HO7.out, HBo.out⟩

end Go.Proofs.Ytfkfahdikmfpeaa.PFnExactFewestPlaces
