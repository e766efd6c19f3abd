-- Printed by wip/tools/myprint.py (the printer of the kit, patched by that program; roots chosen by it)
import Derived.Test.YtfkfahdikmfpeaaPFnExactStumpsOfx0
import Derived.Test.YtfkfahdikmfpeaaPFnExactStumpsOfx1
import Derived.Test.YtfkfahdikmfpeaaPFnExactStumpsOfx6
import Derived.Test.YtfkfahdikmfpeaaSh
namespace Go.Proofs.Ytfkfahdikmfpeaa.PFnExactStumpsOf
open Go.RowKit Go.Proofs.Ytfkfahdikmfpeaa.Sh Go.Proofs.YtfkfahdikmfpeaaW.PrintWords Go.Proofs.YtfkfahdikmfpeaaW.PrintLast Go.Proofs.YtfkfahdikmfpeaaW.PrintMore
attribute [local go_sem] max2_int min2_int max_two min_two max_three min_three max_four min_four   -- for this text's walks alone
set_option linter.unusedVariables false
set_option linter.unusedSimpArgs false

def arr2_ (a b x : Int) : Int := if x = 0 then a else b
theorem arr2_run {P : Program} {t e : TypeId} (ht : P.underlying t = some (.array 2 e)) (hs : ∀ w, (Go.sizeOf e).run P w = .ok 1 w) (ha : ∀ w, (isAgg e).run P w = .ok false w) (a b : Int) {x : Int} (h0 : 0 ≤ x) (h1 : x < 2) (W : World) :
    (Instr.index t (.agg #[.int .i64 a, .int .i64 b]) (.int .i64 x)).run P W = .ok (.int .i64 (arr2_ a b x)) W := by
  have hu := run_underlying ht
  rcases (show x = 0 ∨ x = 1 from by omega) with h | h
  · subst h; simp [Instr.index, hu, hs, ha, arr2_, part, asIntOf]
  · subst h; simp [Instr.index, hu, hs, ha, arr2_, part, asIntOf]
/-! ### impl_Sample_stumps: function 99 -/
mutual
def impl_Sample_stumps.l0 : Nat → List (S39) → Int → Int → List (List Int) → List Int → Option ((List (S39)))
 | 0, _, _, _, _, _ => none
 | k + 1, x3, x18, x19, x205000, x205001 => if x19 < x18 then (impl_Sample_stumps.l1 k x3 x19 x18 x19 0 x205000 x205001) else (some x3)
def impl_Sample_stumps.l1 : Nat → List (S39) → Int → Int → Int → Int → List (List Int) → List Int → Option ((List (S39)))
 | 0, _, _, _, _, _, _, _ => none
 | k + 1, x3, x4, x18, x19, x23, x205000, x205001 => if x23 < 2 then (if 0 ≤ x23 then (impl_Sample_stumps.l2 k x3 x4 (arr2_ 1 (-1) x23) (([] : List Int)) x18 x19 x23 x205000 (x205000.length : Int) 0 x205000 x205001) else (none)) else (impl_Sample_stumps.l0 k x3 x18 (wrap64 (x19 + 1)) x205000 x205001)
def impl_Sample_stumps.l2 : Nat → List (S39) → Int → Int → List Int → Int → Int → Int → List (List Int) → Int → Int → List (List Int) → List Int → Option ((List (S39)))
 | 0, _, _, _, _, _, _, _, _, _, _, _, _ => none
 | k + 1, x3, x4, x6, x7, x18, x19, x23, x28, x29, x30, x205000, x205001 => if x30 < x29 then (if 0 ≤ x30 then (if x30 < (x28.length : Int) then (if 0 ≤ x4 then (if x4 < ((rd_L1 x28 x30).length : Int) then (if x7.length < 17592186044416 then (impl_Sample_stumps.l2 k x3 x4 x6 (x7 ++ [wrap64 (x6 * (rd (rd_L1 x28 x30) x4))]) x18 x19 x23 x28 x29 (wrap64 (x30 + 1)) x205000 x205001) else (none)) else (none)) else (none)) else (none)) else (none)) else ((slices_Max_int_int.f k x7).bind fun t217 => (if x7.length < 17592186044416 then ((slices_Sort_int_int.f (x7 ++ [wrap64 (t217 + 1)])).bind fun t221 => ((slices_Compact_int_int.f t221).bind fun t222 => (impl_Sample_stumps.l3 k x3 x4 x6 x18 x19 x23 t222 (t222.length : Int) 0 x205000 x205001))) else (none)))
def impl_Sample_stumps.l3 : Nat → List (S39) → Int → Int → Int → Int → Int → List Int → Int → Int → List (List Int) → List Int → Option ((List (S39)))
 | 0, _, _, _, _, _, _, _, _, _, _, _ => none
 | k + 1, x3, x4, x6, x18, x19, x23, x53, x54, x55, x205000, x205001 => if x55 < x54 then (if 0 ≤ x55 then (if x55 < (x53.length : Int) then (if 0 < (x205000.length : Int) then (if 0 ≤ ((rd_L1 x205000 0).length : Int) then (if (((rd_L1 x205000 0).length : Int) : Int).toNat ≤ 35184372088832 then ((some (List.replicate (((rd_L1 x205000 0).length : Int) : Int).toNat 0 : List Int)).bind fun y227 => (if 0 ≤ x4 then (if x4 < (y227.length : Int) then (if x3.length < 4398046511104 then (impl_Sample_stumps.l3 k (x3 ++ [(⟨(y227.set (x4 : Int).toNat x6), rd x53 x55⟩ : S39)]) x4 x6 x18 x19 x23 x53 x54 (wrap64 (x55 + 1)) x205000 x205001) else (none)) else (none)) else (none))) else (none)) else (none)) else (none)) else (none)) else (none)) else (impl_Sample_stumps.l1 k x3 x4 x18 x19 (wrap64 (x23 + 1)) x205000 x205001)
end
def impl_Sample_stumps.f (k : Nat) (l0_0 : List (List Int)) (l0_1 : List Int) : Option ((List (S39))) := if 0 < (l0_0.length : Int) then (impl_Sample_stumps.l0 k (([] : List (S39))) ((rd_L1 l0_0 0).length : Int) 0 l0_0 l0_1) else (none)
set_option maxHeartbeats 8000000 in
set_option maxRecDepth 100000 in
theorem impl_Sample_stumps.calls (k : Nat) (A0_0 : Option Addr) (c0_0 : Nat) (l0_0 : List (List Int)) (A0_1 : Option Addr) (c0_1 : Nat) (l0_1 : List Int) (r : List (S39)) (w : World) (hr0_0 : Kd.C (Kd.slice 3 (Kd.int .i64)) w A0_0 l0_0.length l0_0) (hc0_0 : l0_0.length ≤ c0_0) (hr0_1 : Kd.C (Kd.int .i64) w A0_1 l0_1.length l0_1) (hc0_1 : l0_1.length ≤ c0_1) (h : impl_Sample_stumps.f k l0_0 l0_1 = some r) :
 Calls Try.prog 99 #[.agg #[.slice A0_0 l0_0.length c0_0, .slice A0_1 l0_1.length c0_1]] w fun e w' => ∃ v0_ : Value, e = .returned (v0_) ∧ Kd.S k39 39 w' w.heap.size (fun _ => True) v0_ r ∧ Below w.heap.size w w' := by
 have hu52 := Try.underlying52
 have hu39 := Try.underlying39
 have HR0_0 := Aside0.mk hr0_0
 have HC0_0 := Aside0.mk hc0_0
 clear hr0_0 hc0_0
 have HR0_1 := Aside0.mk hr0_1
 have HC0_1 := Aside0.mk hc0_1
 clear hr0_1 hc0_1
 have HB := Aside0.mk (Below.refl w.heap.size w)
 have H : (if 0 < (l0_0.length : Int) then (impl_Sample_stumps.l0 k (([] : List (S39))) ((rd_L1 l0_0 0).length : Int) 0 l0_0 l0_1) else (none)) = some r := h
 clear h
 obtain ⟨y205, hy205⟩ : ∃ y_ : List (S39), y_ = (([] : List (S39))) := ⟨_, rfl⟩
 replace H : (if 0 < (l0_0.length : Int) then (impl_Sample_stumps.l0 k y205 ((rd_L1 l0_0 0).length : Int) 0 l0_0 l0_1) else (none)) = some r := by first | (rw [hy205]; with_reducible exact H) | (have H2_ := (Option.bind_some _ _).symm.trans H; rw [hy205]; with_reducible exact H2_) | (have H2_ := (Option.bind_some _ _).symm.trans H; with_reducible exact H2_) | with_reducible exact H | (rw [hy205]; exact H) | exact H
 have Ny205 := Aside0.mk hy205
 clear hy205
 by_cases c2 : 0 < (l0_0.length : Int)
 · rw [if_pos c2] at H
   have c2b0 : decide (0 < (l0_0.length : Int)) = true := decide_eq_true c2
   have c2b1 : decide (0 < l0_0.length) = true := decide_eq_true (by omega)
   clear c2
   have H' := Aside0.mk H
   clear H
   go_enter Try.func99, Try.ntmps99
   go_wp2_with (first | ((with_reducible refine gate_dst (N := 1) rfl ?_); refine box_event ?hg (N := 1) ?hd (cs := #[.slice A0_0 l0_0.length c0_0, .slice A0_1 l0_1.length c0_1]) (t := 52) ?hr ?_; (case hd => rfl); (case hg => rfl); (case hr => first | (go_simp; done) | (go_simp; rfl)); intro gb204 hg w3 hbox hb; have n0_ := Aside0.mk (below_step (bB HB) hb); have n1_ := Aside0.mk (hbox); have n2_ := Aside0.mk ((by rw [hg]; exact (below_size (bB HB)) : w.heap.size ≤ gb204)); have n3_ := Aside0.mk ((by rw [hg]; exact (below_size (bB HB)) : w.heap.size ≤ gb204)); clear HB; have HB := n0_; have BK204 := n1_; have GW204 := n2_; have GE204 := n3_; clear n0_ n1_ n2_ n3_; clear hb hbox hg) | ((with_reducible refine gate_dst (N := 13) rfl ?_); refine Kd.S_lit k39 _ 39 ?hg (N := 13) ?hd (xs := ([] : List (S39))) (inner := []) (ok := fun _ => True) (okp := fun _ => True) ?hr ?hp (fun _ hk => hk) trivial (Below.refl _ _) (Nat.le_refl _) (by simp) ?_; (case hd => rfl); (case hg => rfl); (case hr => first | (go_simp; done) | (go_simp; rfl)); (case hp => exact (Reps.none _ _)); intro v206 w4 ho5 hb hg_ hnew_; clear hg_ hnew_; (first | rw [← Ny205.out] at ho5 | (simp only [Int.reduceToNat] at ho5; rw [← Ny205.out] at ho5)); have n0_ := Aside0.mk (Kd.S_lower ho5 (below_size (bC HB GE204))); have n1_ := Aside0.mk (bW BK204 hb); have n2_ := Aside0.mk (below_step (bC HB GE204) hb); clear BK204; clear HB; have HO207 := n0_; have BK204 := n1_; have HB := n2_; clear n0_ n1_ n2_; clear hb ho5; have hcz6_0 : w4.cell? ⟨gb204, 0, none⟩ = some (.slice A0_0 l0_0.length c0_0) := (blk_cell BK204.out 0).trans rfl; have hcz6_1 : w4.cell? ⟨gb204, 1, none⟩ = some (.slice A0_1 l0_1.length c0_1) := (blk_cell BK204.out 1).trans rfl; have hfz6_0 := blk_frozen BK204.out 0; have hfz6_1 := blk_frozen BK204.out 1; have p208 : 0 ≤ (0 : Int) := (by omega); have q208 : 0 < (l0_0.length : Int) := of_decide_eq_true aS; obtain ⟨ad208, A208_0, c208_0, e208, hx208_0, hl208_0, hi208_0⟩ := at_L1 HR0_0.out 0 p208 q208; cases e208; have qi208 : (0 < l0_0.length) = True := eq_true (by omega); (try rw [show ((0 : Int)).toNat = 0 from rfl] at hx208_0); (try rw [Addr.add_zero'] at hx208_0); replace hx208_0 := (HB.out.cell (World.block_lt_of_cell? w _ hx208_0)).trans hx208_0; have HR208_0 := Aside0.mk hi208_0; have HC208_0 := Aside0.mk hl208_0; clear hi208_0 hl208_0; replace p208 := eq_true p208; replace q208 := eq_true q208))
   go_loopg [3, 19] k (fun kq v3 v19 w' => ∃ (x3_1 : List (S39)) (x19_1 : Int), v19 = .int .i64 x19_1 ∧ Aside0 (impl_Sample_stumps.l0 kq x3_1 ((rd_L1 l0_0 0).length : Int) x19_1 l0_0 l0_1 = some r) ∧ Aside0 (kq ≤ k) ∧ Aside0 (Kd.S k39 39 w' w.heap.size (fun _ => True) v3 x3_1) ∧ Aside0 (w'.heap[gb204]? = some (.cells #[(.slice (some ad208) l0_0.length c0_0), (.slice A0_1 l0_1.length c0_1)] 52 (0, 0))) ∧ Aside0 (Below w.heap.size w w'))
   case atStart => exact ⟨(y205), (0), rD, H', ⟨Nat.le_refl _⟩, ⟨pS HO207⟩, ⟨pB BK204⟩, ⟨bC HB GE204⟩⟩
   case round =>
    clear H'
    try clear c2
    try clear c2b0
    try clear c2b1
    try clear hcz6_0
    try clear hcz6_1
    try clear hfz6_0
    try clear hfz6_1
    try clear hx208_0
    try clear p208
    try clear q208
    obtain ⟨x3_1, x19_1, rfl, HA, HK1, HO_3, BK204, HB⟩ := hrel
    cases gk with
    | zero => exact absurd HA.out (by simp [impl_Sample_stumps.l0])
    | succ k1 =>
     have H := HA.out
     clear HA
     simp only [impl_Sample_stumps.l0] at H
     by_cases c7 : x19_1 < ((rd_L1 l0_0 0).length : Int)
     · rw [if_pos c7] at H
       have c7b0 : decide (x19_1 < ((rd_L1 l0_0 0).length : Int)) = true := decide_eq_true c7
       clear c7
       have H' := Aside0.mk H
       clear H
       go_wp2
       go_loopg [3, 23] k1 (fun kq v3 v23 w' => ∃ (x3_2 : List (S39)) (x23_2 : Int), v23 = .int .i64 x23_2 ∧ Aside0 (impl_Sample_stumps.l1 kq x3_2 x19_1 ((rd_L1 l0_0 0).length : Int) x19_1 x23_2 l0_0 l0_1 = some r) ∧ Aside0 (kq ≤ k1) ∧ Aside0 (Kd.S k39 39 w' w.heap.size (fun _ => True) v3 x3_2) ∧ Aside0 (w'.heap[gb204]? = some (.cells #[(.slice (some ad208) l0_0.length c0_0), (.slice A0_1 l0_1.length c0_1)] 52 (0, 0))) ∧ Aside0 (Below w.heap.size w w'))
       case atStart => exact ⟨(x3_1), (0), rD, H', ⟨Nat.le_refl _⟩, ⟨pS HO_3⟩, ⟨pB BK204⟩, ⟨bC HB GE204⟩⟩
       case round =>
        clear H'
        try clear c2
        try clear c2b0
        try clear c2b1
        try clear c7
        try clear c7b0
        try clear hcz6_0
        try clear hcz6_1
        try clear hfz6_0
        try clear hfz6_1
        try clear hx208_0
        try clear p208
        try clear q208
        obtain ⟨x3_2, x23_2, rfl, HA, HK2, HO_3, BK204, HB⟩ := hrel
        cases gk with
        | zero => exact absurd HA.out (by simp [impl_Sample_stumps.l1])
        | succ k2 =>
         have H := HA.out
         clear HA
         simp only [impl_Sample_stumps.l1] at H
         by_cases c8 : x23_2 < 2
         · rw [if_pos c8] at H
           rcases Int.lt_or_le x23_2 0 with cz_ | cz_
           · rw [if_neg (by omega)] at H; exact absurd H (by simp)
           rw [if_pos cz_] at H
           have hix_ : ∀ W : World, (Instr.index 136 (.agg #[.int .i64 1, .int .i64 (-1)]) (.int .i64 x23_2)).run Try.prog W = .ok (.int .i64 (arr2_ 1 (-1) x23_2)) W := arr2_run Try.underlying136 Try.sizeOf3 Try.isAgg3 1 (-1) (by omega) (by omega)
           clear cz_
           have c8b0 : decide (x23_2 < 2) = true := decide_eq_true c8
           clear c8
           obtain ⟨y209, hy209⟩ : ∃ y_ : List Int, y_ = (([] : List Int)) := ⟨_, rfl⟩
           replace H : (impl_Sample_stumps.l2 k2 x3_2 x19_1 (arr2_ 1 (-1) x23_2) y209 ((rd_L1 l0_0 0).length : Int) x19_1 x23_2 l0_0 (l0_0.length : Int) 0 l0_0 l0_1) = some r := by first | (rw [hy209]; with_reducible exact H) | (have H2_ := (Option.bind_some _ _).symm.trans H; rw [hy209]; with_reducible exact H2_) | (have H2_ := (Option.bind_some _ _).symm.trans H; with_reducible exact H2_) | with_reducible exact H | (rw [hy209]; exact H) | exact H
           have Ny209 := Aside0.mk hy209
           clear hy209
           have H' := Aside0.mk H
           clear H
           go_wp2_with (first | ((with_reducible refine gate_dst (N := 26) rfl ?_); refine Kd.R_lit (Kd.int .i64) _ 3 ?hg (N := 26) ?hd (xs := ([] : List Int)) (inner := []) (ok := fun _ => True) (okp := fun _ => True) ?hr ?hp (fun _ hk => hk) trivial (Below.refl _ _) (Nat.le_refl _) (by simp) ?_; (case hd => rfl); (case hg => rfl); (case hr => first | (go_simp; done) | (go_simp; rfl)); (case hp => exact (Reps.none _ _)); intro v210 w9 ho10 hb hg_ hnew_; clear hg_ hnew_; (first | rw [← Ny209.out] at ho10 | (simp only [Int.reduceToNat] at ho10; rw [← Ny209.out] at ho10)); have n0_ := Aside0.mk (Kd.S_elder' (pS HO_3) (Kd.R_base ho10) hb); have n1_ := Aside0.mk (Kd.R_lower ho10 (below_size (bC HB GE204))); have n2_ := Aside0.mk (bW BK204 hb); have n3_ := Aside0.mk (below_step (bC HB GE204) hb); clear HO_3; clear BK204; clear HB; have HO_3 := n0_; have HO211 := n1_; have BK204 := n2_; have HB := n3_; clear n0_ n1_ n2_ n3_; clear hb ho10; have hcz11_0 : w9.cell? ⟨gb204, 0, none⟩ = some (.slice (some ad208) l0_0.length c0_0) := (blk_cell BK204.out 0).trans rfl; have hcz11_1 : w9.cell? ⟨gb204, 1, none⟩ = some (.slice A0_1 l0_1.length c0_1) := (blk_cell BK204.out 1).trans rfl; have hfz11_0 := blk_frozen BK204.out 0; have hfz11_1 := blk_frozen BK204.out 1))
           go_loopg [7, 30] k2 (fun kq v7 v30 w' => ∃ (x7_3 : List Int) (x30_3 : Int), v30 = .int .i64 x30_3 ∧ Aside0 (impl_Sample_stumps.l2 kq x3_2 x19_1 (arr2_ 1 (-1) x23_2) x7_3 ((rd_L1 l0_0 0).length : Int) x19_1 x23_2 l0_0 (l0_0.length : Int) x30_3 l0_0 l0_1 = some r) ∧ Aside0 (kq ≤ k2) ∧ Aside0 (Kd.S k39 39 w' w.heap.size (fun k_ => some k_ ≠ (v7 : Value).ownBlock) u3 x3_2) ∧ Aside0 (Kd.R (Kd.int .i64) 3 w' w.heap.size (fun _ => True) v7 x7_3) ∧ Aside0 (w'.heap[gb204]? = some (.cells #[(.slice (some ad208) l0_0.length c0_0), (.slice A0_1 l0_1.length c0_1)] 52 (0, 0))) ∧ Aside0 (Below w.heap.size w w'))
           case atStart => exact ⟨(y209), (0), rD, H', ⟨Nat.le_refl _⟩, ⟨by (with_reducible repeat (first | apply Kd.S_alloc | apply Kd.S_drewN | apply Kd.S_drew)); exact Kd.S_mono HO_3.out (fun _ hk => hk.2)⟩, ⟨pR HO211⟩, ⟨pB BK204⟩, ⟨bC HB GE204⟩⟩
           case round =>
            clear H'
            try clear c2
            try clear c2b0
            try clear c2b1
            try clear c7
            try clear c7b0
            try clear c8
            try clear c8b0
            try clear hcz11_0
            try clear hcz11_1
            try clear hcz6_0
            try clear hcz6_1
            try clear hfz11_0
            try clear hfz11_1
            try clear hfz6_0
            try clear hfz6_1
            try clear hx208_0
            try clear p208
            try clear q208
            obtain ⟨x7_3, x30_3, rfl, HA, HK3, HO_3, HO_7, BK204, HB⟩ := hrel
            cases gk with
            | zero => exact absurd HA.out (by simp [impl_Sample_stumps.l2])
            | succ k3 =>
             have H := HA.out
             clear HA
             simp only [impl_Sample_stumps.l2] at H
             by_cases c12 : x30_3 < (l0_0.length : Int)
             · rw [if_pos c12] at H
               have c12b0 : decide (x30_3 < (l0_0.length : Int)) = true := decide_eq_true c12
               clear c12
               by_cases c13 : 0 ≤ x30_3
               · rw [if_pos c13] at H
                 have c13b0 : decide (0 ≤ x30_3) = true := decide_eq_true c13
                 clear c13
                 by_cases c14 : x30_3 < (l0_0.length : Int)
                 · rw [if_pos c14] at H
                   have c14b0 : decide (x30_3 < (l0_0.length : Int)) = true := decide_eq_true c14
                   clear c14
                   by_cases c15 : 0 ≤ x19_1
                   · rw [if_pos c15] at H
                     have c15b0 : decide (0 ≤ x19_1) = true := decide_eq_true c15
                     clear c15
                     by_cases c16 : x19_1 < ((rd_L1 l0_0 x30_3).length : Int)
                     · rw [if_pos c16] at H
                       have c16b0 : decide (x19_1 < ((rd_L1 l0_0 x30_3).length : Int)) = true := decide_eq_true c16
                       clear c16
                       by_cases c17 : x7_3.length < 17592186044416
                       · rw [if_pos c17] at H
                         have LMc17 := Aside0.mk c17
                         clear c17
                         obtain ⟨y214, hy214⟩ : ∃ y_ : List Int, y_ = (x7_3 ++ [wrap64 ((arr2_ 1 (-1) x23_2) * (rd (rd_L1 l0_0 x30_3) x19_1))]) := ⟨_, rfl⟩
                         replace H : (impl_Sample_stumps.l2 k3 x3_2 x19_1 (arr2_ 1 (-1) x23_2) y214 ((rd_L1 l0_0 0).length : Int) x19_1 x23_2 l0_0 (l0_0.length : Int) (wrap64 (x30_3 + 1)) l0_0 l0_1) = some r := by first | (rw [hy214]; with_reducible exact H) | (have H2_ := (Option.bind_some _ _).symm.trans H; rw [hy214]; with_reducible exact H2_) | (have H2_ := (Option.bind_some _ _).symm.trans H; with_reducible exact H2_) | with_reducible exact H | (rw [hy214]; exact H) | exact H
                         have Ny214 := Aside0.mk hy214
                         clear hy214
                         have H' := Aside0.mk H
                         clear H
                         have p212 : 0 ≤ (x30_3 : Int) := of_decide_eq_true aS
                         have q212 : x30_3 < (l0_0.length : Int) := of_decide_eq_true aS
                         obtain ⟨ad212, A212_0, c212_0, e212, hx212_0, hl212_0, hi212_0⟩ := at_L1 HR0_0.out x30_3 p212 q212
                         obtain rfl : ad208 = ad212 := (by injection e212)
                         replace hx212_0 := (HB.out.cell (World.block_lt_of_cell? w _ hx212_0)).trans hx212_0
                         have HR212_0 := Aside0.mk hi212_0
                         have HC212_0 := Aside0.mk hl212_0
                         clear hi212_0 hl212_0
                         replace p212 := eq_true p212
                         replace q212 := eq_true q212
                         have p213 : 0 ≤ (x19_1 : Int) := of_decide_eq_true aS
                         have q213 : x19_1 < ((rd_L1 l0_0 x30_3).length : Int) := of_decide_eq_true aS
                         obtain ⟨ad213, e213, hx213_0⟩ := Kd.at_int HR212_0.out x19_1 p213 q213
                         cases e213
                         replace hx213_0 := (HB.out.cell (World.block_lt_of_cell? w _ hx213_0)).trans hx213_0
                         replace p213 := eq_true p213
                         replace q213 := eq_true q213
                         go_wp2_with (first | ((with_reducible refine gate_builtin (b := .append) (xs := #[.tmp 34, .tmp 41]) rfl ?_); at_builtin; refine Kd.R_append (Kd.int .i64) (w0 := w) w.heap.size rfl (.tmp 34) (.tmp 41) 22 3 (.int .i64 0) 8 rfl Try.underlying22 info3 rfl (by decide) (by omega) u7 x7_3 (wrap64 ((arr2_ 1 (-1) x23_2) * (rd (rd_L1 l0_0 x30_3) x19_1))) [.int .i64 (wrap64 ((arr2_ 1 (-1) x23_2) * (rd (rd_L1 l0_0 x30_3) x19_1)))] (fun _ => True) (fun _ => False) rfl rfl ?aP (fun _ hk => hk.elim) ?aF ?aO ?aB ?aS ?aL ?_; (case aP => exact rfl); (case aB => exact (bC HB GE204)); (case aF => exact (fun _ _ => trivial)); (case aO => exact (pR HO_7)); (case aS => exact (below_size (bC HB GE204))); (case aL => have := LMc17.out; omega); intro v215 w18 ho hb hg hat; rw [← Ny214.out] at ho; have n0_ := Aside0.mk (Kd.S_after (ok := (fun _ => True)) (by (with_reducible repeat (first | apply Kd.S_alloc | apply Kd.S_drewN | apply Kd.S_drew)); exact Kd.S_mono HO_3.out (fun _ hk => ⟨trivial, hk⟩)) hg hat); have n1_ := Aside0.mk (blk_grown (g := gb204) (o := .cells #[.slice (some ad208) l0_0.length c0_0, .slice A0_1 l0_1.length c0_1] 52 (0, 0)) (pB BK204) hg (Kd.R_ne HO_7.out BK204.out (by decide))); have n2_ := Aside0.mk (hb); have n3_ := Aside0.mk (ho); clear HO_3; clear BK204; clear HB; clear HO_7; have HO_3 := n0_; have BK204 := n1_; have HB := n2_; have HO216 := n3_; clear n0_ n1_ n2_ n3_; clear ho hb hg hat))
                         go_roundg k3
                         case measure => have := HK1.out; have := HK2.out; have := HK3.out; omega
                         case rel => exact ⟨(y214), (wrap64 (x30_3 + 1)), rD, H', ⟨by have := HK1.out; have := HK2.out; have := HK3.out; omega⟩, ⟨by (with_reducible repeat (first | apply Kd.S_alloc | apply Kd.S_drewN | apply Kd.S_drew)); exact Kd.S_mono HO_3.out (fun _ hk => hk.2)⟩, ⟨pR HO216⟩, ⟨pB BK204⟩, ⟨bC HB GE204⟩⟩
                       · rw [if_neg c17] at H
                         exact absurd H (by simp)
                     · rw [if_neg c16] at H
                       exact absurd H (by simp)
                   · rw [if_neg c15] at H
                     exact absurd H (by simp)
                 · rw [if_neg c14] at H
                   exact absurd H (by simp)
               · rw [if_neg c13] at H
                 exact absurd H (by simp)
             · rw [if_neg c12] at H
               have c12b0 : decide (x30_3 < (l0_0.length : Int)) = false := decide_eq_false c12
               clear c12
               replace H := Option.bind_eq_some_iff.mp H
               obtain ⟨t217, A190, H⟩ := H
               replace H : (if x7_3.length < 17592186044416 then ((slices_Sort_int_int.f (x7_3 ++ [wrap64 (t217 + 1)])).bind fun t221 => ((slices_Compact_int_int.f t221).bind fun t222 => (impl_Sample_stumps.l3 k3 x3_2 x19_1 (arr2_ 1 (-1) x23_2) ((rd_L1 l0_0 0).length : Int) x19_1 x23_2 t222 (t222.length : Int) 0 l0_0 l0_1))) else (none)) = some r := H
               have A19 := Aside0.mk A190
               clear A190
               by_cases c20 : x7_3.length < 17592186044416
               · rw [if_pos c20] at H
                 have LMc20 := Aside0.mk c20
                 clear c20
                 obtain ⟨y218, hy218⟩ : ∃ y_ : List Int, y_ = (x7_3 ++ [wrap64 (t217 + 1)]) := ⟨_, rfl⟩
                 replace H : ((slices_Sort_int_int.f y218).bind fun t221 => ((slices_Compact_int_int.f t221).bind fun t222 => (impl_Sample_stumps.l3 k3 x3_2 x19_1 (arr2_ 1 (-1) x23_2) ((rd_L1 l0_0 0).length : Int) x19_1 x23_2 t222 (t222.length : Int) 0 l0_0 l0_1))) = some r := by first | (rw [hy218]; with_reducible exact H) | (have H2_ := (Option.bind_some _ _).symm.trans H; rw [hy218]; with_reducible exact H2_) | (have H2_ := (Option.bind_some _ _).symm.trans H; with_reducible exact H2_) | with_reducible exact H | (rw [hy218]; exact H) | exact H
                 have Ny218 := Aside0.mk hy218
                 clear hy218
                 replace H := Option.bind_eq_some_iff.mp H
                 obtain ⟨t221, A210, H⟩ := H
                 replace H : ((slices_Compact_int_int.f t221).bind fun t222 => (impl_Sample_stumps.l3 k3 x3_2 x19_1 (arr2_ 1 (-1) x23_2) ((rd_L1 l0_0 0).length : Int) x19_1 x23_2 t222 (t222.length : Int) 0 l0_0 l0_1)) = some r := H
                 have A21 := Aside0.mk A210
                 clear A210
                 replace H := Option.bind_eq_some_iff.mp H
                 obtain ⟨t222, A220, H⟩ := H
                 replace H : (impl_Sample_stumps.l3 k3 x3_2 x19_1 (arr2_ 1 (-1) x23_2) ((rd_L1 l0_0 0).length : Int) x19_1 x23_2 t222 (t222.length : Int) 0 l0_0 l0_1) = some r := H
                 have A22 := Aside0.mk A220
                 clear A220
                 have H' := Aside0.mk H
                 clear H
                 obtain ⟨Ao23, co23, eo23⟩ := Kd.R_slice HO_7.out
                 subst eo23
                 go_wp2_with (first | ((with_reducible refine gate_callee (f := 153) rfl ?_); refine goesL_ (some 46) rfl rfl Try.func153 (by kernel_rfl) rfl #[.slice Ao23 x7_3.length co23] rfl aT ?_; (with_reducible refine (slices_Max_int_int.calls k3 _ _ x7_3 t217 _ ?side1 ?side2 A19.out).mono ?_); (case side1 => exact cR HO_7); (case side2 => exact (Kd.R_reads' HO_7.out).2.1); rintro e w24 ⟨rfl, hb⟩; refine ⟨_, rfl, ?_⟩; have n0_ := Aside0.mk (Kd.S_below (pS HO_3) hb); have n1_ := Aside0.mk (Kd.R_below (pR HO_7) hb); have n2_ := Aside0.mk (bW BK204 hb); have n3_ := Aside0.mk (below_step (bC HB GE204) hb); clear HO_3; clear HO_7; clear BK204; clear HB; have HO_3 := n0_; have HO_7 := n1_; have BK204 := n2_; have HB := n3_; clear n0_ n1_ n2_ n3_; (try clear hb); (try clear hb2); (try clear hk); (try clear hi)) | ((with_reducible refine gate_builtin (b := .append) (xs := #[.tmp 44, .tmp 48]) rfl ?_); at_builtin; refine Kd.R_append (Kd.int .i64) (w0 := w) w.heap.size rfl (.tmp 44) (.tmp 48) 22 3 (.int .i64 0) 8 rfl Try.underlying22 info3 rfl (by decide) (by omega) (.slice Ao23 x7_3.length co23) x7_3 (wrap64 (t217 + 1)) [.int .i64 (wrap64 (t217 + 1))] (fun _ => True) (fun _ => False) rfl rfl ?aP (fun _ hk => hk.elim) ?aF ?aO ?aB ?aS ?aL ?_; (case aP => exact rfl); (case aB => exact (bC HB GE204)); (case aF => exact (fun _ _ => trivial)); (case aO => exact (pR HO_7)); (case aS => exact (below_size (bC HB GE204))); (case aL => have := LMc20.out; omega); intro v219 w25 ho hb hg hat; rw [← Ny218.out] at ho; have n0_ := Aside0.mk (Kd.S_after (ok := (fun _ => True)) (by (with_reducible repeat (first | apply Kd.S_alloc | apply Kd.S_drewN | apply Kd.S_drew)); exact Kd.S_mono HO_3.out (fun _ hk => ⟨trivial, hk⟩)) hg hat); have n1_ := Aside0.mk (blk_grown (g := gb204) (o := .cells #[.slice (some ad208) l0_0.length c0_0, .slice A0_1 l0_1.length c0_1] 52 (0, 0)) (pB BK204) hg (Kd.R_ne HO_7.out BK204.out (by decide))); have n2_ := Aside0.mk (hb); have n3_ := Aside0.mk (ho); clear HO_3; clear BK204; clear HB; clear HO_7; have HO_3 := n0_; have BK204 := n1_; have HB := n2_; have HO220 := n3_; clear n0_ n1_ n2_ n3_; clear ho hb hg hat; obtain ⟨Ao26, co26, eo26⟩ := Kd.R_slice HO220.out; subst eo26) | ((with_reducible refine gate_callee (f := 92) rfl ?_); refine goesL_ (some 51) rfl rfl Try.func92 (by kernel_rfl) rfl #[.slice Ao26 y218.length co26] rfl aT ?_; (with_reducible refine (slices_Sort_int_int.calls (fun k_ => some k_ = (.slice Ao26 y218.length co26 : Value).ownBlock) (.slice Ao26 y218.length co26) y218 t221 w _ ?side1 ?side2 A21.out).mono ?_); (case side1 => exact bC HB GE204); (case side2 => exact Kd.R_tight rfl HO220.out); rintro e w27 ⟨rfl, hy0, hb, hkp⟩; refine ⟨_, rfl, ?_⟩; have n0_ := Aside0.mk (Kd.S_mono (ok' := fun k_ => some k_ ≠ (.slice Ao26 y218.length co26 : Value).ownBlock) (Kd.S_keptB (HO_3.out) hkp (fun k_ hk_ hs_ => (hk_.2) hs_)) (fun k_ hk_ => hk_.1.2)); have n1_ := Aside0.mk (blk_kept (pB BK204) hkp (fun hs_ => (fun e_ => (Kd.R_ne HO220.out BK204.out (by decide)) e_) hs_)); have n2_ := Aside0.mk (Kd.R_reok rfl hy0 (fun k_ e_ => HO220.out.1 k_ e_)); have n3_ := Aside0.mk (hb); clear HO_3; clear BK204; clear HO220; clear HB; have HO_3 := n0_; have BK204 := n1_; have HO220 := n2_; have HB := n3_; clear n0_ n1_ n2_ n3_; (try clear hb); (try clear hkp); (try clear hy0)) | ((with_reducible refine gate_callee (f := 154) rfl ?_); refine goesL_ (some 53) rfl rfl Try.func154 (by kernel_rfl) rfl #[.slice Ao26 y218.length co26] rfl aT ?_; (with_reducible refine (slices_Compact_int_int.calls (fun k_ => some k_ = (.slice Ao26 y218.length co26 : Value).ownBlock) (.slice Ao26 y218.length co26) t221 t222 w _ ?side1 ?side2 A22.out).mono ?_); (case side1 => exact bC HB GE204); (case side2 => exact Kd.R_tight rfl HO220.out); rintro e w28 ⟨v223, rfl, ho0, hb, hkp⟩; refine ⟨_, rfl, ?_⟩; have n0_ := Aside0.mk (Kd.S_mono (ok' := fun k_ => some k_ ≠ (v223 : Value).ownBlock) (Kd.S_keptB (HO_3.out) hkp (fun k_ hk_ hs_ => (hk_) hs_)) (fun k_ hk_ => fun e_ => Or.elim (ho0.1 k_ e_.symm) (fun hs_ => hk_.2.1 hs_) (fun hn_ => Nat.not_le.2 hk_.2.2 hn_))); have n1_ := Aside0.mk (blk_kept (pB BK204) hkp (fun hs_ => (fun e_ => (Kd.R_ne HO220.out BK204.out (by decide)) e_) hs_)); have n2_ := Aside0.mk (Kd.R_mono (ok' := fun k_ => True) ho0 (fun k_ hk_ => trivial)); have n3_ := Aside0.mk (hb); clear HO_3; clear BK204; clear HB; clear HO220; have HO_3 := n0_; have BK204 := n1_; have HO224 := n2_; have HB := n3_; clear n0_ n1_ n2_ n3_; (try clear hb); (try clear hkp); (try clear ho0); obtain ⟨Ao29, co29, eo29⟩ := Kd.R_slice HO224.out; subst eo29))
                 go_loopg [3, 55] k3 (fun kq v3 v55 w' => ∃ (x3_4 : List (S39)) (x53_4 : List Int) (x55_4 : Int), v55 = .int .i64 x55_4 ∧ Aside0 (impl_Sample_stumps.l3 kq x3_4 x19_1 (arr2_ 1 (-1) x23_2) ((rd_L1 l0_0 0).length : Int) x19_1 x23_2 x53_4 (t222.length : Int) x55_4 l0_0 l0_1 = some r) ∧ Aside0 (kq ≤ k3) ∧ Aside0 (Kd.S k39 39 w' w.heap.size (fun k_ => some k_ ≠ ((.slice Ao29 t222.length co29) : Value).ownBlock) v3 x3_4) ∧ Aside0 (Kd.R (Kd.int .i64) 3 w' w.heap.size (fun _ => True) (.slice Ao29 t222.length co29) x53_4) ∧ Aside0 (w'.heap[gb204]? = some (.cells #[(.slice (some ad208) l0_0.length c0_0), (.slice A0_1 l0_1.length c0_1)] 52 (0, 0))) ∧ Aside0 (Below w.heap.size w w'))
                 case atStart => exact ⟨(x3_2), (t222), (0), rD, H', ⟨Nat.le_refl _⟩, ⟨pS HO_3⟩, ⟨pR HO224⟩, ⟨pB BK204⟩, ⟨bC HB GE204⟩⟩
                 case round =>
                  clear H'
                  try clear c2
                  try clear c2b0
                  try clear c2b1
                  try clear c7
                  try clear c7b0
                  try clear c8
                  try clear c8b0
                  try clear c12
                  try clear c12b0
                  try clear c13
                  try clear c20
                  try clear hcz11_0
                  try clear hcz11_1
                  try clear hcz6_0
                  try clear hcz6_1
                  try clear hfz11_0
                  try clear hfz11_1
                  try clear hfz6_0
                  try clear hfz6_1
                  try clear hx208_0
                  try clear p208
                  try clear q208
                  obtain ⟨x3_4, x53_4, x55_4, rfl, HA, HK4, HO_3, HO_53, BK204, HB⟩ := hrel
                  have hl53_4 := (Kd.R_reads' HO_53.out).1
                  rw [hl53_4] at HO_53
                  (try simp only [hl53_4])
                  (try simp only [hl53_4] at BK204)
                  (try simp only [hl53_4] at HO_3)
                  cases gk with
                  | zero => exact absurd HA.out (by simp [impl_Sample_stumps.l3])
                  | succ k4 =>
                   have H := HA.out
                   clear HA
                   simp only [impl_Sample_stumps.l3] at H
                   by_cases c30 : x55_4 < (t222.length : Int)
                   · rw [if_pos c30] at H
                     have c30b0 : decide (x55_4 < (t222.length : Int)) = true := decide_eq_true c30
                     (try simp only [hl53_4] at c30b0)
                     clear c30
                     by_cases c31 : 0 ≤ x55_4
                     · rw [if_pos c31] at H
                       have c31b0 : decide (0 ≤ x55_4) = true := decide_eq_true c31
                       clear c31
                       by_cases c32 : x55_4 < (x53_4.length : Int)
                       · rw [if_pos c32] at H
                         have c32b0 : decide (x55_4 < (x53_4.length : Int)) = true := decide_eq_true c32
                         (try simp only [hl53_4] at c32b0)
                         clear c32
                         by_cases c33 : 0 < (l0_0.length : Int)
                         · rw [if_pos c33] at H
                           have c33b0 : decide (0 < (l0_0.length : Int)) = true := decide_eq_true c33
                           have c33b1 : decide (0 < l0_0.length) = true := decide_eq_true (by omega)
                           clear c33
                           by_cases c34 : 0 ≤ ((rd_L1 l0_0 0).length : Int)
                           · rw [if_pos c34] at H
                             have c34b0 := eq_true c34
                             have c34b1 : decide (0 ≤ ((rd_L1 l0_0 0).length : Int)) = true := decide_eq_true c34
                             clear c34
                             by_cases c35 : (((rd_L1 l0_0 0).length : Int) : Int).toNat ≤ 35184372088832
                             · rw [if_pos c35] at H
                               have c35b0 := eq_true c35
                               have c35b1 : decide ((((rd_L1 l0_0 0).length : Int) : Int).toNat ≤ 35184372088832) = true := decide_eq_true c35
                               clear c35
                               obtain ⟨y227, hy227⟩ : ∃ y_ : List Int, y_ = (List.replicate (((rd_L1 l0_0 0).length : Int) : Int).toNat 0) := ⟨_, rfl⟩
                               replace H : (if 0 ≤ x19_1 then (if x19_1 < (y227.length : Int) then (if x3_4.length < 4398046511104 then (impl_Sample_stumps.l3 k4 (x3_4 ++ [(⟨(y227.set (x19_1 : Int).toNat (arr2_ 1 (-1) x23_2)), rd x53_4 x55_4⟩ : S39)]) x19_1 (arr2_ 1 (-1) x23_2) ((rd_L1 l0_0 0).length : Int) x19_1 x23_2 x53_4 (t222.length : Int) (wrap64 (x55_4 + 1)) l0_0 l0_1) else (none)) else (none)) else (none)) = some r := by first | (rw [hy227]; with_reducible exact H) | (have H2_ := (Option.bind_some _ _).symm.trans H; rw [hy227]; with_reducible exact H2_) | (have H2_ := (Option.bind_some _ _).symm.trans H; with_reducible exact H2_) | with_reducible exact H | (rw [hy227]; exact H) | exact H
                               have Ny227 := Aside0.mk hy227
                               clear hy227
                               by_cases c36 : 0 ≤ x19_1
                               · rw [if_pos c36] at H
                                 have c36b0 : decide (0 ≤ x19_1) = true := decide_eq_true c36
                                 clear c36
                                 by_cases c37 : x19_1 < (y227.length : Int)
                                 · rw [if_pos c37] at H
                                   have c37b0 : decide (x19_1 < (y227.length : Int)) = true := decide_eq_true c37
                                   (try simp only [hl53_4] at c37b0)
                                   clear c37
                                   obtain ⟨y231, hy231⟩ : ∃ y_ : List Int, y_ = (y227.set (x19_1 : Int).toNat (arr2_ 1 (-1) x23_2)) := ⟨_, rfl⟩
                                   replace H : (if x3_4.length < 4398046511104 then (impl_Sample_stumps.l3 k4 (x3_4 ++ [(⟨y231, rd x53_4 x55_4⟩ : S39)]) x19_1 (arr2_ 1 (-1) x23_2) ((rd_L1 l0_0 0).length : Int) x19_1 x23_2 x53_4 (t222.length : Int) (wrap64 (x55_4 + 1)) l0_0 l0_1) else (none)) = some r := by first | (rw [hy231]; with_reducible exact H) | (have H2_ := (Option.bind_some _ _).symm.trans H; rw [hy231]; with_reducible exact H2_) | (have H2_ := (Option.bind_some _ _).symm.trans H; with_reducible exact H2_) | with_reducible exact H | (rw [hy231]; exact H) | exact H
                                   have Ny231 := Aside0.mk hy231
                                   clear hy231
                                   by_cases c39 : x3_4.length < 4398046511104
                                   · rw [if_pos c39] at H
                                     have LMc39 := Aside0.mk c39
                                     clear c39
                                     obtain ⟨y232, hy232⟩ : ∃ y_ : List (S39), y_ = (x3_4 ++ [(⟨y231, rd x53_4 x55_4⟩ : S39)]) := ⟨_, rfl⟩
                                     replace H : (impl_Sample_stumps.l3 k4 y232 x19_1 (arr2_ 1 (-1) x23_2) ((rd_L1 l0_0 0).length : Int) x19_1 x23_2 x53_4 (t222.length : Int) (wrap64 (x55_4 + 1)) l0_0 l0_1) = some r := by first | (rw [hy232]; with_reducible exact H) | (have H2_ := (Option.bind_some _ _).symm.trans H; rw [hy232]; with_reducible exact H2_) | (have H2_ := (Option.bind_some _ _).symm.trans H; with_reducible exact H2_) | with_reducible exact H | (rw [hy232]; exact H) | exact H
                                     have Ny232 := Aside0.mk hy232
                                     clear hy232
                                     have H' := Aside0.mk H
                                     clear H
                                     have p225 : 0 ≤ (x55_4 : Int) := of_decide_eq_true aS
                                     have q225 : x55_4 < (x53_4.length : Int) := of_decide_eq_true aS
                                     obtain ⟨ad225, e225, hx225_0⟩ := Kd.at_int (Kd.R_reads' HO_53.out).2.2 x55_4 p225 q225
                                     cases e225
                                     replace p225 := eq_true p225
                                     replace q225 := eq_true q225
                                     have hcz40_0 : wr.cell? ⟨gb204, 0, none⟩ = some (.slice (some ad208) l0_0.length c0_0) := (blk_cell BK204.out 0).trans rfl
                                     have hcz40_1 : wr.cell? ⟨gb204, 1, none⟩ = some (.slice A0_1 l0_1.length c0_1) := (blk_cell BK204.out 1).trans rfl
                                     have hfz40_0 := blk_frozen BK204.out 0
                                     have hfz40_1 := blk_frozen BK204.out 1
                                     have p226 : 0 ≤ (0 : Int) := (by omega)
                                     have q226 : 0 < (l0_0.length : Int) := of_decide_eq_true aS
                                     obtain ⟨ad226, A226_0, c226_0, e226, hx226_0, hl226_0, hi226_0⟩ := at_L1 HR0_0.out 0 p226 q226
                                     obtain rfl : ad208 = ad226 := (by injection e226)
                                     have qi226 : (0 < l0_0.length) = True := eq_true (by omega)
                                     (try rw [show ((0 : Int)).toNat = 0 from rfl] at hx226_0)
                                     (try rw [Addr.add_zero'] at hx226_0)
                                     replace hx226_0 := (HB.out.cell (World.block_lt_of_cell? w _ hx226_0)).trans hx226_0
                                     have HR226_0 := Aside0.mk hi226_0
                                     have HC226_0 := Aside0.mk hl226_0
                                     clear hi226_0 hl226_0
                                     replace p226 := eq_true p226
                                     replace q226 := eq_true q226
                                     go_wp2_with (first | ((with_reducible refine gate_dst (N := 64) rfl ?_); refine Kd.R_make (Kd.int .i64) _ 3 rfl (N := 64) rfl 22 _ _ rfl ((rd_L1 l0_0 0).length : Int) rfl rfl Try.underlying22 (.int .i64 0) 8 info3 rfl (by decide) (by omega) 0 (ok := fun _ => True) (okp := fun _ => True) rfl (fun _ hk => hk) trivial (of_decide_eq_true aS) (Nat.le_trans (Nat.mul_le_mul_right _ (of_decide_eq_true aS : ((rd_L1 l0_0 0).length : Int).toNat ≤ 35184372088832)) (by omega)) (Below.refl _ _) (Nat.le_refl _) ?_; intro v228 w41 ho42 hb hg_ hnew_; clear hg_ hnew_; (first | rw [← Ny227.out] at ho42 | (simp only [Int.reduceToNat] at ho42; rw [← Ny227.out] at ho42)); have n0_ := Aside0.mk (Kd.S_elder' (pS HO_3) (Kd.R_base ho42) hb); have n1_ := Aside0.mk (Kd.R_elder' (pR HO_53) (Kd.R_base ho42) hb); have n2_ := Aside0.mk (Kd.R_lower (Kd.R_new' ho42 (Kd.R_lt (pR HO_53))) (below_size (bC HB GE204))); have n3_ := Aside0.mk (bW BK204 hb); have n4_ := Aside0.mk (below_step (bC HB GE204) hb); clear HO_3; clear HO_53; clear BK204; clear HB; have HO_3 := n0_; have HO_53 := n1_; have HO229 := n2_; have BK204 := n3_; have HB := n4_; clear n0_ n1_ n2_ n3_ n4_; clear hb ho42; obtain ⟨Ao43, co43, eo43⟩ := Kd.R_slice HO229.out; subst eo43) | ((with_reducible refine gate_dst (N := 12) rfl ?_); refine box_event ?hg (N := 12) ?hd (cs := #[.slice none 0 0, .int .i64 0]) (t := 39) ?hr ?_; (case hd => rfl); (case hg => rfl); (case hr => first | (go_simp; done) | (go_simp; rfl)); intro gb230 hg w44 hbox hb; have n0_ := Aside0.mk (Kd.S_below (Kd.S_elderB (pS HO_3) gb230 (Nat.le_of_eq hg.symm)) hb); have n1_ := Aside0.mk (Kd.R_below (pR HO_53) hb); have n2_ := Aside0.mk (Kd.R_below (pR HO229) hb); have n3_ := Aside0.mk (bW BK204 hb); have n4_ := Aside0.mk (below_step (bC HB GE204) hb); have n5_ := Aside0.mk (hbox); have n6_ := Aside0.mk ((by rw [hg]; exact (below_size (bC HB GE204)) : w.heap.size ≤ gb230)); have n7_ := Aside0.mk ((by rw [hg]; exact (below_size (bC HB GE204)) : w.heap.size ≤ gb230)); have n8_ := Aside0.mk ((by rw [hg]; exact Nat.ne_of_lt (blk_lt (g := gb204) (o := .cells #[.slice (some ad208) l0_0.length c0_0, .slice A0_1 l0_1.length c0_1] 52 (0, 0)) (pB BK204)) : gb204 ≠ gb230)); have n9_ := Aside0.mk ((by rw [hg]; exact Nat.ne_of_gt (blk_lt (g := gb204) (o := .cells #[.slice (some ad208) l0_0.length c0_0, .slice A0_1 l0_1.length c0_1] 52 (0, 0)) (pB BK204)) : gb230 ≠ gb204)); clear HO_3; clear HO_53; clear HO229; clear BK204; clear HB; have HO_3 := n0_; have HO_53 := n1_; have HO229 := n2_; have BK204 := n3_; have HB := n4_; have BK230 := n5_; have GW230 := n6_; have GE230 := n7_; have NB204_230 := n8_; have NB230_204 := n9_; clear n0_ n1_ n2_ n3_ n4_ n5_ n6_ n7_ n8_ n9_; clear hb hbox hg; have hnb45 := NB230_204.out; have hnc45 := NB204_230.out; have hcz46_0 : w44.cell? ⟨gb230, 0, none⟩ = some (.slice none 0 0) := (blk_cell BK230.out 0).trans rfl; have hcz46_1 : w44.cell? ⟨gb230, 1, none⟩ = some (.int .i64 0) := (blk_cell BK230.out 1).trans rfl; have hfz46_0 := blk_frozen BK230.out 0; have hfz46_1 := blk_frozen BK230.out 1) | ((with_reducible refine gate_store (t := 39) (p := 12) rfl ?_); refine store_event (t := 39) (p := 12) (v := ?vo_w47) (w1 := ((w44.setCell ⟨gb230, 0, none⟩ (.slice Ao43 y227.length co43)).setCell ⟨gb230, 1, none⟩ (.int .i64 (rd x53_4 x55_4)))) ?hg ?ho ?hn ?hr ?_; (case ho => rfl); (case hg => rfl); (case hn => rfl); (case hr => first | (go_simp; done) | (go_simp; rfl)); intro w47 hw; have n0_ : Aside0 (Kd.S k39 39 w47 w.heap.size (fun k_ => some k_ ≠ (.slice (some ad225) x53_4.length co29 : Value).ownBlock ∧ some k_ ≠ (.slice Ao43 y227.length co43 : Value).ownBlock ∧ k_ ≠ gb230) u3 x3_4) := ⟨(by rw [hw]; exact (by (with_reducible repeat (first | apply Kd.S_alloc | apply Kd.S_drewN | apply Kd.S_drew)); exact Kd.S_mono (Kd.S_far (p := ⟨gb230, 1, none⟩) (Kd.S_far (p := ⟨gb230, 0, none⟩) (Kd.S_mono HO_3.out (fun k_ hk => (⟨hk, hk.2⟩ : _ ∧ k_ ≠ gb230))) (fun _ hk => hk.2) (.slice Ao43 y227.length co43)) (fun _ hk => hk.2) (.int .i64 (rd x53_4 x55_4))) (fun _ hk => ⟨hk.1.1.1, ⟨hk.1.1.2, hk.1.2⟩⟩)))⟩; have n1_ : Aside0 (Kd.R (Kd.int .i64) 3 w47 w.heap.size (fun k_ => some k_ ≠ (.slice Ao43 y227.length co43 : Value).ownBlock) (.slice (some ad225) x53_4.length co29) x53_4) := ⟨(by rw [hw]; exact (by (with_reducible repeat (first | apply Kd.R_alloc | apply Kd.R_drewN | apply Kd.R_drew)); exact Kd.R_mono (Kd.R_far (p := ⟨gb230, 1, none⟩) (Kd.R_far (p := ⟨gb230, 0, none⟩) (Kd.R_types HO_53.out BK230.out (by decide)) (fun _ hk => hk.2) (.slice Ao43 y227.length co43)) (fun _ hk => hk.2) (.int .i64 (rd x53_4 x55_4))) (fun _ hk => hk.1.2)))⟩; have n2_ : Aside0 (Kd.R (Kd.int .i64) 3 w47 w.heap.size (fun k_ => some k_ ≠ (.slice (some ad225) x53_4.length co29 : Value).ownBlock) (.slice Ao43 y227.length co43) y227) := ⟨(by rw [hw]; exact (by (with_reducible repeat (first | apply Kd.R_alloc | apply Kd.R_drewN | apply Kd.R_drew)); exact Kd.R_mono (Kd.R_far (p := ⟨gb230, 1, none⟩) (Kd.R_far (p := ⟨gb230, 0, none⟩) (Kd.R_types HO229.out BK230.out (by decide)) (fun _ hk => hk.2) (.slice Ao43 y227.length co43)) (fun _ hk => hk.2) (.int .i64 (rd x53_4 x55_4))) (fun _ hk => hk.1.2)))⟩; have n3_ : Aside0 (w47.heap[gb204]? = some (.cells #[.slice (some ad208) l0_0.length c0_0, .slice A0_1 l0_1.length c0_1] 52 (0, 0))) := ⟨(by rw [hw]; exact (f2 BK204 NB204_230 NB204_230))⟩; have n4_ : Aside0 (w47.heap[gb230]? = some (.cells #[.slice Ao43 y227.length co43, .int .i64 (rd x53_4 x55_4)] 39 (0, 0))) := ⟨(by rw [hw]; exact (by (with_reducible repeat (first | refine blk_drewN ?_ _ | refine blk_drew ?_ | refine blk_alloc ?_ _)); refine blk_put (cs := #[.slice Ao43 y227.length co43, .int .i64 0]) ?_ 1 _ rfl; (with_reducible repeat (first | refine blk_drewN ?_ _ | refine blk_drew ?_ | refine blk_alloc ?_ _)); refine blk_put (cs := #[.slice none 0 0, .int .i64 0]) ?_ 0 _ rfl; (with_reducible repeat (first | refine blk_drewN ?_ _ | refine blk_drew ?_ | refine blk_alloc ?_ _)); exact BK230.out))⟩; have n5_ : Aside0 (Below w.heap.size w w47) := ⟨(by rw [hw]; exact (bD HB GE204 GE230))⟩; clear hw; clear HO_3; clear HO_53; clear HO229; clear BK204; clear BK230; clear HB; have HO_3 := n0_; have HO_53 := n1_; have HO229 := n2_; have BK204 := n3_; have BK230 := n4_; have HB := n5_; clear n0_ n1_ n2_ n3_ n4_ n5_; have hcz48_0 : w47.cell? ⟨gb230, 0, none⟩ = some (.slice Ao43 y227.length co43) := (blk_cell BK230.out 0).trans rfl; have hcz48_1 : w47.cell? ⟨gb230, 1, none⟩ = some (.int .i64 (rd x53_4 x55_4)) := (blk_cell BK230.out 1).trans rfl; have hfz48_0 := blk_frozen BK230.out 0; have hfz48_1 := blk_frozen BK230.out 1; have p38 : 0 ≤ (x19_1 : Int) := of_decide_eq_true aS; have q38 : (x19_1 : Int) < ((y227.length : Int) : Int) := of_decide_eq_true aS; obtain ⟨go38, co38, eo38, gb38, gl38, cl38, HG38⟩ := Kd.R_form HO229.out (by omega); (first | cases eo38 | (injection eo38 with ea_ en_ ec_; (first | subst ea_ | (injection ea_ with ea_; subst ea_)); subst ec_; clear en_)); have GB38 := Aside0.mk gb38; have GG38 := Aside0.mk HG38; clear gb38 gl38 HG38; obtain ⟨hx38_0, hf38_0⟩ := Kd.R_celln 0 HO229.out (x19_1 : Int) p38 q38; replace p38 := eq_true p38; replace q38 := eq_true q38; obtain ⟨hy49_, hz49_⟩ := Kd.R_celln 0 HO229.out (x19_1 : Int) (of_decide_eq_true aS) (of_decide_eq_true aS); have HP49 := Kd.R_putg HO229.out (x19_1 : Int) (arr2_ 1 (-1) x23_2)) | ((with_reducible refine gate_store (t := 3) (p := 71) rfl ?_); refine store_event (t := 3) (p := 71) (v := ?vo_w50) (w1 := (w47.setCell ⟨go38, (x19_1 : Int).toNat, none⟩ (.int .i64 (arr2_ 1 (-1) x23_2)))) ?hg ?ho ?hn ?hr ?_; (case ho => rfl); (case hg => rfl); (case hn => rfl); (case hr => first | (go_simp; done) | (go_simp; rfl)); intro w50 hw; have hg : w47.grownBy w50 (some go38) := (by rw [hw]; exact HP49.2); have hp_ : Kd.R (Kd.int .i64) 3 w50 w.heap.size (fun k_ => some k_ ≠ (.slice (some ad225) x53_4.length co29 : Value).ownBlock) (.slice (some ⟨go38, 0, none⟩) y227.length co43) y231 := (by rw [hw, Ny231.out]; exact HP49.1); clear HP49; have n0_ := Aside0.mk (Kd.S_after (v := (.slice (some ⟨go38, 0, none⟩) y227.length co43)) (v1 := (.slice (some ⟨go38, 0, none⟩) y227.length co43)) (ok := (fun k_ => some k_ ≠ (.slice (some ad225) x53_4.length co29 : Value).ownBlock ∧ k_ ≠ gb230)) (by (with_reducible repeat (first | apply Kd.S_alloc | apply Kd.S_drewN | apply Kd.S_drew)); exact Kd.S_mono HO_3.out (fun _ hk => ⟨⟨hk.1, hk.2.2⟩, hk.2.1⟩)) hg (.inl rfl)); have n1_ := Aside0.mk (Kd.R_after (v := (.slice (some ⟨go38, 0, none⟩) y227.length co43)) (v1 := (.slice (some ⟨go38, 0, none⟩) y227.length co43)) (ok := (fun _ => True)) (by (with_reducible repeat (first | apply Kd.R_alloc | apply Kd.R_drewN | apply Kd.R_drew)); exact Kd.R_mono HO_53.out (fun _ hk => ⟨trivial, hk⟩)) hg (.inl rfl)); have n2_ := Aside0.mk (blk_grown (g := gb204) (o := .cells #[.slice (some ad208) l0_0.length c0_0, .slice A0_1 l0_1.length c0_1] 52 (0, 0)) (pB BK204) hg (Kd.R_ne HO229.out BK204.out (by decide))); have n3_ := Aside0.mk (hp_); have n4_ := Aside0.mk (blk_grown (g := gb230) (o := .cells #[.slice (some ⟨go38, 0, none⟩) y227.length co43, .int .i64 (rd x53_4 x55_4)] 39 (0, 0)) (pB BK230) hg (Kd.R_ne HO229.out BK230.out (by decide))); have n5_ := Aside0.mk ((by rw [hw]; exact below_set (HB.out) GB38.out : Below w.heap.size w w50)); clear HO_3; clear HO_53; clear BK204; clear HO229; clear BK230; clear HB; have HO_3 := n0_; have HO_53 := n1_; have BK204 := n2_; have HO229 := n3_; have BK230 := n4_; have HB := n5_; clear n0_ n1_ n2_ n3_ n4_ n5_; clear hg hw hp_; have hcz51_0 : w50.cell? ⟨gb230, 0, none⟩ = some (.slice (some ⟨go38, 0, none⟩) y227.length co43) := (blk_cell BK230.out 0).trans rfl; have hcz51_1 : w50.cell? ⟨gb230, 1, none⟩ = some (.int .i64 (rd x53_4 x55_4)) := (blk_cell BK230.out 1).trans rfl; have hfz51_0 := blk_frozen BK230.out 0; have hfz51_1 := blk_frozen BK230.out 1) | ((with_reducible refine gate_builtin (b := .append) (xs := #[.tmp 72, .tmp 74]) rfl ?_); at_builtin; refine Kd.S_append k39 (w0 := w) w.heap.size rfl (.tmp 72) (.tmp 74) 65 39 (.agg #[(.slice none 0 0), (.int .i64 0)]) 32 rfl Try.underlying65 info39 rfl (by decide) (by omega) u3 x3_4 (⟨y231, rd x53_4 x55_4⟩ : S39) [.slice (some ⟨go38, 0, none⟩) y227.length co43, .int .i64 (rd x53_4 x55_4)] (fun k_ => some k_ ≠ (.slice (some ad225) x53_4.length co29 : Value).ownBlock ∧ k_ ≠ gb230) (fun k_ => some k_ = (.slice (some ⟨go38, 0, none⟩) y227.length co43 : Value).ownBlock) rfl rfl ?aP (fun k_ hk_ => ((Kd.R_mono (ok' := fun k_ => ((fun k_ => some k_ ≠ (.slice (some ad225) x53_4.length co29 : Value).ownBlock ∧ k_ ≠ gb230)) k_ ∧ some k_ ≠ (u3 : Value).ownBlock) (Kd.R_types (Kd.R_apart' (HO229.out) (Kd.S_typed HO_3.out) (by decide)) BK230.out (by decide)) (fun k_ hk => ⟨⟨hk.1.1, hk.2⟩, hk.1.2⟩))).1 k_ hk_.symm) ?aF ?aO ?aB ?aS ?aL ?_; (case aP => exact k39_mkM _ _ _ (⟨y231, rd x53_4 x55_4⟩ : S39) (Kd.R_mono (Kd.R_tight rfl (Kd.R_mono (ok' := fun k_ => ((fun k_ => some k_ ≠ (.slice (some ad225) x53_4.length co29 : Value).ownBlock ∧ k_ ≠ gb230)) k_ ∧ some k_ ≠ (u3 : Value).ownBlock) (Kd.R_types (Kd.R_apart' (HO229.out) (Kd.S_typed HO_3.out) (by decide)) BK230.out (by decide)) (fun k_ hk => ⟨⟨hk.1.1, hk.2⟩, hk.1.2⟩))) (fun _ h_ => h_))); (case aB => exact (bD HB GE204 GE230)); (case aF => exact (fun k_ hk => ⟨Kd.fresh' (Kd.R_lt (pR HO_53)) k_ hk, Kd.freshB (g := gb230) (o := .cells #[.slice (some ⟨go38, 0, none⟩) y227.length co43, .int .i64 (rd x53_4 x55_4)] 39 (0, 0)) (pB BK230) k_ hk⟩)); (case aO => exact (by (with_reducible repeat (first | apply Kd.S_alloc | apply Kd.S_drewN | apply Kd.S_drew)); exact Kd.S_mono HO_3.out (fun k_ hk => ⟨⟨hk.1.1, hk.1.2⟩, fun e_ => hk.2 e_⟩))); (case aS => exact (below_size (bD HB GE204 GE230))); (case aL => have := LMc39.out; omega); intro v233 w52 ho hb hg hat; rw [← Ny232.out] at ho; have n0_ := Aside0.mk (Kd.R_over' (pR HO_53) (Kd.S_typed (pS HO_3)) (by decide) hg); have n1_ := Aside0.mk (blk_grown (g := gb204) (o := .cells #[.slice (some ad208) l0_0.length c0_0, .slice A0_1 l0_1.length c0_1] 52 (0, 0)) (pB BK204) hg (Kd.S_ne HO_3.out BK204.out (by decide))); have n2_ := Aside0.mk (blk_grown (g := gb230) (o := .cells #[.slice (some ⟨go38, 0, none⟩) y227.length co43, .int .i64 (rd x53_4 x55_4)] 39 (0, 0)) (pB BK230) hg (Kd.S_away HO_3.out (fun _ hk => hk.1.2))); have n3_ := Aside0.mk (hb); have n4_ := Aside0.mk (ho); clear HO_53; clear BK204; clear BK230; clear HB; clear HO_3; clear HO229; have HO_53 := n0_; have BK204 := n1_; have BK230 := n2_; have HB := n3_; have HO234 := n4_; clear n0_ n1_ n2_ n3_ n4_; clear ho hb hg hat))
                                     (try simp only [← hl53_4])
                                     go_roundg k4
                                     case measure => have := HK1.out; have := HK2.out; have := HK3.out; have := HK4.out; omega
                                     case rel => exact ⟨(y232), (x53_4), (wrap64 (x55_4 + 1)), rD, H', ⟨by have := HK1.out; have := HK2.out; have := HK3.out; have := HK4.out; omega⟩, ⟨by (try simp only [hl53_4]); (with_reducible repeat (first | apply Kd.S_alloc | apply Kd.S_drewN | apply Kd.S_drew)); exact Kd.S_mono HO234.out (fun _ hk => hk.1)⟩, ⟨by (try simp only [hl53_4]); (with_reducible repeat (first | apply Kd.R_alloc | apply Kd.R_drewN | apply Kd.R_drew)); exact Kd.R_mono HO_53.out (fun _ hk => trivial)⟩, ⟨by (try simp only [hl53_4]); (with_reducible repeat (first | refine blk_drewN ?_ _ | refine blk_drew ?_ | refine blk_alloc ?_ _)); exact BK204.out⟩, ⟨bD HB GE204 GE230⟩⟩
                                   · rw [if_neg c39] at H
                                     exact absurd H (by simp)
                                 · rw [if_neg c37] at H
                                   exact absurd H (by simp)
                               · rw [if_neg c36] at H
                                 exact absurd H (by simp)
                             · rw [if_neg c35] at H
                               exact absurd H (by simp)
                           · rw [if_neg c34] at H
                             exact absurd H (by simp)
                         · rw [if_neg c33] at H
                           exact absurd H (by simp)
                       · rw [if_neg c32] at H
                         exact absurd H (by simp)
                     · rw [if_neg c31] at H
                       exact absurd H (by simp)
                   · rw [if_neg c30] at H
                     have c30b0 : decide (x55_4 < (t222.length : Int)) = false := decide_eq_false c30
                     (try simp only [hl53_4] at c30b0)
                     clear c30
                     have H' := Aside0.mk H
                     clear H
                     go_wp2
                     (try simp only [← hl53_4])
                     go_roundg k4
                     case measure => have := HK1.out; have := HK2.out; have := HK3.out; have := HK4.out; omega
                     case rel => exact ⟨(x3_4), (wrap64 (x23_2 + 1)), rD, H', ⟨by have := HK1.out; have := HK2.out; have := HK3.out; have := HK4.out; omega⟩, ⟨by (try simp only [hl53_4]); (with_reducible repeat (first | apply Kd.S_alloc | apply Kd.S_drewN | apply Kd.S_drew)); exact Kd.S_mono HO_3.out (fun _ hk => trivial)⟩, ⟨by (try simp only [hl53_4]); (with_reducible repeat (first | refine blk_drewN ?_ _ | refine blk_drew ?_ | refine blk_alloc ?_ _)); exact BK204.out⟩, ⟨bC HB GE204⟩⟩
               · rw [if_neg c20] at H
                 exact absurd H (by simp)
         · rw [if_neg c8] at H
           have c8b0 : decide (x23_2 < 2) = false := decide_eq_false c8
           clear c8
           have H' := Aside0.mk H
           clear H
           go_wp2
           go_roundg k2
           case measure => have := HK1.out; have := HK2.out; omega
           case rel => exact ⟨(x3_2), (wrap64 (x19_1 + 1)), rD, H', ⟨by have := HK1.out; have := HK2.out; omega⟩, ⟨pS HO_3⟩, ⟨pB BK204⟩, ⟨bC HB GE204⟩⟩
     · rw [if_neg c7] at H
       have c7b0 : decide (x19_1 < ((rd_L1 l0_0 0).length : Int)) = false := decide_eq_false c7
       clear c7
       obtain rfl := Option.some.inj H
       go_wp2
       go_ret
       exact ⟨_, eW, by (with_reducible repeat (first | apply Kd.S_alloc | apply Kd.S_drewN | apply Kd.S_drew)); exact HO_3.out, bC HB GE204⟩
 · rw [if_neg c2] at H
   exact absurd H (by simp)

/-! ### impl_StumpsOf: function 45 -/
def impl_StumpsOf.f (k : Nat) (l0_0 : List (List Int)) (l0_1 : List Int) : Option ((List (S39)) × Bool) := (impl_hasPoints.f k l0_0 l0_1).bind fun t236 => (if t236 = true then ((impl_Sample_stumps.f k l0_0 l0_1).bind fun t237 => (some (t237, true))) else (some (([] : List (S39)), false)))
set_option maxHeartbeats 8000000 in
set_option maxRecDepth 100000 in
theorem impl_StumpsOf.calls (k : Nat) (A0_0 : Option Addr) (c0_0 : Nat) (l0_0 : List (List Int)) (A0_1 : Option Addr) (c0_1 : Nat) (l0_1 : List Int) (r1 : List (S39)) (r2 : Bool) (w : World) (hr0_0 : Kd.C (Kd.slice 3 (Kd.int .i64)) w A0_0 l0_0.length l0_0) (hc0_0 : l0_0.length ≤ c0_0) (hr0_1 : Kd.C (Kd.int .i64) w A0_1 l0_1.length l0_1) (hc0_1 : l0_1.length ≤ c0_1) (h : impl_StumpsOf.f k l0_0 l0_1 = some (r1, r2)) :
 Calls Try.prog 45 #[.agg #[.slice A0_0 l0_0.length c0_0, .slice A0_1 l0_1.length c0_1]] w fun e w' => ∃ v0_ : Value, e = .returned (.tuple #[v0_, .bool r2]) ∧ Kd.S k39 39 w' w.heap.size (fun _ => True) v0_ r1 ∧ Below w.heap.size w w' := by
 have hu52 := Try.underlying52
 have HR0_0 := Aside0.mk hr0_0
 have HC0_0 := Aside0.mk hc0_0
 clear hr0_0 hc0_0
 have HR0_1 := Aside0.mk hr0_1
 have HC0_1 := Aside0.mk hc0_1
 clear hr0_1 hc0_1
 have HB := Aside0.mk (Below.refl w.heap.size w)
 have H : ((impl_hasPoints.f k l0_0 l0_1).bind fun t236 => (if t236 = true then ((impl_Sample_stumps.f k l0_0 l0_1).bind fun t237 => (some (t237, true))) else (some (([] : List (S39)), false)))) = some (r1, r2) := h
 clear h
 replace H := Option.bind_eq_some_iff.mp H
 obtain ⟨t236, A20, H⟩ := H
 replace H : (if t236 = true then ((impl_Sample_stumps.f k l0_0 l0_1).bind fun t237 => (some (t237, true))) else (some (([] : List (S39)), false))) = some (r1, r2) := H
 have A2 := Aside0.mk A20
 clear A20
 by_cases c3 : t236 = true
 · subst c3
   have H1 : ((impl_Sample_stumps.f k l0_0 l0_1).bind fun t237 => (some (t237, true))) = some (r1, r2) := by rw [if_pos rfl] at H; exact H
   clear H
   have H := H1
   clear H1
   replace H := Option.bind_eq_some_iff.mp H
   obtain ⟨t237, A40, H⟩ := H
   replace H : (some (t237, true)) = some (r1, r2) := H
   have A4 := Aside0.mk A40
   clear A40
   simp only [Option.some.injEq, Prod.mk.injEq] at H
   obtain ⟨rfl, rfl⟩ := H
   go_enter Try.func45, Try.ntmps45
   go_wp2_with (first | ((with_reducible refine gate_dst (N := 1) rfl ?_); refine box_event ?hg (N := 1) ?hd (cs := #[.slice A0_0 l0_0.length c0_0, .slice A0_1 l0_1.length c0_1]) (t := 52) ?hr ?_; (case hd => rfl); (case hg => rfl); (case hr => first | (go_simp; done) | (go_simp; rfl)); intro gb235 hg w5 hbox hb; have n0_ := Aside0.mk (below_step (bB HB) hb); have n1_ := Aside0.mk (hbox); have n2_ := Aside0.mk ((by rw [hg]; exact (below_size (bB HB)) : w.heap.size ≤ gb235)); have n3_ := Aside0.mk ((by rw [hg]; exact (below_size (bB HB)) : w.heap.size ≤ gb235)); clear HB; have HB := n0_; have BK235 := n1_; have GW235 := n2_; have GE235 := n3_; clear n0_ n1_ n2_ n3_; clear hb hbox hg; have hcz6_0 : w5.cell? ⟨gb235, 0, none⟩ = some (.slice A0_0 l0_0.length c0_0) := (blk_cell BK235.out 0).trans rfl; have hcz6_1 : w5.cell? ⟨gb235, 1, none⟩ = some (.slice A0_1 l0_1.length c0_1) := (blk_cell BK235.out 1).trans rfl; have hfz6_0 := blk_frozen BK235.out 0; have hfz6_1 := blk_frozen BK235.out 1) | ((with_reducible refine gate_callee (f := 98) rfl ?_); refine goesL_ (some 5) rfl rfl Try.func98 (by kernel_rfl) rfl #[.agg #[.slice A0_0 l0_0.length c0_0, .slice A0_1 l0_1.length c0_1]] rfl aT ?_; (with_reducible refine (impl_hasPoints.calls k _ _ l0_0 _ _ l0_1 true _ ?side1 ?side2 ?side3 ?side4 A2.out).mono ?_); (case side1 => exact cB HR0_0 HB); (case side2 => exact HC0_0.out); (case side3 => exact cB HR0_1 HB); (case side4 => exact HC0_1.out); rintro e w7 ⟨rfl, hb⟩; refine ⟨_, rfl, ?_⟩; have n0_ := Aside0.mk (bW BK235 hb); have n1_ := Aside0.mk (below_step (bC HB GE235) hb); clear BK235; clear HB; have BK235 := n0_; have HB := n1_; clear n0_ n1_; (try clear hb); (try clear hb2); (try clear hk); (try clear hi); have hcz8_0 : w7.cell? ⟨gb235, 0, none⟩ = some (.slice A0_0 l0_0.length c0_0) := (blk_cell BK235.out 0).trans rfl; have hcz8_1 : w7.cell? ⟨gb235, 1, none⟩ = some (.slice A0_1 l0_1.length c0_1) := (blk_cell BK235.out 1).trans rfl; have hfz8_0 := blk_frozen BK235.out 0; have hfz8_1 := blk_frozen BK235.out 1) | ((with_reducible refine gate_callee (f := 99) rfl ?_); refine goesL_ (some 8) rfl rfl Try.func99 (by kernel_rfl) rfl #[.agg #[.slice A0_0 l0_0.length c0_0, .slice A0_1 l0_1.length c0_1]] rfl aT ?_; (with_reducible refine (impl_Sample_stumps.calls k _ _ l0_0 _ _ l0_1 t237 _ ?side1 ?side2 ?side3 ?side4 A4.out).mono ?_); (case side1 => exact cB HR0_0 HB); (case side2 => exact HC0_0.out); (case side3 => exact cB HR0_1 HB); (case side4 => exact HC0_1.out); rintro e w9 ⟨v238, rfl, ho0, hb⟩; refine ⟨_, rfl, ?_⟩; have n0_ := Aside0.mk (Kd.S_lower ho0 (below_size (bC HB GE235))); have n1_ := Aside0.mk (bW BK235 hb); have n2_ := Aside0.mk (below_step (bC HB GE235) hb); clear BK235; clear HB; have HO239 := n0_; have BK235 := n1_; have HB := n2_; clear n0_ n1_ n2_; (try clear hb); (try clear hb2); (try clear hk); (try clear hi); (try clear ho0)))
   go_ret2
   exact ⟨_, eW, by (with_reducible repeat (first | apply Kd.S_alloc | apply Kd.S_drewN | apply Kd.S_drew)); exact HO239.out, bC HB GE235⟩
 · replace c3 := Bool.eq_false_iff.mpr c3
   subst c3
   have H1 : (some (([] : List (S39)), false)) = some (r1, r2) := by rw [if_neg (show ¬ (false = true) by decide)] at H; exact H
   clear H
   have H := H1
   clear H1
   simp only [Option.some.injEq, Prod.mk.injEq] at H
   obtain ⟨rfl, rfl⟩ := H
   go_enter Try.func45, Try.ntmps45
   go_wp2_with (first | ((with_reducible refine gate_dst (N := 1) rfl ?_); refine box_event ?hg (N := 1) ?hd (cs := #[.slice A0_0 l0_0.length c0_0, .slice A0_1 l0_1.length c0_1]) (t := 52) ?hr ?_; (case hd => rfl); (case hg => rfl); (case hr => first | (go_simp; done) | (go_simp; rfl)); intro gb235 hg w10 hbox hb; have n0_ := Aside0.mk (below_step (bB HB) hb); have n1_ := Aside0.mk (hbox); have n2_ := Aside0.mk ((by rw [hg]; exact (below_size (bB HB)) : w.heap.size ≤ gb235)); have n3_ := Aside0.mk ((by rw [hg]; exact (below_size (bB HB)) : w.heap.size ≤ gb235)); clear HB; have HB := n0_; have BK235 := n1_; have GW235 := n2_; have GE235 := n3_; clear n0_ n1_ n2_ n3_; clear hb hbox hg; have hcz11_0 : w10.cell? ⟨gb235, 0, none⟩ = some (.slice A0_0 l0_0.length c0_0) := (blk_cell BK235.out 0).trans rfl; have hcz11_1 : w10.cell? ⟨gb235, 1, none⟩ = some (.slice A0_1 l0_1.length c0_1) := (blk_cell BK235.out 1).trans rfl; have hfz11_0 := blk_frozen BK235.out 0; have hfz11_1 := blk_frozen BK235.out 1) | ((with_reducible refine gate_callee (f := 98) rfl ?_); refine goesL_ (some 5) rfl rfl Try.func98 (by kernel_rfl) rfl #[.agg #[.slice A0_0 l0_0.length c0_0, .slice A0_1 l0_1.length c0_1]] rfl aT ?_; (with_reducible refine (impl_hasPoints.calls k _ _ l0_0 _ _ l0_1 false _ ?side1 ?side2 ?side3 ?side4 A2.out).mono ?_); (case side1 => exact cB HR0_0 HB); (case side2 => exact HC0_0.out); (case side3 => exact cB HR0_1 HB); (case side4 => exact HC0_1.out); rintro e w12 ⟨rfl, hb⟩; refine ⟨_, rfl, ?_⟩; have n0_ := Aside0.mk (bW BK235 hb); have n1_ := Aside0.mk (below_step (bC HB GE235) hb); clear BK235; clear HB; have BK235 := n0_; have HB := n1_; clear n0_ n1_; (try clear hb); (try clear hb2); (try clear hk); (try clear hi)))
   go_ret2
   exact ⟨_, eW, by first | exact Kd.S_nil _ _ _ _ _ | exact Kd.N_nil _ _ _ _ _ | exact Kd.V_nil _ _ _ _ _ | exact Kd.Q_nil _ _ _ _ _ | exact Kd.R_nil _ _ _ _ _, bC HB GE235⟩

/-! ### laws_eqPlane: function 25 -/
def laws_eqPlane.f (k : Nat) (l0_0 : List Int) (a0_1 : Int) (l1_0 : List Int) (a1_1 : Int) : Option (Bool) := (laws_eqIntS.f k l0_0 l1_0).bind fun t242 => (if t242 = true then (if a0_1 = a1_1 then (some true) else (some false)) else (some false))
set_option maxHeartbeats 8000000 in
set_option maxRecDepth 100000 in
theorem laws_eqPlane.calls (k : Nat) (A0_0 : Option Addr) (c0_0 : Nat) (l0_0 : List Int) (a0_1 : Int) (A1_0 : Option Addr) (c1_0 : Nat) (l1_0 : List Int) (a1_1 : Int) (r : Bool) (w : World) (hr0_0 : Kd.C (Kd.int .i64) w A0_0 l0_0.length l0_0) (hc0_0 : l0_0.length ≤ c0_0) (hr1_0 : Kd.C (Kd.int .i64) w A1_0 l1_0.length l1_0) (hc1_0 : l1_0.length ≤ c1_0) (h : laws_eqPlane.f k l0_0 a0_1 l1_0 a1_1 = some r) :
 Calls Try.prog 25 #[.agg #[.slice A0_0 l0_0.length c0_0, .int .i64 a0_1], .agg #[.slice A1_0 l1_0.length c1_0, .int .i64 a1_1]] w fun e w' => e = .returned (.bool r) ∧ Below w.heap.size w w' := by
 have hu39 := Try.underlying39
 have HR0_0 := Aside0.mk hr0_0
 have HC0_0 := Aside0.mk hc0_0
 clear hr0_0 hc0_0
 have HR1_0 := Aside0.mk hr1_0
 have HC1_0 := Aside0.mk hc1_0
 clear hr1_0 hc1_0
 have HB := Aside0.mk (Below.refl w.heap.size w)
 have H : ((laws_eqIntS.f k l0_0 l1_0).bind fun t242 => (if t242 = true then (if a0_1 = a1_1 then (some true) else (some false)) else (some false))) = some r := h
 clear h
 replace H := Option.bind_eq_some_iff.mp H
 obtain ⟨t242, A30, H⟩ := H
 replace H : (if t242 = true then (if a0_1 = a1_1 then (some true) else (some false)) else (some false)) = some r := H
 have A3 := Aside0.mk A30
 clear A30
 by_cases c4 : t242 = true
 · subst c4
   have H1 : (if a0_1 = a1_1 then (some true) else (some false)) = some r := by rw [if_pos rfl] at H; exact H
   clear H
   have H := H1
   clear H1
   by_cases c5 : a0_1 = a1_1
   · rw [if_pos c5] at H
     have c5b0 : (a0_1 == a1_1) = true := beq_iff_eq.mpr c5
     have c5b1 : (a0_1 != a1_1) = false := bne_eq_false_iff_eq.mpr c5
     clear c5
     obtain rfl := Option.some.inj H
     go_enter Try.func25, Try.ntmps25
     go_wp2_with (first | ((with_reducible refine gate_dst (N := 2) rfl ?_); refine box_event ?hg (N := 2) ?hd (cs := #[.slice A0_0 l0_0.length c0_0, .int .i64 a0_1]) (t := 39) ?hr ?_; (case hd => rfl); (case hg => rfl); (case hr => first | (go_simp; done) | (go_simp; rfl)); intro gb240 hg w6 hbox hb; have n0_ := Aside0.mk (below_step (bB HB) hb); have n1_ := Aside0.mk (hbox); have n2_ := Aside0.mk ((by rw [hg]; exact (below_size (bB HB)) : w.heap.size ≤ gb240)); have n3_ := Aside0.mk ((by rw [hg]; exact (below_size (bB HB)) : w.heap.size ≤ gb240)); clear HB; have HB := n0_; have BK240 := n1_; have GW240 := n2_; have GE240 := n3_; clear n0_ n1_ n2_ n3_; clear hb hbox hg) | ((with_reducible refine gate_dst (N := 3) rfl ?_); refine box_event ?hg (N := 3) ?hd (cs := #[.slice A1_0 l1_0.length c1_0, .int .i64 a1_1]) (t := 39) ?hr ?_; (case hd => rfl); (case hg => rfl); (case hr => first | (go_simp; done) | (go_simp; rfl)); intro gb241 hg w7 hbox hb; have n0_ := Aside0.mk (bW BK240 hb); have n1_ := Aside0.mk (below_step (bC HB GE240) hb); have n2_ := Aside0.mk (hbox); have n3_ := Aside0.mk ((by rw [hg]; exact (below_size (bC HB GE240)) : w.heap.size ≤ gb241)); have n4_ := Aside0.mk ((by rw [hg]; exact (below_size (bC HB GE240)) : w.heap.size ≤ gb241)); have n5_ := Aside0.mk ((by rw [hg]; exact Nat.ne_of_lt (blk_lt (g := gb240) (o := .cells #[.slice A0_0 l0_0.length c0_0, .int .i64 a0_1] 39 (0, 0)) (pB BK240)) : gb240 ≠ gb241)); have n6_ := Aside0.mk ((by rw [hg]; exact Nat.ne_of_gt (blk_lt (g := gb240) (o := .cells #[.slice A0_0 l0_0.length c0_0, .int .i64 a0_1] 39 (0, 0)) (pB BK240)) : gb241 ≠ gb240)); clear BK240; clear HB; have BK240 := n0_; have HB := n1_; have BK241 := n2_; have GW241 := n3_; have GE241 := n4_; have NB240_241 := n5_; have NB241_240 := n6_; clear n0_ n1_ n2_ n3_ n4_ n5_ n6_; clear hb hbox hg; have hnb8 := NB240_241.out; have hnc8 := NB241_240.out; have hcz9_0 : w7.cell? ⟨gb240, 0, none⟩ = some (.slice A0_0 l0_0.length c0_0) := (blk_cell BK240.out 0).trans rfl; have hcz9_1 : w7.cell? ⟨gb240, 1, none⟩ = some (.int .i64 a0_1) := (blk_cell BK240.out 1).trans rfl; have hfz9_0 := blk_frozen BK240.out 0; have hfz9_1 := blk_frozen BK240.out 1; have hcz10_0 : w7.cell? ⟨gb241, 0, none⟩ = some (.slice A1_0 l1_0.length c1_0) := (blk_cell BK241.out 0).trans rfl; have hcz10_1 : w7.cell? ⟨gb241, 1, none⟩ = some (.int .i64 a1_1) := (blk_cell BK241.out 1).trans rfl; have hfz10_0 := blk_frozen BK241.out 0; have hfz10_1 := blk_frozen BK241.out 1) | ((with_reducible refine gate_callee (f := 17) rfl ?_); refine goesL_ (some 9) rfl rfl Try.func17 (by kernel_rfl) rfl #[.slice A0_0 l0_0.length c0_0, .slice A1_0 l1_0.length c1_0] rfl aT ?_; (with_reducible refine (laws_eqIntS.calls k _ _ l0_0 _ _ l1_0 true _ ?side1 ?side2 ?side3 ?side4 A3.out).mono ?_); (case side1 => exact cB HR0_0 HB); (case side2 => exact HC0_0.out); (case side3 => exact cB HR1_0 HB); (case side4 => exact HC1_0.out); rintro e w' ⟨rfl, ⟨nd, rfl⟩⟩; refine ⟨_, rfl, ?_⟩))
     go_ret
     exact ⟨eW, bD HB GE240 GE241⟩
   · rw [if_neg c5] at H
     have c5b0 : (a0_1 == a1_1) = false := beq_eq_false_iff_ne.mpr c5
     have c5b1 : (a0_1 != a1_1) = true := bne_iff_ne.mpr c5
     obtain rfl := Option.some.inj H
     go_enter Try.func25, Try.ntmps25
     go_wp2_with (first | ((with_reducible refine gate_dst (N := 2) rfl ?_); refine box_event ?hg (N := 2) ?hd (cs := #[.slice A0_0 l0_0.length c0_0, .int .i64 a0_1]) (t := 39) ?hr ?_; (case hd => rfl); (case hg => rfl); (case hr => first | (go_simp; done) | (go_simp; rfl)); intro gb240 hg w11 hbox hb; have n0_ := Aside0.mk (below_step (bB HB) hb); have n1_ := Aside0.mk (hbox); have n2_ := Aside0.mk ((by rw [hg]; exact (below_size (bB HB)) : w.heap.size ≤ gb240)); have n3_ := Aside0.mk ((by rw [hg]; exact (below_size (bB HB)) : w.heap.size ≤ gb240)); clear HB; have HB := n0_; have BK240 := n1_; have GW240 := n2_; have GE240 := n3_; clear n0_ n1_ n2_ n3_; clear hb hbox hg) | ((with_reducible refine gate_dst (N := 3) rfl ?_); refine box_event ?hg (N := 3) ?hd (cs := #[.slice A1_0 l1_0.length c1_0, .int .i64 a1_1]) (t := 39) ?hr ?_; (case hd => rfl); (case hg => rfl); (case hr => first | (go_simp; done) | (go_simp; rfl)); intro gb241 hg w12 hbox hb; have n0_ := Aside0.mk (bW BK240 hb); have n1_ := Aside0.mk (below_step (bC HB GE240) hb); have n2_ := Aside0.mk (hbox); have n3_ := Aside0.mk ((by rw [hg]; exact (below_size (bC HB GE240)) : w.heap.size ≤ gb241)); have n4_ := Aside0.mk ((by rw [hg]; exact (below_size (bC HB GE240)) : w.heap.size ≤ gb241)); have n5_ := Aside0.mk ((by rw [hg]; exact Nat.ne_of_lt (blk_lt (g := gb240) (o := .cells #[.slice A0_0 l0_0.length c0_0, .int .i64 a0_1] 39 (0, 0)) (pB BK240)) : gb240 ≠ gb241)); have n6_ := Aside0.mk ((by rw [hg]; exact Nat.ne_of_gt (blk_lt (g := gb240) (o := .cells #[.slice A0_0 l0_0.length c0_0, .int .i64 a0_1] 39 (0, 0)) (pB BK240)) : gb241 ≠ gb240)); clear BK240; clear HB; have BK240 := n0_; have HB := n1_; have BK241 := n2_; have GW241 := n3_; have GE241 := n4_; have NB240_241 := n5_; have NB241_240 := n6_; clear n0_ n1_ n2_ n3_ n4_ n5_ n6_; clear hb hbox hg; have hnb13 := NB240_241.out; have hnc13 := NB241_240.out; have hcz14_0 : w12.cell? ⟨gb240, 0, none⟩ = some (.slice A0_0 l0_0.length c0_0) := (blk_cell BK240.out 0).trans rfl; have hcz14_1 : w12.cell? ⟨gb240, 1, none⟩ = some (.int .i64 a0_1) := (blk_cell BK240.out 1).trans rfl; have hfz14_0 := blk_frozen BK240.out 0; have hfz14_1 := blk_frozen BK240.out 1; have hcz15_0 : w12.cell? ⟨gb241, 0, none⟩ = some (.slice A1_0 l1_0.length c1_0) := (blk_cell BK241.out 0).trans rfl; have hcz15_1 : w12.cell? ⟨gb241, 1, none⟩ = some (.int .i64 a1_1) := (blk_cell BK241.out 1).trans rfl; have hfz15_0 := blk_frozen BK241.out 0; have hfz15_1 := blk_frozen BK241.out 1) | ((with_reducible refine gate_callee (f := 17) rfl ?_); refine goesL_ (some 9) rfl rfl Try.func17 (by kernel_rfl) rfl #[.slice A0_0 l0_0.length c0_0, .slice A1_0 l1_0.length c1_0] rfl aT ?_; (with_reducible refine (laws_eqIntS.calls k _ _ l0_0 _ _ l1_0 true _ ?side1 ?side2 ?side3 ?side4 A3.out).mono ?_); (case side1 => exact cB HR0_0 HB); (case side2 => exact HC0_0.out); (case side3 => exact cB HR1_0 HB); (case side4 => exact HC1_0.out); rintro e w' ⟨rfl, ⟨nd, rfl⟩⟩; refine ⟨_, rfl, ?_⟩))
     go_ret
     exact ⟨eW, bD HB GE240 GE241⟩
 · replace c4 := Bool.eq_false_iff.mpr c4
   subst c4
   have H1 : (some false) = some r := by rw [if_neg (show ¬ (false = true) by decide)] at H; exact H
   clear H
   have H := H1
   clear H1
   obtain rfl := Option.some.inj H
   go_enter Try.func25, Try.ntmps25
   go_wp2_with (first | ((with_reducible refine gate_dst (N := 2) rfl ?_); refine box_event ?hg (N := 2) ?hd (cs := #[.slice A0_0 l0_0.length c0_0, .int .i64 a0_1]) (t := 39) ?hr ?_; (case hd => rfl); (case hg => rfl); (case hr => first | (go_simp; done) | (go_simp; rfl)); intro gb240 hg w16 hbox hb; have n0_ := Aside0.mk (below_step (bB HB) hb); have n1_ := Aside0.mk (hbox); have n2_ := Aside0.mk ((by rw [hg]; exact (below_size (bB HB)) : w.heap.size ≤ gb240)); have n3_ := Aside0.mk ((by rw [hg]; exact (below_size (bB HB)) : w.heap.size ≤ gb240)); clear HB; have HB := n0_; have BK240 := n1_; have GW240 := n2_; have GE240 := n3_; clear n0_ n1_ n2_ n3_; clear hb hbox hg) | ((with_reducible refine gate_dst (N := 3) rfl ?_); refine box_event ?hg (N := 3) ?hd (cs := #[.slice A1_0 l1_0.length c1_0, .int .i64 a1_1]) (t := 39) ?hr ?_; (case hd => rfl); (case hg => rfl); (case hr => first | (go_simp; done) | (go_simp; rfl)); intro gb241 hg w17 hbox hb; have n0_ := Aside0.mk (bW BK240 hb); have n1_ := Aside0.mk (below_step (bC HB GE240) hb); have n2_ := Aside0.mk (hbox); have n3_ := Aside0.mk ((by rw [hg]; exact (below_size (bC HB GE240)) : w.heap.size ≤ gb241)); have n4_ := Aside0.mk ((by rw [hg]; exact (below_size (bC HB GE240)) : w.heap.size ≤ gb241)); have n5_ := Aside0.mk ((by rw [hg]; exact Nat.ne_of_lt (blk_lt (g := gb240) (o := .cells #[.slice A0_0 l0_0.length c0_0, .int .i64 a0_1] 39 (0, 0)) (pB BK240)) : gb240 ≠ gb241)); have n6_ := Aside0.mk ((by rw [hg]; exact Nat.ne_of_gt (blk_lt (g := gb240) (o := .cells #[.slice A0_0 l0_0.length c0_0, .int .i64 a0_1] 39 (0, 0)) (pB BK240)) : gb241 ≠ gb240)); clear BK240; clear HB; have BK240 := n0_; have HB := n1_; have BK241 := n2_; have GW241 := n3_; have GE241 := n4_; have NB240_241 := n5_; have NB241_240 := n6_; clear n0_ n1_ n2_ n3_ n4_ n5_ n6_; clear hb hbox hg; have hnb18 := NB240_241.out; have hnc18 := NB241_240.out; have hcz19_0 : w17.cell? ⟨gb240, 0, none⟩ = some (.slice A0_0 l0_0.length c0_0) := (blk_cell BK240.out 0).trans rfl; have hcz19_1 : w17.cell? ⟨gb240, 1, none⟩ = some (.int .i64 a0_1) := (blk_cell BK240.out 1).trans rfl; have hfz19_0 := blk_frozen BK240.out 0; have hfz19_1 := blk_frozen BK240.out 1; have hcz20_0 : w17.cell? ⟨gb241, 0, none⟩ = some (.slice A1_0 l1_0.length c1_0) := (blk_cell BK241.out 0).trans rfl; have hcz20_1 : w17.cell? ⟨gb241, 1, none⟩ = some (.int .i64 a1_1) := (blk_cell BK241.out 1).trans rfl; have hfz20_0 := blk_frozen BK241.out 0; have hfz20_1 := blk_frozen BK241.out 1) | ((with_reducible refine gate_callee (f := 17) rfl ?_); refine goesL_ (some 9) rfl rfl Try.func17 (by kernel_rfl) rfl #[.slice A0_0 l0_0.length c0_0, .slice A1_0 l1_0.length c1_0] rfl aT ?_; (with_reducible refine (laws_eqIntS.calls k _ _ l0_0 _ _ l1_0 false _ ?side1 ?side2 ?side3 ?side4 A3.out).mono ?_); (case side1 => exact cB HR0_0 HB); (case side2 => exact HC0_0.out); (case side3 => exact cB HR1_0 HB); (case side4 => exact HC1_0.out); rintro e w' ⟨rfl, ⟨nd, rfl⟩⟩; refine ⟨_, rfl, ?_⟩))
   go_ret
   exact ⟨eW, bD HB GE240 GE241⟩

end Go.Proofs.Ytfkfahdikmfpeaa.PFnExactStumpsOf
