-- Printed by wip/tools/myprint.py (the printer of the kit, patched by that program; roots chosen by it)
import Derived.Test.YtfkfahdikmfpeaaPFnExactBoostRoundsx0
import Derived.Test.YtfkfahdikmfpeaaPFnExactBoostRoundsx10
import Derived.Test.YtfkfahdikmfpeaaSh
namespace Go.Proofs.Ytfkfahdikmfpeaa.PFnExactBoostRounds
open Go.RowKit Go.Proofs.Ytfkfahdikmfpeaa.Sh Go.Proofs.YtfkfahdikmfpeaaW.PrintWords Go.Proofs.YtfkfahdikmfpeaaW.PrintLast Go.Proofs.YtfkfahdikmfpeaaW.PrintMore
attribute [local go_sem] max2_int min2_int max_two min_two max_three min_three max_four min_four   -- for this text's walks alone
set_option linter.unusedVariables false
set_option linter.unusedSimpArgs false

def arr2_ (a b x : Int) : Int := if x = 0 then a else b
theorem arr2_run {P : Program} {t e : TypeId} (ht : P.underlying t = some (.array 2 e)) (hs : ∀ w, (Go.sizeOf e).run P w = .ok 1 w) (ha : ∀ w, (isAgg e).run P w = .ok false w) (a b : Int) {x : Int} (h0 : 0 ≤ x) (h1 : x < 2) (W : World) :
    (Instr.index t (.agg #[.int .i64 a, .int .i64 b]) (.int .i64 x)).run P W = .ok (.int .i64 (arr2_ a b x)) W := by
  have hu := run_underlying ht
  rcases (show x = 0 ∨ x = 1 from by omega) with h | h
  · subst h; simp [Instr.index, hu, hs, ha, arr2_, part, asIntOf]
  · subst h; simp [Instr.index, hu, hs, ha, arr2_, part, asIntOf]
/-! ### impl_Sample_stumps: function 99 -/
mutual
def impl_Sample_stumps.l0 : Nat → List (S39) → Int → Int → List (List Int) → List Int → Option ((List (S39)))
 | 0, _, _, _, _, _ => none
 | k + 1, x3, x18, x19, x279000, x279001 => if x19 < x18 then (impl_Sample_stumps.l1 k x3 x19 x18 x19 0 x279000 x279001) else (some x3)
def impl_Sample_stumps.l1 : Nat → List (S39) → Int → Int → Int → Int → List (List Int) → List Int → Option ((List (S39)))
 | 0, _, _, _, _, _, _, _ => none
 | k + 1, x3, x4, x18, x19, x23, x279000, x279001 => if x23 < 2 then (if 0 ≤ x23 then (impl_Sample_stumps.l2 k x3 x4 (arr2_ 1 (-1) x23) (([] : List Int)) x18 x19 x23 x279000 (x279000.length : Int) 0 x279000 x279001) else (none)) else (impl_Sample_stumps.l0 k x3 x18 (wrap64 (x19 + 1)) x279000 x279001)
def impl_Sample_stumps.l2 : Nat → List (S39) → Int → Int → List Int → Int → Int → Int → List (List Int) → Int → Int → List (List Int) → List Int → Option ((List (S39)))
 | 0, _, _, _, _, _, _, _, _, _, _, _, _ => none
 | k + 1, x3, x4, x6, x7, x18, x19, x23, x28, x29, x30, x279000, x279001 => if x30 < x29 then (if 0 ≤ x30 then (if x30 < (x28.length : Int) then (if 0 ≤ x4 then (if x4 < ((rd_L1 x28 x30).length : Int) then (if x7.length < 17592186044416 then (impl_Sample_stumps.l2 k x3 x4 x6 (x7 ++ [wrap64 (x6 * (rd (rd_L1 x28 x30) x4))]) x18 x19 x23 x28 x29 (wrap64 (x30 + 1)) x279000 x279001) else (none)) else (none)) else (none)) else (none)) else (none)) else ((slices_Max_int_int.f k x7).bind fun t291 => (if x7.length < 17592186044416 then ((slices_Sort_int_int.f (x7 ++ [wrap64 (t291 + 1)])).bind fun t295 => ((slices_Compact_int_int.f t295).bind fun t296 => (impl_Sample_stumps.l3 k x3 x4 x6 x18 x19 x23 t296 (t296.length : Int) 0 x279000 x279001))) else (none)))
def impl_Sample_stumps.l3 : Nat → List (S39) → Int → Int → Int → Int → Int → List Int → Int → Int → List (List Int) → List Int → Option ((List (S39)))
 | 0, _, _, _, _, _, _, _, _, _, _, _ => none
 | k + 1, x3, x4, x6, x18, x19, x23, x53, x54, x55, x279000, x279001 => if x55 < x54 then (if 0 ≤ x55 then (if x55 < (x53.length : Int) then (if 0 < (x279000.length : Int) then (if 0 ≤ ((rd_L1 x279000 0).length : Int) then (if (((rd_L1 x279000 0).length : Int) : Int).toNat ≤ 35184372088832 then ((some (List.replicate (((rd_L1 x279000 0).length : Int) : Int).toNat 0 : List Int)).bind fun y301 => (if 0 ≤ x4 then (if x4 < (y301.length : Int) then (if x3.length < 4398046511104 then (impl_Sample_stumps.l3 k (x3 ++ [(⟨(y301.set (x4 : Int).toNat x6), rd x53 x55⟩ : S39)]) x4 x6 x18 x19 x23 x53 x54 (wrap64 (x55 + 1)) x279000 x279001) else (none)) else (none)) else (none))) else (none)) else (none)) else (none)) else (none)) else (none)) else (impl_Sample_stumps.l1 k x3 x4 x18 x19 (wrap64 (x23 + 1)) x279000 x279001)
end
def impl_Sample_stumps.f (k : Nat) (l0_0 : List (List Int)) (l0_1 : List Int) : Option ((List (S39))) := if 0 < (l0_0.length : Int) then (impl_Sample_stumps.l0 k (([] : List (S39))) ((rd_L1 l0_0 0).length : Int) 0 l0_0 l0_1) else (none)
set_option maxHeartbeats 8000000 in
set_option maxRecDepth 100000 in
theorem impl_Sample_stumps.calls (k : Nat) (A0_0 : Option Addr) (c0_0 : Nat) (l0_0 : List (List Int)) (A0_1 : Option Addr) (c0_1 : Nat) (l0_1 : List Int) (r : List (S39)) (w : World) (hr0_0 : Kd.C (Kd.slice 3 (Kd.int .i64)) w A0_0 l0_0.length l0_0) (hc0_0 : l0_0.length ≤ c0_0) (hr0_1 : Kd.C (Kd.int .i64) w A0_1 l0_1.length l0_1) (hc0_1 : l0_1.length ≤ c0_1) (h : impl_Sample_stumps.f k l0_0 l0_1 = some r) :
 Calls Try.prog 99 #[.agg #[.slice A0_0 l0_0.length c0_0, .slice A0_1 l0_1.length c0_1]] w fun e w' => ∃ v0_ : Value, e = .returned (v0_) ∧ Kd.S k39 39 w' w.heap.size (fun _ => True) v0_ r ∧ Below w.heap.size w w' := by
 have hu52 := Try.underlying52
 have hu39 := Try.underlying39
 have HR0_0 := Aside0.mk hr0_0
 have HC0_0 := Aside0.mk hc0_0
 clear hr0_0 hc0_0
 have HR0_1 := Aside0.mk hr0_1
 have HC0_1 := Aside0.mk hc0_1
 clear hr0_1 hc0_1
 have HB := Aside0.mk (Below.refl w.heap.size w)
 have H : (if 0 < (l0_0.length : Int) then (impl_Sample_stumps.l0 k (([] : List (S39))) ((rd_L1 l0_0 0).length : Int) 0 l0_0 l0_1) else (none)) = some r := h
 clear h
 obtain ⟨y279, hy279⟩ : ∃ y_ : List (S39), y_ = (([] : List (S39))) := ⟨_, rfl⟩
 replace H : (if 0 < (l0_0.length : Int) then (impl_Sample_stumps.l0 k y279 ((rd_L1 l0_0 0).length : Int) 0 l0_0 l0_1) else (none)) = some r := by first | (rw [hy279]; with_reducible exact H) | (have H2_ := (Option.bind_some _ _).symm.trans H; rw [hy279]; with_reducible exact H2_) | (have H2_ := (Option.bind_some _ _).symm.trans H; with_reducible exact H2_) | with_reducible exact H | (rw [hy279]; exact H) | exact H
 have Ny279 := Aside0.mk hy279
 clear hy279
 by_cases c2 : 0 < (l0_0.length : Int)
 · rw [if_pos c2] at H
   have c2b0 : decide (0 < (l0_0.length : Int)) = true := decide_eq_true c2
   have c2b1 : decide (0 < l0_0.length) = true := decide_eq_true (by omega)
   clear c2
   have H' := Aside0.mk H
   clear H
   go_enter Try.func99, Try.ntmps99
   go_wp2_with (first | ((with_reducible refine gate_dst (N := 1) rfl ?_); refine box_event ?hg (N := 1) ?hd (cs := #[.slice A0_0 l0_0.length c0_0, .slice A0_1 l0_1.length c0_1]) (t := 52) ?hr ?_; (case hd => rfl); (case hg => rfl); (case hr => first | (go_simp; done) | (go_simp; rfl)); intro gb278 hg w3 hbox hb; have n0_ := Aside0.mk (below_step (bB HB) hb); have n1_ := Aside0.mk (hbox); have n2_ := Aside0.mk ((by rw [hg]; exact (below_size (bB HB)) : w.heap.size ≤ gb278)); have n3_ := Aside0.mk ((by rw [hg]; exact (below_size (bB HB)) : w.heap.size ≤ gb278)); clear HB; have HB := n0_; have BK278 := n1_; have GW278 := n2_; have GE278 := n3_; clear n0_ n1_ n2_ n3_; clear hb hbox hg) | ((with_reducible refine gate_dst (N := 13) rfl ?_); refine Kd.S_lit k39 _ 39 ?hg (N := 13) ?hd (xs := ([] : List (S39))) (inner := []) (ok := fun _ => True) (okp := fun _ => True) ?hr ?hp (fun _ hk => hk) trivial (Below.refl _ _) (Nat.le_refl _) (by simp) ?_; (case hd => rfl); (case hg => rfl); (case hr => first | (go_simp; done) | (go_simp; rfl)); (case hp => exact (Reps.none _ _)); intro v280 w4 ho5 hb hg_ hnew_; clear hg_ hnew_; (first | rw [← Ny279.out] at ho5 | (simp only [Int.reduceToNat] at ho5; rw [← Ny279.out] at ho5)); have n0_ := Aside0.mk (Kd.S_lower ho5 (below_size (bC HB GE278))); have n1_ := Aside0.mk (bW BK278 hb); have n2_ := Aside0.mk (below_step (bC HB GE278) hb); clear BK278; clear HB; have HO281 := n0_; have BK278 := n1_; have HB := n2_; clear n0_ n1_ n2_; clear hb ho5; have hcz6_0 : w4.cell? ⟨gb278, 0, none⟩ = some (.slice A0_0 l0_0.length c0_0) := (blk_cell BK278.out 0).trans rfl; have hcz6_1 : w4.cell? ⟨gb278, 1, none⟩ = some (.slice A0_1 l0_1.length c0_1) := (blk_cell BK278.out 1).trans rfl; have hfz6_0 := blk_frozen BK278.out 0; have hfz6_1 := blk_frozen BK278.out 1; have p282 : 0 ≤ (0 : Int) := (by omega); have q282 : 0 < (l0_0.length : Int) := of_decide_eq_true aS; obtain ⟨ad282, A282_0, c282_0, e282, hx282_0, hl282_0, hi282_0⟩ := at_L1 HR0_0.out 0 p282 q282; cases e282; have qi282 : (0 < l0_0.length) = True := eq_true (by omega); (try rw [show ((0 : Int)).toNat = 0 from rfl] at hx282_0); (try rw [Addr.add_zero'] at hx282_0); replace hx282_0 := (HB.out.cell (World.block_lt_of_cell? w _ hx282_0)).trans hx282_0; have HR282_0 := Aside0.mk hi282_0; have HC282_0 := Aside0.mk hl282_0; clear hi282_0 hl282_0; replace p282 := eq_true p282; replace q282 := eq_true q282))
   go_loopg [3, 19] k (fun kq v3 v19 w' => ∃ (x3_1 : List (S39)) (x19_1 : Int), v19 = .int .i64 x19_1 ∧ Aside0 (impl_Sample_stumps.l0 kq x3_1 ((rd_L1 l0_0 0).length : Int) x19_1 l0_0 l0_1 = some r) ∧ Aside0 (kq ≤ k) ∧ Aside0 (Kd.S k39 39 w' w.heap.size (fun _ => True) v3 x3_1) ∧ Aside0 (w'.heap[gb278]? = some (.cells #[(.slice (some ad282) l0_0.length c0_0), (.slice A0_1 l0_1.length c0_1)] 52 (0, 0))) ∧ Aside0 (Below w.heap.size w w'))
   case atStart => exact ⟨(y279), (0), rD, H', ⟨Nat.le_refl _⟩, ⟨pS HO281⟩, ⟨pB BK278⟩, ⟨bC HB GE278⟩⟩
   case round =>
    clear H'
    try clear c2
    try clear c2b0
    try clear c2b1
    try clear hcz6_0
    try clear hcz6_1
    try clear hfz6_0
    try clear hfz6_1
    try clear hx282_0
    try clear p282
    try clear q282
    obtain ⟨x3_1, x19_1, rfl, HA, HK1, HO_3, BK278, HB⟩ := hrel
    cases gk with
    | zero => exact absurd HA.out (by simp [impl_Sample_stumps.l0])
    | succ k1 =>
     have H := HA.out
     clear HA
     simp only [impl_Sample_stumps.l0] at H
     by_cases c7 : x19_1 < ((rd_L1 l0_0 0).length : Int)
     · rw [if_pos c7] at H
       have c7b0 : decide (x19_1 < ((rd_L1 l0_0 0).length : Int)) = true := decide_eq_true c7
       clear c7
       have H' := Aside0.mk H
       clear H
       go_wp2
       go_loopg [3, 23] k1 (fun kq v3 v23 w' => ∃ (x3_2 : List (S39)) (x23_2 : Int), v23 = .int .i64 x23_2 ∧ Aside0 (impl_Sample_stumps.l1 kq x3_2 x19_1 ((rd_L1 l0_0 0).length : Int) x19_1 x23_2 l0_0 l0_1 = some r) ∧ Aside0 (kq ≤ k1) ∧ Aside0 (Kd.S k39 39 w' w.heap.size (fun _ => True) v3 x3_2) ∧ Aside0 (w'.heap[gb278]? = some (.cells #[(.slice (some ad282) l0_0.length c0_0), (.slice A0_1 l0_1.length c0_1)] 52 (0, 0))) ∧ Aside0 (Below w.heap.size w w'))
       case atStart => exact ⟨(x3_1), (0), rD, H', ⟨Nat.le_refl _⟩, ⟨pS HO_3⟩, ⟨pB BK278⟩, ⟨bC HB GE278⟩⟩
       case round =>
        clear H'
        try clear c2
        try clear c2b0
        try clear c2b1
        try clear c7
        try clear c7b0
        try clear hcz6_0
        try clear hcz6_1
        try clear hfz6_0
        try clear hfz6_1
        try clear hx282_0
        try clear p282
        try clear q282
        obtain ⟨x3_2, x23_2, rfl, HA, HK2, HO_3, BK278, HB⟩ := hrel
        cases gk with
        | zero => exact absurd HA.out (by simp [impl_Sample_stumps.l1])
        | succ k2 =>
         have H := HA.out
         clear HA
         simp only [impl_Sample_stumps.l1] at H
         by_cases c8 : x23_2 < 2
         · rw [if_pos c8] at H
           rcases Int.lt_or_le x23_2 0 with cz_ | cz_
           · rw [if_neg (by omega)] at H; exact absurd H (by simp)
           rw [if_pos cz_] at H
           have hix_ : ∀ W : World, (Instr.index 136 (.agg #[.int .i64 1, .int .i64 (-1)]) (.int .i64 x23_2)).run Try.prog W = .ok (.int .i64 (arr2_ 1 (-1) x23_2)) W := arr2_run Try.underlying136 Try.sizeOf3 Try.isAgg3 1 (-1) (by omega) (by omega)
           clear cz_
           have c8b0 : decide (x23_2 < 2) = true := decide_eq_true c8
           clear c8
           obtain ⟨y283, hy283⟩ : ∃ y_ : List Int, y_ = (([] : List Int)) := ⟨_, rfl⟩
           replace H : (impl_Sample_stumps.l2 k2 x3_2 x19_1 (arr2_ 1 (-1) x23_2) y283 ((rd_L1 l0_0 0).length : Int) x19_1 x23_2 l0_0 (l0_0.length : Int) 0 l0_0 l0_1) = some r := by first | (rw [hy283]; with_reducible exact H) | (have H2_ := (Option.bind_some _ _).symm.trans H; rw [hy283]; with_reducible exact H2_) | (have H2_ := (Option.bind_some _ _).symm.trans H; with_reducible exact H2_) | with_reducible exact H | (rw [hy283]; exact H) | exact H
           have Ny283 := Aside0.mk hy283
           clear hy283
           have H' := Aside0.mk H
           clear H
           go_wp2_with (first | ((with_reducible refine gate_dst (N := 26) rfl ?_); refine Kd.R_lit (Kd.int .i64) _ 3 ?hg (N := 26) ?hd (xs := ([] : List Int)) (inner := []) (ok := fun _ => True) (okp := fun _ => True) ?hr ?hp (fun _ hk => hk) trivial (Below.refl _ _) (Nat.le_refl _) (by simp) ?_; (case hd => rfl); (case hg => rfl); (case hr => first | (go_simp; done) | (go_simp; rfl)); (case hp => exact (Reps.none _ _)); intro v284 w9 ho10 hb hg_ hnew_; clear hg_ hnew_; (first | rw [← Ny283.out] at ho10 | (simp only [Int.reduceToNat] at ho10; rw [← Ny283.out] at ho10)); have n0_ := Aside0.mk (Kd.S_elder' (pS HO_3) (Kd.R_base ho10) hb); have n1_ := Aside0.mk (Kd.R_lower ho10 (below_size (bC HB GE278))); have n2_ := Aside0.mk (bW BK278 hb); have n3_ := Aside0.mk (below_step (bC HB GE278) hb); clear HO_3; clear BK278; clear HB; have HO_3 := n0_; have HO285 := n1_; have BK278 := n2_; have HB := n3_; clear n0_ n1_ n2_ n3_; clear hb ho10; have hcz11_0 : w9.cell? ⟨gb278, 0, none⟩ = some (.slice (some ad282) l0_0.length c0_0) := (blk_cell BK278.out 0).trans rfl; have hcz11_1 : w9.cell? ⟨gb278, 1, none⟩ = some (.slice A0_1 l0_1.length c0_1) := (blk_cell BK278.out 1).trans rfl; have hfz11_0 := blk_frozen BK278.out 0; have hfz11_1 := blk_frozen BK278.out 1))
           go_loopg [7, 30] k2 (fun kq v7 v30 w' => ∃ (x7_3 : List Int) (x30_3 : Int), v30 = .int .i64 x30_3 ∧ Aside0 (impl_Sample_stumps.l2 kq x3_2 x19_1 (arr2_ 1 (-1) x23_2) x7_3 ((rd_L1 l0_0 0).length : Int) x19_1 x23_2 l0_0 (l0_0.length : Int) x30_3 l0_0 l0_1 = some r) ∧ Aside0 (kq ≤ k2) ∧ Aside0 (Kd.S k39 39 w' w.heap.size (fun k_ => some k_ ≠ (v7 : Value).ownBlock) u3 x3_2) ∧ Aside0 (Kd.R (Kd.int .i64) 3 w' w.heap.size (fun _ => True) v7 x7_3) ∧ Aside0 (w'.heap[gb278]? = some (.cells #[(.slice (some ad282) l0_0.length c0_0), (.slice A0_1 l0_1.length c0_1)] 52 (0, 0))) ∧ Aside0 (Below w.heap.size w w'))
           case atStart => exact ⟨(y283), (0), rD, H', ⟨Nat.le_refl _⟩, ⟨by (with_reducible repeat (first | apply Kd.S_alloc | apply Kd.S_drewN | apply Kd.S_drew)); exact Kd.S_mono HO_3.out (fun _ hk => hk.2)⟩, ⟨pR HO285⟩, ⟨pB BK278⟩, ⟨bC HB GE278⟩⟩
           case round =>
            clear H'
            try clear c2
            try clear c2b0
            try clear c2b1
            try clear c7
            try clear c7b0
            try clear c8
            try clear c8b0
            try clear hcz11_0
            try clear hcz11_1
            try clear hcz6_0
            try clear hcz6_1
            try clear hfz11_0
            try clear hfz11_1
            try clear hfz6_0
            try clear hfz6_1
            try clear hx282_0
            try clear p282
            try clear q282
            obtain ⟨x7_3, x30_3, rfl, HA, HK3, HO_3, HO_7, BK278, HB⟩ := hrel
            cases gk with
            | zero => exact absurd HA.out (by simp [impl_Sample_stumps.l2])
            | succ k3 =>
             have H := HA.out
             clear HA
             simp only [impl_Sample_stumps.l2] at H
             by_cases c12 : x30_3 < (l0_0.length : Int)
             · rw [if_pos c12] at H
               have c12b0 : decide (x30_3 < (l0_0.length : Int)) = true := decide_eq_true c12
               clear c12
               by_cases c13 : 0 ≤ x30_3
               · rw [if_pos c13] at H
                 have c13b0 : decide (0 ≤ x30_3) = true := decide_eq_true c13
                 clear c13
                 by_cases c14 : x30_3 < (l0_0.length : Int)
                 · rw [if_pos c14] at H
                   have c14b0 : decide (x30_3 < (l0_0.length : Int)) = true := decide_eq_true c14
                   clear c14
                   by_cases c15 : 0 ≤ x19_1
                   · rw [if_pos c15] at H
                     have c15b0 : decide (0 ≤ x19_1) = true := decide_eq_true c15
                     clear c15
                     by_cases c16 : x19_1 < ((rd_L1 l0_0 x30_3).length : Int)
                     · rw [if_pos c16] at H
                       have c16b0 : decide (x19_1 < ((rd_L1 l0_0 x30_3).length : Int)) = true := decide_eq_true c16
                       clear c16
                       by_cases c17 : x7_3.length < 17592186044416
                       · rw [if_pos c17] at H
                         have LMc17 := Aside0.mk c17
                         clear c17
                         obtain ⟨y288, hy288⟩ : ∃ y_ : List Int, y_ = (x7_3 ++ [wrap64 ((arr2_ 1 (-1) x23_2) * (rd (rd_L1 l0_0 x30_3) x19_1))]) := ⟨_, rfl⟩
                         replace H : (impl_Sample_stumps.l2 k3 x3_2 x19_1 (arr2_ 1 (-1) x23_2) y288 ((rd_L1 l0_0 0).length : Int) x19_1 x23_2 l0_0 (l0_0.length : Int) (wrap64 (x30_3 + 1)) l0_0 l0_1) = some r := by first | (rw [hy288]; with_reducible exact H) | (have H2_ := (Option.bind_some _ _).symm.trans H; rw [hy288]; with_reducible exact H2_) | (have H2_ := (Option.bind_some _ _).symm.trans H; with_reducible exact H2_) | with_reducible exact H | (rw [hy288]; exact H) | exact H
                         have Ny288 := Aside0.mk hy288
                         clear hy288
                         have H' := Aside0.mk H
                         clear H
                         have p286 : 0 ≤ (x30_3 : Int) := of_decide_eq_true aS
                         have q286 : x30_3 < (l0_0.length : Int) := of_decide_eq_true aS
                         obtain ⟨ad286, A286_0, c286_0, e286, hx286_0, hl286_0, hi286_0⟩ := at_L1 HR0_0.out x30_3 p286 q286
                         obtain rfl : ad282 = ad286 := (by injection e286)
                         replace hx286_0 := (HB.out.cell (World.block_lt_of_cell? w _ hx286_0)).trans hx286_0
                         have HR286_0 := Aside0.mk hi286_0
                         have HC286_0 := Aside0.mk hl286_0
                         clear hi286_0 hl286_0
                         replace p286 := eq_true p286
                         replace q286 := eq_true q286
                         have p287 : 0 ≤ (x19_1 : Int) := of_decide_eq_true aS
                         have q287 : x19_1 < ((rd_L1 l0_0 x30_3).length : Int) := of_decide_eq_true aS
                         obtain ⟨ad287, e287, hx287_0⟩ := Kd.at_int HR286_0.out x19_1 p287 q287
                         cases e287
                         replace hx287_0 := (HB.out.cell (World.block_lt_of_cell? w _ hx287_0)).trans hx287_0
                         replace p287 := eq_true p287
                         replace q287 := eq_true q287
                         go_wp2_with (first | ((with_reducible refine gate_builtin (b := .append) (xs := #[.tmp 34, .tmp 41]) rfl ?_); at_builtin; refine Kd.R_append (Kd.int .i64) (w0 := w) w.heap.size rfl (.tmp 34) (.tmp 41) 22 3 (.int .i64 0) 8 rfl Try.underlying22 info3 rfl (by decide) (by omega) u7 x7_3 (wrap64 ((arr2_ 1 (-1) x23_2) * (rd (rd_L1 l0_0 x30_3) x19_1))) [.int .i64 (wrap64 ((arr2_ 1 (-1) x23_2) * (rd (rd_L1 l0_0 x30_3) x19_1)))] (fun _ => True) (fun _ => False) rfl rfl ?aP (fun _ hk => hk.elim) ?aF ?aO ?aB ?aS ?aL ?_; (case aP => exact rfl); (case aB => exact (bC HB GE278)); (case aF => exact (fun _ _ => trivial)); (case aO => exact (pR HO_7)); (case aS => exact (below_size (bC HB GE278))); (case aL => have := LMc17.out; omega); intro v289 w18 ho hb hg hat; rw [← Ny288.out] at ho; have n0_ := Aside0.mk (Kd.S_after (ok := (fun _ => True)) (by (with_reducible repeat (first | apply Kd.S_alloc | apply Kd.S_drewN | apply Kd.S_drew)); exact Kd.S_mono HO_3.out (fun _ hk => ⟨trivial, hk⟩)) hg hat); have n1_ := Aside0.mk (blk_grown (g := gb278) (o := .cells #[.slice (some ad282) l0_0.length c0_0, .slice A0_1 l0_1.length c0_1] 52 (0, 0)) (pB BK278) hg (Kd.R_ne HO_7.out BK278.out (by decide))); have n2_ := Aside0.mk (hb); have n3_ := Aside0.mk (ho); clear HO_3; clear BK278; clear HB; clear HO_7; have HO_3 := n0_; have BK278 := n1_; have HB := n2_; have HO290 := n3_; clear n0_ n1_ n2_ n3_; clear ho hb hg hat))
                         go_roundg k3
                         case measure => have := HK1.out; have := HK2.out; have := HK3.out; omega
                         case rel => exact ⟨(y288), (wrap64 (x30_3 + 1)), rD, H', ⟨by have := HK1.out; have := HK2.out; have := HK3.out; omega⟩, ⟨by (with_reducible repeat (first | apply Kd.S_alloc | apply Kd.S_drewN | apply Kd.S_drew)); exact Kd.S_mono HO_3.out (fun _ hk => hk.2)⟩, ⟨pR HO290⟩, ⟨pB BK278⟩, ⟨bC HB GE278⟩⟩
                       · rw [if_neg c17] at H
                         exact absurd H (by simp)
                     · rw [if_neg c16] at H
                       exact absurd H (by simp)
                   · rw [if_neg c15] at H
                     exact absurd H (by simp)
                 · rw [if_neg c14] at H
                   exact absurd H (by simp)
               · rw [if_neg c13] at H
                 exact absurd H (by simp)
             · rw [if_neg c12] at H
               have c12b0 : decide (x30_3 < (l0_0.length : Int)) = false := decide_eq_false c12
               clear c12
               replace H := Option.bind_eq_some_iff.mp H
               obtain ⟨t291, A190, H⟩ := H
               replace H : (if x7_3.length < 17592186044416 then ((slices_Sort_int_int.f (x7_3 ++ [wrap64 (t291 + 1)])).bind fun t295 => ((slices_Compact_int_int.f t295).bind fun t296 => (impl_Sample_stumps.l3 k3 x3_2 x19_1 (arr2_ 1 (-1) x23_2) ((rd_L1 l0_0 0).length : Int) x19_1 x23_2 t296 (t296.length : Int) 0 l0_0 l0_1))) else (none)) = some r := H
               have A19 := Aside0.mk A190
               clear A190
               by_cases c20 : x7_3.length < 17592186044416
               · rw [if_pos c20] at H
                 have LMc20 := Aside0.mk c20
                 clear c20
                 obtain ⟨y292, hy292⟩ : ∃ y_ : List Int, y_ = (x7_3 ++ [wrap64 (t291 + 1)]) := ⟨_, rfl⟩
                 replace H : ((slices_Sort_int_int.f y292).bind fun t295 => ((slices_Compact_int_int.f t295).bind fun t296 => (impl_Sample_stumps.l3 k3 x3_2 x19_1 (arr2_ 1 (-1) x23_2) ((rd_L1 l0_0 0).length : Int) x19_1 x23_2 t296 (t296.length : Int) 0 l0_0 l0_1))) = some r := by first | (rw [hy292]; with_reducible exact H) | (have H2_ := (Option.bind_some _ _).symm.trans H; rw [hy292]; with_reducible exact H2_) | (have H2_ := (Option.bind_some _ _).symm.trans H; with_reducible exact H2_) | with_reducible exact H | (rw [hy292]; exact H) | exact H
                 have Ny292 := Aside0.mk hy292
                 clear hy292
                 replace H := Option.bind_eq_some_iff.mp H
                 obtain ⟨t295, A210, H⟩ := H
                 replace H : ((slices_Compact_int_int.f t295).bind fun t296 => (impl_Sample_stumps.l3 k3 x3_2 x19_1 (arr2_ 1 (-1) x23_2) ((rd_L1 l0_0 0).length : Int) x19_1 x23_2 t296 (t296.length : Int) 0 l0_0 l0_1)) = some r := H
                 have A21 := Aside0.mk A210
                 clear A210
                 replace H := Option.bind_eq_some_iff.mp H
                 obtain ⟨t296, A220, H⟩ := H
                 replace H : (impl_Sample_stumps.l3 k3 x3_2 x19_1 (arr2_ 1 (-1) x23_2) ((rd_L1 l0_0 0).length : Int) x19_1 x23_2 t296 (t296.length : Int) 0 l0_0 l0_1) = some r := H
                 have A22 := Aside0.mk A220
                 clear A220
                 have H' := Aside0.mk H
                 clear H
                 obtain ⟨Ao23, co23, eo23⟩ := Kd.R_slice HO_7.out
                 subst eo23
                 go_wp2_with (first | ((with_reducible refine gate_callee (f := 153) rfl ?_); refine goesL_ (some 46) rfl rfl Try.func153 (by kernel_rfl) rfl #[.slice Ao23 x7_3.length co23] rfl aT ?_; (with_reducible refine (slices_Max_int_int.calls k3 _ _ x7_3 t291 _ ?side1 ?side2 A19.out).mono ?_); (case side1 => exact cR HO_7); (case side2 => exact (Kd.R_reads' HO_7.out).2.1); rintro e w24 ⟨rfl, hb⟩; refine ⟨_, rfl, ?_⟩; have n0_ := Aside0.mk (Kd.S_below (pS HO_3) hb); have n1_ := Aside0.mk (Kd.R_below (pR HO_7) hb); have n2_ := Aside0.mk (bW BK278 hb); have n3_ := Aside0.mk (below_step (bC HB GE278) hb); clear HO_3; clear HO_7; clear BK278; clear HB; have HO_3 := n0_; have HO_7 := n1_; have BK278 := n2_; have HB := n3_; clear n0_ n1_ n2_ n3_; (try clear hb); (try clear hb2); (try clear hk); (try clear hi)) | ((with_reducible refine gate_builtin (b := .append) (xs := #[.tmp 44, .tmp 48]) rfl ?_); at_builtin; refine Kd.R_append (Kd.int .i64) (w0 := w) w.heap.size rfl (.tmp 44) (.tmp 48) 22 3 (.int .i64 0) 8 rfl Try.underlying22 info3 rfl (by decide) (by omega) (.slice Ao23 x7_3.length co23) x7_3 (wrap64 (t291 + 1)) [.int .i64 (wrap64 (t291 + 1))] (fun _ => True) (fun _ => False) rfl rfl ?aP (fun _ hk => hk.elim) ?aF ?aO ?aB ?aS ?aL ?_; (case aP => exact rfl); (case aB => exact (bC HB GE278)); (case aF => exact (fun _ _ => trivial)); (case aO => exact (pR HO_7)); (case aS => exact (below_size (bC HB GE278))); (case aL => have := LMc20.out; omega); intro v293 w25 ho hb hg hat; rw [← Ny292.out] at ho; have n0_ := Aside0.mk (Kd.S_after (ok := (fun _ => True)) (by (with_reducible repeat (first | apply Kd.S_alloc | apply Kd.S_drewN | apply Kd.S_drew)); exact Kd.S_mono HO_3.out (fun _ hk => ⟨trivial, hk⟩)) hg hat); have n1_ := Aside0.mk (blk_grown (g := gb278) (o := .cells #[.slice (some ad282) l0_0.length c0_0, .slice A0_1 l0_1.length c0_1] 52 (0, 0)) (pB BK278) hg (Kd.R_ne HO_7.out BK278.out (by decide))); have n2_ := Aside0.mk (hb); have n3_ := Aside0.mk (ho); clear HO_3; clear BK278; clear HB; clear HO_7; have HO_3 := n0_; have BK278 := n1_; have HB := n2_; have HO294 := n3_; clear n0_ n1_ n2_ n3_; clear ho hb hg hat; obtain ⟨Ao26, co26, eo26⟩ := Kd.R_slice HO294.out; subst eo26) | ((with_reducible refine gate_callee (f := 92) rfl ?_); refine goesL_ (some 51) rfl rfl Try.func92 (by kernel_rfl) rfl #[.slice Ao26 y292.length co26] rfl aT ?_; (with_reducible refine (slices_Sort_int_int.calls (fun k_ => some k_ = (.slice Ao26 y292.length co26 : Value).ownBlock) (.slice Ao26 y292.length co26) y292 t295 w _ ?side1 ?side2 A21.out).mono ?_); (case side1 => exact bC HB GE278); (case side2 => exact Kd.R_tight rfl HO294.out); rintro e w27 ⟨rfl, hy0, hb, hkp⟩; refine ⟨_, rfl, ?_⟩; have n0_ := Aside0.mk (Kd.S_mono (ok' := fun k_ => some k_ ≠ (.slice Ao26 y292.length co26 : Value).ownBlock) (Kd.S_keptB (HO_3.out) hkp (fun k_ hk_ hs_ => (hk_.2) hs_)) (fun k_ hk_ => hk_.1.2)); have n1_ := Aside0.mk (blk_kept (pB BK278) hkp (fun hs_ => (fun e_ => (Kd.R_ne HO294.out BK278.out (by decide)) e_) hs_)); have n2_ := Aside0.mk (Kd.R_reok rfl hy0 (fun k_ e_ => HO294.out.1 k_ e_)); have n3_ := Aside0.mk (hb); clear HO_3; clear BK278; clear HO294; clear HB; have HO_3 := n0_; have BK278 := n1_; have HO294 := n2_; have HB := n3_; clear n0_ n1_ n2_ n3_; (try clear hb); (try clear hkp); (try clear hy0)) | ((with_reducible refine gate_callee (f := 154) rfl ?_); refine goesL_ (some 53) rfl rfl Try.func154 (by kernel_rfl) rfl #[.slice Ao26 y292.length co26] rfl aT ?_; (with_reducible refine (slices_Compact_int_int.calls (fun k_ => some k_ = (.slice Ao26 y292.length co26 : Value).ownBlock) (.slice Ao26 y292.length co26) t295 t296 w _ ?side1 ?side2 A22.out).mono ?_); (case side1 => exact bC HB GE278); (case side2 => exact Kd.R_tight rfl HO294.out); rintro e w28 ⟨v297, rfl, ho0, hb, hkp⟩; refine ⟨_, rfl, ?_⟩; have n0_ := Aside0.mk (Kd.S_mono (ok' := fun k_ => some k_ ≠ (v297 : Value).ownBlock) (Kd.S_keptB (HO_3.out) hkp (fun k_ hk_ hs_ => (hk_) hs_)) (fun k_ hk_ => fun e_ => Or.elim (ho0.1 k_ e_.symm) (fun hs_ => hk_.2.1 hs_) (fun hn_ => Nat.not_le.2 hk_.2.2 hn_))); have n1_ := Aside0.mk (blk_kept (pB BK278) hkp (fun hs_ => (fun e_ => (Kd.R_ne HO294.out BK278.out (by decide)) e_) hs_)); have n2_ := Aside0.mk (Kd.R_mono (ok' := fun k_ => True) ho0 (fun k_ hk_ => trivial)); have n3_ := Aside0.mk (hb); clear HO_3; clear BK278; clear HB; clear HO294; have HO_3 := n0_; have BK278 := n1_; have HO298 := n2_; have HB := n3_; clear n0_ n1_ n2_ n3_; (try clear hb); (try clear hkp); (try clear ho0); obtain ⟨Ao29, co29, eo29⟩ := Kd.R_slice HO298.out; subst eo29))
                 go_loopg [3, 55] k3 (fun kq v3 v55 w' => ∃ (x3_4 : List (S39)) (x53_4 : List Int) (x55_4 : Int), v55 = .int .i64 x55_4 ∧ Aside0 (impl_Sample_stumps.l3 kq x3_4 x19_1 (arr2_ 1 (-1) x23_2) ((rd_L1 l0_0 0).length : Int) x19_1 x23_2 x53_4 (t296.length : Int) x55_4 l0_0 l0_1 = some r) ∧ Aside0 (kq ≤ k3) ∧ Aside0 (Kd.S k39 39 w' w.heap.size (fun k_ => some k_ ≠ ((.slice Ao29 t296.length co29) : Value).ownBlock) v3 x3_4) ∧ Aside0 (Kd.R (Kd.int .i64) 3 w' w.heap.size (fun _ => True) (.slice Ao29 t296.length co29) x53_4) ∧ Aside0 (w'.heap[gb278]? = some (.cells #[(.slice (some ad282) l0_0.length c0_0), (.slice A0_1 l0_1.length c0_1)] 52 (0, 0))) ∧ Aside0 (Below w.heap.size w w'))
                 case atStart => exact ⟨(x3_2), (t296), (0), rD, H', ⟨Nat.le_refl _⟩, ⟨pS HO_3⟩, ⟨pR HO298⟩, ⟨pB BK278⟩, ⟨bC HB GE278⟩⟩
                 case round =>
                  clear H'
                  try clear c2
                  try clear c2b0
                  try clear c2b1
                  try clear c7
                  try clear c7b0
                  try clear c8
                  try clear c8b0
                  try clear c12
                  try clear c12b0
                  try clear c13
                  try clear c20
                  try clear hcz11_0
                  try clear hcz11_1
                  try clear hcz6_0
                  try clear hcz6_1
                  try clear hfz11_0
                  try clear hfz11_1
                  try clear hfz6_0
                  try clear hfz6_1
                  try clear hx282_0
                  try clear p282
                  try clear q282
                  obtain ⟨x3_4, x53_4, x55_4, rfl, HA, HK4, HO_3, HO_53, BK278, HB⟩ := hrel
                  have hl53_4 := (Kd.R_reads' HO_53.out).1
                  rw [hl53_4] at HO_53
                  (try simp only [hl53_4])
                  (try simp only [hl53_4] at BK278)
                  (try simp only [hl53_4] at HO_3)
                  cases gk with
                  | zero => exact absurd HA.out (by simp [impl_Sample_stumps.l3])
                  | succ k4 =>
                   have H := HA.out
                   clear HA
                   simp only [impl_Sample_stumps.l3] at H
                   by_cases c30 : x55_4 < (t296.length : Int)
                   · rw [if_pos c30] at H
                     have c30b0 : decide (x55_4 < (t296.length : Int)) = true := decide_eq_true c30
                     (try simp only [hl53_4] at c30b0)
                     clear c30
                     by_cases c31 : 0 ≤ x55_4
                     · rw [if_pos c31] at H
                       have c31b0 : decide (0 ≤ x55_4) = true := decide_eq_true c31
                       clear c31
                       by_cases c32 : x55_4 < (x53_4.length : Int)
                       · rw [if_pos c32] at H
                         have c32b0 : decide (x55_4 < (x53_4.length : Int)) = true := decide_eq_true c32
                         (try simp only [hl53_4] at c32b0)
                         clear c32
                         by_cases c33 : 0 < (l0_0.length : Int)
                         · rw [if_pos c33] at H
                           have c33b0 : decide (0 < (l0_0.length : Int)) = true := decide_eq_true c33
                           have c33b1 : decide (0 < l0_0.length) = true := decide_eq_true (by omega)
                           clear c33
                           by_cases c34 : 0 ≤ ((rd_L1 l0_0 0).length : Int)
                           · rw [if_pos c34] at H
                             have c34b0 := eq_true c34
                             have c34b1 : decide (0 ≤ ((rd_L1 l0_0 0).length : Int)) = true := decide_eq_true c34
                             clear c34
                             by_cases c35 : (((rd_L1 l0_0 0).length : Int) : Int).toNat ≤ 35184372088832
                             · rw [if_pos c35] at H
                               have c35b0 := eq_true c35
                               have c35b1 : decide ((((rd_L1 l0_0 0).length : Int) : Int).toNat ≤ 35184372088832) = true := decide_eq_true c35
                               clear c35
                               obtain ⟨y301, hy301⟩ : ∃ y_ : List Int, y_ = (List.replicate (((rd_L1 l0_0 0).length : Int) : Int).toNat 0) := ⟨_, rfl⟩
                               replace H : (if 0 ≤ x19_1 then (if x19_1 < (y301.length : Int) then (if x3_4.length < 4398046511104 then (impl_Sample_stumps.l3 k4 (x3_4 ++ [(⟨(y301.set (x19_1 : Int).toNat (arr2_ 1 (-1) x23_2)), rd x53_4 x55_4⟩ : S39)]) x19_1 (arr2_ 1 (-1) x23_2) ((rd_L1 l0_0 0).length : Int) x19_1 x23_2 x53_4 (t296.length : Int) (wrap64 (x55_4 + 1)) l0_0 l0_1) else (none)) else (none)) else (none)) = some r := by first | (rw [hy301]; with_reducible exact H) | (have H2_ := (Option.bind_some _ _).symm.trans H; rw [hy301]; with_reducible exact H2_) | (have H2_ := (Option.bind_some _ _).symm.trans H; with_reducible exact H2_) | with_reducible exact H | (rw [hy301]; exact H) | exact H
                               have Ny301 := Aside0.mk hy301
                               clear hy301
                               by_cases c36 : 0 ≤ x19_1
                               · rw [if_pos c36] at H
                                 have c36b0 : decide (0 ≤ x19_1) = true := decide_eq_true c36
                                 clear c36
                                 by_cases c37 : x19_1 < (y301.length : Int)
                                 · rw [if_pos c37] at H
                                   have c37b0 : decide (x19_1 < (y301.length : Int)) = true := decide_eq_true c37
                                   (try simp only [hl53_4] at c37b0)
                                   clear c37
                                   obtain ⟨y305, hy305⟩ : ∃ y_ : List Int, y_ = (y301.set (x19_1 : Int).toNat (arr2_ 1 (-1) x23_2)) := ⟨_, rfl⟩
                                   replace H : (if x3_4.length < 4398046511104 then (impl_Sample_stumps.l3 k4 (x3_4 ++ [(⟨y305, rd x53_4 x55_4⟩ : S39)]) x19_1 (arr2_ 1 (-1) x23_2) ((rd_L1 l0_0 0).length : Int) x19_1 x23_2 x53_4 (t296.length : Int) (wrap64 (x55_4 + 1)) l0_0 l0_1) else (none)) = some r := by first | (rw [hy305]; with_reducible exact H) | (have H2_ := (Option.bind_some _ _).symm.trans H; rw [hy305]; with_reducible exact H2_) | (have H2_ := (Option.bind_some _ _).symm.trans H; with_reducible exact H2_) | with_reducible exact H | (rw [hy305]; exact H) | exact H
                                   have Ny305 := Aside0.mk hy305
                                   clear hy305
                                   by_cases c39 : x3_4.length < 4398046511104
                                   · rw [if_pos c39] at H
                                     have LMc39 := Aside0.mk c39
                                     clear c39
                                     obtain ⟨y306, hy306⟩ : ∃ y_ : List (S39), y_ = (x3_4 ++ [(⟨y305, rd x53_4 x55_4⟩ : S39)]) := ⟨_, rfl⟩
                                     replace H : (impl_Sample_stumps.l3 k4 y306 x19_1 (arr2_ 1 (-1) x23_2) ((rd_L1 l0_0 0).length : Int) x19_1 x23_2 x53_4 (t296.length : Int) (wrap64 (x55_4 + 1)) l0_0 l0_1) = some r := by first | (rw [hy306]; with_reducible exact H) | (have H2_ := (Option.bind_some _ _).symm.trans H; rw [hy306]; with_reducible exact H2_) | (have H2_ := (Option.bind_some _ _).symm.trans H; with_reducible exact H2_) | with_reducible exact H | (rw [hy306]; exact H) | exact H
                                     have Ny306 := Aside0.mk hy306
                                     clear hy306
                                     have H' := Aside0.mk H
                                     clear H
                                     have p299 : 0 ≤ (x55_4 : Int) := of_decide_eq_true aS
                                     have q299 : x55_4 < (x53_4.length : Int) := of_decide_eq_true aS
                                     obtain ⟨ad299, e299, hx299_0⟩ := Kd.at_int (Kd.R_reads' HO_53.out).2.2 x55_4 p299 q299
                                     cases e299
                                     replace p299 := eq_true p299
                                     replace q299 := eq_true q299
                                     have hcz40_0 : wr.cell? ⟨gb278, 0, none⟩ = some (.slice (some ad282) l0_0.length c0_0) := (blk_cell BK278.out 0).trans rfl
                                     have hcz40_1 : wr.cell? ⟨gb278, 1, none⟩ = some (.slice A0_1 l0_1.length c0_1) := (blk_cell BK278.out 1).trans rfl
                                     have hfz40_0 := blk_frozen BK278.out 0
                                     have hfz40_1 := blk_frozen BK278.out 1
                                     have p300 : 0 ≤ (0 : Int) := (by omega)
                                     have q300 : 0 < (l0_0.length : Int) := of_decide_eq_true aS
                                     obtain ⟨ad300, A300_0, c300_0, e300, hx300_0, hl300_0, hi300_0⟩ := at_L1 HR0_0.out 0 p300 q300
                                     obtain rfl : ad282 = ad300 := (by injection e300)
                                     have qi300 : (0 < l0_0.length) = True := eq_true (by omega)
                                     (try rw [show ((0 : Int)).toNat = 0 from rfl] at hx300_0)
                                     (try rw [Addr.add_zero'] at hx300_0)
                                     replace hx300_0 := (HB.out.cell (World.block_lt_of_cell? w _ hx300_0)).trans hx300_0
                                     have HR300_0 := Aside0.mk hi300_0
                                     have HC300_0 := Aside0.mk hl300_0
                                     clear hi300_0 hl300_0
                                     replace p300 := eq_true p300
                                     replace q300 := eq_true q300
                                     go_wp2_with (first | ((with_reducible refine gate_dst (N := 64) rfl ?_); refine Kd.R_make (Kd.int .i64) _ 3 rfl (N := 64) rfl 22 _ _ rfl ((rd_L1 l0_0 0).length : Int) rfl rfl Try.underlying22 (.int .i64 0) 8 info3 rfl (by decide) (by omega) 0 (ok := fun _ => True) (okp := fun _ => True) rfl (fun _ hk => hk) trivial (of_decide_eq_true aS) (Nat.le_trans (Nat.mul_le_mul_right _ (of_decide_eq_true aS : ((rd_L1 l0_0 0).length : Int).toNat ≤ 35184372088832)) (by omega)) (Below.refl _ _) (Nat.le_refl _) ?_; intro v302 w41 ho42 hb hg_ hnew_; clear hg_ hnew_; (first | rw [← Ny301.out] at ho42 | (simp only [Int.reduceToNat] at ho42; rw [← Ny301.out] at ho42)); have n0_ := Aside0.mk (Kd.S_elder' (pS HO_3) (Kd.R_base ho42) hb); have n1_ := Aside0.mk (Kd.R_elder' (pR HO_53) (Kd.R_base ho42) hb); have n2_ := Aside0.mk (Kd.R_lower (Kd.R_new' ho42 (Kd.R_lt (pR HO_53))) (below_size (bC HB GE278))); have n3_ := Aside0.mk (bW BK278 hb); have n4_ := Aside0.mk (below_step (bC HB GE278) hb); clear HO_3; clear HO_53; clear BK278; clear HB; have HO_3 := n0_; have HO_53 := n1_; have HO303 := n2_; have BK278 := n3_; have HB := n4_; clear n0_ n1_ n2_ n3_ n4_; clear hb ho42; obtain ⟨Ao43, co43, eo43⟩ := Kd.R_slice HO303.out; subst eo43) | ((with_reducible refine gate_dst (N := 12) rfl ?_); refine box_event ?hg (N := 12) ?hd (cs := #[.slice none 0 0, .int .i64 0]) (t := 39) ?hr ?_; (case hd => rfl); (case hg => rfl); (case hr => first | (go_simp; done) | (go_simp; rfl)); intro gb304 hg w44 hbox hb; have n0_ := Aside0.mk (Kd.S_below (Kd.S_elderB (pS HO_3) gb304 (Nat.le_of_eq hg.symm)) hb); have n1_ := Aside0.mk (Kd.R_below (pR HO_53) hb); have n2_ := Aside0.mk (Kd.R_below (pR HO303) hb); have n3_ := Aside0.mk (bW BK278 hb); have n4_ := Aside0.mk (below_step (bC HB GE278) hb); have n5_ := Aside0.mk (hbox); have n6_ := Aside0.mk ((by rw [hg]; exact (below_size (bC HB GE278)) : w.heap.size ≤ gb304)); have n7_ := Aside0.mk ((by rw [hg]; exact (below_size (bC HB GE278)) : w.heap.size ≤ gb304)); have n8_ := Aside0.mk ((by rw [hg]; exact Nat.ne_of_lt (blk_lt (g := gb278) (o := .cells #[.slice (some ad282) l0_0.length c0_0, .slice A0_1 l0_1.length c0_1] 52 (0, 0)) (pB BK278)) : gb278 ≠ gb304)); have n9_ := Aside0.mk ((by rw [hg]; exact Nat.ne_of_gt (blk_lt (g := gb278) (o := .cells #[.slice (some ad282) l0_0.length c0_0, .slice A0_1 l0_1.length c0_1] 52 (0, 0)) (pB BK278)) : gb304 ≠ gb278)); clear HO_3; clear HO_53; clear HO303; clear BK278; clear HB; have HO_3 := n0_; have HO_53 := n1_; have HO303 := n2_; have BK278 := n3_; have HB := n4_; have BK304 := n5_; have GW304 := n6_; have GE304 := n7_; have NB278_304 := n8_; have NB304_278 := n9_; clear n0_ n1_ n2_ n3_ n4_ n5_ n6_ n7_ n8_ n9_; clear hb hbox hg; have hnb45 := NB304_278.out; have hnc45 := NB278_304.out; have hcz46_0 : w44.cell? ⟨gb304, 0, none⟩ = some (.slice none 0 0) := (blk_cell BK304.out 0).trans rfl; have hcz46_1 : w44.cell? ⟨gb304, 1, none⟩ = some (.int .i64 0) := (blk_cell BK304.out 1).trans rfl; have hfz46_0 := blk_frozen BK304.out 0; have hfz46_1 := blk_frozen BK304.out 1) | ((with_reducible refine gate_store (t := 39) (p := 12) rfl ?_); refine store_event (t := 39) (p := 12) (v := ?vo_w47) (w1 := ((w44.setCell ⟨gb304, 0, none⟩ (.slice Ao43 y301.length co43)).setCell ⟨gb304, 1, none⟩ (.int .i64 (rd x53_4 x55_4)))) ?hg ?ho ?hn ?hr ?_; (case ho => rfl); (case hg => rfl); (case hn => rfl); (case hr => first | (go_simp; done) | (go_simp; rfl)); intro w47 hw; have n0_ : Aside0 (Kd.S k39 39 w47 w.heap.size (fun k_ => some k_ ≠ (.slice (some ad299) x53_4.length co29 : Value).ownBlock ∧ some k_ ≠ (.slice Ao43 y301.length co43 : Value).ownBlock ∧ k_ ≠ gb304) u3 x3_4) := ⟨(by rw [hw]; exact (by (with_reducible repeat (first | apply Kd.S_alloc | apply Kd.S_drewN | apply Kd.S_drew)); exact Kd.S_mono (Kd.S_far (p := ⟨gb304, 1, none⟩) (Kd.S_far (p := ⟨gb304, 0, none⟩) (Kd.S_mono HO_3.out (fun k_ hk => (⟨hk, hk.2⟩ : _ ∧ k_ ≠ gb304))) (fun _ hk => hk.2) (.slice Ao43 y301.length co43)) (fun _ hk => hk.2) (.int .i64 (rd x53_4 x55_4))) (fun _ hk => ⟨hk.1.1.1, ⟨hk.1.1.2, hk.1.2⟩⟩)))⟩; have n1_ : Aside0 (Kd.R (Kd.int .i64) 3 w47 w.heap.size (fun k_ => some k_ ≠ (.slice Ao43 y301.length co43 : Value).ownBlock) (.slice (some ad299) x53_4.length co29) x53_4) := ⟨(by rw [hw]; exact (by (with_reducible repeat (first | apply Kd.R_alloc | apply Kd.R_drewN | apply Kd.R_drew)); exact Kd.R_mono (Kd.R_far (p := ⟨gb304, 1, none⟩) (Kd.R_far (p := ⟨gb304, 0, none⟩) (Kd.R_types HO_53.out BK304.out (by decide)) (fun _ hk => hk.2) (.slice Ao43 y301.length co43)) (fun _ hk => hk.2) (.int .i64 (rd x53_4 x55_4))) (fun _ hk => hk.1.2)))⟩; have n2_ : Aside0 (Kd.R (Kd.int .i64) 3 w47 w.heap.size (fun k_ => some k_ ≠ (.slice (some ad299) x53_4.length co29 : Value).ownBlock) (.slice Ao43 y301.length co43) y301) := ⟨(by rw [hw]; exact (by (with_reducible repeat (first | apply Kd.R_alloc | apply Kd.R_drewN | apply Kd.R_drew)); exact Kd.R_mono (Kd.R_far (p := ⟨gb304, 1, none⟩) (Kd.R_far (p := ⟨gb304, 0, none⟩) (Kd.R_types HO303.out BK304.out (by decide)) (fun _ hk => hk.2) (.slice Ao43 y301.length co43)) (fun _ hk => hk.2) (.int .i64 (rd x53_4 x55_4))) (fun _ hk => hk.1.2)))⟩; have n3_ : Aside0 (w47.heap[gb278]? = some (.cells #[.slice (some ad282) l0_0.length c0_0, .slice A0_1 l0_1.length c0_1] 52 (0, 0))) := ⟨(by rw [hw]; exact (f2 BK278 NB278_304 NB278_304))⟩; have n4_ : Aside0 (w47.heap[gb304]? = some (.cells #[.slice Ao43 y301.length co43, .int .i64 (rd x53_4 x55_4)] 39 (0, 0))) := ⟨(by rw [hw]; exact (by (with_reducible repeat (first | refine blk_drewN ?_ _ | refine blk_drew ?_ | refine blk_alloc ?_ _)); refine blk_put (cs := #[.slice Ao43 y301.length co43, .int .i64 0]) ?_ 1 _ rfl; (with_reducible repeat (first | refine blk_drewN ?_ _ | refine blk_drew ?_ | refine blk_alloc ?_ _)); refine blk_put (cs := #[.slice none 0 0, .int .i64 0]) ?_ 0 _ rfl; (with_reducible repeat (first | refine blk_drewN ?_ _ | refine blk_drew ?_ | refine blk_alloc ?_ _)); exact BK304.out))⟩; have n5_ : Aside0 (Below w.heap.size w w47) := ⟨(by rw [hw]; exact (bD HB GE278 GE304))⟩; clear hw; clear HO_3; clear HO_53; clear HO303; clear BK278; clear BK304; clear HB; have HO_3 := n0_; have HO_53 := n1_; have HO303 := n2_; have BK278 := n3_; have BK304 := n4_; have HB := n5_; clear n0_ n1_ n2_ n3_ n4_ n5_; have hcz48_0 : w47.cell? ⟨gb304, 0, none⟩ = some (.slice Ao43 y301.length co43) := (blk_cell BK304.out 0).trans rfl; have hcz48_1 : w47.cell? ⟨gb304, 1, none⟩ = some (.int .i64 (rd x53_4 x55_4)) := (blk_cell BK304.out 1).trans rfl; have hfz48_0 := blk_frozen BK304.out 0; have hfz48_1 := blk_frozen BK304.out 1; have p38 : 0 ≤ (x19_1 : Int) := of_decide_eq_true aS; have q38 : (x19_1 : Int) < ((y301.length : Int) : Int) := of_decide_eq_true aS; obtain ⟨go38, co38, eo38, gb38, gl38, cl38, HG38⟩ := Kd.R_form HO303.out (by omega); (first | cases eo38 | (injection eo38 with ea_ en_ ec_; (first | subst ea_ | (injection ea_ with ea_; subst ea_)); subst ec_; clear en_)); have GB38 := Aside0.mk gb38; have GG38 := Aside0.mk HG38; clear gb38 gl38 HG38; obtain ⟨hx38_0, hf38_0⟩ := Kd.R_celln 0 HO303.out (x19_1 : Int) p38 q38; replace p38 := eq_true p38; replace q38 := eq_true q38; obtain ⟨hy49_, hz49_⟩ := Kd.R_celln 0 HO303.out (x19_1 : Int) (of_decide_eq_true aS) (of_decide_eq_true aS); have HP49 := Kd.R_putg HO303.out (x19_1 : Int) (arr2_ 1 (-1) x23_2)) | ((with_reducible refine gate_store (t := 3) (p := 71) rfl ?_); refine store_event (t := 3) (p := 71) (v := ?vo_w50) (w1 := (w47.setCell ⟨go38, (x19_1 : Int).toNat, none⟩ (.int .i64 (arr2_ 1 (-1) x23_2)))) ?hg ?ho ?hn ?hr ?_; (case ho => rfl); (case hg => rfl); (case hn => rfl); (case hr => first | (go_simp; done) | (go_simp; rfl)); intro w50 hw; have hg : w47.grownBy w50 (some go38) := (by rw [hw]; exact HP49.2); have hp_ : Kd.R (Kd.int .i64) 3 w50 w.heap.size (fun k_ => some k_ ≠ (.slice (some ad299) x53_4.length co29 : Value).ownBlock) (.slice (some ⟨go38, 0, none⟩) y301.length co43) y305 := (by rw [hw, Ny305.out]; exact HP49.1); clear HP49; have n0_ := Aside0.mk (Kd.S_after (v := (.slice (some ⟨go38, 0, none⟩) y301.length co43)) (v1 := (.slice (some ⟨go38, 0, none⟩) y301.length co43)) (ok := (fun k_ => some k_ ≠ (.slice (some ad299) x53_4.length co29 : Value).ownBlock ∧ k_ ≠ gb304)) (by (with_reducible repeat (first | apply Kd.S_alloc | apply Kd.S_drewN | apply Kd.S_drew)); exact Kd.S_mono HO_3.out (fun _ hk => ⟨⟨hk.1, hk.2.2⟩, hk.2.1⟩)) hg (.inl rfl)); have n1_ := Aside0.mk (Kd.R_after (v := (.slice (some ⟨go38, 0, none⟩) y301.length co43)) (v1 := (.slice (some ⟨go38, 0, none⟩) y301.length co43)) (ok := (fun _ => True)) (by (with_reducible repeat (first | apply Kd.R_alloc | apply Kd.R_drewN | apply Kd.R_drew)); exact Kd.R_mono HO_53.out (fun _ hk => ⟨trivial, hk⟩)) hg (.inl rfl)); have n2_ := Aside0.mk (blk_grown (g := gb278) (o := .cells #[.slice (some ad282) l0_0.length c0_0, .slice A0_1 l0_1.length c0_1] 52 (0, 0)) (pB BK278) hg (Kd.R_ne HO303.out BK278.out (by decide))); have n3_ := Aside0.mk (hp_); have n4_ := Aside0.mk (blk_grown (g := gb304) (o := .cells #[.slice (some ⟨go38, 0, none⟩) y301.length co43, .int .i64 (rd x53_4 x55_4)] 39 (0, 0)) (pB BK304) hg (Kd.R_ne HO303.out BK304.out (by decide))); have n5_ := Aside0.mk ((by rw [hw]; exact below_set (HB.out) GB38.out : Below w.heap.size w w50)); clear HO_3; clear HO_53; clear BK278; clear HO303; clear BK304; clear HB; have HO_3 := n0_; have HO_53 := n1_; have BK278 := n2_; have HO303 := n3_; have BK304 := n4_; have HB := n5_; clear n0_ n1_ n2_ n3_ n4_ n5_; clear hg hw hp_; have hcz51_0 : w50.cell? ⟨gb304, 0, none⟩ = some (.slice (some ⟨go38, 0, none⟩) y301.length co43) := (blk_cell BK304.out 0).trans rfl; have hcz51_1 : w50.cell? ⟨gb304, 1, none⟩ = some (.int .i64 (rd x53_4 x55_4)) := (blk_cell BK304.out 1).trans rfl; have hfz51_0 := blk_frozen BK304.out 0; have hfz51_1 := blk_frozen BK304.out 1) | ((with_reducible refine gate_builtin (b := .append) (xs := #[.tmp 72, .tmp 74]) rfl ?_); at_builtin; refine Kd.S_append k39 (w0 := w) w.heap.size rfl (.tmp 72) (.tmp 74) 65 39 (.agg #[(.slice none 0 0), (.int .i64 0)]) 32 rfl Try.underlying65 info39 rfl (by decide) (by omega) u3 x3_4 (⟨y305, rd x53_4 x55_4⟩ : S39) [.slice (some ⟨go38, 0, none⟩) y301.length co43, .int .i64 (rd x53_4 x55_4)] (fun k_ => some k_ ≠ (.slice (some ad299) x53_4.length co29 : Value).ownBlock ∧ k_ ≠ gb304) (fun k_ => some k_ = (.slice (some ⟨go38, 0, none⟩) y301.length co43 : Value).ownBlock) rfl rfl ?aP (fun k_ hk_ => ((Kd.R_mono (ok' := fun k_ => ((fun k_ => some k_ ≠ (.slice (some ad299) x53_4.length co29 : Value).ownBlock ∧ k_ ≠ gb304)) k_ ∧ some k_ ≠ (u3 : Value).ownBlock) (Kd.R_types (Kd.R_apart' (HO303.out) (Kd.S_typed HO_3.out) (by decide)) BK304.out (by decide)) (fun k_ hk => ⟨⟨hk.1.1, hk.2⟩, hk.1.2⟩))).1 k_ hk_.symm) ?aF ?aO ?aB ?aS ?aL ?_; (case aP => exact k39_mkM _ _ _ (⟨y305, rd x53_4 x55_4⟩ : S39) (Kd.R_mono (Kd.R_tight rfl (Kd.R_mono (ok' := fun k_ => ((fun k_ => some k_ ≠ (.slice (some ad299) x53_4.length co29 : Value).ownBlock ∧ k_ ≠ gb304)) k_ ∧ some k_ ≠ (u3 : Value).ownBlock) (Kd.R_types (Kd.R_apart' (HO303.out) (Kd.S_typed HO_3.out) (by decide)) BK304.out (by decide)) (fun k_ hk => ⟨⟨hk.1.1, hk.2⟩, hk.1.2⟩))) (fun _ h_ => h_))); (case aB => exact (bD HB GE278 GE304)); (case aF => exact (fun k_ hk => ⟨Kd.fresh' (Kd.R_lt (pR HO_53)) k_ hk, Kd.freshB (g := gb304) (o := .cells #[.slice (some ⟨go38, 0, none⟩) y301.length co43, .int .i64 (rd x53_4 x55_4)] 39 (0, 0)) (pB BK304) k_ hk⟩)); (case aO => exact (by (with_reducible repeat (first | apply Kd.S_alloc | apply Kd.S_drewN | apply Kd.S_drew)); exact Kd.S_mono HO_3.out (fun k_ hk => ⟨⟨hk.1.1, hk.1.2⟩, fun e_ => hk.2 e_⟩))); (case aS => exact (below_size (bD HB GE278 GE304))); (case aL => have := LMc39.out; omega); intro v307 w52 ho hb hg hat; rw [← Ny306.out] at ho; have n0_ := Aside0.mk (Kd.R_over' (pR HO_53) (Kd.S_typed (pS HO_3)) (by decide) hg); have n1_ := Aside0.mk (blk_grown (g := gb278) (o := .cells #[.slice (some ad282) l0_0.length c0_0, .slice A0_1 l0_1.length c0_1] 52 (0, 0)) (pB BK278) hg (Kd.S_ne HO_3.out BK278.out (by decide))); have n2_ := Aside0.mk (blk_grown (g := gb304) (o := .cells #[.slice (some ⟨go38, 0, none⟩) y301.length co43, .int .i64 (rd x53_4 x55_4)] 39 (0, 0)) (pB BK304) hg (Kd.S_away HO_3.out (fun _ hk => hk.1.2))); have n3_ := Aside0.mk (hb); have n4_ := Aside0.mk (ho); clear HO_53; clear BK278; clear BK304; clear HB; clear HO_3; clear HO303; have HO_53 := n0_; have BK278 := n1_; have BK304 := n2_; have HB := n3_; have HO308 := n4_; clear n0_ n1_ n2_ n3_ n4_; clear ho hb hg hat))
                                     (try simp only [← hl53_4])
                                     go_roundg k4
                                     case measure => have := HK1.out; have := HK2.out; have := HK3.out; have := HK4.out; omega
                                     case rel => exact ⟨(y306), (x53_4), (wrap64 (x55_4 + 1)), rD, H', ⟨by have := HK1.out; have := HK2.out; have := HK3.out; have := HK4.out; omega⟩, ⟨by (try simp only [hl53_4]); (with_reducible repeat (first | apply Kd.S_alloc | apply Kd.S_drewN | apply Kd.S_drew)); exact Kd.S_mono HO308.out (fun _ hk => hk.1)⟩, ⟨by (try simp only [hl53_4]); (with_reducible repeat (first | apply Kd.R_alloc | apply Kd.R_drewN | apply Kd.R_drew)); exact Kd.R_mono HO_53.out (fun _ hk => trivial)⟩, ⟨by (try simp only [hl53_4]); (with_reducible repeat (first | refine blk_drewN ?_ _ | refine blk_drew ?_ | refine blk_alloc ?_ _)); exact BK278.out⟩, ⟨bD HB GE278 GE304⟩⟩
                                   · rw [if_neg c39] at H
                                     exact absurd H (by simp)
                                 · rw [if_neg c37] at H
                                   exact absurd H (by simp)
                               · rw [if_neg c36] at H
                                 exact absurd H (by simp)
                             · rw [if_neg c35] at H
                               exact absurd H (by simp)
                           · rw [if_neg c34] at H
                             exact absurd H (by simp)
                         · rw [if_neg c33] at H
                           exact absurd H (by simp)
                       · rw [if_neg c32] at H
                         exact absurd H (by simp)
                     · rw [if_neg c31] at H
                       exact absurd H (by simp)
                   · rw [if_neg c30] at H
                     have c30b0 : decide (x55_4 < (t296.length : Int)) = false := decide_eq_false c30
                     (try simp only [hl53_4] at c30b0)
                     clear c30
                     have H' := Aside0.mk H
                     clear H
                     go_wp2
                     (try simp only [← hl53_4])
                     go_roundg k4
                     case measure => have := HK1.out; have := HK2.out; have := HK3.out; have := HK4.out; omega
                     case rel => exact ⟨(x3_4), (wrap64 (x23_2 + 1)), rD, H', ⟨by have := HK1.out; have := HK2.out; have := HK3.out; have := HK4.out; omega⟩, ⟨by (try simp only [hl53_4]); (with_reducible repeat (first | apply Kd.S_alloc | apply Kd.S_drewN | apply Kd.S_drew)); exact Kd.S_mono HO_3.out (fun _ hk => trivial)⟩, ⟨by (try simp only [hl53_4]); (with_reducible repeat (first | refine blk_drewN ?_ _ | refine blk_drew ?_ | refine blk_alloc ?_ _)); exact BK278.out⟩, ⟨bC HB GE278⟩⟩
               · rw [if_neg c20] at H
                 exact absurd H (by simp)
         · rw [if_neg c8] at H
           have c8b0 : decide (x23_2 < 2) = false := decide_eq_false c8
           clear c8
           have H' := Aside0.mk H
           clear H
           go_wp2
           go_roundg k2
           case measure => have := HK1.out; have := HK2.out; omega
           case rel => exact ⟨(x3_2), (wrap64 (x19_1 + 1)), rD, H', ⟨by have := HK1.out; have := HK2.out; omega⟩, ⟨pS HO_3⟩, ⟨pB BK278⟩, ⟨bC HB GE278⟩⟩
     · rw [if_neg c7] at H
       have c7b0 : decide (x19_1 < ((rd_L1 l0_0 0).length : Int)) = false := decide_eq_false c7
       clear c7
       obtain rfl := Option.some.inj H
       go_wp2
       go_ret
       exact ⟨_, eW, by (with_reducible repeat (first | apply Kd.S_alloc | apply Kd.S_drewN | apply Kd.S_drew)); exact HO_3.out, bC HB GE278⟩
 · rw [if_neg c2] at H
   exact absurd H (by simp)

/-! ### impl_at: function 95 -/
def impl_at.l0 : Nat → List Int → List Int → List Int → Int → Int → Option (List Int)
 | 0, _, _, _, _, _ => none
 | k + 1, x0, x5, x9, x10, x11 => if x11 < x10 then (if 0 ≤ x11 then (if x11 < (x9.length : Int) then (if 0 ≤ (rd x9 x11) then (if (rd x9 x11) < (x0.length : Int) then (if x5.length < 17592186044416 then (impl_at.l0 k x0 (x5 ++ [rd x0 (rd x9 x11)]) x9 x10 (wrap64 (x11 + 1))) else (none)) else (none)) else (none)) else (none)) else (none)) else (some x5)
def impl_at.f (k : Nat) (l0 : List Int) (l1 : List Int) : Option (List Int) := impl_at.l0 k l0 (([] : List Int)) l1 (l1.length : Int) 0
set_option maxHeartbeats 8000000 in
set_option maxRecDepth 100000 in
theorem impl_at.calls (k : Nat) (A0 : Option Addr) (c0 : Nat) (l0 : List Int) (A1 : Option Addr) (c1 : Nat) (l1 : List Int) (r : List Int) (w : World) (hr0 : Kd.C (Kd.int .i64) w A0 l0.length l0) (hc0 : l0.length ≤ c0) (hr1 : Kd.C (Kd.int .i64) w A1 l1.length l1) (hc1 : l1.length ≤ c1) (h : impl_at.f k l0 l1 = some r) :
 Calls Try.prog 95 #[.slice A0 l0.length c0, .slice A1 l1.length c1] w fun e w' => ∃ v0_ : Value, e = .returned (v0_) ∧ Kd.R (Kd.int .i64) 3 w' w.heap.size (fun _ => True) v0_ r ∧ Below w.heap.size w w' := by
 have HR0 := Aside0.mk hr0
 have HC0 := Aside0.mk hc0
 clear hr0 hc0
 have HR1 := Aside0.mk hr1
 have HC1 := Aside0.mk hc1
 clear hr1 hc1
 have HB := Aside0.mk (Below.refl w.heap.size w)
 have H : (impl_at.l0 k l0 (([] : List Int)) l1 (l1.length : Int) 0) = some r := h
 clear h
 obtain ⟨y309, hy309⟩ : ∃ y_ : List Int, y_ = (([] : List Int)) := ⟨_, rfl⟩
 replace H : (impl_at.l0 k l0 y309 l1 (l1.length : Int) 0) = some r := by first | (rw [hy309]; with_reducible exact H) | (have H2_ := (Option.bind_some _ _).symm.trans H; rw [hy309]; with_reducible exact H2_) | (have H2_ := (Option.bind_some _ _).symm.trans H; with_reducible exact H2_) | with_reducible exact H | (rw [hy309]; exact H) | exact H
 have Ny309 := Aside0.mk hy309
 clear hy309
 have H' := Aside0.mk H
 clear H
 go_enter Try.func95, Try.ntmps95
 go_wp2_with (first | ((with_reducible refine gate_dst (N := 8) rfl ?_); refine Kd.R_lit (Kd.int .i64) _ 3 ?hg (N := 8) ?hd (xs := ([] : List Int)) (inner := []) (ok := fun _ => True) (okp := fun _ => True) ?hr ?hp (fun _ hk => hk) trivial (Below.refl _ _) (Nat.le_refl _) (by simp) ?_; (case hd => rfl); (case hg => rfl); (case hr => first | (go_simp; done) | (go_simp; rfl)); (case hp => exact (Reps.none _ _)); intro v310 w3 ho4 hb hg_ hnew_; clear hg_ hnew_; (first | rw [← Ny309.out] at ho4 | (simp only [Int.reduceToNat] at ho4; rw [← Ny309.out] at ho4)); have n0_ := Aside0.mk (Kd.R_lower ho4 (below_size (bB HB))); have n1_ := Aside0.mk (below_step (bB HB) hb); clear HB; have HO311 := n0_; have HB := n1_; clear n0_ n1_; clear hb ho4))
 go_loopg [5, 11] k (fun kq v5 v11 w' => ∃ (x5_1 : List Int) (x11_1 : Int), v11 = .int .i64 x11_1 ∧ Aside0 (impl_at.l0 kq l0 x5_1 l1 (l1.length : Int) x11_1 = some r) ∧ Aside0 (kq ≤ k) ∧ Aside0 (Kd.R (Kd.int .i64) 3 w' w.heap.size (fun _ => True) v5 x5_1) ∧ Aside0 (Below w.heap.size w w'))
 case atStart => exact ⟨(y309), (0), rD, H', ⟨Nat.le_refl _⟩, ⟨pR HO311⟩, ⟨bB HB⟩⟩
 case round =>
  clear H'
  try clear c1
  obtain ⟨x5_1, x11_1, rfl, HA, HK1, HO_5, HB⟩ := hrel
  cases gk with
  | zero => exact absurd HA.out (by simp [impl_at.l0])
  | succ k1 =>
   have H := HA.out
   clear HA
   simp only [impl_at.l0] at H
   by_cases c5 : x11_1 < (l1.length : Int)
   · rw [if_pos c5] at H
     have c5b0 : decide (x11_1 < (l1.length : Int)) = true := decide_eq_true c5
     clear c5
     by_cases c6 : 0 ≤ x11_1
     · rw [if_pos c6] at H
       have c6b0 : decide (0 ≤ x11_1) = true := decide_eq_true c6
       clear c6
       by_cases c7 : x11_1 < (l1.length : Int)
       · rw [if_pos c7] at H
         have c7b0 : decide (x11_1 < (l1.length : Int)) = true := decide_eq_true c7
         clear c7
         by_cases c8 : 0 ≤ (rd l1 x11_1)
         · rw [if_pos c8] at H
           have c8b0 : decide (0 ≤ (rd l1 x11_1)) = true := decide_eq_true c8
           clear c8
           by_cases c9 : (rd l1 x11_1) < (l0.length : Int)
           · rw [if_pos c9] at H
             have c9b0 : decide ((rd l1 x11_1) < (l0.length : Int)) = true := decide_eq_true c9
             clear c9
             by_cases c10 : x5_1.length < 17592186044416
             · rw [if_pos c10] at H
               have LMc10 := Aside0.mk c10
               clear c10
               obtain ⟨y314, hy314⟩ : ∃ y_ : List Int, y_ = (x5_1 ++ [rd l0 (rd l1 x11_1)]) := ⟨_, rfl⟩
               replace H : (impl_at.l0 k1 l0 y314 l1 (l1.length : Int) (wrap64 (x11_1 + 1))) = some r := by first | (rw [hy314]; with_reducible exact H) | (have H2_ := (Option.bind_some _ _).symm.trans H; rw [hy314]; with_reducible exact H2_) | (have H2_ := (Option.bind_some _ _).symm.trans H; with_reducible exact H2_) | with_reducible exact H | (rw [hy314]; exact H) | exact H
               have Ny314 := Aside0.mk hy314
               clear hy314
               have H' := Aside0.mk H
               clear H
               have p312 : 0 ≤ (x11_1 : Int) := of_decide_eq_true aS
               have q312 : x11_1 < (l1.length : Int) := of_decide_eq_true aS
               obtain ⟨ad312, e312, hx312_0⟩ := Kd.at_int HR1.out x11_1 p312 q312
               cases e312
               replace hx312_0 := (HB.out.cell (World.block_lt_of_cell? w _ hx312_0)).trans hx312_0
               replace p312 := eq_true p312
               replace q312 := eq_true q312
               have p313 : 0 ≤ ((rd l1 x11_1) : Int) := of_decide_eq_true aS
               have q313 : (rd l1 x11_1) < (l0.length : Int) := of_decide_eq_true aS
               obtain ⟨ad313, e313, hx313_0⟩ := Kd.at_int HR0.out (rd l1 x11_1) p313 q313
               cases e313
               replace hx313_0 := (HB.out.cell (World.block_lt_of_cell? w _ hx313_0)).trans hx313_0
               replace p313 := eq_true p313
               replace q313 := eq_true q313
               go_wp2_with (first | ((with_reducible refine gate_builtin (b := .append) (xs := #[.tmp 15, .tmp 20]) rfl ?_); at_builtin; refine Kd.R_append (Kd.int .i64) (w0 := w) w.heap.size rfl (.tmp 15) (.tmp 20) 22 3 (.int .i64 0) 8 rfl Try.underlying22 info3 rfl (by decide) (by omega) u5 x5_1 (rd l0 (rd l1 x11_1)) [.int .i64 (rd l0 (rd l1 x11_1))] (fun _ => True) (fun _ => False) rfl rfl ?aP (fun _ hk => hk.elim) ?aF ?aO ?aB ?aS ?aL ?_; (case aP => exact rfl); (case aB => exact (bB HB)); (case aF => exact (fun _ _ => trivial)); (case aO => exact (pR HO_5)); (case aS => exact (below_size (bB HB))); (case aL => have := LMc10.out; omega); intro v315 w11 ho hb hg hat; rw [← Ny314.out] at ho; have n0_ := Aside0.mk (hb); have n1_ := Aside0.mk (ho); clear HB; clear HO_5; have HB := n0_; have HO316 := n1_; clear n0_ n1_; clear ho hb hg hat))
               go_roundg k1
               case measure => have := HK1.out; omega
               case rel => exact ⟨(y314), (wrap64 (x11_1 + 1)), rD, H', ⟨by have := HK1.out; omega⟩, ⟨pR HO316⟩, ⟨bB HB⟩⟩
             · rw [if_neg c10] at H
               exact absurd H (by simp)
           · rw [if_neg c9] at H
             exact absurd H (by simp)
         · rw [if_neg c8] at H
           exact absurd H (by simp)
       · rw [if_neg c7] at H
         exact absurd H (by simp)
     · rw [if_neg c6] at H
       exact absurd H (by simp)
   · rw [if_neg c5] at H
     have c5b0 : decide (x11_1 < (l1.length : Int)) = false := decide_eq_false c5
     clear c5
     obtain rfl := Option.some.inj H
     go_wp2
     go_ret
     exact ⟨_, eW, by (with_reducible repeat (first | apply Kd.R_alloc | apply Kd.R_drewN | apply Kd.R_drew)); exact HO_5.out, bB HB⟩

/-! ### impl_total: function 101 -/
def impl_total.l0 : Nat → Int → List Int → Int → Int → Option (Int)
 | 0, _, _, _, _ => none
 | k + 1, x3, x6, x7, x8 => if x8 < x7 then (if 0 ≤ x8 then (if x8 < (x6.length : Int) then (impl_total.l0 k (wrap64 (x3 + (rd x6 x8))) x6 x7 (wrap64 (x8 + 1))) else (none)) else (none)) else (some x3)
def impl_total.f (k : Nat) (l0 : List Int) : Option (Int) := impl_total.l0 k 0 l0 (l0.length : Int) 0
set_option maxHeartbeats 8000000 in
set_option maxRecDepth 100000 in
theorem impl_total.calls (k : Nat) (A0 : Option Addr) (c0 : Nat) (l0 : List Int) (r : Int) (w : World) (hr0 : Kd.C (Kd.int .i64) w A0 l0.length l0) (hc0 : l0.length ≤ c0) (h : impl_total.f k l0 = some r) :
 Calls Try.prog 101 #[.slice A0 l0.length c0] w fun e w' => e = .returned (.int .i64 r) ∧ Drawn0 w w' := by
 have HR0 := Aside0.mk hr0
 have HC0 := Aside0.mk hc0
 clear hr0 hc0
 have H : (impl_total.l0 k 0 l0 (l0.length : Int) 0) = some r := h
 clear h
 have H' := Aside0.mk H
 clear H
 go_enter Try.func101, Try.ntmps101
 go_wp2
 go_loopg [3, 8] k (fun kq v3 v8 w' => ∃ (x3_1 : Int) (x8_1 : Int), v3 = .int .i64 x3_1 ∧ v8 = .int .i64 x8_1 ∧ Aside0 (impl_total.l0 kq x3_1 l0 (l0.length : Int) x8_1 = some r) ∧ Aside0 (kq ≤ k) ∧ Drawn0 w w')
 case atStart => exact ⟨(0), (0), rD, rD, H', ⟨Nat.le_refl _⟩, by repeat (first | exact Drawn0.refl _ | apply Drawn0.step)⟩
 case round =>
  clear H'
  try clear c1
  obtain ⟨x3_1, x8_1, rfl, rfl, HA, HK1, ⟨m1, rfl⟩⟩ := hrel
  cases gk with
  | zero => exact absurd HA.out (by simp [impl_total.l0])
  | succ k1 =>
   have H := HA.out
   clear HA
   simp only [impl_total.l0] at H
   by_cases c2 : x8_1 < (l0.length : Int)
   · rw [if_pos c2] at H
     have c2b0 : decide (x8_1 < (l0.length : Int)) = true := decide_eq_true c2
     clear c2
     by_cases c3 : 0 ≤ x8_1
     · rw [if_pos c3] at H
       have c3b0 : decide (0 ≤ x8_1) = true := decide_eq_true c3
       clear c3
       by_cases c4 : x8_1 < (l0.length : Int)
       · rw [if_pos c4] at H
         have c4b0 : decide (x8_1 < (l0.length : Int)) = true := decide_eq_true c4
         clear c4
         have H' := Aside0.mk H
         clear H
         have p317 : 0 ≤ (x8_1 : Int) := of_decide_eq_true aS
         have q317 : x8_1 < (l0.length : Int) := of_decide_eq_true aS
         obtain ⟨ad317, e317, hx317_0⟩ := Kd.at_int HR0.out x8_1 p317 q317
         cases e317
         replace p317 := eq_true p317
         replace q317 := eq_true q317
         go_wp2
         go_roundg k1
         case measure => have := HK1.out; omega
         case rel => exact ⟨(wrap64 (x3_1 + (rd l0 x8_1))), (wrap64 (x8_1 + 1)), rD, rD, H', ⟨by have := HK1.out; omega⟩, by repeat (first | exact Drawn0.refl _ | apply Drawn0.step)⟩
       · rw [if_neg c4] at H
         exact absurd H (by simp)
     · rw [if_neg c3] at H
       exact absurd H (by simp)
   · rw [if_neg c2] at H
     have c2b0 : decide (x8_1 < (l0.length : Int)) = false := decide_eq_false c2
     clear c2
     obtain rfl := Option.some.inj H
     go_wp2
     go_ret
     exact ⟨rD, by repeat (first | exact Drawn0.refl _ | apply Drawn0.step)⟩

/-! ### impl_product: function 162 -/
def impl_product.l0 : Nat → List Int → Int → List Int → Int → Int → Option (Int)
 | 0, _, _, _, _, _ => none
 | k + 1, x1, x5, x8, x9, x10 => if x10 < x9 then (if 0 ≤ x10 then (if x10 < (x8.length : Int) then (if x10 < (x1.length : Int) then (impl_product.l0 k x1 (wrap64 (x5 + (wrap64 ((rd x8 x10) * (rd x1 x10))))) x8 x9 (wrap64 (x10 + 1))) else (none)) else (none)) else (none)) else (some x5)
def impl_product.f (k : Nat) (l0 : List Int) (l1 : List Int) : Option (Int) := impl_product.l0 k l1 0 l0 (l0.length : Int) 0
set_option maxHeartbeats 8000000 in
set_option maxRecDepth 100000 in
theorem impl_product.calls (k : Nat) (A0 : Option Addr) (c0 : Nat) (l0 : List Int) (A1 : Option Addr) (c1 : Nat) (l1 : List Int) (r : Int) (w : World) (hr0 : Kd.C (Kd.int .i64) w A0 l0.length l0) (hc0 : l0.length ≤ c0) (hr1 : Kd.C (Kd.int .i64) w A1 l1.length l1) (hc1 : l1.length ≤ c1) (h : impl_product.f k l0 l1 = some r) :
 Calls Try.prog 162 #[.slice A0 l0.length c0, .slice A1 l1.length c1] w fun e w' => e = .returned (.int .i64 r) ∧ Drawn0 w w' := by
 have HR0 := Aside0.mk hr0
 have HC0 := Aside0.mk hc0
 clear hr0 hc0
 have HR1 := Aside0.mk hr1
 have HC1 := Aside0.mk hc1
 clear hr1 hc1
 have H : (impl_product.l0 k l1 0 l0 (l0.length : Int) 0) = some r := h
 clear h
 have H' := Aside0.mk H
 clear H
 go_enter Try.func162, Try.ntmps162
 go_wp2
 go_loopg [5, 10] k (fun kq v5 v10 w' => ∃ (x5_1 : Int) (x10_1 : Int), v5 = .int .i64 x5_1 ∧ v10 = .int .i64 x10_1 ∧ Aside0 (impl_product.l0 kq l1 x5_1 l0 (l0.length : Int) x10_1 = some r) ∧ Aside0 (kq ≤ k) ∧ Drawn0 w w')
 case atStart => exact ⟨(0), (0), rD, rD, H', ⟨Nat.le_refl _⟩, by repeat (first | exact Drawn0.refl _ | apply Drawn0.step)⟩
 case round =>
  clear H'
  try clear c1
  obtain ⟨x5_1, x10_1, rfl, rfl, HA, HK1, ⟨m1, rfl⟩⟩ := hrel
  cases gk with
  | zero => exact absurd HA.out (by simp [impl_product.l0])
  | succ k1 =>
   have H := HA.out
   clear HA
   simp only [impl_product.l0] at H
   by_cases c3 : x10_1 < (l0.length : Int)
   · rw [if_pos c3] at H
     have c3b0 : decide (x10_1 < (l0.length : Int)) = true := decide_eq_true c3
     clear c3
     by_cases c4 : 0 ≤ x10_1
     · rw [if_pos c4] at H
       have c4b0 : decide (0 ≤ x10_1) = true := decide_eq_true c4
       clear c4
       by_cases c5 : x10_1 < (l0.length : Int)
       · rw [if_pos c5] at H
         have c5b0 : decide (x10_1 < (l0.length : Int)) = true := decide_eq_true c5
         clear c5
         by_cases c6 : x10_1 < (l1.length : Int)
         · rw [if_pos c6] at H
           have c6b0 : decide (x10_1 < (l1.length : Int)) = true := decide_eq_true c6
           clear c6
           have H' := Aside0.mk H
           clear H
           have p318 : 0 ≤ (x10_1 : Int) := of_decide_eq_true aS
           have q318 : x10_1 < (l0.length : Int) := of_decide_eq_true aS
           obtain ⟨ad318, e318, hx318_0⟩ := Kd.at_int HR0.out x10_1 p318 q318
           cases e318
           replace p318 := eq_true p318
           replace q318 := eq_true q318
           have p319 : 0 ≤ (x10_1 : Int) := of_decide_eq_true aS
           have q319 : x10_1 < (l1.length : Int) := of_decide_eq_true aS
           obtain ⟨ad319, e319, hx319_0⟩ := Kd.at_int HR1.out x10_1 p319 q319
           cases e319
           replace p319 := eq_true p319
           replace q319 := eq_true q319
           go_wp2
           go_roundg k1
           case measure => have := HK1.out; omega
           case rel => exact ⟨(wrap64 (x5_1 + (wrap64 ((rd l0 x10_1) * (rd l1 x10_1))))), (wrap64 (x10_1 + 1)), rD, rD, H', ⟨by have := HK1.out; omega⟩, by repeat (first | exact Drawn0.refl _ | apply Drawn0.step)⟩
         · rw [if_neg c6] at H
           exact absurd H (by simp)
       · rw [if_neg c5] at H
         exact absurd H (by simp)
     · rw [if_neg c4] at H
       exact absurd H (by simp)
   · rw [if_neg c3] at H
     have c3b0 : decide (x10_1 < (l0.length : Int)) = false := decide_eq_false c3
     clear c3
     obtain rfl := Option.some.inj H
     go_wp2
     go_ret
     exact ⟨rD, by repeat (first | exact Drawn0.refl _ | apply Drawn0.step)⟩

end Go.Proofs.Ytfkfahdikmfpeaa.PFnExactBoostRounds
