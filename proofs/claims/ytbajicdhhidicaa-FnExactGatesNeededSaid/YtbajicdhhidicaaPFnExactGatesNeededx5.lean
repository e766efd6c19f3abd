-- Printed by wip/tools/myprint.py (the printer of the kit, patched by that program; roots chosen by it)
import Derived.Test.YtbajicdhhidicaaPFnExactGatesNeededx0
import Derived.Test.YtbajicdhhidicaaPFnExactGatesNeededx3
import Derived.Test.YtbajicdhhidicaaPFnExactGatesNeededx4
import Derived.Test.YtbajicdhhidicaaSh
namespace Go.Proofs.Ytbajicdhhidicaa.PFnExactGatesNeeded
open Go.RowKit Go.Proofs.Ytbajicdhhidicaa.Sh Go.Proofs.YtbajicdhhidicaaW.PrintWords Go.Proofs.YtbajicdhhidicaaW.PrintLast Go.Proofs.YtbajicdhhidicaaW.PrintMore
attribute [local go_sem] max2_int min2_int max_two min_two max_three min_three max_four min_four   -- for this text's walks alone
set_option linter.unusedVariables false
set_option linter.unusedSimpArgs false

/-! ### spec_l9Pair: function 20 -/
mutual
def spec_l9Pair.l0 : Nat → List Int → List (List Int) → List (List Int) → Int → Option ((List (List Int)))
 | 0, _, _, _, _ => none
 | k + 1, x1, x5, x6, x7 => if x7 < (x5.length : Int) then (spec_l9Pair.l1 k x1 x5 x6 x7 0) else (some (([] : List (List Int))))
def spec_l9Pair.l1 : Nat → List Int → List (List Int) → List (List Int) → Int → Int → Option ((List (List Int)))
 | 0, _, _, _, _, _ => none
 | k + 1, x1, x5, x6, x7, x8 => if x8 < (x5.length : Int) then (spec_l9Pair.l2 k x1 x5 x6 x7 x8 0) else (spec_l9Pair.l0 k x1 x5 x6 (wrap64 (x7 + 1)))
def spec_l9Pair.l2 : Nat → List Int → List (List Int) → List (List Int) → Int → Int → Int → Option ((List (List Int)))
 | 0, _, _, _, _, _, _ => none
 | k + 1, x1, x5, x6, x7, x8, x9 => if x9 < (x6.length : Int) then (if 0 ≤ x7 then (if x7 < (x5.length : Int) then (if 0 ≤ x8 then (if x8 < (x5.length : Int) then (if 0 ≤ x9 then ((spec_l9Joined.f k x1 (rd_L1 x5 x7) (rd_L1 x5 x8) (rd_L1 x6 x9)).bind fun t170 => (if t170 = true then ((spec_l1Own.f (rd_L1 x5 x7)).bind fun t172 => ((spec_l1Own.f (rd_L1 x5 x8)).bind fun t176 => (some (([t172, t176, rd_L1 x6 x9] : List (List Int)))))) else (spec_l9Pair.l2 k x1 x5 x6 x7 x8 (wrap64 (x9 + 1))))) else (none)) else (none)) else (none)) else (none)) else (none)) else (spec_l9Pair.l1 k x1 x5 x6 x7 (wrap64 (x8 + 1)))
end
def spec_l9Pair.f (k : Nat) (a0 : Int) (l1 : List Int) : Option ((List (List Int))) := (spec_l9Thresholds.f k a0).bind fun t158 => ((spec_l9Thresholds.f k 2).bind fun t161 => (spec_l9Pair.l0 k l1 t158 t161 0))
def spec_l9Pair.T11 : Bool × List (List Nat × List Nat) := (true, [([], []), ([], []), ([], []), ([1, 2], [1, 2]), ([3], [3]), ([], []), ([], []), ([5, 6], [5, 6]), ([7], [7]), ([], []), ([], []), ([9, 10], [9, 10]), ([11], [11]), ([0, 4, 8, 12], [0, 4, 8, 12])])
def spec_l9Pair.B11 : List Nat := [0, 0, 0, 6, 14, 0, 0, 96, 224, 0, 0, 1536, 3584, 8191]
theorem spec_l9Pair.tab11 : rtab .any (opsOf Try.f20 11) = spec_l9Pair.T11 := by kernel_rfl
theorem spec_l9Pair.bits11 : waitsOk spec_l9Pair.T11.2 spec_l9Pair.B11 = true := by kernel_rfl
def spec_l9Pair.T12 : Bool × List (List Nat × List Nat) := (true, [([], []), ([], []), ([0, 1], [0, 1]), ([2], [2]), ([3], [3]), ([], []), ([], []), ([5, 6], [5, 6]), ([7], [7]), ([8, 4], [8]), ([], []), ([], []), ([10, 11], [10, 11]), ([12], [12]), ([4, 9, 13], [4, 9, 13]), ([14, 9, 0, 1, 2, 3, 4, 5, 6, 7, 8, 9, 10, 11, 12, 13, 14], [14])])
def spec_l9Pair.B12 : List Nat := [0, 0, 3, 7, 15, 0, 0, 96, 224, 511, 0, 0, 3072, 7168, 16383, 32767]
theorem spec_l9Pair.tab12 : rtab .any (opsOf Try.f20 12) = spec_l9Pair.T12 := by kernel_rfl
theorem spec_l9Pair.bits12 : waitsOk spec_l9Pair.T12.2 spec_l9Pair.B12 = true := by kernel_rfl
set_option maxHeartbeats 8000000 in
set_option maxRecDepth 100000 in
theorem spec_l9Pair.calls (k : Nat) (a0 : Int) (A1 : Option Addr) (c1 : Nat) (l1 : List Int) (r : List (List Int)) (w : World) (hr1 : Kd.C (Kd.int .i64) w A1 l1.length l1) (hc1 : l1.length ≤ c1) (h : spec_l9Pair.f k a0 l1 = some r) :
 Calls Try.prog 20 #[.int .i64 a0, .slice A1 l1.length c1] w fun e w' => ∃ v0_ : Value, e = .returned (v0_) ∧ Kd.N (Kd.slice 3 (Kd.int .i64)) 22 w' w.heap.size (fun k_ => (w.heap.size ≤ k_)) v0_ r ∧ Below w.heap.size w w' := by
 have HR1 := Aside0.mk hr1
 have HC1 := Aside0.mk hc1
 clear hr1 hc1
 have HB := Aside0.mk (Below.refl w.heap.size w)
 have H : ((spec_l9Thresholds.f k a0).bind fun t158 => ((spec_l9Thresholds.f k 2).bind fun t161 => (spec_l9Pair.l0 k l1 t158 t161 0))) = some r := h
 clear h
 replace H := Option.bind_eq_some_iff.mp H
 obtain ⟨t158, A30, H⟩ := H
 replace H : ((spec_l9Thresholds.f k 2).bind fun t161 => (spec_l9Pair.l0 k l1 t158 t161 0)) = some r := H
 have A3 := Aside0.mk A30
 clear A30
 replace H := Option.bind_eq_some_iff.mp H
 obtain ⟨t161, A40, H⟩ := H
 replace H : (spec_l9Pair.l0 k l1 t158 t161 0) = some r := H
 have A4 := Aside0.mk A40
 clear A40
 have H' := Aside0.mk H
 clear H
 go_enter Try.func20, Try.ntmps20
 go_wp2_with (first | ((with_reducible refine gate_callee (f := 36) rfl ?_); refine goesL_ (some 11) rfl rfl Try.func36 (by kernel_rfl) rfl #[.int .i64 a0] rfl aT ?_; (with_reducible refine (spec_l9Thresholds.calls k a0 t158 _ A3.out).mono ?_); rintro e w5 ⟨v159, rfl, ho0, hb⟩; refine ⟨_, rfl, ?_⟩; have n0_ := Aside0.mk (Kd.N_lower (Kd.N_mono (ok' := fun k_ => (w.heap.size ≤ k_)) (Kd.S_N (Kd.S_bound ho0)) (fun k_ hk_ => (Nat.le_trans (below_size (bB HB)) hk_.2.1))) (below_size (bB HB))); have n1_ := Aside0.mk (below_step (bB HB) hb); clear HB; have HO160 := n0_; have HB := n1_; clear n0_ n1_; (try clear hb); (try clear hb2); (try clear hk); (try clear hi); (try clear ho0)) | ((with_reducible refine gate_callee (f := 36) rfl ?_); refine goesL_ (some 12) rfl rfl Try.func36 (by kernel_rfl) rfl #[.int .i64 2] rfl aT ?_; (with_reducible refine (spec_l9Thresholds.calls k 2 t161 _ A4.out).mono ?_); rintro e w6 ⟨v162, rfl, ho0, hb⟩; refine ⟨_, rfl, ?_⟩; have n0_ := Aside0.mk (Kd.N_elder' (pN HO160) (Kd.S_base ho0) hb); have n1_ := Aside0.mk (Kd.N_lower (Kd.N_mono (ok' := fun k_ => (w.heap.size ≤ k_) ∧ some k_ ≠ (v159 : Value).ownBlock) (Kd.S_N (Kd.S_bound ho0)) (fun k_ hk_ => ⟨(Nat.le_trans (below_size (bB HB)) hk_.2.1), (Kd.fresh' (Kd.N_lt (pN HO160)) k_ hk_.2.1)⟩)) (below_size (bB HB))); have n2_ := Aside0.mk (below_step (bB HB) hb); clear HO160; clear HB; have HO160 := n0_; have HO163 := n1_; have HB := n2_; clear n0_ n1_ n2_; (try clear hb); (try clear hb2); (try clear hk); (try clear hi); (try clear ho0)))
 go_loopg [7] k (fun kq v7 w' => ∃ (x7_1 : Int), v7 = .int .i64 x7_1 ∧ Aside0 (spec_l9Pair.l0 kq l1 t158 t161 x7_1 = some r) ∧ Aside0 (kq ≤ k) ∧ Aside0 (Kd.N (Kd.slice 3 (Kd.int .i64)) 22 w' w.heap.size (fun k_ => (w.heap.size ≤ k_) ∧ some k_ ≠ (v162 : Value).ownBlock) v159 t158) ∧ Aside0 (Kd.N (Kd.slice 3 (Kd.int .i64)) 22 w' w.heap.size (fun k_ => (w.heap.size ≤ k_) ∧ some k_ ≠ (v159 : Value).ownBlock) v162 t161) ∧ Aside0 (Below w.heap.size w w'))
 case atStart => exact ⟨(0), rD, H', ⟨Nat.le_refl _⟩, ⟨pN HO160⟩, ⟨pN HO163⟩, ⟨bB HB⟩⟩
 case round =>
  clear H'
  try clear c1
  obtain ⟨x7_1, rfl, HA, HK1, HO_5, HO_6, HB⟩ := hrel
  cases gk with
  | zero => exact absurd HA.out (by simp [spec_l9Pair.l0])
  | succ k1 =>
   have H := HA.out
   clear HA
   simp only [spec_l9Pair.l0] at H
   by_cases c7 : x7_1 < (t158.length : Int)
   · rw [if_pos c7] at H
     have c7b0 : decide (x7_1 < (t158.length : Int)) = true := decide_eq_true c7
     clear c7
     have H' := Aside0.mk H
     clear H
     obtain ⟨Ao8, co8, eo8⟩ := Kd.N_slice HO_5.out
     subst eo8
     go_wp2
     go_loopg [8] k1 (fun kq v8 w' => ∃ (x8_2 : Int), v8 = .int .i64 x8_2 ∧ Aside0 (spec_l9Pair.l1 kq l1 t158 t161 x7_1 x8_2 = some r) ∧ Aside0 (kq ≤ k1) ∧ Aside0 (Kd.N (Kd.slice 3 (Kd.int .i64)) 22 w' w.heap.size (fun k_ => (w.heap.size ≤ k_) ∧ some k_ ≠ (v162 : Value).ownBlock) (.slice Ao8 t158.length co8) t158) ∧ Aside0 (Kd.N (Kd.slice 3 (Kd.int .i64)) 22 w' w.heap.size (fun k_ => (w.heap.size ≤ k_) ∧ some k_ ≠ ((.slice Ao8 t158.length co8) : Value).ownBlock) v162 t161) ∧ Aside0 (Below w.heap.size w w'))
     case atStart => exact ⟨(0), rD, H', ⟨Nat.le_refl _⟩, ⟨pN HO_5⟩, ⟨pN HO_6⟩, ⟨bB HB⟩⟩
     case round =>
      clear H'
      try clear c1
      try clear c7
      try clear c7b0
      obtain ⟨x8_2, rfl, HA, HK2, HO_5, HO_6, HB⟩ := hrel
      cases gk with
      | zero => exact absurd HA.out (by simp [spec_l9Pair.l1])
      | succ k2 =>
       have H := HA.out
       clear HA
       simp only [spec_l9Pair.l1] at H
       by_cases c9 : x8_2 < (t158.length : Int)
       · rw [if_pos c9] at H
         have c9b0 : decide (x8_2 < (t158.length : Int)) = true := decide_eq_true c9
         clear c9
         have H' := Aside0.mk H
         clear H
         go_wp2
         go_loopg [9] k2 (fun kq v9 w' => ∃ (x9_3 : Int), v9 = .int .i64 x9_3 ∧ Aside0 (spec_l9Pair.l2 kq l1 t158 t161 x7_1 x8_2 x9_3 = some r) ∧ Aside0 (kq ≤ k2) ∧ Aside0 (Kd.N (Kd.slice 3 (Kd.int .i64)) 22 w' w.heap.size (fun k_ => (w.heap.size ≤ k_) ∧ some k_ ≠ (v162 : Value).ownBlock) (.slice Ao8 t158.length co8) t158) ∧ Aside0 (Kd.N (Kd.slice 3 (Kd.int .i64)) 22 w' w.heap.size (fun k_ => (w.heap.size ≤ k_) ∧ some k_ ≠ ((.slice Ao8 t158.length co8) : Value).ownBlock) v162 t161) ∧ Aside0 (Below w.heap.size w w'))
         case atStart => exact ⟨(0), rD, H', ⟨Nat.le_refl _⟩, ⟨pN HO_5⟩, ⟨pN HO_6⟩, ⟨bB HB⟩⟩
         case round =>
          clear H'
          try clear c1
          try clear c7
          try clear c7b0
          try clear c9
          try clear c9b0
          obtain ⟨x9_3, rfl, HA, HK3, HO_5, HO_6, HB⟩ := hrel
          cases gk with
          | zero => exact absurd HA.out (by simp [spec_l9Pair.l2])
          | succ k3 =>
           have H := HA.out
           clear HA
           simp only [spec_l9Pair.l2] at H
           by_cases c10 : x9_3 < (t161.length : Int)
           · rw [if_pos c10] at H
             have c10b0 : decide (x9_3 < (t161.length : Int)) = true := decide_eq_true c10
             clear c10
             by_cases c11 : 0 ≤ x7_1
             · rw [if_pos c11] at H
               have c11b0 : decide (0 ≤ x7_1) = true := decide_eq_true c11
               clear c11
               by_cases c12 : x7_1 < (t158.length : Int)
               · rw [if_pos c12] at H
                 have c12b0 : decide (x7_1 < (t158.length : Int)) = true := decide_eq_true c12
                 clear c12
                 by_cases c13 : 0 ≤ x8_2
                 · rw [if_pos c13] at H
                   have c13b0 : decide (0 ≤ x8_2) = true := decide_eq_true c13
                   clear c13
                   by_cases c14 : x8_2 < (t158.length : Int)
                   · rw [if_pos c14] at H
                     have c14b0 : decide (x8_2 < (t158.length : Int)) = true := decide_eq_true c14
                     clear c14
                     by_cases c15 : 0 ≤ x9_3
                     · rw [if_pos c15] at H
                       have c15b0 : decide (0 ≤ x9_3) = true := decide_eq_true c15
                       clear c15
                       replace H := Option.bind_eq_some_iff.mp H
                       obtain ⟨t170, A160, H⟩ := H
                       replace H : (if t170 = true then ((spec_l1Own.f (rd_L1 t158 x7_1)).bind fun t172 => ((spec_l1Own.f (rd_L1 t158 x8_2)).bind fun t176 => (some (([t172, t176, rd_L1 t161 x9_3] : List (List Int)))))) else (spec_l9Pair.l2 k3 l1 t158 t161 x7_1 x8_2 (wrap64 (x9_3 + 1)))) = some r := H
                       have A16 := Aside0.mk A160
                       clear A160
                       by_cases c17 : t170 = true
                       · subst c17
                         have H1 : ((spec_l1Own.f (rd_L1 t158 x7_1)).bind fun t172 => ((spec_l1Own.f (rd_L1 t158 x8_2)).bind fun t176 => (some (([t172, t176, rd_L1 t161 x9_3] : List (List Int)))))) = some r := by rw [if_pos rfl] at H; exact H
                         clear H
                         have H := H1
                         clear H1
                         replace H := Option.bind_eq_some_iff.mp H
                         obtain ⟨t172, A180, H⟩ := H
                         replace H : ((spec_l1Own.f (rd_L1 t158 x8_2)).bind fun t176 => (some (([t172, t176, rd_L1 t161 x9_3] : List (List Int))))) = some r := H
                         have A18 := Aside0.mk A180
                         clear A180
                         replace H := Option.bind_eq_some_iff.mp H
                         obtain ⟨t176, A190, H⟩ := H
                         replace H : (some (([t172, t176, rd_L1 t161 x9_3] : List (List Int)))) = some r := H
                         have A19 := Aside0.mk A190
                         clear A190
                         obtain ⟨y180, hy180⟩ : ∃ y_ : List (List Int), y_ = (([t172, t176, rd_L1 t161 x9_3] : List (List Int))) := ⟨_, rfl⟩
                         replace H : (some y180) = some r := by first | (rw [hy180]; with_reducible exact H) | (have H2_ := (Option.bind_some _ _).symm.trans H; rw [hy180]; with_reducible exact H2_) | (have H2_ := (Option.bind_some _ _).symm.trans H; with_reducible exact H2_) | with_reducible exact H | (rw [hy180]; exact H) | exact H
                         have Ny180 := Aside0.mk hy180
                         clear hy180
                         obtain rfl := Option.some.inj H
                         obtain ⟨Ao20, co20, eo20⟩ := Kd.N_slice HO_6.out
                         subst eo20
                         try go_wp2
                         have n0_ := Aside0.mk (Kd.N_drew HO_5.out)
                         have n1_ := Aside0.mk (Kd.N_drew HO_6.out)
                         have n2_ := Aside0.mk (below_drew1 HB.out)
                         clear HO_5
                         clear HO_6
                         clear HB
                         have HO_5 := n0_
                         have HO_6 := n1_
                         have HB := n2_
                         clear n0_ n1_ n2_
                         have p167 : 0 ≤ (x7_1 : Int) := of_decide_eq_true aS
                         have q167 : x7_1 < (t158.length : Int) := of_decide_eq_true aS
                         obtain ⟨ad167, A167_0, c167_0, e167, hx167_0, hl167_0, hi167_0⟩ := at_L1 (Kd.N_reads' HO_5.out).2.2 x7_1 p167 q167
                         cases e167
                         obtain ⟨ce167, hce167, hMe167, hcc167⟩ := Kd.N_get HO_5.out [] x7_1 p167 (by first | exact q167 | exact of_decide_eq_true aS | (have e_ := (Kd.N_reads' HO_5.out).1; omega))
                         obtain ⟨ua167_0, uc167_0, rfl, ul167_0, ge167_0⟩ := Kd.FK_slice_open hMe167
                         have hv167_0 := hcc167 0 _ rfl
                         rw [Nat.add_zero, show ((Kd.slice 3 (Kd.int .i64))).sz = 1 from rfl, Nat.mul_one] at hv167_0
                         replace hv167_0 := Option.some.inj (hv167_0.symm.trans hx167_0)
                         injection hv167_0 with hva_ hvn_ hvc_
                         rw [hva_] at ge167_0
                         rw [hvc_] at ul167_0
                         have HL167_0 := Aside0.mk (show Kd.V (Kd.int .i64) 3 _ w.heap.size _ _ (rd_L1 t158 x7_1) from Kd.V_mk ul167_0 ge167_0)
                         clear hva_ hvn_ hvc_ ge167_0 ul167_0
                         clear hcc167 hce167
                         have HR167_0 := Aside0.mk hi167_0
                         have HC167_0 := Aside0.mk hl167_0
                         clear hi167_0 hl167_0
                         replace p167 := eq_true p167
                         replace q167 := eq_true q167
                         have p168 : 0 ≤ (x8_2 : Int) := of_decide_eq_true aS
                         have q168 : x8_2 < (t158.length : Int) := of_decide_eq_true aS
                         obtain ⟨ad168, A168_0, c168_0, e168, hx168_0, hl168_0, hi168_0⟩ := at_L1 (Kd.N_reads' HO_5.out).2.2 x8_2 p168 q168
                         obtain rfl : ad167 = ad168 := (by injection e168)
                         obtain ⟨ce168, hce168, hMe168, hcc168⟩ := Kd.N_get HO_5.out [] x8_2 p168 (by first | exact q168 | exact of_decide_eq_true aS | (have e_ := (Kd.N_reads' HO_5.out).1; omega))
                         obtain ⟨ua168_0, uc168_0, rfl, ul168_0, ge168_0⟩ := Kd.FK_slice_open hMe168
                         have hv168_0 := hcc168 0 _ rfl
                         rw [Nat.add_zero, show ((Kd.slice 3 (Kd.int .i64))).sz = 1 from rfl, Nat.mul_one] at hv168_0
                         replace hv168_0 := Option.some.inj (hv168_0.symm.trans hx168_0)
                         injection hv168_0 with hva_ hvn_ hvc_
                         rw [hva_] at ge168_0
                         rw [hvc_] at ul168_0
                         have HL168_0 := Aside0.mk (show Kd.V (Kd.int .i64) 3 _ w.heap.size _ _ (rd_L1 t158 x8_2) from Kd.V_mk ul168_0 ge168_0)
                         clear hva_ hvn_ hvc_ ge168_0 ul168_0
                         clear hcc168 hce168
                         have HR168_0 := Aside0.mk hi168_0
                         have HC168_0 := Aside0.mk hl168_0
                         clear hi168_0 hl168_0
                         replace p168 := eq_true p168
                         replace q168 := eq_true q168
                         have p169 : 0 ≤ (x9_3 : Int) := of_decide_eq_true aS
                         have q169 : x9_3 < (t161.length : Int) := of_decide_eq_true aS
                         obtain ⟨ad169, A169_0, c169_0, e169, hx169_0, hl169_0, hi169_0⟩ := at_L1 (Kd.N_reads' HO_6.out).2.2 x9_3 p169 q169
                         cases e169
                         obtain ⟨ce169, hce169, hMe169, hcc169⟩ := Kd.N_get HO_6.out [] x9_3 p169 (by first | exact q169 | exact of_decide_eq_true aS | (have e_ := (Kd.N_reads' HO_6.out).1; omega))
                         obtain ⟨ua169_0, uc169_0, rfl, ul169_0, ge169_0⟩ := Kd.FK_slice_open hMe169
                         have hv169_0 := hcc169 0 _ rfl
                         rw [Nat.add_zero, show ((Kd.slice 3 (Kd.int .i64))).sz = 1 from rfl, Nat.mul_one] at hv169_0
                         replace hv169_0 := Option.some.inj (hv169_0.symm.trans hx169_0)
                         injection hv169_0 with hva_ hvn_ hvc_
                         rw [hva_] at ge169_0
                         rw [hvc_] at ul169_0
                         have HL169_0 := Aside0.mk (show Kd.V (Kd.int .i64) 3 _ w.heap.size _ _ (rd_L1 t161 x9_3) from Kd.V_mk ul169_0 ge169_0)
                         clear hva_ hvn_ hvc_ ge169_0 ul169_0
                         clear hcc169 hce169
                         have HR169_0 := Aside0.mk hi169_0
                         have HC169_0 := Aside0.mk hl169_0
                         clear hi169_0 hl169_0
                         replace p169 := eq_true p169
                         replace q169 := eq_true q169
                         refine start_ (n := 14) (S := fun w' => w'.cell? (ad167.add (x7_1).toNat) = some (.slice A167_0 (rd_L1 t158 x7_1).length c167_0) ∧ w'.cell? (ad167.add (x8_2).toNat) = some (.slice A168_0 (rd_L1 t158 x8_2).length c168_0) ∧ w'.cell? (ad169.add (x9_3).toNat) = some (.slice A169_0 (rd_L1 t161 x9_3).length c169_0)) (ds := []) #[false, false, false, false, false, false, false, false, false, false, false, false, false, false] (by kernel_rfl) rfl rfl ⟨hx167_0, hx168_0, hx169_0⟩ (fun hHeld => ?_); refine with_tabW spec_l9Pair.tab11 spec_l9Pair.bits11 (fun HT_ HW_ => ?_)
                         generalize wr.drew = w21 at HO_5 HO_6 HB HL167_0 HL168_0 HL169_0 HR167_0 HR168_0 HR169_0 hx167_0 hx168_0 hx169_0 hHeld ⊢
                         refine pure_ (i := 0) (N := some 31) (v := ?_) (a' := ?_) #[true, false, false, false, false, false, false, false, false, false, false, false, false, false] rfl rfl (any_of HT_.out (by kernel_rfl)) (fun _ _ _ h => h) (Or.inl ⟨by rfl, ?_⟩) ?_ ?_
                         rotate_left
                         · intro w'
                           go_simp
                           with_reducible rfl
                         rotate_left
                         · exact aP
                         refine pure_ (i := 1) (N := some 32) (v := ?_) (a' := ?_) #[true, true, false, false, false, false, false, false, false, false, false, false, false, false] rfl rfl (any_of HT_.out (by kernel_rfl)) (fun _ _ _ h => h) (Or.inl ⟨by rfl, ?_⟩) ?_ ?_
                         rotate_left
                         · intro w'
                           go_simp
                           with_reducible rfl
                         rotate_left
                         · exact aP
                         refine pure_ (i := 2) (N := some 33) (v := ?_) (a' := ?_) #[true, true, true, false, false, false, false, false, false, false, false, false, false, false] rfl rfl (any_of HT_.out (by kernel_rfl)) (fun _ _ _ h => h) (Or.inl ⟨by rfl, ?_⟩) ?_ ?_
                         rotate_left
                         · intro w'
                           go_simp
                           with_reducible rfl
                         rotate_left
                         · exact aP
                         refine pure_ (i := 3) (N := some 34) (v := ?_) (a' := ?_) #[true, true, true, true, false, false, false, false, false, false, false, false, false, false] rfl rfl (any_of HT_.out (by kernel_rfl)) (fun _ _ _ h => h) (Or.inl ⟨by rfl, ?_⟩) ?_ ?_
                         rotate_left
                         · intro w'
                           go_simp
                           with_reducible rfl
                         rotate_left
                         · exact aP
                         refine pure_ (i := 5) (N := some 36) (v := ?_) (a' := ?_) #[true, true, true, true, false, true, false, false, false, false, false, false, false, false] rfl rfl (any_of HT_.out (by kernel_rfl)) (fun _ _ _ h => h) (Or.inl ⟨by rfl, ?_⟩) ?_ ?_
                         rotate_left
                         · intro w'
                           go_simp
                           with_reducible rfl
                         rotate_left
                         · exact aP
                         refine pure_ (i := 6) (N := some 37) (v := ?_) (a' := ?_) #[true, true, true, true, false, true, true, false, false, false, false, false, false, false] rfl rfl (any_of HT_.out (by kernel_rfl)) (fun _ _ _ h => h) (Or.inl ⟨by rfl, ?_⟩) ?_ ?_
                         rotate_left
                         · intro w'
                           go_simp
                           with_reducible rfl
                         rotate_left
                         · exact aP
                         refine pure_ (i := 7) (N := some 38) (v := ?_) (a' := ?_) #[true, true, true, true, false, true, true, true, false, false, false, false, false, false] rfl rfl (any_of HT_.out (by kernel_rfl)) (fun _ _ _ h => h) (Or.inl ⟨by rfl, ?_⟩) ?_ ?_
                         rotate_left
                         · intro w'
                           go_simp
                           with_reducible rfl
                         rotate_left
                         · exact aP
                         refine pure_ (i := 9) (N := some 40) (v := ?_) (a' := ?_) #[true, true, true, true, false, true, true, true, false, true, false, false, false, false] rfl rfl (any_of HT_.out (by kernel_rfl)) (fun _ _ _ h => h) (Or.inl ⟨by rfl, ?_⟩) ?_ ?_
                         rotate_left
                         · intro w'
                           go_simp
                           with_reducible rfl
                         rotate_left
                         · exact aP
                         refine pure_ (i := 10) (N := some 41) (v := ?_) (a' := ?_) #[true, true, true, true, false, true, true, true, false, true, true, false, false, false] rfl rfl (any_of HT_.out (by kernel_rfl)) (fun _ _ _ h => h) (Or.inl ⟨by rfl, ?_⟩) ?_ ?_
                         rotate_left
                         · intro w'
                           go_simp
                           with_reducible rfl
                         rotate_left
                         · exact aP
                         refine pure_ (i := 11) (N := some 42) (v := ?_) (a' := ?_) #[true, true, true, true, false, true, true, true, false, true, true, true, false, false] rfl rfl (any_of HT_.out (by kernel_rfl)) (fun _ _ _ h => h) (Or.inl ⟨by rfl, ?_⟩) ?_ ?_
                         rotate_left
                         · intro w'
                           go_simp
                           with_reducible rfl
                         rotate_left
                         · exact aP
                         refine take_ (i := 4) (N := some 35) (v := ?_) (a' := ?_) #[true, true, true, true, true, true, true, true, false, true, true, true, false, false] rfl rfl (take_ofW HT_.out HW_.out (by kernel_rfl)) (fun _ _ _ h => h) (Or.inl ⟨by rfl, ?_⟩) hHeld ?_ ?_
                         rotate_left
                         · rintro w' ⟨s0, s1, s2⟩
                           go_simp
                           with_reducible rfl
                         rotate_left
                         · exact aP
                         refine take_ (i := 8) (N := some 39) (v := ?_) (a' := ?_) #[true, true, true, true, true, true, true, true, true, true, true, true, false, false] rfl rfl (take_ofW HT_.out HW_.out (by kernel_rfl)) (fun _ _ _ h => h) (Or.inl ⟨by rfl, ?_⟩) hHeld ?_ ?_
                         rotate_left
                         · rintro w' ⟨s0, s1, s2⟩
                           go_simp
                           with_reducible rfl
                         rotate_left
                         · exact aP
                         refine take_ (i := 12) (N := some 43) (v := ?_) (a' := ?_) #[true, true, true, true, true, true, true, true, true, true, true, true, true, false] rfl rfl (take_ofW HT_.out HW_.out (by kernel_rfl)) (fun _ _ _ h => h) (Or.inl ⟨by rfl, ?_⟩) hHeld ?_ ?_
                         rotate_left
                         · rintro w' ⟨s0, s1, s2⟩
                           go_simp
                           with_reducible rfl
                         rotate_left
                         · exact aP
                         refine one_ (i := 13) (N := some 44) #[true, true, true, true, true, true, true, true, true, true, true, true, true, true] rfl rfl (one_of HT_.out (by kernel_rfl)) (by decide) (fun K hK => ?_)
                         refine goes_ Try.func37 (by kernel_rfl) rfl #[.slice A1 l1.length c1, .slice A167_0 (rd_L1 t158 x7_1).length c167_0, .slice A168_0 (rd_L1 t158 x8_2).length c168_0, .slice A169_0 (rd_L1 t161 x9_3).length c169_0] (by rfl) rfl rfl aT ?_
                         with_reducible refine (spec_l9Joined.calls k3 _ _ l1 _ _ (rd_L1 t158 x7_1) _ _ (rd_L1 t158 x8_2) _ _ (rd_L1 t161 x9_3) true _ ?side1 ?side2 ?side3 ?side4 ?side5 ?side6 ?side7 ?side8 A16.out).mono ?_
                         (case side1 => exact cB HR1 HB)
                         (case side2 => exact HC1.out)
                         (case side3 => repeat (first | exact (by repeat (first | (with_reducible exact HR167_0.out) | (with_reducible refine Kd.C_alloc ?_ _) | (with_reducible refine Kd.C_drewN ?_ _) | (with_reducible refine Kd.C_drew ?_) | exact HR167_0.out)) | (with_reducible refine Kd.C_alloc ?_ _) | (with_reducible refine Kd.C_drewN ?_ _) | (with_reducible refine Kd.C_drew ?_)))
                         (case side4 => exact HC167_0.out)
                         (case side5 => repeat (first | exact (by repeat (first | (with_reducible exact HR168_0.out) | (with_reducible refine Kd.C_alloc ?_ _) | (with_reducible refine Kd.C_drewN ?_ _) | (with_reducible refine Kd.C_drew ?_) | exact HR168_0.out)) | (with_reducible refine Kd.C_alloc ?_ _) | (with_reducible refine Kd.C_drewN ?_ _) | (with_reducible refine Kd.C_drew ?_)))
                         (case side6 => exact HC168_0.out)
                         (case side7 => repeat (first | exact (by repeat (first | (with_reducible exact HR169_0.out) | (with_reducible refine Kd.C_alloc ?_ _) | (with_reducible refine Kd.C_drewN ?_ _) | (with_reducible refine Kd.C_drew ?_) | exact HR169_0.out)) | (with_reducible refine Kd.C_alloc ?_ _) | (with_reducible refine Kd.C_drewN ?_ _) | (with_reducible refine Kd.C_drew ?_)))
                         (case side8 => exact HC169_0.out)
                         rintro e w' ⟨rfl, ⟨nd, rfl⟩⟩
                         refine ⟨_, rfl, ?_⟩
                         refine hK.out _ _ ⟨hHeld.1, hHeld.2.1, hHeld.2.2⟩ (fun hHeld => ?_)
                         clear hK K
                         refine norm_ (a' := ?_) ?_ ?_
                         rotate_left
                         · show Act.put _ (some 44) _ = _
                           simp only [Act.put, List.setIfInBounds_toArray, List.set_cons_zero, List.set_cons_succ, i64_w, i32_w]
                           rfl
                         refine done_ (done_of HT_.out (by kernel_rfl)) ?_
                         try go_wp2
                         (try (rw [drewN_self w21]; generalize hq_ : World.drewN w21 _ = w21; have n0_ : Aside0 (Kd.V (Kd.int .i64) 3 w21 w.heap.size (fun k_ => (w.heap.size ≤ k_) ∧ some k_ ≠ (.slice (some ad167) t158.length co8 : Value).ownBlock ∧ some k_ ≠ (.slice (some ad169) t161.length co20 : Value).ownBlock) (.slice A167_0 (rd_L1 t158 x7_1).length c167_0) (rd_L1 t158 x7_1)) := ⟨by rw [← hq_]; exact (by (with_reducible repeat (first | apply Kd.V_alloc | apply Kd.V_drewN | apply Kd.V_drew)); exact Kd.V_mono HL167_0.out (fun _ hk => ⟨hk.1.1, ⟨hk.2, hk.1.2⟩⟩))⟩; have n1_ : Aside0 (Kd.V (Kd.int .i64) 3 w21 w.heap.size (fun k_ => (w.heap.size ≤ k_) ∧ some k_ ≠ (.slice (some ad167) t158.length co8 : Value).ownBlock ∧ some k_ ≠ (.slice (some ad169) t161.length co20 : Value).ownBlock) (.slice A168_0 (rd_L1 t158 x8_2).length c168_0) (rd_L1 t158 x8_2)) := ⟨by rw [← hq_]; exact (by (with_reducible repeat (first | apply Kd.V_alloc | apply Kd.V_drewN | apply Kd.V_drew)); exact Kd.V_mono HL168_0.out (fun _ hk => ⟨hk.1.1, ⟨hk.2, hk.1.2⟩⟩))⟩; have n2_ : Aside0 (Kd.V (Kd.int .i64) 3 w21 w.heap.size (fun k_ => (w.heap.size ≤ k_) ∧ some k_ ≠ (.slice (some ad167) t158.length co8 : Value).ownBlock ∧ some k_ ≠ (.slice (some ad169) t161.length co20 : Value).ownBlock) (.slice A169_0 (rd_L1 t161 x9_3).length c169_0) (rd_L1 t161 x9_3)) := ⟨by rw [← hq_]; exact (by (with_reducible repeat (first | apply Kd.V_alloc | apply Kd.V_drewN | apply Kd.V_drew)); exact Kd.V_mono HL169_0.out (fun _ hk => ⟨hk.1.1, ⟨hk.1.2, hk.2⟩⟩))⟩; have n3_ : Aside0 (Kd.N (Kd.slice 3 (Kd.int .i64)) 22 w21 w.heap.size (fun k_ => (w.heap.size ≤ k_) ∧ some k_ ≠ (.slice (some ad169) t161.length co20 : Value).ownBlock) (.slice (some ad167) t158.length co8) t158) := ⟨by rw [← hq_]; exact (pN HO_5)⟩; have n4_ : Aside0 (Kd.N (Kd.slice 3 (Kd.int .i64)) 22 w21 w.heap.size (fun k_ => (w.heap.size ≤ k_) ∧ some k_ ≠ (.slice (some ad167) t158.length co8 : Value).ownBlock) (.slice (some ad169) t161.length co20) t161) := ⟨by rw [← hq_]; exact (pN HO_6)⟩; have n5_ : Aside0 (Below w.heap.size w w21) := ⟨by rw [← hq_]; exact (bB HB)⟩; have n6_ : Aside0 (Kd.C (Kd.int .i64) w21 A167_0 (rd_L1 t158 x7_1).length (rd_L1 t158 x7_1)) := ⟨by rw [← hq_]; exact (by repeat (first | (with_reducible exact HR167_0.out) | (with_reducible refine Kd.C_alloc ?_ _) | (with_reducible refine Kd.C_drewN ?_ _) | (with_reducible refine Kd.C_drew ?_) | exact HR167_0.out))⟩; have n7_ : Aside0 (Kd.C (Kd.int .i64) w21 A168_0 (rd_L1 t158 x8_2).length (rd_L1 t158 x8_2)) := ⟨by rw [← hq_]; exact (by repeat (first | (with_reducible exact HR168_0.out) | (with_reducible refine Kd.C_alloc ?_ _) | (with_reducible refine Kd.C_drewN ?_ _) | (with_reducible refine Kd.C_drew ?_) | exact HR168_0.out))⟩; have n8_ : Aside0 (Kd.C (Kd.int .i64) w21 A169_0 (rd_L1 t161 x9_3).length (rd_L1 t161 x9_3)) := ⟨by rw [← hq_]; exact (by repeat (first | (with_reducible exact HR169_0.out) | (with_reducible refine Kd.C_alloc ?_ _) | (with_reducible refine Kd.C_drewN ?_ _) | (with_reducible refine Kd.C_drew ?_) | exact HR169_0.out))⟩; clear HL167_0 HL168_0 HL169_0 HO_5 HO_6 HB HR167_0 HR168_0 HR169_0 hq_; have HL167_0 := n0_; have HL168_0 := n1_; have HL169_0 := n2_; have HO_5 := n3_; have HO_6 := n4_; have HB := n5_; have HR167_0 := n6_; have HR168_0 := n7_; have HR169_0 := n8_; clear n0_ n1_ n2_ n3_ n4_ n5_ n6_ n7_ n8_))
                         have n0_ := Aside0.mk (Kd.N_drew HO_5.out)
                         have n1_ := Aside0.mk (Kd.N_drew HO_6.out)
                         have n2_ := Aside0.mk (Kd.V_drew HL167_0.out)
                         have n3_ := Aside0.mk (Kd.V_drew HL168_0.out)
                         have n4_ := Aside0.mk (Kd.V_drew HL169_0.out)
                         have n5_ := Aside0.mk (Kd.C_drew HR167_0.out)
                         have n6_ := Aside0.mk (Kd.C_drew HR168_0.out)
                         have n7_ := Aside0.mk (Kd.C_drew HR169_0.out)
                         have n8_ := Aside0.mk (below_drew1 HB.out)
                         clear HO_5
                         clear HO_6
                         clear HL167_0
                         clear HL168_0
                         clear HL169_0
                         clear HR167_0
                         clear HR168_0
                         clear HR169_0
                         clear HB
                         have HO_5 := n0_
                         have HO_6 := n1_
                         have HL167_0 := n2_
                         have HL168_0 := n3_
                         have HL169_0 := n4_
                         have HR167_0 := n5_
                         have HR168_0 := n6_
                         have HR169_0 := n7_
                         have HB := n8_
                         clear n0_ n1_ n2_ n3_ n4_ n5_ n6_ n7_ n8_
                         have p171 : 0 ≤ (x7_1 : Int) := of_decide_eq_true aS
                         have q171 : x7_1 < (t158.length : Int) := of_decide_eq_true aS
                         obtain ⟨ad171, A171_0, c171_0, e171, hx171_0, hl171_0, hi171_0⟩ := at_L1 (Kd.N_reads' HO_5.out).2.2 x7_1 p171 q171
                         obtain rfl : ad167 = ad171 := (by injection e171)
                         obtain ⟨ce171, hce171, hMe171, hcc171⟩ := Kd.N_get HO_5.out [] x7_1 p171 (by first | exact q171 | exact of_decide_eq_true aS | (have e_ := (Kd.N_reads' HO_5.out).1; omega))
                         obtain ⟨ua171_0, uc171_0, rfl, ul171_0, ge171_0⟩ := Kd.FK_slice_open hMe171
                         have hv171_0 := hcc171 0 _ rfl
                         rw [Nat.add_zero, show ((Kd.slice 3 (Kd.int .i64))).sz = 1 from rfl, Nat.mul_one] at hv171_0
                         replace hv171_0 := Option.some.inj (hv171_0.symm.trans hx171_0)
                         injection hv171_0 with hva_ hvn_ hvc_
                         rw [hva_] at ge171_0
                         rw [hvc_] at ul171_0
                         have HL171_0 := Aside0.mk (show Kd.V (Kd.int .i64) 3 _ w.heap.size _ _ (rd_L1 t158 x7_1) from Kd.V_mk ul171_0 ge171_0)
                         clear hva_ hvn_ hvc_ ge171_0 ul171_0
                         clear hcc171 hce171
                         have HR171_0 := Aside0.mk hi171_0
                         have HC171_0 := Aside0.mk hl171_0
                         clear hi171_0 hl171_0
                         replace p171 := eq_true p171
                         replace q171 := eq_true q171
                         have p175 : 0 ≤ (x8_2 : Int) := of_decide_eq_true aS
                         have q175 : x8_2 < (t158.length : Int) := of_decide_eq_true aS
                         obtain ⟨ad175, A175_0, c175_0, e175, hx175_0, hl175_0, hi175_0⟩ := at_L1 (Kd.N_reads' HO_5.out).2.2 x8_2 p175 q175
                         obtain rfl : ad167 = ad175 := (by injection e175)
                         obtain ⟨ce175, hce175, hMe175, hcc175⟩ := Kd.N_get HO_5.out [] x8_2 p175 (by first | exact q175 | exact of_decide_eq_true aS | (have e_ := (Kd.N_reads' HO_5.out).1; omega))
                         obtain ⟨ua175_0, uc175_0, rfl, ul175_0, ge175_0⟩ := Kd.FK_slice_open hMe175
                         have hv175_0 := hcc175 0 _ rfl
                         rw [Nat.add_zero, show ((Kd.slice 3 (Kd.int .i64))).sz = 1 from rfl, Nat.mul_one] at hv175_0
                         replace hv175_0 := Option.some.inj (hv175_0.symm.trans hx175_0)
                         injection hv175_0 with hva_ hvn_ hvc_
                         rw [hva_] at ge175_0
                         rw [hvc_] at ul175_0
                         have HL175_0 := Aside0.mk (show Kd.V (Kd.int .i64) 3 _ w.heap.size _ _ (rd_L1 t158 x8_2) from Kd.V_mk ul175_0 ge175_0)
                         clear hva_ hvn_ hvc_ ge175_0 ul175_0
                         clear hcc175 hce175
                         have HR175_0 := Aside0.mk hi175_0
                         have HC175_0 := Aside0.mk hl175_0
                         clear hi175_0 hl175_0
                         replace p175 := eq_true p175
                         replace q175 := eq_true q175
                         have p179 : 0 ≤ (x9_3 : Int) := of_decide_eq_true aS
                         have q179 : x9_3 < (t161.length : Int) := of_decide_eq_true aS
                         obtain ⟨ad179, A179_0, c179_0, e179, hx179_0, hl179_0, hi179_0⟩ := at_L1 (Kd.N_reads' HO_6.out).2.2 x9_3 p179 q179
                         obtain rfl : ad169 = ad179 := (by injection e179)
                         obtain ⟨ce179, hce179, hMe179, hcc179⟩ := Kd.N_get HO_6.out [] x9_3 p179 (by first | exact q179 | exact of_decide_eq_true aS | (have e_ := (Kd.N_reads' HO_6.out).1; omega))
                         obtain ⟨ua179_0, uc179_0, rfl, ul179_0, ge179_0⟩ := Kd.FK_slice_open hMe179
                         have hv179_0 := hcc179 0 _ rfl
                         rw [Nat.add_zero, show ((Kd.slice 3 (Kd.int .i64))).sz = 1 from rfl, Nat.mul_one] at hv179_0
                         replace hv179_0 := Option.some.inj (hv179_0.symm.trans hx179_0)
                         injection hv179_0 with hva_ hvn_ hvc_
                         rw [hva_] at ge179_0
                         rw [hvc_] at ul179_0
                         have HL179_0 := Aside0.mk (show Kd.V (Kd.int .i64) 3 _ w.heap.size _ _ (rd_L1 t161 x9_3) from Kd.V_mk ul179_0 ge179_0)
                         clear hva_ hvn_ hvc_ ge179_0 ul179_0
                         clear hcc179 hce179
                         have HR179_0 := Aside0.mk hi179_0
                         have HC179_0 := Aside0.mk hl179_0
                         clear hi179_0 hl179_0
                         replace p179 := eq_true p179
                         replace q179 := eq_true q179
                         refine start_ (n := 16) (S := fun w' => w'.cell? (ad167.add (x7_1).toNat) = some (.slice A171_0 (rd_L1 t158 x7_1).length c171_0) ∧ w'.cell? (ad167.add (x8_2).toNat) = some (.slice A175_0 (rd_L1 t158 x8_2).length c175_0) ∧ w'.cell? (ad169.add (x9_3).toNat) = some (.slice A179_0 (rd_L1 t161 x9_3).length c179_0)) (ds := []) #[false, false, false, false, false, false, false, false, false, false, false, false, false, false, false, false] (by kernel_rfl) rfl rfl ⟨hx171_0, hx175_0, hx179_0⟩ (fun hHeld => ?_); refine with_tabW spec_l9Pair.tab12 spec_l9Pair.bits12 (fun HT_ HW_ => ?_)
                         generalize w21.drew = w22 at HO_5 HO_6 HL167_0 HL168_0 HL169_0 HR167_0 HR168_0 HR169_0 HB HL171_0 HL175_0 HL179_0 HR171_0 HR175_0 HR179_0 hx171_0 hx175_0 hx179_0 hHeld ⊢
                         refine pure_ (i := 0) (N := some 45) (v := ?_) (a' := ?_) #[true, false, false, false, false, false, false, false, false, false, false, false, false, false, false, false] rfl rfl (any_of HT_.out (by kernel_rfl)) (fun _ _ _ h => h) (Or.inl ⟨by rfl, ?_⟩) ?_ ?_
                         rotate_left
                         · intro w'
                           go_simp
                           with_reducible rfl
                         rotate_left
                         · exact aP
                         refine pure_ (i := 1) (N := some 46) (v := ?_) (a' := ?_) #[true, true, false, false, false, false, false, false, false, false, false, false, false, false, false, false] rfl rfl (any_of HT_.out (by kernel_rfl)) (fun _ _ _ h => h) (Or.inl ⟨by rfl, ?_⟩) ?_ ?_
                         rotate_left
                         · intro w'
                           go_simp
                           with_reducible rfl
                         rotate_left
                         · exact aP
                         refine pure_ (i := 2) (N := some 47) (v := ?_) (a' := ?_) #[true, true, true, false, false, false, false, false, false, false, false, false, false, false, false, false] rfl rfl (any_of HT_.out (by kernel_rfl)) (fun _ _ _ h => h) (Or.inl ⟨by rfl, ?_⟩) ?_ ?_
                         rotate_left
                         · intro w'
                           go_simp
                           with_reducible rfl
                         rotate_left
                         · exact aP
                         refine pure_ (i := 5) (N := some 50) (v := ?_) (a' := ?_) #[true, true, true, false, false, true, false, false, false, false, false, false, false, false, false, false] rfl rfl (any_of HT_.out (by kernel_rfl)) (fun _ _ _ h => h) (Or.inl ⟨by rfl, ?_⟩) ?_ ?_
                         rotate_left
                         · intro w'
                           go_simp
                           with_reducible rfl
                         rotate_left
                         · exact aP
                         refine pure_ (i := 6) (N := some 51) (v := ?_) (a' := ?_) #[true, true, true, false, false, true, true, false, false, false, false, false, false, false, false, false] rfl rfl (any_of HT_.out (by kernel_rfl)) (fun _ _ _ h => h) (Or.inl ⟨by rfl, ?_⟩) ?_ ?_
                         rotate_left
                         · intro w'
                           go_simp
                           with_reducible rfl
                         rotate_left
                         · exact aP
                         refine pure_ (i := 7) (N := some 52) (v := ?_) (a' := ?_) #[true, true, true, false, false, true, true, true, false, false, false, false, false, false, false, false] rfl rfl (any_of HT_.out (by kernel_rfl)) (fun _ _ _ h => h) (Or.inl ⟨by rfl, ?_⟩) ?_ ?_
                         rotate_left
                         · intro w'
                           go_simp
                           with_reducible rfl
                         rotate_left
                         · exact aP
                         refine pure_ (i := 10) (N := some 55) (v := ?_) (a' := ?_) #[true, true, true, false, false, true, true, true, false, false, true, false, false, false, false, false] rfl rfl (any_of HT_.out (by kernel_rfl)) (fun _ _ _ h => h) (Or.inl ⟨by rfl, ?_⟩) ?_ ?_
                         rotate_left
                         · intro w'
                           go_simp
                           with_reducible rfl
                         rotate_left
                         · exact aP
                         refine pure_ (i := 11) (N := some 56) (v := ?_) (a' := ?_) #[true, true, true, false, false, true, true, true, false, false, true, true, false, false, false, false] rfl rfl (any_of HT_.out (by kernel_rfl)) (fun _ _ _ h => h) (Or.inl ⟨by rfl, ?_⟩) ?_ ?_
                         rotate_left
                         · intro w'
                           go_simp
                           with_reducible rfl
                         rotate_left
                         · exact aP
                         refine pure_ (i := 12) (N := some 57) (v := ?_) (a' := ?_) #[true, true, true, false, false, true, true, true, false, false, true, true, true, false, false, false] rfl rfl (any_of HT_.out (by kernel_rfl)) (fun _ _ _ h => h) (Or.inl ⟨by rfl, ?_⟩) ?_ ?_
                         rotate_left
                         · intro w'
                           go_simp
                           with_reducible rfl
                         rotate_left
                         · exact aP
                         refine take_ (i := 3) (N := some 48) (v := ?_) (a' := ?_) #[true, true, true, true, false, true, true, true, false, false, true, true, true, false, false, false] rfl rfl (take_ofW HT_.out HW_.out (by kernel_rfl)) (fun _ _ _ h => h) (Or.inl ⟨by rfl, ?_⟩) hHeld ?_ ?_
                         rotate_left
                         · rintro w' ⟨s0, s1, s2⟩
                           go_simp
                           with_reducible rfl
                         rotate_left
                         · exact aP
                         refine take_ (i := 8) (N := some 53) (v := ?_) (a' := ?_) #[true, true, true, true, false, true, true, true, true, false, true, true, true, false, false, false] rfl rfl (take_ofW HT_.out HW_.out (by kernel_rfl)) (fun _ _ _ h => h) (Or.inl ⟨by rfl, ?_⟩) hHeld ?_ ?_
                         rotate_left
                         · rintro w' ⟨s0, s1, s2⟩
                           go_simp
                           with_reducible rfl
                         rotate_left
                         · exact aP
                         refine take_ (i := 13) (N := some 58) (v := ?_) (a' := ?_) #[true, true, true, true, false, true, true, true, true, false, true, true, true, true, false, false] rfl rfl (take_ofW HT_.out HW_.out (by kernel_rfl)) (fun _ _ _ h => h) (Or.inl ⟨by rfl, ?_⟩) hHeld ?_ ?_
                         rotate_left
                         · rintro w' ⟨s0, s1, s2⟩
                           go_simp
                           with_reducible rfl
                         rotate_left
                         · exact aP
                         refine one_ (i := 4) (N := some 49) #[true, true, true, true, true, true, true, true, true, false, true, true, true, true, false, false] rfl rfl (one_of HT_.out (by kernel_rfl)) (by decide) (fun K hK => ?_)
                         refine goes_ Try.func38 (by kernel_rfl) rfl #[.slice A171_0 (rd_L1 t158 x7_1).length c171_0] (by rfl) rfl rfl aT ?_
                         with_reducible refine (spec_l1Own.calls _ _ (rd_L1 t158 x7_1) t172 _ ?side1 ?side2 A18.out).mono ?_
                         (case side1 => repeat (first | exact (by repeat (first | (with_reducible exact HR171_0.out) | (with_reducible refine Kd.C_alloc ?_ _) | (with_reducible refine Kd.C_drewN ?_ _) | (with_reducible refine Kd.C_drew ?_) | exact HR171_0.out)) | (with_reducible refine Kd.C_alloc ?_ _) | (with_reducible refine Kd.C_drewN ?_ _) | (with_reducible refine Kd.C_drew ?_)))
                         (case side2 => exact HC171_0.out)
                         rintro e w23 ⟨v173, rfl, ho0, hb⟩
                         have HS0_ := (hb.cell (World.block_lt_of_cell? _ _ (hHeld.1))).trans (hHeld.1)
                         have HS1_ := (hb.cell (World.block_lt_of_cell? _ _ (hHeld.2.1))).trans (hHeld.2.1)
                         have HS2_ := (hb.cell (World.block_lt_of_cell? _ _ (hHeld.2.2))).trans (hHeld.2.2)
                         refine ⟨_, rfl, ?_⟩
                         have n0_ := Aside0.mk (Kd.N_elder' (pN HO_5) (Kd.R_base ho0) hb)
                         have n1_ := Aside0.mk (Kd.N_elder' (pN HO_6) (Kd.R_base ho0) hb)
                         have n2_ := Aside0.mk (Kd.V_elder' (by (with_reducible repeat (first | apply Kd.V_alloc | apply Kd.V_drewN | apply Kd.V_drew)); exact HL167_0.out) (Kd.R_base ho0) hb)
                         have n3_ := Aside0.mk (Kd.V_elder' (by (with_reducible repeat (first | apply Kd.V_alloc | apply Kd.V_drewN | apply Kd.V_drew)); exact HL168_0.out) (Kd.R_base ho0) hb)
                         have n4_ := Aside0.mk (Kd.V_elder' (by (with_reducible repeat (first | apply Kd.V_alloc | apply Kd.V_drewN | apply Kd.V_drew)); exact HL169_0.out) (Kd.R_base ho0) hb)
                         have n5_ := Aside0.mk (Kd.V_elder' (by (with_reducible repeat (first | apply Kd.V_alloc | apply Kd.V_drewN | apply Kd.V_drew)); exact HL171_0.out) (Kd.R_base ho0) hb)
                         have n6_ := Aside0.mk (Kd.V_elder' (by (with_reducible repeat (first | apply Kd.V_alloc | apply Kd.V_drewN | apply Kd.V_drew)); exact HL175_0.out) (Kd.R_base ho0) hb)
                         have n7_ := Aside0.mk (Kd.V_elder' (by (with_reducible repeat (first | apply Kd.V_alloc | apply Kd.V_drewN | apply Kd.V_drew)); exact HL179_0.out) (Kd.R_base ho0) hb)
                         have n8_ := Aside0.mk (Kd.R_lower (Kd.R_newM (M := fun k_ => (w.heap.size ≤ k_)) ho0 (below_size (bB HB)) (fun k_ h_ => h_)) (below_size (bB HB)))
                         have n9_ := Aside0.mk (Kd.C_below (by repeat (first | (with_reducible exact HR167_0.out) | (with_reducible refine Kd.C_alloc ?_ _) | (with_reducible refine Kd.C_drewN ?_ _) | (with_reducible refine Kd.C_drew ?_) | exact HR167_0.out)) hb)
                         have n10_ := Aside0.mk (Kd.C_below (by repeat (first | (with_reducible exact HR168_0.out) | (with_reducible refine Kd.C_alloc ?_ _) | (with_reducible refine Kd.C_drewN ?_ _) | (with_reducible refine Kd.C_drew ?_) | exact HR168_0.out)) hb)
                         have n11_ := Aside0.mk (Kd.C_below (by repeat (first | (with_reducible exact HR169_0.out) | (with_reducible refine Kd.C_alloc ?_ _) | (with_reducible refine Kd.C_drewN ?_ _) | (with_reducible refine Kd.C_drew ?_) | exact HR169_0.out)) hb)
                         have n12_ := Aside0.mk (Kd.C_below (by repeat (first | (with_reducible exact HR171_0.out) | (with_reducible refine Kd.C_alloc ?_ _) | (with_reducible refine Kd.C_drewN ?_ _) | (with_reducible refine Kd.C_drew ?_) | exact HR171_0.out)) hb)
                         have n13_ := Aside0.mk (Kd.C_below (by repeat (first | (with_reducible exact HR175_0.out) | (with_reducible refine Kd.C_alloc ?_ _) | (with_reducible refine Kd.C_drewN ?_ _) | (with_reducible refine Kd.C_drew ?_) | exact HR175_0.out)) hb)
                         have n14_ := Aside0.mk (Kd.C_below (by repeat (first | (with_reducible exact HR179_0.out) | (with_reducible refine Kd.C_alloc ?_ _) | (with_reducible refine Kd.C_drewN ?_ _) | (with_reducible refine Kd.C_drew ?_) | exact HR179_0.out)) hb)
                         have n15_ := Aside0.mk (below_step (bB HB) hb)
                         clear HO_5
                         clear HO_6
                         clear HL167_0
                         clear HL168_0
                         clear HL169_0
                         clear HL171_0
                         clear HL175_0
                         clear HL179_0
                         clear HR167_0
                         clear HR168_0
                         clear HR169_0
                         clear HR171_0
                         clear HR175_0
                         clear HR179_0
                         clear HB
                         have HO_5 := n0_
                         have HO_6 := n1_
                         have HL167_0 := n2_
                         have HL168_0 := n3_
                         have HL169_0 := n4_
                         have HL171_0 := n5_
                         have HL175_0 := n6_
                         have HL179_0 := n7_
                         have HO174 := n8_
                         have HR167_0 := n9_
                         have HR168_0 := n10_
                         have HR169_0 := n11_
                         have HR171_0 := n12_
                         have HR175_0 := n13_
                         have HR179_0 := n14_
                         have HB := n15_
                         clear n0_ n1_ n2_ n3_ n4_ n5_ n6_ n7_ n8_ n9_ n10_ n11_ n12_ n13_ n14_ n15_
                         (try clear hb)
                         (try clear hb2)
                         (try clear hk)
                         (try clear hi)
                         (try clear ho0)
                         refine hK.out _ _ ⟨HS0_, HS1_, HS2_⟩ (fun hHeld => ?_)
                         clear hK K
                         refine norm_ (a' := ?_) ?_ ?_
                         rotate_left
                         · show Act.put _ (some 49) _ = _
                           simp only [Act.put, List.setIfInBounds_toArray, List.set_cons_zero, List.set_cons_succ, i64_w, i32_w]
                           rfl
                         refine one_ (i := 9) (N := some 54) #[true, true, true, true, true, true, true, true, true, true, true, true, true, true, false, false] rfl rfl (one_of HT_.out (by kernel_rfl)) (by decide) (fun K hK => ?_)
                         refine goes_ Try.func38 (by kernel_rfl) rfl #[.slice A175_0 (rd_L1 t158 x8_2).length c175_0] (by rfl) rfl rfl aT ?_
                         with_reducible refine (spec_l1Own.calls _ _ (rd_L1 t158 x8_2) t176 _ ?side1 ?side2 A19.out).mono ?_
                         (case side1 => repeat (first | exact (by repeat (first | (with_reducible exact HR175_0.out) | (with_reducible refine Kd.C_alloc ?_ _) | (with_reducible refine Kd.C_drewN ?_ _) | (with_reducible refine Kd.C_drew ?_) | exact HR175_0.out)) | (with_reducible refine Kd.C_alloc ?_ _) | (with_reducible refine Kd.C_drewN ?_ _) | (with_reducible refine Kd.C_drew ?_)))
                         (case side2 => exact HC175_0.out)
                         rintro e w24 ⟨v177, rfl, ho0, hb⟩
                         have HS0_ := (hb.cell (World.block_lt_of_cell? _ _ (hHeld.1))).trans (hHeld.1)
                         have HS1_ := (hb.cell (World.block_lt_of_cell? _ _ (hHeld.2.1))).trans (hHeld.2.1)
                         have HS2_ := (hb.cell (World.block_lt_of_cell? _ _ (hHeld.2.2))).trans (hHeld.2.2)
                         refine ⟨_, rfl, ?_⟩
                         have n0_ := Aside0.mk (Kd.N_elder' (pN HO_5) (Kd.R_base ho0) hb)
                         have n1_ := Aside0.mk (Kd.N_elder' (pN HO_6) (Kd.R_base ho0) hb)
                         have n2_ := Aside0.mk (Kd.V_elder' (by (with_reducible repeat (first | apply Kd.V_alloc | apply Kd.V_drewN | apply Kd.V_drew)); exact HL167_0.out) (Kd.R_base ho0) hb)
                         have n3_ := Aside0.mk (Kd.V_elder' (by (with_reducible repeat (first | apply Kd.V_alloc | apply Kd.V_drewN | apply Kd.V_drew)); exact HL168_0.out) (Kd.R_base ho0) hb)
                         have n4_ := Aside0.mk (Kd.V_elder' (by (with_reducible repeat (first | apply Kd.V_alloc | apply Kd.V_drewN | apply Kd.V_drew)); exact HL169_0.out) (Kd.R_base ho0) hb)
                         have n5_ := Aside0.mk (Kd.V_elder' (by (with_reducible repeat (first | apply Kd.V_alloc | apply Kd.V_drewN | apply Kd.V_drew)); exact HL171_0.out) (Kd.R_base ho0) hb)
                         have n6_ := Aside0.mk (Kd.V_elder' (by (with_reducible repeat (first | apply Kd.V_alloc | apply Kd.V_drewN | apply Kd.V_drew)); exact HL175_0.out) (Kd.R_base ho0) hb)
                         have n7_ := Aside0.mk (Kd.V_elder' (by (with_reducible repeat (first | apply Kd.V_alloc | apply Kd.V_drewN | apply Kd.V_drew)); exact HL179_0.out) (Kd.R_base ho0) hb)
                         have n8_ := Aside0.mk (Kd.R_elder' (pR HO174) (Kd.R_base ho0) hb)
                         have n9_ := Aside0.mk (Kd.R_lower (Kd.R_new' (Kd.R_newM (M := fun k_ => (w.heap.size ≤ k_)) ho0 (below_size (bB HB)) (fun k_ h_ => h_)) (Kd.R_lt (pR HO174))) (below_size (bB HB)))
                         have n10_ := Aside0.mk (Kd.C_below (by repeat (first | (with_reducible exact HR167_0.out) | (with_reducible refine Kd.C_alloc ?_ _) | (with_reducible refine Kd.C_drewN ?_ _) | (with_reducible refine Kd.C_drew ?_) | exact HR167_0.out)) hb)
                         have n11_ := Aside0.mk (Kd.C_below (by repeat (first | (with_reducible exact HR168_0.out) | (with_reducible refine Kd.C_alloc ?_ _) | (with_reducible refine Kd.C_drewN ?_ _) | (with_reducible refine Kd.C_drew ?_) | exact HR168_0.out)) hb)
                         have n12_ := Aside0.mk (Kd.C_below (by repeat (first | (with_reducible exact HR169_0.out) | (with_reducible refine Kd.C_alloc ?_ _) | (with_reducible refine Kd.C_drewN ?_ _) | (with_reducible refine Kd.C_drew ?_) | exact HR169_0.out)) hb)
                         have n13_ := Aside0.mk (Kd.C_below (by repeat (first | (with_reducible exact HR171_0.out) | (with_reducible refine Kd.C_alloc ?_ _) | (with_reducible refine Kd.C_drewN ?_ _) | (with_reducible refine Kd.C_drew ?_) | exact HR171_0.out)) hb)
                         have n14_ := Aside0.mk (Kd.C_below (by repeat (first | (with_reducible exact HR175_0.out) | (with_reducible refine Kd.C_alloc ?_ _) | (with_reducible refine Kd.C_drewN ?_ _) | (with_reducible refine Kd.C_drew ?_) | exact HR175_0.out)) hb)
                         have n15_ := Aside0.mk (Kd.C_below (by repeat (first | (with_reducible exact HR179_0.out) | (with_reducible refine Kd.C_alloc ?_ _) | (with_reducible refine Kd.C_drewN ?_ _) | (with_reducible refine Kd.C_drew ?_) | exact HR179_0.out)) hb)
                         have n16_ := Aside0.mk (below_step (bB HB) hb)
                         clear HO_5
                         clear HO_6
                         clear HL167_0
                         clear HL168_0
                         clear HL169_0
                         clear HL171_0
                         clear HL175_0
                         clear HL179_0
                         clear HO174
                         clear HR167_0
                         clear HR168_0
                         clear HR169_0
                         clear HR171_0
                         clear HR175_0
                         clear HR179_0
                         clear HB
                         have HO_5 := n0_
                         have HO_6 := n1_
                         have HL167_0 := n2_
                         have HL168_0 := n3_
                         have HL169_0 := n4_
                         have HL171_0 := n5_
                         have HL175_0 := n6_
                         have HL179_0 := n7_
                         have HO174 := n8_
                         have HO178 := n9_
                         have HR167_0 := n10_
                         have HR168_0 := n11_
                         have HR169_0 := n12_
                         have HR171_0 := n13_
                         have HR175_0 := n14_
                         have HR179_0 := n15_
                         have HB := n16_
                         clear n0_ n1_ n2_ n3_ n4_ n5_ n6_ n7_ n8_ n9_ n10_ n11_ n12_ n13_ n14_ n15_ n16_
                         (try clear hb)
                         (try clear hb2)
                         (try clear hk)
                         (try clear hi)
                         (try clear ho0)
                         obtain ⟨Ao25, co25, eo25⟩ := Kd.R_slice HO174.out
                         (first | subst eo25 | (injection eo25 with f1_ f2_ f3_; have f4_ := f1_.symm; have f5_ := f3_.symm; clear f1_ f2_ f3_; subst f4_; subst f5_))
                         obtain ⟨Ao26, co26, eo26⟩ := Kd.R_slice HO178.out
                         (first | subst eo26 | (injection eo26 with f1_ f2_ f3_; have f4_ := f1_.symm; have f5_ := f3_.symm; clear f1_ f2_ f3_; subst f4_; subst f5_))
                         refine hK.out _ _ ⟨HS0_, HS1_, HS2_⟩ (fun hHeld => ?_)
                         clear hK K
                         refine norm_ (a' := ?_) ?_ ?_
                         rotate_left
                         · show Act.put _ (some 54) _ = _
                           simp only [Act.put, List.setIfInBounds_toArray, List.set_cons_zero, List.set_cons_succ, i64_w, i32_w]
                           rfl
                         refine one_ (i := 14) (N := some 59) #[true, true, true, true, true, true, true, true, true, true, true, true, true, true, true, false] rfl rfl (one_of HT_.out (by kernel_rfl)) (by decide) (fun K hK => ?_)
                         refine Kd.N_lit_step (Kd.slice 3 (Kd.int .i64)) _ 22 ?hg (N' := 59) ?hd (xs := ([t172, t176, rd_L1 t161 x9_3] : List (List Int))) (inner := [.slice Ao25 t172.length co25, .slice Ao26 t176.length co26, .slice A179_0 (rd_L1 t161 x9_3).length c179_0]) (ok := (fun k_ => (w.heap.size ≤ k_) ∧ some k_ ≠ (.slice (some ad167) t158.length co8 : Value).ownBlock ∧ some k_ ≠ (.slice (some ad169) t161.length co20 : Value).ownBlock)) (okp := (fun k_ => (w.heap.size ≤ k_) ∧ some k_ ≠ (.slice (some ad167) t158.length co8 : Value).ownBlock ∧ some k_ ≠ (.slice (some ad169) t161.length co20 : Value).ownBlock)) ?hr ?hp (fun _ hk => hk) ((show ∀ k_, w24.heap.size ≤ k_ → (fun k_ => (w.heap.size ≤ k_) ∧ some k_ ≠ (.slice (some ad167) t158.length co8 : Value).ownBlock ∧ some k_ ≠ (.slice (some ad169) t161.length co20 : Value).ownBlock) k_ from fun k_ hk => ⟨(Nat.le_trans (below_size (bB HB)) hk), Kd.fresh' (Kd.N_lt (pN HO_5)) k_ hk, Kd.fresh' (Kd.N_lt (pN HO_6)) k_ hk⟩) _ (Nat.le_refl _)) (Below.refl _ _) (Nat.le_refl _) (by simp) ?_; (case hd => rfl); (case hg => rfl); (case hr => first | (go_simp; done) | (go_simp; rfl)); (case hp => exact (Reps.one (show Kd.FK (Kd.slice 3 (Kd.int .i64)) _ _ t172 [.slice Ao25 t172.length co25] from (Kd.FK_slice_mk (Kd.R_reads' (Kd.R_mono (ok' := (fun k_ => (w.heap.size ≤ k_) ∧ some k_ ≠ (.slice (some ad167) t158.length co8 : Value).ownBlock ∧ some k_ ≠ (.slice (some ad169) t161.length co20 : Value).ownBlock)) (Kd.R_apart' (Kd.R_apart' (HO174.out) (Kd.N_typed HO_5.out) (by decide)) (Kd.N_typed HO_6.out) (by decide)) (fun k_ hk => ⟨hk.1.1.1.1, ⟨hk.1.2, hk.2⟩⟩))).2.1 (Kd.R_F (Kd.R_mono (ok' := (fun k_ => (w.heap.size ≤ k_) ∧ some k_ ≠ (.slice (some ad167) t158.length co8 : Value).ownBlock ∧ some k_ ≠ (.slice (some ad169) t161.length co20 : Value).ownBlock)) (Kd.R_apart' (Kd.R_apart' (HO174.out) (Kd.N_typed HO_5.out) (by decide)) (Kd.N_typed HO_6.out) (by decide)) (fun k_ hk => ⟨hk.1.1.1.1, ⟨hk.1.2, hk.2⟩⟩))))) (Reps.one (show Kd.FK (Kd.slice 3 (Kd.int .i64)) _ _ t176 [.slice Ao26 t176.length co26] from (Kd.FK_slice_mk (Kd.R_reads' (Kd.R_mono (ok' := (fun k_ => (w.heap.size ≤ k_) ∧ some k_ ≠ (.slice (some ad167) t158.length co8 : Value).ownBlock ∧ some k_ ≠ (.slice (some ad169) t161.length co20 : Value).ownBlock)) (Kd.R_apart' (Kd.R_apart' (HO178.out) (Kd.N_typed HO_5.out) (by decide)) (Kd.N_typed HO_6.out) (by decide)) (fun k_ hk => ⟨hk.1.1.1.1, ⟨hk.1.2, hk.2⟩⟩))).2.1 (Kd.R_F (Kd.R_mono (ok' := (fun k_ => (w.heap.size ≤ k_) ∧ some k_ ≠ (.slice (some ad167) t158.length co8 : Value).ownBlock ∧ some k_ ≠ (.slice (some ad169) t161.length co20 : Value).ownBlock)) (Kd.R_apart' (Kd.R_apart' (HO178.out) (Kd.N_typed HO_5.out) (by decide)) (Kd.N_typed HO_6.out) (by decide)) (fun k_ hk => ⟨hk.1.1.1.1, ⟨hk.1.2, hk.2⟩⟩))))) (Reps.one (show Kd.FK (Kd.slice 3 (Kd.int .i64)) _ _ (rd_L1 t161 x9_3) [.slice A179_0 (rd_L1 t161 x9_3).length c179_0] from (Kd.FK_slice_mk (Kd.V_reads' (Kd.V_mono (ok' := (fun k_ => (w.heap.size ≤ k_) ∧ some k_ ≠ (.slice (some ad167) t158.length co8 : Value).ownBlock ∧ some k_ ≠ (.slice (some ad169) t161.length co20 : Value).ownBlock)) (HL179_0.out) (fun k_ hk => ⟨hk.1.1.1.1, ⟨hk.1.1.1.2, hk.1.1.2⟩⟩))).2.1 (Kd.V_F (Kd.V_mono (ok' := (fun k_ => (w.heap.size ≤ k_) ∧ some k_ ≠ (.slice (some ad167) t158.length co8 : Value).ownBlock ∧ some k_ ≠ (.slice (some ad169) t161.length co20 : Value).ownBlock)) (HL179_0.out) (fun k_ hk => ⟨hk.1.1.1.1, ⟨hk.1.1.1.2, hk.1.1.2⟩⟩))))) (Reps.none _ _)))))
                         intro v181 w27 ho28 hb hg_ hnew_
                         have HS0_ := (hb.cell (World.block_lt_of_cell? _ _ (hHeld.1))).trans (hHeld.1)
                         have HS1_ := (hb.cell (World.block_lt_of_cell? _ _ (hHeld.2.1))).trans (hHeld.2.1)
                         have HS2_ := (hb.cell (World.block_lt_of_cell? _ _ (hHeld.2.2))).trans (hHeld.2.2)
                         clear hg_ hnew_
                         (first | rw [← Ny180.out] at ho28 | (simp only [Int.reduceToNat] at ho28; rw [← Ny180.out] at ho28))
                         have n0_ := Aside0.mk (Kd.N_elder' (pN HO_5) (Kd.N_base ho28) hb)
                         have n1_ := Aside0.mk (Kd.N_elder' (pN HO_6) (Kd.N_base ho28) hb)
                         have n2_ := Aside0.mk (Kd.V_elder' (by (with_reducible repeat (first | apply Kd.V_alloc | apply Kd.V_drewN | apply Kd.V_drew)); exact HL167_0.out) (Kd.N_base ho28) hb)
                         have n3_ := Aside0.mk (Kd.V_elder' (by (with_reducible repeat (first | apply Kd.V_alloc | apply Kd.V_drewN | apply Kd.V_drew)); exact HL168_0.out) (Kd.N_base ho28) hb)
                         have n4_ := Aside0.mk (Kd.V_elder' (by (with_reducible repeat (first | apply Kd.V_alloc | apply Kd.V_drewN | apply Kd.V_drew)); exact HL169_0.out) (Kd.N_base ho28) hb)
                         have n5_ := Aside0.mk (Kd.V_elder' (by (with_reducible repeat (first | apply Kd.V_alloc | apply Kd.V_drewN | apply Kd.V_drew)); exact HL171_0.out) (Kd.N_base ho28) hb)
                         have n6_ := Aside0.mk (Kd.V_elder' (by (with_reducible repeat (first | apply Kd.V_alloc | apply Kd.V_drewN | apply Kd.V_drew)); exact HL175_0.out) (Kd.N_base ho28) hb)
                         have n7_ := Aside0.mk (Kd.V_elder' (by (with_reducible repeat (first | apply Kd.V_alloc | apply Kd.V_drewN | apply Kd.V_drew)); exact HL179_0.out) (Kd.N_base ho28) hb)
                         have n8_ := Aside0.mk (Kd.N_lower ho28 (below_size (bB HB)))
                         have n9_ := Aside0.mk (Kd.C_below (by repeat (first | (with_reducible exact HR167_0.out) | (with_reducible refine Kd.C_alloc ?_ _) | (with_reducible refine Kd.C_drewN ?_ _) | (with_reducible refine Kd.C_drew ?_) | exact HR167_0.out)) hb)
                         have n10_ := Aside0.mk (Kd.C_below (by repeat (first | (with_reducible exact HR168_0.out) | (with_reducible refine Kd.C_alloc ?_ _) | (with_reducible refine Kd.C_drewN ?_ _) | (with_reducible refine Kd.C_drew ?_) | exact HR168_0.out)) hb)
                         have n11_ := Aside0.mk (Kd.C_below (by repeat (first | (with_reducible exact HR169_0.out) | (with_reducible refine Kd.C_alloc ?_ _) | (with_reducible refine Kd.C_drewN ?_ _) | (with_reducible refine Kd.C_drew ?_) | exact HR169_0.out)) hb)
                         have n12_ := Aside0.mk (Kd.C_below (by repeat (first | (with_reducible exact HR171_0.out) | (with_reducible refine Kd.C_alloc ?_ _) | (with_reducible refine Kd.C_drewN ?_ _) | (with_reducible refine Kd.C_drew ?_) | exact HR171_0.out)) hb)
                         have n13_ := Aside0.mk (Kd.C_below (by repeat (first | (with_reducible exact HR175_0.out) | (with_reducible refine Kd.C_alloc ?_ _) | (with_reducible refine Kd.C_drewN ?_ _) | (with_reducible refine Kd.C_drew ?_) | exact HR175_0.out)) hb)
                         have n14_ := Aside0.mk (Kd.C_below (by repeat (first | (with_reducible exact HR179_0.out) | (with_reducible refine Kd.C_alloc ?_ _) | (with_reducible refine Kd.C_drewN ?_ _) | (with_reducible refine Kd.C_drew ?_) | exact HR179_0.out)) hb)
                         have n15_ := Aside0.mk (below_step (bB HB) hb)
                         clear HO_5
                         clear HO_6
                         clear HL167_0
                         clear HL168_0
                         clear HL169_0
                         clear HL171_0
                         clear HL175_0
                         clear HL179_0
                         clear HR167_0
                         clear HR168_0
                         clear HR169_0
                         clear HR171_0
                         clear HR175_0
                         clear HR179_0
                         clear HB
                         clear HO174
                         clear HO178
                         have HO_5 := n0_
                         have HO_6 := n1_
                         have HL167_0 := n2_
                         have HL168_0 := n3_
                         have HL169_0 := n4_
                         have HL171_0 := n5_
                         have HL175_0 := n6_
                         have HL179_0 := n7_
                         have HO182 := n8_
                         have HR167_0 := n9_
                         have HR168_0 := n10_
                         have HR169_0 := n11_
                         have HR171_0 := n12_
                         have HR175_0 := n13_
                         have HR179_0 := n14_
                         have HB := n15_
                         clear n0_ n1_ n2_ n3_ n4_ n5_ n6_ n7_ n8_ n9_ n10_ n11_ n12_ n13_ n14_ n15_
                         clear hb ho28
                         refine hK.out _ _ ⟨HS0_, HS1_, HS2_⟩ (fun hHeld => ?_)
                         clear hK K
                         refine norm_ (a' := ?_) ?_ ?_
                         rotate_left
                         · show Act.put _ (some 59) _ = _
                           simp only [Act.put, List.setIfInBounds_toArray, List.set_cons_zero, List.set_cons_succ, i64_w, i32_w]
                           rfl
                         refine pure_ (i := 15) (N := some 4) (v := ?_) (a' := ?_) #[true, true, true, true, true, true, true, true, true, true, true, true, true, true, true, true] rfl rfl (any_of HT_.out (by kernel_rfl)) (fun _ _ _ h => h) (Or.inl ⟨by rfl, ?_⟩) ?_ ?_
                         rotate_left
                         · intro w'
                           go_simp
                           with_reducible rfl
                         rotate_left
                         · exact aP
                         refine done_ (done_of HT_.out (by kernel_rfl)) ?_
                         try go_wp2
                         go_ret
                         exact ⟨_, eW, by (with_reducible repeat (first | apply Kd.N_alloc | apply Kd.N_drewN | apply Kd.N_drew)); exact Kd.N_mono HO182.out (fun _ hk => hk.1), bB HB⟩
                       · replace c17 := Bool.eq_false_iff.mpr c17
                         subst c17
                         have H1 : (spec_l9Pair.l2 k3 l1 t158 t161 x7_1 x8_2 (wrap64 (x9_3 + 1))) = some r := by rw [if_neg (show ¬ (false = true) by decide)] at H; exact H
                         clear H
                         have H := H1
                         clear H1
                         have H' := Aside0.mk H
                         clear H
                         obtain ⟨Ao29, co29, eo29⟩ := Kd.N_slice HO_6.out
                         subst eo29
                         try go_wp2
                         have n0_ := Aside0.mk (Kd.N_drew HO_5.out)
                         have n1_ := Aside0.mk (Kd.N_drew HO_6.out)
                         have n2_ := Aside0.mk (below_drew1 HB.out)
                         clear HO_5
                         clear HO_6
                         clear HB
                         have HO_5 := n0_
                         have HO_6 := n1_
                         have HB := n2_
                         clear n0_ n1_ n2_
                         have p167 : 0 ≤ (x7_1 : Int) := of_decide_eq_true aS
                         have q167 : x7_1 < (t158.length : Int) := of_decide_eq_true aS
                         obtain ⟨ad167, A167_0, c167_0, e167, hx167_0, hl167_0, hi167_0⟩ := at_L1 (Kd.N_reads' HO_5.out).2.2 x7_1 p167 q167
                         cases e167
                         obtain ⟨ce167, hce167, hMe167, hcc167⟩ := Kd.N_get HO_5.out [] x7_1 p167 (by first | exact q167 | exact of_decide_eq_true aS | (have e_ := (Kd.N_reads' HO_5.out).1; omega))
                         obtain ⟨ua167_0, uc167_0, rfl, ul167_0, ge167_0⟩ := Kd.FK_slice_open hMe167
                         have hv167_0 := hcc167 0 _ rfl
                         rw [Nat.add_zero, show ((Kd.slice 3 (Kd.int .i64))).sz = 1 from rfl, Nat.mul_one] at hv167_0
                         replace hv167_0 := Option.some.inj (hv167_0.symm.trans hx167_0)
                         injection hv167_0 with hva_ hvn_ hvc_
                         rw [hva_] at ge167_0
                         rw [hvc_] at ul167_0
                         have HL167_0 := Aside0.mk (show Kd.V (Kd.int .i64) 3 _ w.heap.size _ _ (rd_L1 t158 x7_1) from Kd.V_mk ul167_0 ge167_0)
                         clear hva_ hvn_ hvc_ ge167_0 ul167_0
                         clear hcc167 hce167
                         have HR167_0 := Aside0.mk hi167_0
                         have HC167_0 := Aside0.mk hl167_0
                         clear hi167_0 hl167_0
                         replace p167 := eq_true p167
                         replace q167 := eq_true q167
                         have p168 : 0 ≤ (x8_2 : Int) := of_decide_eq_true aS
                         have q168 : x8_2 < (t158.length : Int) := of_decide_eq_true aS
                         obtain ⟨ad168, A168_0, c168_0, e168, hx168_0, hl168_0, hi168_0⟩ := at_L1 (Kd.N_reads' HO_5.out).2.2 x8_2 p168 q168
                         obtain rfl : ad167 = ad168 := (by injection e168)
                         obtain ⟨ce168, hce168, hMe168, hcc168⟩ := Kd.N_get HO_5.out [] x8_2 p168 (by first | exact q168 | exact of_decide_eq_true aS | (have e_ := (Kd.N_reads' HO_5.out).1; omega))
                         obtain ⟨ua168_0, uc168_0, rfl, ul168_0, ge168_0⟩ := Kd.FK_slice_open hMe168
                         have hv168_0 := hcc168 0 _ rfl
                         rw [Nat.add_zero, show ((Kd.slice 3 (Kd.int .i64))).sz = 1 from rfl, Nat.mul_one] at hv168_0
                         replace hv168_0 := Option.some.inj (hv168_0.symm.trans hx168_0)
                         injection hv168_0 with hva_ hvn_ hvc_
                         rw [hva_] at ge168_0
                         rw [hvc_] at ul168_0
                         have HL168_0 := Aside0.mk (show Kd.V (Kd.int .i64) 3 _ w.heap.size _ _ (rd_L1 t158 x8_2) from Kd.V_mk ul168_0 ge168_0)
                         clear hva_ hvn_ hvc_ ge168_0 ul168_0
                         clear hcc168 hce168
                         have HR168_0 := Aside0.mk hi168_0
                         have HC168_0 := Aside0.mk hl168_0
                         clear hi168_0 hl168_0
                         replace p168 := eq_true p168
                         replace q168 := eq_true q168
                         have p169 : 0 ≤ (x9_3 : Int) := of_decide_eq_true aS
                         have q169 : x9_3 < (t161.length : Int) := of_decide_eq_true aS
                         obtain ⟨ad169, A169_0, c169_0, e169, hx169_0, hl169_0, hi169_0⟩ := at_L1 (Kd.N_reads' HO_6.out).2.2 x9_3 p169 q169
                         cases e169
                         obtain ⟨ce169, hce169, hMe169, hcc169⟩ := Kd.N_get HO_6.out [] x9_3 p169 (by first | exact q169 | exact of_decide_eq_true aS | (have e_ := (Kd.N_reads' HO_6.out).1; omega))
                         obtain ⟨ua169_0, uc169_0, rfl, ul169_0, ge169_0⟩ := Kd.FK_slice_open hMe169
                         have hv169_0 := hcc169 0 _ rfl
                         rw [Nat.add_zero, show ((Kd.slice 3 (Kd.int .i64))).sz = 1 from rfl, Nat.mul_one] at hv169_0
                         replace hv169_0 := Option.some.inj (hv169_0.symm.trans hx169_0)
                         injection hv169_0 with hva_ hvn_ hvc_
                         rw [hva_] at ge169_0
                         rw [hvc_] at ul169_0
                         have HL169_0 := Aside0.mk (show Kd.V (Kd.int .i64) 3 _ w.heap.size _ _ (rd_L1 t161 x9_3) from Kd.V_mk ul169_0 ge169_0)
                         clear hva_ hvn_ hvc_ ge169_0 ul169_0
                         clear hcc169 hce169
                         have HR169_0 := Aside0.mk hi169_0
                         have HC169_0 := Aside0.mk hl169_0
                         clear hi169_0 hl169_0
                         replace p169 := eq_true p169
                         replace q169 := eq_true q169
                         refine start_ (n := 14) (S := fun w' => w'.cell? (ad167.add (x7_1).toNat) = some (.slice A167_0 (rd_L1 t158 x7_1).length c167_0) ∧ w'.cell? (ad167.add (x8_2).toNat) = some (.slice A168_0 (rd_L1 t158 x8_2).length c168_0) ∧ w'.cell? (ad169.add (x9_3).toNat) = some (.slice A169_0 (rd_L1 t161 x9_3).length c169_0)) (ds := []) #[false, false, false, false, false, false, false, false, false, false, false, false, false, false] (by kernel_rfl) rfl rfl ⟨hx167_0, hx168_0, hx169_0⟩ (fun hHeld => ?_); refine with_tabW spec_l9Pair.tab11 spec_l9Pair.bits11 (fun HT_ HW_ => ?_)
                         generalize wr.drew = w30 at HO_5 HO_6 HB HL167_0 HL168_0 HL169_0 HR167_0 HR168_0 HR169_0 hx167_0 hx168_0 hx169_0 hHeld ⊢
                         refine pure_ (i := 0) (N := some 31) (v := ?_) (a' := ?_) #[true, false, false, false, false, false, false, false, false, false, false, false, false, false] rfl rfl (any_of HT_.out (by kernel_rfl)) (fun _ _ _ h => h) (Or.inl ⟨by rfl, ?_⟩) ?_ ?_
                         rotate_left
                         · intro w'
                           go_simp
                           with_reducible rfl
                         rotate_left
                         · exact aP
                         refine pure_ (i := 1) (N := some 32) (v := ?_) (a' := ?_) #[true, true, false, false, false, false, false, false, false, false, false, false, false, false] rfl rfl (any_of HT_.out (by kernel_rfl)) (fun _ _ _ h => h) (Or.inl ⟨by rfl, ?_⟩) ?_ ?_
                         rotate_left
                         · intro w'
                           go_simp
                           with_reducible rfl
                         rotate_left
                         · exact aP
                         refine pure_ (i := 2) (N := some 33) (v := ?_) (a' := ?_) #[true, true, true, false, false, false, false, false, false, false, false, false, false, false] rfl rfl (any_of HT_.out (by kernel_rfl)) (fun _ _ _ h => h) (Or.inl ⟨by rfl, ?_⟩) ?_ ?_
                         rotate_left
                         · intro w'
                           go_simp
                           with_reducible rfl
                         rotate_left
                         · exact aP
                         refine pure_ (i := 3) (N := some 34) (v := ?_) (a' := ?_) #[true, true, true, true, false, false, false, false, false, false, false, false, false, false] rfl rfl (any_of HT_.out (by kernel_rfl)) (fun _ _ _ h => h) (Or.inl ⟨by rfl, ?_⟩) ?_ ?_
                         rotate_left
                         · intro w'
                           go_simp
                           with_reducible rfl
                         rotate_left
                         · exact aP
                         refine pure_ (i := 5) (N := some 36) (v := ?_) (a' := ?_) #[true, true, true, true, false, true, false, false, false, false, false, false, false, false] rfl rfl (any_of HT_.out (by kernel_rfl)) (fun _ _ _ h => h) (Or.inl ⟨by rfl, ?_⟩) ?_ ?_
                         rotate_left
                         · intro w'
                           go_simp
                           with_reducible rfl
                         rotate_left
                         · exact aP
                         refine pure_ (i := 6) (N := some 37) (v := ?_) (a' := ?_) #[true, true, true, true, false, true, true, false, false, false, false, false, false, false] rfl rfl (any_of HT_.out (by kernel_rfl)) (fun _ _ _ h => h) (Or.inl ⟨by rfl, ?_⟩) ?_ ?_
                         rotate_left
                         · intro w'
                           go_simp
                           with_reducible rfl
                         rotate_left
                         · exact aP
                         refine pure_ (i := 7) (N := some 38) (v := ?_) (a' := ?_) #[true, true, true, true, false, true, true, true, false, false, false, false, false, false] rfl rfl (any_of HT_.out (by kernel_rfl)) (fun _ _ _ h => h) (Or.inl ⟨by rfl, ?_⟩) ?_ ?_
                         rotate_left
                         · intro w'
                           go_simp
                           with_reducible rfl
                         rotate_left
                         · exact aP
                         refine pure_ (i := 9) (N := some 40) (v := ?_) (a' := ?_) #[true, true, true, true, false, true, true, true, false, true, false, false, false, false] rfl rfl (any_of HT_.out (by kernel_rfl)) (fun _ _ _ h => h) (Or.inl ⟨by rfl, ?_⟩) ?_ ?_
                         rotate_left
                         · intro w'
                           go_simp
                           with_reducible rfl
                         rotate_left
                         · exact aP
                         refine pure_ (i := 10) (N := some 41) (v := ?_) (a' := ?_) #[true, true, true, true, false, true, true, true, false, true, true, false, false, false] rfl rfl (any_of HT_.out (by kernel_rfl)) (fun _ _ _ h => h) (Or.inl ⟨by rfl, ?_⟩) ?_ ?_
                         rotate_left
                         · intro w'
                           go_simp
                           with_reducible rfl
                         rotate_left
                         · exact aP
                         refine pure_ (i := 11) (N := some 42) (v := ?_) (a' := ?_) #[true, true, true, true, false, true, true, true, false, true, true, true, false, false] rfl rfl (any_of HT_.out (by kernel_rfl)) (fun _ _ _ h => h) (Or.inl ⟨by rfl, ?_⟩) ?_ ?_
                         rotate_left
                         · intro w'
                           go_simp
                           with_reducible rfl
                         rotate_left
                         · exact aP
                         refine take_ (i := 4) (N := some 35) (v := ?_) (a' := ?_) #[true, true, true, true, true, true, true, true, false, true, true, true, false, false] rfl rfl (take_ofW HT_.out HW_.out (by kernel_rfl)) (fun _ _ _ h => h) (Or.inl ⟨by rfl, ?_⟩) hHeld ?_ ?_
                         rotate_left
                         · rintro w' ⟨s0, s1, s2⟩
                           go_simp
                           with_reducible rfl
                         rotate_left
                         · exact aP
                         refine take_ (i := 8) (N := some 39) (v := ?_) (a' := ?_) #[true, true, true, true, true, true, true, true, true, true, true, true, false, false] rfl rfl (take_ofW HT_.out HW_.out (by kernel_rfl)) (fun _ _ _ h => h) (Or.inl ⟨by rfl, ?_⟩) hHeld ?_ ?_
                         rotate_left
                         · rintro w' ⟨s0, s1, s2⟩
                           go_simp
                           with_reducible rfl
                         rotate_left
                         · exact aP
                         refine take_ (i := 12) (N := some 43) (v := ?_) (a' := ?_) #[true, true, true, true, true, true, true, true, true, true, true, true, true, false] rfl rfl (take_ofW HT_.out HW_.out (by kernel_rfl)) (fun _ _ _ h => h) (Or.inl ⟨by rfl, ?_⟩) hHeld ?_ ?_
                         rotate_left
                         · rintro w' ⟨s0, s1, s2⟩
                           go_simp
                           with_reducible rfl
                         rotate_left
                         · exact aP
                         refine one_ (i := 13) (N := some 44) #[true, true, true, true, true, true, true, true, true, true, true, true, true, true] rfl rfl (one_of HT_.out (by kernel_rfl)) (by decide) (fun K hK => ?_)
                         refine goes_ Try.func37 (by kernel_rfl) rfl #[.slice A1 l1.length c1, .slice A167_0 (rd_L1 t158 x7_1).length c167_0, .slice A168_0 (rd_L1 t158 x8_2).length c168_0, .slice A169_0 (rd_L1 t161 x9_3).length c169_0] (by rfl) rfl rfl aT ?_
                         with_reducible refine (spec_l9Joined.calls k3 _ _ l1 _ _ (rd_L1 t158 x7_1) _ _ (rd_L1 t158 x8_2) _ _ (rd_L1 t161 x9_3) false _ ?side1 ?side2 ?side3 ?side4 ?side5 ?side6 ?side7 ?side8 A16.out).mono ?_
                         (case side1 => exact cB HR1 HB)
                         (case side2 => exact HC1.out)
                         (case side3 => repeat (first | exact (by repeat (first | (with_reducible exact HR167_0.out) | (with_reducible refine Kd.C_alloc ?_ _) | (with_reducible refine Kd.C_drewN ?_ _) | (with_reducible refine Kd.C_drew ?_) | exact HR167_0.out)) | (with_reducible refine Kd.C_alloc ?_ _) | (with_reducible refine Kd.C_drewN ?_ _) | (with_reducible refine Kd.C_drew ?_)))
                         (case side4 => exact HC167_0.out)
                         (case side5 => repeat (first | exact (by repeat (first | (with_reducible exact HR168_0.out) | (with_reducible refine Kd.C_alloc ?_ _) | (with_reducible refine Kd.C_drewN ?_ _) | (with_reducible refine Kd.C_drew ?_) | exact HR168_0.out)) | (with_reducible refine Kd.C_alloc ?_ _) | (with_reducible refine Kd.C_drewN ?_ _) | (with_reducible refine Kd.C_drew ?_)))
                         (case side6 => exact HC168_0.out)
                         (case side7 => repeat (first | exact (by repeat (first | (with_reducible exact HR169_0.out) | (with_reducible refine Kd.C_alloc ?_ _) | (with_reducible refine Kd.C_drewN ?_ _) | (with_reducible refine Kd.C_drew ?_) | exact HR169_0.out)) | (with_reducible refine Kd.C_alloc ?_ _) | (with_reducible refine Kd.C_drewN ?_ _) | (with_reducible refine Kd.C_drew ?_)))
                         (case side8 => exact HC169_0.out)
                         rintro e w' ⟨rfl, ⟨nd, rfl⟩⟩
                         refine ⟨_, rfl, ?_⟩
                         refine hK.out _ _ ⟨hHeld.1, hHeld.2.1, hHeld.2.2⟩ (fun hHeld => ?_)
                         clear hK K
                         refine norm_ (a' := ?_) ?_ ?_
                         rotate_left
                         · show Act.put _ (some 44) _ = _
                           simp only [Act.put, List.setIfInBounds_toArray, List.set_cons_zero, List.set_cons_succ, i64_w, i32_w]
                           rfl
                         refine done_ (done_of HT_.out (by kernel_rfl)) ?_
                         try go_wp2
                         go_roundg k3
                         case measure => have := HK1.out; have := HK2.out; have := HK3.out; omega
                         case rel => exact ⟨(wrap64 (x9_3 + 1)), rD, H', ⟨by have := HK1.out; have := HK2.out; have := HK3.out; omega⟩, ⟨pN HO_5⟩, ⟨pN HO_6⟩, ⟨bB HB⟩⟩
                     · rw [if_neg c15] at H
                       exact absurd H (by simp)
                   · rw [if_neg c14] at H
                     exact absurd H (by simp)
                 · rw [if_neg c13] at H
                   exact absurd H (by simp)
               · rw [if_neg c12] at H
                 exact absurd H (by simp)
             · rw [if_neg c11] at H
               exact absurd H (by simp)
           · rw [if_neg c10] at H
             have c10b0 : decide (x9_3 < (t161.length : Int)) = false := decide_eq_false c10
             clear c10
             have H' := Aside0.mk H
             clear H
             obtain ⟨Ao31, co31, eo31⟩ := Kd.N_slice HO_6.out
             subst eo31
             go_wp2
             go_roundg k3
             case measure => have := HK1.out; have := HK2.out; have := HK3.out; omega
             case rel => exact ⟨(wrap64 (x8_2 + 1)), rD, H', ⟨by have := HK1.out; have := HK2.out; have := HK3.out; omega⟩, ⟨pN HO_5⟩, ⟨pN HO_6⟩, ⟨bB HB⟩⟩
       · rw [if_neg c9] at H
         have c9b0 : decide (x8_2 < (t158.length : Int)) = false := decide_eq_false c9
         clear c9
         have H' := Aside0.mk H
         clear H
         go_wp2
         go_roundg k2
         case measure => have := HK1.out; have := HK2.out; omega
         case rel => exact ⟨(wrap64 (x7_1 + 1)), rD, H', ⟨by have := HK1.out; have := HK2.out; omega⟩, ⟨pN HO_5⟩, ⟨pN HO_6⟩, ⟨bB HB⟩⟩
   · rw [if_neg c7] at H
     have c7b0 : decide (x7_1 < (t158.length : Int)) = false := decide_eq_false c7
     clear c7
     obtain ⟨y164, hy164⟩ : ∃ y_ : List (List Int), y_ = (([] : List (List Int))) := ⟨_, rfl⟩
     replace H : (some y164) = some r := by first | (rw [hy164]; with_reducible exact H) | (have H2_ := (Option.bind_some _ _).symm.trans H; rw [hy164]; with_reducible exact H2_) | (have H2_ := (Option.bind_some _ _).symm.trans H; with_reducible exact H2_) | with_reducible exact H | (rw [hy164]; exact H) | exact H
     have Ny164 := Aside0.mk hy164
     clear hy164
     obtain rfl := Option.some.inj H
     obtain ⟨Ao32, co32, eo32⟩ := Kd.N_slice HO_5.out
     subst eo32
     go_wp2_with (first | ((with_reducible refine gate_dst (N := 60) rfl ?_); refine Kd.N_lit (Kd.slice 3 (Kd.int .i64)) _ 22 ?hg (N' := 60) ?hd (xs := ([] : List (List Int))) (inner := []) (ok := (fun k_ => (w.heap.size ≤ k_) ∧ some k_ ≠ (.slice Ao32 t158.length co32 : Value).ownBlock ∧ some k_ ≠ (v162 : Value).ownBlock)) (okp := (fun k_ => (w.heap.size ≤ k_) ∧ some k_ ≠ (.slice Ao32 t158.length co32 : Value).ownBlock ∧ some k_ ≠ (v162 : Value).ownBlock)) ?hr ?hp (fun _ hk => hk) ((show ∀ k_, wr.heap.size ≤ k_ → (fun k_ => (w.heap.size ≤ k_) ∧ some k_ ≠ (.slice Ao32 t158.length co32 : Value).ownBlock ∧ some k_ ≠ (v162 : Value).ownBlock) k_ from fun k_ hk => ⟨(Nat.le_trans (below_size (bB HB)) hk), Kd.fresh' (Kd.N_lt (pN HO_5)) k_ hk, Kd.fresh' (Kd.N_lt (pN HO_6)) k_ hk⟩) _ (Nat.le_refl _)) (Below.refl _ _) (Nat.le_refl _) (by simp) ?_; (case hd => rfl); (case hg => rfl); (case hr => first | (go_simp; done) | (go_simp; rfl)); (case hp => exact (Reps.none _ _)); intro v165 w33 ho34 hb hg_ hnew_; clear hg_ hnew_; (first | rw [← Ny164.out] at ho34 | (simp only [Int.reduceToNat] at ho34; rw [← Ny164.out] at ho34)); have n0_ := Aside0.mk (Kd.N_elder' (pN HO_5) (Kd.N_base ho34) hb); have n1_ := Aside0.mk (Kd.N_elder' (pN HO_6) (Kd.N_base ho34) hb); have n2_ := Aside0.mk (Kd.N_lower ho34 (below_size (bB HB))); have n3_ := Aside0.mk (below_step (bB HB) hb); clear HO_5; clear HO_6; clear HB; have HO_5 := n0_; have HO_6 := n1_; have HO166 := n2_; have HB := n3_; clear n0_ n1_ n2_ n3_; clear hb ho34))
     go_ret
     exact ⟨_, eW, by (with_reducible repeat (first | apply Kd.N_alloc | apply Kd.N_drewN | apply Kd.N_drew)); exact Kd.N_mono HO166.out (fun _ hk => hk.1), bB HB⟩

end Go.Proofs.Ytbajicdhhidicaa.PFnExactGatesNeeded
