-- Printed by wip/tools/myprint.py (the printer of the kit, patched by that program; roots chosen by it)
import Derived.Test.YtihhedemdkifhaaPFnExactSwitchWrongx0
import Derived.Test.YtihhedemdkifhaaPFnExactSwitchWrongx1
import Derived.Test.YtihhedemdkifhaaSh
namespace Go.Proofs.Ytihhedemdkifhaa.PFnExactSwitchWrong
open Go.RowKit Go.Proofs.Ytihhedemdkifhaa.Sh Go.Proofs.YtihhedemdkifhaaW.PrintWords Go.Proofs.YtihhedemdkifhaaW.PrintLast Go.Proofs.YtihhedemdkifhaaW.PrintMore
attribute [local go_sem] max2_int min2_int max_two min_two max_three min_three max_four min_four   -- for this text's walks alone
set_option linter.unusedVariables false
set_option linter.unusedSimpArgs false

/-! ### spec_l11Begin: function 54 -/
def spec_l11Begin.l0 : Nat → List (List Int) → Int → Int → Int → Option (Int)
 | 0, _, _, _, _ => none
 | k + 1, x0, x1, x5, x6 => if x6 < (x0.length : Int) then (if 0 ≤ x6 then (if 0 ≤ x1 then (if x1 < ((rd_L1 x0 x6).length : Int) then ((spec_l1Least.f x5 (rd (rd_L1 x0 x6) x1)).bind fun t119 => (spec_l11Begin.l0 k x0 x1 t119 (wrap64 (x6 + 1)))) else (none)) else (none)) else (none)) else (some x5)
def spec_l11Begin.f (k : Nat) (l0 : List (List Int)) (a1 : Int) : Option (Int) := if 0 < (l0.length : Int) then (if 0 ≤ a1 then (if a1 < ((rd_L1 l0 0).length : Int) then (spec_l11Begin.l0 k l0 a1 (rd (rd_L1 l0 0) a1) 1) else (none)) else (none)) else (none)
set_option maxHeartbeats 8000000 in
set_option maxRecDepth 100000 in
theorem spec_l11Begin.calls (k : Nat) (A0 : Option Addr) (c0 : Nat) (l0 : List (List Int)) (a1 : Int) (r : Int) (w : World) (hr0 : Kd.C (Kd.slice 3 (Kd.int .i64)) w A0 l0.length l0) (hc0 : l0.length ≤ c0) (h : spec_l11Begin.f k l0 a1 = some r) :
 Calls Try.prog 54 #[.slice A0 l0.length c0, .int .i64 a1] w fun e w' => e = .returned (.int .i64 r) ∧ Drawn0 w w' := by
 have HR0 := Aside0.mk hr0
 have HC0 := Aside0.mk hc0
 clear hr0 hc0
 have H : (if 0 < (l0.length : Int) then (if 0 ≤ a1 then (if a1 < ((rd_L1 l0 0).length : Int) then (spec_l11Begin.l0 k l0 a1 (rd (rd_L1 l0 0) a1) 1) else (none)) else (none)) else (none)) = some r := h
 clear h
 by_cases c3 : 0 < (l0.length : Int)
 · rw [if_pos c3] at H
   have c3b0 : decide (0 < (l0.length : Int)) = true := decide_eq_true c3
   have c3b1 : decide (0 < l0.length) = true := decide_eq_true (by omega)
   clear c3
   by_cases c4 : 0 ≤ a1
   · rw [if_pos c4] at H
     have c4b0 : decide (0 ≤ a1) = true := decide_eq_true c4
     clear c4
     by_cases c5 : a1 < ((rd_L1 l0 0).length : Int)
     · rw [if_pos c5] at H
       have c5b0 : decide (a1 < ((rd_L1 l0 0).length : Int)) = true := decide_eq_true c5
       clear c5
       have H' := Aside0.mk H
       clear H
       have p115 : 0 ≤ (0 : Int) := (by omega)
       have q115 : 0 < (l0.length : Int) := of_decide_eq_true aS
       obtain ⟨ad115, A115_0, c115_0, e115, hx115_0, hl115_0, hi115_0⟩ := at_L1 HR0.out 0 p115 q115
       cases e115
       have qi115 : (0 < l0.length) = True := eq_true (by omega)
       (try rw [show ((0 : Int)).toNat = 0 from rfl] at hx115_0)
       (try rw [Addr.add_zero'] at hx115_0)
       have HR115_0 := Aside0.mk hi115_0
       have HC115_0 := Aside0.mk hl115_0
       clear hi115_0 hl115_0
       replace p115 := eq_true p115
       replace q115 := eq_true q115
       have p116 : 0 ≤ (a1 : Int) := of_decide_eq_true aS
       have q116 : a1 < ((rd_L1 l0 0).length : Int) := of_decide_eq_true aS
       obtain ⟨ad116, e116, hx116_0⟩ := Kd.at_int HR115_0.out a1 p116 q116
       cases e116
       replace p116 := eq_true p116
       replace q116 := eq_true q116
       go_enter Try.func54, Try.ntmps54
       go_wp2
       go_loopg [5, 6] k (fun kq v5 v6 w' => ∃ (x5_1 : Int) (x6_1 : Int), v5 = .int .i64 x5_1 ∧ v6 = .int .i64 x6_1 ∧ Aside0 (spec_l11Begin.l0 kq l0 a1 x5_1 x6_1 = some r) ∧ Aside0 (kq ≤ k) ∧ Drawn0 w w')
       case atStart => exact ⟨(rd (rd_L1 l0 0) a1), (1), rD, rD, H', ⟨Nat.le_refl _⟩, by repeat (first | exact Drawn0.refl _ | apply Drawn0.step)⟩
       case round =>
        clear H'
        try clear c3
        try clear c3b0
        try clear c3b1
        try clear c4
        try clear c4b0
        try clear c5
        try clear c5b0
        try clear hx115_0
        try clear hx116_0
        try clear p115
        try clear p116
        try clear q115
        try clear q116
        obtain ⟨x5_1, x6_1, rfl, rfl, HA, HK1, ⟨m1, rfl⟩⟩ := hrel
        cases gk with
        | zero => exact absurd HA.out (by simp [spec_l11Begin.l0])
        | succ k1 =>
         have H := HA.out
         clear HA
         simp only [spec_l11Begin.l0] at H
         by_cases c6 : x6_1 < (l0.length : Int)
         · rw [if_pos c6] at H
           have c6b0 : decide (x6_1 < (l0.length : Int)) = true := decide_eq_true c6
           clear c6
           by_cases c7 : 0 ≤ x6_1
           · rw [if_pos c7] at H
             have c7b0 : decide (0 ≤ x6_1) = true := decide_eq_true c7
             clear c7
             by_cases c8 : 0 ≤ a1
             · rw [if_pos c8] at H
               have c8b0 : decide (0 ≤ a1) = true := decide_eq_true c8
               clear c8
               by_cases c9 : a1 < ((rd_L1 l0 x6_1).length : Int)
               · rw [if_pos c9] at H
                 have c9b0 : decide (a1 < ((rd_L1 l0 x6_1).length : Int)) = true := decide_eq_true c9
                 clear c9
                 replace H := Option.bind_eq_some_iff.mp H
                 obtain ⟨t119, A100, H⟩ := H
                 replace H : (spec_l11Begin.l0 k1 l0 a1 t119 (wrap64 (x6_1 + 1))) = some r := H
                 have A10 := Aside0.mk A100
                 clear A100
                 have H' := Aside0.mk H
                 clear H
                 have p117 : 0 ≤ (x6_1 : Int) := of_decide_eq_true aS
                 have q117 : x6_1 < (l0.length : Int) := of_decide_eq_true aS
                 obtain ⟨ad117, A117_0, c117_0, e117, hx117_0, hl117_0, hi117_0⟩ := at_L1 HR0.out x6_1 p117 q117
                 obtain rfl : ad115 = ad117 := (by injection e117)
                 have HR117_0 := Aside0.mk hi117_0
                 have HC117_0 := Aside0.mk hl117_0
                 clear hi117_0 hl117_0
                 replace p117 := eq_true p117
                 replace q117 := eq_true q117
                 have p118 : 0 ≤ (a1 : Int) := of_decide_eq_true aS
                 have q118 : a1 < ((rd_L1 l0 x6_1).length : Int) := of_decide_eq_true aS
                 obtain ⟨ad118, e118, hx118_0⟩ := Kd.at_int HR117_0.out a1 p118 q118
                 cases e118
                 replace p118 := eq_true p118
                 replace q118 := eq_true q118
                 go_wp2_with (first | ((with_reducible refine gate_callee (f := 101) rfl ?_); refine goesL_ (some 27) rfl rfl Try.func101 (by kernel_rfl) rfl #[.int .i64 x5_1, .int .i64 (rd (rd_L1 l0 x6_1) a1)] rfl aT ?_; (with_reducible refine (spec_l1Least.calls x5_1 (rd (rd_L1 l0 x6_1) a1) t119 _ A10.out).mono ?_); rintro e w' ⟨rfl, ⟨nd, rfl⟩⟩; refine ⟨_, rfl, ?_⟩))
                 go_roundg k1
                 case measure => have := HK1.out; omega
                 case rel => exact ⟨(t119), (wrap64 (x6_1 + 1)), rD, rD, H', ⟨by have := HK1.out; omega⟩, by repeat (first | exact Drawn0.refl _ | apply Drawn0.step)⟩
               · rw [if_neg c9] at H
                 exact absurd H (by simp)
             · rw [if_neg c8] at H
               exact absurd H (by simp)
           · rw [if_neg c7] at H
             exact absurd H (by simp)
         · rw [if_neg c6] at H
           have c6b0 : decide (x6_1 < (l0.length : Int)) = false := decide_eq_false c6
           clear c6
           obtain rfl := Option.some.inj H
           go_wp2
           go_ret
           exact ⟨rD, by repeat (first | exact Drawn0.refl _ | apply Drawn0.step)⟩
     · rw [if_neg c5] at H
       exact absurd H (by simp)
   · rw [if_neg c4] at H
     exact absurd H (by simp)
 · rw [if_neg c3] at H
   exact absurd H (by simp)

/-! ### spec_l11Wrong: function 102 -/
def spec_l11Wrong.f (a0 : Int) (a1 : Int) : Option (Bool) := if a0 = 0 then (some false) else (some (a0 != a1))
set_option maxHeartbeats 8000000 in
set_option maxRecDepth 100000 in
theorem spec_l11Wrong.calls (a0 : Int) (a1 : Int) (r : Bool) (w : World) (h : spec_l11Wrong.f a0 a1 = some r) :
 Calls Try.prog 102 #[.int .i64 a0, .int .i64 a1] w fun e w' => e = .returned (.bool r) ∧ Drawn0 w w' := by
 have H : (if a0 = 0 then (some false) else (some (a0 != a1))) = some r := h
 clear h
 by_cases c3 : a0 = 0
 · rw [if_pos c3] at H
   have c3b0 : (a0 == 0) = true := beq_iff_eq.mpr c3
   have c3b1 : (a0 != 0) = false := bne_eq_false_iff_eq.mpr c3
   clear c3
   obtain rfl := Option.some.inj H
   go_enter Try.func102, Try.ntmps102
   go_wp2
   go_ret
   exact ⟨rD, by repeat (first | exact Drawn0.refl _ | apply Drawn0.step)⟩
 · rw [if_neg c3] at H
   have c3b0 : (a0 == 0) = false := beq_eq_false_iff_ne.mpr c3
   have c3b1 : (a0 != 0) = true := bne_iff_ne.mpr c3
   obtain rfl := Option.some.inj H
   go_enter Try.func102, Try.ntmps102
   go_wp2
   go_ret
   exact ⟨rD, by repeat (first | exact Drawn0.refl _ | apply Drawn0.step)⟩

end Go.Proofs.Ytihhedemdkifhaa.PFnExactSwitchWrong
