-- Printed by wip/tools/myprint.py (the printer of the kit, patched by that program; roots chosen by it)
import Derived.Lib.OwnBridge
import Derived.Sort.OwnSortedInts
import Derived.Test.YtfkfahdikmfpeaaSl
import Derived.Test.YtfkfahdikmfpeaaIns
import Derived.Test.YtfkfahdikmfpeaaWRepsOne
import Derived.Test.YtfkfahdikmfpeaaPFnExactFewestPlacesx0
import Derived.Test.YtfkfahdikmfpeaaPFnExactFewestPlacesx8
import Derived.Test.YtfkfahdikmfpeaaSh
namespace Go.Proofs.Ytfkfahdikmfpeaa.PFnExactFewestPlaces
open Go.RowKit Go.Proofs.Ytfkfahdikmfpeaa.Sh Go.Proofs.YtfkfahdikmfpeaaW.PrintWords Go.Proofs.YtfkfahdikmfpeaaW.PrintLast Go.Proofs.YtfkfahdikmfpeaaW.PrintMore
attribute [local go_sem] max2_int min2_int max_two min_two max_three min_three max_four min_four   -- for this text's walks alone
set_option linter.unusedVariables false
set_option linter.unusedSimpArgs false

/-! ### cmp_Compare_int: function 181 -/
def cmp_Compare_int.f (a0 : Int) (a1 : Int) : Option (Int) := (cmp_isNaN_int.f a0).bind fun t271 => ((cmp_isNaN_int.f a1).bind fun t272 => (if t271 = true then (if t272 = true then (some 0) else (some (-1))) else (if t272 = true then (some 1) else (if a0 < a1 then (some (-1)) else (if a0 > a1 then (some 1) else (some 0))))))
set_option maxHeartbeats 8000000 in
set_option maxRecDepth 100000 in
theorem cmp_Compare_int.calls (a0 : Int) (a1 : Int) (r : Int) (w : World) (h : cmp_Compare_int.f a0 a1 = some r) :
 Calls Try.prog 181 #[.int .i64 a0, .int .i64 a1] w fun e w' => e = .returned (.int .i64 r) ∧ Drawn0 w w' := by
 have H : ((cmp_isNaN_int.f a0).bind fun t271 => ((cmp_isNaN_int.f a1).bind fun t272 => (if t271 = true then (if t272 = true then (some 0) else (some (-1))) else (if t272 = true then (some 1) else (if a0 < a1 then (some (-1)) else (if a0 > a1 then (some 1) else (some 0))))))) = some r := h
 clear h
 replace H := Option.bind_eq_some_iff.mp H
 obtain ⟨t271, A30, H⟩ := H
 replace H : ((cmp_isNaN_int.f a1).bind fun t272 => (if t271 = true then (if t272 = true then (some 0) else (some (-1))) else (if t272 = true then (some 1) else (if a0 < a1 then (some (-1)) else (if a0 > a1 then (some 1) else (some 0)))))) = some r := H
 have A3 := Aside0.mk A30
 clear A30
 replace H := Option.bind_eq_some_iff.mp H
 obtain ⟨t272, A40, H⟩ := H
 replace H : (if t271 = true then (if t272 = true then (some 0) else (some (-1))) else (if t272 = true then (some 1) else (if a0 < a1 then (some (-1)) else (if a0 > a1 then (some 1) else (some 0))))) = some r := H
 have A4 := Aside0.mk A40
 clear A40
 by_cases c5 : t271 = true
 · subst c5
   have H1 : (if t272 = true then (some 0) else (some (-1))) = some r := by rw [if_pos rfl] at H; exact H
   clear H
   have H := H1
   clear H1
   by_cases c6 : t272 = true
   · subst c6
     have H1 : (some 0) = some r := by rw [if_pos rfl] at H; exact H
     clear H
     have H := H1
     clear H1
     obtain rfl := Option.some.inj H
     go_enter Try.func181, Try.ntmps181
     go_wp2_with (first | ((with_reducible refine gate_callee (f := 214) rfl ?_); refine goesL_ (some 8) rfl rfl Try.func214 (by kernel_rfl) rfl #[.int .i64 a0] rfl aT ?_; (with_reducible refine (cmp_isNaN_int.calls a0 true _ A3.out).mono ?_); rintro e w' ⟨rfl, ⟨nd, rfl⟩⟩; refine ⟨_, rfl, ?_⟩) | ((with_reducible refine gate_callee (f := 214) rfl ?_); refine goesL_ (some 10) rfl rfl Try.func214 (by kernel_rfl) rfl #[.int .i64 a1] rfl aT ?_; (with_reducible refine (cmp_isNaN_int.calls a1 true _ A4.out).mono ?_); rintro e w' ⟨rfl, ⟨nd, rfl⟩⟩; refine ⟨_, rfl, ?_⟩))
     go_ret
     exact ⟨rD, by repeat (first | exact Drawn0.refl _ | apply Drawn0.step)⟩
   · replace c6 := Bool.eq_false_iff.mpr c6
     subst c6
     have H1 : (some (-1)) = some r := by rw [if_neg (show ¬ (false = true) by decide)] at H; exact H
     clear H
     have H := H1
     clear H1
     obtain rfl := Option.some.inj H
     go_enter Try.func181, Try.ntmps181
     go_wp2_with (first | ((with_reducible refine gate_callee (f := 214) rfl ?_); refine goesL_ (some 8) rfl rfl Try.func214 (by kernel_rfl) rfl #[.int .i64 a0] rfl aT ?_; (with_reducible refine (cmp_isNaN_int.calls a0 true _ A3.out).mono ?_); rintro e w' ⟨rfl, ⟨nd, rfl⟩⟩; refine ⟨_, rfl, ?_⟩) | ((with_reducible refine gate_callee (f := 214) rfl ?_); refine goesL_ (some 10) rfl rfl Try.func214 (by kernel_rfl) rfl #[.int .i64 a1] rfl aT ?_; (with_reducible refine (cmp_isNaN_int.calls a1 false _ A4.out).mono ?_); rintro e w' ⟨rfl, ⟨nd, rfl⟩⟩; refine ⟨_, rfl, ?_⟩))
     go_ret
     exact ⟨rD, by repeat (first | exact Drawn0.refl _ | apply Drawn0.step)⟩
 · replace c5 := Bool.eq_false_iff.mpr c5
   subst c5
   have H1 : (if t272 = true then (some 1) else (if a0 < a1 then (some (-1)) else (if a0 > a1 then (some 1) else (some 0)))) = some r := by rw [if_neg (show ¬ (false = true) by decide)] at H; exact H
   clear H
   have H := H1
   clear H1
   by_cases c7 : t272 = true
   · subst c7
     have H1 : (some 1) = some r := by rw [if_pos rfl] at H; exact H
     clear H
     have H := H1
     clear H1
     obtain rfl := Option.some.inj H
     go_enter Try.func181, Try.ntmps181
     go_wp2_with (first | ((with_reducible refine gate_callee (f := 214) rfl ?_); refine goesL_ (some 8) rfl rfl Try.func214 (by kernel_rfl) rfl #[.int .i64 a0] rfl aT ?_; (with_reducible refine (cmp_isNaN_int.calls a0 false _ A3.out).mono ?_); rintro e w' ⟨rfl, ⟨nd, rfl⟩⟩; refine ⟨_, rfl, ?_⟩) | ((with_reducible refine gate_callee (f := 214) rfl ?_); refine goesL_ (some 10) rfl rfl Try.func214 (by kernel_rfl) rfl #[.int .i64 a1] rfl aT ?_; (with_reducible refine (cmp_isNaN_int.calls a1 true _ A4.out).mono ?_); rintro e w' ⟨rfl, ⟨nd, rfl⟩⟩; refine ⟨_, rfl, ?_⟩))
     go_ret
     exact ⟨rD, by repeat (first | exact Drawn0.refl _ | apply Drawn0.step)⟩
   · replace c7 := Bool.eq_false_iff.mpr c7
     subst c7
     have H1 : (if a0 < a1 then (some (-1)) else (if a0 > a1 then (some 1) else (some 0))) = some r := by rw [if_neg (show ¬ (false = true) by decide)] at H; exact H
     clear H
     have H := H1
     clear H1
     by_cases c8 : a0 < a1
     · rw [if_pos c8] at H
       have c8b0 : decide (a0 < a1) = true := decide_eq_true c8
       clear c8
       obtain rfl := Option.some.inj H
       go_enter Try.func181, Try.ntmps181
       go_wp2_with (first | ((with_reducible refine gate_callee (f := 214) rfl ?_); refine goesL_ (some 8) rfl rfl Try.func214 (by kernel_rfl) rfl #[.int .i64 a0] rfl aT ?_; (with_reducible refine (cmp_isNaN_int.calls a0 false _ A3.out).mono ?_); rintro e w' ⟨rfl, ⟨nd, rfl⟩⟩; refine ⟨_, rfl, ?_⟩) | ((with_reducible refine gate_callee (f := 214) rfl ?_); refine goesL_ (some 10) rfl rfl Try.func214 (by kernel_rfl) rfl #[.int .i64 a1] rfl aT ?_; (with_reducible refine (cmp_isNaN_int.calls a1 false _ A4.out).mono ?_); rintro e w' ⟨rfl, ⟨nd, rfl⟩⟩; refine ⟨_, rfl, ?_⟩))
       go_ret
       exact ⟨rD, by repeat (first | exact Drawn0.refl _ | apply Drawn0.step)⟩
     · rw [if_neg c8] at H
       have c8b0 : decide (a0 < a1) = false := decide_eq_false c8
       clear c8
       by_cases c9 : a0 > a1
       · rw [if_pos c9] at H
         have c9b0 : decide (a1 < a0) = true := decide_eq_true c9
         clear c9
         obtain rfl := Option.some.inj H
         go_enter Try.func181, Try.ntmps181
         go_wp2_with (first | ((with_reducible refine gate_callee (f := 214) rfl ?_); refine goesL_ (some 8) rfl rfl Try.func214 (by kernel_rfl) rfl #[.int .i64 a0] rfl aT ?_; (with_reducible refine (cmp_isNaN_int.calls a0 false _ A3.out).mono ?_); rintro e w' ⟨rfl, ⟨nd, rfl⟩⟩; refine ⟨_, rfl, ?_⟩) | ((with_reducible refine gate_callee (f := 214) rfl ?_); refine goesL_ (some 10) rfl rfl Try.func214 (by kernel_rfl) rfl #[.int .i64 a1] rfl aT ?_; (with_reducible refine (cmp_isNaN_int.calls a1 false _ A4.out).mono ?_); rintro e w' ⟨rfl, ⟨nd, rfl⟩⟩; refine ⟨_, rfl, ?_⟩))
         go_ret
         exact ⟨rD, by repeat (first | exact Drawn0.refl _ | apply Drawn0.step)⟩
       · rw [if_neg c9] at H
         have c9b0 : decide (a1 < a0) = false := decide_eq_false c9
         clear c9
         obtain rfl := Option.some.inj H
         go_enter Try.func181, Try.ntmps181
         go_wp2_with (first | ((with_reducible refine gate_callee (f := 214) rfl ?_); refine goesL_ (some 8) rfl rfl Try.func214 (by kernel_rfl) rfl #[.int .i64 a0] rfl aT ?_; (with_reducible refine (cmp_isNaN_int.calls a0 false _ A3.out).mono ?_); rintro e w' ⟨rfl, ⟨nd, rfl⟩⟩; refine ⟨_, rfl, ?_⟩) | ((with_reducible refine gate_callee (f := 214) rfl ?_); refine goesL_ (some 10) rfl rfl Try.func214 (by kernel_rfl) rfl #[.int .i64 a1] rfl aT ?_; (with_reducible refine (cmp_isNaN_int.calls a1 false _ A4.out).mono ?_); rintro e w' ⟨rfl, ⟨nd, rfl⟩⟩; refine ⟨_, rfl, ?_⟩))
         go_ret
         exact ⟨rD, by repeat (first | exact Drawn0.refl _ | apply Drawn0.step)⟩

/-! ### cmp_Or_int: function 204 -/
def cmp_Or_int.l0 : Nat → Int → List Int → Int → Int → Option (Int)
 | 0, _, _, _, _ => none
 | k + 1, x3, x6, x7, x8 => if x8 < x7 then (if 0 ≤ x8 then (if x8 < (x6.length : Int) then (if (rd x6 x8) = x3 then (cmp_Or_int.l0 k x3 x6 x7 (wrap64 (x8 + 1))) else (some (rd x6 x8))) else (none)) else (none)) else (some x3)
def cmp_Or_int.f (k : Nat) (l0 : List Int) : Option (Int) := cmp_Or_int.l0 k 0 l0 (l0.length : Int) 0
set_option maxHeartbeats 8000000 in
set_option maxRecDepth 100000 in
theorem cmp_Or_int.calls (k : Nat) (A0 : Option Addr) (c0 : Nat) (l0 : List Int) (r : Int) (w : World) (hr0 : Kd.C (Kd.int .i64) w A0 l0.length l0) (hc0 : l0.length ≤ c0) (h : cmp_Or_int.f k l0 = some r) :
 Calls Try.prog 204 #[.slice A0 l0.length c0] w fun e w' => e = .returned (.int .i64 r) ∧ Drawn0 w w' := by
 have HR0 := Aside0.mk hr0
 have HC0 := Aside0.mk hc0
 clear hr0 hc0
 have H : (cmp_Or_int.l0 k 0 l0 (l0.length : Int) 0) = some r := h
 clear h
 have H' := Aside0.mk H
 clear H
 go_enter Try.func204, Try.ntmps204
 go_wp2
 go_loopg [8] k (fun kq v8 w' => ∃ (x8_1 : Int), v8 = .int .i64 x8_1 ∧ Aside0 (cmp_Or_int.l0 kq 0 l0 (l0.length : Int) x8_1 = some r) ∧ Aside0 (kq ≤ k) ∧ Drawn0 w w')
 case atStart => exact ⟨(0), rD, H', ⟨Nat.le_refl _⟩, by repeat (first | exact Drawn0.refl _ | apply Drawn0.step)⟩
 case round =>
  clear H'
  obtain ⟨x8_1, rfl, HA, HK1, ⟨m1, rfl⟩⟩ := hrel
  cases gk with
  | zero => exact absurd HA.out (by simp [cmp_Or_int.l0])
  | succ k1 =>
   have H := HA.out
   clear HA
   simp only [cmp_Or_int.l0] at H
   by_cases c2 : x8_1 < (l0.length : Int)
   · rw [if_pos c2] at H
     have c2b0 : decide (x8_1 < (l0.length : Int)) = true := decide_eq_true c2
     clear c2
     by_cases c3 : 0 ≤ x8_1
     · rw [if_pos c3] at H
       have c3b0 : decide (0 ≤ x8_1) = true := decide_eq_true c3
       clear c3
       by_cases c4 : x8_1 < (l0.length : Int)
       · rw [if_pos c4] at H
         have c4b0 : decide (x8_1 < (l0.length : Int)) = true := decide_eq_true c4
         clear c4
         by_cases c5 : (rd l0 x8_1) = 0
         · rw [if_pos c5] at H
           have c5b0 : ((rd l0 x8_1) == 0) = true := beq_iff_eq.mpr c5
           have c5b1 : ((rd l0 x8_1) != 0) = false := bne_eq_false_iff_eq.mpr c5
           clear c5
           have H' := Aside0.mk H
           clear H
           have p273 : 0 ≤ (x8_1 : Int) := of_decide_eq_true aS
           have q273 : x8_1 < (l0.length : Int) := of_decide_eq_true aS
           obtain ⟨ad273, e273, hx273_0⟩ := Kd.at_int HR0.out x8_1 p273 q273
           cases e273
           replace p273 := eq_true p273
           replace q273 := eq_true q273
           go_wp2
           go_roundg k1
           case measure => have := HK1.out; omega
           case rel => exact ⟨(wrap64 (x8_1 + 1)), rD, H', ⟨by have := HK1.out; omega⟩, by repeat (first | exact Drawn0.refl _ | apply Drawn0.step)⟩
         · rw [if_neg c5] at H
           have c5b0 : ((rd l0 x8_1) == 0) = false := beq_eq_false_iff_ne.mpr c5
           have c5b1 : ((rd l0 x8_1) != 0) = true := bne_iff_ne.mpr c5
           obtain rfl := Option.some.inj H
           have p273 : 0 ≤ (x8_1 : Int) := of_decide_eq_true aS
           have q273 : x8_1 < (l0.length : Int) := of_decide_eq_true aS
           obtain ⟨ad273, e273, hx273_0⟩ := Kd.at_int HR0.out x8_1 p273 q273
           cases e273
           replace p273 := eq_true p273
           replace q273 := eq_true q273
           go_wp2
           go_ret
           exact ⟨rD, by repeat (first | exact Drawn0.refl _ | apply Drawn0.step)⟩
       · rw [if_neg c4] at H
         exact absurd H (by simp)
     · rw [if_neg c3] at H
       exact absurd H (by simp)
   · rw [if_neg c2] at H
     have c2b0 : decide (x8_1 < (l0.length : Int)) = false := decide_eq_false c2
     clear c2
     obtain rfl := Option.some.inj H
     go_wp2
     go_ret
     exact ⟨rD, by repeat (first | exact Drawn0.refl _ | apply Drawn0.step)⟩

/-! ### impl_squares: function 205 -/
def impl_squares.l0 : Nat → List Int → Int → List Int → Int → Int → Option (Int)
 | 0, _, _, _, _, _ => none
 | k + 1, x1, x5, x8, x9, x10 => if x10 < x9 then (if 0 ≤ x10 then (if x10 < (x8.length : Int) then (if x10 < (x1.length : Int) then (impl_squares.l0 k x1 (wrap64 (x5 + (wrap64 ((wrap64 ((rd x8 x10) - (rd x1 x10))) * (wrap64 ((rd x8 x10) - (rd x1 x10))))))) x8 x9 (wrap64 (x10 + 1))) else (none)) else (none)) else (none)) else (some x5)
def impl_squares.f (k : Nat) (l0 : List Int) (l1 : List Int) : Option (Int) := impl_squares.l0 k l1 0 l0 (l0.length : Int) 0
set_option maxHeartbeats 8000000 in
set_option maxRecDepth 100000 in
theorem impl_squares.calls (k : Nat) (A0 : Option Addr) (c0 : Nat) (l0 : List Int) (A1 : Option Addr) (c1 : Nat) (l1 : List Int) (r : Int) (w : World) (hr0 : Kd.C (Kd.int .i64) w A0 l0.length l0) (hc0 : l0.length ≤ c0) (hr1 : Kd.C (Kd.int .i64) w A1 l1.length l1) (hc1 : l1.length ≤ c1) (h : impl_squares.f k l0 l1 = some r) :
 Calls Try.prog 205 #[.slice A0 l0.length c0, .slice A1 l1.length c1] w fun e w' => e = .returned (.int .i64 r) ∧ Drawn0 w w' := by
 have HR0 := Aside0.mk hr0
 have HC0 := Aside0.mk hc0
 clear hr0 hc0
 have HR1 := Aside0.mk hr1
 have HC1 := Aside0.mk hc1
 clear hr1 hc1
 have H : (impl_squares.l0 k l1 0 l0 (l0.length : Int) 0) = some r := h
 clear h
 have H' := Aside0.mk H
 clear H
 go_enter Try.func205, Try.ntmps205
 go_wp2
 repeat (go_quiet (fail); try go_wp2)
 go_loopg [5, 10] k (fun kq v5 v10 w' => ∃ (x5_1 : Int) (x10_1 : Int), v5 = .int .i64 x5_1 ∧ v10 = .int .i64 x10_1 ∧ Aside0 (impl_squares.l0 kq l1 x5_1 l0 (l0.length : Int) x10_1 = some r) ∧ Aside0 (kq ≤ k) ∧ Drawn0 w w')
 case atStart => exact ⟨(0), (0), rD, rD, H', ⟨Nat.le_refl _⟩, by repeat (first | exact Drawn0.refl _ | apply Drawn0.step)⟩
 case round =>
  clear H'
  try clear c1
  obtain ⟨x5_1, x10_1, rfl, rfl, HA, HK1, ⟨m1, rfl⟩⟩ := hrel
  cases gk with
  | zero => exact absurd HA.out (by simp [impl_squares.l0])
  | succ k1 =>
   have H := HA.out
   clear HA
   simp only [impl_squares.l0] at H
   by_cases c3 : x10_1 < (l0.length : Int)
   · rw [if_pos c3] at H
     have c3b0 : decide (x10_1 < (l0.length : Int)) = true := decide_eq_true c3
     clear c3
     by_cases c4 : 0 ≤ x10_1
     · rw [if_pos c4] at H
       have c4b0 : decide (0 ≤ x10_1) = true := decide_eq_true c4
       clear c4
       by_cases c5 : x10_1 < (l0.length : Int)
       · rw [if_pos c5] at H
         have c5b0 : decide (x10_1 < (l0.length : Int)) = true := decide_eq_true c5
         clear c5
         by_cases c6 : x10_1 < (l1.length : Int)
         · rw [if_pos c6] at H
           have c6b0 : decide (x10_1 < (l1.length : Int)) = true := decide_eq_true c6
           clear c6
           have H' := Aside0.mk H
           clear H
           have p274 : 0 ≤ (x10_1 : Int) := of_decide_eq_true aS
           have q274 : x10_1 < (l0.length : Int) := of_decide_eq_true aS
           obtain ⟨ad274, e274, hx274_0⟩ := Kd.at_int HR0.out x10_1 p274 q274
           cases e274
           replace p274 := eq_true p274
           replace q274 := eq_true q274
           have p275 : 0 ≤ (x10_1 : Int) := of_decide_eq_true aS
           have q275 : x10_1 < (l1.length : Int) := of_decide_eq_true aS
           obtain ⟨ad275, e275, hx275_0⟩ := Kd.at_int HR1.out x10_1 p275 q275
           cases e275
           replace p275 := eq_true p275
           replace q275 := eq_true q275
           have p276 : 0 ≤ (x10_1 : Int) := of_decide_eq_true aS
           have q276 : x10_1 < (l1.length : Int) := of_decide_eq_true aS
           obtain ⟨ad276, e276, hx276_0⟩ := Kd.at_int HR1.out x10_1 p276 q276
           obtain rfl : ad275 = ad276 := (by injection e276)
           replace p276 := eq_true p276
           replace q276 := eq_true q276
           go_wp2
           repeat (go_quiet (fail); try go_wp2)
           go_roundg k1
           case measure => have := HK1.out; omega
           case rel => exact ⟨(wrap64 (x5_1 + (wrap64 ((wrap64 ((rd l0 x10_1) - (rd l1 x10_1))) * (wrap64 ((rd l0 x10_1) - (rd l1 x10_1))))))), (wrap64 (x10_1 + 1)), rD, rD, H', ⟨by have := HK1.out; omega⟩, by repeat (first | exact Drawn0.refl _ | apply Drawn0.step)⟩
         · rw [if_neg c6] at H
           exact absurd H (by simp)
       · rw [if_neg c5] at H
         exact absurd H (by simp)
     · rw [if_neg c4] at H
       exact absurd H (by simp)
   · rw [if_neg c3] at H
     have c3b0 : decide (x10_1 < (l0.length : Int)) = false := decide_eq_false c3
     clear c3
     obtain rfl := Option.some.inj H
     go_wp2
     repeat (go_quiet (fail); try go_wp2)
     go_ret
     exact ⟨rD, by repeat (first | exact Drawn0.refl _ | apply Drawn0.step)⟩

/-! ### impl_Sample_neighbors: function 177 -/
def impl_Sample_neighbors.okB (k : Nat) (P : List (List Int)) (x : List Int) (i : Int) : Bool := decide (0 ≤ i) && (decide (i < (P.length : Int)) && (decide (i < 1000000) && (impl_squares.f k (rd_L1 P i) x).isSome))
def impl_Sample_neighbors.sq (k : Nat) (P : List (List Int)) (x : List Int) (i : Int) : Int := (impl_squares.f k (rd_L1 P i) x).getD 0
def impl_Sample_neighbors.cz (s t : Int) : Int := if s < t then -1 else if s > t then 1 else 0
def impl_Sample_neighbors.cf (k : Nat) (P : List (List Int)) (x : List Int) (i j : Int) : Int := if impl_Sample_neighbors.cz (impl_Sample_neighbors.sq k P x i) (impl_Sample_neighbors.sq k P x j) = 0 then wrap64 (i - j) else impl_Sample_neighbors.cz (impl_Sample_neighbors.sq k P x i) (impl_Sample_neighbors.sq k P x j)
abbrev impl_Sample_neighbors.T (k : Nat) (P : List (List Int)) (x : List Int) := {i : Int // impl_Sample_neighbors.okB k P x i = true}
def impl_Sample_neighbors.lt (k : Nat) (P : List (List Int)) (x : List Int) : impl_Sample_neighbors.T k P x → impl_Sample_neighbors.T k P x → Bool := Go.Proofs.ltOf (fun a b : impl_Sample_neighbors.T k P x => impl_Sample_neighbors.cf k P x a.1 b.1)
def impl_Sample_neighbors.enc {k : Nat} {P : List (List Int)} {x : List Int} (a : impl_Sample_neighbors.T k P x) : Value := .int .i64 a.1
def impl_Sample_neighbors.srt {k : Nat} {P : List (List Int)} {x : List Int} (inst : Inhabited (impl_Sample_neighbors.T k P x)) (l : List (impl_Sample_neighbors.T k P x)) : Array (impl_Sample_neighbors.T k P x) := Go.Sort.insertionSort (impl_Sample_neighbors.lt k P x) l.toArray 0 l.toArray.size
def impl_Sample_neighbors.res {k : Nat} {P : List (List Int)} {x : List Int} : List (impl_Sample_neighbors.T k P x) → Option (List Int)
 | [] => none
 | a :: l => some ((impl_Sample_neighbors.srt ⟨a⟩ (a :: l)).toList.map (fun z => z.1))
def impl_Sample_neighbors.f (k : Nat) (l0_0 : List (List Int)) (l0_1 : List Int) (l1 : List Int) (l2 : List Int) : Option (List Int) := if h : 8 ≤ k ∧ l2.length < 20 ∧ ∀ i ∈ l2, impl_Sample_neighbors.okB k l0_0 l1 i = true then impl_Sample_neighbors.res (l2.attachWith (fun i => impl_Sample_neighbors.okB k l0_0 l1 i = true) h.2.2) else none
theorem impl_Sample_neighbors.lt_iff {k : Nat} {P : List (List Int)} {x : List Int} (a b : impl_Sample_neighbors.T k P x) : impl_Sample_neighbors.lt k P x a b = true ↔ (impl_Sample_neighbors.sq k P x a.1 < impl_Sample_neighbors.sq k P x b.1 ∨ (impl_Sample_neighbors.sq k P x a.1 = impl_Sample_neighbors.sq k P x b.1 ∧ a.1 < b.1)) := by
 have ha := a.2
 have hb := b.2
 simp only [impl_Sample_neighbors.okB, Bool.and_eq_true, decide_eq_true_eq] at ha hb
 simp only [impl_Sample_neighbors.lt, Go.Proofs.ltOf, decide_eq_true_eq, impl_Sample_neighbors.cf]
 obtain ⟨s, hs⟩ : ∃ s, impl_Sample_neighbors.sq k P x a.1 = s := ⟨_, rfl⟩
 obtain ⟨t, ht⟩ : ∃ t, impl_Sample_neighbors.sq k P x b.1 = t := ⟨_, rfl⟩
 simp only [hs, ht]
 have hw : wrap64 (a.1 - b.1) = a.1 - b.1 := by unfold wrap64; omega
 simp only [hw, impl_Sample_neighbors.cz]
 by_cases h1 : s < t
 · simp [h1]
 · by_cases h2 : s > t
   · simp [h1, h2]; omega
   · have e : s = t := by omega
     simp [e]; omega
theorem impl_Sample_neighbors.lt_no {k : Nat} {P : List (List Int)} {x : List Int} (a b : impl_Sample_neighbors.T k P x) : impl_Sample_neighbors.lt k P x a b = false ↔ ¬ (impl_Sample_neighbors.sq k P x a.1 < impl_Sample_neighbors.sq k P x b.1 ∨ (impl_Sample_neighbors.sq k P x a.1 = impl_Sample_neighbors.sq k P x b.1 ∧ a.1 < b.1)) := by
 rw [← impl_Sample_neighbors.lt_iff, Bool.not_eq_true]
theorem impl_Sample_neighbors.swo (k : Nat) (P : List (List Int)) (x : List Int) : Go.Sort.SWO (impl_Sample_neighbors.lt k P x) :=
 ⟨fun a => (impl_Sample_neighbors.lt_no a a).2 (by omega), fun a b c h1 h2 => (impl_Sample_neighbors.lt_iff a c).2 (by have := (impl_Sample_neighbors.lt_iff a b).1 h1; have := (impl_Sample_neighbors.lt_iff b c).1 h2; omega), fun a b c h1 h2 => (impl_Sample_neighbors.lt_no a c).2 (by have := (impl_Sample_neighbors.lt_no a b).1 h1; have := (impl_Sample_neighbors.lt_no b c).1 h2; omega)⟩
theorem impl_Sample_neighbors.srt_tell {k : Nat} {P : List (List Int)} {x : List Int} (inst : Inhabited (impl_Sample_neighbors.T k P x)) (l : List (impl_Sample_neighbors.T k P x)) : (impl_Sample_neighbors.srt inst l).toList.Perm l ∧ (impl_Sample_neighbors.srt inst l).toList.Pairwise (fun u v => impl_Sample_neighbors.lt k P x v u = false) := by
 have h : Go.Sort.PermIn 0 l.toArray.size l.toArray (impl_Sample_neighbors.srt inst l) ∧ Go.Sort.SortedIn (impl_Sample_neighbors.lt k P x) 0 l.toArray.size (impl_Sample_neighbors.srt inst l) := Go.Sort.insertionSort_holds (impl_Sample_neighbors.swo k P x) l.toArray 0 l.toArray.size (Nat.zero_le _) (Nat.le_refl _)
 obtain ⟨⟨h1, _, h3⟩, h4⟩ := h
 have e1 : (impl_Sample_neighbors.srt inst l).extract 0 l.toArray.size = impl_Sample_neighbors.srt inst l := by rw [← h1]; simp
 have e2 : l.toArray.extract 0 l.toArray.size = l.toArray := by simp
 rw [e1, e2] at h3
 refine ⟨by simpa using h3, List.pairwise_iff_getElem.2 (fun i j hi hj hij => ?_)⟩
 have hj2 : j < (impl_Sample_neighbors.srt inst l).size := by simpa using hj
 have h5 := h4 i j (Nat.zero_le _) hij (by omega)
 rw [getElem!_pos _ j hj2, getElem!_pos _ i (by omega)] at h5
 simpa using h5
def impl_Sample_neighbors.Gr (W W' : World) : Prop := ∃ q os, W' = Go.Sort.grow (W.drewN q) os
theorem impl_Sample_neighbors.Gr.refl (W : World) : impl_Sample_neighbors.Gr W W := ⟨0, #[], by rw [Go.Sort.grow_empty]; rfl⟩
theorem impl_Sample_neighbors.Gr.drawn {W W1 W2 : World} (h : impl_Sample_neighbors.Gr W W1) (hd : Drawn0 W1 W2) : impl_Sample_neighbors.Gr W W2 := by
 obtain ⟨q, os, rfl⟩ := h
 obtain ⟨n, rfl⟩ := hd
 exact ⟨q + n, os, by rw [← World.drewN_drewN]; rfl⟩
theorem impl_Sample_neighbors.Gr.drew {W W1 : World} (h : impl_Sample_neighbors.Gr W W1) : impl_Sample_neighbors.Gr W W1.drew := by
 obtain ⟨q, os, rfl⟩ := h
 exact ⟨q + 1, os, rfl⟩
theorem impl_Sample_neighbors.Gr.alloc {W W1 : World} (h : impl_Sample_neighbors.Gr W W1) (ob : Obj) : impl_Sample_neighbors.Gr W (W1.alloc ob) := by
 obtain ⟨q, os, rfl⟩ := h
 exact ⟨q, os ++ #[ob], by rw [Go.Sort.alloc_eq_grow, Go.Sort.grow_grow]⟩
theorem impl_Sample_neighbors.cell_keep {w w1 : World} {ad : Addr} {u : Value} (h : w.cell? ad = some u) (hb : Below w.heap.size w w1) : w1.cell? ad = some u := (hb.cell (World.block_lt_of_cell? w _ h)).trans h
theorem impl_Sample_neighbors.cmp_eq (s t : Int) : cmp_Compare_int.f s t = some (impl_Sample_neighbors.cz s t) := by
 have e : ∀ z : Int, (z != z) = false := fun z => by simp
 simp only [cmp_Compare_int.f, cmp_isNaN_int.f, Option.bind_some, e, Bool.false_eq_true, if_false, impl_Sample_neighbors.cz]
 repeat (first | rfl | split)
theorem impl_Sample_neighbors.or_eq (k : Nat) (hk : 8 ≤ k) (c d : Int) : cmp_Or_int.f k [c, d] = some (if c = 0 then d else c) := by
 obtain ⟨m, rfl⟩ : ∃ m, k = m + 3 := ⟨k - 3, by omega⟩
 have r0 : rd [c, d] 0 = c := rfl
 have r1 : rd [c, d] 1 = d := rfl
 have w1 : wrap64 1 = 1 := by unfold wrap64; omega
 have w2 : wrap64 2 = 2 := by unfold wrap64; omega
 by_cases hc : c = 0
 · by_cases hd : d = 0
   · subst hc hd
     simp [cmp_Or_int.f, cmp_Or_int.l0, r0, r1, w1, w2]
   · subst hc
     simp [cmp_Or_int.f, cmp_Or_int.l0, r0, r1, w1, w2, hd]
 · simp [cmp_Or_int.f, cmp_Or_int.l0, r0, r1, w1, w2, hc]
set_option maxHeartbeats 8000000 in
set_option maxRecDepth 100000 in
theorem impl_Sample_neighbors.clos (k : Nat) (hk8 : 8 ≤ k) (A0_0 : Option Addr) (c0_0 : Nat) (P : List (List Int)) (v0_1 : Value) (A1 : Option Addr) (c1 : Nat) (x : List Int) (i j : Int) (gb3 gb4 : Nat) (W : World) (hr0_0 : Kd.C (Kd.slice 3 (Kd.int .i64)) W A0_0 P.length P) (hr1 : Kd.C (Kd.int .i64) W A1 x.length x) (hc1 : x.length ≤ c1)
 (h3 : W.heap[gb3]? = some (.cells #[.slice A0_0 P.length c0_0, v0_1] 52 (0, 0))) (h4 : W.heap[gb4]? = some (.cells #[.slice A1 x.length c1] 22 (0, 0))) (hi : impl_Sample_neighbors.okB k P x i = true) (hj : impl_Sample_neighbors.okB k P x j = true) :
 Calls Try.prog 203 #[.int .i64 i, .int .i64 j, .pointer (some ⟨gb3, 0, none⟩), .pointer (some ⟨gb4, 0, none⟩)] W fun e w' => e = .returned (.int .i64 (impl_Sample_neighbors.cf k P x i j)) ∧ impl_Sample_neighbors.Gr W w' := by
 have hu := Try.underlying52
 simp only [impl_Sample_neighbors.okB, Bool.and_eq_true, decide_eq_true_eq] at hi hj
 obtain ⟨i0, i1, _, si⟩ := hi
 obtain ⟨j0, j1, _, sj⟩ := hj
 obtain ⟨s, hs⟩ := Option.isSome_iff_exists.1 si
 obtain ⟨t, ht⟩ := Option.isSome_iff_exists.1 sj
 have ecf : impl_Sample_neighbors.cf k P x i j = if impl_Sample_neighbors.cz s t = 0 then wrap64 (i - j) else impl_Sample_neighbors.cz s t := by simp only [impl_Sample_neighbors.cf, impl_Sample_neighbors.sq, hs, ht, Option.getD_some]
 rw [ecf]
 clear ecf si sj
 obtain ⟨r, hr⟩ : ∃ r, r = if impl_Sample_neighbors.cz s t = 0 then wrap64 (i - j) else impl_Sample_neighbors.cz s t := ⟨_, rfl⟩
 rw [← hr]
 have hor := impl_Sample_neighbors.or_eq k hk8 (impl_Sample_neighbors.cz s t) (wrap64 (i - j))
 rw [← hr] at hor
 have HOR := Aside0.mk hor
 have HCM := Aside0.mk (impl_Sample_neighbors.cmp_eq s t)
 clear hor
 have HS := Aside0.mk hs
 have HT := Aside0.mk ht
 clear hr
 generalize impl_Sample_neighbors.cz s t = cc at HOR HCM
 obtain ⟨adi, Ai, ci, ei, hxi, hli, hci⟩ := at_L1 hr0_0 i i0 i1
 cases ei
 obtain ⟨adj, Aj, cj, ej, hxj, hlj, hcj⟩ := at_L1 hr0_0 j j0 j1
 obtain rfl : adi = adj := by injection ej
 have H3 := Aside0.mk h3
 have H4 := Aside0.mk h4
 have HXI := Aside0.mk hxi
 have HXJ := Aside0.mk hxj
 have HCI := Aside0.mk hci
 have HCJ := Aside0.mk hcj
 have HLI := Aside0.mk hli
 have HLJ := Aside0.mk hlj
 have HR1 := Aside0.mk hr1
 have HC1 := Aside0.mk hc1
 have pi := eq_true i0
 have qi := eq_true i1
 have pj := eq_true j0
 have qj := eq_true j1
 clear hs ht hxi hxj hci hcj hli hlj hr1 hc1 h3 h4 i0 i1 j0 j1 ej hr0_0
 have HB := Aside0.mk (Below.refl W.heap.size W)
 have HW := Aside0.mk (impl_Sample_neighbors.Gr.refl W)
 go_enter Try.func203, Try.ntmps203
 try go_wp2
 replace HB := Aside0.mk (below_drew1 HB.out)
 replace HW := Aside0.mk HW.out.drew
 refine start_ (n := 21) (S := fun w' => w'.cell? ⟨gb3, 0, none⟩ = some (.slice (some adi) P.length c0_0) ∧ w'.cell? ⟨gb4, 0, none⟩ = some (.slice A1 x.length c1) ∧ w'.cell? (adi.add i.toNat) = some (.slice Ai (rd_L1 P i).length ci) ∧ w'.cell? (adi.add j.toNat) = some (.slice Aj (rd_L1 P j).length cj)) (ds := []) #[false, false, false, false, false, false, false, false, false, false, false, false, false, false, false, false, false, false, false, false, false] (by kernel_rfl) rfl rfl ⟨impl_Sample_neighbors.cell_keep ((blk_cell H3.out 0).trans rfl) HB.out, impl_Sample_neighbors.cell_keep ((blk_cell H4.out 0).trans rfl) HB.out, impl_Sample_neighbors.cell_keep HXI.out HB.out, impl_Sample_neighbors.cell_keep HXJ.out HB.out⟩ (fun hHeld => ?_)
 generalize W.drew = w13 at HB HW hHeld ⊢
 refine pure_ (i := 0) (N := some 7) (v := ?_) (a' := ?_) #[true, false, false, false, false, false, false, false, false, false, false, false, false, false, false, false, false, false, false, false, false] rfl rfl (by kernel_rfl) (fun _ _ _ h => h) (Or.inl ⟨by rfl, ?_⟩) ?_ ?_
 rotate_left
 · intro w'
   go_simp
   with_reducible rfl
 rotate_left
 · exact aP
 refine pure_ (i := 2) (N := some 9) (v := ?_) (a' := ?_) #[true, false, true, false, false, false, false, false, false, false, false, false, false, false, false, false, false, false, false, false, false] rfl rfl (by kernel_rfl) (fun _ _ _ h => h) (Or.inl ⟨by rfl, ?_⟩) ?_ ?_
 rotate_left
 · intro w'
   go_simp
   with_reducible rfl
 rotate_left
 · exact aP
 refine pure_ (i := 7) (N := some 14) (v := ?_) (a' := ?_) #[true, false, true, false, false, false, false, true, false, false, false, false, false, false, false, false, false, false, false, false, false] rfl rfl (by kernel_rfl) (fun _ _ _ h => h) (Or.inl ⟨by rfl, ?_⟩) ?_ ?_
 rotate_left
 · intro w'
   go_simp
   with_reducible rfl
 rotate_left
 · exact aP
 refine pure_ (i := 9) (N := some 16) (v := ?_) (a' := ?_) #[true, false, true, false, false, false, false, true, false, true, false, false, false, false, false, false, false, false, false, false, false] rfl rfl (by kernel_rfl) (fun _ _ _ h => h) (Or.inl ⟨by rfl, ?_⟩) ?_ ?_
 rotate_left
 · intro w'
   go_simp
   with_reducible rfl
 rotate_left
 · exact aP
 refine pure_ (i := 15) (N := some 22) (v := ?_) (a' := ?_) #[true, false, true, false, false, false, false, true, false, true, false, false, false, false, false, true, false, false, false, false, false] rfl rfl (by kernel_rfl) (fun _ _ _ h => h) (Or.inl ⟨by rfl, ?_⟩) ?_ ?_
 rotate_left
 · intro w'
   go_simp
   with_reducible rfl
 rotate_left
 · exact aP
 refine pure_ (i := 16) (N := some 23) (v := ?_) (a' := ?_) #[true, false, true, false, false, false, false, true, false, true, false, false, false, false, false, true, true, false, false, false, false] rfl rfl (by kernel_rfl) (fun _ _ _ h => h) (Or.inl ⟨by rfl, ?_⟩) ?_ ?_
 rotate_left
 · intro w'
   go_simp
   with_reducible rfl
 rotate_left
 · exact aP
 refine pure_ (i := 17) (N := some 24) (v := ?_) (a' := ?_) #[true, false, true, false, false, false, false, true, false, true, false, false, false, false, false, true, true, true, false, false, false] rfl rfl (by kernel_rfl) (fun _ _ _ h => h) (Or.inl ⟨by rfl, ?_⟩) ?_ ?_
 rotate_left
 · intro w'
   go_simp
   with_reducible rfl
 rotate_left
 · exact aP
 refine take_ (i := 1) (N := some 8) (v := ?_) (a' := ?_) #[true, true, true, false, false, false, false, true, false, true, false, false, false, false, false, true, true, true, false, false, false] rfl rfl (by kernel_rfl) (fun _ _ _ h => h) (Or.inl ⟨by rfl, ?_⟩) hHeld ?_ ?_
 rotate_left
 · rintro w' ⟨s0, s1, s2, s3⟩
   go_simp
   with_reducible rfl
 rotate_left
 · exact aP
 refine pure_ (i := 3) (N := some 10) (v := ?_) (a' := ?_) #[true, true, true, true, false, false, false, true, false, true, false, false, false, false, false, true, true, true, false, false, false] rfl rfl (by kernel_rfl) (fun _ _ _ h => h) (Or.inl ⟨by rfl, ?_⟩) ?_ ?_
 rotate_left
 · intro w'
   go_simp
   with_reducible rfl
 rotate_left
 · exact aP
 refine take_ (i := 4) (N := some 11) (v := ?_) (a' := ?_) #[true, true, true, true, true, false, false, true, false, true, false, false, false, false, false, true, true, true, false, false, false] rfl rfl (by kernel_rfl) (fun _ _ _ h => h) (Or.inl ⟨by rfl, ?_⟩) hHeld ?_ ?_
 rotate_left
 · rintro w' ⟨s0, s1, s2, s3⟩
   go_simp
   with_reducible rfl
 rotate_left
 · exact aP
 refine take_ (i := 5) (N := some 12) (v := ?_) (a' := ?_) #[true, true, true, true, true, true, false, true, false, true, false, false, false, false, false, true, true, true, false, false, false] rfl rfl (by kernel_rfl) (fun _ _ _ h => h) (Or.inl ⟨by rfl, ?_⟩) hHeld ?_ ?_
 rotate_left
 · rintro w' ⟨s0, s1, s2, s3⟩
   go_simp
   with_reducible rfl
 rotate_left
 · exact aP
 refine take_ (i := 8) (N := some 15) (v := ?_) (a' := ?_) #[true, true, true, true, true, true, false, true, true, true, false, false, false, false, false, true, true, true, false, false, false] rfl rfl (by kernel_rfl) (fun _ _ _ h => h) (Or.inl ⟨by rfl, ?_⟩) hHeld ?_ ?_
 rotate_left
 · rintro w' ⟨s0, s1, s2, s3⟩
   go_simp
   with_reducible rfl
 rotate_left
 · exact aP
 refine pure_ (i := 10) (N := some 17) (v := ?_) (a' := ?_) #[true, true, true, true, true, true, false, true, true, true, true, false, false, false, false, true, true, true, false, false, false] rfl rfl (by kernel_rfl) (fun _ _ _ h => h) (Or.inl ⟨by rfl, ?_⟩) ?_ ?_
 rotate_left
 · intro w'
   go_simp
   with_reducible rfl
 rotate_left
 · exact aP
 refine take_ (i := 11) (N := some 18) (v := ?_) (a' := ?_) #[true, true, true, true, true, true, false, true, true, true, true, true, false, false, false, true, true, true, false, false, false] rfl rfl (by kernel_rfl) (fun _ _ _ h => h) (Or.inl ⟨by rfl, ?_⟩) hHeld ?_ ?_
 rotate_left
 · rintro w' ⟨s0, s1, s2, s3⟩
   go_simp
   with_reducible rfl
 rotate_left
 · exact aP
 refine take_ (i := 12) (N := some 19) (v := ?_) (a' := ?_) #[true, true, true, true, true, true, false, true, true, true, true, true, true, false, false, true, true, true, false, false, false] rfl rfl (by kernel_rfl) (fun _ _ _ h => h) (Or.inl ⟨by rfl, ?_⟩) hHeld ?_ ?_
 rotate_left
 · rintro w' ⟨s0, s1, s2, s3⟩
   go_simp
   with_reducible rfl
 rotate_left
 · exact aP
 refine one_ (i := 6) (N := some 13) #[true, true, true, true, true, true, true, true, true, true, true, true, true, false, false, true, true, true, false, false, false] rfl rfl (by kernel_rfl) (by decide) (fun K hK => ?_)
 refine goes_ Try.func205 (by kernel_rfl) rfl #[.slice Ai (rd_L1 P i).length ci, .slice A1 x.length c1] (by rfl) rfl rfl aT ?_
 with_reducible refine (impl_squares.calls k _ _ (rd_L1 P i) _ _ x s _ ?side1 ?side2 ?side3 ?side4 HS.out).mono ?_
 (case side1 => exact Kd.C_below HCI.out HB.out)
 (case side2 => exact HLI.out)
 (case side3 => exact Kd.C_below HR1.out HB.out)
 (case side4 => exact HC1.out)
 rintro e w14 ⟨rfl, hd⟩
 refine ⟨_, rfl, ?_⟩
 have hb := hd.below
 replace HB := Aside0.mk (below_step HB.out hb)
 replace HW := Aside0.mk (HW.out.drawn hd)
 clear hd hb
 refine hK.out _ _ ⟨impl_Sample_neighbors.cell_keep ((blk_cell H3.out 0).trans rfl) HB.out, impl_Sample_neighbors.cell_keep ((blk_cell H4.out 0).trans rfl) HB.out, impl_Sample_neighbors.cell_keep HXI.out HB.out, impl_Sample_neighbors.cell_keep HXJ.out HB.out⟩ (fun hHeld => ?_)
 clear hK K
 refine norm_ (a' := ?_) ?_ ?_
 rotate_left
 · show Act.put _ (some 13) _ = _
   simp only [Act.put, List.setIfInBounds_toArray, List.set_cons_zero, List.set_cons_succ, i64_w, i32_w]
   rfl
 refine one_ (i := 13) (N := some 20) #[true, true, true, true, true, true, true, true, true, true, true, true, true, true, false, true, true, true, false, false, false] rfl rfl (by kernel_rfl) (by decide) (fun K hK => ?_)
 refine goes_ Try.func205 (by kernel_rfl) rfl #[.slice Aj (rd_L1 P j).length cj, .slice A1 x.length c1] (by rfl) rfl rfl aT ?_
 with_reducible refine (impl_squares.calls k _ _ (rd_L1 P j) _ _ x t _ ?side1 ?side2 ?side3 ?side4 HT.out).mono ?_
 (case side1 => exact Kd.C_below HCJ.out HB.out)
 (case side2 => exact HLJ.out)
 (case side3 => exact Kd.C_below HR1.out HB.out)
 (case side4 => exact HC1.out)
 rintro e w15 ⟨rfl, hd⟩
 refine ⟨_, rfl, ?_⟩
 have hb := hd.below
 replace HB := Aside0.mk (below_step HB.out hb)
 replace HW := Aside0.mk (HW.out.drawn hd)
 clear hd hb
 refine hK.out _ _ ⟨impl_Sample_neighbors.cell_keep ((blk_cell H3.out 0).trans rfl) HB.out, impl_Sample_neighbors.cell_keep ((blk_cell H4.out 0).trans rfl) HB.out, impl_Sample_neighbors.cell_keep HXI.out HB.out, impl_Sample_neighbors.cell_keep HXJ.out HB.out⟩ (fun hHeld => ?_)
 clear hK K
 refine norm_ (a' := ?_) ?_ ?_
 rotate_left
 · show Act.put _ (some 20) _ = _
   simp only [Act.put, List.setIfInBounds_toArray, List.set_cons_zero, List.set_cons_succ, i64_w, i32_w]
   rfl
 refine one_ (i := 14) (N := some 21) #[true, true, true, true, true, true, true, true, true, true, true, true, true, true, true, true, true, true, false, false, false] rfl rfl (by kernel_rfl) (by decide) (fun K hK => ?_)
 refine goes_ Try.func181 (by kernel_rfl) rfl #[.int .i64 s, .int .i64 t] (by rfl) rfl rfl aT ?_
 with_reducible refine (cmp_Compare_int.calls s t cc _ HCM.out).mono ?_
 rintro e w16 ⟨rfl, hd⟩
 refine ⟨_, rfl, ?_⟩
 have hb := hd.below
 replace HB := Aside0.mk (below_step HB.out hb)
 replace HW := Aside0.mk (HW.out.drawn hd)
 clear hd hb
 refine hK.out _ _ ⟨impl_Sample_neighbors.cell_keep ((blk_cell H3.out 0).trans rfl) HB.out, impl_Sample_neighbors.cell_keep ((blk_cell H4.out 0).trans rfl) HB.out, impl_Sample_neighbors.cell_keep HXI.out HB.out, impl_Sample_neighbors.cell_keep HXJ.out HB.out⟩ (fun hHeld => ?_)
 clear hK K
 refine norm_ (a' := ?_) ?_ ?_
 rotate_left
 · show Act.put _ (some 21) _ = _
   simp only [Act.put, List.setIfInBounds_toArray, List.set_cons_zero, List.set_cons_succ, i64_w, i32_w]
   rfl
 refine one_ (i := 18) (N := some 25) #[true, true, true, true, true, true, true, true, true, true, true, true, true, true, true, true, true, true, true, false, false] rfl rfl (by kernel_rfl) (by decide) (fun K hK => ?_)
 refine event_step (v := .slice (some ⟨w16.heap.size, 0, none⟩) 2 2) (w1 := w16.alloc (.cells #[.int .i64 cc, .int .i64 (wrap64 (i - j))] 3)) (by rfl) (by first | (go_simp; done) | (go_simp; rfl)) ?_
 have hb := below_alloc (Below.refl w16.heap.size w16) (.cells #[.int .i64 cc, .int .i64 (wrap64 (i - j))] 3)
 have HROW : Aside0 (Kd.C (Kd.int .i64) (w16.alloc (.cells #[.int .i64 cc, .int .i64 (wrap64 (i - j))] 3)) (some ⟨w16.heap.size, 0, none⟩) [cc, wrap64 (i - j)].length [cc, wrap64 (i - j)]) := Aside0.mk (Kd.R_reads' (Go.Proofs.Ytfkfahdikmfpeaa.Sl.R_of_reps (Kd.int .i64) (W := w16) (base := 0) (e := 3) (xs := [cc, wrap64 (i - j)]) (inner := [.int .i64 cc, .int .i64 (wrap64 (i - j))]) (ok := fun _ => True) (Reps.one (show Kd.M (Kd.int .i64) _ _ _ cc [.int .i64 cc] from rfl) (Reps.one (show Kd.M (Kd.int .i64) _ _ _ (wrap64 (i - j)) [.int .i64 (wrap64 (i - j))] from rfl) (Reps.none _ _))) trivial (Nat.zero_le _) (by simp))).2.2
 replace HB := Aside0.mk (below_step HB.out hb)
 replace HW := Aside0.mk (HW.out.alloc (.cells #[.int .i64 cc, .int .i64 (wrap64 (i - j))] 3))
 clear hb
 refine hK.out _ _ ⟨impl_Sample_neighbors.cell_keep ((blk_cell H3.out 0).trans rfl) HB.out, impl_Sample_neighbors.cell_keep ((blk_cell H4.out 0).trans rfl) HB.out, impl_Sample_neighbors.cell_keep HXI.out HB.out, impl_Sample_neighbors.cell_keep HXJ.out HB.out⟩ (fun hHeld => ?_)
 clear hK K
 refine norm_ (a' := ?_) ?_ ?_
 rotate_left
 · show Act.put _ (some 25) _ = _
   simp only [Act.put, List.setIfInBounds_toArray, List.set_cons_zero, List.set_cons_succ, i64_w, i32_w]
   rfl
 refine one_ (i := 19) (N := some 26) #[true, true, true, true, true, true, true, true, true, true, true, true, true, true, true, true, true, true, true, true, false] rfl rfl (by kernel_rfl) (by decide) (fun K hK => ?_)
 refine goes_ Try.func204 (by kernel_rfl) rfl #[.slice (some ⟨w16.heap.size, 0, none⟩) [cc, wrap64 (i - j)].length 2] (by rfl) rfl rfl aT ?_
 with_reducible refine (cmp_Or_int.calls k _ _ [cc, wrap64 (i - j)] _ _ ?side1 ?side2 HOR.out).mono ?_
 (case side1 => exact HROW.out)
 (case side2 => exact Nat.le_refl _)
 rintro e w17 ⟨rfl, hd⟩
 refine ⟨_, rfl, ?_⟩
 have hb := hd.below
 replace HB := Aside0.mk (below_step HB.out hb)
 replace HW := Aside0.mk (HW.out.drawn hd)
 clear hd hb
 refine hK.out _ _ ⟨impl_Sample_neighbors.cell_keep ((blk_cell H3.out 0).trans rfl) HB.out, impl_Sample_neighbors.cell_keep ((blk_cell H4.out 0).trans rfl) HB.out, impl_Sample_neighbors.cell_keep HXI.out HB.out, impl_Sample_neighbors.cell_keep HXJ.out HB.out⟩ (fun hHeld => ?_)
 clear hK K
 refine norm_ (a' := ?_) ?_ ?_
 rotate_left
 · show Act.put _ (some 26) _ = _
   simp only [Act.put, List.setIfInBounds_toArray, List.set_cons_zero, List.set_cons_succ, i64_w, i32_w]
   rfl
 refine pure_ (i := 20) (N := some 6) (v := ?_) (a' := ?_) #[true, true, true, true, true, true, true, true, true, true, true, true, true, true, true, true, true, true, true, true, true] rfl rfl (by kernel_rfl) (fun _ _ _ h => h) (Or.inl ⟨by rfl, ?_⟩) ?_ ?_
 rotate_left
 · intro w'
   go_simp
   with_reducible rfl
 rotate_left
 · exact aP
 refine done_ (by kernel_rfl) ?_
 go_wp2
 go_ret
 exact ⟨rfl, HW.out⟩
theorem impl_Sample_neighbors.putEnc {k : Nat} {P : List (List Int)} {x : List Int} [Inhabited (impl_Sample_neighbors.T k P x)] (W : World) (g : Nat) (d : Array (impl_Sample_neighbors.T k P x)) : Go.Sort.putRow (impl_Sample_neighbors.enc (k := k) (P := P) (x := x)) W g 0 d = Go.Sort.putRow (Value.int .i64) W g 0 (d.map (fun z => z.1)) := by
 unfold Go.Sort.putRow
 refine congrArg (Go.Sort.mapBlock W g) ?_
 funext cs
 unfold Go.Sort.putCells
 congr 1
 funext k' v
 by_cases h : 0 ≤ k' ∧ k' < 0 + d.size
 · rw [if_pos h, if_pos (by rw [Array.size_map]; exact h)]
   have hk : k' - 0 < d.size := by omega
   rw [getElem!_pos d (k' - 0) hk, getElem!_pos (d.map (fun z => z.1)) (k' - 0) (by rw [Array.size_map]; exact hk), Array.getElem_map]
   rfl
 · rw [if_neg h, if_neg (by rw [Array.size_map]; exact h)]
set_option maxHeartbeats 8000000 in
set_option maxRecDepth 100000 in
theorem impl_Sample_neighbors.stable {α : Type} [Inhabited α] (enc : α → Value) (cf : α → α → Int) (g : Nat) (cb : Array Value) (blk cap : Nat) (d : Array α) (w : World) (eg : ∀ args w, (callFunc g args).run Try.prog w = .ok (.enter g args) w) (hcmp : Go.Proofs.CmpLays1 Try.prog g cb enc cf blk 0 d.size w) (R : Go.Proofs.Row1 enc w blk 0 d) (h20 : d.size < 20) :
 Calls Try.prog 221 #[.slice (some ⟨blk, 0, none⟩) d.size cap, .int .i64 d.size, .func (.func g) #[] cb] w fun e w' => e = .returned (.tuple #[]) ∧ Go.Proofs.SW enc w blk 0 (Go.Sort.insertionSort (Go.Proofs.ltOf cf) d 0 d.size) w' := by
 have hi := Go.Proofs.Try.insertionSortCmpFunc_s_f226 enc cf g cb blk 0 cap 0 d.size d d w w eg hcmp R rfl (Go.Proofs.SW.start R.hH) (Nat.zero_le _) (Nat.le_refl _) (by omega)
 have HI := Aside0.mk hi
 clear hi hcmp R eg
 have c20 : decide ((20 : Int) ≤ (d.size : Int)) = false := decide_eq_false (by omega)
 have c21 : decide ((20 : Int) < (d.size : Int)) = false := decide_eq_false (by omega)
 go_enter Try.func221, Try.ntmps221
 go_wp2
 refine wp_loop_rounds 1 ?_
 rw [rounds_succ]
 go_wp2_with (first | (go_at_call 226; refine HI.out.mono ?_; rintro e w' ⟨rfl, hS⟩))
 refine wp_loop_rounds 1 ?_
 rw [rounds_succ]
 go_wp2
 go_end0
 exact ⟨rfl, hS⟩
set_option maxHeartbeats 8000000 in
theorem impl_Sample_neighbors.sort {α : Type} [Inhabited α] (enc : α → Value) (cf : α → α → Int) (g : Nat) (cb : Array Value) (blk cap : Nat) (d : Array α) (w : World) (eg : ∀ args w, (callFunc g args).run Try.prog w = .ok (.enter g args) w) (hcmp : Go.Proofs.CmpLays1 Try.prog g cb enc cf blk 0 d.size w) (R : Go.Proofs.Row1 enc w blk 0 d) (h20 : d.size < 20) :
 Calls Try.prog 202 #[.slice (some ⟨blk, 0, none⟩) d.size cap, .func (.func g) #[] cb] w fun e w' => e = .returned (.tuple #[]) ∧ Go.Proofs.SW enc w blk 0 (Go.Sort.insertionSort (Go.Proofs.ltOf cf) d 0 d.size) w' := by
 have HI := Aside0.mk (impl_Sample_neighbors.stable enc cf g cb blk cap d w eg hcmp R h20)
 clear hcmp R eg
 go_enter Try.func202, Try.ntmps202
 go_wp2_with (first | (go_at_call 221; refine HI.out.mono ?_; rintro e w' ⟨rfl, hS⟩))
 go_end0
 exact ⟨rfl, hS⟩
theorem impl_Sample_neighbors.reps_of {w : World} {base : Nat} {ok : Nat → Prop} {xs : List Int} {inner : List Value} (h : Reps ((Kd.int .i64).M w base ok) 1 xs inner) : inner = xs.map (Value.int .i64) := by
 have hl : inner.length = xs.length := by have := h.1; omega
 refine List.ext_getElem (by rw [List.length_map]; exact hl) (fun i h1 h2 => ?_)
 have hi : i < xs.length := by omega
 have e : (inner.drop (i * 1)).take 1 = [Value.int .i64 xs[i]] := h.2 i xs[i] (List.getElem?_eq_getElem hi)
 have e2 : ((inner.drop (i * 1)).take 1)[0]? = some (Value.int .i64 xs[i]) := by rw [e]; rfl
 rw [List.getElem?_take, if_pos (by decide), List.getElem?_drop, show i * 1 + 0 = i from by omega, List.getElem?_eq_getElem h1] at e2
 rw [List.getElem_map]
 exact Option.some.inj e2
theorem impl_Sample_neighbors.reps_to (w : World) (base : Nat) (ok : Nat → Prop) (xs : List Int) : Reps ((Kd.int .i64).M w base ok) 1 xs (xs.map (Value.int .i64)) := by
 refine ⟨by simp, fun j p hp => ?_⟩
 obtain ⟨hj, rfl⟩ := List.getElem?_eq_some_iff.1 hp
 show ((xs.map (Value.int .i64)).drop (j * 1)).take 1 = [Value.int .i64 xs[j]]
 rw [Nat.mul_one, ← List.map_drop, List.drop_eq_getElem_cons hj]
 rfl
set_option maxHeartbeats 8000000 in
set_option maxRecDepth 100000 in
theorem impl_Sample_neighbors.calls (k : Nat) (A0_0 : Option Addr) (c0_0 : Nat) (l0_0 : List (List Int)) (A0_1 : Option Addr) (c0_1 : Nat) (l0_1 : List Int) (A1 : Option Addr) (c1 : Nat) (l1 : List Int) (A2 : Option Addr) (c2 : Nat) (l2 : List Int) (r : List Int) (w : World) (hr0_0 : Kd.C (Kd.slice 3 (Kd.int .i64)) w A0_0 l0_0.length l0_0) (hc0_0 : l0_0.length ≤ c0_0) (hr0_1 : Kd.C (Kd.int .i64) w A0_1 l0_1.length l0_1) (hc0_1 : l0_1.length ≤ c0_1) (hr1 : Kd.C (Kd.int .i64) w A1 l1.length l1) (hc1 : l1.length ≤ c1) (hr2 : Kd.C (Kd.int .i64) w A2 l2.length l2) (hc2 : l2.length ≤ c2) (h : impl_Sample_neighbors.f k l0_0 l0_1 l1 l2 = some r) :
 Calls Try.prog 177 #[.agg #[.slice A0_0 l0_0.length c0_0, .slice A0_1 l0_1.length c0_1], .slice A1 l1.length c1, .slice A2 l2.length c2] w fun e w' => ∃ v0_ : Value, e = .returned (v0_) ∧ Kd.R (Kd.int .i64) 3 w' w.heap.size (fun _ => True) v0_ r ∧ Below w.heap.size w w' := by
 have hu := Try.underlying52
 unfold impl_Sample_neighbors.f at h
 split at h
 · next hk =>
   obtain ⟨hk8, h20, hok⟩ := hk
   have hmap : (l2.attachWith (fun i => impl_Sample_neighbors.okB k l0_0 l1 i = true) hok).map (fun z => z.1) = l2 := by simp
   generalize l2.attachWith (fun i => impl_Sample_neighbors.okB k l0_0 l1 i = true) hok = L at h hmap
   cases L with
   | nil => exact absurd h (by simp [impl_Sample_neighbors.res])
   | cons a L =>
    obtain ⟨inst, hinst⟩ : ∃ i : Inhabited (impl_Sample_neighbors.T k l0_0 l1), i = ⟨a⟩ := ⟨_, rfl⟩
    have hr := Option.some.inj h
    rw [← hinst] at hr
    clear hinst
    obtain ⟨D, hD⟩ : ∃ D, D = impl_Sample_neighbors.srt inst (a :: L) := ⟨_, rfl⟩
    rw [← hD] at hr
    have HD := Aside0.mk hD
    clear hD
    have hf : impl_copied.f l2 = some l2 := by
     have : ([] : List Int).length + l2.length < 17592186044416 := by simp; omega
     simp only [impl_copied.f, Option.bind_some, if_pos this, List.nil_append]
    have HF := Aside0.mk hf
    have HR := Aside0.mk hr
    have HM := Aside0.mk hmap
    have HR0 := Aside0.mk hr0_0
    have HR1 := Aside0.mk hr1
    have HC1 := Aside0.mk hc1
    have HR2 := Aside0.mk hr2
    have HC2 := Aside0.mk hc2
    have HB := Aside0.mk (Below.refl w.heap.size w)
    clear h hf hr hmap hr0_0 hr0_1 hr1 hr2 hc1 hc2
    have hmf : ∀ (fn : Fn) (first cap : Array Value) (w : World), (Instr.makeFunc fn first cap).run Try.prog w = .ok (.func fn first cap) w := fun _ _ _ _ => rfl
    go_enter Try.func177, Try.ntmps177
    go_wp2_with (first | ((with_reducible refine gate_dst (N := 3) rfl ?_); refine box_event ?hg (N := 3) ?hd (cs := #[.slice A0_0 l0_0.length c0_0, .slice A0_1 l0_1.length c0_1]) (t := 52) ?hr ?_; (case hd => rfl); (case hg => rfl); (case hr => first | (go_simp; done) | (go_simp; rfl)); intro gb3 hg w3 hbox hb; have n0_ := Aside0.mk (below_step (bB HB) hb); have n1_ := Aside0.mk hbox; have n2_ := Aside0.mk ((by rw [hg]; exact (below_size (bB HB)) : w.heap.size ≤ gb3)); clear HB; have HB := n0_; have BK3 := n1_; have GE3 := n2_; clear n0_ n1_ n2_; clear hb hbox hg) | ((with_reducible refine gate_dst (N := 4) rfl ?_); refine box_event ?hg (N := 4) ?hd (cs := #[.slice A1 l1.length c1]) (t := 22) ?hr ?_; (case hd => rfl); (case hg => rfl); (case hr => first | (go_simp; done) | (go_simp; rfl)); intro gb4 hg w4 hbox hb; have n0_ := Aside0.mk (bW BK3 hb); have n1_ := Aside0.mk (below_step (bC HB GE3) hb); have n2_ := Aside0.mk hbox; have n3_ := Aside0.mk ((by rw [hg]; exact (below_size (bC HB GE3)) : w.heap.size ≤ gb4)); clear BK3 HB; have BK3 := n0_; have HB := n1_; have BK4 := n2_; have GE4 := n3_; clear n0_ n1_ n2_ n3_; clear hb hbox hg))
    refine calls_of_args (args' := #[.slice A2 l2.length c2]) (by rfl) ?_
    (with_reducible refine (impl_copied.calls _ _ l2 l2 _ ?side1 ?side2 HF.out).mono ?_)
    (case side1 => exact cB HR2 HB)
    (case side2 => exact HC2.out)
    rintro e w9 ⟨v9, rfl, ho, hb⟩
    have hbase := below_size (bD HB GE3 GE4)
    obtain ⟨_, inner, hown, hrep⟩ := ho
    obtain rfl := impl_Sample_neighbors.reps_of hrep
    rcases hown.2 with ⟨hnil, hn0⟩ | ⟨g, cap, cur, hv, hgb, hblk, q1, q2, q3, q4⟩
    · have e0 := HM.out
      rw [List.eq_nil_of_length_eq_zero hn0] at e0
      simp at e0
    · subst hv
      have hH0 : Go.Sort.Holds (Value.int .i64) w9 g 0 l2.toArray := Go.holds_of_blockI hblk (by have h5 := q4; rw [show (Kd.int .i64).sz = 1 from rfl, Nat.mul_one] at h5; exact h5)
      have hsz : (a :: L).toArray.size = l2.length := by rw [← HM.out]; simp
      have hH : Go.Sort.Holds (impl_Sample_neighbors.enc (k := k) (P := l0_0) (x := l1)) w9 g 0 (a :: L).toArray := by
       intro j hj
       have hj2 : j < l2.toArray.size := by simpa [hsz] using hj
       have h0 := hH0 j hj2
       refine ⟨?_, h0.2⟩
       rw [h0.1]
       have e1 : l2.toArray[j]! = ((a :: L).toArray[j]!).1 := by
        rw [getElem!_pos _ j hj2, getElem!_pos _ j hj]
        have e2 := congrArg (fun z : List Int => z[j]?) HM.out
        simp only [List.getElem?_map] at e2
        have hjl : j < (a :: L).length := by simpa using hj
        have hj3 : j < l2.length := by simpa using hj2
        rw [List.getElem?_eq_getElem hjl, List.getElem?_eq_getElem hj3] at e2
        simpa using (Option.some.inj e2).symm
       rw [e1]
       rfl
      have hg9 : g < w9.heap.size := blk_lt hblk
      have BK3' := Aside0.mk (bW BK3 hb)
      have BK4' := Aside0.mk (bW BK4 hb)
      have g3 : gb3 ≠ g := Nat.ne_of_lt (Nat.lt_of_lt_of_le (blk_lt BK3.out) hgb)
      have g4 : gb4 ≠ g := Nat.ne_of_lt (Nat.lt_of_lt_of_le (blk_lt BK4.out) hgb)
      have hcmp : Go.Proofs.CmpLays1 Try.prog 203 #[.pointer (some ⟨gb3, 0, none⟩), .pointer (some ⟨gb4, 0, none⟩)] (impl_Sample_neighbors.enc (k := k) (P := l0_0) (x := l1)) (fun a b : impl_Sample_neighbors.T k l0_0 l1 => impl_Sample_neighbors.cf k l0_0 l1 a.1 b.1) g 0 (a :: L).toArray.size w9 := by
       intro m os dk hdk u v
       have hg := Go.grownBy_sortedI (w := w9) (g := g) (n := m) (os := os) (dk.map (fun z => z.1))
       rw [← impl_Sample_neighbors.putEnc] at hg
       have hb2 := pw_below_grown (below_step HB.out hb) _ (Nat.le_trans hbase hb.size) hg (fun k_ e_ => by injection e_ with e_; omega)
       exact impl_Sample_neighbors.clos k hk8 A0_0 c0_0 l0_0 (.slice A0_1 l0_1.length c0_1) A1 c1 l1 u.1 v.1 gb3 gb4 _ (Kd.C_below HR0.out hb2) (Kd.C_below HR1.out hb2) HC1.out (blk_grown BK3'.out hg (by simpa using g3)) (blk_grown BK4'.out hg (by simpa using g4)) u.2 v.2
      have hR : Go.Proofs.Row1 (impl_Sample_neighbors.enc (k := k) (P := l0_0) (x := l1)) w9 g 0 (a :: L).toArray := ⟨fun _ => rfl, hH, hg9⟩
      have hsort : Calls Try.prog 202 #[.slice (some ⟨g, 0, none⟩) (a :: L).toArray.size cap, .func (.func 203) #[] #[.pointer (some ⟨gb3, 0, none⟩), .pointer (some ⟨gb4, 0, none⟩)]] w9 fun e w' => e = .returned (.tuple #[]) ∧ Go.Proofs.SW (impl_Sample_neighbors.enc (k := k) (P := l0_0) (x := l1)) w9 g 0 D w' := by
       rw [HD.out]
       exact impl_Sample_neighbors.sort (impl_Sample_neighbors.enc (k := k) (P := l0_0) (x := l1)) (fun a b : impl_Sample_neighbors.T k l0_0 l1 => impl_Sample_neighbors.cf k l0_0 l1 a.1 b.1) 203 #[.pointer (some ⟨gb3, 0, none⟩), .pointer (some ⟨gb4, 0, none⟩)] g cap (a :: L).toArray w9 (enters_of Try.func203 (by kernel_rfl) rfl) hcmp hR (by rw [hsz]; exact h20)
      have HSORT := Aside0.mk hsort
      have HBLK := Aside0.mk hblk
      have HQ := Aside0.mk (⟨hgb, q1, q2, q3⟩ : _ ∧ _ ∧ _ ∧ _)
      have HBB := Aside0.mk (below_step HB.out hb)
      have HSZ := Aside0.mk hsz
      have HBS := Aside0.mk (Nat.le_trans hbase hb.size)
      have HBS0 := Aside0.mk hbase
      clear hsort hcmp hR hH hH0 hblk q4 hgb q1 q2 q3 hb hsz hbase g3 g4 hown hrep
      go_wp2_with (fail)
      refine calls_of_args (args' := #[.slice (some ⟨g, 0, none⟩) (a :: L).toArray.size cap, .func (.func 203) #[] #[.pointer (some ⟨gb3, 0, none⟩), .pointer (some ⟨gb4, 0, none⟩)]]) (by rw [HSZ.out]) ?_
      refine HSORT.out.mono ?_
      rintro e w10 ⟨rfl, n, os, rfl⟩
      go_wp2
      go_ret
      have hp := (impl_Sample_neighbors.srt_tell inst (a :: L)).1
      rw [← HD.out] at hp
      have hres : (D.toList.map (fun z => z.1)).length = l2.length := by
       rw [List.length_map, hp.length_eq, ← HM.out, List.length_map]
      have hro := Go.ownsRow_sortedI (n := n) (os := os) (ts := D.toList.map (fun z => z.1)) hres (Nat.le_trans HBS0.out HQ.out.1) HBLK.out HQ.out.2.1 HQ.out.2.2.1 HQ.out.2.2.2
      have hg := Go.grownBy_sortedI (w := w9) (g := g) (n := n) (os := os) (D.toList.map (fun z => z.1)).toArray
      have e1 : (D.toList.map (fun z : impl_Sample_neighbors.T k l0_0 l1 => z.1)).toArray = D.map (fun z => z.1) := by apply Array.ext'; simp
      rw [e1, ← impl_Sample_neighbors.putEnc] at hro hg
      have hr : D.toList.map (fun z => z.1) = r := HR.out
      rw [hr] at hro
      have hb2 := pw_below_grown HBB.out _ HBS.out hg (fun k_ e_ => by injection e_ with e_; have := HQ.out.1; have := HBS0.out; omega)
      refine ⟨_, rfl, ⟨fun _ _ => trivial, _, ?_, impl_Sample_neighbors.reps_to _ _ _ r⟩, hb2⟩
      have hrl : r.length = l2.length := by rw [← hr]; exact hres
      rw [hrl]
      exact hro
 · exact absurd h (by simp)


end Go.Proofs.Ytfkfahdikmfpeaa.PFnExactFewestPlaces
