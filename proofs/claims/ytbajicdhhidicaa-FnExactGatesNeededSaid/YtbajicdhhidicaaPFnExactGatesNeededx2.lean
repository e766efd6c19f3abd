-- Printed by wip/tools/myprint.py (the printer of the kit, patched by that program; roots chosen by it)
import Derived.Test.YtbajicdhhidicaaPFnExactGatesNeededx0
import Derived.Test.YtbajicdhhidicaaPFnExactGatesNeededx1
import Derived.Test.YtbajicdhhidicaaSh
namespace Go.Proofs.Ytbajicdhhidicaa.PFnExactGatesNeeded
open Go.RowKit Go.Proofs.Ytbajicdhhidicaa.Sh Go.Proofs.YtbajicdhhidicaaW.PrintWords Go.Proofs.YtbajicdhhidicaaW.PrintLast Go.Proofs.YtbajicdhhidicaaW.PrintMore
attribute [local go_sem] max2_int min2_int max_two min_two max_three min_three max_four min_four   -- for this text's walks alone
set_option linter.unusedVariables false
set_option linter.unusedSimpArgs false

/-! ### spec_l5Trade: function 35 -/
mutual
def spec_l5Trade.l0 : Nat → Int → List Int → List Int → Int → Option (Bool)
 | 0, _, _, _, _ => none
 | k + 1, x0, x1, x2, x7 => if x7 < (x2.length : Int) then (if 0 ≤ x7 then ((spec_l1In.f (rd x2 x7) 0 (wrap64 ((x1.length : Int) - 1))).bind fun t107 => (if t107 = true then (spec_l5Trade.l0 k x0 x1 x2 (wrap64 (x7 + 1))) else (some false))) else (none)) else (if (x2.length : Int) = 4 then (if 0 < (x2.length : Int) then (if 1 < (x2.length : Int) then (if (rd x2 0) > (rd x2 1) then (spec_l5Trade.j1 k x0 x2 true) else (if 2 < (x2.length : Int) then (if 3 < (x2.length : Int) then (if (rd x2 2) > (rd x2 3) then (spec_l5Trade.j1 k x0 x2 true) else (if 0 ≤ (rd x2 0) then (if (rd x2 0) < (x1.length : Int) then (if 0 ≤ (rd x2 1) then (if (rd x2 1) < (x1.length : Int) then (if (wrap64 ((rd x1 (rd x2 0)) + (rd x1 (rd x2 1)))) = 2 then (if 0 ≤ (rd x2 2) then (if (rd x2 2) < (x1.length : Int) then (if 0 ≤ (rd x2 3) then (if (rd x2 3) < (x1.length : Int) then (spec_l5Trade.j1 k x0 x2 ((wrap64 ((rd x1 (rd x2 2)) + (rd x1 (rd x2 3)))) != 0)) else (none)) else (none)) else (none)) else (none)) else (spec_l5Trade.j1 k x0 x2 true)) else (none)) else (none)) else (none)) else (none))) else (none)) else (none))) else (none)) else (none)) else (spec_l5Trade.j1 k x0 x2 true))
def spec_l5Trade.j1 : Nat → Int → List Int → Bool → Option (Bool)
 | 0, _, _, _ => none
 | k + 1, x0, x2, x76 => if x76 = true then (some false) else (spec_l5Trade.l1 k x0 x2 0)
def spec_l5Trade.l1 : Nat → Int → List Int → Int → Option (Bool)
 | 0, _, _, _ => none
 | k + 1, x0, x2, x8 => if x8 < x0 then (if 0 < (x2.length : Int) then (if 0 ≤ x8 then (if 1 < (x2.length : Int) then (if 2 < (x2.length : Int) then (if 3 < (x2.length : Int) then (if (wrap64 ((Go.bits .and .i64 (shr .i64 (rd x2 0) x8) 1) + (Go.bits .and .i64 (shr .i64 (rd x2 1) x8) 1))) = (wrap64 ((Go.bits .and .i64 (shr .i64 (rd x2 2) x8) 1) + (Go.bits .and .i64 (shr .i64 (rd x2 3) x8) 1))) then (spec_l5Trade.l1 k x0 x2 (wrap64 (x8 + 1))) else (some false)) else (none)) else (none)) else (none)) else (none)) else (none)) else (some true)
end
def spec_l5Trade.f (k : Nat) (a0 : Int) (l1 : List Int) (l2 : List Int) : Option (Bool) := spec_l5Trade.l0 k a0 l1 l2 0
set_option maxHeartbeats 8000000 in
set_option maxRecDepth 100000 in
theorem spec_l5Trade.calls (k : Nat) (a0 : Int) (A1 : Option Addr) (c1 : Nat) (l1 : List Int) (A2 : Option Addr) (c2 : Nat) (l2 : List Int) (r : Bool) (w : World) (hr1 : Kd.C (Kd.int .i64) w A1 l1.length l1) (hc1 : l1.length ≤ c1) (hr2 : Kd.C (Kd.int .i64) w A2 l2.length l2) (hc2 : l2.length ≤ c2) (h : spec_l5Trade.f k a0 l1 l2 = some r) :
 Calls Try.prog 35 #[.int .i64 a0, .slice A1 l1.length c1, .slice A2 l2.length c2] w fun e w' => e = .returned (.bool r) ∧ Drawn0 w w' := by
 have HR1 := Aside0.mk hr1
 have HC1 := Aside0.mk hc1
 clear hr1 hc1
 have HR2 := Aside0.mk hr2
 have HC2 := Aside0.mk hc2
 clear hr2 hc2
 have H : (spec_l5Trade.l0 k a0 l1 l2 0) = some r := h
 clear h
 have H' := Aside0.mk H
 clear H
 go_enter Try.func35, Try.ntmps35
 go_wp2
 repeat (go_quiet (fail); try go_wp2)
 go_loopg [7] k (fun kq v7 w' => ∃ (x7_1 : Int), v7 = .int .i64 x7_1 ∧ Aside0 (spec_l5Trade.l0 kq a0 l1 l2 x7_1 = some r) ∧ Aside0 (kq ≤ k) ∧ Drawn0 w w')
 case atStart => exact ⟨(0), rD, H', ⟨Nat.le_refl _⟩, by repeat (first | exact Drawn0.refl _ | apply Drawn0.step)⟩
 case round =>
  clear H'
  try clear c1
  try clear c2
  obtain ⟨x7_1, rfl, HA, HK1, ⟨m1, rfl⟩⟩ := hrel
  cases gk with
  | zero => exact absurd HA.out (by simp [spec_l5Trade.l0])
  | succ k1 =>
   have H := HA.out
   clear HA
   simp only [spec_l5Trade.l0] at H
   by_cases c4 : x7_1 < (l2.length : Int)
   · rw [if_pos c4] at H
     have c4b0 : decide (x7_1 < (l2.length : Int)) = true := decide_eq_true c4
     clear c4
     by_cases c5 : 0 ≤ x7_1
     · rw [if_pos c5] at H
       have c5b0 : decide (0 ≤ x7_1) = true := decide_eq_true c5
       clear c5
       replace H := Option.bind_eq_some_iff.mp H
       obtain ⟨t107, A60, H⟩ := H
       replace H : (if t107 = true then (spec_l5Trade.l0 k1 a0 l1 l2 (wrap64 (x7_1 + 1))) else (some false)) = some r := H
       have A6 := Aside0.mk A60
       clear A60
       by_cases c7 : t107 = true
       · subst c7
         have H1 : (spec_l5Trade.l0 k1 a0 l1 l2 (wrap64 (x7_1 + 1))) = some r := by rw [if_pos rfl] at H; exact H
         clear H
         have H := H1
         clear H1
         have H' := Aside0.mk H
         clear H
         have p106 : 0 ≤ (x7_1 : Int) := of_decide_eq_true aS
         have q106 : x7_1 < (l2.length : Int) := of_decide_eq_true aS
         obtain ⟨ad106, e106, hx106_0⟩ := Kd.at_int HR2.out x7_1 p106 q106
         cases e106
         replace p106 := eq_true p106
         replace q106 := eq_true q106
         go_wp2_with (first | (go_at_call 33; (with_reducible refine (spec_l1In.calls (rd l2 x7_1) 0 (wrap64 ((l1.length : Int) - 1)) true _ A6.out).mono ?_); rintro e w' ⟨rfl, ⟨nd, rfl⟩⟩; (try first | exact ⟨rfl, _, World.drewN_drewN _ _ _⟩ | exact ⟨rfl, _, Eq.trans (World.drewN_drewN _ _ _) (congrArg (World.drewN _) (Nat.add_assoc _ _ _))⟩)))
         repeat (go_quiet (first | (go_at_call 33; (with_reducible refine (spec_l1In.calls (rd l2 x7_1) 0 (wrap64 ((l1.length : Int) - 1)) true _ A6.out).mono ?_); rintro e w' ⟨rfl, ⟨nd, rfl⟩⟩; (try first | exact ⟨rfl, _, World.drewN_drewN _ _ _⟩ | exact ⟨rfl, _, Eq.trans (World.drewN_drewN _ _ _) (congrArg (World.drewN _) (Nat.add_assoc _ _ _))⟩))); try go_wp2_with (first | (go_at_call 33; (with_reducible refine (spec_l1In.calls (rd l2 x7_1) 0 (wrap64 ((l1.length : Int) - 1)) true _ A6.out).mono ?_); rintro e w' ⟨rfl, ⟨nd, rfl⟩⟩; (try first | exact ⟨rfl, _, World.drewN_drewN _ _ _⟩ | exact ⟨rfl, _, Eq.trans (World.drewN_drewN _ _ _) (congrArg (World.drewN _) (Nat.add_assoc _ _ _))⟩))))
         go_roundg k1
         case measure => have := HK1.out; omega
         case rel => exact ⟨(wrap64 (x7_1 + 1)), rD, H', ⟨by have := HK1.out; omega⟩, by repeat (first | exact Drawn0.refl _ | apply Drawn0.step)⟩
       · replace c7 := Bool.eq_false_iff.mpr c7
         subst c7
         have H1 : (some false) = some r := by rw [if_neg (show ¬ (false = true) by decide)] at H; exact H
         clear H
         have H := H1
         clear H1
         obtain rfl := Option.some.inj H
         have p106 : 0 ≤ (x7_1 : Int) := of_decide_eq_true aS
         have q106 : x7_1 < (l2.length : Int) := of_decide_eq_true aS
         obtain ⟨ad106, e106, hx106_0⟩ := Kd.at_int HR2.out x7_1 p106 q106
         cases e106
         replace p106 := eq_true p106
         replace q106 := eq_true q106
         go_wp2_with (first | (go_at_call 33; (with_reducible refine (spec_l1In.calls (rd l2 x7_1) 0 (wrap64 ((l1.length : Int) - 1)) false _ A6.out).mono ?_); rintro e w' ⟨rfl, ⟨nd, rfl⟩⟩; (try first | exact ⟨rfl, _, World.drewN_drewN _ _ _⟩ | exact ⟨rfl, _, Eq.trans (World.drewN_drewN _ _ _) (congrArg (World.drewN _) (Nat.add_assoc _ _ _))⟩)))
         repeat (go_quiet (first | (go_at_call 33; (with_reducible refine (spec_l1In.calls (rd l2 x7_1) 0 (wrap64 ((l1.length : Int) - 1)) false _ A6.out).mono ?_); rintro e w' ⟨rfl, ⟨nd, rfl⟩⟩; (try first | exact ⟨rfl, _, World.drewN_drewN _ _ _⟩ | exact ⟨rfl, _, Eq.trans (World.drewN_drewN _ _ _) (congrArg (World.drewN _) (Nat.add_assoc _ _ _))⟩))); try go_wp2_with (first | (go_at_call 33; (with_reducible refine (spec_l1In.calls (rd l2 x7_1) 0 (wrap64 ((l1.length : Int) - 1)) false _ A6.out).mono ?_); rintro e w' ⟨rfl, ⟨nd, rfl⟩⟩; (try first | exact ⟨rfl, _, World.drewN_drewN _ _ _⟩ | exact ⟨rfl, _, Eq.trans (World.drewN_drewN _ _ _) (congrArg (World.drewN _) (Nat.add_assoc _ _ _))⟩))))
         go_ret
         exact ⟨rD, by repeat (first | exact Drawn0.refl _ | apply Drawn0.step)⟩
     · rw [if_neg c5] at H
       exact absurd H (by simp)
   · rw [if_neg c4] at H
     have c4b0 : decide (x7_1 < (l2.length : Int)) = false := decide_eq_false c4
     clear c4
     have HC8 := Aside0.mk H
     clear H
     go_upto_region 6 with (fail)
     repeat (go_quiet (fail); go_upto_region 6 with (fail))
     go_cut [76] (fun v76 wc => ∃ (kq : Nat) (x76_7 : Bool), v76 = .bool x76_7 ∧ Aside0 (spec_l5Trade.j1 kq a0 l2 x76_7 = some r) ∧ Aside0 (kq ≤ k1) ∧ Drawn0 w wc)
     case first =>
      have H := HC8.out
      clear HC8
      by_cases c9 : (l2.length : Int) = 4
      · rw [if_pos c9] at H
        have c9b0 : ((l2.length : Int) == 4) = true := beq_iff_eq.mpr c9
        have c9b1 : ((l2.length : Int) != 4) = false := bne_eq_false_iff_eq.mpr c9
        clear c9
        (first | rw [c9b0] | (simp only [i64_w, i32_w]; rw [c9b0]) | rw [c9b1] | skip)
        by_cases c10 : 0 < (l2.length : Int)
        · rw [if_pos c10] at H
          have c10b0 : decide (0 < (l2.length : Int)) = true := decide_eq_true c10
          have c10b1 : decide (0 < l2.length) = true := decide_eq_true (by omega)
          clear c10
          by_cases c11 : 1 < (l2.length : Int)
          · rw [if_pos c11] at H
            have c11b0 : decide (1 < (l2.length : Int)) = true := decide_eq_true c11
            have c11b1 : decide (1 < l2.length) = true := decide_eq_true (by omega)
            clear c11
            by_cases c12 : (rd l2 0) > (rd l2 1)
            · rw [if_pos c12] at H
              have c12b0 : decide ((rd l2 1) < (rd l2 0)) = true := decide_eq_true c12
              clear c12
              have H' := Aside0.mk H
              clear H
              have p108 : 0 ≤ (0 : Int) := (by omega)
              have q108 : 0 < (l2.length : Int) := of_decide_eq_true aS
              obtain ⟨ad108, e108, hx108_0⟩ := Kd.at_int HR2.out 0 p108 q108
              cases e108
              have qi108 : (0 < l2.length) = True := eq_true (by omega)
              (try rw [show ((0 : Int)).toNat = 0 from rfl] at hx108_0)
              (try rw [Addr.add_zero'] at hx108_0)
              replace p108 := eq_true p108
              replace q108 := eq_true q108
              have p109 : 0 ≤ (1 : Int) := (by omega)
              have q109 : 1 < (l2.length : Int) := of_decide_eq_true aS
              obtain ⟨ad109, e109, hx109_0⟩ := Kd.at_int HR2.out 1 p109 q109
              obtain rfl : ad108 = ad109 := (by injection e109)
              (try simp only [show (1 : Int).toNat = 1 from rfl, Nat.reduceMul, Nat.reduceEqDiff, Go.Addr.add, ↓reduceIte] at hx109_0)
              have qi109 : (1 < l2.length) = True := eq_true (by omega)
              (try rw [show ((1 : Int)).toNat = 1 from rfl] at hx109_0)
              replace p109 := eq_true p109
              replace q109 := eq_true q109
              go_wp2
              repeat (go_quiet (fail); try go_wp2)
              go_meet
              case rel => exact ⟨_, (true), rD, H', ⟨by have := HK1.out; first | omega | exact Nat.le_refl _⟩, by repeat (first | exact Drawn0.refl _ | apply Drawn0.step)⟩
            · rw [if_neg c12] at H
              have c12b0 : decide ((rd l2 1) < (rd l2 0)) = false := decide_eq_false c12
              clear c12
              by_cases c13 : 2 < (l2.length : Int)
              · rw [if_pos c13] at H
                have c13b0 : decide (2 < (l2.length : Int)) = true := decide_eq_true c13
                have c13b1 : decide (2 < l2.length) = true := decide_eq_true (by omega)
                clear c13
                by_cases c14 : 3 < (l2.length : Int)
                · rw [if_pos c14] at H
                  have c14b0 : decide (3 < (l2.length : Int)) = true := decide_eq_true c14
                  have c14b1 : decide (3 < l2.length) = true := decide_eq_true (by omega)
                  clear c14
                  by_cases c15 : (rd l2 2) > (rd l2 3)
                  · rw [if_pos c15] at H
                    have c15b0 : decide ((rd l2 3) < (rd l2 2)) = true := decide_eq_true c15
                    clear c15
                    have H' := Aside0.mk H
                    clear H
                    have p108 : 0 ≤ (0 : Int) := (by omega)
                    have q108 : 0 < (l2.length : Int) := of_decide_eq_true aS
                    obtain ⟨ad108, e108, hx108_0⟩ := Kd.at_int HR2.out 0 p108 q108
                    cases e108
                    have qi108 : (0 < l2.length) = True := eq_true (by omega)
                    (try rw [show ((0 : Int)).toNat = 0 from rfl] at hx108_0)
                    (try rw [Addr.add_zero'] at hx108_0)
                    replace p108 := eq_true p108
                    replace q108 := eq_true q108
                    have p109 : 0 ≤ (1 : Int) := (by omega)
                    have q109 : 1 < (l2.length : Int) := of_decide_eq_true aS
                    obtain ⟨ad109, e109, hx109_0⟩ := Kd.at_int HR2.out 1 p109 q109
                    obtain rfl : ad108 = ad109 := (by injection e109)
                    (try simp only [show (1 : Int).toNat = 1 from rfl, Nat.reduceMul, Nat.reduceEqDiff, Go.Addr.add, ↓reduceIte] at hx109_0)
                    have qi109 : (1 < l2.length) = True := eq_true (by omega)
                    (try rw [show ((1 : Int)).toNat = 1 from rfl] at hx109_0)
                    replace p109 := eq_true p109
                    replace q109 := eq_true q109
                    have p110 : 0 ≤ (2 : Int) := (by omega)
                    have q110 : 2 < (l2.length : Int) := of_decide_eq_true aS
                    obtain ⟨ad110, e110, hx110_0⟩ := Kd.at_int HR2.out 2 p110 q110
                    obtain rfl : ad108 = ad110 := (by injection e110)
                    (try simp only [show (2 : Int).toNat = 2 from rfl, Nat.reduceMul, Nat.reduceEqDiff, Go.Addr.add, ↓reduceIte] at hx110_0)
                    have qi110 : (2 < l2.length) = True := eq_true (by omega)
                    (try rw [show ((2 : Int)).toNat = 2 from rfl] at hx110_0)
                    replace p110 := eq_true p110
                    replace q110 := eq_true q110
                    have p111 : 0 ≤ (3 : Int) := (by omega)
                    have q111 : 3 < (l2.length : Int) := of_decide_eq_true aS
                    obtain ⟨ad111, e111, hx111_0⟩ := Kd.at_int HR2.out 3 p111 q111
                    obtain rfl : ad108 = ad111 := (by injection e111)
                    (try simp only [show (3 : Int).toNat = 3 from rfl, Nat.reduceMul, Nat.reduceEqDiff, Go.Addr.add, ↓reduceIte] at hx111_0)
                    have qi111 : (3 < l2.length) = True := eq_true (by omega)
                    (try rw [show ((3 : Int)).toNat = 3 from rfl] at hx111_0)
                    replace p111 := eq_true p111
                    replace q111 := eq_true q111
                    go_wp2
                    repeat (go_quiet (fail); try go_wp2)
                    go_meet
                    case rel => exact ⟨_, (true), rD, H', ⟨by have := HK1.out; first | omega | exact Nat.le_refl _⟩, by repeat (first | exact Drawn0.refl _ | apply Drawn0.step)⟩
                  · rw [if_neg c15] at H
                    have c15b0 : decide ((rd l2 3) < (rd l2 2)) = false := decide_eq_false c15
                    clear c15
                    by_cases c16 : 0 ≤ (rd l2 0)
                    · rw [if_pos c16] at H
                      have c16b0 : decide (0 ≤ (rd l2 0)) = true := decide_eq_true c16
                      clear c16
                      by_cases c17 : (rd l2 0) < (l1.length : Int)
                      · rw [if_pos c17] at H
                        have c17b0 : decide ((rd l2 0) < (l1.length : Int)) = true := decide_eq_true c17
                        clear c17
                        by_cases c18 : 0 ≤ (rd l2 1)
                        · rw [if_pos c18] at H
                          have c18b0 : decide (0 ≤ (rd l2 1)) = true := decide_eq_true c18
                          clear c18
                          by_cases c19 : (rd l2 1) < (l1.length : Int)
                          · rw [if_pos c19] at H
                            have c19b0 : decide ((rd l2 1) < (l1.length : Int)) = true := decide_eq_true c19
                            clear c19
                            by_cases c20 : (wrap64 ((rd l1 (rd l2 0)) + (rd l1 (rd l2 1)))) = 2
                            · rw [if_pos c20] at H
                              have c20b0 : ((wrap64 ((rd l1 (rd l2 0)) + (rd l1 (rd l2 1)))) == 2) = true := beq_iff_eq.mpr c20
                              have c20b1 : ((wrap64 ((rd l1 (rd l2 0)) + (rd l1 (rd l2 1)))) != 2) = false := bne_eq_false_iff_eq.mpr c20
                              clear c20
                              by_cases c21 : 0 ≤ (rd l2 2)
                              · rw [if_pos c21] at H
                                have c21b0 : decide (0 ≤ (rd l2 2)) = true := decide_eq_true c21
                                clear c21
                                by_cases c22 : (rd l2 2) < (l1.length : Int)
                                · rw [if_pos c22] at H
                                  have c22b0 : decide ((rd l2 2) < (l1.length : Int)) = true := decide_eq_true c22
                                  clear c22
                                  by_cases c23 : 0 ≤ (rd l2 3)
                                  · rw [if_pos c23] at H
                                    have c23b0 : decide (0 ≤ (rd l2 3)) = true := decide_eq_true c23
                                    clear c23
                                    by_cases c24 : (rd l2 3) < (l1.length : Int)
                                    · rw [if_pos c24] at H
                                      have c24b0 : decide ((rd l2 3) < (l1.length : Int)) = true := decide_eq_true c24
                                      clear c24
                                      have H' := Aside0.mk H
                                      clear H
                                      have p108 : 0 ≤ (0 : Int) := (by omega)
                                      have q108 : 0 < (l2.length : Int) := of_decide_eq_true aS
                                      obtain ⟨ad108, e108, hx108_0⟩ := Kd.at_int HR2.out 0 p108 q108
                                      cases e108
                                      have qi108 : (0 < l2.length) = True := eq_true (by omega)
                                      (try rw [show ((0 : Int)).toNat = 0 from rfl] at hx108_0)
                                      (try rw [Addr.add_zero'] at hx108_0)
                                      replace p108 := eq_true p108
                                      replace q108 := eq_true q108
                                      have p109 : 0 ≤ (1 : Int) := (by omega)
                                      have q109 : 1 < (l2.length : Int) := of_decide_eq_true aS
                                      obtain ⟨ad109, e109, hx109_0⟩ := Kd.at_int HR2.out 1 p109 q109
                                      obtain rfl : ad108 = ad109 := (by injection e109)
                                      (try simp only [show (1 : Int).toNat = 1 from rfl, Nat.reduceMul, Nat.reduceEqDiff, Go.Addr.add, ↓reduceIte] at hx109_0)
                                      have qi109 : (1 < l2.length) = True := eq_true (by omega)
                                      (try rw [show ((1 : Int)).toNat = 1 from rfl] at hx109_0)
                                      replace p109 := eq_true p109
                                      replace q109 := eq_true q109
                                      have p110 : 0 ≤ (2 : Int) := (by omega)
                                      have q110 : 2 < (l2.length : Int) := of_decide_eq_true aS
                                      obtain ⟨ad110, e110, hx110_0⟩ := Kd.at_int HR2.out 2 p110 q110
                                      obtain rfl : ad108 = ad110 := (by injection e110)
                                      (try simp only [show (2 : Int).toNat = 2 from rfl, Nat.reduceMul, Nat.reduceEqDiff, Go.Addr.add, ↓reduceIte] at hx110_0)
                                      have qi110 : (2 < l2.length) = True := eq_true (by omega)
                                      (try rw [show ((2 : Int)).toNat = 2 from rfl] at hx110_0)
                                      replace p110 := eq_true p110
                                      replace q110 := eq_true q110
                                      have p111 : 0 ≤ (3 : Int) := (by omega)
                                      have q111 : 3 < (l2.length : Int) := of_decide_eq_true aS
                                      obtain ⟨ad111, e111, hx111_0⟩ := Kd.at_int HR2.out 3 p111 q111
                                      obtain rfl : ad108 = ad111 := (by injection e111)
                                      (try simp only [show (3 : Int).toNat = 3 from rfl, Nat.reduceMul, Nat.reduceEqDiff, Go.Addr.add, ↓reduceIte] at hx111_0)
                                      have qi111 : (3 < l2.length) = True := eq_true (by omega)
                                      (try rw [show ((3 : Int)).toNat = 3 from rfl] at hx111_0)
                                      replace p111 := eq_true p111
                                      replace q111 := eq_true q111
                                      have p112 : 0 ≤ (0 : Int) := (by omega)
                                      have q112 : 0 < (l2.length : Int) := of_decide_eq_true aS
                                      obtain ⟨ad112, e112, hx112_0⟩ := Kd.at_int HR2.out 0 p112 q112
                                      obtain rfl : ad108 = ad112 := (by injection e112)
                                      have qi112 : (0 < l2.length) = True := eq_true (by omega)
                                      (try rw [show ((0 : Int)).toNat = 0 from rfl] at hx112_0)
                                      (try rw [Addr.add_zero'] at hx112_0)
                                      replace p112 := eq_true p112
                                      replace q112 := eq_true q112
                                      have p113 : 0 ≤ ((rd l2 0) : Int) := of_decide_eq_true aS
                                      have q113 : (rd l2 0) < (l1.length : Int) := of_decide_eq_true aS
                                      obtain ⟨ad113, e113, hx113_0⟩ := Kd.at_int HR1.out (rd l2 0) p113 q113
                                      cases e113
                                      replace p113 := eq_true p113
                                      replace q113 := eq_true q113
                                      have p114 : 0 ≤ (1 : Int) := (by omega)
                                      have q114 : 1 < (l2.length : Int) := of_decide_eq_true aS
                                      obtain ⟨ad114, e114, hx114_0⟩ := Kd.at_int HR2.out 1 p114 q114
                                      obtain rfl : ad108 = ad114 := (by injection e114)
                                      (try simp only [show (1 : Int).toNat = 1 from rfl, Nat.reduceMul, Nat.reduceEqDiff, Go.Addr.add, ↓reduceIte] at hx114_0)
                                      have qi114 : (1 < l2.length) = True := eq_true (by omega)
                                      (try rw [show ((1 : Int)).toNat = 1 from rfl] at hx114_0)
                                      replace p114 := eq_true p114
                                      replace q114 := eq_true q114
                                      have p115 : 0 ≤ ((rd l2 1) : Int) := of_decide_eq_true aS
                                      have q115 : (rd l2 1) < (l1.length : Int) := of_decide_eq_true aS
                                      obtain ⟨ad115, e115, hx115_0⟩ := Kd.at_int HR1.out (rd l2 1) p115 q115
                                      obtain rfl : ad113 = ad115 := (by injection e115)
                                      replace p115 := eq_true p115
                                      replace q115 := eq_true q115
                                      have p116 : 0 ≤ (2 : Int) := (by omega)
                                      have q116 : 2 < (l2.length : Int) := of_decide_eq_true aS
                                      obtain ⟨ad116, e116, hx116_0⟩ := Kd.at_int HR2.out 2 p116 q116
                                      obtain rfl : ad108 = ad116 := (by injection e116)
                                      (try simp only [show (2 : Int).toNat = 2 from rfl, Nat.reduceMul, Nat.reduceEqDiff, Go.Addr.add, ↓reduceIte] at hx116_0)
                                      have qi116 : (2 < l2.length) = True := eq_true (by omega)
                                      (try rw [show ((2 : Int)).toNat = 2 from rfl] at hx116_0)
                                      replace p116 := eq_true p116
                                      replace q116 := eq_true q116
                                      have p117 : 0 ≤ ((rd l2 2) : Int) := of_decide_eq_true aS
                                      have q117 : (rd l2 2) < (l1.length : Int) := of_decide_eq_true aS
                                      obtain ⟨ad117, e117, hx117_0⟩ := Kd.at_int HR1.out (rd l2 2) p117 q117
                                      obtain rfl : ad113 = ad117 := (by injection e117)
                                      replace p117 := eq_true p117
                                      replace q117 := eq_true q117
                                      have p118 : 0 ≤ (3 : Int) := (by omega)
                                      have q118 : 3 < (l2.length : Int) := of_decide_eq_true aS
                                      obtain ⟨ad118, e118, hx118_0⟩ := Kd.at_int HR2.out 3 p118 q118
                                      obtain rfl : ad108 = ad118 := (by injection e118)
                                      (try simp only [show (3 : Int).toNat = 3 from rfl, Nat.reduceMul, Nat.reduceEqDiff, Go.Addr.add, ↓reduceIte] at hx118_0)
                                      have qi118 : (3 < l2.length) = True := eq_true (by omega)
                                      (try rw [show ((3 : Int)).toNat = 3 from rfl] at hx118_0)
                                      replace p118 := eq_true p118
                                      replace q118 := eq_true q118
                                      have p119 : 0 ≤ ((rd l2 3) : Int) := of_decide_eq_true aS
                                      have q119 : (rd l2 3) < (l1.length : Int) := of_decide_eq_true aS
                                      obtain ⟨ad119, e119, hx119_0⟩ := Kd.at_int HR1.out (rd l2 3) p119 q119
                                      obtain rfl : ad113 = ad119 := (by injection e119)
                                      replace p119 := eq_true p119
                                      replace q119 := eq_true q119
                                      go_wp2
                                      repeat (go_quiet (fail); try go_wp2)
                                      go_meet
                                      case rel => exact ⟨_, (((wrap64 ((rd l1 (rd l2 2)) + (rd l1 (rd l2 3)))) != 0)), rD, H', ⟨by have := HK1.out; first | omega | exact Nat.le_refl _⟩, by repeat (first | exact Drawn0.refl _ | apply Drawn0.step)⟩
                                    · rw [if_neg c24] at H
                                      exact absurd H (by simp)
                                  · rw [if_neg c23] at H
                                    exact absurd H (by simp)
                                · rw [if_neg c22] at H
                                  exact absurd H (by simp)
                              · rw [if_neg c21] at H
                                exact absurd H (by simp)
                            · rw [if_neg c20] at H
                              have c20b0 : ((wrap64 ((rd l1 (rd l2 0)) + (rd l1 (rd l2 1)))) == 2) = false := beq_eq_false_iff_ne.mpr c20
                              have c20b1 : ((wrap64 ((rd l1 (rd l2 0)) + (rd l1 (rd l2 1)))) != 2) = true := bne_iff_ne.mpr c20
                              have H' := Aside0.mk H
                              clear H
                              have p108 : 0 ≤ (0 : Int) := (by omega)
                              have q108 : 0 < (l2.length : Int) := of_decide_eq_true aS
                              obtain ⟨ad108, e108, hx108_0⟩ := Kd.at_int HR2.out 0 p108 q108
                              cases e108
                              have qi108 : (0 < l2.length) = True := eq_true (by omega)
                              (try rw [show ((0 : Int)).toNat = 0 from rfl] at hx108_0)
                              (try rw [Addr.add_zero'] at hx108_0)
                              replace p108 := eq_true p108
                              replace q108 := eq_true q108
                              have p109 : 0 ≤ (1 : Int) := (by omega)
                              have q109 : 1 < (l2.length : Int) := of_decide_eq_true aS
                              obtain ⟨ad109, e109, hx109_0⟩ := Kd.at_int HR2.out 1 p109 q109
                              obtain rfl : ad108 = ad109 := (by injection e109)
                              (try simp only [show (1 : Int).toNat = 1 from rfl, Nat.reduceMul, Nat.reduceEqDiff, Go.Addr.add, ↓reduceIte] at hx109_0)
                              have qi109 : (1 < l2.length) = True := eq_true (by omega)
                              (try rw [show ((1 : Int)).toNat = 1 from rfl] at hx109_0)
                              replace p109 := eq_true p109
                              replace q109 := eq_true q109
                              have p110 : 0 ≤ (2 : Int) := (by omega)
                              have q110 : 2 < (l2.length : Int) := of_decide_eq_true aS
                              obtain ⟨ad110, e110, hx110_0⟩ := Kd.at_int HR2.out 2 p110 q110
                              obtain rfl : ad108 = ad110 := (by injection e110)
                              (try simp only [show (2 : Int).toNat = 2 from rfl, Nat.reduceMul, Nat.reduceEqDiff, Go.Addr.add, ↓reduceIte] at hx110_0)
                              have qi110 : (2 < l2.length) = True := eq_true (by omega)
                              (try rw [show ((2 : Int)).toNat = 2 from rfl] at hx110_0)
                              replace p110 := eq_true p110
                              replace q110 := eq_true q110
                              have p111 : 0 ≤ (3 : Int) := (by omega)
                              have q111 : 3 < (l2.length : Int) := of_decide_eq_true aS
                              obtain ⟨ad111, e111, hx111_0⟩ := Kd.at_int HR2.out 3 p111 q111
                              obtain rfl : ad108 = ad111 := (by injection e111)
                              (try simp only [show (3 : Int).toNat = 3 from rfl, Nat.reduceMul, Nat.reduceEqDiff, Go.Addr.add, ↓reduceIte] at hx111_0)
                              have qi111 : (3 < l2.length) = True := eq_true (by omega)
                              (try rw [show ((3 : Int)).toNat = 3 from rfl] at hx111_0)
                              replace p111 := eq_true p111
                              replace q111 := eq_true q111
                              have p112 : 0 ≤ (0 : Int) := (by omega)
                              have q112 : 0 < (l2.length : Int) := of_decide_eq_true aS
                              obtain ⟨ad112, e112, hx112_0⟩ := Kd.at_int HR2.out 0 p112 q112
                              obtain rfl : ad108 = ad112 := (by injection e112)
                              have qi112 : (0 < l2.length) = True := eq_true (by omega)
                              (try rw [show ((0 : Int)).toNat = 0 from rfl] at hx112_0)
                              (try rw [Addr.add_zero'] at hx112_0)
                              replace p112 := eq_true p112
                              replace q112 := eq_true q112
                              have p113 : 0 ≤ ((rd l2 0) : Int) := of_decide_eq_true aS
                              have q113 : (rd l2 0) < (l1.length : Int) := of_decide_eq_true aS
                              obtain ⟨ad113, e113, hx113_0⟩ := Kd.at_int HR1.out (rd l2 0) p113 q113
                              cases e113
                              replace p113 := eq_true p113
                              replace q113 := eq_true q113
                              have p114 : 0 ≤ (1 : Int) := (by omega)
                              have q114 : 1 < (l2.length : Int) := of_decide_eq_true aS
                              obtain ⟨ad114, e114, hx114_0⟩ := Kd.at_int HR2.out 1 p114 q114
                              obtain rfl : ad108 = ad114 := (by injection e114)
                              (try simp only [show (1 : Int).toNat = 1 from rfl, Nat.reduceMul, Nat.reduceEqDiff, Go.Addr.add, ↓reduceIte] at hx114_0)
                              have qi114 : (1 < l2.length) = True := eq_true (by omega)
                              (try rw [show ((1 : Int)).toNat = 1 from rfl] at hx114_0)
                              replace p114 := eq_true p114
                              replace q114 := eq_true q114
                              have p115 : 0 ≤ ((rd l2 1) : Int) := of_decide_eq_true aS
                              have q115 : (rd l2 1) < (l1.length : Int) := of_decide_eq_true aS
                              obtain ⟨ad115, e115, hx115_0⟩ := Kd.at_int HR1.out (rd l2 1) p115 q115
                              obtain rfl : ad113 = ad115 := (by injection e115)
                              replace p115 := eq_true p115
                              replace q115 := eq_true q115
                              go_wp2
                              repeat (go_quiet (fail); try go_wp2)
                              go_meet
                              case rel => exact ⟨_, (true), rD, H', ⟨by have := HK1.out; first | omega | exact Nat.le_refl _⟩, by repeat (first | exact Drawn0.refl _ | apply Drawn0.step)⟩
                          · rw [if_neg c19] at H
                            exact absurd H (by simp)
                        · rw [if_neg c18] at H
                          exact absurd H (by simp)
                      · rw [if_neg c17] at H
                        exact absurd H (by simp)
                    · rw [if_neg c16] at H
                      exact absurd H (by simp)
                · rw [if_neg c14] at H
                  exact absurd H (by simp)
              · rw [if_neg c13] at H
                exact absurd H (by simp)
          · rw [if_neg c11] at H
            exact absurd H (by simp)
        · rw [if_neg c10] at H
          exact absurd H (by simp)
      · rw [if_neg c9] at H
        have c9b0 : ((l2.length : Int) == 4) = false := beq_eq_false_iff_ne.mpr c9
        have c9b1 : ((l2.length : Int) != 4) = true := bne_iff_ne.mpr c9
        (first | rw [c9b0] | (simp only [i64_w, i32_w]; rw [c9b0]) | rw [c9b1] | skip)
        have H' := Aside0.mk H
        clear H
        go_wp2
        repeat (go_quiet (fail); try go_wp2)
        go_meet
        case rel => exact ⟨_, (true), rD, H', ⟨by have := HK1.out; first | omega | exact Nat.le_refl _⟩, by repeat (first | exact Drawn0.refl _ | apply Drawn0.step)⟩
     case rest =>
      clear HC8
      try clear c1
      try clear c2
      try clear c4
      try clear c4b0
      try clear c5
      obtain ⟨kq, x76_7, rfl, HA, HJ7, ⟨mc7, rfl⟩⟩ := hcut
      cases kq with
      | zero => exact absurd HA.out (by simp [spec_l5Trade.j1])
      | succ kj7 =>
       have H := HA.out
       clear HA
       simp only [spec_l5Trade.j1] at H
       by_cases c25 : x76_7 = true
       · subst c25
         have H1 : (some false) = some r := by rw [if_pos rfl] at H; exact H
         clear H
         have H := H1
         clear H1
         obtain rfl := Option.some.inj H
         go_wp2
         repeat (go_quiet (fail); try go_wp2)
         go_ret
         exact ⟨rD, by repeat (first | exact Drawn0.refl _ | apply Drawn0.step)⟩
       · replace c25 := Bool.eq_false_iff.mpr c25
         subst c25
         have H1 : (spec_l5Trade.l1 kj7 a0 l2 0) = some r := by rw [if_neg (show ¬ (false = true) by decide)] at H; exact H
         clear H
         have H := H1
         clear H1
         have H' := Aside0.mk H
         clear H
         go_wp2
         repeat (go_quiet (fail); try go_wp2)
         go_loopg [8] kj7 (fun kq v8 w' => ∃ (x8_3 : Int), v8 = .int .i64 x8_3 ∧ Aside0 (spec_l5Trade.l1 kq a0 l2 x8_3 = some r) ∧ Aside0 (kq ≤ kj7) ∧ Drawn0 w w')
         case atStart => exact ⟨(0), rD, H', ⟨Nat.le_refl _⟩, by repeat (first | exact Drawn0.refl _ | apply Drawn0.step)⟩
         case round =>
          clear H'
          try clear c1
          try clear c2
          try clear c4
          try clear c4b0
          try clear c5
          try clear c25
          obtain ⟨x8_3, rfl, HA, HK3, ⟨m3, rfl⟩⟩ := hrel
          cases gk with
          | zero => exact absurd HA.out (by simp [spec_l5Trade.l1])
          | succ k3 =>
           have H := HA.out
           clear HA
           simp only [spec_l5Trade.l1] at H
           by_cases c26 : x8_3 < a0
           · rw [if_pos c26] at H
             have c26b0 : decide (x8_3 < a0) = true := decide_eq_true c26
             clear c26
             by_cases c27 : 0 < (l2.length : Int)
             · rw [if_pos c27] at H
               have c27b0 : decide (0 < (l2.length : Int)) = true := decide_eq_true c27
               have c27b1 : decide (0 < l2.length) = true := decide_eq_true (by omega)
               clear c27
               by_cases c28 : 0 ≤ x8_3
               · rw [if_pos c28] at H
                 have c28b0 := eq_true c28
                 have c28b1 : decide (0 ≤ x8_3) = true := decide_eq_true c28
                 clear c28
                 obtain ⟨ji29, hji29⟩ : ∃ j_ : Int, (shr .i64 (rd l2 0) x8_3) = j_ := ⟨_, rfl⟩
                 replace H : (if 1 < (l2.length : Int) then (if 2 < (l2.length : Int) then (if 3 < (l2.length : Int) then (if (wrap64 ((Go.bits .and .i64 (ji29) 1) + (Go.bits .and .i64 (shr .i64 (rd l2 1) x8_3) 1))) = (wrap64 ((Go.bits .and .i64 (shr .i64 (rd l2 2) x8_3) 1) + (Go.bits .and .i64 (shr .i64 (rd l2 3) x8_3) 1))) then (spec_l5Trade.l1 k3 a0 l2 (wrap64 (x8_3 + 1))) else (some false)) else (none)) else (none)) else (none)) = some r := by first | (rw [hji29] at H; exact H) | (simp only [hji29] at H ⊢; exact H)
                 have hji29_ : ((rd l2 0) / 2 ^ min x8_3.toNat 64) = ji29 := hji29
                 have hji29z : x8_3 ≤ 64 → ((rd l2 0) / 2 ^ x8_3.toNat) = ji29 := shr_small hji29
                 by_cases c30 : 1 < (l2.length : Int)
                 · rw [if_pos c30] at H
                   have c30b0 : decide (1 < (l2.length : Int)) = true := decide_eq_true c30
                   have c30b1 : decide (1 < l2.length) = true := decide_eq_true (by omega)
                   clear c30
                   have c31b0 := eq_true (of_decide_eq_true aS : 0 ≤ x8_3)
                   obtain ⟨ji32, hji32⟩ : ∃ j_ : Int, (shr .i64 (rd l2 1) x8_3) = j_ := ⟨_, rfl⟩
                   replace H : (if 2 < (l2.length : Int) then (if 3 < (l2.length : Int) then (if (wrap64 ((Go.bits .and .i64 (ji29) 1) + (Go.bits .and .i64 (ji32) 1))) = (wrap64 ((Go.bits .and .i64 (shr .i64 (rd l2 2) x8_3) 1) + (Go.bits .and .i64 (shr .i64 (rd l2 3) x8_3) 1))) then (spec_l5Trade.l1 k3 a0 l2 (wrap64 (x8_3 + 1))) else (some false)) else (none)) else (none)) = some r := by first | (rw [hji32] at H; exact H) | (simp only [hji32] at H ⊢; exact H)
                   have hji32_ : ((rd l2 1) / 2 ^ min x8_3.toNat 64) = ji32 := hji32
                   have hji32z : x8_3 ≤ 64 → ((rd l2 1) / 2 ^ x8_3.toNat) = ji32 := shr_small hji32
                   by_cases c33 : 2 < (l2.length : Int)
                   · rw [if_pos c33] at H
                     have c33b0 : decide (2 < (l2.length : Int)) = true := decide_eq_true c33
                     have c33b1 : decide (2 < l2.length) = true := decide_eq_true (by omega)
                     clear c33
                     have c34b0 := eq_true (of_decide_eq_true aS : 0 ≤ x8_3)
                     obtain ⟨ji35, hji35⟩ : ∃ j_ : Int, (shr .i64 (rd l2 2) x8_3) = j_ := ⟨_, rfl⟩
                     replace H : (if 3 < (l2.length : Int) then (if (wrap64 ((Go.bits .and .i64 (ji29) 1) + (Go.bits .and .i64 (ji32) 1))) = (wrap64 ((Go.bits .and .i64 (ji35) 1) + (Go.bits .and .i64 (shr .i64 (rd l2 3) x8_3) 1))) then (spec_l5Trade.l1 k3 a0 l2 (wrap64 (x8_3 + 1))) else (some false)) else (none)) = some r := by first | (rw [hji35] at H; exact H) | (simp only [hji35] at H ⊢; exact H)
                     have hji35_ : ((rd l2 2) / 2 ^ min x8_3.toNat 64) = ji35 := hji35
                     have hji35z : x8_3 ≤ 64 → ((rd l2 2) / 2 ^ x8_3.toNat) = ji35 := shr_small hji35
                     by_cases c36 : 3 < (l2.length : Int)
                     · rw [if_pos c36] at H
                       have c36b0 : decide (3 < (l2.length : Int)) = true := decide_eq_true c36
                       have c36b1 : decide (3 < l2.length) = true := decide_eq_true (by omega)
                       clear c36
                       have c37b0 := eq_true (of_decide_eq_true aS : 0 ≤ x8_3)
                       obtain ⟨ji38, hji38⟩ : ∃ j_ : Int, (shr .i64 (rd l2 3) x8_3) = j_ := ⟨_, rfl⟩
                       replace H : (if (wrap64 ((Go.bits .and .i64 (ji29) 1) + (Go.bits .and .i64 (ji32) 1))) = (wrap64 ((Go.bits .and .i64 (ji35) 1) + (Go.bits .and .i64 (ji38) 1))) then (spec_l5Trade.l1 k3 a0 l2 (wrap64 (x8_3 + 1))) else (some false)) = some r := by first | (rw [hji38] at H; exact H) | (simp only [hji38] at H ⊢; exact H)
                       have hji38_ : ((rd l2 3) / 2 ^ min x8_3.toNat 64) = ji38 := hji38
                       have hji38z : x8_3 ≤ 64 → ((rd l2 3) / 2 ^ x8_3.toNat) = ji38 := shr_small hji38
                       by_cases c39 : (wrap64 ((Go.bits .and .i64 (ji29) 1) + (Go.bits .and .i64 (ji32) 1))) = (wrap64 ((Go.bits .and .i64 (ji35) 1) + (Go.bits .and .i64 (ji38) 1)))
                       · rw [if_pos c39] at H
                         have c39b0 : ((wrap64 ((Go.bits .and .i64 (ji29) 1) + (Go.bits .and .i64 (ji32) 1))) == (wrap64 ((Go.bits .and .i64 (ji35) 1) + (Go.bits .and .i64 (ji38) 1)))) = true := beq_iff_eq.mpr c39
                         have c39b1 : ((wrap64 ((Go.bits .and .i64 (ji29) 1) + (Go.bits .and .i64 (ji32) 1))) != (wrap64 ((Go.bits .and .i64 (ji35) 1) + (Go.bits .and .i64 (ji38) 1)))) = false := bne_eq_false_iff_eq.mpr c39
                         clear c39
                         have H' := Aside0.mk H
                         clear H
                         have p120 : 0 ≤ (0 : Int) := (by omega)
                         have q120 : 0 < (l2.length : Int) := of_decide_eq_true aS
                         obtain ⟨ad120, e120, hx120_0⟩ := Kd.at_int HR2.out 0 p120 q120
                         cases e120
                         have qi120 : (0 < l2.length) = True := eq_true (by omega)
                         (try rw [show ((0 : Int)).toNat = 0 from rfl] at hx120_0)
                         (try rw [Addr.add_zero'] at hx120_0)
                         replace p120 := eq_true p120
                         replace q120 := eq_true q120
                         have p121 : 0 ≤ (1 : Int) := (by omega)
                         have q121 : 1 < (l2.length : Int) := of_decide_eq_true aS
                         obtain ⟨ad121, e121, hx121_0⟩ := Kd.at_int HR2.out 1 p121 q121
                         obtain rfl : ad120 = ad121 := (by injection e121)
                         (try simp only [show (1 : Int).toNat = 1 from rfl, Nat.reduceMul, Nat.reduceEqDiff, Go.Addr.add, ↓reduceIte] at hx121_0)
                         have qi121 : (1 < l2.length) = True := eq_true (by omega)
                         (try rw [show ((1 : Int)).toNat = 1 from rfl] at hx121_0)
                         replace p121 := eq_true p121
                         replace q121 := eq_true q121
                         have p122 : 0 ≤ (2 : Int) := (by omega)
                         have q122 : 2 < (l2.length : Int) := of_decide_eq_true aS
                         obtain ⟨ad122, e122, hx122_0⟩ := Kd.at_int HR2.out 2 p122 q122
                         obtain rfl : ad120 = ad122 := (by injection e122)
                         (try simp only [show (2 : Int).toNat = 2 from rfl, Nat.reduceMul, Nat.reduceEqDiff, Go.Addr.add, ↓reduceIte] at hx122_0)
                         have qi122 : (2 < l2.length) = True := eq_true (by omega)
                         (try rw [show ((2 : Int)).toNat = 2 from rfl] at hx122_0)
                         replace p122 := eq_true p122
                         replace q122 := eq_true q122
                         have p123 : 0 ≤ (3 : Int) := (by omega)
                         have q123 : 3 < (l2.length : Int) := of_decide_eq_true aS
                         obtain ⟨ad123, e123, hx123_0⟩ := Kd.at_int HR2.out 3 p123 q123
                         obtain rfl : ad120 = ad123 := (by injection e123)
                         (try simp only [show (3 : Int).toNat = 3 from rfl, Nat.reduceMul, Nat.reduceEqDiff, Go.Addr.add, ↓reduceIte] at hx123_0)
                         have qi123 : (3 < l2.length) = True := eq_true (by omega)
                         (try rw [show ((3 : Int)).toNat = 3 from rfl] at hx123_0)
                         replace p123 := eq_true p123
                         replace q123 := eq_true q123
                         go_wp2
                         repeat (go_quiet (fail); try go_wp2)
                         go_roundg k3
                         case measure => have := HK1.out; have := HJ7.out; have := HK3.out; omega
                         case rel => exact ⟨(wrap64 (x8_3 + 1)), rD, H', ⟨by have := HK1.out; have := HJ7.out; have := HK3.out; omega⟩, by repeat (first | exact Drawn0.refl _ | apply Drawn0.step)⟩
                       · rw [if_neg c39] at H
                         have c39b0 : ((wrap64 ((Go.bits .and .i64 (ji29) 1) + (Go.bits .and .i64 (ji32) 1))) == (wrap64 ((Go.bits .and .i64 (ji35) 1) + (Go.bits .and .i64 (ji38) 1)))) = false := beq_eq_false_iff_ne.mpr c39
                         have c39b1 : ((wrap64 ((Go.bits .and .i64 (ji29) 1) + (Go.bits .and .i64 (ji32) 1))) != (wrap64 ((Go.bits .and .i64 (ji35) 1) + (Go.bits .and .i64 (ji38) 1)))) = true := bne_iff_ne.mpr c39
                         obtain rfl := Option.some.inj H
                         have p120 : 0 ≤ (0 : Int) := (by omega)
                         have q120 : 0 < (l2.length : Int) := of_decide_eq_true aS
                         obtain ⟨ad120, e120, hx120_0⟩ := Kd.at_int HR2.out 0 p120 q120
                         cases e120
                         have qi120 : (0 < l2.length) = True := eq_true (by omega)
                         (try rw [show ((0 : Int)).toNat = 0 from rfl] at hx120_0)
                         (try rw [Addr.add_zero'] at hx120_0)
                         replace p120 := eq_true p120
                         replace q120 := eq_true q120
                         have p121 : 0 ≤ (1 : Int) := (by omega)
                         have q121 : 1 < (l2.length : Int) := of_decide_eq_true aS
                         obtain ⟨ad121, e121, hx121_0⟩ := Kd.at_int HR2.out 1 p121 q121
                         obtain rfl : ad120 = ad121 := (by injection e121)
                         (try simp only [show (1 : Int).toNat = 1 from rfl, Nat.reduceMul, Nat.reduceEqDiff, Go.Addr.add, ↓reduceIte] at hx121_0)
                         have qi121 : (1 < l2.length) = True := eq_true (by omega)
                         (try rw [show ((1 : Int)).toNat = 1 from rfl] at hx121_0)
                         replace p121 := eq_true p121
                         replace q121 := eq_true q121
                         have p122 : 0 ≤ (2 : Int) := (by omega)
                         have q122 : 2 < (l2.length : Int) := of_decide_eq_true aS
                         obtain ⟨ad122, e122, hx122_0⟩ := Kd.at_int HR2.out 2 p122 q122
                         obtain rfl : ad120 = ad122 := (by injection e122)
                         (try simp only [show (2 : Int).toNat = 2 from rfl, Nat.reduceMul, Nat.reduceEqDiff, Go.Addr.add, ↓reduceIte] at hx122_0)
                         have qi122 : (2 < l2.length) = True := eq_true (by omega)
                         (try rw [show ((2 : Int)).toNat = 2 from rfl] at hx122_0)
                         replace p122 := eq_true p122
                         replace q122 := eq_true q122
                         have p123 : 0 ≤ (3 : Int) := (by omega)
                         have q123 : 3 < (l2.length : Int) := of_decide_eq_true aS
                         obtain ⟨ad123, e123, hx123_0⟩ := Kd.at_int HR2.out 3 p123 q123
                         obtain rfl : ad120 = ad123 := (by injection e123)
                         (try simp only [show (3 : Int).toNat = 3 from rfl, Nat.reduceMul, Nat.reduceEqDiff, Go.Addr.add, ↓reduceIte] at hx123_0)
                         have qi123 : (3 < l2.length) = True := eq_true (by omega)
                         (try rw [show ((3 : Int)).toNat = 3 from rfl] at hx123_0)
                         replace p123 := eq_true p123
                         replace q123 := eq_true q123
                         go_wp2
                         repeat (go_quiet (fail); try go_wp2)
                         go_ret
                         exact ⟨by first | rfl | (simp; done) | (simp only [← hji29, ← hji32, ← hji35, ← hji38] <;> (first | rfl | simp)) | (simp [*]; done), by repeat (first | exact Drawn0.refl _ | apply Drawn0.step)⟩
                     · rw [if_neg c36] at H
                       exact absurd H (by simp)
                   · rw [if_neg c33] at H
                     exact absurd H (by simp)
                 · rw [if_neg c30] at H
                   exact absurd H (by simp)
               · rw [if_neg c28] at H
                 exact absurd H (by simp)
             · rw [if_neg c27] at H
               exact absurd H (by simp)
           · rw [if_neg c26] at H
             have c26b0 : decide (x8_3 < a0) = false := decide_eq_false c26
             clear c26
             obtain rfl := Option.some.inj H
             go_wp2
             repeat (go_quiet (fail); try go_wp2)
             go_ret
             exact ⟨rD, by repeat (first | exact Drawn0.refl _ | apply Drawn0.step)⟩

end Go.Proofs.Ytbajicdhhidicaa.PFnExactGatesNeeded
