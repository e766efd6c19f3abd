import Derived.Test.YtfkfahdikmfpeaaDoorPFnExactShatteredSetsx0
import Derived.Test.YtfkfahdikmfpeaaDoorSh
namespace Go.Proofs.YtfkfahdikmfpeaaDoor.PFnExactShatteredSets
open Go.RowKit Go.Proofs.YtfkfahdikmfpeaaDoor.Sh Go.Proofs.YtfkfahdikmfpeaaDoorW.PrintWords Go.Proofs.YtfkfahdikmfpeaaDoorW.PrintLast Go.Proofs.YtfkfahdikmfpeaaDoorW.PrintMore
attribute [local go_sem] max2_int min2_int max_two min_two max_three min_three max_four min_four
set_option linter.unusedVariables false
set_option maxHeartbeats 8000000
set_option maxRecDepth 100000
set_option linter.unusedSimpArgs false

def spec_l2Labels.l0 : Nat → List Int → Int → Option (Bool)
 | 0, _, _ => none
 | k + 1, x0, x3 => if x3 < (x0.length : Int) then (if 0 ≤ x3 then (if (rd x0 x3) = 1 then (spec_l2Labels.l0 k x0 (wrap64 (x3 + 1))) else (if (rd x0 x3) = (-1) then (spec_l2Labels.l0 k x0 (wrap64 (x3 + 1))) else (some false))) else (none)) else (some true)
def spec_l2Labels.f (k : Nat) (l0 : List Int) : Option (Bool) := spec_l2Labels.l0 k l0 0
theorem spec_l2Labels.calls (k : Nat) (A0 : Option Addr) (c0 : Nat) (l0 : List Int) (r : Bool) (w : World) (hr0 : Kd.C (Kd.int .i64) w A0 l0.length l0) (hc0 : l0.length ≤ c0) (h : spec_l2Labels.f k l0 = some r) :
 Calls Tryd.prog 26 #[.slice A0 l0.length c0] w fun e w' => e = .returned (.bool r) ∧ Drawn0 w w' := by
 have HR0 := Aside0.mk hr0; have HC0 := Aside0.mk hc0; clear hr0 hc0; have H : (spec_l2Labels.l0 k l0 0) = some r := h; clear h; have H' := Aside0.mk H; clear H; go_enter Tryd.func26, Tryd.ntmps26; go_wp2; go_loopg [3] k (fun kq v3 w' => ∃ (x3_1 : Int), v3 = .int .i64 x3_1 ∧ Aside0 (spec_l2Labels.l0 kq l0 x3_1 = some r) ∧ Aside0 (kq ≤ k) ∧ Drawn0 w w')
 case atStart => exact ⟨(0), rD, H', ⟨Nat.le_refl _⟩, by repeat (first | exact Drawn0.refl _ | apply Drawn0.step)⟩
 case round =>
  clear H'; obtain ⟨x3_1, rfl, HA, HK1, ⟨m1, rfl⟩⟩ := hrel; cases gk with
  | zero => exact absurd HA.out (by simp [spec_l2Labels.l0])
  | succ k1 =>
   have H := HA.out; clear HA; simp only [spec_l2Labels.l0] at H; by_cases c2 : x3_1 < (l0.length : Int)
   · rw [if_pos c2] at H; have c2b0 : decide (x3_1 < (l0.length : Int)) = true := decide_eq_true c2; clear c2; by_cases c3 : 0 ≤ x3_1
     · rw [if_pos c3] at H; have c3b0 : decide (0 ≤ x3_1) = true := decide_eq_true c3; clear c3; by_cases c4 : (rd l0 x3_1) = 1
       · rw [if_pos c4] at H; have c4b0 : ((rd l0 x3_1) == 1) = true := beq_iff_eq.mpr c4; have c4b1 : ((rd l0 x3_1) != 1) = false := bne_eq_false_iff_eq.mpr c4; clear c4; have H' := Aside0.mk H; clear H; have p121 : 0 ≤ (x3_1 : Int) := of_decide_eq_true aS; have q121 : x3_1 < (l0.length : Int) := of_decide_eq_true aS; obtain ⟨ad121, e121, hx121_0⟩ := Kd.at_int HR0.out x3_1 p121 q121; cases e121
         replace p121 := eq_true p121; replace q121 := eq_true q121; go_wp2; go_roundg k1
         case measure => have := HK1.out; omega
         case rel => exact ⟨(wrap64 (x3_1 + 1)), rD, H', ⟨by have := HK1.out; omega⟩, by repeat (first | exact Drawn0.refl _ | apply Drawn0.step)⟩
       · rw [if_neg c4] at H; have c4b0 : ((rd l0 x3_1) == 1) = false := beq_eq_false_iff_ne.mpr c4; have c4b1 : ((rd l0 x3_1) != 1) = true := bne_iff_ne.mpr c4; by_cases c5 : (rd l0 x3_1) = (-1)
         · rw [if_pos c5] at H; have c5b0 : ((rd l0 x3_1) == (-1)) = true := beq_iff_eq.mpr c5; have c5b1 : ((rd l0 x3_1) != (-1)) = false := bne_eq_false_iff_eq.mpr c5; clear c5; have H' := Aside0.mk H; clear H; have p121 : 0 ≤ (x3_1 : Int) := of_decide_eq_true aS; have q121 : x3_1 < (l0.length : Int) := of_decide_eq_true aS; obtain ⟨ad121, e121, hx121_0⟩ := Kd.at_int HR0.out x3_1 p121 q121; cases e121
           replace p121 := eq_true p121; replace q121 := eq_true q121; have p122 : 0 ≤ (x3_1 : Int) := of_decide_eq_true aS; have q122 : x3_1 < (l0.length : Int) := of_decide_eq_true aS; obtain ⟨ad122, e122, hx122_0⟩ := Kd.at_int HR0.out x3_1 p122 q122; obtain rfl : ad121 = ad122 := (by injection e122); replace p122 := eq_true p122; replace q122 := eq_true q122; go_wp2; go_roundg k1
           case measure => have := HK1.out; omega
           case rel => exact ⟨(wrap64 (x3_1 + 1)), rD, H', ⟨by have := HK1.out; omega⟩, by repeat (first | exact Drawn0.refl _ | apply Drawn0.step)⟩
         · rw [if_neg c5] at H; have c5b0 : ((rd l0 x3_1) == (-1)) = false := beq_eq_false_iff_ne.mpr c5; have c5b1 : ((rd l0 x3_1) != (-1)) = true := bne_iff_ne.mpr c5; obtain rfl := Option.some.inj H; have p121 : 0 ≤ (x3_1 : Int) := of_decide_eq_true aS; have q121 : x3_1 < (l0.length : Int) := of_decide_eq_true aS; obtain ⟨ad121, e121, hx121_0⟩ := Kd.at_int HR0.out x3_1 p121 q121; cases e121
           replace p121 := eq_true p121; replace q121 := eq_true q121; have p122 : 0 ≤ (x3_1 : Int) := of_decide_eq_true aS; have q122 : x3_1 < (l0.length : Int) := of_decide_eq_true aS; obtain ⟨ad122, e122, hx122_0⟩ := Kd.at_int HR0.out x3_1 p122 q122; obtain rfl : ad121 = ad122 := (by injection e122); replace p122 := eq_true p122; replace q122 := eq_true q122; go_wp2; go_ret
           exact ⟨rD, by repeat (first | exact Drawn0.refl _ | apply Drawn0.step)⟩
     · rw [if_neg c3] at H; exact absurd H (by simp)
   · rw [if_neg c2] at H; have c2b0 : decide (x3_1 < (l0.length : Int)) = false := decide_eq_false c2; clear c2; obtain rfl := Option.some.inj H; go_wp2; go_ret
     exact ⟨rD, by repeat (first | exact Drawn0.refl _ | apply Drawn0.step)⟩

def spec_l7Before.l0 : Nat → List Int → List Int → Int → Option (Bool)
 | 0, _, _, _ => none
 | k + 1, x0, x1, x5 => if x5 < (x0.length : Int) then (if 0 ≤ x5 then (if x5 < (x1.length : Int) then (if (rd x0 x5) = (rd x1 x5) then (spec_l7Before.l0 k x0 x1 (wrap64 (x5 + 1))) else (some (decide ((rd x0 x5) < (rd x1 x5))))) else (none)) else (none)) else (some false)
def spec_l7Before.f (k : Nat) (l0 : List Int) (l1 : List Int) : Option (Bool) := spec_l7Before.l0 k l0 l1 0
theorem spec_l7Before.calls (k : Nat) (A0 : Option Addr) (c0 : Nat) (l0 : List Int) (A1 : Option Addr) (c1 : Nat) (l1 : List Int) (r : Bool) (w : World) (hr0 : Kd.C (Kd.int .i64) w A0 l0.length l0) (hc0 : l0.length ≤ c0) (hr1 : Kd.C (Kd.int .i64) w A1 l1.length l1) (hc1 : l1.length ≤ c1) (h : spec_l7Before.f k l0 l1 = some r) :
 Calls Tryd.prog 27 #[.slice A0 l0.length c0, .slice A1 l1.length c1] w fun e w' => e = .returned (.bool r) ∧ Drawn0 w w' := by
 have HR0 := Aside0.mk hr0; have HC0 := Aside0.mk hc0; clear hr0 hc0; have HR1 := Aside0.mk hr1; have HC1 := Aside0.mk hc1; clear hr1 hc1; have H : (spec_l7Before.l0 k l0 l1 0) = some r := h; clear h; have H' := Aside0.mk H; clear H; go_enter Tryd.func27, Tryd.ntmps27; go_wp2; repeat (go_quiet (fail); try go_wp2)
 go_loopg [5] k (fun kq v5 w' => ∃ (x5_1 : Int), v5 = .int .i64 x5_1 ∧ Aside0 (spec_l7Before.l0 kq l0 l1 x5_1 = some r) ∧ Aside0 (kq ≤ k) ∧ Drawn0 w w')
 case atStart => exact ⟨(0), rD, H', ⟨Nat.le_refl _⟩, by repeat (first | exact Drawn0.refl _ | apply Drawn0.step)⟩
 case round =>
  clear H'; try clear c1
  obtain ⟨x5_1, rfl, HA, HK1, ⟨m1, rfl⟩⟩ := hrel; cases gk with
  | zero => exact absurd HA.out (by simp [spec_l7Before.l0])
  | succ k1 =>
   have H := HA.out; clear HA; simp only [spec_l7Before.l0] at H; by_cases c3 : x5_1 < (l0.length : Int)
   · rw [if_pos c3] at H; have c3b0 : decide (x5_1 < (l0.length : Int)) = true := decide_eq_true c3; clear c3; by_cases c4 : 0 ≤ x5_1
     · rw [if_pos c4] at H; have c4b0 : decide (0 ≤ x5_1) = true := decide_eq_true c4; clear c4; by_cases c5 : x5_1 < (l1.length : Int)
       · rw [if_pos c5] at H; have c5b0 : decide (x5_1 < (l1.length : Int)) = true := decide_eq_true c5; clear c5; by_cases c6 : (rd l0 x5_1) = (rd l1 x5_1)
         · rw [if_pos c6] at H; have c6b0 : ((rd l0 x5_1) == (rd l1 x5_1)) = true := beq_iff_eq.mpr c6; have c6b1 : ((rd l0 x5_1) != (rd l1 x5_1)) = false := bne_eq_false_iff_eq.mpr c6; clear c6; have H' := Aside0.mk H; clear H; have p123 : 0 ≤ (x5_1 : Int) := of_decide_eq_true aS; have q123 : x5_1 < (l0.length : Int) := of_decide_eq_true aS; obtain ⟨ad123, e123, hx123_0⟩ := Kd.at_int HR0.out x5_1 p123 q123; cases e123
           replace p123 := eq_true p123; replace q123 := eq_true q123; have p124 : 0 ≤ (x5_1 : Int) := of_decide_eq_true aS; have q124 : x5_1 < (l1.length : Int) := of_decide_eq_true aS; obtain ⟨ad124, e124, hx124_0⟩ := Kd.at_int HR1.out x5_1 p124 q124; cases e124
           replace p124 := eq_true p124; replace q124 := eq_true q124; go_wp2; repeat (go_quiet (fail); try go_wp2)
           go_roundg k1
           case measure => have := HK1.out; omega
           case rel => exact ⟨(wrap64 (x5_1 + 1)), rD, H', ⟨by have := HK1.out; omega⟩, by repeat (first | exact Drawn0.refl _ | apply Drawn0.step)⟩
         · rw [if_neg c6] at H; have c6b0 : ((rd l0 x5_1) == (rd l1 x5_1)) = false := beq_eq_false_iff_ne.mpr c6; have c6b1 : ((rd l0 x5_1) != (rd l1 x5_1)) = true := bne_iff_ne.mpr c6; obtain rfl := Option.some.inj H; have p123 : 0 ≤ (x5_1 : Int) := of_decide_eq_true aS; have q123 : x5_1 < (l0.length : Int) := of_decide_eq_true aS; obtain ⟨ad123, e123, hx123_0⟩ := Kd.at_int HR0.out x5_1 p123 q123; cases e123
           replace p123 := eq_true p123; replace q123 := eq_true q123; have p124 : 0 ≤ (x5_1 : Int) := of_decide_eq_true aS; have q124 : x5_1 < (l1.length : Int) := of_decide_eq_true aS; obtain ⟨ad124, e124, hx124_0⟩ := Kd.at_int HR1.out x5_1 p124 q124; cases e124
           replace p124 := eq_true p124; replace q124 := eq_true q124; have p125 : 0 ≤ (x5_1 : Int) := of_decide_eq_true aS; have q125 : x5_1 < (l0.length : Int) := of_decide_eq_true aS; obtain ⟨ad125, e125, hx125_0⟩ := Kd.at_int HR0.out x5_1 p125 q125; obtain rfl : ad123 = ad125 := (by injection e125); replace p125 := eq_true p125; replace q125 := eq_true q125; have p126 : 0 ≤ (x5_1 : Int) := of_decide_eq_true aS; have q126 : x5_1 < (l1.length : Int) := of_decide_eq_true aS; obtain ⟨ad126, e126, hx126_0⟩ := Kd.at_int HR1.out x5_1 p126 q126; obtain rfl : ad124 = ad126 := (by injection e126); replace p126 := eq_true p126; replace q126 := eq_true q126; go_wp2; repeat (go_quiet (fail); try go_wp2)
           go_ret
           exact ⟨rD, by repeat (first | exact Drawn0.refl _ | apply Drawn0.step)⟩
       · rw [if_neg c5] at H; exact absurd H (by simp)
     · rw [if_neg c4] at H; exact absurd H (by simp)
   · rw [if_neg c3] at H; have c3b0 : decide (x5_1 < (l0.length : Int)) = false := decide_eq_false c3; clear c3; obtain rfl := Option.some.inj H; go_wp2; repeat (go_quiet (fail); try go_wp2)
     go_ret
     exact ⟨rD, by repeat (first | exact Drawn0.refl _ | apply Drawn0.step)⟩

def spec_l1In.f (a0 : Int) (a1 : Int) (a2 : Int) : Option (Bool) := if a0 ≥ a1 then (some (decide (a0 ≤ a2))) else (some false)
theorem spec_l1In.calls (a0 : Int) (a1 : Int) (a2 : Int) (r : Bool) (w : World) (h : spec_l1In.f a0 a1 a2 = some r) :
 Calls Tryd.prog 28 #[.int .i64 a0, .int .i64 a1, .int .i64 a2] w fun e w' => e = .returned (.bool r) ∧ Drawn0 w w' := by
 have H : (if a0 ≥ a1 then (some (decide (a0 ≤ a2))) else (some false)) = some r := h; clear h; by_cases c4 : a0 ≥ a1
 · rw [if_pos c4] at H; have c4b0 : decide (a1 ≤ a0) = true := decide_eq_true c4; clear c4; obtain rfl := Option.some.inj H; go_enter Tryd.func28, Tryd.ntmps28; go_wp2; go_ret
   exact ⟨rD, by repeat (first | exact Drawn0.refl _ | apply Drawn0.step)⟩
 · rw [if_neg c4] at H; have c4b0 : decide (a1 ≤ a0) = false := decide_eq_false c4; clear c4; obtain rfl := Option.some.inj H; go_enter Tryd.func28, Tryd.ntmps28; go_wp2; go_ret
   exact ⟨rD, by repeat (first | exact Drawn0.refl _ | apply Drawn0.step)⟩

mutual
def spec_l7Class.l0 : Nat → List (List Int) → Int → Option (Bool)
 | 0, _, _ => none
 | k + 1, x0, x3 => if x3 < (x0.length : Int) then (if 0 ≤ x3 then (if ((rd_L1 x0 x3).length : Int) > 8 then (spec_l7Class.j1 k x0 x3 true) else (if 0 < (x0.length : Int) then (if ((rd_L1 x0 x3).length : Int) = ((rd_L1 x0 0).length : Int) then ((spec_l2Labels.f k (rd_L1 x0 x3)).bind fun t132 => (spec_l7Class.j1 k x0 x3 (!t132))) else (spec_l7Class.j1 k x0 x3 true)) else (none))) else (none)) else ((spec_l1In.f (x0.length : Int) 1 256).bind fun t127 => (some t127))
def spec_l7Class.j1 : Nat → List (List Int) → Int → Bool → Option (Bool)
 | 0, _, _, _ => none
 | k + 1, x0, x3, x35 => if x35 = true then (some false) else (if x3 > 0 then (if 0 ≤ (wrap64 (x3 - 1)) then (if (wrap64 (x3 - 1)) < (x0.length : Int) then (if 0 ≤ x3 then (if x3 < (x0.length : Int) then ((spec_l7Before.f k (rd_L1 x0 (wrap64 (x3 - 1))) (rd_L1 x0 x3)).bind fun t135 => (if t135 = true then (spec_l7Class.l0 k x0 (wrap64 (x3 + 1))) else (some false))) else (none)) else (none)) else (none)) else (none)) else (spec_l7Class.l0 k x0 (wrap64 (x3 + 1))))
end
def spec_l7Class.f (k : Nat) (l0 : List (List Int)) : Option (Bool) := spec_l7Class.l0 k l0 0
theorem spec_l7Class.calls (k : Nat) (A0 : Option Addr) (c0 : Nat) (l0 : List (List Int)) (r : Bool) (w : World) (hr0 : Kd.C (Kd.slice 3 (Kd.int .i64)) w A0 l0.length l0) (hc0 : l0.length ≤ c0) (h : spec_l7Class.f k l0 = some r) :
 Calls Tryd.prog 15 #[.slice A0 l0.length c0] w fun e w' => e = .returned (.bool r) ∧ Drawn0 w w' := by
 have HR0 := Aside0.mk hr0; have HC0 := Aside0.mk hc0; clear hr0 hc0; have H : (spec_l7Class.l0 k l0 0) = some r := h; clear h; have H' := Aside0.mk H; clear H; go_enter Tryd.func15, Tryd.ntmps15; go_wp2; repeat (go_quiet (fail); try go_wp2)
 go_loopg [3] k (fun kq v3 w' => ∃ (x3_1 : Int), v3 = .int .i64 x3_1 ∧ Aside0 (spec_l7Class.l0 kq l0 x3_1 = some r) ∧ Aside0 (kq ≤ k) ∧ Drawn0 w w')
 case atStart => exact ⟨(0), rD, H', ⟨Nat.le_refl _⟩, by repeat (first | exact Drawn0.refl _ | apply Drawn0.step)⟩
 case round =>
  clear H'; try clear c1
  obtain ⟨x3_1, rfl, HA, HK1, ⟨m1, rfl⟩⟩ := hrel; cases gk with
  | zero => exact absurd HA.out (by simp [spec_l7Class.l0])
  | succ k1 =>
   have H := HA.out; clear HA; simp only [spec_l7Class.l0] at H; by_cases c2 : x3_1 < (l0.length : Int)
   · rw [if_pos c2] at H; have c2b0 : decide (x3_1 < (l0.length : Int)) = true := decide_eq_true c2; clear c2; have HC3 := Aside0.mk H; clear H; go_upto_region 4 with (fail)
     repeat (go_quiet (fail); go_upto_region 4 with (fail))
     go_cut [35] (fun v35 wc => ∃ (kq : Nat) (x35_2 : Bool), v35 = .bool x35_2 ∧ Aside0 (spec_l7Class.j1 kq l0 x3_1 x35_2 = some r) ∧ Aside0 (kq ≤ k1) ∧ Drawn0 w wc)
     case first =>
      have H := HC3.out; clear HC3; by_cases c4 : 0 ≤ x3_1
      · rw [if_pos c4] at H; have c4b0 : decide (0 ≤ x3_1) = true := decide_eq_true c4; clear c4; (first | rw [c4b0] | (simp only [i64_w, i32_w]; rw [c4b0]) | rw [c4b1] | skip); by_cases c5 : ((rd_L1 l0 x3_1).length : Int) > 8
        · rw [if_pos c5] at H; have c5b0 : decide (8 < ((rd_L1 l0 x3_1).length : Int)) = true := decide_eq_true c5; have c5b1 : decide (8 < (rd_L1 l0 x3_1).length) = true := decide_eq_true (by omega); clear c5; have H' := Aside0.mk H; clear H; have p128 : 0 ≤ (x3_1 : Int) := of_decide_eq_true aS; have q128 : x3_1 < (l0.length : Int) := of_decide_eq_true aS; obtain ⟨ad128, A128_0, c128_0, e128, hx128_0, hl128_0, hi128_0⟩ := at_L1 HR0.out x3_1 p128 q128; cases e128
          have HR128_0 := Aside0.mk hi128_0; have HC128_0 := Aside0.mk hl128_0; clear hi128_0 hl128_0; replace p128 := eq_true p128; replace q128 := eq_true q128; go_wp2; repeat (go_quiet (fail); try go_wp2)
          go_meet
          case rel => exact ⟨_, (true), rD, H', ⟨by have := HK1.out; first | omega | exact Nat.le_refl _⟩, by repeat (first | exact Drawn0.refl _ | apply Drawn0.step)⟩
        · rw [if_neg c5] at H; have c5b0 : decide (8 < ((rd_L1 l0 x3_1).length : Int)) = false := decide_eq_false c5; have c5b1 : decide (8 < (rd_L1 l0 x3_1).length) = false := decide_eq_false (by omega); clear c5; by_cases c6 : 0 < (l0.length : Int)
          · rw [if_pos c6] at H; have c6b0 : decide (0 < (l0.length : Int)) = true := decide_eq_true c6; have c6b1 : decide (0 < l0.length) = true := decide_eq_true (by omega); clear c6; by_cases c7 : ((rd_L1 l0 x3_1).length : Int) = ((rd_L1 l0 0).length : Int)
            · rw [if_pos c7] at H; have c7b0 : (((rd_L1 l0 x3_1).length : Int) == ((rd_L1 l0 0).length : Int)) = true := beq_iff_eq.mpr c7; have c7b1 : (((rd_L1 l0 x3_1).length : Int) != ((rd_L1 l0 0).length : Int)) = false := bne_eq_false_iff_eq.mpr c7; have c7b2 : ((rd_L1 l0 x3_1).length == (rd_L1 l0 0).length) = true := by first | simpa using c7 | (simp at c7 ⊢; omega)
              clear c7; replace H := Option.bind_eq_some_iff.mp H; obtain ⟨t132, A80, H⟩ := H; replace H : (spec_l7Class.j1 k1 l0 x3_1 (!t132)) = some r := H; have A8 := Aside0.mk A80; clear A80; have H' := Aside0.mk H; clear H; have p128 : 0 ≤ (x3_1 : Int) := of_decide_eq_true aS; have q128 : x3_1 < (l0.length : Int) := of_decide_eq_true aS; obtain ⟨ad128, A128_0, c128_0, e128, hx128_0, hl128_0, hi128_0⟩ := at_L1 HR0.out x3_1 p128 q128; cases e128
              have HR128_0 := Aside0.mk hi128_0; have HC128_0 := Aside0.mk hl128_0; clear hi128_0 hl128_0; replace p128 := eq_true p128; replace q128 := eq_true q128; have p129 : 0 ≤ (x3_1 : Int) := of_decide_eq_true aS; have q129 : x3_1 < (l0.length : Int) := of_decide_eq_true aS; obtain ⟨ad129, A129_0, c129_0, e129, hx129_0, hl129_0, hi129_0⟩ := at_L1 HR0.out x3_1 p129 q129; obtain rfl : ad128 = ad129 := (by injection e129); have HR129_0 := Aside0.mk hi129_0; have HC129_0 := Aside0.mk hl129_0; clear hi129_0 hl129_0; replace p129 := eq_true p129; replace q129 := eq_true q129; have ea_ := Option.some.inj (hx128_0.symm.trans hx129_0); injection ea_ with ea_ en_ ec_
              subst ea_; subst ec_; clear en_; have p130 : 0 ≤ (0 : Int) := (by omega); have q130 : 0 < (l0.length : Int) := of_decide_eq_true aS; obtain ⟨ad130, A130_0, c130_0, e130, hx130_0, hl130_0, hi130_0⟩ := at_L1 HR0.out 0 p130 q130; obtain rfl : ad128 = ad130 := (by injection e130); have qi130 : (0 < l0.length) = True := eq_true (by omega); (try rw [show ((0 : Int)).toNat = 0 from rfl] at hx130_0); (try rw [Addr.add_zero'] at hx130_0); have HR130_0 := Aside0.mk hi130_0; have HC130_0 := Aside0.mk hl130_0; clear hi130_0 hl130_0; replace p130 := eq_true p130; replace q130 := eq_true q130; have p131 : 0 ≤ (x3_1 : Int) := of_decide_eq_true aS; have q131 : x3_1 < (l0.length : Int) := of_decide_eq_true aS; obtain ⟨ad131, A131_0, c131_0, e131, hx131_0, hl131_0, hi131_0⟩ := at_L1 HR0.out x3_1 p131 q131; obtain rfl : ad128 = ad131 := (by injection e131); have HR131_0 := Aside0.mk hi131_0; have HC131_0 := Aside0.mk hl131_0; clear hi131_0 hl131_0; replace p131 := eq_true p131; replace q131 := eq_true q131; have ea_ := Option.some.inj (hx128_0.symm.trans hx131_0); injection ea_ with ea_ en_ ec_
              subst ea_; subst ec_; clear en_; go_wp2_with (first | (go_at_call 26; (with_reducible refine (spec_l2Labels.calls k1 _ _ (rd_L1 l0 x3_1) t132 _ ?side1 ?side2 A8.out).mono ?_); (case side1 => exact cC HR131_0); (case side2 => exact HC131_0.out); rintro e w' ⟨rfl, ⟨nd, rfl⟩⟩; (try first | exact ⟨rfl, _, World.drewN_drewN _ _ _⟩ | exact ⟨rfl, _, Eq.trans (World.drewN_drewN _ _ _) (congrArg (World.drewN _) (Nat.add_assoc _ _ _))⟩)))
              repeat (go_quiet (first | (go_at_call 26; (with_reducible refine (spec_l2Labels.calls k1 _ _ (rd_L1 l0 x3_1) t132 _ ?side1 ?side2 A8.out).mono ?_); (case side1 => exact cC HR131_0); (case side2 => exact HC131_0.out); rintro e w' ⟨rfl, ⟨nd, rfl⟩⟩; (try first | exact ⟨rfl, _, World.drewN_drewN _ _ _⟩ | exact ⟨rfl, _, Eq.trans (World.drewN_drewN _ _ _) (congrArg (World.drewN _) (Nat.add_assoc _ _ _))⟩))); try go_wp2_with (first | (go_at_call 26; (with_reducible refine (spec_l2Labels.calls k1 _ _ (rd_L1 l0 x3_1) t132 _ ?side1 ?side2 A8.out).mono ?_); (case side1 => exact cC HR131_0); (case side2 => exact HC131_0.out); rintro e w' ⟨rfl, ⟨nd, rfl⟩⟩; (try first | exact ⟨rfl, _, World.drewN_drewN _ _ _⟩ | exact ⟨rfl, _, Eq.trans (World.drewN_drewN _ _ _) (congrArg (World.drewN _) (Nat.add_assoc _ _ _))⟩))))
              go_meet
              case rel => exact ⟨_, (!t132), rD, H', ⟨by have := HK1.out; first | omega | exact Nat.le_refl _⟩, by repeat (first | exact Drawn0.refl _ | apply Drawn0.step)⟩
            · rw [if_neg c7] at H; have c7b0 : (((rd_L1 l0 x3_1).length : Int) == ((rd_L1 l0 0).length : Int)) = false := beq_eq_false_iff_ne.mpr c7; have c7b1 : (((rd_L1 l0 x3_1).length : Int) != ((rd_L1 l0 0).length : Int)) = true := bne_iff_ne.mpr c7; have c7b2 : ((rd_L1 l0 x3_1).length == (rd_L1 l0 0).length) = false := by first | simpa using c7 | (simp at c7 ⊢; omega)
              have H' := Aside0.mk H; clear H; have p128 : 0 ≤ (x3_1 : Int) := of_decide_eq_true aS; have q128 : x3_1 < (l0.length : Int) := of_decide_eq_true aS; obtain ⟨ad128, A128_0, c128_0, e128, hx128_0, hl128_0, hi128_0⟩ := at_L1 HR0.out x3_1 p128 q128; cases e128
              have HR128_0 := Aside0.mk hi128_0; have HC128_0 := Aside0.mk hl128_0; clear hi128_0 hl128_0; replace p128 := eq_true p128; replace q128 := eq_true q128; have p129 : 0 ≤ (x3_1 : Int) := of_decide_eq_true aS; have q129 : x3_1 < (l0.length : Int) := of_decide_eq_true aS; obtain ⟨ad129, A129_0, c129_0, e129, hx129_0, hl129_0, hi129_0⟩ := at_L1 HR0.out x3_1 p129 q129; obtain rfl : ad128 = ad129 := (by injection e129); have HR129_0 := Aside0.mk hi129_0; have HC129_0 := Aside0.mk hl129_0; clear hi129_0 hl129_0; replace p129 := eq_true p129; replace q129 := eq_true q129; have ea_ := Option.some.inj (hx128_0.symm.trans hx129_0); injection ea_ with ea_ en_ ec_
              subst ea_; subst ec_; clear en_; have p130 : 0 ≤ (0 : Int) := (by omega); have q130 : 0 < (l0.length : Int) := of_decide_eq_true aS; obtain ⟨ad130, A130_0, c130_0, e130, hx130_0, hl130_0, hi130_0⟩ := at_L1 HR0.out 0 p130 q130; obtain rfl : ad128 = ad130 := (by injection e130); have qi130 : (0 < l0.length) = True := eq_true (by omega); (try rw [show ((0 : Int)).toNat = 0 from rfl] at hx130_0); (try rw [Addr.add_zero'] at hx130_0); have HR130_0 := Aside0.mk hi130_0; have HC130_0 := Aside0.mk hl130_0; clear hi130_0 hl130_0; replace p130 := eq_true p130; replace q130 := eq_true q130; go_wp2; repeat (go_quiet (fail); try go_wp2)
              go_meet
              case rel => exact ⟨_, (true), rD, H', ⟨by have := HK1.out; first | omega | exact Nat.le_refl _⟩, by repeat (first | exact Drawn0.refl _ | apply Drawn0.step)⟩
          · rw [if_neg c6] at H; exact absurd H (by simp)
      · rw [if_neg c4] at H; exact absurd H (by simp)
     case rest =>
      clear HC3; try clear c1
      try clear c2
      try clear c2b0
      obtain ⟨kq, x35_2, rfl, HA, HJ2, ⟨mc2, rfl⟩⟩ := hcut; cases kq with
      | zero => exact absurd HA.out (by simp [spec_l7Class.j1])
      | succ kj2 =>
       have H := HA.out; clear HA; simp only [spec_l7Class.j1] at H; by_cases c9 : x35_2 = true
       · subst c9; have H1 : (some false) = some r := by rw [if_pos rfl] at H; exact H
         clear H; have H := H1; clear H1; obtain rfl := Option.some.inj H; go_wp2; repeat (go_quiet (fail); try go_wp2)
         go_ret
         exact ⟨rD, by repeat (first | exact Drawn0.refl _ | apply Drawn0.step)⟩
       · replace c9 := Bool.eq_false_iff.mpr c9; subst c9; have H1 : (if x3_1 > 0 then (if 0 ≤ (wrap64 (x3_1 - 1)) then (if (wrap64 (x3_1 - 1)) < (l0.length : Int) then (if 0 ≤ x3_1 then (if x3_1 < (l0.length : Int) then ((spec_l7Before.f kj2 (rd_L1 l0 (wrap64 (x3_1 - 1))) (rd_L1 l0 x3_1)).bind fun t135 => (if t135 = true then (spec_l7Class.l0 kj2 l0 (wrap64 (x3_1 + 1))) else (some false))) else (none)) else (none)) else (none)) else (none)) else (spec_l7Class.l0 kj2 l0 (wrap64 (x3_1 + 1)))) = some r := by rw [if_neg (show ¬ (false = true) by decide)] at H; exact H
         clear H; have H := H1; clear H1; by_cases c10 : x3_1 > 0
         · rw [if_pos c10] at H; have c10b0 : decide (0 < x3_1) = true := decide_eq_true c10; clear c10; obtain ⟨ji11, hji11⟩ : ∃ j_ : Int, (wrap64 (x3_1 - 1)) = j_ := ⟨_, rfl⟩; replace H : (if 0 ≤ (ji11) then (if (ji11) < (l0.length : Int) then (if 0 ≤ x3_1 then (if x3_1 < (l0.length : Int) then ((spec_l7Before.f kj2 (rd_L1 l0 (ji11)) (rd_L1 l0 x3_1)).bind fun t135 => (if t135 = true then (spec_l7Class.l0 kj2 l0 (wrap64 (x3_1 + 1))) else (some false))) else (none)) else (none)) else (none)) else (none)) = some r := by first | (rw [hji11] at H; exact H) | (simp only [hji11] at H ⊢; exact H)
           have hji11w : (IntKind.i64.wrap (x3_1 - 1)) = ji11 := (i64_w _).trans hji11; by_cases c12 : 0 ≤ (ji11)
           · rw [if_pos c12] at H; have c12b0 : decide (0 ≤ (ji11)) = true := decide_eq_true c12; clear c12; by_cases c13 : (ji11) < (l0.length : Int)
             · rw [if_pos c13] at H; have c13b0 : decide ((ji11) < (l0.length : Int)) = true := decide_eq_true c13; clear c13; by_cases c14 : 0 ≤ x3_1
               · rw [if_pos c14] at H; have c14b0 : decide (0 ≤ x3_1) = true := decide_eq_true c14; clear c14; by_cases c15 : x3_1 < (l0.length : Int)
                 · rw [if_pos c15] at H; have c15b0 : decide (x3_1 < (l0.length : Int)) = true := decide_eq_true c15; clear c15; replace H := Option.bind_eq_some_iff.mp H; obtain ⟨t135, A160, H⟩ := H; replace H : (if t135 = true then (spec_l7Class.l0 kj2 l0 (wrap64 (x3_1 + 1))) else (some false)) = some r := H; have A16 := Aside0.mk A160; clear A160; by_cases c17 : t135 = true
                   · subst c17; have H1 : (spec_l7Class.l0 kj2 l0 (wrap64 (x3_1 + 1))) = some r := by rw [if_pos rfl] at H; exact H
                     clear H; have H := H1; clear H1; have H' := Aside0.mk H; clear H; have p133 : 0 ≤ ((ji11) : Int) := of_decide_eq_true aS; have q133 : (ji11) < (l0.length : Int) := of_decide_eq_true aS; obtain ⟨ad133, A133_0, c133_0, e133, hx133_0, hl133_0, hi133_0⟩ := at_L1 HR0.out (ji11) p133 q133; cases e133
                     have HR133_0 := Aside0.mk hi133_0; have HC133_0 := Aside0.mk hl133_0; clear hi133_0 hl133_0; replace p133 := eq_true p133; replace q133 := eq_true q133; have p134 : 0 ≤ (x3_1 : Int) := of_decide_eq_true aS; have q134 : x3_1 < (l0.length : Int) := of_decide_eq_true aS; obtain ⟨ad134, A134_0, c134_0, e134, hx134_0, hl134_0, hi134_0⟩ := at_L1 HR0.out x3_1 p134 q134; obtain rfl : ad133 = ad134 := (by injection e134); have HR134_0 := Aside0.mk hi134_0; have HC134_0 := Aside0.mk hl134_0; clear hi134_0 hl134_0; replace p134 := eq_true p134; replace q134 := eq_true q134; go_wp2_with (first | (go_at_call 27; (with_reducible refine (spec_l7Before.calls kj2 _ _ (rd_L1 l0 (ji11)) _ _ (rd_L1 l0 x3_1) true _ ?side1 ?side2 ?side3 ?side4 A16.out).mono ?_); (case side1 => exact cC HR133_0); (case side2 => exact HC133_0.out); (case side3 => exact cC HR134_0); (case side4 => exact HC134_0.out); rintro e w' ⟨rfl, ⟨nd, rfl⟩⟩; (try first | exact ⟨rfl, _, World.drewN_drewN _ _ _⟩ | exact ⟨rfl, _, Eq.trans (World.drewN_drewN _ _ _) (congrArg (World.drewN _) (Nat.add_assoc _ _ _))⟩)))
                     repeat (go_quiet (first | (go_at_call 27; (with_reducible refine (spec_l7Before.calls kj2 _ _ (rd_L1 l0 (ji11)) _ _ (rd_L1 l0 x3_1) true _ ?side1 ?side2 ?side3 ?side4 A16.out).mono ?_); (case side1 => exact cC HR133_0); (case side2 => exact HC133_0.out); (case side3 => exact cC HR134_0); (case side4 => exact HC134_0.out); rintro e w' ⟨rfl, ⟨nd, rfl⟩⟩; (try first | exact ⟨rfl, _, World.drewN_drewN _ _ _⟩ | exact ⟨rfl, _, Eq.trans (World.drewN_drewN _ _ _) (congrArg (World.drewN _) (Nat.add_assoc _ _ _))⟩))); try go_wp2_with (first | (go_at_call 27; (with_reducible refine (spec_l7Before.calls kj2 _ _ (rd_L1 l0 (ji11)) _ _ (rd_L1 l0 x3_1) true _ ?side1 ?side2 ?side3 ?side4 A16.out).mono ?_); (case side1 => exact cC HR133_0); (case side2 => exact HC133_0.out); (case side3 => exact cC HR134_0); (case side4 => exact HC134_0.out); rintro e w' ⟨rfl, ⟨nd, rfl⟩⟩; (try first | exact ⟨rfl, _, World.drewN_drewN _ _ _⟩ | exact ⟨rfl, _, Eq.trans (World.drewN_drewN _ _ _) (congrArg (World.drewN _) (Nat.add_assoc _ _ _))⟩))))
                     go_roundg kj2
                     case measure => have := HK1.out; have := HJ2.out; omega
                     case rel => exact ⟨(wrap64 (x3_1 + 1)), rD, H', ⟨by have := HK1.out; have := HJ2.out; omega⟩, by repeat (first | exact Drawn0.refl _ | apply Drawn0.step)⟩
                   · replace c17 := Bool.eq_false_iff.mpr c17; subst c17; have H1 : (some false) = some r := by rw [if_neg (show ¬ (false = true) by decide)] at H; exact H
                     clear H; have H := H1; clear H1; obtain rfl := Option.some.inj H; have p133 : 0 ≤ ((ji11) : Int) := of_decide_eq_true aS; have q133 : (ji11) < (l0.length : Int) := of_decide_eq_true aS; obtain ⟨ad133, A133_0, c133_0, e133, hx133_0, hl133_0, hi133_0⟩ := at_L1 HR0.out (ji11) p133 q133; cases e133
                     have HR133_0 := Aside0.mk hi133_0; have HC133_0 := Aside0.mk hl133_0; clear hi133_0 hl133_0; replace p133 := eq_true p133; replace q133 := eq_true q133; have p134 : 0 ≤ (x3_1 : Int) := of_decide_eq_true aS; have q134 : x3_1 < (l0.length : Int) := of_decide_eq_true aS; obtain ⟨ad134, A134_0, c134_0, e134, hx134_0, hl134_0, hi134_0⟩ := at_L1 HR0.out x3_1 p134 q134; obtain rfl : ad133 = ad134 := (by injection e134); have HR134_0 := Aside0.mk hi134_0; have HC134_0 := Aside0.mk hl134_0; clear hi134_0 hl134_0; replace p134 := eq_true p134; replace q134 := eq_true q134; go_wp2_with (first | (go_at_call 27; (with_reducible refine (spec_l7Before.calls kj2 _ _ (rd_L1 l0 (ji11)) _ _ (rd_L1 l0 x3_1) false _ ?side1 ?side2 ?side3 ?side4 A16.out).mono ?_); (case side1 => exact cC HR133_0); (case side2 => exact HC133_0.out); (case side3 => exact cC HR134_0); (case side4 => exact HC134_0.out); rintro e w' ⟨rfl, ⟨nd, rfl⟩⟩; (try first | exact ⟨rfl, _, World.drewN_drewN _ _ _⟩ | exact ⟨rfl, _, Eq.trans (World.drewN_drewN _ _ _) (congrArg (World.drewN _) (Nat.add_assoc _ _ _))⟩)))
                     repeat (go_quiet (first | (go_at_call 27; (with_reducible refine (spec_l7Before.calls kj2 _ _ (rd_L1 l0 (ji11)) _ _ (rd_L1 l0 x3_1) false _ ?side1 ?side2 ?side3 ?side4 A16.out).mono ?_); (case side1 => exact cC HR133_0); (case side2 => exact HC133_0.out); (case side3 => exact cC HR134_0); (case side4 => exact HC134_0.out); rintro e w' ⟨rfl, ⟨nd, rfl⟩⟩; (try first | exact ⟨rfl, _, World.drewN_drewN _ _ _⟩ | exact ⟨rfl, _, Eq.trans (World.drewN_drewN _ _ _) (congrArg (World.drewN _) (Nat.add_assoc _ _ _))⟩))); try go_wp2_with (first | (go_at_call 27; (with_reducible refine (spec_l7Before.calls kj2 _ _ (rd_L1 l0 (ji11)) _ _ (rd_L1 l0 x3_1) false _ ?side1 ?side2 ?side3 ?side4 A16.out).mono ?_); (case side1 => exact cC HR133_0); (case side2 => exact HC133_0.out); (case side3 => exact cC HR134_0); (case side4 => exact HC134_0.out); rintro e w' ⟨rfl, ⟨nd, rfl⟩⟩; (try first | exact ⟨rfl, _, World.drewN_drewN _ _ _⟩ | exact ⟨rfl, _, Eq.trans (World.drewN_drewN _ _ _) (congrArg (World.drewN _) (Nat.add_assoc _ _ _))⟩))))
                     go_ret
                     exact ⟨by first | rfl | (simp; done) | (simp only [← hji11] <;> (first | rfl | simp)) | (simp [*]; done), by repeat (first | exact Drawn0.refl _ | apply Drawn0.step)⟩
                 · rw [if_neg c15] at H; exact absurd H (by simp)
               · rw [if_neg c14] at H; exact absurd H (by simp)
             · rw [if_neg c13] at H; exact absurd H (by simp)
           · rw [if_neg c12] at H; exact absurd H (by simp)
         · rw [if_neg c10] at H; have c10b0 : decide (0 < x3_1) = false := decide_eq_false c10; clear c10; have H' := Aside0.mk H; clear H; go_wp2; repeat (go_quiet (fail); try go_wp2)
           go_roundg kj2
           case measure => have := HK1.out; have := HJ2.out; omega
           case rel => exact ⟨(wrap64 (x3_1 + 1)), rD, H', ⟨by have := HK1.out; have := HJ2.out; omega⟩, by repeat (first | exact Drawn0.refl _ | apply Drawn0.step)⟩
   · rw [if_neg c2] at H; have c2b0 : decide (x3_1 < (l0.length : Int)) = false := decide_eq_false c2; clear c2; replace H := Option.bind_eq_some_iff.mp H; obtain ⟨t127, A180, H⟩ := H; replace H : (some t127) = some r := H; have A18 := Aside0.mk A180; clear A180; obtain rfl := Option.some.inj H; go_wp2_with (first | (go_at_call 28; (with_reducible refine (spec_l1In.calls (l0.length : Int) 1 256 t127 _ A18.out).mono ?_); rintro e w' ⟨rfl, ⟨nd, rfl⟩⟩; (try first | exact ⟨rfl, _, World.drewN_drewN _ _ _⟩ | exact ⟨rfl, _, Eq.trans (World.drewN_drewN _ _ _) (congrArg (World.drewN _) (Nat.add_assoc _ _ _))⟩)))
     repeat (go_quiet (first | (go_at_call 28; (with_reducible refine (spec_l1In.calls (l0.length : Int) 1 256 t127 _ A18.out).mono ?_); rintro e w' ⟨rfl, ⟨nd, rfl⟩⟩; (try first | exact ⟨rfl, _, World.drewN_drewN _ _ _⟩ | exact ⟨rfl, _, Eq.trans (World.drewN_drewN _ _ _) (congrArg (World.drewN _) (Nat.add_assoc _ _ _))⟩))); try go_wp2_with (first | (go_at_call 28; (with_reducible refine (spec_l1In.calls (l0.length : Int) 1 256 t127 _ A18.out).mono ?_); rintro e w' ⟨rfl, ⟨nd, rfl⟩⟩; (try first | exact ⟨rfl, _, World.drewN_drewN _ _ _⟩ | exact ⟨rfl, _, Eq.trans (World.drewN_drewN _ _ _) (congrArg (World.drewN _) (Nat.add_assoc _ _ _))⟩))))
     go_ret
     exact ⟨rD, by repeat (first | exact Drawn0.refl _ | apply Drawn0.step)⟩

end Go.Proofs.YtfkfahdikmfpeaaDoor.PFnExactShatteredSets
