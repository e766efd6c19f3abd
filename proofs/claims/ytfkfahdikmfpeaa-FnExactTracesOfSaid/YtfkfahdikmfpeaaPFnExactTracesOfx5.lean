import Derived.Test.YtfkfahdikmfpeaaPFnExactTracesOfx0
import Derived.Test.YtfkfahdikmfpeaaPFnExactTracesOfx4
import Derived.Test.YtfkfahdikmfpeaaSh
namespace Go.Proofs.Ytfkfahdikmfpeaa.PFnExactTracesOf
open Go.RowKit Go.Proofs.Ytfkfahdikmfpeaa.Sh Go.Proofs.YtfkfahdikmfpeaaW.PrintWords Go.Proofs.YtfkfahdikmfpeaaW.PrintLast Go.Proofs.YtfkfahdikmfpeaaW.PrintMore
attribute [local go_sem] max2_int min2_int max_two min_two max_three min_three max_four min_four
set_option linter.unusedVariables false
set_option maxHeartbeats 8000000
set_option maxRecDepth 100000
set_option linter.unusedSimpArgs false

mutual
def impl_IsClass.j0 : Nat → List (List Int) → Bool → Option (Bool)
 | 0, _, _ => none
 | k + 1, x0, x15 => if x15 = true then (some false) else (impl_IsClass.l0 k x0 x0 (x0.length : Int) 0)
def impl_IsClass.l0 : Nat → List (List Int) → List (List Int) → Int → Int → Option (Bool)
 | 0, _, _, _, _ => none
 | k + 1, x0, x16, x17, x18 => if x18 < x17 then (if 0 ≤ x18 then (if x18 < (x16.length : Int) then (if 0 < (x0.length : Int) then (if ((rd_L1 x16 x18).length : Int) = ((rd_L1 x0 0).length : Int) then ((impl_areLabels.f k (rd_L1 x16 x18)).bind fun t280 => (if t280 = true then (if x18 > 0 then (if 0 ≤ (wrap64 (x18 - 1)) then (if (wrap64 (x18 - 1)) < (x0.length : Int) then ((slices_Compare_int_int.f k (rd_L1 x0 (wrap64 (x18 - 1))) (rd_L1 x16 x18)).bind fun t282 => (if t282 ≥ 0 then (some false) else (impl_IsClass.l0 k x0 x16 x17 (wrap64 (x18 + 1))))) else (none)) else (none)) else (impl_IsClass.l0 k x0 x16 x17 (wrap64 (x18 + 1)))) else (some false))) else (some false)) else (none)) else (none)) else (none)) else (some true)
end
def impl_IsClass.f (k : Nat) (l0 : List (List Int)) : Option (Bool) := (impl_within.f (l0.length : Int) 1 256).bind fun t276 => (if t276 = true then (if 0 < (l0.length : Int) then (impl_IsClass.j0 k l0 (decide (((rd_L1 l0 0).length : Int) > 8))) else (none)) else (impl_IsClass.j0 k l0 true))
theorem impl_IsClass.calls (k : Nat) (A0 : Option Addr) (c0 : Nat) (l0 : List (List Int)) (r : Bool) (w : World) (hr0 : Kd.C (Kd.slice 3 (Kd.int .i64)) w A0 l0.length l0) (hc0 : l0.length ≤ c0) (h : impl_IsClass.f k l0 = some r) :
 Calls Try.prog 139 #[.slice A0 l0.length c0] w fun e w' => e = .returned (.bool r) ∧ Drawn0 w w' := by
 have HR0 := Aside0.mk hr0; have HC0 := Aside0.mk hc0; clear hr0 hc0; have H : ((impl_within.f (l0.length : Int) 1 256).bind fun t276 => (if t276 = true then (if 0 < (l0.length : Int) then (impl_IsClass.j0 k l0 (decide (((rd_L1 l0 0).length : Int) > 8))) else (none)) else (impl_IsClass.j0 k l0 true))) = some r := h; clear h; have HC2 := Aside0.mk H; clear H; go_enter Try.func139, Try.ntmps139; go_upto_region 1 with (fail)
 go_cut [15] (fun v15 wc => ∃ (kq : Nat) (x15_1 : Bool), v15 = .bool x15_1 ∧ Aside0 (impl_IsClass.j0 kq l0 x15_1 = some r) ∧ Aside0 (kq ≤ k) ∧ Drawn0 w wc)
 case first =>
  have H := HC2.out; clear HC2; replace H := Option.bind_eq_some_iff.mp H; obtain ⟨t276, A30, H⟩ := H; replace H : (if t276 = true then (if 0 < (l0.length : Int) then (impl_IsClass.j0 k l0 (decide (((rd_L1 l0 0).length : Int) > 8))) else (none)) else (impl_IsClass.j0 k l0 true)) = some r := H; have A3 := Aside0.mk A30; clear A30; by_cases c4 : t276 = true
  · subst c4; have H1 : (if 0 < (l0.length : Int) then (impl_IsClass.j0 k l0 (decide (((rd_L1 l0 0).length : Int) > 8))) else (none)) = some r := by rw [if_pos rfl] at H; exact H
    clear H; have H := H1; clear H1; by_cases c5 : 0 < (l0.length : Int)
    · rw [if_pos c5] at H; have c5b0 : decide (0 < (l0.length : Int)) = true := decide_eq_true c5; have c5b1 : decide (0 < l0.length) = true := decide_eq_true (by omega); clear c5; (first | rw [c5b0] | (simp only [i64_w, i32_w]; rw [c5b0]) | rw [c5b1] | skip); have H' := Aside0.mk H; clear H; go_wp2_with (first | ((with_reducible refine gate_callee (f := 93) rfl ?_); refine goesL_ (some 7) rfl rfl Try.func93 (by kernel_rfl) rfl #[.int .i64 (l0.length : Int), .int .i64 1, .int .i64 256] rfl aT ?_; (with_reducible refine (impl_within.calls (l0.length : Int) 1 256 true _ A3.out).mono ?_); rintro e w' ⟨rfl, ⟨nd, rfl⟩⟩; refine ⟨_, rfl, ?_⟩; have p277 : 0 ≤ (0 : Int) := (by omega); have q277 : 0 < (l0.length : Int) := of_decide_eq_true aS; obtain ⟨ad277, A277_0, c277_0, e277, hx277_0, hl277_0, hi277_0⟩ := at_L1 HR0.out 0 p277 q277; cases e277; have qi277 : (0 < l0.length) = True := eq_true (by omega); (try rw [show ((0 : Int)).toNat = 0 from rfl] at hx277_0); (try rw [Addr.add_zero'] at hx277_0); have HR277_0 := Aside0.mk hi277_0; have HC277_0 := Aside0.mk hl277_0; clear hi277_0 hl277_0; replace p277 := eq_true p277; replace q277 := eq_true q277))
      go_meet
      case rel => exact ⟨_, (decide (((rd_L1 l0 0).length : Int) > 8)), rD, H', ⟨by first | omega | exact Nat.le_refl _⟩, by repeat (first | exact Drawn0.refl _ | apply Drawn0.step)⟩
    · rw [if_neg c5] at H; exact absurd H (by simp)
  · replace c4 := Bool.eq_false_iff.mpr c4; subst c4; have H1 : (impl_IsClass.j0 k l0 true) = some r := by rw [if_neg (show ¬ (false = true) by decide)] at H; exact H
    clear H; have H := H1; clear H1; have H' := Aside0.mk H; clear H; go_wp2_with (first | ((with_reducible refine gate_callee (f := 93) rfl ?_); refine goesL_ (some 7) rfl rfl Try.func93 (by kernel_rfl) rfl #[.int .i64 (l0.length : Int), .int .i64 1, .int .i64 256] rfl aT ?_; (with_reducible refine (impl_within.calls (l0.length : Int) 1 256 false _ A3.out).mono ?_); rintro e w' ⟨rfl, ⟨nd, rfl⟩⟩; refine ⟨_, rfl, ?_⟩))
    go_meet
    case rel => exact ⟨_, (true), rD, H', ⟨by first | omega | exact Nat.le_refl _⟩, by repeat (first | exact Drawn0.refl _ | apply Drawn0.step)⟩
 case rest =>
  clear HC2; obtain ⟨kq, x15_1, rfl, HA, HJ1, ⟨mc1, rfl⟩⟩ := hcut; cases kq with
  | zero => exact absurd HA.out (by simp [impl_IsClass.j0])
  | succ kj1 =>
   have H := HA.out; clear HA; simp only [impl_IsClass.j0] at H; by_cases c6 : x15_1 = true
   · subst c6; have H1 : (some false) = some r := by rw [if_pos rfl] at H; exact H
     clear H; have H := H1; clear H1; obtain rfl := Option.some.inj H; go_wp2; go_ret
     exact ⟨rD, by repeat (first | exact Drawn0.refl _ | apply Drawn0.step)⟩
   · replace c6 := Bool.eq_false_iff.mpr c6; subst c6; have H1 : (impl_IsClass.l0 kj1 l0 l0 (l0.length : Int) 0) = some r := by rw [if_neg (show ¬ (false = true) by decide)] at H; exact H
     clear H; have H := H1; clear H1; have H' := Aside0.mk H; clear H; go_wp2; go_loopg [18] kj1 (fun kq v18 w' => ∃ (x18_2 : Int), v18 = .int .i64 x18_2 ∧ Aside0 (impl_IsClass.l0 kq l0 l0 (l0.length : Int) x18_2 = some r) ∧ Aside0 (kq ≤ kj1) ∧ Drawn0 w w')
     case atStart => exact ⟨(0), rD, H', ⟨Nat.le_refl _⟩, by repeat (first | exact Drawn0.refl _ | apply Drawn0.step)⟩
     case round =>
      clear H'; try clear c6
      obtain ⟨x18_2, rfl, HA, HK2, ⟨m2, rfl⟩⟩ := hrel; cases gk with
      | zero => exact absurd HA.out (by simp [impl_IsClass.l0])
      | succ k2 =>
       have H := HA.out; clear HA; simp only [impl_IsClass.l0] at H; by_cases c7 : x18_2 < (l0.length : Int)
       · rw [if_pos c7] at H; have c7b0 : decide (x18_2 < (l0.length : Int)) = true := decide_eq_true c7; clear c7; by_cases c8 : 0 ≤ x18_2
         · rw [if_pos c8] at H; have c8b0 : decide (0 ≤ x18_2) = true := decide_eq_true c8; clear c8; by_cases c9 : x18_2 < (l0.length : Int)
           · rw [if_pos c9] at H; have c9b0 : decide (x18_2 < (l0.length : Int)) = true := decide_eq_true c9; clear c9; by_cases c10 : 0 < (l0.length : Int)
             · rw [if_pos c10] at H; have c10b0 : decide (0 < (l0.length : Int)) = true := decide_eq_true c10; have c10b1 : decide (0 < l0.length) = true := decide_eq_true (by omega); clear c10; by_cases c11 : ((rd_L1 l0 x18_2).length : Int) = ((rd_L1 l0 0).length : Int)
               · rw [if_pos c11] at H; have c11b0 : (((rd_L1 l0 x18_2).length : Int) == ((rd_L1 l0 0).length : Int)) = true := beq_iff_eq.mpr c11; have c11b1 : (((rd_L1 l0 x18_2).length : Int) != ((rd_L1 l0 0).length : Int)) = false := bne_eq_false_iff_eq.mpr c11; have c11b2 : ((rd_L1 l0 x18_2).length == (rd_L1 l0 0).length) = true := by first | simpa using c11 | (simp at c11 ⊢; omega)
                 clear c11; replace H := Option.bind_eq_some_iff.mp H; obtain ⟨t280, A120, H⟩ := H; replace H : (if t280 = true then (if x18_2 > 0 then (if 0 ≤ (wrap64 (x18_2 - 1)) then (if (wrap64 (x18_2 - 1)) < (l0.length : Int) then ((slices_Compare_int_int.f k2 (rd_L1 l0 (wrap64 (x18_2 - 1))) (rd_L1 l0 x18_2)).bind fun t282 => (if t282 ≥ 0 then (some false) else (impl_IsClass.l0 k2 l0 l0 (l0.length : Int) (wrap64 (x18_2 + 1))))) else (none)) else (none)) else (impl_IsClass.l0 k2 l0 l0 (l0.length : Int) (wrap64 (x18_2 + 1)))) else (some false)) = some r := H; have A12 := Aside0.mk A120; clear A120; by_cases c13 : t280 = true
                 · subst c13; have H1 : (if x18_2 > 0 then (if 0 ≤ (wrap64 (x18_2 - 1)) then (if (wrap64 (x18_2 - 1)) < (l0.length : Int) then ((slices_Compare_int_int.f k2 (rd_L1 l0 (wrap64 (x18_2 - 1))) (rd_L1 l0 x18_2)).bind fun t282 => (if t282 ≥ 0 then (some false) else (impl_IsClass.l0 k2 l0 l0 (l0.length : Int) (wrap64 (x18_2 + 1))))) else (none)) else (none)) else (impl_IsClass.l0 k2 l0 l0 (l0.length : Int) (wrap64 (x18_2 + 1)))) = some r := by rw [if_pos rfl] at H; exact H
                   clear H; have H := H1; clear H1; by_cases c14 : x18_2 > 0
                   · rw [if_pos c14] at H; have c14b0 : decide (0 < x18_2) = true := decide_eq_true c14; clear c14; obtain ⟨ji15, hji15⟩ : ∃ j_ : Int, (wrap64 (x18_2 - 1)) = j_ := ⟨_, rfl⟩; replace H : (if 0 ≤ (ji15) then (if (ji15) < (l0.length : Int) then ((slices_Compare_int_int.f k2 (rd_L1 l0 (ji15)) (rd_L1 l0 x18_2)).bind fun t282 => (if t282 ≥ 0 then (some false) else (impl_IsClass.l0 k2 l0 l0 (l0.length : Int) (wrap64 (x18_2 + 1))))) else (none)) else (none)) = some r := by first | (rw [hji15] at H; exact H) | (simp only [hji15] at H ⊢; exact H)
                     (try rw [hji15] at A12); have hji15w : (IntKind.i64.wrap (x18_2 - 1)) = ji15 := (i64_w _).trans hji15; by_cases c16 : 0 ≤ (ji15)
                     · rw [if_pos c16] at H; have c16b0 : decide (0 ≤ (ji15)) = true := decide_eq_true c16; clear c16; by_cases c17 : (ji15) < (l0.length : Int)
                       · rw [if_pos c17] at H; have c17b0 : decide ((ji15) < (l0.length : Int)) = true := decide_eq_true c17; clear c17; replace H := Option.bind_eq_some_iff.mp H; obtain ⟨t282, A180, H⟩ := H; replace H : (if t282 ≥ 0 then (some false) else (impl_IsClass.l0 k2 l0 l0 (l0.length : Int) (wrap64 (x18_2 + 1)))) = some r := H; have A18 := Aside0.mk A180; clear A180; by_cases c19 : t282 ≥ 0
                         · rw [if_pos c19] at H; have c19b0 : decide (0 ≤ t282) = true := decide_eq_true c19; clear c19; obtain rfl := Option.some.inj H; have p278 : 0 ≤ (x18_2 : Int) := of_decide_eq_true aS; have q278 : x18_2 < (l0.length : Int) := of_decide_eq_true aS; obtain ⟨ad278, A278_0, c278_0, e278, hx278_0, hl278_0, hi278_0⟩ := at_L1 HR0.out x18_2 p278 q278; cases e278
                           have HR278_0 := Aside0.mk hi278_0; have HC278_0 := Aside0.mk hl278_0; clear hi278_0 hl278_0; replace p278 := eq_true p278; replace q278 := eq_true q278; have p279 : 0 ≤ (0 : Int) := (by omega); have q279 : 0 < (l0.length : Int) := of_decide_eq_true aS; obtain ⟨ad279, A279_0, c279_0, e279, hx279_0, hl279_0, hi279_0⟩ := at_L1 HR0.out 0 p279 q279; obtain rfl : ad278 = ad279 := (by injection e279); have qi279 : (0 < l0.length) = True := eq_true (by omega); (try rw [show ((0 : Int)).toNat = 0 from rfl] at hx279_0); (try rw [Addr.add_zero'] at hx279_0); have HR279_0 := Aside0.mk hi279_0; have HC279_0 := Aside0.mk hl279_0; clear hi279_0 hl279_0; replace p279 := eq_true p279; replace q279 := eq_true q279; go_wp2_with (first | (go_at_call 178; (with_reducible refine (impl_areLabels.calls k2 _ _ (rd_L1 l0 x18_2) true _ ?side1 ?side2 A12.out).mono ?_); (case side1 => exact cC HR278_0); (case side2 => exact HC278_0.out); rintro e w' ⟨rfl, ⟨nd, rfl⟩⟩; have p281 : 0 ≤ ((ji15) : Int) := of_decide_eq_true aS; have q281 : (ji15) < (l0.length : Int) := of_decide_eq_true aS; obtain ⟨ad281, A281_0, c281_0, e281, hx281_0, hl281_0, hi281_0⟩ := at_L1 HR0.out (ji15) p281 q281; obtain rfl : ad278 = ad281 := (by injection e281); have HR281_0 := Aside0.mk hi281_0; have HC281_0 := Aside0.mk hl281_0; clear hi281_0 hl281_0; replace p281 := eq_true p281; replace q281 := eq_true q281) | (go_at_call 142; (with_reducible refine (slices_Compare_int_int.calls k2 _ _ (rd_L1 l0 (ji15)) _ _ (rd_L1 l0 x18_2) t282 _ ?side1 ?side2 ?side3 ?side4 A18.out).mono ?_); (case side1 => exact cC HR281_0); (case side2 => exact HC281_0.out); (case side3 => exact cC HR278_0); (case side4 => exact HC278_0.out); rintro e w' ⟨rfl, ⟨nd, rfl⟩⟩))
                           go_ret
                           exact ⟨by first | rfl | (simp; done) | (simp only [← hji15] <;> (first | rfl | simp)) | (simp [*]; done), by repeat (first | exact Drawn0.refl _ | apply Drawn0.step)⟩
                         · rw [if_neg c19] at H; have c19b0 : decide (0 ≤ t282) = false := decide_eq_false c19; clear c19; have H' := Aside0.mk H; clear H; have p278 : 0 ≤ (x18_2 : Int) := of_decide_eq_true aS; have q278 : x18_2 < (l0.length : Int) := of_decide_eq_true aS; obtain ⟨ad278, A278_0, c278_0, e278, hx278_0, hl278_0, hi278_0⟩ := at_L1 HR0.out x18_2 p278 q278; cases e278
                           have HR278_0 := Aside0.mk hi278_0; have HC278_0 := Aside0.mk hl278_0; clear hi278_0 hl278_0; replace p278 := eq_true p278; replace q278 := eq_true q278; have p279 : 0 ≤ (0 : Int) := (by omega); have q279 : 0 < (l0.length : Int) := of_decide_eq_true aS; obtain ⟨ad279, A279_0, c279_0, e279, hx279_0, hl279_0, hi279_0⟩ := at_L1 HR0.out 0 p279 q279; obtain rfl : ad278 = ad279 := (by injection e279); have qi279 : (0 < l0.length) = True := eq_true (by omega); (try rw [show ((0 : Int)).toNat = 0 from rfl] at hx279_0); (try rw [Addr.add_zero'] at hx279_0); have HR279_0 := Aside0.mk hi279_0; have HC279_0 := Aside0.mk hl279_0; clear hi279_0 hl279_0; replace p279 := eq_true p279; replace q279 := eq_true q279; go_wp2_with (first | (go_at_call 178; (with_reducible refine (impl_areLabels.calls k2 _ _ (rd_L1 l0 x18_2) true _ ?side1 ?side2 A12.out).mono ?_); (case side1 => exact cC HR278_0); (case side2 => exact HC278_0.out); rintro e w' ⟨rfl, ⟨nd, rfl⟩⟩; have p281 : 0 ≤ ((ji15) : Int) := of_decide_eq_true aS; have q281 : (ji15) < (l0.length : Int) := of_decide_eq_true aS; obtain ⟨ad281, A281_0, c281_0, e281, hx281_0, hl281_0, hi281_0⟩ := at_L1 HR0.out (ji15) p281 q281; obtain rfl : ad278 = ad281 := (by injection e281); have HR281_0 := Aside0.mk hi281_0; have HC281_0 := Aside0.mk hl281_0; clear hi281_0 hl281_0; replace p281 := eq_true p281; replace q281 := eq_true q281) | (go_at_call 142; (with_reducible refine (slices_Compare_int_int.calls k2 _ _ (rd_L1 l0 (ji15)) _ _ (rd_L1 l0 x18_2) t282 _ ?side1 ?side2 ?side3 ?side4 A18.out).mono ?_); (case side1 => exact cC HR281_0); (case side2 => exact HC281_0.out); (case side3 => exact cC HR278_0); (case side4 => exact HC278_0.out); rintro e w' ⟨rfl, ⟨nd, rfl⟩⟩))
                           go_roundg k2
                           case measure => have := HJ1.out; have := HK2.out; omega
                           case rel => exact ⟨(wrap64 (x18_2 + 1)), rD, H', ⟨by have := HJ1.out; have := HK2.out; omega⟩, by repeat (first | exact Drawn0.refl _ | apply Drawn0.step)⟩
                       · rw [if_neg c17] at H; exact absurd H (by simp)
                     · rw [if_neg c16] at H; exact absurd H (by simp)
                   · rw [if_neg c14] at H; have c14b0 : decide (0 < x18_2) = false := decide_eq_false c14; clear c14; have H' := Aside0.mk H; clear H; have p278 : 0 ≤ (x18_2 : Int) := of_decide_eq_true aS; have q278 : x18_2 < (l0.length : Int) := of_decide_eq_true aS; obtain ⟨ad278, A278_0, c278_0, e278, hx278_0, hl278_0, hi278_0⟩ := at_L1 HR0.out x18_2 p278 q278; cases e278
                     have HR278_0 := Aside0.mk hi278_0; have HC278_0 := Aside0.mk hl278_0; clear hi278_0 hl278_0; replace p278 := eq_true p278; replace q278 := eq_true q278; have p279 : 0 ≤ (0 : Int) := (by omega); have q279 : 0 < (l0.length : Int) := of_decide_eq_true aS; obtain ⟨ad279, A279_0, c279_0, e279, hx279_0, hl279_0, hi279_0⟩ := at_L1 HR0.out 0 p279 q279; obtain rfl : ad278 = ad279 := (by injection e279); have qi279 : (0 < l0.length) = True := eq_true (by omega); (try rw [show ((0 : Int)).toNat = 0 from rfl] at hx279_0); (try rw [Addr.add_zero'] at hx279_0); have HR279_0 := Aside0.mk hi279_0; have HC279_0 := Aside0.mk hl279_0; clear hi279_0 hl279_0; replace p279 := eq_true p279; replace q279 := eq_true q279; go_wp2_with (first | (go_at_call 178; (with_reducible refine (impl_areLabels.calls k2 _ _ (rd_L1 l0 x18_2) true _ ?side1 ?side2 A12.out).mono ?_); (case side1 => exact cC HR278_0); (case side2 => exact HC278_0.out); rintro e w' ⟨rfl, ⟨nd, rfl⟩⟩))
                     go_roundg k2
                     case measure => have := HJ1.out; have := HK2.out; omega
                     case rel => exact ⟨(wrap64 (x18_2 + 1)), rD, H', ⟨by have := HJ1.out; have := HK2.out; omega⟩, by repeat (first | exact Drawn0.refl _ | apply Drawn0.step)⟩
                 · replace c13 := Bool.eq_false_iff.mpr c13; subst c13; have H1 : (some false) = some r := by rw [if_neg (show ¬ (false = true) by decide)] at H; exact H
                   clear H; have H := H1; clear H1; obtain rfl := Option.some.inj H; have p278 : 0 ≤ (x18_2 : Int) := of_decide_eq_true aS; have q278 : x18_2 < (l0.length : Int) := of_decide_eq_true aS; obtain ⟨ad278, A278_0, c278_0, e278, hx278_0, hl278_0, hi278_0⟩ := at_L1 HR0.out x18_2 p278 q278; cases e278
                   have HR278_0 := Aside0.mk hi278_0; have HC278_0 := Aside0.mk hl278_0; clear hi278_0 hl278_0; replace p278 := eq_true p278; replace q278 := eq_true q278; have p279 : 0 ≤ (0 : Int) := (by omega); have q279 : 0 < (l0.length : Int) := of_decide_eq_true aS; obtain ⟨ad279, A279_0, c279_0, e279, hx279_0, hl279_0, hi279_0⟩ := at_L1 HR0.out 0 p279 q279; obtain rfl : ad278 = ad279 := (by injection e279); have qi279 : (0 < l0.length) = True := eq_true (by omega); (try rw [show ((0 : Int)).toNat = 0 from rfl] at hx279_0); (try rw [Addr.add_zero'] at hx279_0); have HR279_0 := Aside0.mk hi279_0; have HC279_0 := Aside0.mk hl279_0; clear hi279_0 hl279_0; replace p279 := eq_true p279; replace q279 := eq_true q279; go_wp2_with (first | (go_at_call 178; (with_reducible refine (impl_areLabels.calls k2 _ _ (rd_L1 l0 x18_2) false _ ?side1 ?side2 A12.out).mono ?_); (case side1 => exact cC HR278_0); (case side2 => exact HC278_0.out); rintro e w' ⟨rfl, ⟨nd, rfl⟩⟩))
                   go_ret
                   exact ⟨rD, by repeat (first | exact Drawn0.refl _ | apply Drawn0.step)⟩
               · rw [if_neg c11] at H; have c11b0 : (((rd_L1 l0 x18_2).length : Int) == ((rd_L1 l0 0).length : Int)) = false := beq_eq_false_iff_ne.mpr c11; have c11b1 : (((rd_L1 l0 x18_2).length : Int) != ((rd_L1 l0 0).length : Int)) = true := bne_iff_ne.mpr c11; have c11b2 : ((rd_L1 l0 x18_2).length == (rd_L1 l0 0).length) = false := by first | simpa using c11 | (simp at c11 ⊢; omega)
                 obtain rfl := Option.some.inj H; have p278 : 0 ≤ (x18_2 : Int) := of_decide_eq_true aS; have q278 : x18_2 < (l0.length : Int) := of_decide_eq_true aS; obtain ⟨ad278, A278_0, c278_0, e278, hx278_0, hl278_0, hi278_0⟩ := at_L1 HR0.out x18_2 p278 q278; cases e278
                 have HR278_0 := Aside0.mk hi278_0; have HC278_0 := Aside0.mk hl278_0; clear hi278_0 hl278_0; replace p278 := eq_true p278; replace q278 := eq_true q278; have p279 : 0 ≤ (0 : Int) := (by omega); have q279 : 0 < (l0.length : Int) := of_decide_eq_true aS; obtain ⟨ad279, A279_0, c279_0, e279, hx279_0, hl279_0, hi279_0⟩ := at_L1 HR0.out 0 p279 q279; obtain rfl : ad278 = ad279 := (by injection e279); have qi279 : (0 < l0.length) = True := eq_true (by omega); (try rw [show ((0 : Int)).toNat = 0 from rfl] at hx279_0); (try rw [Addr.add_zero'] at hx279_0); have HR279_0 := Aside0.mk hi279_0; have HC279_0 := Aside0.mk hl279_0; clear hi279_0 hl279_0; replace p279 := eq_true p279; replace q279 := eq_true q279; go_wp2; go_ret
                 exact ⟨rD, by repeat (first | exact Drawn0.refl _ | apply Drawn0.step)⟩
             · rw [if_neg c10] at H; exact absurd H (by simp)
           · rw [if_neg c9] at H; exact absurd H (by simp)
         · rw [if_neg c8] at H; exact absurd H (by simp)
       · rw [if_neg c7] at H; have c7b0 : decide (x18_2 < (l0.length : Int)) = false := decide_eq_false c7; clear c7; obtain rfl := Option.some.inj H; go_wp2; go_ret
         exact ⟨rD, by repeat (first | exact Drawn0.refl _ | apply Drawn0.step)⟩

def impl_allWithin.l0 : Nat → Int → Int → List Int → Int → Int → Option (Bool)
 | 0, _, _, _, _, _ => none
 | k + 1, x1, x2, x9, x10, x11 => if x11 < x10 then (if 0 ≤ x11 then (if x11 < (x9.length : Int) then ((impl_within.f (rd x9 x11) x1 x2).bind fun t284 => (if t284 = true then (impl_allWithin.l0 k x1 x2 x9 x10 (wrap64 (x11 + 1))) else (some false))) else (none)) else (none)) else (some true)
def impl_allWithin.f (k : Nat) (l0 : List Int) (a1 : Int) (a2 : Int) : Option (Bool) := impl_allWithin.l0 k a1 a2 l0 (l0.length : Int) 0
theorem impl_allWithin.calls (k : Nat) (A0 : Option Addr) (c0 : Nat) (l0 : List Int) (a1 : Int) (a2 : Int) (r : Bool) (w : World) (hr0 : Kd.C (Kd.int .i64) w A0 l0.length l0) (hc0 : l0.length ≤ c0) (h : impl_allWithin.f k l0 a1 a2 = some r) :
 Calls Try.prog 158 #[.slice A0 l0.length c0, .int .i64 a1, .int .i64 a2] w fun e w' => e = .returned (.bool r) ∧ Drawn0 w w' := by
 have HR0 := Aside0.mk hr0; have HC0 := Aside0.mk hc0; clear hr0 hc0; have H : (impl_allWithin.l0 k a1 a2 l0 (l0.length : Int) 0) = some r := h; clear h; have H' := Aside0.mk H; clear H; go_enter Try.func158, Try.ntmps158; go_wp2; go_loopg [11] k (fun kq v11 w' => ∃ (x11_1 : Int), v11 = .int .i64 x11_1 ∧ Aside0 (impl_allWithin.l0 kq a1 a2 l0 (l0.length : Int) x11_1 = some r) ∧ Aside0 (kq ≤ k) ∧ Drawn0 w w')
 case atStart => exact ⟨(0), rD, H', ⟨Nat.le_refl _⟩, by repeat (first | exact Drawn0.refl _ | apply Drawn0.step)⟩
 case round =>
  clear H'; obtain ⟨x11_1, rfl, HA, HK1, ⟨m1, rfl⟩⟩ := hrel; cases gk with
  | zero => exact absurd HA.out (by simp [impl_allWithin.l0])
  | succ k1 =>
   have H := HA.out; clear HA; simp only [impl_allWithin.l0] at H; by_cases c4 : x11_1 < (l0.length : Int)
   · rw [if_pos c4] at H; have c4b0 : decide (x11_1 < (l0.length : Int)) = true := decide_eq_true c4; clear c4; by_cases c5 : 0 ≤ x11_1
     · rw [if_pos c5] at H; have c5b0 : decide (0 ≤ x11_1) = true := decide_eq_true c5; clear c5; by_cases c6 : x11_1 < (l0.length : Int)
       · rw [if_pos c6] at H; have c6b0 : decide (x11_1 < (l0.length : Int)) = true := decide_eq_true c6; clear c6; replace H := Option.bind_eq_some_iff.mp H; obtain ⟨t284, A70, H⟩ := H; replace H : (if t284 = true then (impl_allWithin.l0 k1 a1 a2 l0 (l0.length : Int) (wrap64 (x11_1 + 1))) else (some false)) = some r := H; have A7 := Aside0.mk A70; clear A70; by_cases c8 : t284 = true
         · subst c8; have H1 : (impl_allWithin.l0 k1 a1 a2 l0 (l0.length : Int) (wrap64 (x11_1 + 1))) = some r := by rw [if_pos rfl] at H; exact H
           clear H; have H := H1; clear H1; have H' := Aside0.mk H; clear H; have p283 : 0 ≤ (x11_1 : Int) := of_decide_eq_true aS; have q283 : x11_1 < (l0.length : Int) := of_decide_eq_true aS; obtain ⟨ad283, e283, hx283_0⟩ := Kd.at_int HR0.out x11_1 p283 q283; cases e283
           replace p283 := eq_true p283; replace q283 := eq_true q283; go_wp2_with (first | ((with_reducible refine gate_callee (f := 93) rfl ?_); refine goesL_ (some 18) rfl rfl Try.func93 (by kernel_rfl) rfl #[.int .i64 (rd l0 x11_1), .int .i64 a1, .int .i64 a2] rfl aT ?_; (with_reducible refine (impl_within.calls (rd l0 x11_1) a1 a2 true _ A7.out).mono ?_); rintro e w' ⟨rfl, ⟨nd, rfl⟩⟩; refine ⟨_, rfl, ?_⟩))
           go_roundg k1
           case measure => have := HK1.out; omega
           case rel => exact ⟨(wrap64 (x11_1 + 1)), rD, H', ⟨by have := HK1.out; omega⟩, by repeat (first | exact Drawn0.refl _ | apply Drawn0.step)⟩
         · replace c8 := Bool.eq_false_iff.mpr c8; subst c8; have H1 : (some false) = some r := by rw [if_neg (show ¬ (false = true) by decide)] at H; exact H
           clear H; have H := H1; clear H1; obtain rfl := Option.some.inj H; have p283 : 0 ≤ (x11_1 : Int) := of_decide_eq_true aS; have q283 : x11_1 < (l0.length : Int) := of_decide_eq_true aS; obtain ⟨ad283, e283, hx283_0⟩ := Kd.at_int HR0.out x11_1 p283 q283; cases e283
           replace p283 := eq_true p283; replace q283 := eq_true q283; go_wp2_with (first | ((with_reducible refine gate_callee (f := 93) rfl ?_); refine goesL_ (some 18) rfl rfl Try.func93 (by kernel_rfl) rfl #[.int .i64 (rd l0 x11_1), .int .i64 a1, .int .i64 a2] rfl aT ?_; (with_reducible refine (impl_within.calls (rd l0 x11_1) a1 a2 false _ A7.out).mono ?_); rintro e w' ⟨rfl, ⟨nd, rfl⟩⟩; refine ⟨_, rfl, ?_⟩))
           go_ret
           exact ⟨rD, by repeat (first | exact Drawn0.refl _ | apply Drawn0.step)⟩
       · rw [if_neg c6] at H; exact absurd H (by simp)
     · rw [if_neg c5] at H; exact absurd H (by simp)
   · rw [if_neg c4] at H; have c4b0 : decide (x11_1 < (l0.length : Int)) = false := decide_eq_false c4; clear c4; obtain rfl := Option.some.inj H; go_wp2; go_ret
     exact ⟨rD, by repeat (first | exact Drawn0.refl _ | apply Drawn0.step)⟩

def impl_rising.l0 : Nat → List Int → Int → Option (Bool)
 | 0, _, _ => none
 | k + 1, x0, x3 => if x3 < (x0.length : Int) then (if 0 ≤ (wrap64 (x3 - 1)) then (if (wrap64 (x3 - 1)) < (x0.length : Int) then (if 0 ≤ x3 then (if (rd x0 (wrap64 (x3 - 1))) ≥ (rd x0 x3) then (some false) else (impl_rising.l0 k x0 (wrap64 (x3 + 1)))) else (none)) else (none)) else (none)) else (some true)
def impl_rising.f (k : Nat) (l0 : List Int) : Option (Bool) := impl_rising.l0 k l0 1
theorem impl_rising.calls (k : Nat) (A0 : Option Addr) (c0 : Nat) (l0 : List Int) (r : Bool) (w : World) (hr0 : Kd.C (Kd.int .i64) w A0 l0.length l0) (hc0 : l0.length ≤ c0) (h : impl_rising.f k l0 = some r) :
 Calls Try.prog 179 #[.slice A0 l0.length c0] w fun e w' => e = .returned (.bool r) ∧ Drawn0 w w' := by
 have HR0 := Aside0.mk hr0; have HC0 := Aside0.mk hc0; clear hr0 hc0; have H : (impl_rising.l0 k l0 1) = some r := h; clear h; have H' := Aside0.mk H; clear H; go_enter Try.func179, Try.ntmps179; go_wp2; repeat (go_quiet (fail); try go_wp2)
 go_loopg [3] k (fun kq v3 w' => ∃ (x3_1 : Int), v3 = .int .i64 x3_1 ∧ Aside0 (impl_rising.l0 kq l0 x3_1 = some r) ∧ Aside0 (kq ≤ k) ∧ Drawn0 w w')
 case atStart => exact ⟨(1), rD, H', ⟨Nat.le_refl _⟩, by repeat (first | exact Drawn0.refl _ | apply Drawn0.step)⟩
 case round =>
  clear H'; obtain ⟨x3_1, rfl, HA, HK1, ⟨m1, rfl⟩⟩ := hrel; cases gk with
  | zero => exact absurd HA.out (by simp [impl_rising.l0])
  | succ k1 =>
   have H := HA.out; clear HA; simp only [impl_rising.l0] at H; by_cases c2 : x3_1 < (l0.length : Int)
   · rw [if_pos c2] at H; have c2b0 : decide (x3_1 < (l0.length : Int)) = true := decide_eq_true c2; clear c2; obtain ⟨ji3, hji3⟩ : ∃ j_ : Int, (wrap64 (x3_1 - 1)) = j_ := ⟨_, rfl⟩; replace H : (if 0 ≤ (ji3) then (if (ji3) < (l0.length : Int) then (if 0 ≤ x3_1 then (if (rd l0 (ji3)) ≥ (rd l0 x3_1) then (some false) else (impl_rising.l0 k1 l0 (wrap64 (x3_1 + 1)))) else (none)) else (none)) else (none)) = some r := by first | (rw [hji3] at H; exact H) | (simp only [hji3] at H ⊢; exact H)
     have hji3w : (IntKind.i64.wrap (x3_1 - 1)) = ji3 := (i64_w _).trans hji3; by_cases c4 : 0 ≤ (ji3)
     · rw [if_pos c4] at H; have c4b0 : decide (0 ≤ (ji3)) = true := decide_eq_true c4; clear c4; by_cases c5 : (ji3) < (l0.length : Int)
       · rw [if_pos c5] at H; have c5b0 : decide ((ji3) < (l0.length : Int)) = true := decide_eq_true c5; clear c5; by_cases c6 : 0 ≤ x3_1
         · rw [if_pos c6] at H; have c6b0 : decide (0 ≤ x3_1) = true := decide_eq_true c6; clear c6; by_cases c7 : (rd l0 (ji3)) ≥ (rd l0 x3_1)
           · rw [if_pos c7] at H; have c7b0 : decide ((rd l0 x3_1) ≤ (rd l0 (ji3))) = true := decide_eq_true c7; clear c7; obtain rfl := Option.some.inj H; have p285 : 0 ≤ ((ji3) : Int) := of_decide_eq_true aS; have q285 : (ji3) < (l0.length : Int) := of_decide_eq_true aS; obtain ⟨ad285, e285, hx285_0⟩ := Kd.at_int HR0.out (ji3) p285 q285; cases e285
             replace p285 := eq_true p285; replace q285 := eq_true q285; have p286 : 0 ≤ (x3_1 : Int) := of_decide_eq_true aS; have q286 : x3_1 < (l0.length : Int) := of_decide_eq_true aS; obtain ⟨ad286, e286, hx286_0⟩ := Kd.at_int HR0.out x3_1 p286 q286; obtain rfl : ad285 = ad286 := (by injection e286); replace p286 := eq_true p286; replace q286 := eq_true q286; go_wp2; repeat (go_quiet (fail); try go_wp2)
             go_ret
             exact ⟨by first | rfl | (simp; done) | (simp only [← hji3] <;> (first | rfl | simp)) | (simp [*]; done), by repeat (first | exact Drawn0.refl _ | apply Drawn0.step)⟩
           · rw [if_neg c7] at H; have c7b0 : decide ((rd l0 x3_1) ≤ (rd l0 (ji3))) = false := decide_eq_false c7; clear c7; have H' := Aside0.mk H; clear H; have p285 : 0 ≤ ((ji3) : Int) := of_decide_eq_true aS; have q285 : (ji3) < (l0.length : Int) := of_decide_eq_true aS; obtain ⟨ad285, e285, hx285_0⟩ := Kd.at_int HR0.out (ji3) p285 q285; cases e285
             replace p285 := eq_true p285; replace q285 := eq_true q285; have p286 : 0 ≤ (x3_1 : Int) := of_decide_eq_true aS; have q286 : x3_1 < (l0.length : Int) := of_decide_eq_true aS; obtain ⟨ad286, e286, hx286_0⟩ := Kd.at_int HR0.out x3_1 p286 q286; obtain rfl : ad285 = ad286 := (by injection e286); replace p286 := eq_true p286; replace q286 := eq_true q286; go_wp2; repeat (go_quiet (fail); try go_wp2)
             go_roundg k1
             case measure => have := HK1.out; omega
             case rel => exact ⟨(wrap64 (x3_1 + 1)), rD, H', ⟨by have := HK1.out; omega⟩, by repeat (first | exact Drawn0.refl _ | apply Drawn0.step)⟩
         · rw [if_neg c6] at H; exact absurd H (by simp)
       · rw [if_neg c5] at H; exact absurd H (by simp)
     · rw [if_neg c4] at H; exact absurd H (by simp)
   · rw [if_neg c2] at H; have c2b0 : decide (x3_1 < (l0.length : Int)) = false := decide_eq_false c2; clear c2; obtain rfl := Option.some.inj H; go_wp2; repeat (go_quiet (fail); try go_wp2)
     go_ret
     exact ⟨rD, by repeat (first | exact Drawn0.refl _ | apply Drawn0.step)⟩

def impl_isSet.f (k : Nat) (l0 : List Int) (a1 : Int) : Option (Bool) := (impl_rising.f k l0).bind fun t287 => (if t287 = true then ((impl_allWithin.f k l0 0 (wrap64 (a1 - 1))).bind fun t288 => (some t288)) else (some false))
theorem impl_isSet.calls (k : Nat) (A0 : Option Addr) (c0 : Nat) (l0 : List Int) (a1 : Int) (r : Bool) (w : World) (hr0 : Kd.C (Kd.int .i64) w A0 l0.length l0) (hc0 : l0.length ≤ c0) (h : impl_isSet.f k l0 a1 = some r) :
 Calls Try.prog 140 #[.slice A0 l0.length c0, .int .i64 a1] w fun e w' => e = .returned (.bool r) ∧ Drawn0 w w' := by
 have HR0 := Aside0.mk hr0; have HC0 := Aside0.mk hc0; clear hr0 hc0; have H : ((impl_rising.f k l0).bind fun t287 => (if t287 = true then ((impl_allWithin.f k l0 0 (wrap64 (a1 - 1))).bind fun t288 => (some t288)) else (some false))) = some r := h; clear h; replace H := Option.bind_eq_some_iff.mp H; obtain ⟨t287, A30, H⟩ := H; replace H : (if t287 = true then ((impl_allWithin.f k l0 0 (wrap64 (a1 - 1))).bind fun t288 => (some t288)) else (some false)) = some r := H; have A3 := Aside0.mk A30; clear A30; by_cases c4 : t287 = true
 · subst c4; have H1 : ((impl_allWithin.f k l0 0 (wrap64 (a1 - 1))).bind fun t288 => (some t288)) = some r := by rw [if_pos rfl] at H; exact H
   clear H; have H := H1; clear H1; replace H := Option.bind_eq_some_iff.mp H; obtain ⟨t288, A50, H⟩ := H; replace H : (some t288) = some r := H; have A5 := Aside0.mk A50; clear A50; obtain rfl := Option.some.inj H; go_enter Try.func140, Try.ntmps140; go_wp2_with (first | ((with_reducible refine gate_callee (f := 179) rfl ?_); refine goesL_ (some 6) rfl rfl Try.func179 (by kernel_rfl) rfl #[.slice A0 l0.length c0] rfl aT ?_; (with_reducible refine (impl_rising.calls k _ _ l0 true _ ?side1 ?side2 A3.out).mono ?_); (case side1 => exact cC HR0); (case side2 => exact HC0.out); rintro e w' ⟨rfl, ⟨nd, rfl⟩⟩; refine ⟨_, rfl, ?_⟩) | (go_at_call 158; (with_reducible refine (impl_allWithin.calls k _ _ l0 0 (wrap64 (a1 - 1)) t288 _ ?side1 ?side2 A5.out).mono ?_); (case side1 => exact cC HR0); (case side2 => exact HC0.out); rintro e w' ⟨rfl, ⟨nd, rfl⟩⟩))
   go_ret
   exact ⟨rD, by repeat (first | exact Drawn0.refl _ | apply Drawn0.step)⟩
 · replace c4 := Bool.eq_false_iff.mpr c4; subst c4; have H1 : (some false) = some r := by rw [if_neg (show ¬ (false = true) by decide)] at H; exact H
   clear H; have H := H1; clear H1; obtain rfl := Option.some.inj H; go_enter Try.func140, Try.ntmps140; go_wp2_with (first | ((with_reducible refine gate_callee (f := 179) rfl ?_); refine goesL_ (some 6) rfl rfl Try.func179 (by kernel_rfl) rfl #[.slice A0 l0.length c0] rfl aT ?_; (with_reducible refine (impl_rising.calls k _ _ l0 false _ ?side1 ?side2 A3.out).mono ?_); (case side1 => exact cC HR0); (case side2 => exact HC0.out); rintro e w' ⟨rfl, ⟨nd, rfl⟩⟩; refine ⟨_, rfl, ?_⟩))
   go_ret
   exact ⟨rD, by repeat (first | exact Drawn0.refl _ | apply Drawn0.step)⟩

def impl_isClassSet.f (k : Nat) (l0 : List (List Int)) (l1 : List Int) : Option (Bool) := (impl_IsClass.f k l0).bind fun t289 => (if t289 = true then (if 0 < (l0.length : Int) then ((impl_isSet.f k l1 ((rd_L1 l0 0).length : Int)).bind fun t291 => (some t291)) else (none)) else (some false))
theorem impl_isClassSet.calls (k : Nat) (A0 : Option Addr) (c0 : Nat) (l0 : List (List Int)) (A1 : Option Addr) (c1 : Nat) (l1 : List Int) (r : Bool) (w : World) (hr0 : Kd.C (Kd.slice 3 (Kd.int .i64)) w A0 l0.length l0) (hc0 : l0.length ≤ c0) (hr1 : Kd.C (Kd.int .i64) w A1 l1.length l1) (hc1 : l1.length ≤ c1) (h : impl_isClassSet.f k l0 l1 = some r) :
 Calls Try.prog 85 #[.slice A0 l0.length c0, .slice A1 l1.length c1] w fun e w' => e = .returned (.bool r) ∧ Drawn0 w w' := by
 have HR0 := Aside0.mk hr0; have HC0 := Aside0.mk hc0; clear hr0 hc0; have HR1 := Aside0.mk hr1; have HC1 := Aside0.mk hc1; clear hr1 hc1; have H : ((impl_IsClass.f k l0).bind fun t289 => (if t289 = true then (if 0 < (l0.length : Int) then ((impl_isSet.f k l1 ((rd_L1 l0 0).length : Int)).bind fun t291 => (some t291)) else (none)) else (some false))) = some r := h; clear h; replace H := Option.bind_eq_some_iff.mp H; obtain ⟨t289, A30, H⟩ := H; replace H : (if t289 = true then (if 0 < (l0.length : Int) then ((impl_isSet.f k l1 ((rd_L1 l0 0).length : Int)).bind fun t291 => (some t291)) else (none)) else (some false)) = some r := H; have A3 := Aside0.mk A30; clear A30; by_cases c4 : t289 = true
 · subst c4; have H1 : (if 0 < (l0.length : Int) then ((impl_isSet.f k l1 ((rd_L1 l0 0).length : Int)).bind fun t291 => (some t291)) else (none)) = some r := by rw [if_pos rfl] at H; exact H
   clear H; have H := H1; clear H1; by_cases c5 : 0 < (l0.length : Int)
   · rw [if_pos c5] at H; have c5b0 : decide (0 < (l0.length : Int)) = true := decide_eq_true c5; have c5b1 : decide (0 < l0.length) = true := decide_eq_true (by omega); clear c5; replace H := Option.bind_eq_some_iff.mp H; obtain ⟨t291, A60, H⟩ := H; replace H : (some t291) = some r := H; have A6 := Aside0.mk A60; clear A60; obtain rfl := Option.some.inj H; go_enter Try.func85, Try.ntmps85; go_wp2_with (first | ((with_reducible refine gate_callee (f := 139) rfl ?_); refine goesL_ (some 6) rfl rfl Try.func139 (by kernel_rfl) rfl #[.slice A0 l0.length c0] rfl aT ?_; (with_reducible refine (impl_IsClass.calls k _ _ l0 true _ ?side1 ?side2 A3.out).mono ?_); (case side1 => exact cC HR0); (case side2 => exact HC0.out); rintro e w' ⟨rfl, ⟨nd, rfl⟩⟩; refine ⟨_, rfl, ?_⟩; have p290 : 0 ≤ (0 : Int) := (by omega); have q290 : 0 < (l0.length : Int) := of_decide_eq_true aS; obtain ⟨ad290, A290_0, c290_0, e290, hx290_0, hl290_0, hi290_0⟩ := at_L1 HR0.out 0 p290 q290; cases e290; have qi290 : (0 < l0.length) = True := eq_true (by omega); (try rw [show ((0 : Int)).toNat = 0 from rfl] at hx290_0); (try rw [Addr.add_zero'] at hx290_0); have HR290_0 := Aside0.mk hi290_0; have HC290_0 := Aside0.mk hl290_0; clear hi290_0 hl290_0; replace p290 := eq_true p290; replace q290 := eq_true q290) | (go_at_call 140; (with_reducible refine (impl_isSet.calls k _ _ l1 ((rd_L1 l0 0).length : Int) t291 _ ?side1 ?side2 A6.out).mono ?_); (case side1 => exact cC HR1); (case side2 => exact HC1.out); rintro e w' ⟨rfl, ⟨nd, rfl⟩⟩))
     go_ret
     exact ⟨rD, by repeat (first | exact Drawn0.refl _ | apply Drawn0.step)⟩
   · rw [if_neg c5] at H; exact absurd H (by simp)
 · replace c4 := Bool.eq_false_iff.mpr c4; subst c4; have H1 : (some false) = some r := by rw [if_neg (show ¬ (false = true) by decide)] at H; exact H
   clear H; have H := H1; clear H1; obtain rfl := Option.some.inj H; go_enter Try.func85, Try.ntmps85; go_wp2_with (first | ((with_reducible refine gate_callee (f := 139) rfl ?_); refine goesL_ (some 6) rfl rfl Try.func139 (by kernel_rfl) rfl #[.slice A0 l0.length c0] rfl aT ?_; (with_reducible refine (impl_IsClass.calls k _ _ l0 false _ ?side1 ?side2 A3.out).mono ?_); (case side1 => exact cC HR0); (case side2 => exact HC0.out); rintro e w' ⟨rfl, ⟨nd, rfl⟩⟩; refine ⟨_, rfl, ?_⟩))
   go_ret
   exact ⟨rD, by repeat (first | exact Drawn0.refl _ | apply Drawn0.step)⟩

end Go.Proofs.Ytfkfahdikmfpeaa.PFnExactTracesOf
