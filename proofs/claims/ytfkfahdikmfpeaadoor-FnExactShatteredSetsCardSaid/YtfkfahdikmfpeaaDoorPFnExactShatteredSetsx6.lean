import Derived.Test.YtfkfahdikmfpeaaDoorTb
import Derived.Test.YtfkfahdikmfpeaaDoorPFnExactShatteredSetsx0
import Derived.Test.YtfkfahdikmfpeaaDoorPFnExactShatteredSetsx5
import Derived.Test.YtfkfahdikmfpeaaDoorSh
namespace Go.Proofs.YtfkfahdikmfpeaaDoor.PFnExactShatteredSets
open Go.RowKit Go.Proofs.YtfkfahdikmfpeaaDoor.Sh Go.Proofs.YtfkfahdikmfpeaaDoorW.PrintWords Go.Proofs.YtfkfahdikmfpeaaDoorW.PrintLast Go.Proofs.YtfkfahdikmfpeaaDoorW.PrintMore
attribute [local go_sem] max2_int min2_int max_two min_two max_three min_three max_four min_four
set_option linter.unusedVariables false
set_option maxHeartbeats 8000000
set_option maxRecDepth 100000
set_option linter.unusedSimpArgs false

mutual
def impl_IsClass.j0 : Nat → List (List Int) → Bool → Option (Bool)
 | 0, _, _ => none
 | k + 1, x0, x15 => if x15 = true then (some false) else (impl_IsClass.l0 k x0 x0 (x0.length : Int) 0)
def impl_IsClass.l0 : Nat → List (List Int) → List (List Int) → Int → Int → Option (Bool)
 | 0, _, _, _, _ => none
 | k + 1, x0, x16, x17, x18 => if x18 < x17 then (if 0 ≤ x18 then (if x18 < (x16.length : Int) then (if 0 < (x0.length : Int) then (if ((rd_L1 x16 x18).length : Int) = ((rd_L1 x0 0).length : Int) then ((impl_areLabels.f k (rd_L1 x16 x18)).bind fun t303 => (if t303 = true then (if x18 > 0 then (if 0 ≤ (wrap64 (x18 - 1)) then (if (wrap64 (x18 - 1)) < (x0.length : Int) then ((slices_Compare_int_int.f k (rd_L1 x0 (wrap64 (x18 - 1))) (rd_L1 x16 x18)).bind fun t305 => (if t305 ≥ 0 then (some false) else (impl_IsClass.l0 k x0 x16 x17 (wrap64 (x18 + 1))))) else (none)) else (none)) else (impl_IsClass.l0 k x0 x16 x17 (wrap64 (x18 + 1)))) else (some false))) else (some false)) else (none)) else (none)) else (none)) else (some true)
end
def impl_IsClass.f (k : Nat) (l0 : List (List Int)) : Option (Bool) := (impl_within.f (l0.length : Int) 1 256).bind fun t299 => (if t299 = true then (if 0 < (l0.length : Int) then (impl_IsClass.j0 k l0 (decide (((rd_L1 l0 0).length : Int) > 8))) else (none)) else (impl_IsClass.j0 k l0 true))
theorem impl_IsClass.calls (k : Nat) (A0 : Option Addr) (c0 : Nat) (l0 : List (List Int)) (r : Bool) (w : World) (hr0 : Kd.C (Kd.slice 3 (Kd.int .i64)) w A0 l0.length l0) (hc0 : l0.length ≤ c0) (h : impl_IsClass.f k l0 = some r) :
 Calls Tryd.prog 19 #[.slice A0 l0.length c0] w fun e w' => e = .returned (.bool r) ∧ Drawn0 w w' := by
 have HR0 := Aside0.mk hr0; have HC0 := Aside0.mk hc0; clear hr0 hc0; have H : ((impl_within.f (l0.length : Int) 1 256).bind fun t299 => (if t299 = true then (if 0 < (l0.length : Int) then (impl_IsClass.j0 k l0 (decide (((rd_L1 l0 0).length : Int) > 8))) else (none)) else (impl_IsClass.j0 k l0 true))) = some r := h; clear h; have HC2 := Aside0.mk H; clear H; go_enter Tryd.func19, Tryd.ntmps19; go_upto_region 1 with (fail)
 go_cut [15] (fun v15 wc => ∃ (kq : Nat) (x15_1 : Bool), v15 = .bool x15_1 ∧ Aside0 (impl_IsClass.j0 kq l0 x15_1 = some r) ∧ Aside0 (kq ≤ k) ∧ Drawn0 w wc)
 case first =>
  have H := HC2.out; clear HC2; replace H := Option.bind_eq_some_iff.mp H; obtain ⟨t299, A30, H⟩ := H; replace H : (if t299 = true then (if 0 < (l0.length : Int) then (impl_IsClass.j0 k l0 (decide (((rd_L1 l0 0).length : Int) > 8))) else (none)) else (impl_IsClass.j0 k l0 true)) = some r := H; have A3 := Aside0.mk A30; clear A30; by_cases c4 : t299 = true
  · subst c4; have H1 : (if 0 < (l0.length : Int) then (impl_IsClass.j0 k l0 (decide (((rd_L1 l0 0).length : Int) > 8))) else (none)) = some r := by rw [if_pos rfl] at H; exact H
    clear H; have H := H1; clear H1; by_cases c5 : 0 < (l0.length : Int)
    · rw [if_pos c5] at H; have c5b0 : decide (0 < (l0.length : Int)) = true := decide_eq_true c5; have c5b1 : decide (0 < l0.length) = true := decide_eq_true (by omega); clear c5; (first | rw [c5b0] | (simp only [i64_w, i32_w]; rw [c5b0]) | rw [c5b1] | skip); have H' := Aside0.mk H; clear H; go_wp2_with (first | ((with_reducible refine gate_callee (f := 31) rfl ?_); refine goesL_ (some 7) rfl rfl Tryd.func31 (by kernel_rfl) rfl #[.int .i64 (l0.length : Int), .int .i64 1, .int .i64 256] rfl aT ?_; (with_reducible refine (impl_within.calls (l0.length : Int) 1 256 true _ A3.out).mono ?_); rintro e w' ⟨rfl, ⟨nd, rfl⟩⟩; refine ⟨_, rfl, ?_⟩; have p300 : 0 ≤ (0 : Int) := (by omega); have q300 : 0 < (l0.length : Int) := of_decide_eq_true aS; obtain ⟨ad300, A300_0, c300_0, e300, hx300_0, hl300_0, hi300_0⟩ := at_L1 HR0.out 0 p300 q300; cases e300; have qi300 : (0 < l0.length) = True := eq_true (by omega); (try rw [show ((0 : Int)).toNat = 0 from rfl] at hx300_0); (try rw [Addr.add_zero'] at hx300_0); have HR300_0 := Aside0.mk hi300_0; have HC300_0 := Aside0.mk hl300_0; clear hi300_0 hl300_0; replace p300 := eq_true p300; replace q300 := eq_true q300))
      go_meet
      case rel => exact ⟨_, (decide (((rd_L1 l0 0).length : Int) > 8)), rD, H', ⟨by first | omega | exact Nat.le_refl _⟩, by repeat (first | exact Drawn0.refl _ | apply Drawn0.step)⟩
    · rw [if_neg c5] at H; exact absurd H (by simp)
  · replace c4 := Bool.eq_false_iff.mpr c4; subst c4; have H1 : (impl_IsClass.j0 k l0 true) = some r := by rw [if_neg (show ¬ (false = true) by decide)] at H; exact H
    clear H; have H := H1; clear H1; have H' := Aside0.mk H; clear H; go_wp2_with (first | ((with_reducible refine gate_callee (f := 31) rfl ?_); refine goesL_ (some 7) rfl rfl Tryd.func31 (by kernel_rfl) rfl #[.int .i64 (l0.length : Int), .int .i64 1, .int .i64 256] rfl aT ?_; (with_reducible refine (impl_within.calls (l0.length : Int) 1 256 false _ A3.out).mono ?_); rintro e w' ⟨rfl, ⟨nd, rfl⟩⟩; refine ⟨_, rfl, ?_⟩))
    go_meet
    case rel => exact ⟨_, (true), rD, H', ⟨by first | omega | exact Nat.le_refl _⟩, by repeat (first | exact Drawn0.refl _ | apply Drawn0.step)⟩
 case rest =>
  clear HC2; obtain ⟨kq, x15_1, rfl, HA, HJ1, ⟨mc1, rfl⟩⟩ := hcut; cases kq with
  | zero => exact absurd HA.out (by simp [impl_IsClass.j0])
  | succ kj1 =>
   have H := HA.out; clear HA; simp only [impl_IsClass.j0] at H; by_cases c6 : x15_1 = true
   · subst c6; have H1 : (some false) = some r := by rw [if_pos rfl] at H; exact H
     clear H; have H := H1; clear H1; obtain rfl := Option.some.inj H; go_wp2; go_ret
     exact ⟨rD, by repeat (first | exact Drawn0.refl _ | apply Drawn0.step)⟩
   · replace c6 := Bool.eq_false_iff.mpr c6; subst c6; have H1 : (impl_IsClass.l0 kj1 l0 l0 (l0.length : Int) 0) = some r := by rw [if_neg (show ¬ (false = true) by decide)] at H; exact H
     clear H; have H := H1; clear H1; have H' := Aside0.mk H; clear H; go_wp2; go_loopg [18] kj1 (fun kq v18 w' => ∃ (x18_2 : Int), v18 = .int .i64 x18_2 ∧ Aside0 (impl_IsClass.l0 kq l0 l0 (l0.length : Int) x18_2 = some r) ∧ Aside0 (kq ≤ kj1) ∧ Drawn0 w w')
     case atStart => exact ⟨(0), rD, H', ⟨Nat.le_refl _⟩, by repeat (first | exact Drawn0.refl _ | apply Drawn0.step)⟩
     case round =>
      clear H'; try clear c6
      obtain ⟨x18_2, rfl, HA, HK2, ⟨m2, rfl⟩⟩ := hrel; cases gk with
      | zero => exact absurd HA.out (by simp [impl_IsClass.l0])
      | succ k2 =>
       have H := HA.out; clear HA; simp only [impl_IsClass.l0] at H; by_cases c7 : x18_2 < (l0.length : Int)
       · rw [if_pos c7] at H; have c7b0 : decide (x18_2 < (l0.length : Int)) = true := decide_eq_true c7; clear c7; by_cases c8 : 0 ≤ x18_2
         · rw [if_pos c8] at H; have c8b0 : decide (0 ≤ x18_2) = true := decide_eq_true c8; clear c8; by_cases c9 : x18_2 < (l0.length : Int)
           · rw [if_pos c9] at H; have c9b0 : decide (x18_2 < (l0.length : Int)) = true := decide_eq_true c9; clear c9; by_cases c10 : 0 < (l0.length : Int)
             · rw [if_pos c10] at H; have c10b0 : decide (0 < (l0.length : Int)) = true := decide_eq_true c10; have c10b1 : decide (0 < l0.length) = true := decide_eq_true (by omega); clear c10; by_cases c11 : ((rd_L1 l0 x18_2).length : Int) = ((rd_L1 l0 0).length : Int)
               · rw [if_pos c11] at H; have c11b0 : (((rd_L1 l0 x18_2).length : Int) == ((rd_L1 l0 0).length : Int)) = true := beq_iff_eq.mpr c11; have c11b1 : (((rd_L1 l0 x18_2).length : Int) != ((rd_L1 l0 0).length : Int)) = false := bne_eq_false_iff_eq.mpr c11; have c11b2 : ((rd_L1 l0 x18_2).length == (rd_L1 l0 0).length) = true := by first | simpa using c11 | (simp at c11 ⊢; omega)
                 clear c11; replace H := Option.bind_eq_some_iff.mp H; obtain ⟨t303, A120, H⟩ := H; replace H : (if t303 = true then (if x18_2 > 0 then (if 0 ≤ (wrap64 (x18_2 - 1)) then (if (wrap64 (x18_2 - 1)) < (l0.length : Int) then ((slices_Compare_int_int.f k2 (rd_L1 l0 (wrap64 (x18_2 - 1))) (rd_L1 l0 x18_2)).bind fun t305 => (if t305 ≥ 0 then (some false) else (impl_IsClass.l0 k2 l0 l0 (l0.length : Int) (wrap64 (x18_2 + 1))))) else (none)) else (none)) else (impl_IsClass.l0 k2 l0 l0 (l0.length : Int) (wrap64 (x18_2 + 1)))) else (some false)) = some r := H; have A12 := Aside0.mk A120; clear A120; by_cases c13 : t303 = true
                 · subst c13; have H1 : (if x18_2 > 0 then (if 0 ≤ (wrap64 (x18_2 - 1)) then (if (wrap64 (x18_2 - 1)) < (l0.length : Int) then ((slices_Compare_int_int.f k2 (rd_L1 l0 (wrap64 (x18_2 - 1))) (rd_L1 l0 x18_2)).bind fun t305 => (if t305 ≥ 0 then (some false) else (impl_IsClass.l0 k2 l0 l0 (l0.length : Int) (wrap64 (x18_2 + 1))))) else (none)) else (none)) else (impl_IsClass.l0 k2 l0 l0 (l0.length : Int) (wrap64 (x18_2 + 1)))) = some r := by rw [if_pos rfl] at H; exact H
                   clear H; have H := H1; clear H1; by_cases c14 : x18_2 > 0
                   · rw [if_pos c14] at H; have c14b0 : decide (0 < x18_2) = true := decide_eq_true c14; clear c14; obtain ⟨ji15, hji15⟩ : ∃ j_ : Int, (wrap64 (x18_2 - 1)) = j_ := ⟨_, rfl⟩; replace H : (if 0 ≤ (ji15) then (if (ji15) < (l0.length : Int) then ((slices_Compare_int_int.f k2 (rd_L1 l0 (ji15)) (rd_L1 l0 x18_2)).bind fun t305 => (if t305 ≥ 0 then (some false) else (impl_IsClass.l0 k2 l0 l0 (l0.length : Int) (wrap64 (x18_2 + 1))))) else (none)) else (none)) = some r := by first | (rw [hji15] at H; exact H) | (simp only [hji15] at H ⊢; exact H)
                     (try rw [hji15] at A12); have hji15w : (IntKind.i64.wrap (x18_2 - 1)) = ji15 := (i64_w _).trans hji15; by_cases c16 : 0 ≤ (ji15)
                     · rw [if_pos c16] at H; have c16b0 : decide (0 ≤ (ji15)) = true := decide_eq_true c16; clear c16; by_cases c17 : (ji15) < (l0.length : Int)
                       · rw [if_pos c17] at H; have c17b0 : decide ((ji15) < (l0.length : Int)) = true := decide_eq_true c17; clear c17; replace H := Option.bind_eq_some_iff.mp H; obtain ⟨t305, A180, H⟩ := H; replace H : (if t305 ≥ 0 then (some false) else (impl_IsClass.l0 k2 l0 l0 (l0.length : Int) (wrap64 (x18_2 + 1)))) = some r := H; have A18 := Aside0.mk A180; clear A180; by_cases c19 : t305 ≥ 0
                         · rw [if_pos c19] at H; have c19b0 : decide (0 ≤ t305) = true := decide_eq_true c19; clear c19; obtain rfl := Option.some.inj H; have p301 : 0 ≤ (x18_2 : Int) := of_decide_eq_true aS; have q301 : x18_2 < (l0.length : Int) := of_decide_eq_true aS; obtain ⟨ad301, A301_0, c301_0, e301, hx301_0, hl301_0, hi301_0⟩ := at_L1 HR0.out x18_2 p301 q301; cases e301
                           have HR301_0 := Aside0.mk hi301_0; have HC301_0 := Aside0.mk hl301_0; clear hi301_0 hl301_0; replace p301 := eq_true p301; replace q301 := eq_true q301; have p302 : 0 ≤ (0 : Int) := (by omega); have q302 : 0 < (l0.length : Int) := of_decide_eq_true aS; obtain ⟨ad302, A302_0, c302_0, e302, hx302_0, hl302_0, hi302_0⟩ := at_L1 HR0.out 0 p302 q302; obtain rfl : ad301 = ad302 := (by injection e302); have qi302 : (0 < l0.length) = True := eq_true (by omega); (try rw [show ((0 : Int)).toNat = 0 from rfl] at hx302_0); (try rw [Addr.add_zero'] at hx302_0); have HR302_0 := Aside0.mk hi302_0; have HC302_0 := Aside0.mk hl302_0; clear hi302_0 hl302_0; replace p302 := eq_true p302; replace q302 := eq_true q302; go_wp2_with (first | (go_at_call 32; (with_reducible refine (impl_areLabels.calls k2 _ _ (rd_L1 l0 x18_2) true _ ?side1 ?side2 A12.out).mono ?_); (case side1 => exact cC HR301_0); (case side2 => exact HC301_0.out); rintro e w' ⟨rfl, ⟨nd, rfl⟩⟩; have p304 : 0 ≤ ((ji15) : Int) := of_decide_eq_true aS; have q304 : (ji15) < (l0.length : Int) := of_decide_eq_true aS; obtain ⟨ad304, A304_0, c304_0, e304, hx304_0, hl304_0, hi304_0⟩ := at_L1 HR0.out (ji15) p304 q304; obtain rfl : ad301 = ad304 := (by injection e304); have HR304_0 := Aside0.mk hi304_0; have HC304_0 := Aside0.mk hl304_0; clear hi304_0 hl304_0; replace p304 := eq_true p304; replace q304 := eq_true q304) | (go_at_call 33; (with_reducible refine (slices_Compare_int_int.calls k2 _ _ (rd_L1 l0 (ji15)) _ _ (rd_L1 l0 x18_2) t305 _ ?side1 ?side2 ?side3 ?side4 A18.out).mono ?_); (case side1 => exact cC HR304_0); (case side2 => exact HC304_0.out); (case side3 => exact cC HR301_0); (case side4 => exact HC301_0.out); rintro e w' ⟨rfl, ⟨nd, rfl⟩⟩))
                           go_ret
                           exact ⟨by first | rfl | (simp; done) | (simp only [← hji15] <;> (first | rfl | simp)) | (simp [*]; done), by repeat (first | exact Drawn0.refl _ | apply Drawn0.step)⟩
                         · rw [if_neg c19] at H; have c19b0 : decide (0 ≤ t305) = false := decide_eq_false c19; clear c19; have H' := Aside0.mk H; clear H; have p301 : 0 ≤ (x18_2 : Int) := of_decide_eq_true aS; have q301 : x18_2 < (l0.length : Int) := of_decide_eq_true aS; obtain ⟨ad301, A301_0, c301_0, e301, hx301_0, hl301_0, hi301_0⟩ := at_L1 HR0.out x18_2 p301 q301; cases e301
                           have HR301_0 := Aside0.mk hi301_0; have HC301_0 := Aside0.mk hl301_0; clear hi301_0 hl301_0; replace p301 := eq_true p301; replace q301 := eq_true q301; have p302 : 0 ≤ (0 : Int) := (by omega); have q302 : 0 < (l0.length : Int) := of_decide_eq_true aS; obtain ⟨ad302, A302_0, c302_0, e302, hx302_0, hl302_0, hi302_0⟩ := at_L1 HR0.out 0 p302 q302; obtain rfl : ad301 = ad302 := (by injection e302); have qi302 : (0 < l0.length) = True := eq_true (by omega); (try rw [show ((0 : Int)).toNat = 0 from rfl] at hx302_0); (try rw [Addr.add_zero'] at hx302_0); have HR302_0 := Aside0.mk hi302_0; have HC302_0 := Aside0.mk hl302_0; clear hi302_0 hl302_0; replace p302 := eq_true p302; replace q302 := eq_true q302; go_wp2_with (first | (go_at_call 32; (with_reducible refine (impl_areLabels.calls k2 _ _ (rd_L1 l0 x18_2) true _ ?side1 ?side2 A12.out).mono ?_); (case side1 => exact cC HR301_0); (case side2 => exact HC301_0.out); rintro e w' ⟨rfl, ⟨nd, rfl⟩⟩; have p304 : 0 ≤ ((ji15) : Int) := of_decide_eq_true aS; have q304 : (ji15) < (l0.length : Int) := of_decide_eq_true aS; obtain ⟨ad304, A304_0, c304_0, e304, hx304_0, hl304_0, hi304_0⟩ := at_L1 HR0.out (ji15) p304 q304; obtain rfl : ad301 = ad304 := (by injection e304); have HR304_0 := Aside0.mk hi304_0; have HC304_0 := Aside0.mk hl304_0; clear hi304_0 hl304_0; replace p304 := eq_true p304; replace q304 := eq_true q304) | (go_at_call 33; (with_reducible refine (slices_Compare_int_int.calls k2 _ _ (rd_L1 l0 (ji15)) _ _ (rd_L1 l0 x18_2) t305 _ ?side1 ?side2 ?side3 ?side4 A18.out).mono ?_); (case side1 => exact cC HR304_0); (case side2 => exact HC304_0.out); (case side3 => exact cC HR301_0); (case side4 => exact HC301_0.out); rintro e w' ⟨rfl, ⟨nd, rfl⟩⟩))
                           go_roundg k2
                           case measure => have := HJ1.out; have := HK2.out; omega
                           case rel => exact ⟨(wrap64 (x18_2 + 1)), rD, H', ⟨by have := HJ1.out; have := HK2.out; omega⟩, by repeat (first | exact Drawn0.refl _ | apply Drawn0.step)⟩
                       · rw [if_neg c17] at H; exact absurd H (by simp)
                     · rw [if_neg c16] at H; exact absurd H (by simp)
                   · rw [if_neg c14] at H; have c14b0 : decide (0 < x18_2) = false := decide_eq_false c14; clear c14; have H' := Aside0.mk H; clear H; have p301 : 0 ≤ (x18_2 : Int) := of_decide_eq_true aS; have q301 : x18_2 < (l0.length : Int) := of_decide_eq_true aS; obtain ⟨ad301, A301_0, c301_0, e301, hx301_0, hl301_0, hi301_0⟩ := at_L1 HR0.out x18_2 p301 q301; cases e301
                     have HR301_0 := Aside0.mk hi301_0; have HC301_0 := Aside0.mk hl301_0; clear hi301_0 hl301_0; replace p301 := eq_true p301; replace q301 := eq_true q301; have p302 : 0 ≤ (0 : Int) := (by omega); have q302 : 0 < (l0.length : Int) := of_decide_eq_true aS; obtain ⟨ad302, A302_0, c302_0, e302, hx302_0, hl302_0, hi302_0⟩ := at_L1 HR0.out 0 p302 q302; obtain rfl : ad301 = ad302 := (by injection e302); have qi302 : (0 < l0.length) = True := eq_true (by omega); (try rw [show ((0 : Int)).toNat = 0 from rfl] at hx302_0); (try rw [Addr.add_zero'] at hx302_0); have HR302_0 := Aside0.mk hi302_0; have HC302_0 := Aside0.mk hl302_0; clear hi302_0 hl302_0; replace p302 := eq_true p302; replace q302 := eq_true q302; go_wp2_with (first | (go_at_call 32; (with_reducible refine (impl_areLabels.calls k2 _ _ (rd_L1 l0 x18_2) true _ ?side1 ?side2 A12.out).mono ?_); (case side1 => exact cC HR301_0); (case side2 => exact HC301_0.out); rintro e w' ⟨rfl, ⟨nd, rfl⟩⟩))
                     go_roundg k2
                     case measure => have := HJ1.out; have := HK2.out; omega
                     case rel => exact ⟨(wrap64 (x18_2 + 1)), rD, H', ⟨by have := HJ1.out; have := HK2.out; omega⟩, by repeat (first | exact Drawn0.refl _ | apply Drawn0.step)⟩
                 · replace c13 := Bool.eq_false_iff.mpr c13; subst c13; have H1 : (some false) = some r := by rw [if_neg (show ¬ (false = true) by decide)] at H; exact H
                   clear H; have H := H1; clear H1; obtain rfl := Option.some.inj H; have p301 : 0 ≤ (x18_2 : Int) := of_decide_eq_true aS; have q301 : x18_2 < (l0.length : Int) := of_decide_eq_true aS; obtain ⟨ad301, A301_0, c301_0, e301, hx301_0, hl301_0, hi301_0⟩ := at_L1 HR0.out x18_2 p301 q301; cases e301
                   have HR301_0 := Aside0.mk hi301_0; have HC301_0 := Aside0.mk hl301_0; clear hi301_0 hl301_0; replace p301 := eq_true p301; replace q301 := eq_true q301; have p302 : 0 ≤ (0 : Int) := (by omega); have q302 : 0 < (l0.length : Int) := of_decide_eq_true aS; obtain ⟨ad302, A302_0, c302_0, e302, hx302_0, hl302_0, hi302_0⟩ := at_L1 HR0.out 0 p302 q302; obtain rfl : ad301 = ad302 := (by injection e302); have qi302 : (0 < l0.length) = True := eq_true (by omega); (try rw [show ((0 : Int)).toNat = 0 from rfl] at hx302_0); (try rw [Addr.add_zero'] at hx302_0); have HR302_0 := Aside0.mk hi302_0; have HC302_0 := Aside0.mk hl302_0; clear hi302_0 hl302_0; replace p302 := eq_true p302; replace q302 := eq_true q302; go_wp2_with (first | (go_at_call 32; (with_reducible refine (impl_areLabels.calls k2 _ _ (rd_L1 l0 x18_2) false _ ?side1 ?side2 A12.out).mono ?_); (case side1 => exact cC HR301_0); (case side2 => exact HC301_0.out); rintro e w' ⟨rfl, ⟨nd, rfl⟩⟩))
                   go_ret
                   exact ⟨rD, by repeat (first | exact Drawn0.refl _ | apply Drawn0.step)⟩
               · rw [if_neg c11] at H; have c11b0 : (((rd_L1 l0 x18_2).length : Int) == ((rd_L1 l0 0).length : Int)) = false := beq_eq_false_iff_ne.mpr c11; have c11b1 : (((rd_L1 l0 x18_2).length : Int) != ((rd_L1 l0 0).length : Int)) = true := bne_iff_ne.mpr c11; have c11b2 : ((rd_L1 l0 x18_2).length == (rd_L1 l0 0).length) = false := by first | simpa using c11 | (simp at c11 ⊢; omega)
                 obtain rfl := Option.some.inj H; have p301 : 0 ≤ (x18_2 : Int) := of_decide_eq_true aS; have q301 : x18_2 < (l0.length : Int) := of_decide_eq_true aS; obtain ⟨ad301, A301_0, c301_0, e301, hx301_0, hl301_0, hi301_0⟩ := at_L1 HR0.out x18_2 p301 q301; cases e301
                 have HR301_0 := Aside0.mk hi301_0; have HC301_0 := Aside0.mk hl301_0; clear hi301_0 hl301_0; replace p301 := eq_true p301; replace q301 := eq_true q301; have p302 : 0 ≤ (0 : Int) := (by omega); have q302 : 0 < (l0.length : Int) := of_decide_eq_true aS; obtain ⟨ad302, A302_0, c302_0, e302, hx302_0, hl302_0, hi302_0⟩ := at_L1 HR0.out 0 p302 q302; obtain rfl : ad301 = ad302 := (by injection e302); have qi302 : (0 < l0.length) = True := eq_true (by omega); (try rw [show ((0 : Int)).toNat = 0 from rfl] at hx302_0); (try rw [Addr.add_zero'] at hx302_0); have HR302_0 := Aside0.mk hi302_0; have HC302_0 := Aside0.mk hl302_0; clear hi302_0 hl302_0; replace p302 := eq_true p302; replace q302 := eq_true q302; go_wp2; go_ret
                 exact ⟨rD, by repeat (first | exact Drawn0.refl _ | apply Drawn0.step)⟩
             · rw [if_neg c10] at H; exact absurd H (by simp)
           · rw [if_neg c9] at H; exact absurd H (by simp)
         · rw [if_neg c8] at H; exact absurd H (by simp)
       · rw [if_neg c7] at H; have c7b0 : decide (x18_2 < (l0.length : Int)) = false := decide_eq_false c7; clear c7; obtain rfl := Option.some.inj H; go_wp2; go_ret
         exact ⟨rD, by repeat (first | exact Drawn0.refl _ | apply Drawn0.step)⟩

def bits_TrailingZeros.f (a0 : Int) : Option Int := if 0 ≤ a0 ∧ a0 < 18446744073709551616 then some (Go.Lib.ctz 64 a0.toNat) else none
theorem bits_TrailingZeros.calls (a0 : Int) (r : Int) (w : World) (h : bits_TrailingZeros.f a0 = some r) {w0 : World} (HTab : Aside0 (TabAt 1 Go.Lib.deBruijn64tab w0)) (HB : Below w0.heap.size w0 w) :
 Calls Tryd.prog 34 #[.int .u64 a0] w fun e w' => e = .returned (.int .i64 r) ∧ Drawn0 w w' := by
 unfold bits_TrailingZeros.f at h; split at h
 · next hk =>
   obtain rfl := Option.some.inj h; obtain ⟨m, rfl⟩ := Int.eq_ofNat_of_zero_le hk.1; refine (Tryd.bits_TrailingZeros m (by omega) w (fun _ => (Tb.tabB HTab ⟨HB⟩).out)).mono ?_; rintro e w' ⟨rfl, rfl⟩; exact ⟨rfl, ⟨0, rfl⟩⟩
 · cases h

def impl_members.l0 : Nat → Int → List Int → Option (List Int)
 | 0, _, _ => none
 | k + 1, x0, x3 => if x0 = 0 then (some x3) else ((bits_TrailingZeros.f (IntKind.u64.wrap (x0))).bind fun t309 => (if x3.length < 17592186044416 then (impl_members.l0 k (Go.bits .and .i64 x0 (wrap64 (x0 - 1))) (x3 ++ [t309])) else (none)))
def impl_members.f (k : Nat) (a0 : Int) : Option (List Int) := impl_members.l0 k a0 (([] : List Int))
theorem impl_members.calls (k : Nat) (a0 : Int) (r : List Int) (w : World) (h : impl_members.f k a0 = some r) (HTab : Aside0 (TabAt 1 Go.Lib.deBruijn64tab w)) :
 Calls Tryd.prog 20 #[.int .i64 a0] w fun e w' => ∃ v0_ : Value, e = .returned (v0_) ∧ Kd.R (Kd.int .i64) 3 w' w.heap.size (fun _ => True) v0_ r ∧ Below w.heap.size w w' := by
 have HB := Aside0.mk (Below.refl w.heap.size w); have H : (impl_members.l0 k a0 (([] : List Int))) = some r := h; clear h; obtain ⟨y306, hy306⟩ : ∃ y_ : List Int, y_ = (([] : List Int)) := ⟨_, rfl⟩; replace H : (impl_members.l0 k a0 y306) = some r := by first | (rw [hy306]; with_reducible exact H) | (have H2_ := (Option.bind_some _ _).symm.trans H; rw [hy306]; with_reducible exact H2_) | (have H2_ := (Option.bind_some _ _).symm.trans H; with_reducible exact H2_) | with_reducible exact H | (rw [hy306]; exact H) | exact H
 have Ny306 := Aside0.mk hy306; clear hy306; have H' := Aside0.mk H; clear H; go_enter Tryd.func20, Tryd.ntmps20; go_wp2_with (first | ((with_reducible refine gate_dst (N := 4) rfl ?_); refine Kd.R_lit (Kd.int .i64) _ 3 ?hg (N := 4) ?hd (xs := ([] : List Int)) (inner := []) (ok := fun _ => True) (okp := fun _ => True) ?hr ?hp (fun _ hk => hk) trivial (Below.refl _ _) (Nat.le_refl _) (by simp) ?_; (case hd => rfl); (case hg => rfl); (case hr => go_simp <;> rfl); (case hp => exact (Reps.none _ _)); intro v307 w2 ho3 hb hg_ hnew_; clear hg_ hnew_; (first | rw [← Ny306.out] at ho3 | (simp only [Int.reduceToNat] at ho3; rw [← Ny306.out] at ho3)); have HO308 := Aside0.mk (Kd.R_lower ho3 (below_size (bB HB))); replace HB := Aside0.mk (below_step (bB HB) hb); clear hb ho3))
 go_loopg [0, 3] k (fun kq v0 v3 w' => ∃ (x0_1 : Int) (x3_1 : List Int), v0 = .int .i64 x0_1 ∧ Aside0 (impl_members.l0 kq x0_1 x3_1 = some r) ∧ Aside0 (kq ≤ k) ∧ Aside0 (Kd.R (Kd.int .i64) 3 w' w.heap.size (fun _ => True) v3 x3_1) ∧ Aside0 (Below w.heap.size w w'))
 case atStart => exact ⟨(a0), (y306), rD, H', ⟨Nat.le_refl _⟩, ⟨pR HO308⟩, ⟨bB HB⟩⟩
 case round =>
  clear H'; obtain ⟨x0_1, x3_1, rfl, HA, HK1, HO_3, HB⟩ := hrel; cases gk with
  | zero => exact absurd HA.out (by simp [impl_members.l0])
  | succ k1 =>
   have H := HA.out; clear HA; simp only [impl_members.l0] at H; by_cases c4 : x0_1 = 0
   · rw [if_pos c4] at H; have c4b0 : (x0_1 == 0) = true := beq_iff_eq.mpr c4; have c4b1 : (x0_1 != 0) = false := bne_eq_false_iff_eq.mpr c4; clear c4; obtain rfl := Option.some.inj H; go_wp2; go_ret
     exact ⟨_, eW, by (with_reducible repeat (first | apply Kd.R_alloc | apply Kd.R_drewN | apply Kd.R_drew)); exact HO_3.out, bB HB⟩
   · rw [if_neg c4] at H; have c4b0 : (x0_1 == 0) = false := beq_eq_false_iff_ne.mpr c4; have c4b1 : (x0_1 != 0) = true := bne_iff_ne.mpr c4; replace H := Option.bind_eq_some_iff.mp H; obtain ⟨t309, A50, H⟩ := H; replace H : (if x3_1.length < 17592186044416 then (impl_members.l0 k1 (Go.bits .and .i64 x0_1 (wrap64 (x0_1 - 1))) (x3_1 ++ [t309])) else (none)) = some r := H; have A5 := Aside0.mk A50; clear A50; by_cases c6 : x3_1.length < 17592186044416
     · rw [if_pos c6] at H; have LMc6 := Aside0.mk c6; clear c6; obtain ⟨y310, hy310⟩ : ∃ y_ : List Int, y_ = (x3_1 ++ [t309]) := ⟨_, rfl⟩; replace H : (impl_members.l0 k1 (Go.bits .and .i64 x0_1 (wrap64 (x0_1 - 1))) y310) = some r := by first | (rw [hy310]; with_reducible exact H) | (have H2_ := (Option.bind_some _ _).symm.trans H; rw [hy310]; with_reducible exact H2_) | (have H2_ := (Option.bind_some _ _).symm.trans H; with_reducible exact H2_) | with_reducible exact H | (rw [hy310]; exact H) | exact H
       have Ny310 := Aside0.mk hy310; clear hy310; have H' := Aside0.mk H; clear H; go_wp2_with (first | ((with_reducible refine gate_callee (f := 34) rfl ?_); refine goesL_ (some 14) rfl rfl Tryd.func34 (by kernel_rfl) rfl #[.int .u64 (IntKind.u64.wrap (x0_1))] rfl aT ?_; (with_reducible refine (bits_TrailingZeros.calls (IntKind.u64.wrap (x0_1)) t309 _ A5.out HTab (bB HB)).mono ?_); rintro e w' ⟨rfl, ⟨nd, rfl⟩⟩; refine ⟨_, rfl, ?_⟩) | ((with_reducible refine gate_builtin (b := .append) (xs := #[.tmp 11, .tmp 15]) rfl ?_); at_builtin; refine Kd.R_append (Kd.int .i64) (w0 := w) w.heap.size rfl (.tmp 11) (.tmp 15) 32 3 (.int .i64 0) 8 rfl Tryd.underlying32 info3 rfl (by decide) (by omega) u3 x3_1 t309 [.int .i64 t309] (fun _ => True) (fun _ => False) rfl rfl ?aP (fun _ hk => hk.elim) ?aF ?aO ?aB ?aS ?aL ?_; (case aP => exact rfl); (case aB => exact (bB HB)); (case aF => exact (fun _ _ => trivial)); (case aO => exact (pR HO_3)); (case aS => exact (below_size (bB HB))); (case aL => have := LMc6.out; omega); intro v311 w7 ho hb hg hat; rw [← Ny310.out] at ho; have HO312 := Aside0.mk (ho); replace HB := Aside0.mk (hb); clear HO_3; clear ho hb hg hat))
       go_roundg k1
       case measure => have := HK1.out; omega
       case rel => exact ⟨(Go.bits .and .i64 x0_1 (wrap64 (x0_1 - 1))), (y310), rD, H', ⟨by have := HK1.out; omega⟩, ⟨pR HO312⟩, ⟨bB HB⟩⟩
     · rw [if_neg c6] at H; exact absurd H (by simp)

def impl_at.l0 : Nat → List Int → List Int → List Int → Int → Int → Option (List Int)
 | 0, _, _, _, _, _ => none
 | k + 1, x0, x5, x9, x10, x11 => if x11 < x10 then (if 0 ≤ x11 then (if x11 < (x9.length : Int) then (if 0 ≤ (rd x9 x11) then (if (rd x9 x11) < (x0.length : Int) then (if x5.length < 17592186044416 then (impl_at.l0 k x0 (x5 ++ [rd x0 (rd x9 x11)]) x9 x10 (wrap64 (x11 + 1))) else (none)) else (none)) else (none)) else (none)) else (none)) else (some x5)
def impl_at.f (k : Nat) (l0 : List Int) (l1 : List Int) : Option (List Int) := impl_at.l0 k l0 (([] : List Int)) l1 (l1.length : Int) 0
theorem impl_at.calls (k : Nat) (A0 : Option Addr) (c0 : Nat) (l0 : List Int) (A1 : Option Addr) (c1 : Nat) (l1 : List Int) (r : List Int) (w : World) (hr0 : Kd.C (Kd.int .i64) w A0 l0.length l0) (hc0 : l0.length ≤ c0) (hr1 : Kd.C (Kd.int .i64) w A1 l1.length l1) (hc1 : l1.length ≤ c1) (h : impl_at.f k l0 l1 = some r) :
 Calls Tryd.prog 43 #[.slice A0 l0.length c0, .slice A1 l1.length c1] w fun e w' => ∃ v0_ : Value, e = .returned (v0_) ∧ Kd.R (Kd.int .i64) 3 w' w.heap.size (fun _ => True) v0_ r ∧ Below w.heap.size w w' := by
 have HR0 := Aside0.mk hr0; have HC0 := Aside0.mk hc0; clear hr0 hc0; have HR1 := Aside0.mk hr1; have HC1 := Aside0.mk hc1; clear hr1 hc1; have HB := Aside0.mk (Below.refl w.heap.size w); have H : (impl_at.l0 k l0 (([] : List Int)) l1 (l1.length : Int) 0) = some r := h; clear h; obtain ⟨y313, hy313⟩ : ∃ y_ : List Int, y_ = (([] : List Int)) := ⟨_, rfl⟩; replace H : (impl_at.l0 k l0 y313 l1 (l1.length : Int) 0) = some r := by first | (rw [hy313]; with_reducible exact H) | (have H2_ := (Option.bind_some _ _).symm.trans H; rw [hy313]; with_reducible exact H2_) | (have H2_ := (Option.bind_some _ _).symm.trans H; with_reducible exact H2_) | with_reducible exact H | (rw [hy313]; exact H) | exact H
 have Ny313 := Aside0.mk hy313; clear hy313; have H' := Aside0.mk H; clear H; go_enter Tryd.func43, Tryd.ntmps43; go_wp2_with (first | ((with_reducible refine gate_dst (N := 8) rfl ?_); refine Kd.R_lit (Kd.int .i64) _ 3 ?hg (N := 8) ?hd (xs := ([] : List Int)) (inner := []) (ok := fun _ => True) (okp := fun _ => True) ?hr ?hp (fun _ hk => hk) trivial (Below.refl _ _) (Nat.le_refl _) (by simp) ?_; (case hd => rfl); (case hg => rfl); (case hr => go_simp <;> rfl); (case hp => exact (Reps.none _ _)); intro v314 w3 ho4 hb hg_ hnew_; clear hg_ hnew_; (first | rw [← Ny313.out] at ho4 | (simp only [Int.reduceToNat] at ho4; rw [← Ny313.out] at ho4)); have HO315 := Aside0.mk (Kd.R_lower ho4 (below_size (bB HB))); replace HB := Aside0.mk (below_step (bB HB) hb); clear hb ho4))
 go_loopg [5, 11] k (fun kq v5 v11 w' => ∃ (x5_1 : List Int) (x11_1 : Int), v11 = .int .i64 x11_1 ∧ Aside0 (impl_at.l0 kq l0 x5_1 l1 (l1.length : Int) x11_1 = some r) ∧ Aside0 (kq ≤ k) ∧ Aside0 (Kd.R (Kd.int .i64) 3 w' w.heap.size (fun _ => True) v5 x5_1) ∧ Aside0 (Below w.heap.size w w'))
 case atStart => exact ⟨(y313), (0), rD, H', ⟨Nat.le_refl _⟩, ⟨pR HO315⟩, ⟨bB HB⟩⟩
 case round =>
  clear H'; try clear c1
  obtain ⟨x5_1, x11_1, rfl, HA, HK1, HO_5, HB⟩ := hrel; cases gk with
  | zero => exact absurd HA.out (by simp [impl_at.l0])
  | succ k1 =>
   have H := HA.out; clear HA; simp only [impl_at.l0] at H; by_cases c5 : x11_1 < (l1.length : Int)
   · rw [if_pos c5] at H; have c5b0 : decide (x11_1 < (l1.length : Int)) = true := decide_eq_true c5; clear c5; by_cases c6 : 0 ≤ x11_1
     · rw [if_pos c6] at H; have c6b0 : decide (0 ≤ x11_1) = true := decide_eq_true c6; clear c6; by_cases c7 : x11_1 < (l1.length : Int)
       · rw [if_pos c7] at H; have c7b0 : decide (x11_1 < (l1.length : Int)) = true := decide_eq_true c7; clear c7; by_cases c8 : 0 ≤ (rd l1 x11_1)
         · rw [if_pos c8] at H; have c8b0 : decide (0 ≤ (rd l1 x11_1)) = true := decide_eq_true c8; clear c8; by_cases c9 : (rd l1 x11_1) < (l0.length : Int)
           · rw [if_pos c9] at H; have c9b0 : decide ((rd l1 x11_1) < (l0.length : Int)) = true := decide_eq_true c9; clear c9; by_cases c10 : x5_1.length < 17592186044416
             · rw [if_pos c10] at H; have LMc10 := Aside0.mk c10; clear c10; obtain ⟨y318, hy318⟩ : ∃ y_ : List Int, y_ = (x5_1 ++ [rd l0 (rd l1 x11_1)]) := ⟨_, rfl⟩; replace H : (impl_at.l0 k1 l0 y318 l1 (l1.length : Int) (wrap64 (x11_1 + 1))) = some r := by first | (rw [hy318]; with_reducible exact H) | (have H2_ := (Option.bind_some _ _).symm.trans H; rw [hy318]; with_reducible exact H2_) | (have H2_ := (Option.bind_some _ _).symm.trans H; with_reducible exact H2_) | with_reducible exact H | (rw [hy318]; exact H) | exact H
               have Ny318 := Aside0.mk hy318; clear hy318; have H' := Aside0.mk H; clear H; have p316 : 0 ≤ (x11_1 : Int) := of_decide_eq_true aS; have q316 : x11_1 < (l1.length : Int) := of_decide_eq_true aS; obtain ⟨ad316, e316, hx316_0⟩ := Kd.at_int HR1.out x11_1 p316 q316; cases e316
               replace hx316_0 := (HB.out.cell (World.block_lt_of_cell? w _ hx316_0)).trans hx316_0; replace p316 := eq_true p316; replace q316 := eq_true q316; have p317 : 0 ≤ ((rd l1 x11_1) : Int) := of_decide_eq_true aS; have q317 : (rd l1 x11_1) < (l0.length : Int) := of_decide_eq_true aS; obtain ⟨ad317, e317, hx317_0⟩ := Kd.at_int HR0.out (rd l1 x11_1) p317 q317; cases e317
               replace hx317_0 := (HB.out.cell (World.block_lt_of_cell? w _ hx317_0)).trans hx317_0; replace p317 := eq_true p317; replace q317 := eq_true q317; go_wp2_with (first | ((with_reducible refine gate_builtin (b := .append) (xs := #[.tmp 15, .tmp 20]) rfl ?_); at_builtin; refine Kd.R_append (Kd.int .i64) (w0 := w) w.heap.size rfl (.tmp 15) (.tmp 20) 32 3 (.int .i64 0) 8 rfl Tryd.underlying32 info3 rfl (by decide) (by omega) u5 x5_1 (rd l0 (rd l1 x11_1)) [.int .i64 (rd l0 (rd l1 x11_1))] (fun _ => True) (fun _ => False) rfl rfl ?aP (fun _ hk => hk.elim) ?aF ?aO ?aB ?aS ?aL ?_; (case aP => exact rfl); (case aB => exact (bB HB)); (case aF => exact (fun _ _ => trivial)); (case aO => exact (pR HO_5)); (case aS => exact (below_size (bB HB))); (case aL => have := LMc10.out; omega); intro v319 w11 ho hb hg hat; rw [← Ny318.out] at ho; have HO320 := Aside0.mk (ho); replace HB := Aside0.mk (hb); clear HO_5; clear ho hb hg hat))
               go_roundg k1
               case measure => have := HK1.out; omega
               case rel => exact ⟨(y318), (wrap64 (x11_1 + 1)), rD, H', ⟨by have := HK1.out; omega⟩, ⟨pR HO320⟩, ⟨bB HB⟩⟩
             · rw [if_neg c10] at H; exact absurd H (by simp)
           · rw [if_neg c9] at H; exact absurd H (by simp)
         · rw [if_neg c8] at H; exact absurd H (by simp)
       · rw [if_neg c7] at H; exact absurd H (by simp)
     · rw [if_neg c6] at H; exact absurd H (by simp)
   · rw [if_neg c5] at H; have c5b0 : decide (x11_1 < (l1.length : Int)) = false := decide_eq_false c5; clear c5; obtain rfl := Option.some.inj H; go_wp2; go_ret
     exact ⟨_, eW, by (with_reducible repeat (first | apply Kd.R_alloc | apply Kd.R_drewN | apply Kd.R_drew)); exact HO_5.out, bB HB⟩

def slices_Equal_int_int.l0 : Nat → List Int → List Int → Int → Int → Option (Bool)
 | 0, _, _, _, _ => none
 | k + 1, x0, x1, x12, x13 => if x13 < x12 then (if 0 ≤ x13 then (if x13 < (x0.length : Int) then (if x13 < (x1.length : Int) then (if (rd x0 x13) = (rd x1 x13) then (slices_Equal_int_int.l0 k x0 x1 x12 (wrap64 (x13 + 1))) else (some false)) else (none)) else (none)) else (none)) else (some true)
def slices_Equal_int_int.f (k : Nat) (l0 : List Int) (l1 : List Int) : Option (Bool) := if (l0.length : Int) = (l1.length : Int) then (slices_Equal_int_int.l0 k l0 l1 (l0.length : Int) 0) else (some false)
theorem slices_Equal_int_int.calls (k : Nat) (A0 : Option Addr) (c0 : Nat) (l0 : List Int) (A1 : Option Addr) (c1 : Nat) (l1 : List Int) (r : Bool) (w : World) (hr0 : Kd.C (Kd.int .i64) w A0 l0.length l0) (hc0 : l0.length ≤ c0) (hr1 : Kd.C (Kd.int .i64) w A1 l1.length l1) (hc1 : l1.length ≤ c1) (h : slices_Equal_int_int.f k l0 l1 = some r) :
 Calls Tryd.prog 45 #[.slice A0 l0.length c0, .slice A1 l1.length c1] w fun e w' => e = .returned (.bool r) ∧ Drawn0 w w' := by
 have HR0 := Aside0.mk hr0; have HC0 := Aside0.mk hc0; clear hr0 hc0; have HR1 := Aside0.mk hr1; have HC1 := Aside0.mk hc1; clear hr1 hc1; have H : (if (l0.length : Int) = (l1.length : Int) then (slices_Equal_int_int.l0 k l0 l1 (l0.length : Int) 0) else (some false)) = some r := h; clear h; by_cases c3 : (l0.length : Int) = (l1.length : Int)
 · rw [if_pos c3] at H; have c3b0 : ((l0.length : Int) == (l1.length : Int)) = true := beq_iff_eq.mpr c3; have c3b1 : ((l0.length : Int) != (l1.length : Int)) = false := bne_eq_false_iff_eq.mpr c3; have c3b2 : (l0.length == l1.length) = true := by first | simpa using c3 | (simp at c3 ⊢; omega)
   clear c3; have H' := Aside0.mk H; clear H; go_enter Tryd.func45, Tryd.ntmps45; go_wp2; repeat (go_quiet (fail); try go_wp2)
   go_loopg [13] k (fun kq v13 w' => ∃ (x13_1 : Int), v13 = .int .i64 x13_1 ∧ Aside0 (slices_Equal_int_int.l0 kq l0 l1 (l0.length : Int) x13_1 = some r) ∧ Aside0 (kq ≤ k) ∧ Drawn0 w w')
   case atStart => exact ⟨(0), rD, H', ⟨Nat.le_refl _⟩, by repeat (first | exact Drawn0.refl _ | apply Drawn0.step)⟩
   case round =>
    clear H'; try clear c1
    try clear c3
    try clear c3b0
    try clear c3b1
    try clear c3b2
    obtain ⟨x13_1, rfl, HA, HK1, ⟨m1, rfl⟩⟩ := hrel; cases gk with
    | zero => exact absurd HA.out (by simp [slices_Equal_int_int.l0])
    | succ k1 =>
     have H := HA.out; clear HA; simp only [slices_Equal_int_int.l0] at H; by_cases c4 : x13_1 < (l0.length : Int)
     · rw [if_pos c4] at H; have c4b0 : decide (x13_1 < (l0.length : Int)) = true := decide_eq_true c4; clear c4; by_cases c5 : 0 ≤ x13_1
       · rw [if_pos c5] at H; have c5b0 : decide (0 ≤ x13_1) = true := decide_eq_true c5; clear c5; by_cases c6 : x13_1 < (l0.length : Int)
         · rw [if_pos c6] at H; have c6b0 : decide (x13_1 < (l0.length : Int)) = true := decide_eq_true c6; clear c6; by_cases c7 : x13_1 < (l1.length : Int)
           · rw [if_pos c7] at H; have c7b0 : decide (x13_1 < (l1.length : Int)) = true := decide_eq_true c7; clear c7; by_cases c8 : (rd l0 x13_1) = (rd l1 x13_1)
             · rw [if_pos c8] at H; have c8b0 : ((rd l0 x13_1) == (rd l1 x13_1)) = true := beq_iff_eq.mpr c8; have c8b1 : ((rd l0 x13_1) != (rd l1 x13_1)) = false := bne_eq_false_iff_eq.mpr c8; clear c8; have H' := Aside0.mk H; clear H; have p321 : 0 ≤ (x13_1 : Int) := of_decide_eq_true aS; have q321 : x13_1 < (l0.length : Int) := of_decide_eq_true aS; obtain ⟨ad321, e321, hx321_0⟩ := Kd.at_int HR0.out x13_1 p321 q321; cases e321
               replace p321 := eq_true p321; replace q321 := eq_true q321; have p322 : 0 ≤ (x13_1 : Int) := of_decide_eq_true aS; have q322 : x13_1 < (l1.length : Int) := of_decide_eq_true aS; obtain ⟨ad322, e322, hx322_0⟩ := Kd.at_int HR1.out x13_1 p322 q322; cases e322
               replace p322 := eq_true p322; replace q322 := eq_true q322; go_wp2; repeat (go_quiet (fail); try go_wp2)
               go_roundg k1
               case measure => have := HK1.out; omega
               case rel => exact ⟨(wrap64 (x13_1 + 1)), rD, H', ⟨by have := HK1.out; omega⟩, by repeat (first | exact Drawn0.refl _ | apply Drawn0.step)⟩
             · rw [if_neg c8] at H; have c8b0 : ((rd l0 x13_1) == (rd l1 x13_1)) = false := beq_eq_false_iff_ne.mpr c8; have c8b1 : ((rd l0 x13_1) != (rd l1 x13_1)) = true := bne_iff_ne.mpr c8; obtain rfl := Option.some.inj H; have p321 : 0 ≤ (x13_1 : Int) := of_decide_eq_true aS; have q321 : x13_1 < (l0.length : Int) := of_decide_eq_true aS; obtain ⟨ad321, e321, hx321_0⟩ := Kd.at_int HR0.out x13_1 p321 q321; cases e321
               replace p321 := eq_true p321; replace q321 := eq_true q321; have p322 : 0 ≤ (x13_1 : Int) := of_decide_eq_true aS; have q322 : x13_1 < (l1.length : Int) := of_decide_eq_true aS; obtain ⟨ad322, e322, hx322_0⟩ := Kd.at_int HR1.out x13_1 p322 q322; cases e322
               replace p322 := eq_true p322; replace q322 := eq_true q322; go_wp2; repeat (go_quiet (fail); try go_wp2)
               go_ret
               exact ⟨rD, by repeat (first | exact Drawn0.refl _ | apply Drawn0.step)⟩
           · rw [if_neg c7] at H; exact absurd H (by simp)
         · rw [if_neg c6] at H; exact absurd H (by simp)
       · rw [if_neg c5] at H; exact absurd H (by simp)
     · rw [if_neg c4] at H; have c4b0 : decide (x13_1 < (l0.length : Int)) = false := decide_eq_false c4; clear c4; obtain rfl := Option.some.inj H; go_wp2; repeat (go_quiet (fail); try go_wp2)
       go_ret
       exact ⟨rD, by repeat (first | exact Drawn0.refl _ | apply Drawn0.step)⟩
 · rw [if_neg c3] at H; have c3b0 : ((l0.length : Int) == (l1.length : Int)) = false := beq_eq_false_iff_ne.mpr c3; have c3b1 : ((l0.length : Int) != (l1.length : Int)) = true := bne_iff_ne.mpr c3; have c3b2 : (l0.length == l1.length) = false := by first | simpa using c3 | (simp at c3 ⊢; omega)
   obtain rfl := Option.some.inj H; go_enter Tryd.func45, Tryd.ntmps45; go_wp2; repeat (go_quiet (fail); try go_wp2)
   go_ret
   exact ⟨rD, by repeat (first | exact Drawn0.refl _ | apply Drawn0.step)⟩

end Go.Proofs.YtfkfahdikmfpeaaDoor.PFnExactShatteredSets
