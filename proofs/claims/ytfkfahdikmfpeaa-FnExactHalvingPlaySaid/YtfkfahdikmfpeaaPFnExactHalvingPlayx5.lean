-- Printed by wip/tools/myprint.py (the printer of the kit, patched by that program; roots chosen by it)
import Derived.Test.YtfkfahdikmfpeaaPFnExactHalvingPlayx0
import Derived.Test.YtfkfahdikmfpeaaPFnExactHalvingPlayx2
import Derived.Test.YtfkfahdikmfpeaaPFnExactHalvingPlayx3
import Derived.Test.YtfkfahdikmfpeaaPFnExactHalvingPlayx4
import Derived.Test.YtfkfahdikmfpeaaSh
namespace Go.Proofs.Ytfkfahdikmfpeaa.PFnExactHalvingPlay
open Go.RowKit Go.Proofs.Ytfkfahdikmfpeaa.Sh Go.Proofs.YtfkfahdikmfpeaaW.PrintWords Go.Proofs.YtfkfahdikmfpeaaW.PrintLast Go.Proofs.YtfkfahdikmfpeaaW.PrintMore
attribute [local go_sem] max2_int min2_int max_two min_two max_three min_three max_four min_four   -- for this text's walks alone
set_option linter.unusedVariables false
set_option linter.unusedSimpArgs false

/-! ### spec_HalvingPlay: function 42 -/
mutual
def spec_HalvingPlay.j0 : Nat → List (List Int) → Int → List Int → List Int → Bool → Option (List Int × Bool)
 | 0, _, _, _, _, _ => none
 | k + 1, x0, x1, x2, x8, x30 => if x30 = true then (some (x8, false)) else (spec_HalvingPlay.l0 k x0 x1 x2 x8 0)
def spec_HalvingPlay.l0 : Nat → List (List Int) → Int → List Int → List Int → Int → Option (List Int × Bool)
 | 0, _, _, _, _, _ => none
 | k + 1, x0, x1, x2, x8, x9 => if x9 < (x2.length : Int) then (if 0 ≤ x9 then (if x9 ≤ (x2.length : Int) then (if 0 ≤ x1 then (if x1 < (x0.length : Int) then ((spec_l7At.f k (rd_L1 x0 x1) (x2.take (x9 : Int).toNat)).bind fun t176 => ((spec_l7Version.f k x0 (x2.take (x9 : Int).toNat) t176).bind fun t179 => (spec_HalvingPlay.l1 k x0 x1 x2 x8 x9 t179 0 0))) else (none)) else (none)) else (none)) else (none)) else (some (x8, true))
def spec_HalvingPlay.l1 : Nat → List (List Int) → Int → List Int → List Int → Int → List Int → Int → Int → Option (List Int × Bool)
 | 0, _, _, _, _, _, _, _, _ => none
 | k + 1, x0, x1, x2, x8, x9, x10, x11, x12 => if x12 < (x10.length : Int) then (if 0 ≤ x12 then (if 0 ≤ (rd x10 x12) then (if (rd x10 x12) < (x0.length : Int) then (if 0 ≤ x9 then (if x9 < (x2.length : Int) then (if 0 ≤ (rd x2 x9) then (if (rd x2 x9) < ((rd_L1 x0 (rd x10 x12)).length : Int) then (spec_HalvingPlay.l1 k x0 x1 x2 x8 x9 x10 (wrap64 (x11 + (rd (rd_L1 x0 (rd x10 x12)) (rd x2 x9)))) (wrap64 (x12 + 1))) else (none)) else (none)) else (none)) else (none)) else (none)) else (none)) else (none)) else (if 0 ≤ x1 then (if x1 < (x0.length : Int) then (if 0 ≤ x9 then (if x9 < (x2.length : Int) then (if 0 ≤ (rd x2 x9) then (if (rd x2 x9) < ((rd_L1 x0 x1).length : Int) then (if ((decide (x11 ≥ 0)) != ((rd (rd_L1 x0 x1) (rd x2 x9)) == 1)) = true then (if x8.length < 17592186044416 then (spec_HalvingPlay.l0 k x0 x1 x2 (x8 ++ [rd x2 x9]) (wrap64 (x9 + 1))) else (none)) else (spec_HalvingPlay.l0 k x0 x1 x2 x8 (wrap64 (x9 + 1)))) else (none)) else (none)) else (none)) else (none)) else (none)) else (none))
end
def spec_HalvingPlay.f (k : Nat) (l0 : List (List Int)) (a1 : Int) (l2 : List Int) : Option (List Int × Bool) := (some (([] : List Int) : List Int)).bind fun y167 => ((spec_l7Class.f k l0).bind fun t170 => (if t170 = true then ((spec_l1In.f a1 0 (wrap64 ((l0.length : Int) - 1))).bind fun t171 => (if t171 = true then ((spec_l7Order.f k l0 l2).bind fun t172 => (spec_HalvingPlay.j0 k l0 a1 l2 y167 (!t172))) else (spec_HalvingPlay.j0 k l0 a1 l2 y167 true))) else (spec_HalvingPlay.j0 k l0 a1 l2 y167 true)))
def spec_HalvingPlay.T7 : Bool × List (List Nat × List Nat) := (true, [([], []), ([], []), ([], []), ([1, 2], [1, 2]), ([], []), ([], []), ([4, 5], [4, 5]), ([6], [6]), ([], []), ([], []), ([8, 9], [8, 9]), ([7, 10], [7, 10]), ([0, 3, 11, 11], [0, 3, 11]), ([12, 12, 0, 1, 2, 3, 4, 5, 6, 7, 8, 9, 10, 11, 12], [12])])
def spec_HalvingPlay.B7 : List Nat := [0, 0, 0, 6, 0, 0, 48, 112, 0, 0, 768, 2032, 4095, 8191]
theorem spec_HalvingPlay.tab7 : rtab .any (opsOf Try.f42 7) = spec_HalvingPlay.T7 := by kernel_rfl
theorem spec_HalvingPlay.bits7 : waitsOk spec_HalvingPlay.T7.2 spec_HalvingPlay.B7 = true := by kernel_rfl
def spec_HalvingPlay.T12 : Bool × List (List Nat × List Nat) := (true, [([], []), ([], []), ([], []), ([], []), ([2, 3], [2, 3]), ([4], [4]), ([1, 5], [1, 5]), ([6], [6]), ([], []), ([], []), ([8, 9], [8, 9]), ([10], [10]), ([7, 11], [7, 11]), ([12], [12]), ([0, 13], [0, 13]), ([14, 0, 1, 2, 3, 4, 5, 6, 7, 8, 9, 10, 11, 12, 13, 14], [0, 14])])
def spec_HalvingPlay.B12 : List Nat := [0, 0, 0, 0, 12, 28, 62, 126, 0, 0, 768, 1792, 4094, 8190, 16383, 32767]
theorem spec_HalvingPlay.tab12 : rtab .any (opsOf Try.f42 12) = spec_HalvingPlay.T12 := by kernel_rfl
theorem spec_HalvingPlay.bits12 : waitsOk spec_HalvingPlay.T12.2 spec_HalvingPlay.B12 = true := by kernel_rfl
def spec_HalvingPlay.T13 : Bool × List (List Nat × List Nat) := (true, [([], []), ([0], [0]), ([], []), ([], []), ([2, 3], [2, 3]), ([4], [4]), ([], []), ([], []), ([6, 7], [6, 7]), ([8], [8]), ([5, 9], [5, 9]), ([10], [10]), ([11], [11]), ([1, 12], [1, 12])])
def spec_HalvingPlay.B13 : List Nat := [0, 1, 0, 0, 12, 28, 0, 0, 192, 448, 1020, 2044, 4092, 8191]
theorem spec_HalvingPlay.tab13 : rtab .any (opsOf Try.f42 13) = spec_HalvingPlay.T13 := by kernel_rfl
theorem spec_HalvingPlay.bits13 : waitsOk spec_HalvingPlay.T13.2 spec_HalvingPlay.B13 = true := by kernel_rfl
set_option maxHeartbeats 8000000 in
set_option maxRecDepth 100000 in
theorem spec_HalvingPlay.calls (k : Nat) (A0 : Option Addr) (c0 : Nat) (l0 : List (List Int)) (a1 : Int) (A2 : Option Addr) (c2 : Nat) (l2 : List Int) (r1 : List Int) (r2 : Bool) (w : World) (hr0 : Kd.C (Kd.slice 3 (Kd.int .i64)) w A0 l0.length l0) (hc0 : l0.length ≤ c0) (hr2 : Kd.C (Kd.int .i64) w A2 l2.length l2) (hc2 : l2.length ≤ c2) (h : spec_HalvingPlay.f k l0 a1 l2 = some (r1, r2)) :
 Calls Try.prog 42 #[.slice A0 l0.length c0, .int .i64 a1, .slice A2 l2.length c2] w fun e w' => ∃ v0_ : Value, e = .returned (.tuple #[v0_, .bool r2]) ∧ Kd.R (Kd.int .i64) 3 w' w.heap.size (fun _ => True) v0_ r1 ∧ Below w.heap.size w w' := by
 have HR0 := Aside0.mk hr0
 have HC0 := Aside0.mk hc0
 clear hr0 hc0
 have HR2 := Aside0.mk hr2
 have HC2 := Aside0.mk hc2
 clear hr2 hc2
 have HB := Aside0.mk (Below.refl w.heap.size w)
 have H : ((some (([] : List Int) : List Int)).bind fun y167 => ((spec_l7Class.f k l0).bind fun t170 => (if t170 = true then ((spec_l1In.f a1 0 (wrap64 ((l0.length : Int) - 1))).bind fun t171 => (if t171 = true then ((spec_l7Order.f k l0 l2).bind fun t172 => (spec_HalvingPlay.j0 k l0 a1 l2 y167 (!t172))) else (spec_HalvingPlay.j0 k l0 a1 l2 y167 true))) else (spec_HalvingPlay.j0 k l0 a1 l2 y167 true)))) = some (r1, r2) := h
 clear h
 obtain ⟨y167, hy167⟩ : ∃ y_ : List Int, y_ = (([] : List Int)) := ⟨_, rfl⟩
 replace H : ((spec_l7Class.f k l0).bind fun t170 => (if t170 = true then ((spec_l1In.f a1 0 (wrap64 ((l0.length : Int) - 1))).bind fun t171 => (if t171 = true then ((spec_l7Order.f k l0 l2).bind fun t172 => (spec_HalvingPlay.j0 k l0 a1 l2 y167 (!t172))) else (spec_HalvingPlay.j0 k l0 a1 l2 y167 true))) else (spec_HalvingPlay.j0 k l0 a1 l2 y167 true))) = some (r1, r2) := by first | (rw [hy167]; with_reducible exact H) | (have H2_ := (Option.bind_some _ _).symm.trans H; rw [hy167]; with_reducible exact H2_) | (have H2_ := (Option.bind_some _ _).symm.trans H; with_reducible exact H2_) | with_reducible exact H | (rw [hy167]; exact H) | exact H
 have Ny167 := Aside0.mk hy167
 clear hy167
 have HC4 := Aside0.mk H
 clear H
 go_enter Try.func42, Try.ntmps42
 go_upto_region 2 with (first | ((with_reducible refine gate_dst (N := 13) rfl ?_); refine Kd.R_lit (Kd.int .i64) _ 3 ?hg (N := 13) ?hd (xs := ([] : List Int)) (inner := []) (ok := fun _ => True) (okp := fun _ => True) ?hr ?hp (fun _ hk => hk) trivial (Below.refl _ _) (Nat.le_refl _) (by simp) ?_; (case hd => rfl); (case hg => rfl); (case hr => first | (go_simp; done) | (go_simp; rfl)); (case hp => exact (Reps.none _ _)); intro v168 w5 ho6 hb hg_ hnew_; clear hg_ hnew_; (first | rw [← Ny167.out] at ho6 | (simp only [Int.reduceToNat] at ho6; rw [← Ny167.out] at ho6)); have n0_ := Aside0.mk (Kd.R_lower ho6 (below_size (bB HB))); have n1_ := Aside0.mk (below_step (bB HB) hb); clear HB; have HO169 := n0_; have HB := n1_; clear n0_ n1_; clear hb ho6))
 (try simp only [Act.put, List.setIfInBounds_toArray, List.set_cons_zero, List.set_cons_succ])
 go_cut [30] (fun v30 wc => ∃ (kq : Nat) (x30_3 : Bool), v30 = .bool x30_3 ∧ Aside0 (spec_HalvingPlay.j0 kq l0 a1 l2 y167 x30_3 = some (r1, r2)) ∧ Aside0 (kq ≤ k) ∧ Aside0 (Kd.R (Kd.int .i64) 3 wc w.heap.size (fun _ => True) v168 y167) ∧ Aside0 (Below w.heap.size w wc))
 case first =>
  have H := HC4.out
  clear HC4
  replace H := Option.bind_eq_some_iff.mp H
  obtain ⟨t170, A70, H⟩ := H
  replace H : (if t170 = true then ((spec_l1In.f a1 0 (wrap64 ((l0.length : Int) - 1))).bind fun t171 => (if t171 = true then ((spec_l7Order.f k l0 l2).bind fun t172 => (spec_HalvingPlay.j0 k l0 a1 l2 y167 (!t172))) else (spec_HalvingPlay.j0 k l0 a1 l2 y167 true))) else (spec_HalvingPlay.j0 k l0 a1 l2 y167 true)) = some (r1, r2) := H
  have A7 := Aside0.mk A70
  clear A70
  by_cases c8 : t170 = true
  · subst c8
    have H1 : ((spec_l1In.f a1 0 (wrap64 ((l0.length : Int) - 1))).bind fun t171 => (if t171 = true then ((spec_l7Order.f k l0 l2).bind fun t172 => (spec_HalvingPlay.j0 k l0 a1 l2 y167 (!t172))) else (spec_HalvingPlay.j0 k l0 a1 l2 y167 true))) = some (r1, r2) := by rw [if_pos rfl] at H; exact H
    clear H
    have H := H1
    clear H1
    replace H := Option.bind_eq_some_iff.mp H
    obtain ⟨t171, A90, H⟩ := H
    replace H : (if t171 = true then ((spec_l7Order.f k l0 l2).bind fun t172 => (spec_HalvingPlay.j0 k l0 a1 l2 y167 (!t172))) else (spec_HalvingPlay.j0 k l0 a1 l2 y167 true)) = some (r1, r2) := H
    have A9 := Aside0.mk A90
    clear A90
    by_cases c10 : t171 = true
    · subst c10
      have H1 : ((spec_l7Order.f k l0 l2).bind fun t172 => (spec_HalvingPlay.j0 k l0 a1 l2 y167 (!t172))) = some (r1, r2) := by rw [if_pos rfl] at H; exact H
      clear H
      have H := H1
      clear H1
      replace H := Option.bind_eq_some_iff.mp H
      obtain ⟨t172, A110, H⟩ := H
      replace H : (spec_HalvingPlay.j0 k l0 a1 l2 y167 (!t172)) = some (r1, r2) := H
      have A11 := Aside0.mk A110
      clear A110
      have H' := Aside0.mk H
      clear H
      go_wp2_with (first | ((with_reducible refine gate_callee (f := 87) rfl ?_); refine goesL_ (some 15) rfl rfl Try.func87 (by kernel_rfl) rfl #[.slice A0 l0.length c0] rfl aT ?_; (with_reducible refine (spec_l7Class.calls k _ _ l0 true _ ?side1 ?side2 A7.out).mono ?_); (case side1 => exact cB HR0 HB); (case side2 => exact HC0.out); rintro e w' ⟨rfl, ⟨nd, rfl⟩⟩; refine ⟨_, rfl, ?_⟩) | (go_at_call 88; (with_reducible refine (spec_l1In.calls a1 0 (wrap64 ((l0.length : Int) - 1)) true _ A9.out).mono ?_); rintro e w' ⟨rfl, ⟨nd, rfl⟩⟩) | (go_at_call 89; (with_reducible refine (spec_l7Order.calls k _ _ l0 _ _ l2 t172 _ ?side1 ?side2 ?side3 ?side4 A11.out).mono ?_); (case side1 => repeat (first | exact (Kd.C_below HR0.out (bB HB)) | (with_reducible refine Kd.C_alloc ?_ _) | (with_reducible refine Kd.C_drewN ?_ _) | (with_reducible refine Kd.C_drew ?_))); (case side2 => exact HC0.out); (case side3 => repeat (first | exact (Kd.C_below HR2.out (bB HB)) | (with_reducible refine Kd.C_alloc ?_ _) | (with_reducible refine Kd.C_drewN ?_ _) | (with_reducible refine Kd.C_drew ?_))); (case side4 => exact HC2.out); rintro e w' ⟨rfl, ⟨nd, rfl⟩⟩))
      go_meet
      case rel => exact ⟨_, (!t172), rD, H', ⟨by first | omega | exact Nat.le_refl _⟩, ⟨pR HO169⟩, ⟨bB HB⟩⟩
    · replace c10 := Bool.eq_false_iff.mpr c10
      subst c10
      have H1 : (spec_HalvingPlay.j0 k l0 a1 l2 y167 true) = some (r1, r2) := by rw [if_neg (show ¬ (false = true) by decide)] at H; exact H
      clear H
      have H := H1
      clear H1
      have H' := Aside0.mk H
      clear H
      go_wp2_with (first | ((with_reducible refine gate_callee (f := 87) rfl ?_); refine goesL_ (some 15) rfl rfl Try.func87 (by kernel_rfl) rfl #[.slice A0 l0.length c0] rfl aT ?_; (with_reducible refine (spec_l7Class.calls k _ _ l0 true _ ?side1 ?side2 A7.out).mono ?_); (case side1 => exact cB HR0 HB); (case side2 => exact HC0.out); rintro e w' ⟨rfl, ⟨nd, rfl⟩⟩; refine ⟨_, rfl, ?_⟩) | (go_at_call 88; (with_reducible refine (spec_l1In.calls a1 0 (wrap64 ((l0.length : Int) - 1)) false _ A9.out).mono ?_); rintro e w' ⟨rfl, ⟨nd, rfl⟩⟩))
      go_meet
      case rel => exact ⟨_, (true), rD, H', ⟨by first | omega | exact Nat.le_refl _⟩, ⟨pR HO169⟩, ⟨bB HB⟩⟩
  · replace c8 := Bool.eq_false_iff.mpr c8
    subst c8
    have H1 : (spec_HalvingPlay.j0 k l0 a1 l2 y167 true) = some (r1, r2) := by rw [if_neg (show ¬ (false = true) by decide)] at H; exact H
    clear H
    have H := H1
    clear H1
    have H' := Aside0.mk H
    clear H
    go_wp2_with (first | ((with_reducible refine gate_callee (f := 87) rfl ?_); refine goesL_ (some 15) rfl rfl Try.func87 (by kernel_rfl) rfl #[.slice A0 l0.length c0] rfl aT ?_; (with_reducible refine (spec_l7Class.calls k _ _ l0 false _ ?side1 ?side2 A7.out).mono ?_); (case side1 => exact cB HR0 HB); (case side2 => exact HC0.out); rintro e w' ⟨rfl, ⟨nd, rfl⟩⟩; refine ⟨_, rfl, ?_⟩))
    go_meet
    case rel => exact ⟨_, (true), rD, H', ⟨by first | omega | exact Nat.le_refl _⟩, ⟨pR HO169⟩, ⟨bB HB⟩⟩
 case rest =>
  clear HC4
  try clear c2
  obtain ⟨kq, x30_3, rfl, HA, HJ3, HO_8, HB⟩ := hcut
  cases kq with
  | zero => exact absurd HA.out (by simp [spec_HalvingPlay.j0])
  | succ kj3 =>
   have H := HA.out
   clear HA
   simp only [spec_HalvingPlay.j0] at H
   by_cases c12 : x30_3 = true
   · subst c12
     have H1 : (some (y167, false)) = some (r1, r2) := by rw [if_pos rfl] at H; exact H
     clear H
     have H := H1
     clear H1
     simp only [Option.some.injEq, Prod.mk.injEq] at H
     obtain ⟨rfl, rfl⟩ := H
     go_wp2
     go_ret2
     exact ⟨_, eW, by (with_reducible repeat (first | apply Kd.R_alloc | apply Kd.R_drewN | apply Kd.R_drew)); exact HO_8.out, bB HB⟩
   · replace c12 := Bool.eq_false_iff.mpr c12
     subst c12
     have H1 : (spec_HalvingPlay.l0 kj3 l0 a1 l2 y167 0) = some (r1, r2) := by rw [if_neg (show ¬ (false = true) by decide)] at H; exact H
     clear H
     have H := H1
     clear H1
     have H' := Aside0.mk H
     clear H
     go_wp2
     go_loopg [8, 9] kj3 (fun kq v8 v9 w' => ∃ (x8_2 : List Int) (x9_2 : Int), v9 = .int .i64 x9_2 ∧ Aside0 (spec_HalvingPlay.l0 kq l0 a1 l2 x8_2 x9_2 = some (r1, r2)) ∧ Aside0 (kq ≤ kj3) ∧ Aside0 (Kd.R (Kd.int .i64) 3 w' w.heap.size (fun _ => True) v8 x8_2) ∧ Aside0 (Below w.heap.size w w'))
     case atStart => exact ⟨(y167), (0), rD, H', ⟨Nat.le_refl _⟩, ⟨pR HO_8⟩, ⟨bB HB⟩⟩
     case round =>
      clear H'
      try clear c2
      try clear c12
      obtain ⟨x8_2, x9_2, rfl, HA, HK2, HO_8, HB⟩ := hrel
      cases gk with
      | zero => exact absurd HA.out (by simp [spec_HalvingPlay.l0])
      | succ k2 =>
       have H := HA.out
       clear HA
       simp only [spec_HalvingPlay.l0] at H
       by_cases c13 : x9_2 < (l2.length : Int)
       · rw [if_pos c13] at H
         have c13b0 : decide (x9_2 < (l2.length : Int)) = true := decide_eq_true c13
         clear c13
         by_cases c14 : 0 ≤ x9_2
         · rw [if_pos c14] at H
           have c14b0 := eq_true c14
           have c14b1 : decide (0 ≤ x9_2) = true := decide_eq_true c14
           clear c14
           by_cases c15 : x9_2 ≤ (l2.length : Int)
           · rw [if_pos c15] at H
             have c15b0 := eq_true c15
             have c15b1 : decide (x9_2 ≤ (l2.length : Int)) = true := decide_eq_true c15
             clear c15
             by_cases c16 : 0 ≤ a1
             · rw [if_pos c16] at H
               have c16b0 : decide (0 ≤ a1) = true := decide_eq_true c16
               clear c16
               by_cases c17 : a1 < (l0.length : Int)
               · rw [if_pos c17] at H
                 have c17b0 : decide (a1 < (l0.length : Int)) = true := decide_eq_true c17
                 clear c17
                 have c18b0 := eq_true (of_decide_eq_true aS : 0 ≤ x9_2)
                 have c19b0 := eq_true (of_decide_eq_true aS : x9_2 ≤ (l2.length : Int))
                 replace H := Option.bind_eq_some_iff.mp H
                 obtain ⟨t176, A200, H⟩ := H
                 replace H : ((spec_l7Version.f k2 l0 (l2.take (x9_2 : Int).toNat) t176).bind fun t179 => (spec_HalvingPlay.l1 k2 l0 a1 l2 x8_2 x9_2 t179 0 0)) = some (r1, r2) := H
                 have A20 := Aside0.mk A200
                 clear A200
                 replace H := Option.bind_eq_some_iff.mp H
                 obtain ⟨t179, A210, H⟩ := H
                 replace H : (spec_HalvingPlay.l1 k2 l0 a1 l2 x8_2 x9_2 t179 0 0) = some (r1, r2) := H
                 have A21 := Aside0.mk A210
                 clear A210
                 have H' := Aside0.mk H
                 clear H
                 try go_wp2
                 have n0_ := Aside0.mk (Kd.R_drew HO_8.out)
                 have n1_ := Aside0.mk (below_drew1 HB.out)
                 clear HO_8
                 clear HB
                 have HO_8 := n0_
                 have HB := n1_
                 clear n0_ n1_
                 obtain ⟨i023, hi023, _, hsz23, _⟩ := info_parts info3
                 obtain ⟨hcut23, hA23, hC23⟩ := print_take_of (P := Try.prog) (Value.int .i64) 0 22 3 .i64 Try.underlying22 hi023 hsz23 A2 c2 l2 x9_2 (of_decide_eq_true aS) (of_decide_eq_true aS) HC2.out
                 have HR173 := Aside0.mk (Kd.C_of_reads (h1 := fun _ => rfl) (hA23 _ (Kd.reads_of_C HR2.out)))
                 have HC173 := Aside0.mk hC23
                 clear hA23 hC23 hi023 hsz23
                 have p174 : 0 ≤ (a1 : Int) := of_decide_eq_true aS
                 have q174 : a1 < (l0.length : Int) := of_decide_eq_true aS
                 obtain ⟨ad174, A174_0, c174_0, e174, hx174_0, hl174_0, hi174_0⟩ := at_L1 HR0.out a1 p174 q174
                 have hw174_0 := hx174_0
                 cases e174
                 replace hx174_0 := (HB.out.cell (World.block_lt_of_cell? w _ hx174_0)).trans hx174_0
                 have HR174_0 := Aside0.mk hi174_0
                 have HC174_0 := Aside0.mk hl174_0
                 clear hi174_0 hl174_0
                 replace p174 := eq_true p174
                 replace q174 := eq_true q174
                 obtain ⟨i024, hi024, _, hsz24, _⟩ := info_parts info3
                 obtain ⟨hcut24, hA24, hC24⟩ := print_take_of (P := Try.prog) (Value.int .i64) 0 22 3 .i64 Try.underlying22 hi024 hsz24 A2 c2 l2 x9_2 (of_decide_eq_true aS) (of_decide_eq_true aS) HC2.out
                 have HR175 := Aside0.mk (Kd.C_of_reads (h1 := fun _ => rfl) (hA24 _ (Kd.reads_of_C HR2.out)))
                 have HC175 := Aside0.mk hC24
                 clear hA24 hC24 hi024 hsz24
                 refine start_ (n := 14) (S := fun w' => w'.cell? (ad174.add (a1).toNat) = some (.slice A174_0 (rd_L1 l0 a1).length c174_0)) (ds := []) #[false, false, false, false, false, false, false, false, false, false, false, false, false, false] (by kernel_rfl) rfl rfl (((HB.out.cell (World.block_lt_of_cell? w _ hw174_0)).trans hw174_0)) (fun hHeld => ?_); refine with_tabW spec_HalvingPlay.tab7 spec_HalvingPlay.bits7 (fun HT_ HW_ => ?_)
                 generalize wr.drew = w22 at HO_8 HB HR173 HR174_0 HR175 hx174_0 hHeld ⊢
                 refine pure_ (i := 0) (N := some 38) (v := ?_) (a' := ?_) #[true, false, false, false, false, false, false, false, false, false, false, false, false, false] rfl rfl (any_of HT_.out (by kernel_rfl)) (fun _ _ _ h => h) (Or.inl ⟨by rfl, ?_⟩) ?_ ?_
                 rotate_left
                 · intro w'
                   go_simp
                   with_reducible rfl
                 rotate_left
                 · exact aP
                 refine pure_ (i := 1) (N := some 39) (v := ?_) (a' := ?_) #[true, true, false, false, false, false, false, false, false, false, false, false, false, false] rfl rfl (any_of HT_.out (by kernel_rfl)) (fun _ _ _ h => h) (Or.inl ⟨by rfl, ?_⟩) ?_ ?_
                 rotate_left
                 · intro w'
                   go_simp
                   with_reducible rfl
                 rotate_left
                 · exact aP
                 refine pure_ (i := 2) (N := some 40) (v := ?_) (a' := ?_) #[true, true, true, false, false, false, false, false, false, false, false, false, false, false] rfl rfl (any_of HT_.out (by kernel_rfl)) (fun _ _ _ h => h) (Or.inl ⟨by rfl, ?_⟩) ?_ ?_
                 rotate_left
                 · intro w'
                   go_simp
                   with_reducible rfl
                 rotate_left
                 · exact aP
                 refine pure_ (i := 3) (N := some 41) (v := ?_) (a' := ?_) #[true, true, true, true, false, false, false, false, false, false, false, false, false, false] rfl rfl (any_of HT_.out (by kernel_rfl)) (fun _ _ _ h => h) (Or.inl ⟨by rfl, ?_⟩) ?_ ?_
                 rotate_left
                 · intro w'
                   go_simp
                   with_reducible rfl
                 rotate_left
                 · exact aP
                 refine pure_ (i := 4) (N := some 42) (v := ?_) (a' := ?_) #[true, true, true, true, true, false, false, false, false, false, false, false, false, false] rfl rfl (any_of HT_.out (by kernel_rfl)) (fun _ _ _ h => h) (Or.inl ⟨by rfl, ?_⟩) ?_ ?_
                 rotate_left
                 · intro w'
                   go_simp
                   with_reducible rfl
                 rotate_left
                 · exact aP
                 refine pure_ (i := 5) (N := some 43) (v := ?_) (a' := ?_) #[true, true, true, true, true, true, false, false, false, false, false, false, false, false] rfl rfl (any_of HT_.out (by kernel_rfl)) (fun _ _ _ h => h) (Or.inl ⟨by rfl, ?_⟩) ?_ ?_
                 rotate_left
                 · intro w'
                   go_simp
                   with_reducible rfl
                 rotate_left
                 · exact aP
                 refine pure_ (i := 6) (N := some 44) (v := ?_) (a' := ?_) #[true, true, true, true, true, true, true, false, false, false, false, false, false, false] rfl rfl (any_of HT_.out (by kernel_rfl)) (fun _ _ _ h => h) (Or.inl ⟨by rfl, ?_⟩) ?_ ?_
                 rotate_left
                 · intro w'
                   go_simp
                   with_reducible rfl
                 rotate_left
                 · exact aP
                 refine pure_ (i := 8) (N := some 46) (v := ?_) (a' := ?_) #[true, true, true, true, true, true, true, false, true, false, false, false, false, false] rfl rfl (any_of HT_.out (by kernel_rfl)) (fun _ _ _ h => h) (Or.inl ⟨by rfl, ?_⟩) ?_ ?_
                 rotate_left
                 · intro w'
                   go_simp
                   with_reducible rfl
                 rotate_left
                 · exact aP
                 refine pure_ (i := 9) (N := some 47) (v := ?_) (a' := ?_) #[true, true, true, true, true, true, true, false, true, true, false, false, false, false] rfl rfl (any_of HT_.out (by kernel_rfl)) (fun _ _ _ h => h) (Or.inl ⟨by rfl, ?_⟩) ?_ ?_
                 rotate_left
                 · intro w'
                   go_simp
                   with_reducible rfl
                 rotate_left
                 · exact aP
                 refine pure_ (i := 10) (N := some 48) (v := ?_) (a' := ?_) #[true, true, true, true, true, true, true, false, true, true, true, false, false, false] rfl rfl (any_of HT_.out (by kernel_rfl)) (fun _ _ _ h => h) (Or.inl ⟨by rfl, ?_⟩) ?_ ?_
                 rotate_left
                 · intro w'
                   go_simp
                   with_reducible rfl
                 rotate_left
                 · exact aP
                 refine take_ (i := 7) (N := some 45) (v := ?_) (a' := ?_) #[true, true, true, true, true, true, true, true, true, true, true, false, false, false] rfl rfl (take_ofW HT_.out HW_.out (by kernel_rfl)) (fun _ _ _ h => h) (Or.inl ⟨by rfl, ?_⟩) hHeld ?_ ?_
                 rotate_left
                 · intro w' s0
                   go_simp
                   with_reducible rfl
                 rotate_left
                 · exact aP
                 refine one_ (i := 11) (N := some 49) #[true, true, true, true, true, true, true, true, true, true, true, true, false, false] rfl rfl (one_of HT_.out (by kernel_rfl)) (by decide) (fun K hK => ?_)
                 refine goes_ Try.func91 (by kernel_rfl) rfl #[.slice A174_0 (rd_L1 l0 a1).length c174_0, .slice A2 (l2.take (x9_2 : Int).toNat).length c2] (by rfl) rfl rfl (by (try simp only [List.map_toArray, List.map_cons, List.map_nil]); first | done | (rw [show (l2.take (x9_2 : Int).toNat).length = x9_2.toNat from (by rw [List.length_take]; have h_ : (x9_2 : Int) ≤ (l2.length : Int) := of_decide_eq_true aS; omega)] <;> rfl) | rfl | (simp only [List.length_drop, List.length_take]; rfl)) ?_
                 with_reducible refine (spec_l7At.calls k2 _ _ (rd_L1 l0 a1) _ _ (l2.take (x9_2 : Int).toNat) t176 _ ?side1 ?side2 ?side3 ?side4 A20.out).mono ?_
                 (case side1 => exact cB HR174_0 HB)
                 (case side2 => exact HC174_0.out)
                 (case side3 => exact cB HR175 HB)
                 (case side4 => exact HC175.out)
                 rintro e w25 ⟨v177, rfl, ho0, hb⟩
                 refine ⟨_, rfl, ?_⟩
                 have n0_ := Aside0.mk (Kd.R_elder' (pR HO_8) (Kd.R_base ho0) hb)
                 have n1_ := Aside0.mk (Kd.R_lower (Kd.R_new' ho0 (Kd.R_lt (pR HO_8))) (below_size (bB HB)))
                 have n2_ := Aside0.mk (below_step (bB HB) hb)
                 clear HO_8
                 clear HB
                 have HO_8 := n0_
                 have HO178 := n1_
                 have HB := n2_
                 clear n0_ n1_ n2_
                 (try clear hb)
                 (try clear hb2)
                 (try clear hk)
                 (try clear hi)
                 (try clear ho0)
                 obtain ⟨Ao26, co26, eo26⟩ := Kd.R_slice HO178.out
                 (first | subst eo26 | (injection eo26 with f1_ f2_ f3_; have f4_ := f1_.symm; have f5_ := f3_.symm; clear f1_ f2_ f3_; subst f4_; subst f5_))
                 refine hK.out _ _ (((HB.out.cell (World.block_lt_of_cell? w _ hw174_0)).trans hw174_0)) (fun hHeld => ?_)
                 clear hK K
                 refine norm_ (a' := ?_) ?_ ?_
                 rotate_left
                 · show Act.put _ (some 49) _ = _
                   simp only [Act.put, List.setIfInBounds_toArray, List.set_cons_zero, List.set_cons_succ, i64_w, i32_w]
                   rfl
                 refine one_ (i := 12) (N := some 50) #[true, true, true, true, true, true, true, true, true, true, true, true, true, false] rfl rfl (one_of HT_.out (by kernel_rfl)) (by decide) (fun K hK => ?_)
                 refine goes_ Try.func90 (by kernel_rfl) rfl #[.slice (some ad174) l0.length c0, .slice A2 (l2.take (x9_2 : Int).toNat).length c2, .slice Ao26 t176.length co26] (by rfl) rfl rfl (by (try simp only [List.map_toArray, List.map_cons, List.map_nil]); first | done | (rw [show (l2.take (x9_2 : Int).toNat).length = x9_2.toNat from (by rw [List.length_take]; have h_ : (x9_2 : Int) ≤ (l2.length : Int) := of_decide_eq_true aS; omega)] <;> rfl) | rfl | (simp only [List.length_drop, List.length_take]; rfl)) ?_
                 with_reducible refine (spec_l7Version.calls k2 _ _ l0 _ _ (l2.take (x9_2 : Int).toNat) _ _ t176 t179 _ ?side1 ?side2 ?side3 ?side4 ?side5 ?side6 A21.out).mono ?_
                 (case side1 => exact cB HR0 HB)
                 (case side2 => exact HC0.out)
                 (case side3 => exact cB HR173 HB)
                 (case side4 => exact HC173.out)
                 (case side5 => exact cR HO178)
                 (case side6 => exact (Kd.R_reads' HO178.out).2.1)
                 rintro e w27 ⟨v180, rfl, ho0, hb⟩
                 refine ⟨_, rfl, ?_⟩
                 have n0_ := Aside0.mk (Kd.R_elder' (pR HO_8) (Kd.R_base ho0) hb)
                 have n1_ := Aside0.mk (Kd.R_elder' (pR HO178) (Kd.R_base ho0) hb)
                 have n2_ := Aside0.mk (Kd.R_lower (Kd.R_new' (Kd.R_new' ho0 (Kd.R_lt (pR HO_8))) (Kd.R_lt (pR HO178))) (below_size (bB HB)))
                 have n3_ := Aside0.mk (below_step (bB HB) hb)
                 clear HO_8
                 clear HO178
                 clear HB
                 have HO_8 := n0_
                 have HO178 := n1_
                 have HO181 := n2_
                 have HB := n3_
                 clear n0_ n1_ n2_ n3_
                 (try clear hb)
                 (try clear hb2)
                 (try clear hk)
                 (try clear hi)
                 (try clear ho0)
                 refine hK.out _ _ (((HB.out.cell (World.block_lt_of_cell? w _ hw174_0)).trans hw174_0)) (fun hHeld => ?_)
                 clear hK K
                 refine norm_ (a' := ?_) ?_ ?_
                 rotate_left
                 · show Act.put _ (some 50) _ = _
                   simp only [Act.put, List.setIfInBounds_toArray, List.set_cons_zero, List.set_cons_succ, i64_w, i32_w]
                   rfl
                 refine pure_ (i := 13) (N := some 10) (v := ?_) (a' := ?_) #[true, true, true, true, true, true, true, true, true, true, true, true, true, true] rfl rfl (any_of HT_.out (by kernel_rfl)) (fun _ _ _ h => h) (Or.inl ⟨by rfl, ?_⟩) ?_ ?_
                 rotate_left
                 · intro w'
                   go_simp
                   with_reducible rfl
                 rotate_left
                 · exact aP
                 refine done_ (done_of HT_.out (by kernel_rfl)) ?_
                 try go_wp2
                 go_loopg [11, 12] k2 (fun kq v11 v12 w' => ∃ (x11_3 : Int) (x12_3 : Int), v11 = .int .i64 x11_3 ∧ v12 = .int .i64 x12_3 ∧ Aside0 (spec_HalvingPlay.l1 kq l0 a1 l2 x8_2 x9_2 t179 x11_3 x12_3 = some (r1, r2)) ∧ Aside0 (kq ≤ k2) ∧ Aside0 (Kd.R (Kd.int .i64) 3 w' w.heap.size (fun k_ => some k_ ≠ (v180 : Value).ownBlock) u8 x8_2) ∧ Aside0 (Kd.R (Kd.int .i64) 3 w' w.heap.size (fun k_ => some k_ ≠ (u8 : Value).ownBlock) v180 t179) ∧ Aside0 (Below w.heap.size w w'))
                 case atStart => exact ⟨(0), (0), rD, rD, H', ⟨Nat.le_refl _⟩, ⟨by (with_reducible repeat (first | apply Kd.R_alloc | apply Kd.R_drewN | apply Kd.R_drew)); exact Kd.R_mono HO_8.out (fun _ hk => hk.2)⟩, ⟨by (with_reducible repeat (first | apply Kd.R_alloc | apply Kd.R_drewN | apply Kd.R_drew)); exact Kd.R_mono HO181.out (fun _ hk => hk.1.2)⟩, ⟨bB HB⟩⟩
                 case round =>
                  clear H'
                  try clear c2
                  try clear c12
                  try clear c13
                  try clear c13b0
                  try clear c14
                  try clear c14b0
                  try clear c14b1
                  try clear c15
                  try clear c15b0
                  try clear c15b1
                  try clear c16
                  try clear c16b0
                  try clear c17
                  try clear c17b0
                  try clear c18b0
                  try clear c19b0
                  try clear hx174_0
                  try clear p174
                  try clear q174
                  obtain ⟨x11_3, x12_3, rfl, rfl, HA, HK3, HO_8, HO_10, HB⟩ := hrel
                  cases gk with
                  | zero => exact absurd HA.out (by simp [spec_HalvingPlay.l1])
                  | succ k3 =>
                   have H := HA.out
                   clear HA
                   simp only [spec_HalvingPlay.l1] at H
                   by_cases c28 : x12_3 < (t179.length : Int)
                   · rw [if_pos c28] at H
                     have c28b0 : decide (x12_3 < (t179.length : Int)) = true := decide_eq_true c28
                     clear c28
                     by_cases c29 : 0 ≤ x12_3
                     · rw [if_pos c29] at H
                       have c29b0 : decide (0 ≤ x12_3) = true := decide_eq_true c29
                       clear c29
                       by_cases c30 : 0 ≤ (rd t179 x12_3)
                       · rw [if_pos c30] at H
                         have c30b0 : decide (0 ≤ (rd t179 x12_3)) = true := decide_eq_true c30
                         clear c30
                         by_cases c31 : (rd t179 x12_3) < (l0.length : Int)
                         · rw [if_pos c31] at H
                           have c31b0 : decide ((rd t179 x12_3) < (l0.length : Int)) = true := decide_eq_true c31
                           clear c31
                           by_cases c32 : 0 ≤ x9_2
                           · rw [if_pos c32] at H
                             have c32b0 : decide (0 ≤ x9_2) = true := decide_eq_true c32
                             clear c32
                             by_cases c33 : x9_2 < (l2.length : Int)
                             · rw [if_pos c33] at H
                               have c33b0 : decide (x9_2 < (l2.length : Int)) = true := decide_eq_true c33
                               clear c33
                               by_cases c34 : 0 ≤ (rd l2 x9_2)
                               · rw [if_pos c34] at H
                                 have c34b0 : decide (0 ≤ (rd l2 x9_2)) = true := decide_eq_true c34
                                 clear c34
                                 by_cases c35 : (rd l2 x9_2) < ((rd_L1 l0 (rd t179 x12_3)).length : Int)
                                 · rw [if_pos c35] at H
                                   have c35b0 : decide ((rd l2 x9_2) < ((rd_L1 l0 (rd t179 x12_3)).length : Int)) = true := decide_eq_true c35
                                   clear c35
                                   have H' := Aside0.mk H
                                   clear H
                                   obtain ⟨Ao36, co36, eo36⟩ := Kd.R_slice HO_10.out
                                   subst eo36
                                   try go_wp2
                                   have n0_ := Aside0.mk (Kd.R_drew HO_8.out)
                                   have n1_ := Aside0.mk (Kd.R_drew HO_10.out)
                                   have n2_ := Aside0.mk (below_drew1 HB.out)
                                   clear HO_8
                                   clear HO_10
                                   clear HB
                                   have HO_8 := n0_
                                   have HO_10 := n1_
                                   have HB := n2_
                                   clear n0_ n1_ n2_
                                   have p182 : 0 ≤ (x12_3 : Int) := of_decide_eq_true aS
                                   have q182 : x12_3 < (t179.length : Int) := of_decide_eq_true aS
                                   obtain ⟨ad182, e182, hx182_0⟩ := Kd.at_int (Kd.R_reads' HO_10.out).2.2 x12_3 p182 q182
                                   cases e182
                                   replace p182 := eq_true p182
                                   replace q182 := eq_true q182
                                   have p183 : 0 ≤ ((rd t179 x12_3) : Int) := of_decide_eq_true aS
                                   have q183 : (rd t179 x12_3) < (l0.length : Int) := of_decide_eq_true aS
                                   obtain ⟨ad183, A183_0, c183_0, e183, hx183_0, hl183_0, hi183_0⟩ := at_L1 HR0.out (rd t179 x12_3) p183 q183
                                   have hw183_0 := hx183_0
                                   obtain rfl : ad174 = ad183 := (by injection e183)
                                   replace hx183_0 := (HB.out.cell (World.block_lt_of_cell? w _ hx183_0)).trans hx183_0
                                   have HR183_0 := Aside0.mk hi183_0
                                   have HC183_0 := Aside0.mk hl183_0
                                   clear hi183_0 hl183_0
                                   replace p183 := eq_true p183
                                   replace q183 := eq_true q183
                                   have p184 : 0 ≤ (x9_2 : Int) := of_decide_eq_true aS
                                   have q184 : x9_2 < (l2.length : Int) := of_decide_eq_true aS
                                   obtain ⟨ad184, e184, hx184_0⟩ := Kd.at_int HR2.out x9_2 p184 q184
                                   have hw184_0 := hx184_0
                                   cases e184
                                   replace hx184_0 := (HB.out.cell (World.block_lt_of_cell? w _ hx184_0)).trans hx184_0
                                   replace p184 := eq_true p184
                                   replace q184 := eq_true q184
                                   have p185 : 0 ≤ ((rd l2 x9_2) : Int) := of_decide_eq_true aS
                                   have q185 : (rd l2 x9_2) < ((rd_L1 l0 (rd t179 x12_3)).length : Int) := of_decide_eq_true aS
                                   obtain ⟨ad185, e185, hx185_0⟩ := Kd.at_int HR183_0.out (rd l2 x9_2) p185 q185
                                   have hw185_0 := hx185_0
                                   cases e185
                                   replace hx185_0 := (HB.out.cell (World.block_lt_of_cell? w _ hx185_0)).trans hx185_0
                                   replace p185 := eq_true p185
                                   replace q185 := eq_true q185
                                   refine start_ (n := 16) (S := fun w' => w'.cell? (ad182.add (x12_3).toNat) = some (.int .i64 (rd t179 x12_3)) ∧ w'.cell? (ad174.add ((rd t179 x12_3)).toNat) = some (.slice (some ad185) (rd_L1 l0 (rd t179 x12_3)).length c183_0) ∧ w'.cell? (ad184.add (x9_2).toNat) = some (.int .i64 (rd l2 x9_2)) ∧ w'.cell? (ad185.add ((rd l2 x9_2)).toNat) = some (.int .i64 (rd (rd_L1 l0 (rd t179 x12_3)) (rd l2 x9_2)))) (ds := []) #[false, false, false, false, false, false, false, false, false, false, false, false, false, false, false, false] (by kernel_rfl) rfl rfl ⟨hx182_0, ((HB.out.cell (World.block_lt_of_cell? w _ hw183_0)).trans hw183_0), ((HB.out.cell (World.block_lt_of_cell? w _ hw184_0)).trans hw184_0), ((HB.out.cell (World.block_lt_of_cell? w _ hw185_0)).trans hw185_0)⟩ (fun hHeld => ?_); refine with_tabW spec_HalvingPlay.tab12 spec_HalvingPlay.bits12 (fun HT_ HW_ => ?_)
                                   generalize wr.drew = w37 at HO_8 HO_10 HB HR183_0 hx182_0 hx183_0 hx184_0 hx185_0 hHeld ⊢
                                   refine pure_ (i := 0) (N := some 57) (v := ?_) (a' := ?_) #[true, false, false, false, false, false, false, false, false, false, false, false, false, false, false, false] rfl rfl (any_of HT_.out (by kernel_rfl)) (fun _ _ _ h => h) (Or.inl ⟨by rfl, ?_⟩) ?_ ?_
                                   rotate_left
                                   · intro w'
                                     go_simp
                                     with_reducible rfl
                                   rotate_left
                                   · exact aP
                                   refine pure_ (i := 1) (N := some 58) (v := ?_) (a' := ?_) #[true, true, false, false, false, false, false, false, false, false, false, false, false, false, false, false] rfl rfl (any_of HT_.out (by kernel_rfl)) (fun _ _ _ h => h) (Or.inl ⟨by rfl, ?_⟩) ?_ ?_
                                   rotate_left
                                   · intro w'
                                     go_simp
                                     with_reducible rfl
                                   rotate_left
                                   · exact aP
                                   refine pure_ (i := 2) (N := some 59) (v := ?_) (a' := ?_) #[true, true, true, false, false, false, false, false, false, false, false, false, false, false, false, false] rfl rfl (any_of HT_.out (by kernel_rfl)) (fun _ _ _ h => h) (Or.inl ⟨by rfl, ?_⟩) ?_ ?_
                                   rotate_left
                                   · intro w'
                                     go_simp
                                     with_reducible rfl
                                   rotate_left
                                   · exact aP
                                   refine pure_ (i := 3) (N := some 60) (v := ?_) (a' := ?_) #[true, true, true, true, false, false, false, false, false, false, false, false, false, false, false, false] rfl rfl (any_of HT_.out (by kernel_rfl)) (fun _ _ _ h => h) (Or.inl ⟨by rfl, ?_⟩) ?_ ?_
                                   rotate_left
                                   · intro w'
                                     go_simp
                                     with_reducible rfl
                                   rotate_left
                                   · exact aP
                                   refine pure_ (i := 4) (N := some 61) (v := ?_) (a' := ?_) #[true, true, true, true, true, false, false, false, false, false, false, false, false, false, false, false] rfl rfl (any_of HT_.out (by kernel_rfl)) (fun _ _ _ h => h) (Or.inl ⟨by rfl, ?_⟩) ?_ ?_
                                   rotate_left
                                   · intro w'
                                     go_simp
                                     with_reducible rfl
                                   rotate_left
                                   · exact aP
                                   refine pure_ (i := 8) (N := some 65) (v := ?_) (a' := ?_) #[true, true, true, true, true, false, false, false, true, false, false, false, false, false, false, false] rfl rfl (any_of HT_.out (by kernel_rfl)) (fun _ _ _ h => h) (Or.inl ⟨by rfl, ?_⟩) ?_ ?_
                                   rotate_left
                                   · intro w'
                                     go_simp
                                     with_reducible rfl
                                   rotate_left
                                   · exact aP
                                   refine pure_ (i := 9) (N := some 66) (v := ?_) (a' := ?_) #[true, true, true, true, true, false, false, false, true, true, false, false, false, false, false, false] rfl rfl (any_of HT_.out (by kernel_rfl)) (fun _ _ _ h => h) (Or.inl ⟨by rfl, ?_⟩) ?_ ?_
                                   rotate_left
                                   · intro w'
                                     go_simp
                                     with_reducible rfl
                                   rotate_left
                                   · exact aP
                                   refine pure_ (i := 10) (N := some 67) (v := ?_) (a' := ?_) #[true, true, true, true, true, false, false, false, true, true, true, false, false, false, false, false] rfl rfl (any_of HT_.out (by kernel_rfl)) (fun _ _ _ h => h) (Or.inl ⟨by rfl, ?_⟩) ?_ ?_
                                   rotate_left
                                   · intro w'
                                     go_simp
                                     with_reducible rfl
                                   rotate_left
                                   · exact aP
                                   refine take_ (i := 5) (N := some 62) (v := ?_) (a' := ?_) #[true, true, true, true, true, true, false, false, true, true, true, false, false, false, false, false] rfl rfl (take_ofW HT_.out HW_.out (by kernel_rfl)) (fun _ _ _ h => h) (Or.inl ⟨by rfl, ?_⟩) hHeld ?_ ?_
                                   rotate_left
                                   · rintro w' ⟨s0, s1, s2, s3⟩
                                     go_simp
                                     with_reducible rfl
                                   rotate_left
                                   · exact aP
                                   refine pure_ (i := 6) (N := some 63) (v := ?_) (a' := ?_) #[true, true, true, true, true, true, true, false, true, true, true, false, false, false, false, false] rfl rfl (any_of HT_.out (by kernel_rfl)) (fun _ _ _ h => h) (Or.inl ⟨by rfl, ?_⟩) ?_ ?_
                                   rotate_left
                                   · intro w'
                                     go_simp
                                     with_reducible rfl
                                   rotate_left
                                   · exact aP
                                   refine take_ (i := 7) (N := some 64) (v := ?_) (a' := ?_) #[true, true, true, true, true, true, true, true, true, true, true, false, false, false, false, false] rfl rfl (take_ofW HT_.out HW_.out (by kernel_rfl)) (fun _ _ _ h => h) (Or.inl ⟨by rfl, ?_⟩) hHeld ?_ ?_
                                   rotate_left
                                   · rintro w' ⟨s0, s1, s2, s3⟩
                                     go_simp
                                     with_reducible rfl
                                   rotate_left
                                   · exact aP
                                   refine take_ (i := 11) (N := some 68) (v := ?_) (a' := ?_) #[true, true, true, true, true, true, true, true, true, true, true, true, false, false, false, false] rfl rfl (take_ofW HT_.out HW_.out (by kernel_rfl)) (fun _ _ _ h => h) (Or.inl ⟨by rfl, ?_⟩) hHeld ?_ ?_
                                   rotate_left
                                   · rintro w' ⟨s0, s1, s2, s3⟩
                                     go_simp
                                     with_reducible rfl
                                   rotate_left
                                   · exact aP
                                   refine pure_ (i := 12) (N := some 69) (v := ?_) (a' := ?_) #[true, true, true, true, true, true, true, true, true, true, true, true, true, false, false, false] rfl rfl (any_of HT_.out (by kernel_rfl)) (fun _ _ _ h => h) (Or.inl ⟨by rfl, ?_⟩) ?_ ?_
                                   rotate_left
                                   · intro w'
                                     go_simp
                                     with_reducible rfl
                                   rotate_left
                                   · exact aP
                                   refine take_ (i := 13) (N := some 70) (v := ?_) (a' := ?_) #[true, true, true, true, true, true, true, true, true, true, true, true, true, true, false, false] rfl rfl (take_ofW HT_.out HW_.out (by kernel_rfl)) (fun _ _ _ h => h) (Or.inl ⟨by rfl, ?_⟩) hHeld ?_ ?_
                                   rotate_left
                                   · rintro w' ⟨s0, s1, s2, s3⟩
                                     go_simp
                                     with_reducible rfl
                                   rotate_left
                                   · exact aP
                                   refine pure_ (i := 14) (N := some 71) (v := ?_) (a' := ?_) #[true, true, true, true, true, true, true, true, true, true, true, true, true, true, true, false] rfl rfl (any_of HT_.out (by kernel_rfl)) (fun _ _ _ h => h) (Or.inl ⟨by rfl, ?_⟩) ?_ ?_
                                   rotate_left
                                   · intro w'
                                     go_simp
                                     with_reducible rfl
                                   rotate_left
                                   · exact aP
                                   refine pure_ (i := 15) (N := some 11) (v := ?_) (a' := ?_) #[true, true, true, true, true, true, true, true, true, true, true, true, true, true, true, true] rfl rfl (any_of HT_.out (by kernel_rfl)) (fun _ _ _ h => h) (Or.inl ⟨by rfl, ?_⟩) ?_ ?_
                                   rotate_left
                                   · intro w'
                                     go_simp
                                     with_reducible rfl
                                   rotate_left
                                   · exact aP
                                   refine done_ (done_of HT_.out (by kernel_rfl)) ?_
                                   try go_wp2
                                   go_roundg k3
                                   case measure => have := HJ3.out; have := HK2.out; have := HK3.out; omega
                                   case rel => exact ⟨(wrap64 (x11_3 + (rd (rd_L1 l0 (rd t179 x12_3)) (rd l2 x9_2)))), (wrap64 (x12_3 + 1)), rD, rD, H', ⟨by have := HJ3.out; have := HK2.out; have := HK3.out; omega⟩, ⟨pR HO_8⟩, ⟨pR HO_10⟩, ⟨bB HB⟩⟩
                                 · rw [if_neg c35] at H
                                   exact absurd H (by simp)
                               · rw [if_neg c34] at H
                                 exact absurd H (by simp)
                             · rw [if_neg c33] at H
                               exact absurd H (by simp)
                           · rw [if_neg c32] at H
                             exact absurd H (by simp)
                         · rw [if_neg c31] at H
                           exact absurd H (by simp)
                       · rw [if_neg c30] at H
                         exact absurd H (by simp)
                     · rw [if_neg c29] at H
                       exact absurd H (by simp)
                   · rw [if_neg c28] at H
                     have c28b0 : decide (x12_3 < (t179.length : Int)) = false := decide_eq_false c28
                     clear c28
                     by_cases c38 : 0 ≤ a1
                     · rw [if_pos c38] at H
                       have c38b0 : decide (0 ≤ a1) = true := decide_eq_true c38
                       clear c38
                       by_cases c39 : a1 < (l0.length : Int)
                       · rw [if_pos c39] at H
                         have c39b0 : decide (a1 < (l0.length : Int)) = true := decide_eq_true c39
                         clear c39
                         by_cases c40 : 0 ≤ x9_2
                         · rw [if_pos c40] at H
                           have c40b0 : decide (0 ≤ x9_2) = true := decide_eq_true c40
                           clear c40
                           by_cases c41 : x9_2 < (l2.length : Int)
                           · rw [if_pos c41] at H
                             have c41b0 : decide (x9_2 < (l2.length : Int)) = true := decide_eq_true c41
                             clear c41
                             by_cases c42 : 0 ≤ (rd l2 x9_2)
                             · rw [if_pos c42] at H
                               have c42b0 : decide (0 ≤ (rd l2 x9_2)) = true := decide_eq_true c42
                               clear c42
                               by_cases c43 : (rd l2 x9_2) < ((rd_L1 l0 a1).length : Int)
                               · rw [if_pos c43] at H
                                 have c43b0 : decide ((rd l2 x9_2) < ((rd_L1 l0 a1).length : Int)) = true := decide_eq_true c43
                                 clear c43
                                 by_cases c44 : ((decide (x11_3 ≥ 0)) != ((rd (rd_L1 l0 a1) (rd l2 x9_2)) == 1)) = true
                                 · rw [if_pos c44] at H
                                   have c44b0 : ((decide (x11_3 ≥ 0)) != ((rd (rd_L1 l0 a1) (rd l2 x9_2)) == 1)) = true := c44
                                   (try (have c44b1 : decide ((decide (x11_3 ≥ 0)) = ((rd (rd_L1 l0 a1) (rd l2 x9_2)) == 1)) = false := by simpa using c44))
                                   (try (have c44b2 : ((decide (x11_3 ≥ 0)) == ((rd (rd_L1 l0 a1) (rd l2 x9_2)) == 1)) = false := by simpa using c44))
                                   (try (have c44b3 : ¬ ((decide (x11_3 ≥ 0)) = ((rd (rd_L1 l0 a1) (rd l2 x9_2)) == 1)) := by simpa using c44))
                                   clear c44
                                   by_cases c45 : x8_2.length < 17592186044416
                                   · rw [if_pos c45] at H
                                     have LMc45 := Aside0.mk c45
                                     clear c45
                                     obtain ⟨y190, hy190⟩ : ∃ y_ : List Int, y_ = (x8_2 ++ [rd l2 x9_2]) := ⟨_, rfl⟩
                                     replace H : (spec_HalvingPlay.l0 k3 l0 a1 l2 y190 (wrap64 (x9_2 + 1))) = some (r1, r2) := by first | (rw [hy190]; with_reducible exact H) | (have H2_ := (Option.bind_some _ _).symm.trans H; rw [hy190]; with_reducible exact H2_) | (have H2_ := (Option.bind_some _ _).symm.trans H; with_reducible exact H2_) | with_reducible exact H | (rw [hy190]; exact H) | exact H
                                     have Ny190 := Aside0.mk hy190
                                     clear hy190
                                     have H' := Aside0.mk H
                                     clear H
                                     obtain ⟨Ao46, co46, eo46⟩ := Kd.R_slice HO_10.out
                                     subst eo46
                                     try go_wp2
                                     have n0_ := Aside0.mk (Kd.R_drew HO_8.out)
                                     have n1_ := Aside0.mk (Kd.R_drew HO_10.out)
                                     have n2_ := Aside0.mk (below_drew1 HB.out)
                                     clear HO_8
                                     clear HO_10
                                     clear HB
                                     have HO_8 := n0_
                                     have HO_10 := n1_
                                     have HB := n2_
                                     clear n0_ n1_ n2_
                                     have p186 : 0 ≤ (a1 : Int) := of_decide_eq_true aS
                                     have q186 : a1 < (l0.length : Int) := of_decide_eq_true aS
                                     obtain ⟨ad186, A186_0, c186_0, e186, hx186_0, hl186_0, hi186_0⟩ := at_L1 HR0.out a1 p186 q186
                                     have hw186_0 := hx186_0
                                     obtain rfl : ad174 = ad186 := (by injection e186)
                                     replace hx186_0 := (HB.out.cell (World.block_lt_of_cell? w _ hx186_0)).trans hx186_0
                                     have HR186_0 := Aside0.mk hi186_0
                                     have HC186_0 := Aside0.mk hl186_0
                                     clear hi186_0 hl186_0
                                     replace p186 := eq_true p186
                                     replace q186 := eq_true q186
                                     have p187 : 0 ≤ (x9_2 : Int) := of_decide_eq_true aS
                                     have q187 : x9_2 < (l2.length : Int) := of_decide_eq_true aS
                                     obtain ⟨ad187, e187, hx187_0⟩ := Kd.at_int HR2.out x9_2 p187 q187
                                     have hw187_0 := hx187_0
                                     cases e187
                                     replace hx187_0 := (HB.out.cell (World.block_lt_of_cell? w _ hx187_0)).trans hx187_0
                                     replace p187 := eq_true p187
                                     replace q187 := eq_true q187
                                     have p188 : 0 ≤ ((rd l2 x9_2) : Int) := of_decide_eq_true aS
                                     have q188 : (rd l2 x9_2) < ((rd_L1 l0 a1).length : Int) := of_decide_eq_true aS
                                     obtain ⟨ad188, e188, hx188_0⟩ := Kd.at_int HR186_0.out (rd l2 x9_2) p188 q188
                                     have hw188_0 := hx188_0
                                     cases e188
                                     replace hx188_0 := (HB.out.cell (World.block_lt_of_cell? w _ hx188_0)).trans hx188_0
                                     replace p188 := eq_true p188
                                     replace q188 := eq_true q188
                                     refine start_ (n := 14) (S := fun w' => w'.cell? (ad174.add (a1).toNat) = some (.slice (some ad188) (rd_L1 l0 a1).length c186_0) ∧ w'.cell? (ad187.add (x9_2).toNat) = some (.int .i64 (rd l2 x9_2)) ∧ w'.cell? (ad188.add ((rd l2 x9_2)).toNat) = some (.int .i64 (rd (rd_L1 l0 a1) (rd l2 x9_2)))) (ds := []) #[false, false, false, false, false, false, false, false, false, false, false, false, false, false] (by kernel_rfl) rfl rfl ⟨((HB.out.cell (World.block_lt_of_cell? w _ hw186_0)).trans hw186_0), ((HB.out.cell (World.block_lt_of_cell? w _ hw187_0)).trans hw187_0), ((HB.out.cell (World.block_lt_of_cell? w _ hw188_0)).trans hw188_0)⟩ (fun hHeld => ?_); refine with_tabW spec_HalvingPlay.tab13 spec_HalvingPlay.bits13 (fun HT_ HW_ => ?_)
                                     generalize wr.drew = w47 at HO_8 HO_10 HB HR186_0 hx186_0 hx187_0 hx188_0 hHeld ⊢
                                     refine pure_ (i := 0) (N := some 72) (v := ?_) (a' := ?_) #[true, false, false, false, false, false, false, false, false, false, false, false, false, false] rfl rfl (any_of HT_.out (by kernel_rfl)) (fun _ _ _ h => h) (Or.inl ⟨by rfl, ?_⟩) ?_ ?_
                                     rotate_left
                                     · intro w'
                                       go_simp
                                       with_reducible rfl
                                     rotate_left
                                     · exact aP
                                     refine pure_ (i := 1) (N := some 73) (v := ?_) (a' := ?_) #[true, true, false, false, false, false, false, false, false, false, false, false, false, false] rfl rfl (any_of HT_.out (by kernel_rfl)) (fun _ _ _ h => h) (Or.inl ⟨by rfl, ?_⟩) ?_ ?_
                                     rotate_left
                                     · intro w'
                                       go_simp
                                       with_reducible rfl
                                     rotate_left
                                     · exact aP
                                     refine pure_ (i := 2) (N := some 74) (v := ?_) (a' := ?_) #[true, true, true, false, false, false, false, false, false, false, false, false, false, false] rfl rfl (any_of HT_.out (by kernel_rfl)) (fun _ _ _ h => h) (Or.inl ⟨by rfl, ?_⟩) ?_ ?_
                                     rotate_left
                                     · intro w'
                                       go_simp
                                       with_reducible rfl
                                     rotate_left
                                     · exact aP
                                     refine pure_ (i := 3) (N := some 75) (v := ?_) (a' := ?_) #[true, true, true, true, false, false, false, false, false, false, false, false, false, false] rfl rfl (any_of HT_.out (by kernel_rfl)) (fun _ _ _ h => h) (Or.inl ⟨by rfl, ?_⟩) ?_ ?_
                                     rotate_left
                                     · intro w'
                                       go_simp
                                       with_reducible rfl
                                     rotate_left
                                     · exact aP
                                     refine pure_ (i := 4) (N := some 76) (v := ?_) (a' := ?_) #[true, true, true, true, true, false, false, false, false, false, false, false, false, false] rfl rfl (any_of HT_.out (by kernel_rfl)) (fun _ _ _ h => h) (Or.inl ⟨by rfl, ?_⟩) ?_ ?_
                                     rotate_left
                                     · intro w'
                                       go_simp
                                       with_reducible rfl
                                     rotate_left
                                     · exact aP
                                     refine pure_ (i := 6) (N := some 78) (v := ?_) (a' := ?_) #[true, true, true, true, true, false, true, false, false, false, false, false, false, false] rfl rfl (any_of HT_.out (by kernel_rfl)) (fun _ _ _ h => h) (Or.inl ⟨by rfl, ?_⟩) ?_ ?_
                                     rotate_left
                                     · intro w'
                                       go_simp
                                       with_reducible rfl
                                     rotate_left
                                     · exact aP
                                     refine pure_ (i := 7) (N := some 79) (v := ?_) (a' := ?_) #[true, true, true, true, true, false, true, true, false, false, false, false, false, false] rfl rfl (any_of HT_.out (by kernel_rfl)) (fun _ _ _ h => h) (Or.inl ⟨by rfl, ?_⟩) ?_ ?_
                                     rotate_left
                                     · intro w'
                                       go_simp
                                       with_reducible rfl
                                     rotate_left
                                     · exact aP
                                     refine pure_ (i := 8) (N := some 80) (v := ?_) (a' := ?_) #[true, true, true, true, true, false, true, true, true, false, false, false, false, false] rfl rfl (any_of HT_.out (by kernel_rfl)) (fun _ _ _ h => h) (Or.inl ⟨by rfl, ?_⟩) ?_ ?_
                                     rotate_left
                                     · intro w'
                                       go_simp
                                       with_reducible rfl
                                     rotate_left
                                     · exact aP
                                     refine take_ (i := 5) (N := some 77) (v := ?_) (a' := ?_) #[true, true, true, true, true, true, true, true, true, false, false, false, false, false] rfl rfl (take_ofW HT_.out HW_.out (by kernel_rfl)) (fun _ _ _ h => h) (Or.inl ⟨by rfl, ?_⟩) hHeld ?_ ?_
                                     rotate_left
                                     · rintro w' ⟨s0, s1, s2⟩
                                       go_simp
                                       with_reducible rfl
                                     rotate_left
                                     · exact aP
                                     refine take_ (i := 9) (N := some 81) (v := ?_) (a' := ?_) #[true, true, true, true, true, true, true, true, true, true, false, false, false, false] rfl rfl (take_ofW HT_.out HW_.out (by kernel_rfl)) (fun _ _ _ h => h) (Or.inl ⟨by rfl, ?_⟩) hHeld ?_ ?_
                                     rotate_left
                                     · rintro w' ⟨s0, s1, s2⟩
                                       go_simp
                                       with_reducible rfl
                                     rotate_left
                                     · exact aP
                                     refine pure_ (i := 10) (N := some 82) (v := ?_) (a' := ?_) #[true, true, true, true, true, true, true, true, true, true, true, false, false, false] rfl rfl (any_of HT_.out (by kernel_rfl)) (fun _ _ _ h => h) (Or.inl ⟨by rfl, ?_⟩) ?_ ?_
                                     rotate_left
                                     · intro w'
                                       go_simp
                                       with_reducible rfl
                                     rotate_left
                                     · exact aP
                                     refine take_ (i := 11) (N := some 83) (v := ?_) (a' := ?_) #[true, true, true, true, true, true, true, true, true, true, true, true, false, false] rfl rfl (take_ofW HT_.out HW_.out (by kernel_rfl)) (fun _ _ _ h => h) (Or.inl ⟨by rfl, ?_⟩) hHeld ?_ ?_
                                     rotate_left
                                     · rintro w' ⟨s0, s1, s2⟩
                                       go_simp
                                       with_reducible rfl
                                     rotate_left
                                     · exact aP
                                     refine pure_ (i := 12) (N := some 84) (v := ?_) (a' := ?_) #[true, true, true, true, true, true, true, true, true, true, true, true, true, false] rfl rfl (any_of HT_.out (by kernel_rfl)) (fun _ _ _ h => h) (Or.inl ⟨by rfl, ?_⟩) ?_ ?_
                                     rotate_left
                                     · intro w'
                                       go_simp
                                       with_reducible rfl
                                     rotate_left
                                     · exact aP
                                     refine pure_ (i := 13) (N := some 85) (v := ?_) (a' := ?_) #[true, true, true, true, true, true, true, true, true, true, true, true, true, true] rfl rfl (any_of HT_.out (by kernel_rfl)) (fun _ _ _ h => h) (Or.inl ⟨by rfl, ?_⟩) ?_ ?_
                                     rotate_left
                                     · intro w'
                                       go_simp
                                       with_reducible rfl
                                     rotate_left
                                     · exact aP
                                     refine done_ (done_of HT_.out (by kernel_rfl)) ?_
                                     have p189 : 0 ≤ (x9_2 : Int) := of_decide_eq_true aS
                                     have q189 : x9_2 < (l2.length : Int) := of_decide_eq_true aS
                                     obtain ⟨ad189, e189, hx189_0⟩ := Kd.at_int HR2.out x9_2 p189 q189
                                     obtain rfl : ad187 = ad189 := (by injection e189)
                                     replace hx189_0 := (HB.out.cell (World.block_lt_of_cell? w _ hx189_0)).trans hx189_0
                                     replace p189 := eq_true p189
                                     replace q189 := eq_true q189
                                     try go_wp2_with (first | ((with_reducible refine gate_builtin (b := .append) (xs := #[.tmp 86, .tmp 91]) rfl ?_); at_builtin; refine Kd.R_append (Kd.int .i64) (w0 := w) w.heap.size rfl (.tmp 86) (.tmp 91) 22 3 (.int .i64 0) 8 rfl Try.underlying22 info3 rfl (by decide) (by omega) u8 x8_2 (rd l2 x9_2) [.int .i64 (rd l2 x9_2)] (fun k_ => some k_ ≠ (.slice Ao46 t179.length co46 : Value).ownBlock) (fun _ => False) rfl rfl ?aP (fun _ hk => hk.elim) ?aF ?aO ?aB ?aS ?aL ?_; (case aP => exact rfl); (case aB => exact (bB HB)); (case aF => exact (fun k_ hk => Kd.fresh' (Kd.R_lt (pR HO_10)) k_ hk)); (case aO => exact (pR HO_8)); (case aS => exact (below_size (bB HB))); (case aL => have := LMc45.out; omega); intro v191 w48 ho hb hg hat; rw [← Ny190.out] at ho; have n0_ := Aside0.mk (Kd.R_after (ok := (fun _ => True)) (by (with_reducible repeat (first | apply Kd.R_alloc | apply Kd.R_drewN | apply Kd.R_drew)); exact Kd.R_mono HO_10.out (fun _ hk => ⟨trivial, hk⟩)) hg hat); have n1_ := Aside0.mk (hb); have n2_ := Aside0.mk (ho); clear HO_10; clear HB; clear HO_8; have HO_10 := n0_; have HB := n1_; have HO192 := n2_; clear n0_ n1_ n2_; clear ho hb hg hat))
                                     go_roundg k3
                                     case measure => have := HJ3.out; have := HK2.out; have := HK3.out; omega
                                     case rel => exact ⟨(y190), (wrap64 (x9_2 + 1)), rD, H', ⟨by have := HJ3.out; have := HK2.out; have := HK3.out; omega⟩, ⟨by (with_reducible repeat (first | apply Kd.R_alloc | apply Kd.R_drewN | apply Kd.R_drew)); exact Kd.R_mono HO192.out (fun _ hk => trivial)⟩, ⟨bB HB⟩⟩
                                   · rw [if_neg c45] at H
                                     exact absurd H (by simp)
                                 · rw [if_neg c44] at H
                                   have c44b0 : ((decide (x11_3 ≥ 0)) != ((rd (rd_L1 l0 a1) (rd l2 x9_2)) == 1)) = false := by simpa using c44
                                   (try (have c44b1 : decide ((decide (x11_3 ≥ 0)) = ((rd (rd_L1 l0 a1) (rd l2 x9_2)) == 1)) = true := by simpa using c44))
                                   (try (have c44b2 : ((decide (x11_3 ≥ 0)) == ((rd (rd_L1 l0 a1) (rd l2 x9_2)) == 1)) = true := by simpa using c44))
                                   clear c44
                                   have H' := Aside0.mk H
                                   clear H
                                   obtain ⟨Ao49, co49, eo49⟩ := Kd.R_slice HO_10.out
                                   subst eo49
                                   try go_wp2
                                   have n0_ := Aside0.mk (Kd.R_drew HO_8.out)
                                   have n1_ := Aside0.mk (Kd.R_drew HO_10.out)
                                   have n2_ := Aside0.mk (below_drew1 HB.out)
                                   clear HO_8
                                   clear HO_10
                                   clear HB
                                   have HO_8 := n0_
                                   have HO_10 := n1_
                                   have HB := n2_
                                   clear n0_ n1_ n2_
                                   have p186 : 0 ≤ (a1 : Int) := of_decide_eq_true aS
                                   have q186 : a1 < (l0.length : Int) := of_decide_eq_true aS
                                   obtain ⟨ad186, A186_0, c186_0, e186, hx186_0, hl186_0, hi186_0⟩ := at_L1 HR0.out a1 p186 q186
                                   have hw186_0 := hx186_0
                                   obtain rfl : ad174 = ad186 := (by injection e186)
                                   replace hx186_0 := (HB.out.cell (World.block_lt_of_cell? w _ hx186_0)).trans hx186_0
                                   have HR186_0 := Aside0.mk hi186_0
                                   have HC186_0 := Aside0.mk hl186_0
                                   clear hi186_0 hl186_0
                                   replace p186 := eq_true p186
                                   replace q186 := eq_true q186
                                   have p187 : 0 ≤ (x9_2 : Int) := of_decide_eq_true aS
                                   have q187 : x9_2 < (l2.length : Int) := of_decide_eq_true aS
                                   obtain ⟨ad187, e187, hx187_0⟩ := Kd.at_int HR2.out x9_2 p187 q187
                                   have hw187_0 := hx187_0
                                   cases e187
                                   replace hx187_0 := (HB.out.cell (World.block_lt_of_cell? w _ hx187_0)).trans hx187_0
                                   replace p187 := eq_true p187
                                   replace q187 := eq_true q187
                                   have p188 : 0 ≤ ((rd l2 x9_2) : Int) := of_decide_eq_true aS
                                   have q188 : (rd l2 x9_2) < ((rd_L1 l0 a1).length : Int) := of_decide_eq_true aS
                                   obtain ⟨ad188, e188, hx188_0⟩ := Kd.at_int HR186_0.out (rd l2 x9_2) p188 q188
                                   have hw188_0 := hx188_0
                                   cases e188
                                   replace hx188_0 := (HB.out.cell (World.block_lt_of_cell? w _ hx188_0)).trans hx188_0
                                   replace p188 := eq_true p188
                                   replace q188 := eq_true q188
                                   refine start_ (n := 14) (S := fun w' => w'.cell? (ad174.add (a1).toNat) = some (.slice (some ad188) (rd_L1 l0 a1).length c186_0) ∧ w'.cell? (ad187.add (x9_2).toNat) = some (.int .i64 (rd l2 x9_2)) ∧ w'.cell? (ad188.add ((rd l2 x9_2)).toNat) = some (.int .i64 (rd (rd_L1 l0 a1) (rd l2 x9_2)))) (ds := []) #[false, false, false, false, false, false, false, false, false, false, false, false, false, false] (by kernel_rfl) rfl rfl ⟨((HB.out.cell (World.block_lt_of_cell? w _ hw186_0)).trans hw186_0), ((HB.out.cell (World.block_lt_of_cell? w _ hw187_0)).trans hw187_0), ((HB.out.cell (World.block_lt_of_cell? w _ hw188_0)).trans hw188_0)⟩ (fun hHeld => ?_); refine with_tabW spec_HalvingPlay.tab13 spec_HalvingPlay.bits13 (fun HT_ HW_ => ?_)
                                   generalize wr.drew = w50 at HO_8 HO_10 HB HR186_0 hx186_0 hx187_0 hx188_0 hHeld ⊢
                                   refine pure_ (i := 0) (N := some 72) (v := ?_) (a' := ?_) #[true, false, false, false, false, false, false, false, false, false, false, false, false, false] rfl rfl (any_of HT_.out (by kernel_rfl)) (fun _ _ _ h => h) (Or.inl ⟨by rfl, ?_⟩) ?_ ?_
                                   rotate_left
                                   · intro w'
                                     go_simp
                                     with_reducible rfl
                                   rotate_left
                                   · exact aP
                                   refine pure_ (i := 1) (N := some 73) (v := ?_) (a' := ?_) #[true, true, false, false, false, false, false, false, false, false, false, false, false, false] rfl rfl (any_of HT_.out (by kernel_rfl)) (fun _ _ _ h => h) (Or.inl ⟨by rfl, ?_⟩) ?_ ?_
                                   rotate_left
                                   · intro w'
                                     go_simp
                                     with_reducible rfl
                                   rotate_left
                                   · exact aP
                                   refine pure_ (i := 2) (N := some 74) (v := ?_) (a' := ?_) #[true, true, true, false, false, false, false, false, false, false, false, false, false, false] rfl rfl (any_of HT_.out (by kernel_rfl)) (fun _ _ _ h => h) (Or.inl ⟨by rfl, ?_⟩) ?_ ?_
                                   rotate_left
                                   · intro w'
                                     go_simp
                                     with_reducible rfl
                                   rotate_left
                                   · exact aP
                                   refine pure_ (i := 3) (N := some 75) (v := ?_) (a' := ?_) #[true, true, true, true, false, false, false, false, false, false, false, false, false, false] rfl rfl (any_of HT_.out (by kernel_rfl)) (fun _ _ _ h => h) (Or.inl ⟨by rfl, ?_⟩) ?_ ?_
                                   rotate_left
                                   · intro w'
                                     go_simp
                                     with_reducible rfl
                                   rotate_left
                                   · exact aP
                                   refine pure_ (i := 4) (N := some 76) (v := ?_) (a' := ?_) #[true, true, true, true, true, false, false, false, false, false, false, false, false, false] rfl rfl (any_of HT_.out (by kernel_rfl)) (fun _ _ _ h => h) (Or.inl ⟨by rfl, ?_⟩) ?_ ?_
                                   rotate_left
                                   · intro w'
                                     go_simp
                                     with_reducible rfl
                                   rotate_left
                                   · exact aP
                                   refine pure_ (i := 6) (N := some 78) (v := ?_) (a' := ?_) #[true, true, true, true, true, false, true, false, false, false, false, false, false, false] rfl rfl (any_of HT_.out (by kernel_rfl)) (fun _ _ _ h => h) (Or.inl ⟨by rfl, ?_⟩) ?_ ?_
                                   rotate_left
                                   · intro w'
                                     go_simp
                                     with_reducible rfl
                                   rotate_left
                                   · exact aP
                                   refine pure_ (i := 7) (N := some 79) (v := ?_) (a' := ?_) #[true, true, true, true, true, false, true, true, false, false, false, false, false, false] rfl rfl (any_of HT_.out (by kernel_rfl)) (fun _ _ _ h => h) (Or.inl ⟨by rfl, ?_⟩) ?_ ?_
                                   rotate_left
                                   · intro w'
                                     go_simp
                                     with_reducible rfl
                                   rotate_left
                                   · exact aP
                                   refine pure_ (i := 8) (N := some 80) (v := ?_) (a' := ?_) #[true, true, true, true, true, false, true, true, true, false, false, false, false, false] rfl rfl (any_of HT_.out (by kernel_rfl)) (fun _ _ _ h => h) (Or.inl ⟨by rfl, ?_⟩) ?_ ?_
                                   rotate_left
                                   · intro w'
                                     go_simp
                                     with_reducible rfl
                                   rotate_left
                                   · exact aP
                                   refine take_ (i := 5) (N := some 77) (v := ?_) (a' := ?_) #[true, true, true, true, true, true, true, true, true, false, false, false, false, false] rfl rfl (take_ofW HT_.out HW_.out (by kernel_rfl)) (fun _ _ _ h => h) (Or.inl ⟨by rfl, ?_⟩) hHeld ?_ ?_
                                   rotate_left
                                   · rintro w' ⟨s0, s1, s2⟩
                                     go_simp
                                     with_reducible rfl
                                   rotate_left
                                   · exact aP
                                   refine take_ (i := 9) (N := some 81) (v := ?_) (a' := ?_) #[true, true, true, true, true, true, true, true, true, true, false, false, false, false] rfl rfl (take_ofW HT_.out HW_.out (by kernel_rfl)) (fun _ _ _ h => h) (Or.inl ⟨by rfl, ?_⟩) hHeld ?_ ?_
                                   rotate_left
                                   · rintro w' ⟨s0, s1, s2⟩
                                     go_simp
                                     with_reducible rfl
                                   rotate_left
                                   · exact aP
                                   refine pure_ (i := 10) (N := some 82) (v := ?_) (a' := ?_) #[true, true, true, true, true, true, true, true, true, true, true, false, false, false] rfl rfl (any_of HT_.out (by kernel_rfl)) (fun _ _ _ h => h) (Or.inl ⟨by rfl, ?_⟩) ?_ ?_
                                   rotate_left
                                   · intro w'
                                     go_simp
                                     with_reducible rfl
                                   rotate_left
                                   · exact aP
                                   refine take_ (i := 11) (N := some 83) (v := ?_) (a' := ?_) #[true, true, true, true, true, true, true, true, true, true, true, true, false, false] rfl rfl (take_ofW HT_.out HW_.out (by kernel_rfl)) (fun _ _ _ h => h) (Or.inl ⟨by rfl, ?_⟩) hHeld ?_ ?_
                                   rotate_left
                                   · rintro w' ⟨s0, s1, s2⟩
                                     go_simp
                                     with_reducible rfl
                                   rotate_left
                                   · exact aP
                                   refine pure_ (i := 12) (N := some 84) (v := ?_) (a' := ?_) #[true, true, true, true, true, true, true, true, true, true, true, true, true, false] rfl rfl (any_of HT_.out (by kernel_rfl)) (fun _ _ _ h => h) (Or.inl ⟨by rfl, ?_⟩) ?_ ?_
                                   rotate_left
                                   · intro w'
                                     go_simp
                                     with_reducible rfl
                                   rotate_left
                                   · exact aP
                                   refine pure_ (i := 13) (N := some 85) (v := ?_) (a' := ?_) #[true, true, true, true, true, true, true, true, true, true, true, true, true, true] rfl rfl (any_of HT_.out (by kernel_rfl)) (fun _ _ _ h => h) (Or.inl ⟨by rfl, ?_⟩) ?_ ?_
                                   rotate_left
                                   · intro w'
                                     go_simp
                                     with_reducible rfl
                                   rotate_left
                                   · exact aP
                                   refine done_ (done_of HT_.out (by kernel_rfl)) ?_
                                   try go_wp2
                                   go_roundg k3
                                   case measure => have := HJ3.out; have := HK2.out; have := HK3.out; omega
                                   case rel => exact ⟨(x8_2), (wrap64 (x9_2 + 1)), rD, H', ⟨by have := HJ3.out; have := HK2.out; have := HK3.out; omega⟩, ⟨by (with_reducible repeat (first | apply Kd.R_alloc | apply Kd.R_drewN | apply Kd.R_drew)); exact Kd.R_mono HO_8.out (fun _ hk => trivial)⟩, ⟨bB HB⟩⟩
                               · rw [if_neg c43] at H
                                 exact absurd H (by simp)
                             · rw [if_neg c42] at H
                               exact absurd H (by simp)
                           · rw [if_neg c41] at H
                             exact absurd H (by simp)
                         · rw [if_neg c40] at H
                           exact absurd H (by simp)
                       · rw [if_neg c39] at H
                         exact absurd H (by simp)
                     · rw [if_neg c38] at H
                       exact absurd H (by simp)
               · rw [if_neg c17] at H
                 exact absurd H (by simp)
             · rw [if_neg c16] at H
               exact absurd H (by simp)
           · rw [if_neg c15] at H
             exact absurd H (by simp)
         · rw [if_neg c14] at H
           exact absurd H (by simp)
       · rw [if_neg c13] at H
         have c13b0 : decide (x9_2 < (l2.length : Int)) = false := decide_eq_false c13
         clear c13
         simp only [Option.some.injEq, Prod.mk.injEq] at H
         obtain ⟨rfl, rfl⟩ := H
         go_wp2
         go_ret2
         exact ⟨_, eW, by (with_reducible repeat (first | apply Kd.R_alloc | apply Kd.R_drewN | apply Kd.R_drew)); exact HO_8.out, bB HB⟩

end Go.Proofs.Ytfkfahdikmfpeaa.PFnExactHalvingPlay
