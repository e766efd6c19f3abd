-- Printed by wip/tools/myprint.py (the printer of the kit, patched by that program; roots chosen by it)
import Derived.Test.YtfkfahdikmfpeaaPFnExactHalvingPlayx0
import Derived.Test.YtfkfahdikmfpeaaSh
namespace Go.Proofs.Ytfkfahdikmfpeaa.PFnExactHalvingPlay
open Go.RowKit Go.Proofs.Ytfkfahdikmfpeaa.Sh Go.Proofs.YtfkfahdikmfpeaaW.PrintWords Go.Proofs.YtfkfahdikmfpeaaW.PrintLast Go.Proofs.YtfkfahdikmfpeaaW.PrintMore
attribute [local go_sem] max2_int min2_int max_two min_two max_three min_three max_four min_four   -- for this text's walks alone
set_option linter.unusedVariables false
set_option linter.unusedSimpArgs false

/-! ### impl_copied: function 81 -/
def impl_copied.f (l0 : List Int) : Option (List Int) := (some (([] : List Int) : List Int)).bind fun y193 => (if y193.length + l0.length < 17592186044416 then (some (y193 ++ l0)) else (none))
set_option maxHeartbeats 8000000 in
set_option maxRecDepth 100000 in
theorem impl_copied.calls (A0 : Option Addr) (c0 : Nat) (l0 : List Int) (r : List Int) (w : World) (hr0 : Kd.C (Kd.int .i64) w A0 l0.length l0) (hc0 : l0.length ≤ c0) (h : impl_copied.f l0 = some r) :
 Calls Try.prog 81 #[.slice A0 l0.length c0] w fun e w' => ∃ v0_ : Value, e = .returned (v0_) ∧ Kd.R (Kd.int .i64) 3 w' w.heap.size (fun _ => True) v0_ r ∧ Below w.heap.size w w' := by
 have HR0 := Aside0.mk hr0
 have HC0 := Aside0.mk hc0
 clear hr0 hc0
 have HB := Aside0.mk (Below.refl w.heap.size w)
 have H : ((some (([] : List Int) : List Int)).bind fun y193 => (if y193.length + l0.length < 17592186044416 then (some (y193 ++ l0)) else (none))) = some r := h
 clear h
 obtain ⟨y193, hy193⟩ : ∃ y_ : List Int, y_ = (([] : List Int)) := ⟨_, rfl⟩
 replace H : (if y193.length + l0.length < 17592186044416 then (some (y193 ++ l0)) else (none)) = some r := by first | (rw [hy193]; with_reducible exact H) | (have H2_ := (Option.bind_some _ _).symm.trans H; rw [hy193]; with_reducible exact H2_) | (have H2_ := (Option.bind_some _ _).symm.trans H; with_reducible exact H2_) | with_reducible exact H | (rw [hy193]; exact H) | exact H
 have Ny193 := Aside0.mk hy193
 clear hy193
 by_cases c2 : y193.length + l0.length < 17592186044416
 · rw [if_pos c2] at H
   have LMc2 := Aside0.mk c2
   clear c2
   obtain ⟨y196, hy196⟩ : ∃ y_ : List Int, y_ = (y193 ++ l0) := ⟨_, rfl⟩
   replace H : (some y196) = some r := by first | (rw [hy196]; with_reducible exact H) | (have H2_ := (Option.bind_some _ _).symm.trans H; rw [hy196]; with_reducible exact H2_) | (have H2_ := (Option.bind_some _ _).symm.trans H; with_reducible exact H2_) | with_reducible exact H | (rw [hy196]; exact H) | exact H
   have Ny196 := Aside0.mk hy196
   clear hy196
   obtain rfl := Option.some.inj H
   go_enter Try.func81, Try.ntmps81
   go_wp2_with (first | ((with_reducible refine gate_dst (N := 3) rfl ?_); refine Kd.R_lit (Kd.int .i64) _ 3 ?hg (N := 3) ?hd (xs := ([] : List Int)) (inner := []) (ok := fun _ => True) (okp := fun _ => True) ?hr ?hp (fun _ hk => hk) trivial (Below.refl _ _) (Nat.le_refl _) (by simp) ?_; (case hd => rfl); (case hg => rfl); (case hr => first | (go_simp; done) | (go_simp; rfl)); (case hp => exact (Reps.none _ _)); intro v194 w3 ho4 hb hg_ hnew_; clear hg_ hnew_; (first | rw [← Ny193.out] at ho4 | (simp only [Int.reduceToNat] at ho4; rw [← Ny193.out] at ho4)); have n0_ := Aside0.mk (Kd.R_lower ho4 (below_size (bB HB))); have n1_ := Aside0.mk (below_step (bB HB) hb); clear HB; have HO195 := n0_; have HB := n1_; clear n0_ n1_; clear hb ho4) | ((with_reducible refine gate_builtin (b := .append) (xs := #[.tmp 3, .tmp 4]) rfl ?_); at_builtin; refine Kd.R_append_rows (Kd.int .i64) (w0 := w) w.heap.size rfl (.tmp 3) (.tmp 4) 22 3 (.int .i64 0) 8 rfl Try.underlying22 info3 rfl (by decide) (by omega) v194 y193 l0 _ _ _ (fun _ => True) (fun _ => False) rfl rfl ?aO ?aR (fun _ _ h => h) (fun _ h => h.elim) ?aF ?aB ?aS ?aL ?_; (case aR => exact cB HR0 HB); (case aB => exact (bB HB)); (case aF => exact (fun _ _ => trivial)); (case aO => exact (pR HO195)); (case aS => exact (below_size (bB HB))); (case aL => have := LMc2.out; omega); intro v197 w5 ho hb hg hat; rw [← Ny196.out] at ho; have n0_ := Aside0.mk (hb); have n1_ := Aside0.mk (ho); clear HB; clear HO195; have HB := n0_; have HO198 := n1_; clear n0_ n1_; clear ho hb hg hat))
   go_ret
   exact ⟨_, eW, by (with_reducible repeat (first | apply Kd.R_alloc | apply Kd.R_drewN | apply Kd.R_drew)); exact HO198.out, bB HB⟩
 · rw [if_neg c2] at H
   exact absurd H (by simp)

/-! ### impl_within: function 93 -/
def impl_within.f (a0 : Int) (a1 : Int) (a2 : Int) : Option (Bool) := if a0 ≥ a1 then (some (decide (a0 ≤ a2))) else (some false)
set_option maxHeartbeats 8000000 in
set_option maxRecDepth 100000 in
theorem impl_within.calls (a0 : Int) (a1 : Int) (a2 : Int) (r : Bool) (w : World) (h : impl_within.f a0 a1 a2 = some r) :
 Calls Try.prog 93 #[.int .i64 a0, .int .i64 a1, .int .i64 a2] w fun e w' => e = .returned (.bool r) ∧ Drawn0 w w' := by
 have H : (if a0 ≥ a1 then (some (decide (a0 ≤ a2))) else (some false)) = some r := h
 clear h
 by_cases c4 : a0 ≥ a1
 · rw [if_pos c4] at H
   have c4b0 : decide (a1 ≤ a0) = true := decide_eq_true c4
   clear c4
   obtain rfl := Option.some.inj H
   go_enter Try.func93, Try.ntmps93
   go_wp2
   go_ret
   exact ⟨rD, by repeat (first | exact Drawn0.refl _ | apply Drawn0.step)⟩
 · rw [if_neg c4] at H
   have c4b0 : decide (a1 ≤ a0) = false := decide_eq_false c4
   clear c4
   obtain rfl := Option.some.inj H
   go_enter Try.func93, Try.ntmps93
   go_wp2
   go_ret
   exact ⟨rD, by repeat (first | exact Drawn0.refl _ | apply Drawn0.step)⟩

/-! ### cmp_isNaN_int: function 214 -/
def cmp_isNaN_int.f (a0 : Int) : Option (Bool) := some (a0 != a0)
set_option maxHeartbeats 8000000 in
set_option maxRecDepth 100000 in
theorem cmp_isNaN_int.calls (a0 : Int) (r : Bool) (w : World) (h : cmp_isNaN_int.f a0 = some r) :
 Calls Try.prog 214 #[.int .i64 a0] w fun e w' => e = .returned (.bool r) ∧ Drawn0 w w' := by
 have H : (some (a0 != a0)) = some r := h
 clear h
 obtain rfl := Option.some.inj H
 go_enter Try.func214, Try.ntmps214
 go_wp2
 go_ret
 exact ⟨rD, by repeat (first | exact Drawn0.refl _ | apply Drawn0.step)⟩

/-! ### cmp_Compare_int: function 181 -/
def cmp_Compare_int.f (a0 : Int) (a1 : Int) : Option (Int) := (cmp_isNaN_int.f a0).bind fun t199 => ((cmp_isNaN_int.f a1).bind fun t200 => (if t199 = true then (if t200 = true then (some 0) else (some (-1))) else (if t200 = true then (some 1) else (if a0 < a1 then (some (-1)) else (if a0 > a1 then (some 1) else (some 0))))))
set_option maxHeartbeats 8000000 in
set_option maxRecDepth 100000 in
theorem cmp_Compare_int.calls (a0 : Int) (a1 : Int) (r : Int) (w : World) (h : cmp_Compare_int.f a0 a1 = some r) :
 Calls Try.prog 181 #[.int .i64 a0, .int .i64 a1] w fun e w' => e = .returned (.int .i64 r) ∧ Drawn0 w w' := by
 have H : ((cmp_isNaN_int.f a0).bind fun t199 => ((cmp_isNaN_int.f a1).bind fun t200 => (if t199 = true then (if t200 = true then (some 0) else (some (-1))) else (if t200 = true then (some 1) else (if a0 < a1 then (some (-1)) else (if a0 > a1 then (some 1) else (some 0))))))) = some r := h
 clear h
 replace H := Option.bind_eq_some_iff.mp H
 obtain ⟨t199, A30, H⟩ := H
 replace H : ((cmp_isNaN_int.f a1).bind fun t200 => (if t199 = true then (if t200 = true then (some 0) else (some (-1))) else (if t200 = true then (some 1) else (if a0 < a1 then (some (-1)) else (if a0 > a1 then (some 1) else (some 0)))))) = some r := H
 have A3 := Aside0.mk A30
 clear A30
 replace H := Option.bind_eq_some_iff.mp H
 obtain ⟨t200, A40, H⟩ := H
 replace H : (if t199 = true then (if t200 = true then (some 0) else (some (-1))) else (if t200 = true then (some 1) else (if a0 < a1 then (some (-1)) else (if a0 > a1 then (some 1) else (some 0))))) = some r := H
 have A4 := Aside0.mk A40
 clear A40
 by_cases c5 : t199 = true
 · subst c5
   have H1 : (if t200 = true then (some 0) else (some (-1))) = some r := by rw [if_pos rfl] at H; exact H
   clear H
   have H := H1
   clear H1
   by_cases c6 : t200 = true
   · subst c6
     have H1 : (some 0) = some r := by rw [if_pos rfl] at H; exact H
     clear H
     have H := H1
     clear H1
     obtain rfl := Option.some.inj H
     go_enter Try.func181, Try.ntmps181
     go_wp2_with (first | ((with_reducible refine gate_callee (f := 214) rfl ?_); refine goesL_ (some 8) rfl rfl Try.func214 (by kernel_rfl) rfl #[.int .i64 a0] rfl aT ?_; (with_reducible refine (cmp_isNaN_int.calls a0 true _ A3.out).mono ?_); rintro e w' ⟨rfl, ⟨nd, rfl⟩⟩; refine ⟨_, rfl, ?_⟩) | ((with_reducible refine gate_callee (f := 214) rfl ?_); refine goesL_ (some 10) rfl rfl Try.func214 (by kernel_rfl) rfl #[.int .i64 a1] rfl aT ?_; (with_reducible refine (cmp_isNaN_int.calls a1 true _ A4.out).mono ?_); rintro e w' ⟨rfl, ⟨nd, rfl⟩⟩; refine ⟨_, rfl, ?_⟩))
     go_ret
     exact ⟨rD, by repeat (first | exact Drawn0.refl _ | apply Drawn0.step)⟩
   · replace c6 := Bool.eq_false_iff.mpr c6
     subst c6
     have H1 : (some (-1)) = some r := by rw [if_neg (show ¬ (false = true) by decide)] at H; exact H
     clear H
     have H := H1
     clear H1
     obtain rfl := Option.some.inj H
     go_enter Try.func181, Try.ntmps181
     go_wp2_with (first | ((with_reducible refine gate_callee (f := 214) rfl ?_); refine goesL_ (some 8) rfl rfl Try.func214 (by kernel_rfl) rfl #[.int .i64 a0] rfl aT ?_; (with_reducible refine (cmp_isNaN_int.calls a0 true _ A3.out).mono ?_); rintro e w' ⟨rfl, ⟨nd, rfl⟩⟩; refine ⟨_, rfl, ?_⟩) | ((with_reducible refine gate_callee (f := 214) rfl ?_); refine goesL_ (some 10) rfl rfl Try.func214 (by kernel_rfl) rfl #[.int .i64 a1] rfl aT ?_; (with_reducible refine (cmp_isNaN_int.calls a1 false _ A4.out).mono ?_); rintro e w' ⟨rfl, ⟨nd, rfl⟩⟩; refine ⟨_, rfl, ?_⟩))
     go_ret
     exact ⟨rD, by repeat (first | exact Drawn0.refl _ | apply Drawn0.step)⟩
 · replace c5 := Bool.eq_false_iff.mpr c5
   subst c5
   have H1 : (if t200 = true then (some 1) else (if a0 < a1 then (some (-1)) else (if a0 > a1 then (some 1) else (some 0)))) = some r := by rw [if_neg (show ¬ (false = true) by decide)] at H; exact H
   clear H
   have H := H1
   clear H1
   by_cases c7 : t200 = true
   · subst c7
     have H1 : (some 1) = some r := by rw [if_pos rfl] at H; exact H
     clear H
     have H := H1
     clear H1
     obtain rfl := Option.some.inj H
     go_enter Try.func181, Try.ntmps181
     go_wp2_with (first | ((with_reducible refine gate_callee (f := 214) rfl ?_); refine goesL_ (some 8) rfl rfl Try.func214 (by kernel_rfl) rfl #[.int .i64 a0] rfl aT ?_; (with_reducible refine (cmp_isNaN_int.calls a0 false _ A3.out).mono ?_); rintro e w' ⟨rfl, ⟨nd, rfl⟩⟩; refine ⟨_, rfl, ?_⟩) | ((with_reducible refine gate_callee (f := 214) rfl ?_); refine goesL_ (some 10) rfl rfl Try.func214 (by kernel_rfl) rfl #[.int .i64 a1] rfl aT ?_; (with_reducible refine (cmp_isNaN_int.calls a1 true _ A4.out).mono ?_); rintro e w' ⟨rfl, ⟨nd, rfl⟩⟩; refine ⟨_, rfl, ?_⟩))
     go_ret
     exact ⟨rD, by repeat (first | exact Drawn0.refl _ | apply Drawn0.step)⟩
   · replace c7 := Bool.eq_false_iff.mpr c7
     subst c7
     have H1 : (if a0 < a1 then (some (-1)) else (if a0 > a1 then (some 1) else (some 0))) = some r := by rw [if_neg (show ¬ (false = true) by decide)] at H; exact H
     clear H
     have H := H1
     clear H1
     by_cases c8 : a0 < a1
     · rw [if_pos c8] at H
       have c8b0 : decide (a0 < a1) = true := decide_eq_true c8
       clear c8
       obtain rfl := Option.some.inj H
       go_enter Try.func181, Try.ntmps181
       go_wp2_with (first | ((with_reducible refine gate_callee (f := 214) rfl ?_); refine goesL_ (some 8) rfl rfl Try.func214 (by kernel_rfl) rfl #[.int .i64 a0] rfl aT ?_; (with_reducible refine (cmp_isNaN_int.calls a0 false _ A3.out).mono ?_); rintro e w' ⟨rfl, ⟨nd, rfl⟩⟩; refine ⟨_, rfl, ?_⟩) | ((with_reducible refine gate_callee (f := 214) rfl ?_); refine goesL_ (some 10) rfl rfl Try.func214 (by kernel_rfl) rfl #[.int .i64 a1] rfl aT ?_; (with_reducible refine (cmp_isNaN_int.calls a1 false _ A4.out).mono ?_); rintro e w' ⟨rfl, ⟨nd, rfl⟩⟩; refine ⟨_, rfl, ?_⟩))
       go_ret
       exact ⟨rD, by repeat (first | exact Drawn0.refl _ | apply Drawn0.step)⟩
     · rw [if_neg c8] at H
       have c8b0 : decide (a0 < a1) = false := decide_eq_false c8
       clear c8
       by_cases c9 : a0 > a1
       · rw [if_pos c9] at H
         have c9b0 : decide (a1 < a0) = true := decide_eq_true c9
         clear c9
         obtain rfl := Option.some.inj H
         go_enter Try.func181, Try.ntmps181
         go_wp2_with (first | ((with_reducible refine gate_callee (f := 214) rfl ?_); refine goesL_ (some 8) rfl rfl Try.func214 (by kernel_rfl) rfl #[.int .i64 a0] rfl aT ?_; (with_reducible refine (cmp_isNaN_int.calls a0 false _ A3.out).mono ?_); rintro e w' ⟨rfl, ⟨nd, rfl⟩⟩; refine ⟨_, rfl, ?_⟩) | ((with_reducible refine gate_callee (f := 214) rfl ?_); refine goesL_ (some 10) rfl rfl Try.func214 (by kernel_rfl) rfl #[.int .i64 a1] rfl aT ?_; (with_reducible refine (cmp_isNaN_int.calls a1 false _ A4.out).mono ?_); rintro e w' ⟨rfl, ⟨nd, rfl⟩⟩; refine ⟨_, rfl, ?_⟩))
         go_ret
         exact ⟨rD, by repeat (first | exact Drawn0.refl _ | apply Drawn0.step)⟩
       · rw [if_neg c9] at H
         have c9b0 : decide (a1 < a0) = false := decide_eq_false c9
         clear c9
         obtain rfl := Option.some.inj H
         go_enter Try.func181, Try.ntmps181
         go_wp2_with (first | ((with_reducible refine gate_callee (f := 214) rfl ?_); refine goesL_ (some 8) rfl rfl Try.func214 (by kernel_rfl) rfl #[.int .i64 a0] rfl aT ?_; (with_reducible refine (cmp_isNaN_int.calls a0 false _ A3.out).mono ?_); rintro e w' ⟨rfl, ⟨nd, rfl⟩⟩; refine ⟨_, rfl, ?_⟩) | ((with_reducible refine gate_callee (f := 214) rfl ?_); refine goesL_ (some 10) rfl rfl Try.func214 (by kernel_rfl) rfl #[.int .i64 a1] rfl aT ?_; (with_reducible refine (cmp_isNaN_int.calls a1 false _ A4.out).mono ?_); rintro e w' ⟨rfl, ⟨nd, rfl⟩⟩; refine ⟨_, rfl, ?_⟩))
         go_ret
         exact ⟨rD, by repeat (first | exact Drawn0.refl _ | apply Drawn0.step)⟩

/-! ### slices_Compare_int_int: function 142 -/
def slices_Compare_int_int.l0 : Nat → List Int → List Int → List Int → Int → Int → Option (Int)
 | 0, _, _, _, _, _ => none
 | k + 1, x0, x1, x9, x10, x11 => if x11 < x10 then (if 0 ≤ x11 then (if x11 < (x9.length : Int) then (if x11 ≥ (x1.length : Int) then (some 1) else (if x11 < (x1.length : Int) then ((cmp_Compare_int.f (rd x9 x11) (rd x1 x11)).bind fun t203 => (if t203 = 0 then (slices_Compare_int_int.l0 k x0 x1 x9 x10 (wrap64 (x11 + 1))) else (some t203))) else (none))) else (none)) else (none)) else (if (x0.length : Int) < (x1.length : Int) then (some (-1)) else (some 0))
def slices_Compare_int_int.f (k : Nat) (l0 : List Int) (l1 : List Int) : Option (Int) := slices_Compare_int_int.l0 k l0 l1 l0 (l0.length : Int) 0
set_option maxHeartbeats 8000000 in
set_option maxRecDepth 100000 in
theorem slices_Compare_int_int.calls (k : Nat) (A0 : Option Addr) (c0 : Nat) (l0 : List Int) (A1 : Option Addr) (c1 : Nat) (l1 : List Int) (r : Int) (w : World) (hr0 : Kd.C (Kd.int .i64) w A0 l0.length l0) (hc0 : l0.length ≤ c0) (hr1 : Kd.C (Kd.int .i64) w A1 l1.length l1) (hc1 : l1.length ≤ c1) (h : slices_Compare_int_int.f k l0 l1 = some r) :
 Calls Try.prog 142 #[.slice A0 l0.length c0, .slice A1 l1.length c1] w fun e w' => e = .returned (.int .i64 r) ∧ Drawn0 w w' := by
 have HR0 := Aside0.mk hr0
 have HC0 := Aside0.mk hc0
 clear hr0 hc0
 have HR1 := Aside0.mk hr1
 have HC1 := Aside0.mk hc1
 clear hr1 hc1
 have H : (slices_Compare_int_int.l0 k l0 l1 l0 (l0.length : Int) 0) = some r := h
 clear h
 have H' := Aside0.mk H
 clear H
 go_enter Try.func142, Try.ntmps142
 go_wp2
 go_loopg [11] k (fun kq v11 w' => ∃ (x11_1 : Int), v11 = .int .i64 x11_1 ∧ Aside0 (slices_Compare_int_int.l0 kq l0 l1 l0 (l0.length : Int) x11_1 = some r) ∧ Aside0 (kq ≤ k) ∧ Drawn0 w w')
 case atStart => exact ⟨(0), rD, H', ⟨Nat.le_refl _⟩, by repeat (first | exact Drawn0.refl _ | apply Drawn0.step)⟩
 case round =>
  clear H'
  try clear c1
  obtain ⟨x11_1, rfl, HA, HK1, ⟨m1, rfl⟩⟩ := hrel
  cases gk with
  | zero => exact absurd HA.out (by simp [slices_Compare_int_int.l0])
  | succ k1 =>
   have H := HA.out
   clear HA
   simp only [slices_Compare_int_int.l0] at H
   by_cases c3 : x11_1 < (l0.length : Int)
   · rw [if_pos c3] at H
     have c3b0 : decide (x11_1 < (l0.length : Int)) = true := decide_eq_true c3
     clear c3
     by_cases c4 : 0 ≤ x11_1
     · rw [if_pos c4] at H
       have c4b0 : decide (0 ≤ x11_1) = true := decide_eq_true c4
       clear c4
       by_cases c5 : x11_1 < (l0.length : Int)
       · rw [if_pos c5] at H
         have c5b0 : decide (x11_1 < (l0.length : Int)) = true := decide_eq_true c5
         clear c5
         by_cases c6 : x11_1 ≥ (l1.length : Int)
         · rw [if_pos c6] at H
           have c6b0 : decide ((l1.length : Int) ≤ x11_1) = true := decide_eq_true c6
           clear c6
           obtain rfl := Option.some.inj H
           have p201 : 0 ≤ (x11_1 : Int) := of_decide_eq_true aS
           have q201 : x11_1 < (l0.length : Int) := of_decide_eq_true aS
           obtain ⟨ad201, e201, hx201_0⟩ := Kd.at_int HR0.out x11_1 p201 q201
           cases e201
           replace p201 := eq_true p201
           replace q201 := eq_true q201
           go_wp2
           go_ret
           exact ⟨rD, by repeat (first | exact Drawn0.refl _ | apply Drawn0.step)⟩
         · rw [if_neg c6] at H
           have c6b0 : decide ((l1.length : Int) ≤ x11_1) = false := decide_eq_false c6
           clear c6
           by_cases c7 : x11_1 < (l1.length : Int)
           · rw [if_pos c7] at H
             have c7b0 : decide (x11_1 < (l1.length : Int)) = true := decide_eq_true c7
             clear c7
             replace H := Option.bind_eq_some_iff.mp H
             obtain ⟨t203, A80, H⟩ := H
             replace H : (if t203 = 0 then (slices_Compare_int_int.l0 k1 l0 l1 l0 (l0.length : Int) (wrap64 (x11_1 + 1))) else (some t203)) = some r := H
             have A8 := Aside0.mk A80
             clear A80
             by_cases c9 : t203 = 0
             · rw [if_pos c9] at H
               have c9b0 : (t203 == 0) = true := beq_iff_eq.mpr c9
               have c9b1 : (t203 != 0) = false := bne_eq_false_iff_eq.mpr c9
               clear c9
               have H' := Aside0.mk H
               clear H
               have p201 : 0 ≤ (x11_1 : Int) := of_decide_eq_true aS
               have q201 : x11_1 < (l0.length : Int) := of_decide_eq_true aS
               obtain ⟨ad201, e201, hx201_0⟩ := Kd.at_int HR0.out x11_1 p201 q201
               cases e201
               replace p201 := eq_true p201
               replace q201 := eq_true q201
               have p202 : 0 ≤ (x11_1 : Int) := of_decide_eq_true aS
               have q202 : x11_1 < (l1.length : Int) := of_decide_eq_true aS
               obtain ⟨ad202, e202, hx202_0⟩ := Kd.at_int HR1.out x11_1 p202 q202
               cases e202
               replace p202 := eq_true p202
               replace q202 := eq_true q202
               go_wp2_with (first | ((with_reducible refine gate_callee (f := 181) rfl ?_); refine goesL_ (some 26) rfl rfl Try.func181 (by kernel_rfl) rfl #[.int .i64 (rd l0 x11_1), .int .i64 (rd l1 x11_1)] rfl aT ?_; (with_reducible refine (cmp_Compare_int.calls (rd l0 x11_1) (rd l1 x11_1) t203 _ A8.out).mono ?_); rintro e w' ⟨rfl, ⟨nd, rfl⟩⟩; refine ⟨_, rfl, ?_⟩))
               go_roundg k1
               case measure => have := HK1.out; omega
               case rel => exact ⟨(wrap64 (x11_1 + 1)), rD, H', ⟨by have := HK1.out; omega⟩, by repeat (first | exact Drawn0.refl _ | apply Drawn0.step)⟩
             · rw [if_neg c9] at H
               have c9b0 : (t203 == 0) = false := beq_eq_false_iff_ne.mpr c9
               have c9b1 : (t203 != 0) = true := bne_iff_ne.mpr c9
               obtain rfl := Option.some.inj H
               have p201 : 0 ≤ (x11_1 : Int) := of_decide_eq_true aS
               have q201 : x11_1 < (l0.length : Int) := of_decide_eq_true aS
               obtain ⟨ad201, e201, hx201_0⟩ := Kd.at_int HR0.out x11_1 p201 q201
               cases e201
               replace p201 := eq_true p201
               replace q201 := eq_true q201
               have p202 : 0 ≤ (x11_1 : Int) := of_decide_eq_true aS
               have q202 : x11_1 < (l1.length : Int) := of_decide_eq_true aS
               obtain ⟨ad202, e202, hx202_0⟩ := Kd.at_int HR1.out x11_1 p202 q202
               cases e202
               replace p202 := eq_true p202
               replace q202 := eq_true q202
               go_wp2_with (first | ((with_reducible refine gate_callee (f := 181) rfl ?_); refine goesL_ (some 26) rfl rfl Try.func181 (by kernel_rfl) rfl #[.int .i64 (rd l0 x11_1), .int .i64 (rd l1 x11_1)] rfl aT ?_; (with_reducible refine (cmp_Compare_int.calls (rd l0 x11_1) (rd l1 x11_1) t203 _ A8.out).mono ?_); rintro e w' ⟨rfl, ⟨nd, rfl⟩⟩; refine ⟨_, rfl, ?_⟩))
               go_ret
               exact ⟨rD, by repeat (first | exact Drawn0.refl _ | apply Drawn0.step)⟩
           · rw [if_neg c7] at H
             exact absurd H (by simp)
       · rw [if_neg c5] at H
         exact absurd H (by simp)
     · rw [if_neg c4] at H
       exact absurd H (by simp)
   · rw [if_neg c3] at H
     have c3b0 : decide (x11_1 < (l0.length : Int)) = false := decide_eq_false c3
     clear c3
     by_cases c10 : (l0.length : Int) < (l1.length : Int)
     · rw [if_pos c10] at H
       have c10b0 : decide ((l0.length : Int) < (l1.length : Int)) = true := decide_eq_true c10
       have c10b1 : decide (l0.length < l1.length) = true := decide_eq_true (Int.ofNat_lt.mp c10)
       clear c10
       obtain rfl := Option.some.inj H
       go_wp2
       go_ret
       exact ⟨rD, by repeat (first | exact Drawn0.refl _ | apply Drawn0.step)⟩
     · rw [if_neg c10] at H
       have c10b0 : decide ((l0.length : Int) < (l1.length : Int)) = false := decide_eq_false c10
       have c10b1 : decide (l0.length < l1.length) = false := decide_eq_false (fun h => c10 (Int.ofNat_lt.mpr h))
       clear c10
       obtain rfl := Option.some.inj H
       go_wp2
       go_ret
       exact ⟨rD, by repeat (first | exact Drawn0.refl _ | apply Drawn0.step)⟩

/-! ### impl_isLabel: function 195 -/
def impl_isLabel.f (a0 : Int) : Option (Bool) := if a0 = 1 then (some true) else (some (a0 == (-1)))
set_option maxHeartbeats 8000000 in
set_option maxRecDepth 100000 in
theorem impl_isLabel.calls (a0 : Int) (r : Bool) (w : World) (h : impl_isLabel.f a0 = some r) :
 Calls Try.prog 195 #[.int .i64 a0] w fun e w' => e = .returned (.bool r) ∧ Drawn0 w w' := by
 have H : (if a0 = 1 then (some true) else (some (a0 == (-1)))) = some r := h
 clear h
 by_cases c2 : a0 = 1
 · rw [if_pos c2] at H
   have c2b0 : (a0 == 1) = true := beq_iff_eq.mpr c2
   have c2b1 : (a0 != 1) = false := bne_eq_false_iff_eq.mpr c2
   clear c2
   obtain rfl := Option.some.inj H
   go_enter Try.func195, Try.ntmps195
   go_wp2
   go_ret
   exact ⟨rD, by repeat (first | exact Drawn0.refl _ | apply Drawn0.step)⟩
 · rw [if_neg c2] at H
   have c2b0 : (a0 == 1) = false := beq_eq_false_iff_ne.mpr c2
   have c2b1 : (a0 != 1) = true := bne_iff_ne.mpr c2
   obtain rfl := Option.some.inj H
   go_enter Try.func195, Try.ntmps195
   go_wp2
   go_ret
   exact ⟨rD, by repeat (first | exact Drawn0.refl _ | apply Drawn0.step)⟩

/-! ### impl_areLabels: function 178 -/
def impl_areLabels.l0 : Nat → List Int → Int → Int → Option (Bool)
 | 0, _, _, _ => none
 | k + 1, x5, x6, x7 => if x7 < x6 then (if 0 ≤ x7 then (if x7 < (x5.length : Int) then ((impl_isLabel.f (rd x5 x7)).bind fun t205 => (if t205 = true then (impl_areLabels.l0 k x5 x6 (wrap64 (x7 + 1))) else (some false))) else (none)) else (none)) else (some true)
def impl_areLabels.f (k : Nat) (l0 : List Int) : Option (Bool) := impl_areLabels.l0 k l0 (l0.length : Int) 0
set_option maxHeartbeats 8000000 in
set_option maxRecDepth 100000 in
theorem impl_areLabels.calls (k : Nat) (A0 : Option Addr) (c0 : Nat) (l0 : List Int) (r : Bool) (w : World) (hr0 : Kd.C (Kd.int .i64) w A0 l0.length l0) (hc0 : l0.length ≤ c0) (h : impl_areLabels.f k l0 = some r) :
 Calls Try.prog 178 #[.slice A0 l0.length c0] w fun e w' => e = .returned (.bool r) ∧ Drawn0 w w' := by
 have HR0 := Aside0.mk hr0
 have HC0 := Aside0.mk hc0
 clear hr0 hc0
 have H : (impl_areLabels.l0 k l0 (l0.length : Int) 0) = some r := h
 clear h
 have H' := Aside0.mk H
 clear H
 go_enter Try.func178, Try.ntmps178
 go_wp2
 go_loopg [7] k (fun kq v7 w' => ∃ (x7_1 : Int), v7 = .int .i64 x7_1 ∧ Aside0 (impl_areLabels.l0 kq l0 (l0.length : Int) x7_1 = some r) ∧ Aside0 (kq ≤ k) ∧ Drawn0 w w')
 case atStart => exact ⟨(0), rD, H', ⟨Nat.le_refl _⟩, by repeat (first | exact Drawn0.refl _ | apply Drawn0.step)⟩
 case round =>
  clear H'
  try clear c1
  obtain ⟨x7_1, rfl, HA, HK1, ⟨m1, rfl⟩⟩ := hrel
  cases gk with
  | zero => exact absurd HA.out (by simp [impl_areLabels.l0])
  | succ k1 =>
   have H := HA.out
   clear HA
   simp only [impl_areLabels.l0] at H
   by_cases c2 : x7_1 < (l0.length : Int)
   · rw [if_pos c2] at H
     have c2b0 : decide (x7_1 < (l0.length : Int)) = true := decide_eq_true c2
     clear c2
     by_cases c3 : 0 ≤ x7_1
     · rw [if_pos c3] at H
       have c3b0 : decide (0 ≤ x7_1) = true := decide_eq_true c3
       clear c3
       by_cases c4 : x7_1 < (l0.length : Int)
       · rw [if_pos c4] at H
         have c4b0 : decide (x7_1 < (l0.length : Int)) = true := decide_eq_true c4
         clear c4
         replace H := Option.bind_eq_some_iff.mp H
         obtain ⟨t205, A50, H⟩ := H
         replace H : (if t205 = true then (impl_areLabels.l0 k1 l0 (l0.length : Int) (wrap64 (x7_1 + 1))) else (some false)) = some r := H
         have A5 := Aside0.mk A50
         clear A50
         by_cases c6 : t205 = true
         · subst c6
           have H1 : (impl_areLabels.l0 k1 l0 (l0.length : Int) (wrap64 (x7_1 + 1))) = some r := by rw [if_pos rfl] at H; exact H
           clear H
           have H := H1
           clear H1
           have H' := Aside0.mk H
           clear H
           have p204 : 0 ≤ (x7_1 : Int) := of_decide_eq_true aS
           have q204 : x7_1 < (l0.length : Int) := of_decide_eq_true aS
           obtain ⟨ad204, e204, hx204_0⟩ := Kd.at_int HR0.out x7_1 p204 q204
           cases e204
           replace p204 := eq_true p204
           replace q204 := eq_true q204
           go_wp2_with (first | ((with_reducible refine gate_callee (f := 195) rfl ?_); refine goesL_ (some 12) rfl rfl Try.func195 (by kernel_rfl) rfl #[.int .i64 (rd l0 x7_1)] rfl aT ?_; (with_reducible refine (impl_isLabel.calls (rd l0 x7_1) true _ A5.out).mono ?_); rintro e w' ⟨rfl, ⟨nd, rfl⟩⟩; refine ⟨_, rfl, ?_⟩))
           go_roundg k1
           case measure => have := HK1.out; omega
           case rel => exact ⟨(wrap64 (x7_1 + 1)), rD, H', ⟨by have := HK1.out; omega⟩, by repeat (first | exact Drawn0.refl _ | apply Drawn0.step)⟩
         · replace c6 := Bool.eq_false_iff.mpr c6
           subst c6
           have H1 : (some false) = some r := by rw [if_neg (show ¬ (false = true) by decide)] at H; exact H
           clear H
           have H := H1
           clear H1
           obtain rfl := Option.some.inj H
           have p204 : 0 ≤ (x7_1 : Int) := of_decide_eq_true aS
           have q204 : x7_1 < (l0.length : Int) := of_decide_eq_true aS
           obtain ⟨ad204, e204, hx204_0⟩ := Kd.at_int HR0.out x7_1 p204 q204
           cases e204
           replace p204 := eq_true p204
           replace q204 := eq_true q204
           go_wp2_with (first | ((with_reducible refine gate_callee (f := 195) rfl ?_); refine goesL_ (some 12) rfl rfl Try.func195 (by kernel_rfl) rfl #[.int .i64 (rd l0 x7_1)] rfl aT ?_; (with_reducible refine (impl_isLabel.calls (rd l0 x7_1) false _ A5.out).mono ?_); rintro e w' ⟨rfl, ⟨nd, rfl⟩⟩; refine ⟨_, rfl, ?_⟩))
           go_ret
           exact ⟨rD, by repeat (first | exact Drawn0.refl _ | apply Drawn0.step)⟩
       · rw [if_neg c4] at H
         exact absurd H (by simp)
     · rw [if_neg c3] at H
       exact absurd H (by simp)
   · rw [if_neg c2] at H
     have c2b0 : decide (x7_1 < (l0.length : Int)) = false := decide_eq_false c2
     clear c2
     obtain rfl := Option.some.inj H
     go_wp2
     go_ret
     exact ⟨rD, by repeat (first | exact Drawn0.refl _ | apply Drawn0.step)⟩

/-! ### impl_IsClass: function 139 -/
mutual
def impl_IsClass.j0 : Nat → List (List Int) → Bool → Option (Bool)
 | 0, _, _ => none
 | k + 1, x0, x15 => if x15 = true then (some false) else (impl_IsClass.l0 k x0 x0 (x0.length : Int) 0)
def impl_IsClass.l0 : Nat → List (List Int) → List (List Int) → Int → Int → Option (Bool)
 | 0, _, _, _, _ => none
 | k + 1, x0, x16, x17, x18 => if x18 < x17 then (if 0 ≤ x18 then (if x18 < (x16.length : Int) then (if 0 < (x0.length : Int) then (if ((rd_L1 x16 x18).length : Int) = ((rd_L1 x0 0).length : Int) then ((impl_areLabels.f k (rd_L1 x16 x18)).bind fun t210 => (if t210 = true then (if x18 > 0 then (if 0 ≤ (wrap64 (x18 - 1)) then (if (wrap64 (x18 - 1)) < (x0.length : Int) then ((slices_Compare_int_int.f k (rd_L1 x0 (wrap64 (x18 - 1))) (rd_L1 x16 x18)).bind fun t212 => (if t212 ≥ 0 then (some false) else (impl_IsClass.l0 k x0 x16 x17 (wrap64 (x18 + 1))))) else (none)) else (none)) else (impl_IsClass.l0 k x0 x16 x17 (wrap64 (x18 + 1)))) else (some false))) else (some false)) else (none)) else (none)) else (none)) else (some true)
end
def impl_IsClass.f (k : Nat) (l0 : List (List Int)) : Option (Bool) := (impl_within.f (l0.length : Int) 1 256).bind fun t206 => (if t206 = true then (if 0 < (l0.length : Int) then (impl_IsClass.j0 k l0 (decide (((rd_L1 l0 0).length : Int) > 8))) else (none)) else (impl_IsClass.j0 k l0 true))
set_option maxHeartbeats 8000000 in
set_option maxRecDepth 100000 in
theorem impl_IsClass.calls (k : Nat) (A0 : Option Addr) (c0 : Nat) (l0 : List (List Int)) (r : Bool) (w : World) (hr0 : Kd.C (Kd.slice 3 (Kd.int .i64)) w A0 l0.length l0) (hc0 : l0.length ≤ c0) (h : impl_IsClass.f k l0 = some r) :
 Calls Try.prog 139 #[.slice A0 l0.length c0] w fun e w' => e = .returned (.bool r) ∧ Drawn0 w w' := by
 have HR0 := Aside0.mk hr0
 have HC0 := Aside0.mk hc0
 clear hr0 hc0
 have H : ((impl_within.f (l0.length : Int) 1 256).bind fun t206 => (if t206 = true then (if 0 < (l0.length : Int) then (impl_IsClass.j0 k l0 (decide (((rd_L1 l0 0).length : Int) > 8))) else (none)) else (impl_IsClass.j0 k l0 true))) = some r := h
 clear h
 have HC2 := Aside0.mk H
 clear H
 go_enter Try.func139, Try.ntmps139
 go_upto_region 1 with (fail)
 go_cut [15] (fun v15 wc => ∃ (kq : Nat) (x15_1 : Bool), v15 = .bool x15_1 ∧ Aside0 (impl_IsClass.j0 kq l0 x15_1 = some r) ∧ Aside0 (kq ≤ k) ∧ Drawn0 w wc)
 case first =>
  have H := HC2.out
  clear HC2
  replace H := Option.bind_eq_some_iff.mp H
  obtain ⟨t206, A30, H⟩ := H
  replace H : (if t206 = true then (if 0 < (l0.length : Int) then (impl_IsClass.j0 k l0 (decide (((rd_L1 l0 0).length : Int) > 8))) else (none)) else (impl_IsClass.j0 k l0 true)) = some r := H
  have A3 := Aside0.mk A30
  clear A30
  by_cases c4 : t206 = true
  · subst c4
    have H1 : (if 0 < (l0.length : Int) then (impl_IsClass.j0 k l0 (decide (((rd_L1 l0 0).length : Int) > 8))) else (none)) = some r := by rw [if_pos rfl] at H; exact H
    clear H
    have H := H1
    clear H1
    by_cases c5 : 0 < (l0.length : Int)
    · rw [if_pos c5] at H
      have c5b0 : decide (0 < (l0.length : Int)) = true := decide_eq_true c5
      have c5b1 : decide (0 < l0.length) = true := decide_eq_true (by omega)
      clear c5
      (first | rw [c5b0] | (simp only [i64_w, i32_w]; rw [c5b0]) | skip)
      have H' := Aside0.mk H
      clear H
      go_wp2_with (first | ((with_reducible refine gate_callee (f := 93) rfl ?_); refine goesL_ (some 7) rfl rfl Try.func93 (by kernel_rfl) rfl #[.int .i64 (l0.length : Int), .int .i64 1, .int .i64 256] rfl aT ?_; (with_reducible refine (impl_within.calls (l0.length : Int) 1 256 true _ A3.out).mono ?_); rintro e w' ⟨rfl, ⟨nd, rfl⟩⟩; refine ⟨_, rfl, ?_⟩; have p207 : 0 ≤ (0 : Int) := (by omega); have q207 : 0 < (l0.length : Int) := of_decide_eq_true aS; obtain ⟨ad207, A207_0, c207_0, e207, hx207_0, hl207_0, hi207_0⟩ := at_L1 HR0.out 0 p207 q207; cases e207; have qi207 : (0 < l0.length) = True := eq_true (by omega); (try rw [show ((0 : Int)).toNat = 0 from rfl] at hx207_0); (try rw [Addr.add_zero'] at hx207_0); have HR207_0 := Aside0.mk hi207_0; have HC207_0 := Aside0.mk hl207_0; clear hi207_0 hl207_0; replace p207 := eq_true p207; replace q207 := eq_true q207))
      go_meet
      case rel => exact ⟨_, (decide (((rd_L1 l0 0).length : Int) > 8)), rD, H', ⟨by first | omega | exact Nat.le_refl _⟩, by repeat (first | exact Drawn0.refl _ | apply Drawn0.step)⟩
    · rw [if_neg c5] at H
      exact absurd H (by simp)
  · replace c4 := Bool.eq_false_iff.mpr c4
    subst c4
    have H1 : (impl_IsClass.j0 k l0 true) = some r := by rw [if_neg (show ¬ (false = true) by decide)] at H; exact H
    clear H
    have H := H1
    clear H1
    have H' := Aside0.mk H
    clear H
    go_wp2_with (first | ((with_reducible refine gate_callee (f := 93) rfl ?_); refine goesL_ (some 7) rfl rfl Try.func93 (by kernel_rfl) rfl #[.int .i64 (l0.length : Int), .int .i64 1, .int .i64 256] rfl aT ?_; (with_reducible refine (impl_within.calls (l0.length : Int) 1 256 false _ A3.out).mono ?_); rintro e w' ⟨rfl, ⟨nd, rfl⟩⟩; refine ⟨_, rfl, ?_⟩))
    go_meet
    case rel => exact ⟨_, (true), rD, H', ⟨by first | omega | exact Nat.le_refl _⟩, by repeat (first | exact Drawn0.refl _ | apply Drawn0.step)⟩
 case rest =>
  clear HC2
  try clear c1
  obtain ⟨kq, x15_1, rfl, HA, HJ1, ⟨mc1, rfl⟩⟩ := hcut
  cases kq with
  | zero => exact absurd HA.out (by simp [impl_IsClass.j0])
  | succ kj1 =>
   have H := HA.out
   clear HA
   simp only [impl_IsClass.j0] at H
   by_cases c6 : x15_1 = true
   · subst c6
     have H1 : (some false) = some r := by rw [if_pos rfl] at H; exact H
     clear H
     have H := H1
     clear H1
     obtain rfl := Option.some.inj H
     go_wp2
     go_ret
     exact ⟨rD, by repeat (first | exact Drawn0.refl _ | apply Drawn0.step)⟩
   · replace c6 := Bool.eq_false_iff.mpr c6
     subst c6
     have H1 : (impl_IsClass.l0 kj1 l0 l0 (l0.length : Int) 0) = some r := by rw [if_neg (show ¬ (false = true) by decide)] at H; exact H
     clear H
     have H := H1
     clear H1
     have H' := Aside0.mk H
     clear H
     go_wp2
     go_loopg [18] kj1 (fun kq v18 w' => ∃ (x18_2 : Int), v18 = .int .i64 x18_2 ∧ Aside0 (impl_IsClass.l0 kq l0 l0 (l0.length : Int) x18_2 = some r) ∧ Aside0 (kq ≤ kj1) ∧ Drawn0 w w')
     case atStart => exact ⟨(0), rD, H', ⟨Nat.le_refl _⟩, by repeat (first | exact Drawn0.refl _ | apply Drawn0.step)⟩
     case round =>
      clear H'
      try clear c1
      try clear c6
      obtain ⟨x18_2, rfl, HA, HK2, ⟨m2, rfl⟩⟩ := hrel
      cases gk with
      | zero => exact absurd HA.out (by simp [impl_IsClass.l0])
      | succ k2 =>
       have H := HA.out
       clear HA
       simp only [impl_IsClass.l0] at H
       by_cases c7 : x18_2 < (l0.length : Int)
       · rw [if_pos c7] at H
         have c7b0 : decide (x18_2 < (l0.length : Int)) = true := decide_eq_true c7
         clear c7
         by_cases c8 : 0 ≤ x18_2
         · rw [if_pos c8] at H
           have c8b0 : decide (0 ≤ x18_2) = true := decide_eq_true c8
           clear c8
           by_cases c9 : x18_2 < (l0.length : Int)
           · rw [if_pos c9] at H
             have c9b0 : decide (x18_2 < (l0.length : Int)) = true := decide_eq_true c9
             clear c9
             by_cases c10 : 0 < (l0.length : Int)
             · rw [if_pos c10] at H
               have c10b0 : decide (0 < (l0.length : Int)) = true := decide_eq_true c10
               have c10b1 : decide (0 < l0.length) = true := decide_eq_true (by omega)
               clear c10
               by_cases c11 : ((rd_L1 l0 x18_2).length : Int) = ((rd_L1 l0 0).length : Int)
               · rw [if_pos c11] at H
                 have c11b0 : (((rd_L1 l0 x18_2).length : Int) == ((rd_L1 l0 0).length : Int)) = true := beq_iff_eq.mpr c11
                 have c11b1 : (((rd_L1 l0 x18_2).length : Int) != ((rd_L1 l0 0).length : Int)) = false := bne_eq_false_iff_eq.mpr c11
                 have c11b2 : ((rd_L1 l0 x18_2).length == (rd_L1 l0 0).length) = true := by first | simpa using c11 | (simp at c11 ⊢; omega)
                 clear c11
                 replace H := Option.bind_eq_some_iff.mp H
                 obtain ⟨t210, A120, H⟩ := H
                 replace H : (if t210 = true then (if x18_2 > 0 then (if 0 ≤ (wrap64 (x18_2 - 1)) then (if (wrap64 (x18_2 - 1)) < (l0.length : Int) then ((slices_Compare_int_int.f k2 (rd_L1 l0 (wrap64 (x18_2 - 1))) (rd_L1 l0 x18_2)).bind fun t212 => (if t212 ≥ 0 then (some false) else (impl_IsClass.l0 k2 l0 l0 (l0.length : Int) (wrap64 (x18_2 + 1))))) else (none)) else (none)) else (impl_IsClass.l0 k2 l0 l0 (l0.length : Int) (wrap64 (x18_2 + 1)))) else (some false)) = some r := H
                 have A12 := Aside0.mk A120
                 clear A120
                 by_cases c13 : t210 = true
                 · subst c13
                   have H1 : (if x18_2 > 0 then (if 0 ≤ (wrap64 (x18_2 - 1)) then (if (wrap64 (x18_2 - 1)) < (l0.length : Int) then ((slices_Compare_int_int.f k2 (rd_L1 l0 (wrap64 (x18_2 - 1))) (rd_L1 l0 x18_2)).bind fun t212 => (if t212 ≥ 0 then (some false) else (impl_IsClass.l0 k2 l0 l0 (l0.length : Int) (wrap64 (x18_2 + 1))))) else (none)) else (none)) else (impl_IsClass.l0 k2 l0 l0 (l0.length : Int) (wrap64 (x18_2 + 1)))) = some r := by rw [if_pos rfl] at H; exact H
                   clear H
                   have H := H1
                   clear H1
                   by_cases c14 : x18_2 > 0
                   · rw [if_pos c14] at H
                     have c14b0 : decide (0 < x18_2) = true := decide_eq_true c14
                     clear c14
                     obtain ⟨ji15, hji15⟩ : ∃ j_ : Int, (wrap64 (x18_2 - 1)) = j_ := ⟨_, rfl⟩
                     replace H : (if 0 ≤ (ji15) then (if (ji15) < (l0.length : Int) then ((slices_Compare_int_int.f k2 (rd_L1 l0 (ji15)) (rd_L1 l0 x18_2)).bind fun t212 => (if t212 ≥ 0 then (some false) else (impl_IsClass.l0 k2 l0 l0 (l0.length : Int) (wrap64 (x18_2 + 1))))) else (none)) else (none)) = some r := by first | (rw [hji15] at H; exact H) | (simp only [hji15] at H ⊢; exact H)
                     (try rw [hji15] at A12)
                     have hji15w : (IntKind.i64.wrap (x18_2 - 1)) = ji15 := (i64_w _).trans hji15
                     by_cases c16 : 0 ≤ (ji15)
                     · rw [if_pos c16] at H
                       have c16b0 : decide (0 ≤ (ji15)) = true := decide_eq_true c16
                       clear c16
                       by_cases c17 : (ji15) < (l0.length : Int)
                       · rw [if_pos c17] at H
                         have c17b0 : decide ((ji15) < (l0.length : Int)) = true := decide_eq_true c17
                         clear c17
                         replace H := Option.bind_eq_some_iff.mp H
                         obtain ⟨t212, A180, H⟩ := H
                         replace H : (if t212 ≥ 0 then (some false) else (impl_IsClass.l0 k2 l0 l0 (l0.length : Int) (wrap64 (x18_2 + 1)))) = some r := H
                         have A18 := Aside0.mk A180
                         clear A180
                         by_cases c19 : t212 ≥ 0
                         · rw [if_pos c19] at H
                           have c19b0 : decide (0 ≤ t212) = true := decide_eq_true c19
                           clear c19
                           obtain rfl := Option.some.inj H
                           have p208 : 0 ≤ (x18_2 : Int) := of_decide_eq_true aS
                           have q208 : x18_2 < (l0.length : Int) := of_decide_eq_true aS
                           obtain ⟨ad208, A208_0, c208_0, e208, hx208_0, hl208_0, hi208_0⟩ := at_L1 HR0.out x18_2 p208 q208
                           cases e208
                           have HR208_0 := Aside0.mk hi208_0
                           have HC208_0 := Aside0.mk hl208_0
                           clear hi208_0 hl208_0
                           replace p208 := eq_true p208
                           replace q208 := eq_true q208
                           have p209 : 0 ≤ (0 : Int) := (by omega)
                           have q209 : 0 < (l0.length : Int) := of_decide_eq_true aS
                           obtain ⟨ad209, A209_0, c209_0, e209, hx209_0, hl209_0, hi209_0⟩ := at_L1 HR0.out 0 p209 q209
                           obtain rfl : ad208 = ad209 := (by injection e209)
                           have qi209 : (0 < l0.length) = True := eq_true (by omega)
                           (try rw [show ((0 : Int)).toNat = 0 from rfl] at hx209_0)
                           (try rw [Addr.add_zero'] at hx209_0)
                           have HR209_0 := Aside0.mk hi209_0
                           have HC209_0 := Aside0.mk hl209_0
                           clear hi209_0 hl209_0
                           replace p209 := eq_true p209
                           replace q209 := eq_true q209
                           go_wp2_with (first | (go_at_call 178; (with_reducible refine (impl_areLabels.calls k2 _ _ (rd_L1 l0 x18_2) true _ ?side1 ?side2 A12.out).mono ?_); (case side1 => exact cC HR208_0); (case side2 => exact HC208_0.out); rintro e w' ⟨rfl, ⟨nd, rfl⟩⟩; have p211 : 0 ≤ ((ji15) : Int) := of_decide_eq_true aS; have q211 : (ji15) < (l0.length : Int) := of_decide_eq_true aS; obtain ⟨ad211, A211_0, c211_0, e211, hx211_0, hl211_0, hi211_0⟩ := at_L1 HR0.out (ji15) p211 q211; obtain rfl : ad208 = ad211 := (by injection e211); have HR211_0 := Aside0.mk hi211_0; have HC211_0 := Aside0.mk hl211_0; clear hi211_0 hl211_0; replace p211 := eq_true p211; replace q211 := eq_true q211) | (go_at_call 142; (with_reducible refine (slices_Compare_int_int.calls k2 _ _ (rd_L1 l0 (ji15)) _ _ (rd_L1 l0 x18_2) t212 _ ?side1 ?side2 ?side3 ?side4 A18.out).mono ?_); (case side1 => exact cC HR211_0); (case side2 => exact HC211_0.out); (case side3 => exact cC HR208_0); (case side4 => exact HC208_0.out); rintro e w' ⟨rfl, ⟨nd, rfl⟩⟩))
                           go_ret
                           exact ⟨by first | rfl | (simp; done) | (simp only [← hji15] <;> (first | rfl | simp)) | (simp [*]; done), by repeat (first | exact Drawn0.refl _ | apply Drawn0.step)⟩
                         · rw [if_neg c19] at H
                           have c19b0 : decide (0 ≤ t212) = false := decide_eq_false c19
                           clear c19
                           have H' := Aside0.mk H
                           clear H
                           have p208 : 0 ≤ (x18_2 : Int) := of_decide_eq_true aS
                           have q208 : x18_2 < (l0.length : Int) := of_decide_eq_true aS
                           obtain ⟨ad208, A208_0, c208_0, e208, hx208_0, hl208_0, hi208_0⟩ := at_L1 HR0.out x18_2 p208 q208
                           cases e208
                           have HR208_0 := Aside0.mk hi208_0
                           have HC208_0 := Aside0.mk hl208_0
                           clear hi208_0 hl208_0
                           replace p208 := eq_true p208
                           replace q208 := eq_true q208
                           have p209 : 0 ≤ (0 : Int) := (by omega)
                           have q209 : 0 < (l0.length : Int) := of_decide_eq_true aS
                           obtain ⟨ad209, A209_0, c209_0, e209, hx209_0, hl209_0, hi209_0⟩ := at_L1 HR0.out 0 p209 q209
                           obtain rfl : ad208 = ad209 := (by injection e209)
                           have qi209 : (0 < l0.length) = True := eq_true (by omega)
                           (try rw [show ((0 : Int)).toNat = 0 from rfl] at hx209_0)
                           (try rw [Addr.add_zero'] at hx209_0)
                           have HR209_0 := Aside0.mk hi209_0
                           have HC209_0 := Aside0.mk hl209_0
                           clear hi209_0 hl209_0
                           replace p209 := eq_true p209
                           replace q209 := eq_true q209
                           go_wp2_with (first | (go_at_call 178; (with_reducible refine (impl_areLabels.calls k2 _ _ (rd_L1 l0 x18_2) true _ ?side1 ?side2 A12.out).mono ?_); (case side1 => exact cC HR208_0); (case side2 => exact HC208_0.out); rintro e w' ⟨rfl, ⟨nd, rfl⟩⟩; have p211 : 0 ≤ ((ji15) : Int) := of_decide_eq_true aS; have q211 : (ji15) < (l0.length : Int) := of_decide_eq_true aS; obtain ⟨ad211, A211_0, c211_0, e211, hx211_0, hl211_0, hi211_0⟩ := at_L1 HR0.out (ji15) p211 q211; obtain rfl : ad208 = ad211 := (by injection e211); have HR211_0 := Aside0.mk hi211_0; have HC211_0 := Aside0.mk hl211_0; clear hi211_0 hl211_0; replace p211 := eq_true p211; replace q211 := eq_true q211) | (go_at_call 142; (with_reducible refine (slices_Compare_int_int.calls k2 _ _ (rd_L1 l0 (ji15)) _ _ (rd_L1 l0 x18_2) t212 _ ?side1 ?side2 ?side3 ?side4 A18.out).mono ?_); (case side1 => exact cC HR211_0); (case side2 => exact HC211_0.out); (case side3 => exact cC HR208_0); (case side4 => exact HC208_0.out); rintro e w' ⟨rfl, ⟨nd, rfl⟩⟩))
                           go_roundg k2
                           case measure => have := HJ1.out; have := HK2.out; omega
                           case rel => exact ⟨(wrap64 (x18_2 + 1)), rD, H', ⟨by have := HJ1.out; have := HK2.out; omega⟩, by repeat (first | exact Drawn0.refl _ | apply Drawn0.step)⟩
                       · rw [if_neg c17] at H
                         exact absurd H (by simp)
                     · rw [if_neg c16] at H
                       exact absurd H (by simp)
                   · rw [if_neg c14] at H
                     have c14b0 : decide (0 < x18_2) = false := decide_eq_false c14
                     clear c14
                     have H' := Aside0.mk H
                     clear H
                     have p208 : 0 ≤ (x18_2 : Int) := of_decide_eq_true aS
                     have q208 : x18_2 < (l0.length : Int) := of_decide_eq_true aS
                     obtain ⟨ad208, A208_0, c208_0, e208, hx208_0, hl208_0, hi208_0⟩ := at_L1 HR0.out x18_2 p208 q208
                     cases e208
                     have HR208_0 := Aside0.mk hi208_0
                     have HC208_0 := Aside0.mk hl208_0
                     clear hi208_0 hl208_0
                     replace p208 := eq_true p208
                     replace q208 := eq_true q208
                     have p209 : 0 ≤ (0 : Int) := (by omega)
                     have q209 : 0 < (l0.length : Int) := of_decide_eq_true aS
                     obtain ⟨ad209, A209_0, c209_0, e209, hx209_0, hl209_0, hi209_0⟩ := at_L1 HR0.out 0 p209 q209
                     obtain rfl : ad208 = ad209 := (by injection e209)
                     have qi209 : (0 < l0.length) = True := eq_true (by omega)
                     (try rw [show ((0 : Int)).toNat = 0 from rfl] at hx209_0)
                     (try rw [Addr.add_zero'] at hx209_0)
                     have HR209_0 := Aside0.mk hi209_0
                     have HC209_0 := Aside0.mk hl209_0
                     clear hi209_0 hl209_0
                     replace p209 := eq_true p209
                     replace q209 := eq_true q209
                     go_wp2_with (first | (go_at_call 178; (with_reducible refine (impl_areLabels.calls k2 _ _ (rd_L1 l0 x18_2) true _ ?side1 ?side2 A12.out).mono ?_); (case side1 => exact cC HR208_0); (case side2 => exact HC208_0.out); rintro e w' ⟨rfl, ⟨nd, rfl⟩⟩))
                     go_roundg k2
                     case measure => have := HJ1.out; have := HK2.out; omega
                     case rel => exact ⟨(wrap64 (x18_2 + 1)), rD, H', ⟨by have := HJ1.out; have := HK2.out; omega⟩, by repeat (first | exact Drawn0.refl _ | apply Drawn0.step)⟩
                 · replace c13 := Bool.eq_false_iff.mpr c13
                   subst c13
                   have H1 : (some false) = some r := by rw [if_neg (show ¬ (false = true) by decide)] at H; exact H
                   clear H
                   have H := H1
                   clear H1
                   obtain rfl := Option.some.inj H
                   have p208 : 0 ≤ (x18_2 : Int) := of_decide_eq_true aS
                   have q208 : x18_2 < (l0.length : Int) := of_decide_eq_true aS
                   obtain ⟨ad208, A208_0, c208_0, e208, hx208_0, hl208_0, hi208_0⟩ := at_L1 HR0.out x18_2 p208 q208
                   cases e208
                   have HR208_0 := Aside0.mk hi208_0
                   have HC208_0 := Aside0.mk hl208_0
                   clear hi208_0 hl208_0
                   replace p208 := eq_true p208
                   replace q208 := eq_true q208
                   have p209 : 0 ≤ (0 : Int) := (by omega)
                   have q209 : 0 < (l0.length : Int) := of_decide_eq_true aS
                   obtain ⟨ad209, A209_0, c209_0, e209, hx209_0, hl209_0, hi209_0⟩ := at_L1 HR0.out 0 p209 q209
                   obtain rfl : ad208 = ad209 := (by injection e209)
                   have qi209 : (0 < l0.length) = True := eq_true (by omega)
                   (try rw [show ((0 : Int)).toNat = 0 from rfl] at hx209_0)
                   (try rw [Addr.add_zero'] at hx209_0)
                   have HR209_0 := Aside0.mk hi209_0
                   have HC209_0 := Aside0.mk hl209_0
                   clear hi209_0 hl209_0
                   replace p209 := eq_true p209
                   replace q209 := eq_true q209
                   go_wp2_with (first | (go_at_call 178; (with_reducible refine (impl_areLabels.calls k2 _ _ (rd_L1 l0 x18_2) false _ ?side1 ?side2 A12.out).mono ?_); (case side1 => exact cC HR208_0); (case side2 => exact HC208_0.out); rintro e w' ⟨rfl, ⟨nd, rfl⟩⟩))
                   go_ret
                   exact ⟨rD, by repeat (first | exact Drawn0.refl _ | apply Drawn0.step)⟩
               · rw [if_neg c11] at H
                 have c11b0 : (((rd_L1 l0 x18_2).length : Int) == ((rd_L1 l0 0).length : Int)) = false := beq_eq_false_iff_ne.mpr c11
                 have c11b1 : (((rd_L1 l0 x18_2).length : Int) != ((rd_L1 l0 0).length : Int)) = true := bne_iff_ne.mpr c11
                 have c11b2 : ((rd_L1 l0 x18_2).length == (rd_L1 l0 0).length) = false := by first | simpa using c11 | (simp at c11 ⊢; omega)
                 obtain rfl := Option.some.inj H
                 have p208 : 0 ≤ (x18_2 : Int) := of_decide_eq_true aS
                 have q208 : x18_2 < (l0.length : Int) := of_decide_eq_true aS
                 obtain ⟨ad208, A208_0, c208_0, e208, hx208_0, hl208_0, hi208_0⟩ := at_L1 HR0.out x18_2 p208 q208
                 cases e208
                 have HR208_0 := Aside0.mk hi208_0
                 have HC208_0 := Aside0.mk hl208_0
                 clear hi208_0 hl208_0
                 replace p208 := eq_true p208
                 replace q208 := eq_true q208
                 have p209 : 0 ≤ (0 : Int) := (by omega)
                 have q209 : 0 < (l0.length : Int) := of_decide_eq_true aS
                 obtain ⟨ad209, A209_0, c209_0, e209, hx209_0, hl209_0, hi209_0⟩ := at_L1 HR0.out 0 p209 q209
                 obtain rfl : ad208 = ad209 := (by injection e209)
                 have qi209 : (0 < l0.length) = True := eq_true (by omega)
                 (try rw [show ((0 : Int)).toNat = 0 from rfl] at hx209_0)
                 (try rw [Addr.add_zero'] at hx209_0)
                 have HR209_0 := Aside0.mk hi209_0
                 have HC209_0 := Aside0.mk hl209_0
                 clear hi209_0 hl209_0
                 replace p209 := eq_true p209
                 replace q209 := eq_true q209
                 go_wp2
                 go_ret
                 exact ⟨rD, by repeat (first | exact Drawn0.refl _ | apply Drawn0.step)⟩
             · rw [if_neg c10] at H
               exact absurd H (by simp)
           · rw [if_neg c9] at H
             exact absurd H (by simp)
         · rw [if_neg c8] at H
           exact absurd H (by simp)
       · rw [if_neg c7] at H
         have c7b0 : decide (x18_2 < (l0.length : Int)) = false := decide_eq_false c7
         clear c7
         obtain rfl := Option.some.inj H
         go_wp2
         go_ret
         exact ⟨rD, by repeat (first | exact Drawn0.refl _ | apply Drawn0.step)⟩

end Go.Proofs.Ytfkfahdikmfpeaa.PFnExactHalvingPlay
