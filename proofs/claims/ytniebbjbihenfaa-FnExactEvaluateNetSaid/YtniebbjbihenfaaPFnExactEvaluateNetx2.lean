-- Printed by wip/tools/myprint.py (the printer of the kit, patched by that program; roots chosen by it)
import Derived.Test.YtniebbjbihenfaaPFnExactEvaluateNetx0
import Derived.Test.YtniebbjbihenfaaSh
namespace Go.Proofs.Ytniebbjbihenfaa.PFnExactEvaluateNet
open Go.RowKit Go.Proofs.Ytniebbjbihenfaa.Sh Go.Proofs.YtniebbjbihenfaaW.PrintWords Go.Proofs.YtniebbjbihenfaaW.PrintLast Go.Proofs.YtniebbjbihenfaaW.PrintMore
attribute [local go_sem] max2_int min2_int max_two min_two max_three min_three max_four min_four   -- for this text's walks alone
set_option linter.unusedVariables false
set_option linter.unusedSimpArgs false

/-! ### spec_l1In: function 66 -/
def spec_l1In.f (a0 : Int) (a1 : Int) (a2 : Int) : Option (Bool) := if a0 ≥ a1 then (some (decide (a0 ≤ a2))) else (some false)
set_option maxHeartbeats 8000000 in
set_option maxRecDepth 100000 in
theorem spec_l1In.calls (a0 : Int) (a1 : Int) (a2 : Int) (r : Bool) (w : World) (h : spec_l1In.f a0 a1 a2 = some r) :
 Calls Try.prog 66 #[.int .i64 a0, .int .i64 a1, .int .i64 a2] w fun e w' => e = .returned (.bool r) ∧ Drawn0 w w' := by
 have H : (if a0 ≥ a1 then (some (decide (a0 ≤ a2))) else (some false)) = some r := h
 clear h
 by_cases c4 : a0 ≥ a1
 · rw [if_pos c4] at H
   have c4b0 : decide (a1 ≤ a0) = true := decide_eq_true c4
   clear c4
   obtain rfl := Option.some.inj H
   go_enter Try.func66, Try.ntmps66
   go_wp2
   go_ret
   exact ⟨rD, by repeat (first | exact Drawn0.refl _ | apply Drawn0.step)⟩
 · rw [if_neg c4] at H
   have c4b0 : decide (a1 ≤ a0) = false := decide_eq_false c4
   clear c4
   obtain rfl := Option.some.inj H
   go_enter Try.func66, Try.ntmps66
   go_wp2
   go_ret
   exact ⟨rD, by repeat (first | exact Drawn0.refl _ | apply Drawn0.step)⟩

/-! ### spec_l2Numbers: function 156 -/
def spec_l2Numbers.l0 : Nat → List Int → Int → Int → Option (Bool)
 | 0, _, _, _ => none
 | k + 1, x0, x1, x5 => if x5 < (x0.length : Int) then (if 0 ≤ x5 then ((spec_l1In.f (rd x0 x5) (wrap64 (-x1)) x1).bind fun t119 => (if t119 = true then (spec_l2Numbers.l0 k x0 x1 (wrap64 (x5 + 1))) else (some false))) else (none)) else (some true)
def spec_l2Numbers.f (k : Nat) (l0 : List Int) (a1 : Int) : Option (Bool) := spec_l2Numbers.l0 k l0 a1 0
set_option maxHeartbeats 8000000 in
set_option maxRecDepth 100000 in
theorem spec_l2Numbers.calls (k : Nat) (A0 : Option Addr) (c0 : Nat) (l0 : List Int) (a1 : Int) (r : Bool) (w : World) (hr0 : Kd.C (Kd.int .i64) w A0 l0.length l0) (hc0 : l0.length ≤ c0) (h : spec_l2Numbers.f k l0 a1 = some r) :
 Calls Try.prog 156 #[.slice A0 l0.length c0, .int .i64 a1] w fun e w' => e = .returned (.bool r) ∧ Drawn0 w w' := by
 have HR0 := Aside0.mk hr0
 have HC0 := Aside0.mk hc0
 clear hr0 hc0
 have H : (spec_l2Numbers.l0 k l0 a1 0) = some r := h
 clear h
 have H' := Aside0.mk H
 clear H
 go_enter Try.func156, Try.ntmps156
 go_wp2
 go_loopg [5] k (fun kq v5 w' => ∃ (x5_1 : Int), v5 = .int .i64 x5_1 ∧ Aside0 (spec_l2Numbers.l0 kq l0 a1 x5_1 = some r) ∧ Aside0 (kq ≤ k) ∧ Drawn0 w w')
 case atStart => exact ⟨(0), rD, H', ⟨Nat.le_refl _⟩, by repeat (first | exact Drawn0.refl _ | apply Drawn0.step)⟩
 case round =>
  clear H'
  try clear c1
  try clear p2
  obtain ⟨x5_1, rfl, HA, HK1, ⟨m1, rfl⟩⟩ := hrel
  cases gk with
  | zero => exact absurd HA.out (by simp [spec_l2Numbers.l0])
  | succ k1 =>
   have H := HA.out
   clear HA
   simp only [spec_l2Numbers.l0] at H
   by_cases c3 : x5_1 < (l0.length : Int)
   · rw [if_pos c3] at H
     have c3b0 : decide (x5_1 < (l0.length : Int)) = true := decide_eq_true c3
     clear c3
     by_cases c4 : 0 ≤ x5_1
     · rw [if_pos c4] at H
       have c4b0 : decide (0 ≤ x5_1) = true := decide_eq_true c4
       clear c4
       replace H := Option.bind_eq_some_iff.mp H
       obtain ⟨t119, A50, H⟩ := H
       replace H : (if t119 = true then (spec_l2Numbers.l0 k1 l0 a1 (wrap64 (x5_1 + 1))) else (some false)) = some r := H
       have A5 := Aside0.mk A50
       clear A50
       by_cases c6 : t119 = true
       · subst c6
         have H1 : (spec_l2Numbers.l0 k1 l0 a1 (wrap64 (x5_1 + 1))) = some r := by rw [if_pos rfl] at H; exact H
         clear H
         have H := H1
         clear H1
         have H' := Aside0.mk H
         clear H
         have p118 : 0 ≤ (x5_1 : Int) := of_decide_eq_true aS
         have q118 : x5_1 < (l0.length : Int) := of_decide_eq_true aS
         obtain ⟨ad118, e118, hx118_0⟩ := Kd.at_int HR0.out x5_1 p118 q118
         cases e118
         replace p118 := eq_true p118
         replace q118 := eq_true q118
         go_wp2_with (first | ((with_reducible refine gate_callee (f := 66) rfl ?_); refine goesL_ (some 19) rfl rfl Try.func66 (by kernel_rfl) rfl #[.int .i64 (rd l0 x5_1), .int .i64 (wrap64 (-a1)), .int .i64 a1] rfl aT ?_; (with_reducible refine (spec_l1In.calls (rd l0 x5_1) (wrap64 (-a1)) a1 true _ A5.out).mono ?_); rintro e w' ⟨rfl, ⟨nd, rfl⟩⟩; refine ⟨_, rfl, ?_⟩))
         go_roundg k1
         case measure => have := HK1.out; omega
         case rel => exact ⟨(wrap64 (x5_1 + 1)), rD, H', ⟨by have := HK1.out; omega⟩, by repeat (first | exact Drawn0.refl _ | apply Drawn0.step)⟩
       · replace c6 := Bool.eq_false_iff.mpr c6
         subst c6
         have H1 : (some false) = some r := by rw [if_neg (show ¬ (false = true) by decide)] at H; exact H
         clear H
         have H := H1
         clear H1
         obtain rfl := Option.some.inj H
         have p118 : 0 ≤ (x5_1 : Int) := of_decide_eq_true aS
         have q118 : x5_1 < (l0.length : Int) := of_decide_eq_true aS
         obtain ⟨ad118, e118, hx118_0⟩ := Kd.at_int HR0.out x5_1 p118 q118
         cases e118
         replace p118 := eq_true p118
         replace q118 := eq_true q118
         go_wp2_with (first | ((with_reducible refine gate_callee (f := 66) rfl ?_); refine goesL_ (some 19) rfl rfl Try.func66 (by kernel_rfl) rfl #[.int .i64 (rd l0 x5_1), .int .i64 (wrap64 (-a1)), .int .i64 a1] rfl aT ?_; (with_reducible refine (spec_l1In.calls (rd l0 x5_1) (wrap64 (-a1)) a1 false _ A5.out).mono ?_); rintro e w' ⟨rfl, ⟨nd, rfl⟩⟩; refine ⟨_, rfl, ?_⟩))
         go_ret
         exact ⟨rD, by repeat (first | exact Drawn0.refl _ | apply Drawn0.step)⟩
     · rw [if_neg c4] at H
       exact absurd H (by simp)
   · rw [if_neg c3] at H
     have c3b0 : decide (x5_1 < (l0.length : Int)) = false := decide_eq_false c3
     clear c3
     obtain rfl := Option.some.inj H
     go_wp2
     go_ret
     exact ⟨rD, by repeat (first | exact Drawn0.refl _ | apply Drawn0.step)⟩

/-! ### spec_l2Plane: function 131 -/
def spec_l2Plane.f (k : Nat) (l0_0 : List Int) (a0_1 : Int) : Option (Bool) := (spec_l1In.f (l0_0.length : Int) 1 4).bind fun t121 => (if t121 = true then ((spec_l2Numbers.f k l0_0 99).bind fun t122 => (if t122 = true then ((spec_l1In.f a0_1 (-99) 99).bind fun t123 => (some t123)) else (some false))) else (some false))
set_option maxHeartbeats 8000000 in
set_option maxRecDepth 100000 in
theorem spec_l2Plane.calls (k : Nat) (A0_0 : Option Addr) (c0_0 : Nat) (l0_0 : List Int) (a0_1 : Int) (r : Bool) (w : World) (hr0_0 : Kd.C (Kd.int .i64) w A0_0 l0_0.length l0_0) (hc0_0 : l0_0.length ≤ c0_0) (h : spec_l2Plane.f k l0_0 a0_1 = some r) :
 Calls Try.prog 131 #[.agg #[.slice A0_0 l0_0.length c0_0, .int .i64 a0_1]] w fun e w' => e = .returned (.bool r) ∧ Below w.heap.size w w' := by
 have hu42 := Try.underlying42
 have HR0_0 := Aside0.mk hr0_0
 have HC0_0 := Aside0.mk hc0_0
 clear hr0_0 hc0_0
 have HB := Aside0.mk (Below.refl w.heap.size w)
 have H : ((spec_l1In.f (l0_0.length : Int) 1 4).bind fun t121 => (if t121 = true then ((spec_l2Numbers.f k l0_0 99).bind fun t122 => (if t122 = true then ((spec_l1In.f a0_1 (-99) 99).bind fun t123 => (some t123)) else (some false))) else (some false))) = some r := h
 clear h
 replace H := Option.bind_eq_some_iff.mp H
 obtain ⟨t121, A20, H⟩ := H
 replace H : (if t121 = true then ((spec_l2Numbers.f k l0_0 99).bind fun t122 => (if t122 = true then ((spec_l1In.f a0_1 (-99) 99).bind fun t123 => (some t123)) else (some false))) else (some false)) = some r := H
 have A2 := Aside0.mk A20
 clear A20
 by_cases c3 : t121 = true
 · subst c3
   have H1 : ((spec_l2Numbers.f k l0_0 99).bind fun t122 => (if t122 = true then ((spec_l1In.f a0_1 (-99) 99).bind fun t123 => (some t123)) else (some false))) = some r := by rw [if_pos rfl] at H; exact H
   clear H
   have H := H1
   clear H1
   replace H := Option.bind_eq_some_iff.mp H
   obtain ⟨t122, A40, H⟩ := H
   replace H : (if t122 = true then ((spec_l1In.f a0_1 (-99) 99).bind fun t123 => (some t123)) else (some false)) = some r := H
   have A4 := Aside0.mk A40
   clear A40
   by_cases c5 : t122 = true
   · subst c5
     have H1 : ((spec_l1In.f a0_1 (-99) 99).bind fun t123 => (some t123)) = some r := by rw [if_pos rfl] at H; exact H
     clear H
     have H := H1
     clear H1
     replace H := Option.bind_eq_some_iff.mp H
     obtain ⟨t123, A60, H⟩ := H
     replace H : (some t123) = some r := H
     have A6 := Aside0.mk A60
     clear A60
     obtain rfl := Option.some.inj H
     go_enter Try.func131, Try.ntmps131
     go_wp2_with (first | ((with_reducible refine gate_dst (N := 1) rfl ?_); refine box_event ?hg (N := 1) ?hd (cs := #[.slice A0_0 l0_0.length c0_0, .int .i64 a0_1]) (t := 42) ?hr ?_; (case hd => rfl); (case hg => rfl); (case hr => first | (go_simp; done) | (go_simp; rfl)); intro gb120 hg w7 hbox hb; have n0_ := Aside0.mk (below_step (bB HB) hb); have n1_ := Aside0.mk (hbox); have n2_ := Aside0.mk ((by rw [hg]; exact (below_size (bB HB)) : w.heap.size ≤ gb120)); have n3_ := Aside0.mk ((by rw [hg]; exact (below_size (bB HB)) : w.heap.size ≤ gb120)); clear HB; have HB := n0_; have BK120 := n1_; have GW120 := n2_; have GE120 := n3_; clear n0_ n1_ n2_ n3_; clear hb hbox hg; have hcz8_0 : w7.cell? ⟨gb120, 0, none⟩ = some (.slice A0_0 l0_0.length c0_0) := (blk_cell BK120.out 0).trans rfl; have hcz8_1 : w7.cell? ⟨gb120, 1, none⟩ = some (.int .i64 a0_1) := (blk_cell BK120.out 1).trans rfl; have hfz8_0 := blk_frozen BK120.out 0; have hfz8_1 := blk_frozen BK120.out 1) | ((with_reducible refine gate_callee (f := 66) rfl ?_); refine goesL_ (some 6) rfl rfl Try.func66 (by kernel_rfl) rfl #[.int .i64 (l0_0.length : Int), .int .i64 1, .int .i64 4] rfl aT ?_; (with_reducible refine (spec_l1In.calls (l0_0.length : Int) 1 4 true _ A2.out).mono ?_); rintro e w' ⟨rfl, ⟨nd, rfl⟩⟩; refine ⟨_, rfl, ?_⟩) | (go_at_call 156; (with_reducible refine (spec_l2Numbers.calls k _ _ l0_0 99 true _ ?side1 ?side2 A4.out).mono ?_); (case side1 => repeat (first | exact (Kd.C_below HR0_0.out (bC HB GE120)) | (with_reducible refine Kd.C_alloc ?_ _) | (with_reducible refine Kd.C_drewN ?_ _) | (with_reducible refine Kd.C_drew ?_))); (case side2 => exact HC0_0.out); rintro e w' ⟨rfl, ⟨nd, rfl⟩⟩) | (go_at_call 66; (with_reducible refine (spec_l1In.calls a0_1 (-99) 99 t123 _ A6.out).mono ?_); rintro e w' ⟨rfl, ⟨nd, rfl⟩⟩))
     go_ret
     exact ⟨eW, bC HB GE120⟩
   · replace c5 := Bool.eq_false_iff.mpr c5
     subst c5
     have H1 : (some false) = some r := by rw [if_neg (show ¬ (false = true) by decide)] at H; exact H
     clear H
     have H := H1
     clear H1
     obtain rfl := Option.some.inj H
     go_enter Try.func131, Try.ntmps131
     go_wp2_with (first | ((with_reducible refine gate_dst (N := 1) rfl ?_); refine box_event ?hg (N := 1) ?hd (cs := #[.slice A0_0 l0_0.length c0_0, .int .i64 a0_1]) (t := 42) ?hr ?_; (case hd => rfl); (case hg => rfl); (case hr => first | (go_simp; done) | (go_simp; rfl)); intro gb120 hg w9 hbox hb; have n0_ := Aside0.mk (below_step (bB HB) hb); have n1_ := Aside0.mk (hbox); have n2_ := Aside0.mk ((by rw [hg]; exact (below_size (bB HB)) : w.heap.size ≤ gb120)); have n3_ := Aside0.mk ((by rw [hg]; exact (below_size (bB HB)) : w.heap.size ≤ gb120)); clear HB; have HB := n0_; have BK120 := n1_; have GW120 := n2_; have GE120 := n3_; clear n0_ n1_ n2_ n3_; clear hb hbox hg; have hcz10_0 : w9.cell? ⟨gb120, 0, none⟩ = some (.slice A0_0 l0_0.length c0_0) := (blk_cell BK120.out 0).trans rfl; have hcz10_1 : w9.cell? ⟨gb120, 1, none⟩ = some (.int .i64 a0_1) := (blk_cell BK120.out 1).trans rfl; have hfz10_0 := blk_frozen BK120.out 0; have hfz10_1 := blk_frozen BK120.out 1) | ((with_reducible refine gate_callee (f := 66) rfl ?_); refine goesL_ (some 6) rfl rfl Try.func66 (by kernel_rfl) rfl #[.int .i64 (l0_0.length : Int), .int .i64 1, .int .i64 4] rfl aT ?_; (with_reducible refine (spec_l1In.calls (l0_0.length : Int) 1 4 true _ A2.out).mono ?_); rintro e w' ⟨rfl, ⟨nd, rfl⟩⟩; refine ⟨_, rfl, ?_⟩) | (go_at_call 156; (with_reducible refine (spec_l2Numbers.calls k _ _ l0_0 99 false _ ?side1 ?side2 A4.out).mono ?_); (case side1 => repeat (first | exact (Kd.C_below HR0_0.out (bC HB GE120)) | (with_reducible refine Kd.C_alloc ?_ _) | (with_reducible refine Kd.C_drewN ?_ _) | (with_reducible refine Kd.C_drew ?_))); (case side2 => exact HC0_0.out); rintro e w' ⟨rfl, ⟨nd, rfl⟩⟩))
     go_ret
     exact ⟨eW, bC HB GE120⟩
 · replace c3 := Bool.eq_false_iff.mpr c3
   subst c3
   have H1 : (some false) = some r := by rw [if_neg (show ¬ (false = true) by decide)] at H; exact H
   clear H
   have H := H1
   clear H1
   obtain rfl := Option.some.inj H
   go_enter Try.func131, Try.ntmps131
   go_wp2_with (first | ((with_reducible refine gate_dst (N := 1) rfl ?_); refine box_event ?hg (N := 1) ?hd (cs := #[.slice A0_0 l0_0.length c0_0, .int .i64 a0_1]) (t := 42) ?hr ?_; (case hd => rfl); (case hg => rfl); (case hr => first | (go_simp; done) | (go_simp; rfl)); intro gb120 hg w11 hbox hb; have n0_ := Aside0.mk (below_step (bB HB) hb); have n1_ := Aside0.mk (hbox); have n2_ := Aside0.mk ((by rw [hg]; exact (below_size (bB HB)) : w.heap.size ≤ gb120)); have n3_ := Aside0.mk ((by rw [hg]; exact (below_size (bB HB)) : w.heap.size ≤ gb120)); clear HB; have HB := n0_; have BK120 := n1_; have GW120 := n2_; have GE120 := n3_; clear n0_ n1_ n2_ n3_; clear hb hbox hg; have hcz12_0 : w11.cell? ⟨gb120, 0, none⟩ = some (.slice A0_0 l0_0.length c0_0) := (blk_cell BK120.out 0).trans rfl; have hcz12_1 : w11.cell? ⟨gb120, 1, none⟩ = some (.int .i64 a0_1) := (blk_cell BK120.out 1).trans rfl; have hfz12_0 := blk_frozen BK120.out 0; have hfz12_1 := blk_frozen BK120.out 1) | ((with_reducible refine gate_callee (f := 66) rfl ?_); refine goesL_ (some 6) rfl rfl Try.func66 (by kernel_rfl) rfl #[.int .i64 (l0_0.length : Int), .int .i64 1, .int .i64 4] rfl aT ?_; (with_reducible refine (spec_l1In.calls (l0_0.length : Int) 1 4 false _ A2.out).mono ?_); rintro e w' ⟨rfl, ⟨nd, rfl⟩⟩; refine ⟨_, rfl, ?_⟩))
   go_ret
   exact ⟨eW, bC HB GE120⟩

/-! ### spec_l9Good: function 94 -/
mutual
def spec_l9Good.j0 : Nat → Bool → Int → List (List (S42)) → Option (Bool)
 | 0, _, _, _ => none
 | k + 1, x16, x125000, x125001 => if x16 = true then (some false) else (spec_l9Good.l0 k x125000 0 x125000 x125001)
def spec_l9Good.l0 : Nat → Int → Int → Int → List (List (S42)) → Option (Bool)
 | 0, _, _, _, _ => none
 | k + 1, x3, x4, x125000, x125001 => if x4 < (x125001.length : Int) then (spec_l9Good.l1 k x3 x4 0 x125000 x125001) else (some true)
def spec_l9Good.l1 : Nat → Int → Int → Int → Int → List (List (S42)) → Option (Bool)
 | 0, _, _, _, _, _ => none
 | k + 1, x3, x4, x5, x125000, x125001 => if 0 ≤ x4 then (if x4 < (x125001.length : Int) then (if x5 < ((rd_L5 x125001 x4).length : Int) then (if 0 ≤ x5 then ((spec_l2Plane.f k ((rd_T42 (rd_L5 x125001 x4) x5).f0) ((rd_T42 (rd_L5 x125001 x4) x5).f1)).bind fun t130 => (if t130 = true then (if (((rd_T42 (rd_L5 x125001 x4) x5).f0).length : Int) = x3 then (spec_l9Good.l1 k x3 x4 (wrap64 (x5 + 1)) x125000 x125001) else (some false)) else (some false))) else (none)) else ((spec_l1In.f ((rd_L5 x125001 x4).length : Int) 1 4).bind fun t134 => (if t134 = true then (spec_l9Good.l0 k ((rd_L5 x125001 x4).length : Int) (wrap64 (x4 + 1)) x125000 x125001) else (some false)))) else (none)) else (none)
end
def spec_l9Good.f (k : Nat) (a0_0 : Int) (l0_1 : List (List (S42))) : Option (Bool) := (spec_l1In.f a0_0 1 4).bind fun t125 => (if t125 = true then ((spec_l1In.f (l0_1.length : Int) 1 6).bind fun t126 => (spec_l9Good.j0 k (!t126) a0_0 l0_1)) else (spec_l9Good.j0 k true a0_0 l0_1))
set_option maxHeartbeats 8000000 in
set_option maxRecDepth 100000 in
theorem spec_l9Good.calls (k : Nat) (a0_0 : Int) (A0_1 : Option Addr) (c0_1 : Nat) (l0_1 : List (List (S42))) (r : Bool) (w : World) (hr0_1 : Kd.C (Kd.slice 42 k42) w A0_1 l0_1.length l0_1) (hc0_1 : l0_1.length ≤ c0_1) (h : spec_l9Good.f k a0_0 l0_1 = some r) :
 Calls Try.prog 94 #[.agg #[.int .i64 a0_0, .slice A0_1 l0_1.length c0_1]] w fun e w' => e = .returned (.bool r) ∧ Below w.heap.size w w' := by
 have hu62 := Try.underlying62
 have hu42 := Try.underlying42
 have HR0_1 := Aside0.mk hr0_1
 have HC0_1 := Aside0.mk hc0_1
 clear hr0_1 hc0_1
 have HB := Aside0.mk (Below.refl w.heap.size w)
 have H : ((spec_l1In.f a0_0 1 4).bind fun t125 => (if t125 = true then ((spec_l1In.f (l0_1.length : Int) 1 6).bind fun t126 => (spec_l9Good.j0 k (!t126) a0_0 l0_1)) else (spec_l9Good.j0 k true a0_0 l0_1))) = some r := h
 clear h
 have HC2 := Aside0.mk H
 clear H
 go_enter Try.func94, Try.ntmps94
 go_upto_region 1 with (first | ((with_reducible refine gate_dst (N := 1) rfl ?_); refine box_event ?hg (N := 1) ?hd (cs := #[.int .i64 a0_0, .slice A0_1 l0_1.length c0_1]) (t := 62) ?hr ?_; (case hd => rfl); (case hg => rfl); (case hr => first | (go_simp; done) | (go_simp; rfl)); intro gb124 hg w3 hbox hb; have n0_ := Aside0.mk (below_step (bB HB) hb); have n1_ := Aside0.mk (hbox); have n2_ := Aside0.mk ((by rw [hg]; exact (below_size (bB HB)) : w.heap.size ≤ gb124)); have n3_ := Aside0.mk ((by rw [hg]; exact (below_size (bB HB)) : w.heap.size ≤ gb124)); clear HB; have HB := n0_; have BK124 := n1_; have GW124 := n2_; have GE124 := n3_; clear n0_ n1_ n2_ n3_; clear hb hbox hg))
 (try simp only [Act.put, List.setIfInBounds_toArray, List.set_cons_zero, List.set_cons_succ])
 go_cut [16] (fun v16 wc => ∃ (kq : Nat) (x16_1 : Bool), v16 = .bool x16_1 ∧ Aside0 (spec_l9Good.j0 kq x16_1 a0_0 l0_1 = some r) ∧ Aside0 (kq ≤ k) ∧ Aside0 (wc.heap[gb124]? = some (.cells #[.int .i64 a0_0, (.slice A0_1 l0_1.length c0_1)] 62 (0, 0))) ∧ Aside0 (Below w.heap.size w wc))
 case first =>
  have H := HC2.out
  clear HC2
  replace H := Option.bind_eq_some_iff.mp H
  obtain ⟨t125, A40, H⟩ := H
  replace H : (if t125 = true then ((spec_l1In.f (l0_1.length : Int) 1 6).bind fun t126 => (spec_l9Good.j0 k (!t126) a0_0 l0_1)) else (spec_l9Good.j0 k true a0_0 l0_1)) = some r := H
  have A4 := Aside0.mk A40
  clear A40
  by_cases c5 : t125 = true
  · subst c5
    have H1 : ((spec_l1In.f (l0_1.length : Int) 1 6).bind fun t126 => (spec_l9Good.j0 k (!t126) a0_0 l0_1)) = some r := by rw [if_pos rfl] at H; exact H
    clear H
    have H := H1
    clear H1
    replace H := Option.bind_eq_some_iff.mp H
    obtain ⟨t126, A60, H⟩ := H
    replace H : (spec_l9Good.j0 k (!t126) a0_0 l0_1) = some r := H
    have A6 := Aside0.mk A60
    clear A60
    have H' := Aside0.mk H
    clear H
    have hcz7_0 : w3.cell? ⟨gb124, 0, none⟩ = some (.int .i64 a0_0) := (blk_cell BK124.out 0).trans rfl
    have hcz7_1 : w3.cell? ⟨gb124, 1, none⟩ = some (.slice A0_1 l0_1.length c0_1) := (blk_cell BK124.out 1).trans rfl
    have hfz7_0 := blk_frozen BK124.out 0
    have hfz7_1 := blk_frozen BK124.out 1
    go_wp2_with (first | ((with_reducible refine gate_callee (f := 66) rfl ?_); refine goesL_ (some 8) rfl rfl Try.func66 (by kernel_rfl) rfl #[.int .i64 a0_0, .int .i64 1, .int .i64 4] rfl aT ?_; (with_reducible refine (spec_l1In.calls a0_0 1 4 true _ A4.out).mono ?_); rintro e w' ⟨rfl, ⟨nd, rfl⟩⟩; refine ⟨_, rfl, ?_⟩) | (go_at_call 66; (with_reducible refine (spec_l1In.calls (l0_1.length : Int) 1 6 t126 _ A6.out).mono ?_); rintro e w' ⟨rfl, ⟨nd, rfl⟩⟩))
    go_meet
    case rel => exact ⟨_, (!t126), rD, H', ⟨by first | omega | exact Nat.le_refl _⟩, ⟨pB BK124⟩, ⟨bC HB GE124⟩⟩
  · replace c5 := Bool.eq_false_iff.mpr c5
    subst c5
    have H1 : (spec_l9Good.j0 k true a0_0 l0_1) = some r := by rw [if_neg (show ¬ (false = true) by decide)] at H; exact H
    clear H
    have H := H1
    clear H1
    have H' := Aside0.mk H
    clear H
    have hcz8_0 : w3.cell? ⟨gb124, 0, none⟩ = some (.int .i64 a0_0) := (blk_cell BK124.out 0).trans rfl
    have hcz8_1 : w3.cell? ⟨gb124, 1, none⟩ = some (.slice A0_1 l0_1.length c0_1) := (blk_cell BK124.out 1).trans rfl
    have hfz8_0 := blk_frozen BK124.out 0
    have hfz8_1 := blk_frozen BK124.out 1
    go_wp2_with (first | ((with_reducible refine gate_callee (f := 66) rfl ?_); refine goesL_ (some 8) rfl rfl Try.func66 (by kernel_rfl) rfl #[.int .i64 a0_0, .int .i64 1, .int .i64 4] rfl aT ?_; (with_reducible refine (spec_l1In.calls a0_0 1 4 false _ A4.out).mono ?_); rintro e w' ⟨rfl, ⟨nd, rfl⟩⟩; refine ⟨_, rfl, ?_⟩))
    go_meet
    case rel => exact ⟨_, (true), rD, H', ⟨by first | omega | exact Nat.le_refl _⟩, ⟨pB BK124⟩, ⟨bC HB GE124⟩⟩
 case rest =>
  clear HC2
  try clear p2
  try clear c5
  try clear c6
  try clear hcz7_0
  try clear hcz7_1
  try clear hcz8_0
  try clear hcz8_1
  try clear hfz7_0
  try clear hfz7_1
  try clear hfz8_0
  try clear hfz8_1
  obtain ⟨kq, x16_1, rfl, HA, HJ1, BK124, HB⟩ := hcut
  cases kq with
  | zero => exact absurd HA.out (by simp [spec_l9Good.j0])
  | succ kj1 =>
   have H := HA.out
   clear HA
   simp only [spec_l9Good.j0] at H
   by_cases c9 : x16_1 = true
   · subst c9
     have H1 : (some false) = some r := by rw [if_pos rfl] at H; exact H
     clear H
     have H := H1
     clear H1
     obtain rfl := Option.some.inj H
     go_wp2
     go_ret
     exact ⟨eW, bC HB GE124⟩
   · replace c9 := Bool.eq_false_iff.mpr c9
     subst c9
     have H1 : (spec_l9Good.l0 kj1 a0_0 0 a0_0 l0_1) = some r := by rw [if_neg (show ¬ (false = true) by decide)] at H; exact H
     clear H
     have H := H1
     clear H1
     have H' := Aside0.mk H
     clear H
     have hcz10_0 : wc.cell? ⟨gb124, 0, none⟩ = some (.int .i64 a0_0) := (blk_cell BK124.out 0).trans rfl
     have hcz10_1 : wc.cell? ⟨gb124, 1, none⟩ = some (.slice A0_1 l0_1.length c0_1) := (blk_cell BK124.out 1).trans rfl
     have hfz10_0 := blk_frozen BK124.out 0
     have hfz10_1 := blk_frozen BK124.out 1
     go_wp2
     go_loopg [3, 4] kj1 (fun kq v3 v4 w' => ∃ (x3_2 : Int) (x4_2 : Int), v3 = .int .i64 x3_2 ∧ v4 = .int .i64 x4_2 ∧ Aside0 (spec_l9Good.l0 kq x3_2 x4_2 a0_0 l0_1 = some r) ∧ Aside0 (kq ≤ kj1) ∧ Aside0 (w'.heap[gb124]? = some (.cells #[.int .i64 a0_0, (.slice A0_1 l0_1.length c0_1)] 62 (0, 0))) ∧ Aside0 (Below w.heap.size w w'))
     case atStart => exact ⟨(a0_0), (0), rD, rD, H', ⟨Nat.le_refl _⟩, ⟨pB BK124⟩, ⟨bC HB GE124⟩⟩
     case round =>
      clear H'
      try clear p2
      try clear c5
      try clear c6
      try clear c9
      try clear hcz10_0
      try clear hcz10_1
      try clear hcz7_0
      try clear hcz7_1
      try clear hcz8_0
      try clear hcz8_1
      try clear hfz10_0
      try clear hfz10_1
      try clear hfz7_0
      try clear hfz7_1
      try clear hfz8_0
      try clear hfz8_1
      try clear p2
      obtain ⟨x3_2, x4_2, rfl, rfl, HA, HK2, BK124, HB⟩ := hrel
      cases gk with
      | zero => exact absurd HA.out (by simp [spec_l9Good.l0])
      | succ k2 =>
       have H := HA.out
       clear HA
       simp only [spec_l9Good.l0] at H
       by_cases c11 : x4_2 < (l0_1.length : Int)
       · rw [if_pos c11] at H
         have c11b0 : decide (x4_2 < (l0_1.length : Int)) = true := decide_eq_true c11
         clear c11
         have H' := Aside0.mk H
         clear H
         have hcz12_0 : wr.cell? ⟨gb124, 0, none⟩ = some (.int .i64 a0_0) := (blk_cell BK124.out 0).trans rfl
         have hcz12_1 : wr.cell? ⟨gb124, 1, none⟩ = some (.slice A0_1 l0_1.length c0_1) := (blk_cell BK124.out 1).trans rfl
         have hfz12_0 := blk_frozen BK124.out 0
         have hfz12_1 := blk_frozen BK124.out 1
         go_wp2
         go_loopg [5] k2 (fun kq v5 w' => ∃ (x5_3 : Int), v5 = .int .i64 x5_3 ∧ Aside0 (spec_l9Good.l1 kq x3_2 x4_2 x5_3 a0_0 l0_1 = some r) ∧ Aside0 (kq ≤ k2) ∧ Aside0 (w'.heap[gb124]? = some (.cells #[.int .i64 a0_0, (.slice A0_1 l0_1.length c0_1)] 62 (0, 0))) ∧ Aside0 (Below w.heap.size w w'))
         case atStart => exact ⟨(0), rD, H', ⟨Nat.le_refl _⟩, ⟨pB BK124⟩, ⟨bC HB GE124⟩⟩
         case round =>
          clear H'
          try clear c1
          try clear p2
          try clear c5
          try clear c6
          try clear c9
          try clear c11
          try clear c11b0
          try clear hcz10_0
          try clear hcz10_1
          try clear hcz12_0
          try clear hcz12_1
          try clear hcz7_0
          try clear hcz7_1
          try clear hcz8_0
          try clear hcz8_1
          try clear hfz10_0
          try clear hfz10_1
          try clear hfz12_0
          try clear hfz12_1
          try clear hfz7_0
          try clear hfz7_1
          try clear hfz8_0
          try clear hfz8_1
          try clear p2
          obtain ⟨x5_3, rfl, HA, HK3, BK124, HB⟩ := hrel
          cases gk with
          | zero => exact absurd HA.out (by simp [spec_l9Good.l1])
          | succ k3 =>
           have H := HA.out
           clear HA
           simp only [spec_l9Good.l1] at H
           by_cases c13 : 0 ≤ x4_2
           · rw [if_pos c13] at H
             have c13b0 : decide (0 ≤ x4_2) = true := decide_eq_true c13
             clear c13
             by_cases c14 : x4_2 < (l0_1.length : Int)
             · rw [if_pos c14] at H
               have c14b0 : decide (x4_2 < (l0_1.length : Int)) = true := decide_eq_true c14
               clear c14
               by_cases c15 : x5_3 < ((rd_L5 l0_1 x4_2).length : Int)
               · rw [if_pos c15] at H
                 have c15b0 : decide (x5_3 < ((rd_L5 l0_1 x4_2).length : Int)) = true := decide_eq_true c15
                 clear c15
                 by_cases c16 : 0 ≤ x5_3
                 · rw [if_pos c16] at H
                   have c16b0 : decide (0 ≤ x5_3) = true := decide_eq_true c16
                   clear c16
                   replace H := Option.bind_eq_some_iff.mp H
                   obtain ⟨t130, A170, H⟩ := H
                   replace H : (if t130 = true then (if (((rd_T42 (rd_L5 l0_1 x4_2) x5_3).f0).length : Int) = x3_2 then (spec_l9Good.l1 k3 x3_2 x4_2 (wrap64 (x5_3 + 1)) a0_0 l0_1) else (some false)) else (some false)) = some r := H
                   have A17 := Aside0.mk A170
                   clear A170
                   by_cases c18 : t130 = true
                   · subst c18
                     have H1 : (if (((rd_T42 (rd_L5 l0_1 x4_2) x5_3).f0).length : Int) = x3_2 then (spec_l9Good.l1 k3 x3_2 x4_2 (wrap64 (x5_3 + 1)) a0_0 l0_1) else (some false)) = some r := by rw [if_pos rfl] at H; exact H
                     clear H
                     have H := H1
                     clear H1
                     by_cases c19 : (((rd_T42 (rd_L5 l0_1 x4_2) x5_3).f0).length : Int) = x3_2
                     · rw [if_pos c19] at H
                       have c19b0 : ((((rd_T42 (rd_L5 l0_1 x4_2) x5_3).f0).length : Int) == x3_2) = true := beq_iff_eq.mpr c19
                       have c19b1 : ((((rd_T42 (rd_L5 l0_1 x4_2) x5_3).f0).length : Int) != x3_2) = false := bne_eq_false_iff_eq.mpr c19
                       clear c19
                       have H' := Aside0.mk H
                       clear H
                       have hcz20_0 : wr.cell? ⟨gb124, 0, none⟩ = some (.int .i64 a0_0) := (blk_cell BK124.out 0).trans rfl
                       have hcz20_1 : wr.cell? ⟨gb124, 1, none⟩ = some (.slice A0_1 l0_1.length c0_1) := (blk_cell BK124.out 1).trans rfl
                       have hfz20_0 := blk_frozen BK124.out 0
                       have hfz20_1 := blk_frozen BK124.out 1
                       have p127 : 0 ≤ (x4_2 : Int) := of_decide_eq_true aS
                       have q127 : x4_2 < (l0_1.length : Int) := of_decide_eq_true aS
                       obtain ⟨ad127, A127_0, c127_0, e127, hx127_0, hl127_0, hi127_0⟩ := at_L5 HR0_1.out x4_2 p127 q127
                       cases e127
                       replace hx127_0 := (HB.out.cell (World.block_lt_of_cell? w _ hx127_0)).trans hx127_0
                       have HR127_0 := Aside0.mk hi127_0
                       have HC127_0 := Aside0.mk hl127_0
                       clear hi127_0 hl127_0
                       replace p127 := eq_true p127
                       replace q127 := eq_true q127
                       have p128 : 0 ≤ (x4_2 : Int) := of_decide_eq_true aS
                       have q128 : x4_2 < (l0_1.length : Int) := of_decide_eq_true aS
                       obtain ⟨ad128, A128_0, c128_0, e128, hx128_0, hl128_0, hi128_0⟩ := at_L5 HR0_1.out x4_2 p128 q128
                       obtain rfl : ad127 = ad128 := (by injection e128)
                       replace hx128_0 := (HB.out.cell (World.block_lt_of_cell? w _ hx128_0)).trans hx128_0
                       have HR128_0 := Aside0.mk hi128_0
                       have HC128_0 := Aside0.mk hl128_0
                       clear hi128_0 hl128_0
                       replace p128 := eq_true p128
                       replace q128 := eq_true q128
                       have ea_ := Option.some.inj (hx127_0.symm.trans hx128_0)
                       injection ea_ with ea_ en_ ec_
                       subst ea_
                       subst ec_
                       clear en_
                       have p129 : 0 ≤ (x5_3 : Int) := of_decide_eq_true aS
                       have q129 : x5_3 < ((rd_L5 l0_1 x4_2).length : Int) := of_decide_eq_true aS
                       obtain ⟨ad129, A129_0, c129_0, e129, hx129_0, hx129_1, hl129_0, hi129_0⟩ := at_T42 HR128_0.out x5_3 p129 q129
                       cases e129
                       replace hx129_0 := (HB.out.cell (World.block_lt_of_cell? w _ hx129_0)).trans hx129_0
                       replace hx129_1 := (HB.out.cell (World.block_lt_of_cell? w _ hx129_1)).trans hx129_1
                       have HR129_0 := Aside0.mk hi129_0
                       have HC129_0 := Aside0.mk hl129_0
                       clear hi129_0 hl129_0
                       replace p129 := eq_true p129
                       replace q129 := eq_true q129
                       go_wp2_with (first | ((with_reducible refine gate_callee (f := 131) rfl ?_); refine goesL_ (some 44) rfl rfl Try.func131 (by kernel_rfl) rfl #[.agg #[.slice A129_0 ((rd_T42 (rd_L5 l0_1 x4_2) x5_3).f0).length c129_0, .int .i64 ((rd_T42 (rd_L5 l0_1 x4_2) x5_3).f1)]] rfl aT ?_; (with_reducible refine (spec_l2Plane.calls k3 _ _ ((rd_T42 (rd_L5 l0_1 x4_2) x5_3).f0) ((rd_T42 (rd_L5 l0_1 x4_2) x5_3).f1) true _ ?side1 ?side2 A17.out).mono ?_); (case side1 => exact cB HR129_0 HB); (case side2 => exact HC129_0.out); rintro e w21 ⟨rfl, hb⟩; refine ⟨_, rfl, ?_⟩; have n0_ := Aside0.mk (blk_below (g := gb124) (o := .cells #[.int .i64 a0_0, .slice (some ad127) l0_1.length c0_1] 62 (0, 0)) (pB BK124) hb); have n1_ := Aside0.mk (below_step (bC HB GE124) hb); clear BK124; clear HB; have BK124 := n0_; have HB := n1_; clear n0_ n1_; (try clear hb); (try clear hb2); (try clear hk); (try clear hi); have hcz22_0 : w21.cell? ⟨gb124, 0, none⟩ = some (.int .i64 a0_0) := (blk_cell BK124.out 0).trans rfl; have hcz22_1 : w21.cell? ⟨gb124, 1, none⟩ = some (.slice (some ad127) l0_1.length c0_1) := (blk_cell BK124.out 1).trans rfl; have hfz22_0 := blk_frozen BK124.out 0; have hfz22_1 := blk_frozen BK124.out 1; have p131 : 0 ≤ (x4_2 : Int) := of_decide_eq_true aS; have q131 : x4_2 < (l0_1.length : Int) := of_decide_eq_true aS; obtain ⟨ad131, A131_0, c131_0, e131, hx131_0, hl131_0, hi131_0⟩ := at_L5 HR0_1.out x4_2 p131 q131; obtain rfl : ad127 = ad131 := (by injection e131); replace hx131_0 := (HB.out.cell (World.block_lt_of_cell? w _ hx131_0)).trans hx131_0; have HR131_0 := Aside0.mk hi131_0; have HC131_0 := Aside0.mk hl131_0; clear hi131_0 hl131_0; replace p131 := eq_true p131; replace q131 := eq_true q131; have p132 : 0 ≤ (x5_3 : Int) := of_decide_eq_true aS; have q132 : x5_3 < ((rd_L5 l0_1 x4_2).length : Int) := of_decide_eq_true aS; obtain ⟨ad132, A132_0, c132_0, e132, hx132_0, hx132_1, hl132_0, hi132_0⟩ := at_T42 HR131_0.out x5_3 p132 q132; cases e132; replace hx132_0 := (HB.out.cell (World.block_lt_of_cell? w _ hx132_0)).trans hx132_0; replace hx132_1 := (HB.out.cell (World.block_lt_of_cell? w _ hx132_1)).trans hx132_1; have HR132_0 := Aside0.mk hi132_0; have HC132_0 := Aside0.mk hl132_0; clear hi132_0 hl132_0; replace p132 := eq_true p132; replace q132 := eq_true q132))
                       go_roundg k3
                       case measure => have := HJ1.out; have := HK2.out; have := HK3.out; omega
                       case rel => exact ⟨(wrap64 (x5_3 + 1)), rD, H', ⟨by have := HJ1.out; have := HK2.out; have := HK3.out; omega⟩, ⟨pB BK124⟩, ⟨bC HB GE124⟩⟩
                     · rw [if_neg c19] at H
                       have c19b0 : ((((rd_T42 (rd_L5 l0_1 x4_2) x5_3).f0).length : Int) == x3_2) = false := beq_eq_false_iff_ne.mpr c19
                       have c19b1 : ((((rd_T42 (rd_L5 l0_1 x4_2) x5_3).f0).length : Int) != x3_2) = true := bne_iff_ne.mpr c19
                       obtain rfl := Option.some.inj H
                       have hcz23_0 : wr.cell? ⟨gb124, 0, none⟩ = some (.int .i64 a0_0) := (blk_cell BK124.out 0).trans rfl
                       have hcz23_1 : wr.cell? ⟨gb124, 1, none⟩ = some (.slice A0_1 l0_1.length c0_1) := (blk_cell BK124.out 1).trans rfl
                       have hfz23_0 := blk_frozen BK124.out 0
                       have hfz23_1 := blk_frozen BK124.out 1
                       have p127 : 0 ≤ (x4_2 : Int) := of_decide_eq_true aS
                       have q127 : x4_2 < (l0_1.length : Int) := of_decide_eq_true aS
                       obtain ⟨ad127, A127_0, c127_0, e127, hx127_0, hl127_0, hi127_0⟩ := at_L5 HR0_1.out x4_2 p127 q127
                       cases e127
                       replace hx127_0 := (HB.out.cell (World.block_lt_of_cell? w _ hx127_0)).trans hx127_0
                       have HR127_0 := Aside0.mk hi127_0
                       have HC127_0 := Aside0.mk hl127_0
                       clear hi127_0 hl127_0
                       replace p127 := eq_true p127
                       replace q127 := eq_true q127
                       have p128 : 0 ≤ (x4_2 : Int) := of_decide_eq_true aS
                       have q128 : x4_2 < (l0_1.length : Int) := of_decide_eq_true aS
                       obtain ⟨ad128, A128_0, c128_0, e128, hx128_0, hl128_0, hi128_0⟩ := at_L5 HR0_1.out x4_2 p128 q128
                       obtain rfl : ad127 = ad128 := (by injection e128)
                       replace hx128_0 := (HB.out.cell (World.block_lt_of_cell? w _ hx128_0)).trans hx128_0
                       have HR128_0 := Aside0.mk hi128_0
                       have HC128_0 := Aside0.mk hl128_0
                       clear hi128_0 hl128_0
                       replace p128 := eq_true p128
                       replace q128 := eq_true q128
                       have ea_ := Option.some.inj (hx127_0.symm.trans hx128_0)
                       injection ea_ with ea_ en_ ec_
                       subst ea_
                       subst ec_
                       clear en_
                       have p129 : 0 ≤ (x5_3 : Int) := of_decide_eq_true aS
                       have q129 : x5_3 < ((rd_L5 l0_1 x4_2).length : Int) := of_decide_eq_true aS
                       obtain ⟨ad129, A129_0, c129_0, e129, hx129_0, hx129_1, hl129_0, hi129_0⟩ := at_T42 HR128_0.out x5_3 p129 q129
                       cases e129
                       replace hx129_0 := (HB.out.cell (World.block_lt_of_cell? w _ hx129_0)).trans hx129_0
                       replace hx129_1 := (HB.out.cell (World.block_lt_of_cell? w _ hx129_1)).trans hx129_1
                       have HR129_0 := Aside0.mk hi129_0
                       have HC129_0 := Aside0.mk hl129_0
                       clear hi129_0 hl129_0
                       replace p129 := eq_true p129
                       replace q129 := eq_true q129
                       go_wp2_with (first | ((with_reducible refine gate_callee (f := 131) rfl ?_); refine goesL_ (some 44) rfl rfl Try.func131 (by kernel_rfl) rfl #[.agg #[.slice A129_0 ((rd_T42 (rd_L5 l0_1 x4_2) x5_3).f0).length c129_0, .int .i64 ((rd_T42 (rd_L5 l0_1 x4_2) x5_3).f1)]] rfl aT ?_; (with_reducible refine (spec_l2Plane.calls k3 _ _ ((rd_T42 (rd_L5 l0_1 x4_2) x5_3).f0) ((rd_T42 (rd_L5 l0_1 x4_2) x5_3).f1) true _ ?side1 ?side2 A17.out).mono ?_); (case side1 => exact cB HR129_0 HB); (case side2 => exact HC129_0.out); rintro e w24 ⟨rfl, hb⟩; refine ⟨_, rfl, ?_⟩; have n0_ := Aside0.mk (blk_below (g := gb124) (o := .cells #[.int .i64 a0_0, .slice (some ad127) l0_1.length c0_1] 62 (0, 0)) (pB BK124) hb); have n1_ := Aside0.mk (below_step (bC HB GE124) hb); clear BK124; clear HB; have BK124 := n0_; have HB := n1_; clear n0_ n1_; (try clear hb); (try clear hb2); (try clear hk); (try clear hi); have hcz25_0 : w24.cell? ⟨gb124, 0, none⟩ = some (.int .i64 a0_0) := (blk_cell BK124.out 0).trans rfl; have hcz25_1 : w24.cell? ⟨gb124, 1, none⟩ = some (.slice (some ad127) l0_1.length c0_1) := (blk_cell BK124.out 1).trans rfl; have hfz25_0 := blk_frozen BK124.out 0; have hfz25_1 := blk_frozen BK124.out 1; have p131 : 0 ≤ (x4_2 : Int) := of_decide_eq_true aS; have q131 : x4_2 < (l0_1.length : Int) := of_decide_eq_true aS; obtain ⟨ad131, A131_0, c131_0, e131, hx131_0, hl131_0, hi131_0⟩ := at_L5 HR0_1.out x4_2 p131 q131; obtain rfl : ad127 = ad131 := (by injection e131); replace hx131_0 := (HB.out.cell (World.block_lt_of_cell? w _ hx131_0)).trans hx131_0; have HR131_0 := Aside0.mk hi131_0; have HC131_0 := Aside0.mk hl131_0; clear hi131_0 hl131_0; replace p131 := eq_true p131; replace q131 := eq_true q131; have p132 : 0 ≤ (x5_3 : Int) := of_decide_eq_true aS; have q132 : x5_3 < ((rd_L5 l0_1 x4_2).length : Int) := of_decide_eq_true aS; obtain ⟨ad132, A132_0, c132_0, e132, hx132_0, hx132_1, hl132_0, hi132_0⟩ := at_T42 HR131_0.out x5_3 p132 q132; cases e132; replace hx132_0 := (HB.out.cell (World.block_lt_of_cell? w _ hx132_0)).trans hx132_0; replace hx132_1 := (HB.out.cell (World.block_lt_of_cell? w _ hx132_1)).trans hx132_1; have HR132_0 := Aside0.mk hi132_0; have HC132_0 := Aside0.mk hl132_0; clear hi132_0 hl132_0; replace p132 := eq_true p132; replace q132 := eq_true q132))
                       go_ret
                       exact ⟨eW, bC HB GE124⟩
                   · replace c18 := Bool.eq_false_iff.mpr c18
                     subst c18
                     have H1 : (some false) = some r := by rw [if_neg (show ¬ (false = true) by decide)] at H; exact H
                     clear H
                     have H := H1
                     clear H1
                     obtain rfl := Option.some.inj H
                     have hcz26_0 : wr.cell? ⟨gb124, 0, none⟩ = some (.int .i64 a0_0) := (blk_cell BK124.out 0).trans rfl
                     have hcz26_1 : wr.cell? ⟨gb124, 1, none⟩ = some (.slice A0_1 l0_1.length c0_1) := (blk_cell BK124.out 1).trans rfl
                     have hfz26_0 := blk_frozen BK124.out 0
                     have hfz26_1 := blk_frozen BK124.out 1
                     have p127 : 0 ≤ (x4_2 : Int) := of_decide_eq_true aS
                     have q127 : x4_2 < (l0_1.length : Int) := of_decide_eq_true aS
                     obtain ⟨ad127, A127_0, c127_0, e127, hx127_0, hl127_0, hi127_0⟩ := at_L5 HR0_1.out x4_2 p127 q127
                     cases e127
                     replace hx127_0 := (HB.out.cell (World.block_lt_of_cell? w _ hx127_0)).trans hx127_0
                     have HR127_0 := Aside0.mk hi127_0
                     have HC127_0 := Aside0.mk hl127_0
                     clear hi127_0 hl127_0
                     replace p127 := eq_true p127
                     replace q127 := eq_true q127
                     have p128 : 0 ≤ (x4_2 : Int) := of_decide_eq_true aS
                     have q128 : x4_2 < (l0_1.length : Int) := of_decide_eq_true aS
                     obtain ⟨ad128, A128_0, c128_0, e128, hx128_0, hl128_0, hi128_0⟩ := at_L5 HR0_1.out x4_2 p128 q128
                     obtain rfl : ad127 = ad128 := (by injection e128)
                     replace hx128_0 := (HB.out.cell (World.block_lt_of_cell? w _ hx128_0)).trans hx128_0
                     have HR128_0 := Aside0.mk hi128_0
                     have HC128_0 := Aside0.mk hl128_0
                     clear hi128_0 hl128_0
                     replace p128 := eq_true p128
                     replace q128 := eq_true q128
                     have ea_ := Option.some.inj (hx127_0.symm.trans hx128_0)
                     injection ea_ with ea_ en_ ec_
                     subst ea_
                     subst ec_
                     clear en_
                     have p129 : 0 ≤ (x5_3 : Int) := of_decide_eq_true aS
                     have q129 : x5_3 < ((rd_L5 l0_1 x4_2).length : Int) := of_decide_eq_true aS
                     obtain ⟨ad129, A129_0, c129_0, e129, hx129_0, hx129_1, hl129_0, hi129_0⟩ := at_T42 HR128_0.out x5_3 p129 q129
                     cases e129
                     replace hx129_0 := (HB.out.cell (World.block_lt_of_cell? w _ hx129_0)).trans hx129_0
                     replace hx129_1 := (HB.out.cell (World.block_lt_of_cell? w _ hx129_1)).trans hx129_1
                     have HR129_0 := Aside0.mk hi129_0
                     have HC129_0 := Aside0.mk hl129_0
                     clear hi129_0 hl129_0
                     replace p129 := eq_true p129
                     replace q129 := eq_true q129
                     go_wp2_with (first | ((with_reducible refine gate_callee (f := 131) rfl ?_); refine goesL_ (some 44) rfl rfl Try.func131 (by kernel_rfl) rfl #[.agg #[.slice A129_0 ((rd_T42 (rd_L5 l0_1 x4_2) x5_3).f0).length c129_0, .int .i64 ((rd_T42 (rd_L5 l0_1 x4_2) x5_3).f1)]] rfl aT ?_; (with_reducible refine (spec_l2Plane.calls k3 _ _ ((rd_T42 (rd_L5 l0_1 x4_2) x5_3).f0) ((rd_T42 (rd_L5 l0_1 x4_2) x5_3).f1) false _ ?side1 ?side2 A17.out).mono ?_); (case side1 => exact cB HR129_0 HB); (case side2 => exact HC129_0.out); rintro e w27 ⟨rfl, hb⟩; refine ⟨_, rfl, ?_⟩; have n0_ := Aside0.mk (blk_below (g := gb124) (o := .cells #[.int .i64 a0_0, .slice (some ad127) l0_1.length c0_1] 62 (0, 0)) (pB BK124) hb); have n1_ := Aside0.mk (below_step (bC HB GE124) hb); clear BK124; clear HB; have BK124 := n0_; have HB := n1_; clear n0_ n1_; (try clear hb); (try clear hb2); (try clear hk); (try clear hi)))
                     go_ret
                     exact ⟨eW, bC HB GE124⟩
                 · rw [if_neg c16] at H
                   exact absurd H (by simp)
               · rw [if_neg c15] at H
                 have c15b0 : decide (x5_3 < ((rd_L5 l0_1 x4_2).length : Int)) = false := decide_eq_false c15
                 clear c15
                 replace H := Option.bind_eq_some_iff.mp H
                 obtain ⟨t134, A280, H⟩ := H
                 replace H : (if t134 = true then (spec_l9Good.l0 k3 ((rd_L5 l0_1 x4_2).length : Int) (wrap64 (x4_2 + 1)) a0_0 l0_1) else (some false)) = some r := H
                 have A28 := Aside0.mk A280
                 clear A280
                 by_cases c29 : t134 = true
                 · subst c29
                   have H1 : (spec_l9Good.l0 k3 ((rd_L5 l0_1 x4_2).length : Int) (wrap64 (x4_2 + 1)) a0_0 l0_1) = some r := by rw [if_pos rfl] at H; exact H
                   clear H
                   have H := H1
                   clear H1
                   have H' := Aside0.mk H
                   clear H
                   have hcz30_0 : wr.cell? ⟨gb124, 0, none⟩ = some (.int .i64 a0_0) := (blk_cell BK124.out 0).trans rfl
                   have hcz30_1 : wr.cell? ⟨gb124, 1, none⟩ = some (.slice A0_1 l0_1.length c0_1) := (blk_cell BK124.out 1).trans rfl
                   have hfz30_0 := blk_frozen BK124.out 0
                   have hfz30_1 := blk_frozen BK124.out 1
                   have p127 : 0 ≤ (x4_2 : Int) := of_decide_eq_true aS
                   have q127 : x4_2 < (l0_1.length : Int) := of_decide_eq_true aS
                   obtain ⟨ad127, A127_0, c127_0, e127, hx127_0, hl127_0, hi127_0⟩ := at_L5 HR0_1.out x4_2 p127 q127
                   cases e127
                   replace hx127_0 := (HB.out.cell (World.block_lt_of_cell? w _ hx127_0)).trans hx127_0
                   have HR127_0 := Aside0.mk hi127_0
                   have HC127_0 := Aside0.mk hl127_0
                   clear hi127_0 hl127_0
                   replace p127 := eq_true p127
                   replace q127 := eq_true q127
                   have p133 : 0 ≤ (x4_2 : Int) := of_decide_eq_true aS
                   have q133 : x4_2 < (l0_1.length : Int) := of_decide_eq_true aS
                   obtain ⟨ad133, A133_0, c133_0, e133, hx133_0, hl133_0, hi133_0⟩ := at_L5 HR0_1.out x4_2 p133 q133
                   obtain rfl : ad127 = ad133 := (by injection e133)
                   replace hx133_0 := (HB.out.cell (World.block_lt_of_cell? w _ hx133_0)).trans hx133_0
                   have HR133_0 := Aside0.mk hi133_0
                   have HC133_0 := Aside0.mk hl133_0
                   clear hi133_0 hl133_0
                   replace p133 := eq_true p133
                   replace q133 := eq_true q133
                   have ea_ := Option.some.inj (hx127_0.symm.trans hx133_0)
                   injection ea_ with ea_ en_ ec_
                   subst ea_
                   subst ec_
                   clear en_
                   go_wp2_with (first | ((with_reducible refine gate_callee (f := 66) rfl ?_); refine goesL_ (some 67) rfl rfl Try.func66 (by kernel_rfl) rfl #[.int .i64 ((rd_L5 l0_1 x4_2).length : Int), .int .i64 1, .int .i64 4] rfl aT ?_; (with_reducible refine (spec_l1In.calls ((rd_L5 l0_1 x4_2).length : Int) 1 4 true _ A28.out).mono ?_); rintro e w' ⟨rfl, ⟨nd, rfl⟩⟩; refine ⟨_, rfl, ?_⟩))
                   go_roundg k3
                   case measure => have := HJ1.out; have := HK2.out; have := HK3.out; omega
                   case rel => exact ⟨(((rd_L5 l0_1 x4_2).length : Int)), (wrap64 (x4_2 + 1)), rD, rD, H', ⟨by have := HJ1.out; have := HK2.out; have := HK3.out; omega⟩, ⟨pB BK124⟩, ⟨bC HB GE124⟩⟩
                 · replace c29 := Bool.eq_false_iff.mpr c29
                   subst c29
                   have H1 : (some false) = some r := by rw [if_neg (show ¬ (false = true) by decide)] at H; exact H
                   clear H
                   have H := H1
                   clear H1
                   obtain rfl := Option.some.inj H
                   have hcz31_0 : wr.cell? ⟨gb124, 0, none⟩ = some (.int .i64 a0_0) := (blk_cell BK124.out 0).trans rfl
                   have hcz31_1 : wr.cell? ⟨gb124, 1, none⟩ = some (.slice A0_1 l0_1.length c0_1) := (blk_cell BK124.out 1).trans rfl
                   have hfz31_0 := blk_frozen BK124.out 0
                   have hfz31_1 := blk_frozen BK124.out 1
                   have p127 : 0 ≤ (x4_2 : Int) := of_decide_eq_true aS
                   have q127 : x4_2 < (l0_1.length : Int) := of_decide_eq_true aS
                   obtain ⟨ad127, A127_0, c127_0, e127, hx127_0, hl127_0, hi127_0⟩ := at_L5 HR0_1.out x4_2 p127 q127
                   cases e127
                   replace hx127_0 := (HB.out.cell (World.block_lt_of_cell? w _ hx127_0)).trans hx127_0
                   have HR127_0 := Aside0.mk hi127_0
                   have HC127_0 := Aside0.mk hl127_0
                   clear hi127_0 hl127_0
                   replace p127 := eq_true p127
                   replace q127 := eq_true q127
                   have p133 : 0 ≤ (x4_2 : Int) := of_decide_eq_true aS
                   have q133 : x4_2 < (l0_1.length : Int) := of_decide_eq_true aS
                   obtain ⟨ad133, A133_0, c133_0, e133, hx133_0, hl133_0, hi133_0⟩ := at_L5 HR0_1.out x4_2 p133 q133
                   obtain rfl : ad127 = ad133 := (by injection e133)
                   replace hx133_0 := (HB.out.cell (World.block_lt_of_cell? w _ hx133_0)).trans hx133_0
                   have HR133_0 := Aside0.mk hi133_0
                   have HC133_0 := Aside0.mk hl133_0
                   clear hi133_0 hl133_0
                   replace p133 := eq_true p133
                   replace q133 := eq_true q133
                   have ea_ := Option.some.inj (hx127_0.symm.trans hx133_0)
                   injection ea_ with ea_ en_ ec_
                   subst ea_
                   subst ec_
                   clear en_
                   go_wp2_with (first | ((with_reducible refine gate_callee (f := 66) rfl ?_); refine goesL_ (some 67) rfl rfl Try.func66 (by kernel_rfl) rfl #[.int .i64 ((rd_L5 l0_1 x4_2).length : Int), .int .i64 1, .int .i64 4] rfl aT ?_; (with_reducible refine (spec_l1In.calls ((rd_L5 l0_1 x4_2).length : Int) 1 4 false _ A28.out).mono ?_); rintro e w' ⟨rfl, ⟨nd, rfl⟩⟩; refine ⟨_, rfl, ?_⟩))
                   go_ret
                   exact ⟨eW, bC HB GE124⟩
             · rw [if_neg c14] at H
               exact absurd H (by simp)
           · rw [if_neg c13] at H
             exact absurd H (by simp)
       · rw [if_neg c11] at H
         have c11b0 : decide (x4_2 < (l0_1.length : Int)) = false := decide_eq_false c11
         clear c11
         obtain rfl := Option.some.inj H
         have hcz32_0 : wr.cell? ⟨gb124, 0, none⟩ = some (.int .i64 a0_0) := (blk_cell BK124.out 0).trans rfl
         have hcz32_1 : wr.cell? ⟨gb124, 1, none⟩ = some (.slice A0_1 l0_1.length c0_1) := (blk_cell BK124.out 1).trans rfl
         have hfz32_0 := blk_frozen BK124.out 0
         have hfz32_1 := blk_frozen BK124.out 1
         go_wp2
         go_ret
         exact ⟨eW, bC HB GE124⟩

/-! ### spec_l3Row: function 95 -/
def spec_l3Row.l0 : Nat → Int → List Int → Int → Option (Bool)
 | 0, _, _, _ => none
 | k + 1, x0, x1, x5 => if x5 < (x1.length : Int) then (if 0 ≤ x5 then ((spec_l1In.f (rd x1 x5) 0 1).bind fun t136 => (if t136 = true then (spec_l3Row.l0 k x0 x1 (wrap64 (x5 + 1))) else (some false))) else (none)) else (some ((x1.length : Int) == x0))
def spec_l3Row.f (k : Nat) (a0 : Int) (l1 : List Int) : Option (Bool) := spec_l3Row.l0 k a0 l1 0
set_option maxHeartbeats 8000000 in
set_option maxRecDepth 100000 in
theorem spec_l3Row.calls (k : Nat) (a0 : Int) (A1 : Option Addr) (c1 : Nat) (l1 : List Int) (r : Bool) (w : World) (hr1 : Kd.C (Kd.int .i64) w A1 l1.length l1) (hc1 : l1.length ≤ c1) (h : spec_l3Row.f k a0 l1 = some r) :
 Calls Try.prog 95 #[.int .i64 a0, .slice A1 l1.length c1] w fun e w' => e = .returned (.bool r) ∧ Drawn0 w w' := by
 have HR1 := Aside0.mk hr1
 have HC1 := Aside0.mk hc1
 clear hr1 hc1
 have H : (spec_l3Row.l0 k a0 l1 0) = some r := h
 clear h
 have H' := Aside0.mk H
 clear H
 go_enter Try.func95, Try.ntmps95
 go_wp2
 go_loopg [5] k (fun kq v5 w' => ∃ (x5_1 : Int), v5 = .int .i64 x5_1 ∧ Aside0 (spec_l3Row.l0 kq a0 l1 x5_1 = some r) ∧ Aside0 (kq ≤ k) ∧ Drawn0 w w')
 case atStart => exact ⟨(0), rD, H', ⟨Nat.le_refl _⟩, by repeat (first | exact Drawn0.refl _ | apply Drawn0.step)⟩
 case round =>
  clear H'
  try clear c1
  try clear p2
  obtain ⟨x5_1, rfl, HA, HK1, ⟨m1, rfl⟩⟩ := hrel
  cases gk with
  | zero => exact absurd HA.out (by simp [spec_l3Row.l0])
  | succ k1 =>
   have H := HA.out
   clear HA
   simp only [spec_l3Row.l0] at H
   by_cases c3 : x5_1 < (l1.length : Int)
   · rw [if_pos c3] at H
     have c3b0 : decide (x5_1 < (l1.length : Int)) = true := decide_eq_true c3
     clear c3
     by_cases c4 : 0 ≤ x5_1
     · rw [if_pos c4] at H
       have c4b0 : decide (0 ≤ x5_1) = true := decide_eq_true c4
       clear c4
       replace H := Option.bind_eq_some_iff.mp H
       obtain ⟨t136, A50, H⟩ := H
       replace H : (if t136 = true then (spec_l3Row.l0 k1 a0 l1 (wrap64 (x5_1 + 1))) else (some false)) = some r := H
       have A5 := Aside0.mk A50
       clear A50
       by_cases c6 : t136 = true
       · subst c6
         have H1 : (spec_l3Row.l0 k1 a0 l1 (wrap64 (x5_1 + 1))) = some r := by rw [if_pos rfl] at H; exact H
         clear H
         have H := H1
         clear H1
         have H' := Aside0.mk H
         clear H
         have p135 : 0 ≤ (x5_1 : Int) := of_decide_eq_true aS
         have q135 : x5_1 < (l1.length : Int) := of_decide_eq_true aS
         obtain ⟨ad135, e135, hx135_0⟩ := Kd.at_int HR1.out x5_1 p135 q135
         cases e135
         replace p135 := eq_true p135
         replace q135 := eq_true q135
         go_wp2_with (first | ((with_reducible refine gate_callee (f := 66) rfl ?_); refine goesL_ (some 16) rfl rfl Try.func66 (by kernel_rfl) rfl #[.int .i64 (rd l1 x5_1), .int .i64 0, .int .i64 1] rfl aT ?_; (with_reducible refine (spec_l1In.calls (rd l1 x5_1) 0 1 true _ A5.out).mono ?_); rintro e w' ⟨rfl, ⟨nd, rfl⟩⟩; refine ⟨_, rfl, ?_⟩))
         go_roundg k1
         case measure => have := HK1.out; omega
         case rel => exact ⟨(wrap64 (x5_1 + 1)), rD, H', ⟨by have := HK1.out; omega⟩, by repeat (first | exact Drawn0.refl _ | apply Drawn0.step)⟩
       · replace c6 := Bool.eq_false_iff.mpr c6
         subst c6
         have H1 : (some false) = some r := by rw [if_neg (show ¬ (false = true) by decide)] at H; exact H
         clear H
         have H := H1
         clear H1
         obtain rfl := Option.some.inj H
         have p135 : 0 ≤ (x5_1 : Int) := of_decide_eq_true aS
         have q135 : x5_1 < (l1.length : Int) := of_decide_eq_true aS
         obtain ⟨ad135, e135, hx135_0⟩ := Kd.at_int HR1.out x5_1 p135 q135
         cases e135
         replace p135 := eq_true p135
         replace q135 := eq_true q135
         go_wp2_with (first | ((with_reducible refine gate_callee (f := 66) rfl ?_); refine goesL_ (some 16) rfl rfl Try.func66 (by kernel_rfl) rfl #[.int .i64 (rd l1 x5_1), .int .i64 0, .int .i64 1] rfl aT ?_; (with_reducible refine (spec_l1In.calls (rd l1 x5_1) 0 1 false _ A5.out).mono ?_); rintro e w' ⟨rfl, ⟨nd, rfl⟩⟩; refine ⟨_, rfl, ?_⟩))
         go_ret
         exact ⟨rD, by repeat (first | exact Drawn0.refl _ | apply Drawn0.step)⟩
     · rw [if_neg c4] at H
       exact absurd H (by simp)
   · rw [if_neg c3] at H
     have c3b0 : decide (x5_1 < (l1.length : Int)) = false := decide_eq_false c3
     clear c3
     obtain rfl := Option.some.inj H
     go_wp2
     go_ret
     exact ⟨rD, by repeat (first | exact Drawn0.refl _ | apply Drawn0.step)⟩

end Go.Proofs.Ytniebbjbihenfaa.PFnExactEvaluateNet
