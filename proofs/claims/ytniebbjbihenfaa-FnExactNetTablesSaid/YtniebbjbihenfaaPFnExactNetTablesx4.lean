-- Printed by wip/tools/myprint.py (the printer of the kit, patched by that program; roots chosen by it)
import Derived.Test.YtniebbjbihenfaaPFnExactNetTablesx0
import Derived.Test.YtniebbjbihenfaaPFnExactNetTablesx3
import Derived.Test.YtniebbjbihenfaaSh
namespace Go.Proofs.Ytniebbjbihenfaa.PFnExactNetTables
open Go.RowKit Go.Proofs.Ytniebbjbihenfaa.Sh Go.Proofs.YtniebbjbihenfaaW.PrintWords Go.Proofs.YtniebbjbihenfaaW.PrintLast Go.Proofs.YtniebbjbihenfaaW.PrintMore
attribute [local go_sem] max2_int min2_int max_two min_two max_three min_three max_four min_four   -- for this text's walks alone
set_option linter.unusedVariables false
set_option linter.unusedSimpArgs false

/-! ### spec_l2Numbers: function 156 -/
def spec_l2Numbers.l0 : Nat → List Int → Int → Int → Option (Bool)
 | 0, _, _, _ => none
 | k + 1, x0, x1, x5 => if x5 < (x0.length : Int) then (if 0 ≤ x5 then ((spec_l1In.f (rd x0 x5) (wrap64 (-x1)) x1).bind fun t169 => (if t169 = true then (spec_l2Numbers.l0 k x0 x1 (wrap64 (x5 + 1))) else (some false))) else (none)) else (some true)
def spec_l2Numbers.f (k : Nat) (l0 : List Int) (a1 : Int) : Option (Bool) := spec_l2Numbers.l0 k l0 a1 0
set_option maxHeartbeats 8000000 in
set_option maxRecDepth 100000 in
theorem spec_l2Numbers.calls (k : Nat) (A0 : Option Addr) (c0 : Nat) (l0 : List Int) (a1 : Int) (r : Bool) (w : World) (hr0 : Kd.C (Kd.int .i64) w A0 l0.length l0) (hc0 : l0.length ≤ c0) (h : spec_l2Numbers.f k l0 a1 = some r) :
 Calls Try.prog 156 #[.slice A0 l0.length c0, .int .i64 a1] w fun e w' => e = .returned (.bool r) ∧ Drawn0 w w' := by
 have HR0 := Aside0.mk hr0
 have HC0 := Aside0.mk hc0
 clear hr0 hc0
 have H : (spec_l2Numbers.l0 k l0 a1 0) = some r := h
 clear h
 have H' := Aside0.mk H
 clear H
 go_enter Try.func156, Try.ntmps156
 go_wp2
 go_loopg [5] k (fun kq v5 w' => ∃ (x5_1 : Int), v5 = .int .i64 x5_1 ∧ Aside0 (spec_l2Numbers.l0 kq l0 a1 x5_1 = some r) ∧ Aside0 (kq ≤ k) ∧ Drawn0 w w')
 case atStart => exact ⟨(0), rD, H', ⟨Nat.le_refl _⟩, by repeat (first | exact Drawn0.refl _ | apply Drawn0.step)⟩
 case round =>
  clear H'
  try clear c1
  try clear p2
  obtain ⟨x5_1, rfl, HA, HK1, ⟨m1, rfl⟩⟩ := hrel
  cases gk with
  | zero => exact absurd HA.out (by simp [spec_l2Numbers.l0])
  | succ k1 =>
   have H := HA.out
   clear HA
   simp only [spec_l2Numbers.l0] at H
   by_cases c3 : x5_1 < (l0.length : Int)
   · rw [if_pos c3] at H
     have c3b0 : decide (x5_1 < (l0.length : Int)) = true := decide_eq_true c3
     clear c3
     by_cases c4 : 0 ≤ x5_1
     · rw [if_pos c4] at H
       have c4b0 : decide (0 ≤ x5_1) = true := decide_eq_true c4
       clear c4
       replace H := Option.bind_eq_some_iff.mp H
       obtain ⟨t169, A50, H⟩ := H
       replace H : (if t169 = true then (spec_l2Numbers.l0 k1 l0 a1 (wrap64 (x5_1 + 1))) else (some false)) = some r := H
       have A5 := Aside0.mk A50
       clear A50
       by_cases c6 : t169 = true
       · subst c6
         have H1 : (spec_l2Numbers.l0 k1 l0 a1 (wrap64 (x5_1 + 1))) = some r := by rw [if_pos rfl] at H; exact H
         clear H
         have H := H1
         clear H1
         have H' := Aside0.mk H
         clear H
         have p168 : 0 ≤ (x5_1 : Int) := of_decide_eq_true aS
         have q168 : x5_1 < (l0.length : Int) := of_decide_eq_true aS
         obtain ⟨ad168, e168, hx168_0⟩ := Kd.at_int HR0.out x5_1 p168 q168
         cases e168
         replace p168 := eq_true p168
         replace q168 := eq_true q168
         go_wp2_with (first | ((with_reducible refine gate_callee (f := 66) rfl ?_); refine goesL_ (some 19) rfl rfl Try.func66 (by kernel_rfl) rfl #[.int .i64 (rd l0 x5_1), .int .i64 (wrap64 (-a1)), .int .i64 a1] rfl aT ?_; (with_reducible refine (spec_l1In.calls (rd l0 x5_1) (wrap64 (-a1)) a1 true _ A5.out).mono ?_); rintro e w' ⟨rfl, ⟨nd, rfl⟩⟩; refine ⟨_, rfl, ?_⟩))
         go_roundg k1
         case measure => have := HK1.out; omega
         case rel => exact ⟨(wrap64 (x5_1 + 1)), rD, H', ⟨by have := HK1.out; omega⟩, by repeat (first | exact Drawn0.refl _ | apply Drawn0.step)⟩
       · replace c6 := Bool.eq_false_iff.mpr c6
         subst c6
         have H1 : (some false) = some r := by rw [if_neg (show ¬ (false = true) by decide)] at H; exact H
         clear H
         have H := H1
         clear H1
         obtain rfl := Option.some.inj H
         have p168 : 0 ≤ (x5_1 : Int) := of_decide_eq_true aS
         have q168 : x5_1 < (l0.length : Int) := of_decide_eq_true aS
         obtain ⟨ad168, e168, hx168_0⟩ := Kd.at_int HR0.out x5_1 p168 q168
         cases e168
         replace p168 := eq_true p168
         replace q168 := eq_true q168
         go_wp2_with (first | ((with_reducible refine gate_callee (f := 66) rfl ?_); refine goesL_ (some 19) rfl rfl Try.func66 (by kernel_rfl) rfl #[.int .i64 (rd l0 x5_1), .int .i64 (wrap64 (-a1)), .int .i64 a1] rfl aT ?_; (with_reducible refine (spec_l1In.calls (rd l0 x5_1) (wrap64 (-a1)) a1 false _ A5.out).mono ?_); rintro e w' ⟨rfl, ⟨nd, rfl⟩⟩; refine ⟨_, rfl, ?_⟩))
         go_ret
         exact ⟨rD, by repeat (first | exact Drawn0.refl _ | apply Drawn0.step)⟩
     · rw [if_neg c4] at H
       exact absurd H (by simp)
   · rw [if_neg c3] at H
     have c3b0 : decide (x5_1 < (l0.length : Int)) = false := decide_eq_false c3
     clear c3
     obtain rfl := Option.some.inj H
     go_wp2
     go_ret
     exact ⟨rD, by repeat (first | exact Drawn0.refl _ | apply Drawn0.step)⟩

/-! ### spec_l2Plane: function 131 -/
def spec_l2Plane.f (k : Nat) (l0_0 : List Int) (a0_1 : Int) : Option (Bool) := (spec_l1In.f (l0_0.length : Int) 1 4).bind fun t171 => (if t171 = true then ((spec_l2Numbers.f k l0_0 99).bind fun t172 => (if t172 = true then ((spec_l1In.f a0_1 (-99) 99).bind fun t173 => (some t173)) else (some false))) else (some false))
set_option maxHeartbeats 8000000 in
set_option maxRecDepth 100000 in
theorem spec_l2Plane.calls (k : Nat) (A0_0 : Option Addr) (c0_0 : Nat) (l0_0 : List Int) (a0_1 : Int) (r : Bool) (w : World) (hr0_0 : Kd.C (Kd.int .i64) w A0_0 l0_0.length l0_0) (hc0_0 : l0_0.length ≤ c0_0) (h : spec_l2Plane.f k l0_0 a0_1 = some r) :
 Calls Try.prog 131 #[.agg #[.slice A0_0 l0_0.length c0_0, .int .i64 a0_1]] w fun e w' => e = .returned (.bool r) ∧ Below w.heap.size w w' := by
 have hu42 := Try.underlying42
 have HR0_0 := Aside0.mk hr0_0
 have HC0_0 := Aside0.mk hc0_0
 clear hr0_0 hc0_0
 have HB := Aside0.mk (Below.refl w.heap.size w)
 have H : ((spec_l1In.f (l0_0.length : Int) 1 4).bind fun t171 => (if t171 = true then ((spec_l2Numbers.f k l0_0 99).bind fun t172 => (if t172 = true then ((spec_l1In.f a0_1 (-99) 99).bind fun t173 => (some t173)) else (some false))) else (some false))) = some r := h
 clear h
 replace H := Option.bind_eq_some_iff.mp H
 obtain ⟨t171, A20, H⟩ := H
 replace H : (if t171 = true then ((spec_l2Numbers.f k l0_0 99).bind fun t172 => (if t172 = true then ((spec_l1In.f a0_1 (-99) 99).bind fun t173 => (some t173)) else (some false))) else (some false)) = some r := H
 have A2 := Aside0.mk A20
 clear A20
 by_cases c3 : t171 = true
 · subst c3
   have H1 : ((spec_l2Numbers.f k l0_0 99).bind fun t172 => (if t172 = true then ((spec_l1In.f a0_1 (-99) 99).bind fun t173 => (some t173)) else (some false))) = some r := by rw [if_pos rfl] at H; exact H
   clear H
   have H := H1
   clear H1
   replace H := Option.bind_eq_some_iff.mp H
   obtain ⟨t172, A40, H⟩ := H
   replace H : (if t172 = true then ((spec_l1In.f a0_1 (-99) 99).bind fun t173 => (some t173)) else (some false)) = some r := H
   have A4 := Aside0.mk A40
   clear A40
   by_cases c5 : t172 = true
   · subst c5
     have H1 : ((spec_l1In.f a0_1 (-99) 99).bind fun t173 => (some t173)) = some r := by rw [if_pos rfl] at H; exact H
     clear H
     have H := H1
     clear H1
     replace H := Option.bind_eq_some_iff.mp H
     obtain ⟨t173, A60, H⟩ := H
     replace H : (some t173) = some r := H
     have A6 := Aside0.mk A60
     clear A60
     obtain rfl := Option.some.inj H
     go_enter Try.func131, Try.ntmps131
     go_wp2_with (first | ((with_reducible refine gate_dst (N := 1) rfl ?_); refine box_event ?hg (N := 1) ?hd (cs := #[.slice A0_0 l0_0.length c0_0, .int .i64 a0_1]) (t := 42) ?hr ?_; (case hd => rfl); (case hg => rfl); (case hr => first | (go_simp; done) | (go_simp; rfl)); intro gb170 hg w7 hbox hb; have n0_ := Aside0.mk (below_step (bB HB) hb); have n1_ := Aside0.mk (hbox); have n2_ := Aside0.mk ((by rw [hg]; exact (below_size (bB HB)) : w.heap.size ≤ gb170)); have n3_ := Aside0.mk ((by rw [hg]; exact (below_size (bB HB)) : w.heap.size ≤ gb170)); clear HB; have HB := n0_; have BK170 := n1_; have GW170 := n2_; have GE170 := n3_; clear n0_ n1_ n2_ n3_; clear hb hbox hg; have hcz8_0 : w7.cell? ⟨gb170, 0, none⟩ = some (.slice A0_0 l0_0.length c0_0) := (blk_cell BK170.out 0).trans rfl; have hcz8_1 : w7.cell? ⟨gb170, 1, none⟩ = some (.int .i64 a0_1) := (blk_cell BK170.out 1).trans rfl; have hfz8_0 := blk_frozen BK170.out 0; have hfz8_1 := blk_frozen BK170.out 1) | ((with_reducible refine gate_callee (f := 66) rfl ?_); refine goesL_ (some 6) rfl rfl Try.func66 (by kernel_rfl) rfl #[.int .i64 (l0_0.length : Int), .int .i64 1, .int .i64 4] rfl aT ?_; (with_reducible refine (spec_l1In.calls (l0_0.length : Int) 1 4 true _ A2.out).mono ?_); rintro e w' ⟨rfl, ⟨nd, rfl⟩⟩; refine ⟨_, rfl, ?_⟩) | (go_at_call 156; (with_reducible refine (spec_l2Numbers.calls k _ _ l0_0 99 true _ ?side1 ?side2 A4.out).mono ?_); (case side1 => repeat (first | exact (Kd.C_below HR0_0.out (bC HB GE170)) | (with_reducible refine Kd.C_alloc ?_ _) | (with_reducible refine Kd.C_drewN ?_ _) | (with_reducible refine Kd.C_drew ?_))); (case side2 => exact HC0_0.out); rintro e w' ⟨rfl, ⟨nd, rfl⟩⟩) | (go_at_call 66; (with_reducible refine (spec_l1In.calls a0_1 (-99) 99 t173 _ A6.out).mono ?_); rintro e w' ⟨rfl, ⟨nd, rfl⟩⟩))
     go_ret
     exact ⟨eW, bC HB GE170⟩
   · replace c5 := Bool.eq_false_iff.mpr c5
     subst c5
     have H1 : (some false) = some r := by rw [if_neg (show ¬ (false = true) by decide)] at H; exact H
     clear H
     have H := H1
     clear H1
     obtain rfl := Option.some.inj H
     go_enter Try.func131, Try.ntmps131
     go_wp2_with (first | ((with_reducible refine gate_dst (N := 1) rfl ?_); refine box_event ?hg (N := 1) ?hd (cs := #[.slice A0_0 l0_0.length c0_0, .int .i64 a0_1]) (t := 42) ?hr ?_; (case hd => rfl); (case hg => rfl); (case hr => first | (go_simp; done) | (go_simp; rfl)); intro gb170 hg w9 hbox hb; have n0_ := Aside0.mk (below_step (bB HB) hb); have n1_ := Aside0.mk (hbox); have n2_ := Aside0.mk ((by rw [hg]; exact (below_size (bB HB)) : w.heap.size ≤ gb170)); have n3_ := Aside0.mk ((by rw [hg]; exact (below_size (bB HB)) : w.heap.size ≤ gb170)); clear HB; have HB := n0_; have BK170 := n1_; have GW170 := n2_; have GE170 := n3_; clear n0_ n1_ n2_ n3_; clear hb hbox hg; have hcz10_0 : w9.cell? ⟨gb170, 0, none⟩ = some (.slice A0_0 l0_0.length c0_0) := (blk_cell BK170.out 0).trans rfl; have hcz10_1 : w9.cell? ⟨gb170, 1, none⟩ = some (.int .i64 a0_1) := (blk_cell BK170.out 1).trans rfl; have hfz10_0 := blk_frozen BK170.out 0; have hfz10_1 := blk_frozen BK170.out 1) | ((with_reducible refine gate_callee (f := 66) rfl ?_); refine goesL_ (some 6) rfl rfl Try.func66 (by kernel_rfl) rfl #[.int .i64 (l0_0.length : Int), .int .i64 1, .int .i64 4] rfl aT ?_; (with_reducible refine (spec_l1In.calls (l0_0.length : Int) 1 4 true _ A2.out).mono ?_); rintro e w' ⟨rfl, ⟨nd, rfl⟩⟩; refine ⟨_, rfl, ?_⟩) | (go_at_call 156; (with_reducible refine (spec_l2Numbers.calls k _ _ l0_0 99 false _ ?side1 ?side2 A4.out).mono ?_); (case side1 => repeat (first | exact (Kd.C_below HR0_0.out (bC HB GE170)) | (with_reducible refine Kd.C_alloc ?_ _) | (with_reducible refine Kd.C_drewN ?_ _) | (with_reducible refine Kd.C_drew ?_))); (case side2 => exact HC0_0.out); rintro e w' ⟨rfl, ⟨nd, rfl⟩⟩))
     go_ret
     exact ⟨eW, bC HB GE170⟩
 · replace c3 := Bool.eq_false_iff.mpr c3
   subst c3
   have H1 : (some false) = some r := by rw [if_neg (show ¬ (false = true) by decide)] at H; exact H
   clear H
   have H := H1
   clear H1
   obtain rfl := Option.some.inj H
   go_enter Try.func131, Try.ntmps131
   go_wp2_with (first | ((with_reducible refine gate_dst (N := 1) rfl ?_); refine box_event ?hg (N := 1) ?hd (cs := #[.slice A0_0 l0_0.length c0_0, .int .i64 a0_1]) (t := 42) ?hr ?_; (case hd => rfl); (case hg => rfl); (case hr => first | (go_simp; done) | (go_simp; rfl)); intro gb170 hg w11 hbox hb; have n0_ := Aside0.mk (below_step (bB HB) hb); have n1_ := Aside0.mk (hbox); have n2_ := Aside0.mk ((by rw [hg]; exact (below_size (bB HB)) : w.heap.size ≤ gb170)); have n3_ := Aside0.mk ((by rw [hg]; exact (below_size (bB HB)) : w.heap.size ≤ gb170)); clear HB; have HB := n0_; have BK170 := n1_; have GW170 := n2_; have GE170 := n3_; clear n0_ n1_ n2_ n3_; clear hb hbox hg; have hcz12_0 : w11.cell? ⟨gb170, 0, none⟩ = some (.slice A0_0 l0_0.length c0_0) := (blk_cell BK170.out 0).trans rfl; have hcz12_1 : w11.cell? ⟨gb170, 1, none⟩ = some (.int .i64 a0_1) := (blk_cell BK170.out 1).trans rfl; have hfz12_0 := blk_frozen BK170.out 0; have hfz12_1 := blk_frozen BK170.out 1) | ((with_reducible refine gate_callee (f := 66) rfl ?_); refine goesL_ (some 6) rfl rfl Try.func66 (by kernel_rfl) rfl #[.int .i64 (l0_0.length : Int), .int .i64 1, .int .i64 4] rfl aT ?_; (with_reducible refine (spec_l1In.calls (l0_0.length : Int) 1 4 false _ A2.out).mono ?_); rintro e w' ⟨rfl, ⟨nd, rfl⟩⟩; refine ⟨_, rfl, ?_⟩))
   go_ret
   exact ⟨eW, bC HB GE170⟩

/-! ### spec_l9Good: function 94 -/
mutual
def spec_l9Good.j0 : Nat → Bool → Int → List (List (S42)) → Option (Bool)
 | 0, _, _, _ => none
 | k + 1, x16, x175000, x175001 => if x16 = true then (some false) else (spec_l9Good.l0 k x175000 0 x175000 x175001)
def spec_l9Good.l0 : Nat → Int → Int → Int → List (List (S42)) → Option (Bool)
 | 0, _, _, _, _ => none
 | k + 1, x3, x4, x175000, x175001 => if x4 < (x175001.length : Int) then (spec_l9Good.l1 k x3 x4 0 x175000 x175001) else (some true)
def spec_l9Good.l1 : Nat → Int → Int → Int → Int → List (List (S42)) → Option (Bool)
 | 0, _, _, _, _, _ => none
 | k + 1, x3, x4, x5, x175000, x175001 => if 0 ≤ x4 then (if x4 < (x175001.length : Int) then (if x5 < ((rd_L5 x175001 x4).length : Int) then (if 0 ≤ x5 then ((spec_l2Plane.f k ((rd_T42 (rd_L5 x175001 x4) x5).f0) ((rd_T42 (rd_L5 x175001 x4) x5).f1)).bind fun t180 => (if t180 = true then (if (((rd_T42 (rd_L5 x175001 x4) x5).f0).length : Int) = x3 then (spec_l9Good.l1 k x3 x4 (wrap64 (x5 + 1)) x175000 x175001) else (some false)) else (some false))) else (none)) else ((spec_l1In.f ((rd_L5 x175001 x4).length : Int) 1 4).bind fun t184 => (if t184 = true then (spec_l9Good.l0 k ((rd_L5 x175001 x4).length : Int) (wrap64 (x4 + 1)) x175000 x175001) else (some false)))) else (none)) else (none)
end
def spec_l9Good.f (k : Nat) (a0_0 : Int) (l0_1 : List (List (S42))) : Option (Bool) := (spec_l1In.f a0_0 1 4).bind fun t175 => (if t175 = true then ((spec_l1In.f (l0_1.length : Int) 1 6).bind fun t176 => (spec_l9Good.j0 k (!t176) a0_0 l0_1)) else (spec_l9Good.j0 k true a0_0 l0_1))
set_option maxHeartbeats 8000000 in
set_option maxRecDepth 100000 in
theorem spec_l9Good.calls (k : Nat) (a0_0 : Int) (A0_1 : Option Addr) (c0_1 : Nat) (l0_1 : List (List (S42))) (r : Bool) (w : World) (hr0_1 : Kd.C (Kd.slice 42 k42) w A0_1 l0_1.length l0_1) (hc0_1 : l0_1.length ≤ c0_1) (h : spec_l9Good.f k a0_0 l0_1 = some r) :
 Calls Try.prog 94 #[.agg #[.int .i64 a0_0, .slice A0_1 l0_1.length c0_1]] w fun e w' => e = .returned (.bool r) ∧ Below w.heap.size w w' := by
 have hu62 := Try.underlying62
 have hu42 := Try.underlying42
 have HR0_1 := Aside0.mk hr0_1
 have HC0_1 := Aside0.mk hc0_1
 clear hr0_1 hc0_1
 have HB := Aside0.mk (Below.refl w.heap.size w)
 have H : ((spec_l1In.f a0_0 1 4).bind fun t175 => (if t175 = true then ((spec_l1In.f (l0_1.length : Int) 1 6).bind fun t176 => (spec_l9Good.j0 k (!t176) a0_0 l0_1)) else (spec_l9Good.j0 k true a0_0 l0_1))) = some r := h
 clear h
 have HC2 := Aside0.mk H
 clear H
 go_enter Try.func94, Try.ntmps94
 go_upto_region 1 with (first | ((with_reducible refine gate_dst (N := 1) rfl ?_); refine box_event ?hg (N := 1) ?hd (cs := #[.int .i64 a0_0, .slice A0_1 l0_1.length c0_1]) (t := 62) ?hr ?_; (case hd => rfl); (case hg => rfl); (case hr => first | (go_simp; done) | (go_simp; rfl)); intro gb174 hg w3 hbox hb; have n0_ := Aside0.mk (below_step (bB HB) hb); have n1_ := Aside0.mk (hbox); have n2_ := Aside0.mk ((by rw [hg]; exact (below_size (bB HB)) : w.heap.size ≤ gb174)); have n3_ := Aside0.mk ((by rw [hg]; exact (below_size (bB HB)) : w.heap.size ≤ gb174)); clear HB; have HB := n0_; have BK174 := n1_; have GW174 := n2_; have GE174 := n3_; clear n0_ n1_ n2_ n3_; clear hb hbox hg))
 (try simp only [Act.put, List.setIfInBounds_toArray, List.set_cons_zero, List.set_cons_succ])
 go_cut [16] (fun v16 wc => ∃ (kq : Nat) (x16_1 : Bool), v16 = .bool x16_1 ∧ Aside0 (spec_l9Good.j0 kq x16_1 a0_0 l0_1 = some r) ∧ Aside0 (kq ≤ k) ∧ Aside0 (wc.heap[gb174]? = some (.cells #[.int .i64 a0_0, (.slice A0_1 l0_1.length c0_1)] 62 (0, 0))) ∧ Aside0 (Below w.heap.size w wc))
 case first =>
  have H := HC2.out
  clear HC2
  replace H := Option.bind_eq_some_iff.mp H
  obtain ⟨t175, A40, H⟩ := H
  replace H : (if t175 = true then ((spec_l1In.f (l0_1.length : Int) 1 6).bind fun t176 => (spec_l9Good.j0 k (!t176) a0_0 l0_1)) else (spec_l9Good.j0 k true a0_0 l0_1)) = some r := H
  have A4 := Aside0.mk A40
  clear A40
  by_cases c5 : t175 = true
  · subst c5
    have H1 : ((spec_l1In.f (l0_1.length : Int) 1 6).bind fun t176 => (spec_l9Good.j0 k (!t176) a0_0 l0_1)) = some r := by rw [if_pos rfl] at H; exact H
    clear H
    have H := H1
    clear H1
    replace H := Option.bind_eq_some_iff.mp H
    obtain ⟨t176, A60, H⟩ := H
    replace H : (spec_l9Good.j0 k (!t176) a0_0 l0_1) = some r := H
    have A6 := Aside0.mk A60
    clear A60
    have H' := Aside0.mk H
    clear H
    have hcz7_0 : w3.cell? ⟨gb174, 0, none⟩ = some (.int .i64 a0_0) := (blk_cell BK174.out 0).trans rfl
    have hcz7_1 : w3.cell? ⟨gb174, 1, none⟩ = some (.slice A0_1 l0_1.length c0_1) := (blk_cell BK174.out 1).trans rfl
    have hfz7_0 := blk_frozen BK174.out 0
    have hfz7_1 := blk_frozen BK174.out 1
    go_wp2_with (first | ((with_reducible refine gate_callee (f := 66) rfl ?_); refine goesL_ (some 8) rfl rfl Try.func66 (by kernel_rfl) rfl #[.int .i64 a0_0, .int .i64 1, .int .i64 4] rfl aT ?_; (with_reducible refine (spec_l1In.calls a0_0 1 4 true _ A4.out).mono ?_); rintro e w' ⟨rfl, ⟨nd, rfl⟩⟩; refine ⟨_, rfl, ?_⟩) | (go_at_call 66; (with_reducible refine (spec_l1In.calls (l0_1.length : Int) 1 6 t176 _ A6.out).mono ?_); rintro e w' ⟨rfl, ⟨nd, rfl⟩⟩))
    go_meet
    case rel => exact ⟨_, (!t176), rD, H', ⟨by first | omega | exact Nat.le_refl _⟩, ⟨pB BK174⟩, ⟨bC HB GE174⟩⟩
  · replace c5 := Bool.eq_false_iff.mpr c5
    subst c5
    have H1 : (spec_l9Good.j0 k true a0_0 l0_1) = some r := by rw [if_neg (show ¬ (false = true) by decide)] at H; exact H
    clear H
    have H := H1
    clear H1
    have H' := Aside0.mk H
    clear H
    have hcz8_0 : w3.cell? ⟨gb174, 0, none⟩ = some (.int .i64 a0_0) := (blk_cell BK174.out 0).trans rfl
    have hcz8_1 : w3.cell? ⟨gb174, 1, none⟩ = some (.slice A0_1 l0_1.length c0_1) := (blk_cell BK174.out 1).trans rfl
    have hfz8_0 := blk_frozen BK174.out 0
    have hfz8_1 := blk_frozen BK174.out 1
    go_wp2_with (first | ((with_reducible refine gate_callee (f := 66) rfl ?_); refine goesL_ (some 8) rfl rfl Try.func66 (by kernel_rfl) rfl #[.int .i64 a0_0, .int .i64 1, .int .i64 4] rfl aT ?_; (with_reducible refine (spec_l1In.calls a0_0 1 4 false _ A4.out).mono ?_); rintro e w' ⟨rfl, ⟨nd, rfl⟩⟩; refine ⟨_, rfl, ?_⟩))
    go_meet
    case rel => exact ⟨_, (true), rD, H', ⟨by first | omega | exact Nat.le_refl _⟩, ⟨pB BK174⟩, ⟨bC HB GE174⟩⟩
 case rest =>
  clear HC2
  try clear p2
  try clear c5
  try clear c6
  try clear hcz7_0
  try clear hcz7_1
  try clear hcz8_0
  try clear hcz8_1
  try clear hfz7_0
  try clear hfz7_1
  try clear hfz8_0
  try clear hfz8_1
  obtain ⟨kq, x16_1, rfl, HA, HJ1, BK174, HB⟩ := hcut
  cases kq with
  | zero => exact absurd HA.out (by simp [spec_l9Good.j0])
  | succ kj1 =>
   have H := HA.out
   clear HA
   simp only [spec_l9Good.j0] at H
   by_cases c9 : x16_1 = true
   · subst c9
     have H1 : (some false) = some r := by rw [if_pos rfl] at H; exact H
     clear H
     have H := H1
     clear H1
     obtain rfl := Option.some.inj H
     go_wp2
     go_ret
     exact ⟨eW, bC HB GE174⟩
   · replace c9 := Bool.eq_false_iff.mpr c9
     subst c9
     have H1 : (spec_l9Good.l0 kj1 a0_0 0 a0_0 l0_1) = some r := by rw [if_neg (show ¬ (false = true) by decide)] at H; exact H
     clear H
     have H := H1
     clear H1
     have H' := Aside0.mk H
     clear H
     have hcz10_0 : wc.cell? ⟨gb174, 0, none⟩ = some (.int .i64 a0_0) := (blk_cell BK174.out 0).trans rfl
     have hcz10_1 : wc.cell? ⟨gb174, 1, none⟩ = some (.slice A0_1 l0_1.length c0_1) := (blk_cell BK174.out 1).trans rfl
     have hfz10_0 := blk_frozen BK174.out 0
     have hfz10_1 := blk_frozen BK174.out 1
     go_wp2
     go_loopg [3, 4] kj1 (fun kq v3 v4 w' => ∃ (x3_2 : Int) (x4_2 : Int), v3 = .int .i64 x3_2 ∧ v4 = .int .i64 x4_2 ∧ Aside0 (spec_l9Good.l0 kq x3_2 x4_2 a0_0 l0_1 = some r) ∧ Aside0 (kq ≤ kj1) ∧ Aside0 (w'.heap[gb174]? = some (.cells #[.int .i64 a0_0, (.slice A0_1 l0_1.length c0_1)] 62 (0, 0))) ∧ Aside0 (Below w.heap.size w w'))
     case atStart => exact ⟨(a0_0), (0), rD, rD, H', ⟨Nat.le_refl _⟩, ⟨pB BK174⟩, ⟨bC HB GE174⟩⟩
     case round =>
      clear H'
      try clear p2
      try clear c5
      try clear c6
      try clear c9
      try clear hcz10_0
      try clear hcz10_1
      try clear hcz7_0
      try clear hcz7_1
      try clear hcz8_0
      try clear hcz8_1
      try clear hfz10_0
      try clear hfz10_1
      try clear hfz7_0
      try clear hfz7_1
      try clear hfz8_0
      try clear hfz8_1
      try clear p2
      obtain ⟨x3_2, x4_2, rfl, rfl, HA, HK2, BK174, HB⟩ := hrel
      cases gk with
      | zero => exact absurd HA.out (by simp [spec_l9Good.l0])
      | succ k2 =>
       have H := HA.out
       clear HA
       simp only [spec_l9Good.l0] at H
       by_cases c11 : x4_2 < (l0_1.length : Int)
       · rw [if_pos c11] at H
         have c11b0 : decide (x4_2 < (l0_1.length : Int)) = true := decide_eq_true c11
         clear c11
         have H' := Aside0.mk H
         clear H
         have hcz12_0 : wr.cell? ⟨gb174, 0, none⟩ = some (.int .i64 a0_0) := (blk_cell BK174.out 0).trans rfl
         have hcz12_1 : wr.cell? ⟨gb174, 1, none⟩ = some (.slice A0_1 l0_1.length c0_1) := (blk_cell BK174.out 1).trans rfl
         have hfz12_0 := blk_frozen BK174.out 0
         have hfz12_1 := blk_frozen BK174.out 1
         go_wp2
         go_loopg [5] k2 (fun kq v5 w' => ∃ (x5_3 : Int), v5 = .int .i64 x5_3 ∧ Aside0 (spec_l9Good.l1 kq x3_2 x4_2 x5_3 a0_0 l0_1 = some r) ∧ Aside0 (kq ≤ k2) ∧ Aside0 (w'.heap[gb174]? = some (.cells #[.int .i64 a0_0, (.slice A0_1 l0_1.length c0_1)] 62 (0, 0))) ∧ Aside0 (Below w.heap.size w w'))
         case atStart => exact ⟨(0), rD, H', ⟨Nat.le_refl _⟩, ⟨pB BK174⟩, ⟨bC HB GE174⟩⟩
         case round =>
          clear H'
          try clear c1
          try clear p2
          try clear c5
          try clear c6
          try clear c9
          try clear c11
          try clear c11b0
          try clear hcz10_0
          try clear hcz10_1
          try clear hcz12_0
          try clear hcz12_1
          try clear hcz7_0
          try clear hcz7_1
          try clear hcz8_0
          try clear hcz8_1
          try clear hfz10_0
          try clear hfz10_1
          try clear hfz12_0
          try clear hfz12_1
          try clear hfz7_0
          try clear hfz7_1
          try clear hfz8_0
          try clear hfz8_1
          try clear p2
          obtain ⟨x5_3, rfl, HA, HK3, BK174, HB⟩ := hrel
          cases gk with
          | zero => exact absurd HA.out (by simp [spec_l9Good.l1])
          | succ k3 =>
           have H := HA.out
           clear HA
           simp only [spec_l9Good.l1] at H
           by_cases c13 : 0 ≤ x4_2
           · rw [if_pos c13] at H
             have c13b0 : decide (0 ≤ x4_2) = true := decide_eq_true c13
             clear c13
             by_cases c14 : x4_2 < (l0_1.length : Int)
             · rw [if_pos c14] at H
               have c14b0 : decide (x4_2 < (l0_1.length : Int)) = true := decide_eq_true c14
               clear c14
               by_cases c15 : x5_3 < ((rd_L5 l0_1 x4_2).length : Int)
               · rw [if_pos c15] at H
                 have c15b0 : decide (x5_3 < ((rd_L5 l0_1 x4_2).length : Int)) = true := decide_eq_true c15
                 clear c15
                 by_cases c16 : 0 ≤ x5_3
                 · rw [if_pos c16] at H
                   have c16b0 : decide (0 ≤ x5_3) = true := decide_eq_true c16
                   clear c16
                   replace H := Option.bind_eq_some_iff.mp H
                   obtain ⟨t180, A170, H⟩ := H
                   replace H : (if t180 = true then (if (((rd_T42 (rd_L5 l0_1 x4_2) x5_3).f0).length : Int) = x3_2 then (spec_l9Good.l1 k3 x3_2 x4_2 (wrap64 (x5_3 + 1)) a0_0 l0_1) else (some false)) else (some false)) = some r := H
                   have A17 := Aside0.mk A170
                   clear A170
                   by_cases c18 : t180 = true
                   · subst c18
                     have H1 : (if (((rd_T42 (rd_L5 l0_1 x4_2) x5_3).f0).length : Int) = x3_2 then (spec_l9Good.l1 k3 x3_2 x4_2 (wrap64 (x5_3 + 1)) a0_0 l0_1) else (some false)) = some r := by rw [if_pos rfl] at H; exact H
                     clear H
                     have H := H1
                     clear H1
                     by_cases c19 : (((rd_T42 (rd_L5 l0_1 x4_2) x5_3).f0).length : Int) = x3_2
                     · rw [if_pos c19] at H
                       have c19b0 : ((((rd_T42 (rd_L5 l0_1 x4_2) x5_3).f0).length : Int) == x3_2) = true := beq_iff_eq.mpr c19
                       have c19b1 : ((((rd_T42 (rd_L5 l0_1 x4_2) x5_3).f0).length : Int) != x3_2) = false := bne_eq_false_iff_eq.mpr c19
                       clear c19
                       have H' := Aside0.mk H
                       clear H
                       have hcz20_0 : wr.cell? ⟨gb174, 0, none⟩ = some (.int .i64 a0_0) := (blk_cell BK174.out 0).trans rfl
                       have hcz20_1 : wr.cell? ⟨gb174, 1, none⟩ = some (.slice A0_1 l0_1.length c0_1) := (blk_cell BK174.out 1).trans rfl
                       have hfz20_0 := blk_frozen BK174.out 0
                       have hfz20_1 := blk_frozen BK174.out 1
                       have p177 : 0 ≤ (x4_2 : Int) := of_decide_eq_true aS
                       have q177 : x4_2 < (l0_1.length : Int) := of_decide_eq_true aS
                       obtain ⟨ad177, A177_0, c177_0, e177, hx177_0, hl177_0, hi177_0⟩ := at_L5 HR0_1.out x4_2 p177 q177
                       cases e177
                       replace hx177_0 := (HB.out.cell (World.block_lt_of_cell? w _ hx177_0)).trans hx177_0
                       have HR177_0 := Aside0.mk hi177_0
                       have HC177_0 := Aside0.mk hl177_0
                       clear hi177_0 hl177_0
                       replace p177 := eq_true p177
                       replace q177 := eq_true q177
                       have p178 : 0 ≤ (x4_2 : Int) := of_decide_eq_true aS
                       have q178 : x4_2 < (l0_1.length : Int) := of_decide_eq_true aS
                       obtain ⟨ad178, A178_0, c178_0, e178, hx178_0, hl178_0, hi178_0⟩ := at_L5 HR0_1.out x4_2 p178 q178
                       obtain rfl : ad177 = ad178 := (by injection e178)
                       replace hx178_0 := (HB.out.cell (World.block_lt_of_cell? w _ hx178_0)).trans hx178_0
                       have HR178_0 := Aside0.mk hi178_0
                       have HC178_0 := Aside0.mk hl178_0
                       clear hi178_0 hl178_0
                       replace p178 := eq_true p178
                       replace q178 := eq_true q178
                       have ea_ := Option.some.inj (hx177_0.symm.trans hx178_0)
                       injection ea_ with ea_ en_ ec_
                       subst ea_
                       subst ec_
                       clear en_
                       have p179 : 0 ≤ (x5_3 : Int) := of_decide_eq_true aS
                       have q179 : x5_3 < ((rd_L5 l0_1 x4_2).length : Int) := of_decide_eq_true aS
                       obtain ⟨ad179, A179_0, c179_0, e179, hx179_0, hx179_1, hl179_0, hi179_0⟩ := at_T42 HR178_0.out x5_3 p179 q179
                       cases e179
                       replace hx179_0 := (HB.out.cell (World.block_lt_of_cell? w _ hx179_0)).trans hx179_0
                       replace hx179_1 := (HB.out.cell (World.block_lt_of_cell? w _ hx179_1)).trans hx179_1
                       have HR179_0 := Aside0.mk hi179_0
                       have HC179_0 := Aside0.mk hl179_0
                       clear hi179_0 hl179_0
                       replace p179 := eq_true p179
                       replace q179 := eq_true q179
                       go_wp2_with (first | ((with_reducible refine gate_callee (f := 131) rfl ?_); refine goesL_ (some 44) rfl rfl Try.func131 (by kernel_rfl) rfl #[.agg #[.slice A179_0 ((rd_T42 (rd_L5 l0_1 x4_2) x5_3).f0).length c179_0, .int .i64 ((rd_T42 (rd_L5 l0_1 x4_2) x5_3).f1)]] rfl aT ?_; (with_reducible refine (spec_l2Plane.calls k3 _ _ ((rd_T42 (rd_L5 l0_1 x4_2) x5_3).f0) ((rd_T42 (rd_L5 l0_1 x4_2) x5_3).f1) true _ ?side1 ?side2 A17.out).mono ?_); (case side1 => exact cB HR179_0 HB); (case side2 => exact HC179_0.out); rintro e w21 ⟨rfl, hb⟩; refine ⟨_, rfl, ?_⟩; have n0_ := Aside0.mk (blk_below (g := gb174) (o := .cells #[.int .i64 a0_0, .slice (some ad177) l0_1.length c0_1] 62 (0, 0)) (pB BK174) hb); have n1_ := Aside0.mk (below_step (bC HB GE174) hb); clear BK174; clear HB; have BK174 := n0_; have HB := n1_; clear n0_ n1_; (try clear hb); (try clear hb2); (try clear hk); (try clear hi); have hcz22_0 : w21.cell? ⟨gb174, 0, none⟩ = some (.int .i64 a0_0) := (blk_cell BK174.out 0).trans rfl; have hcz22_1 : w21.cell? ⟨gb174, 1, none⟩ = some (.slice (some ad177) l0_1.length c0_1) := (blk_cell BK174.out 1).trans rfl; have hfz22_0 := blk_frozen BK174.out 0; have hfz22_1 := blk_frozen BK174.out 1; have p181 : 0 ≤ (x4_2 : Int) := of_decide_eq_true aS; have q181 : x4_2 < (l0_1.length : Int) := of_decide_eq_true aS; obtain ⟨ad181, A181_0, c181_0, e181, hx181_0, hl181_0, hi181_0⟩ := at_L5 HR0_1.out x4_2 p181 q181; obtain rfl : ad177 = ad181 := (by injection e181); replace hx181_0 := (HB.out.cell (World.block_lt_of_cell? w _ hx181_0)).trans hx181_0; have HR181_0 := Aside0.mk hi181_0; have HC181_0 := Aside0.mk hl181_0; clear hi181_0 hl181_0; replace p181 := eq_true p181; replace q181 := eq_true q181; have p182 : 0 ≤ (x5_3 : Int) := of_decide_eq_true aS; have q182 : x5_3 < ((rd_L5 l0_1 x4_2).length : Int) := of_decide_eq_true aS; obtain ⟨ad182, A182_0, c182_0, e182, hx182_0, hx182_1, hl182_0, hi182_0⟩ := at_T42 HR181_0.out x5_3 p182 q182; cases e182; replace hx182_0 := (HB.out.cell (World.block_lt_of_cell? w _ hx182_0)).trans hx182_0; replace hx182_1 := (HB.out.cell (World.block_lt_of_cell? w _ hx182_1)).trans hx182_1; have HR182_0 := Aside0.mk hi182_0; have HC182_0 := Aside0.mk hl182_0; clear hi182_0 hl182_0; replace p182 := eq_true p182; replace q182 := eq_true q182))
                       go_roundg k3
                       case measure => have := HJ1.out; have := HK2.out; have := HK3.out; omega
                       case rel => exact ⟨(wrap64 (x5_3 + 1)), rD, H', ⟨by have := HJ1.out; have := HK2.out; have := HK3.out; omega⟩, ⟨pB BK174⟩, ⟨bC HB GE174⟩⟩
                     · rw [if_neg c19] at H
                       have c19b0 : ((((rd_T42 (rd_L5 l0_1 x4_2) x5_3).f0).length : Int) == x3_2) = false := beq_eq_false_iff_ne.mpr c19
                       have c19b1 : ((((rd_T42 (rd_L5 l0_1 x4_2) x5_3).f0).length : Int) != x3_2) = true := bne_iff_ne.mpr c19
                       obtain rfl := Option.some.inj H
                       have hcz23_0 : wr.cell? ⟨gb174, 0, none⟩ = some (.int .i64 a0_0) := (blk_cell BK174.out 0).trans rfl
                       have hcz23_1 : wr.cell? ⟨gb174, 1, none⟩ = some (.slice A0_1 l0_1.length c0_1) := (blk_cell BK174.out 1).trans rfl
                       have hfz23_0 := blk_frozen BK174.out 0
                       have hfz23_1 := blk_frozen BK174.out 1
                       have p177 : 0 ≤ (x4_2 : Int) := of_decide_eq_true aS
                       have q177 : x4_2 < (l0_1.length : Int) := of_decide_eq_true aS
                       obtain ⟨ad177, A177_0, c177_0, e177, hx177_0, hl177_0, hi177_0⟩ := at_L5 HR0_1.out x4_2 p177 q177
                       cases e177
                       replace hx177_0 := (HB.out.cell (World.block_lt_of_cell? w _ hx177_0)).trans hx177_0
                       have HR177_0 := Aside0.mk hi177_0
                       have HC177_0 := Aside0.mk hl177_0
                       clear hi177_0 hl177_0
                       replace p177 := eq_true p177
                       replace q177 := eq_true q177
                       have p178 : 0 ≤ (x4_2 : Int) := of_decide_eq_true aS
                       have q178 : x4_2 < (l0_1.length : Int) := of_decide_eq_true aS
                       obtain ⟨ad178, A178_0, c178_0, e178, hx178_0, hl178_0, hi178_0⟩ := at_L5 HR0_1.out x4_2 p178 q178
                       obtain rfl : ad177 = ad178 := (by injection e178)
                       replace hx178_0 := (HB.out.cell (World.block_lt_of_cell? w _ hx178_0)).trans hx178_0
                       have HR178_0 := Aside0.mk hi178_0
                       have HC178_0 := Aside0.mk hl178_0
                       clear hi178_0 hl178_0
                       replace p178 := eq_true p178
                       replace q178 := eq_true q178
                       have ea_ := Option.some.inj (hx177_0.symm.trans hx178_0)
                       injection ea_ with ea_ en_ ec_
                       subst ea_
                       subst ec_
                       clear en_
                       have p179 : 0 ≤ (x5_3 : Int) := of_decide_eq_true aS
                       have q179 : x5_3 < ((rd_L5 l0_1 x4_2).length : Int) := of_decide_eq_true aS
                       obtain ⟨ad179, A179_0, c179_0, e179, hx179_0, hx179_1, hl179_0, hi179_0⟩ := at_T42 HR178_0.out x5_3 p179 q179
                       cases e179
                       replace hx179_0 := (HB.out.cell (World.block_lt_of_cell? w _ hx179_0)).trans hx179_0
                       replace hx179_1 := (HB.out.cell (World.block_lt_of_cell? w _ hx179_1)).trans hx179_1
                       have HR179_0 := Aside0.mk hi179_0
                       have HC179_0 := Aside0.mk hl179_0
                       clear hi179_0 hl179_0
                       replace p179 := eq_true p179
                       replace q179 := eq_true q179
                       go_wp2_with (first | ((with_reducible refine gate_callee (f := 131) rfl ?_); refine goesL_ (some 44) rfl rfl Try.func131 (by kernel_rfl) rfl #[.agg #[.slice A179_0 ((rd_T42 (rd_L5 l0_1 x4_2) x5_3).f0).length c179_0, .int .i64 ((rd_T42 (rd_L5 l0_1 x4_2) x5_3).f1)]] rfl aT ?_; (with_reducible refine (spec_l2Plane.calls k3 _ _ ((rd_T42 (rd_L5 l0_1 x4_2) x5_3).f0) ((rd_T42 (rd_L5 l0_1 x4_2) x5_3).f1) true _ ?side1 ?side2 A17.out).mono ?_); (case side1 => exact cB HR179_0 HB); (case side2 => exact HC179_0.out); rintro e w24 ⟨rfl, hb⟩; refine ⟨_, rfl, ?_⟩; have n0_ := Aside0.mk (blk_below (g := gb174) (o := .cells #[.int .i64 a0_0, .slice (some ad177) l0_1.length c0_1] 62 (0, 0)) (pB BK174) hb); have n1_ := Aside0.mk (below_step (bC HB GE174) hb); clear BK174; clear HB; have BK174 := n0_; have HB := n1_; clear n0_ n1_; (try clear hb); (try clear hb2); (try clear hk); (try clear hi); have hcz25_0 : w24.cell? ⟨gb174, 0, none⟩ = some (.int .i64 a0_0) := (blk_cell BK174.out 0).trans rfl; have hcz25_1 : w24.cell? ⟨gb174, 1, none⟩ = some (.slice (some ad177) l0_1.length c0_1) := (blk_cell BK174.out 1).trans rfl; have hfz25_0 := blk_frozen BK174.out 0; have hfz25_1 := blk_frozen BK174.out 1; have p181 : 0 ≤ (x4_2 : Int) := of_decide_eq_true aS; have q181 : x4_2 < (l0_1.length : Int) := of_decide_eq_true aS; obtain ⟨ad181, A181_0, c181_0, e181, hx181_0, hl181_0, hi181_0⟩ := at_L5 HR0_1.out x4_2 p181 q181; obtain rfl : ad177 = ad181 := (by injection e181); replace hx181_0 := (HB.out.cell (World.block_lt_of_cell? w _ hx181_0)).trans hx181_0; have HR181_0 := Aside0.mk hi181_0; have HC181_0 := Aside0.mk hl181_0; clear hi181_0 hl181_0; replace p181 := eq_true p181; replace q181 := eq_true q181; have p182 : 0 ≤ (x5_3 : Int) := of_decide_eq_true aS; have q182 : x5_3 < ((rd_L5 l0_1 x4_2).length : Int) := of_decide_eq_true aS; obtain ⟨ad182, A182_0, c182_0, e182, hx182_0, hx182_1, hl182_0, hi182_0⟩ := at_T42 HR181_0.out x5_3 p182 q182; cases e182; replace hx182_0 := (HB.out.cell (World.block_lt_of_cell? w _ hx182_0)).trans hx182_0; replace hx182_1 := (HB.out.cell (World.block_lt_of_cell? w _ hx182_1)).trans hx182_1; have HR182_0 := Aside0.mk hi182_0; have HC182_0 := Aside0.mk hl182_0; clear hi182_0 hl182_0; replace p182 := eq_true p182; replace q182 := eq_true q182))
                       go_ret
                       exact ⟨eW, bC HB GE174⟩
                   · replace c18 := Bool.eq_false_iff.mpr c18
                     subst c18
                     have H1 : (some false) = some r := by rw [if_neg (show ¬ (false = true) by decide)] at H; exact H
                     clear H
                     have H := H1
                     clear H1
                     obtain rfl := Option.some.inj H
                     have hcz26_0 : wr.cell? ⟨gb174, 0, none⟩ = some (.int .i64 a0_0) := (blk_cell BK174.out 0).trans rfl
                     have hcz26_1 : wr.cell? ⟨gb174, 1, none⟩ = some (.slice A0_1 l0_1.length c0_1) := (blk_cell BK174.out 1).trans rfl
                     have hfz26_0 := blk_frozen BK174.out 0
                     have hfz26_1 := blk_frozen BK174.out 1
                     have p177 : 0 ≤ (x4_2 : Int) := of_decide_eq_true aS
                     have q177 : x4_2 < (l0_1.length : Int) := of_decide_eq_true aS
                     obtain ⟨ad177, A177_0, c177_0, e177, hx177_0, hl177_0, hi177_0⟩ := at_L5 HR0_1.out x4_2 p177 q177
                     cases e177
                     replace hx177_0 := (HB.out.cell (World.block_lt_of_cell? w _ hx177_0)).trans hx177_0
                     have HR177_0 := Aside0.mk hi177_0
                     have HC177_0 := Aside0.mk hl177_0
                     clear hi177_0 hl177_0
                     replace p177 := eq_true p177
                     replace q177 := eq_true q177
                     have p178 : 0 ≤ (x4_2 : Int) := of_decide_eq_true aS
                     have q178 : x4_2 < (l0_1.length : Int) := of_decide_eq_true aS
                     obtain ⟨ad178, A178_0, c178_0, e178, hx178_0, hl178_0, hi178_0⟩ := at_L5 HR0_1.out x4_2 p178 q178
                     obtain rfl : ad177 = ad178 := (by injection e178)
                     replace hx178_0 := (HB.out.cell (World.block_lt_of_cell? w _ hx178_0)).trans hx178_0
                     have HR178_0 := Aside0.mk hi178_0
                     have HC178_0 := Aside0.mk hl178_0
                     clear hi178_0 hl178_0
                     replace p178 := eq_true p178
                     replace q178 := eq_true q178
                     have ea_ := Option.some.inj (hx177_0.symm.trans hx178_0)
                     injection ea_ with ea_ en_ ec_
                     subst ea_
                     subst ec_
                     clear en_
                     have p179 : 0 ≤ (x5_3 : Int) := of_decide_eq_true aS
                     have q179 : x5_3 < ((rd_L5 l0_1 x4_2).length : Int) := of_decide_eq_true aS
                     obtain ⟨ad179, A179_0, c179_0, e179, hx179_0, hx179_1, hl179_0, hi179_0⟩ := at_T42 HR178_0.out x5_3 p179 q179
                     cases e179
                     replace hx179_0 := (HB.out.cell (World.block_lt_of_cell? w _ hx179_0)).trans hx179_0
                     replace hx179_1 := (HB.out.cell (World.block_lt_of_cell? w _ hx179_1)).trans hx179_1
                     have HR179_0 := Aside0.mk hi179_0
                     have HC179_0 := Aside0.mk hl179_0
                     clear hi179_0 hl179_0
                     replace p179 := eq_true p179
                     replace q179 := eq_true q179
                     go_wp2_with (first | ((with_reducible refine gate_callee (f := 131) rfl ?_); refine goesL_ (some 44) rfl rfl Try.func131 (by kernel_rfl) rfl #[.agg #[.slice A179_0 ((rd_T42 (rd_L5 l0_1 x4_2) x5_3).f0).length c179_0, .int .i64 ((rd_T42 (rd_L5 l0_1 x4_2) x5_3).f1)]] rfl aT ?_; (with_reducible refine (spec_l2Plane.calls k3 _ _ ((rd_T42 (rd_L5 l0_1 x4_2) x5_3).f0) ((rd_T42 (rd_L5 l0_1 x4_2) x5_3).f1) false _ ?side1 ?side2 A17.out).mono ?_); (case side1 => exact cB HR179_0 HB); (case side2 => exact HC179_0.out); rintro e w27 ⟨rfl, hb⟩; refine ⟨_, rfl, ?_⟩; have n0_ := Aside0.mk (blk_below (g := gb174) (o := .cells #[.int .i64 a0_0, .slice (some ad177) l0_1.length c0_1] 62 (0, 0)) (pB BK174) hb); have n1_ := Aside0.mk (below_step (bC HB GE174) hb); clear BK174; clear HB; have BK174 := n0_; have HB := n1_; clear n0_ n1_; (try clear hb); (try clear hb2); (try clear hk); (try clear hi)))
                     go_ret
                     exact ⟨eW, bC HB GE174⟩
                 · rw [if_neg c16] at H
                   exact absurd H (by simp)
               · rw [if_neg c15] at H
                 have c15b0 : decide (x5_3 < ((rd_L5 l0_1 x4_2).length : Int)) = false := decide_eq_false c15
                 clear c15
                 replace H := Option.bind_eq_some_iff.mp H
                 obtain ⟨t184, A280, H⟩ := H
                 replace H : (if t184 = true then (spec_l9Good.l0 k3 ((rd_L5 l0_1 x4_2).length : Int) (wrap64 (x4_2 + 1)) a0_0 l0_1) else (some false)) = some r := H
                 have A28 := Aside0.mk A280
                 clear A280
                 by_cases c29 : t184 = true
                 · subst c29
                   have H1 : (spec_l9Good.l0 k3 ((rd_L5 l0_1 x4_2).length : Int) (wrap64 (x4_2 + 1)) a0_0 l0_1) = some r := by rw [if_pos rfl] at H; exact H
                   clear H
                   have H := H1
                   clear H1
                   have H' := Aside0.mk H
                   clear H
                   have hcz30_0 : wr.cell? ⟨gb174, 0, none⟩ = some (.int .i64 a0_0) := (blk_cell BK174.out 0).trans rfl
                   have hcz30_1 : wr.cell? ⟨gb174, 1, none⟩ = some (.slice A0_1 l0_1.length c0_1) := (blk_cell BK174.out 1).trans rfl
                   have hfz30_0 := blk_frozen BK174.out 0
                   have hfz30_1 := blk_frozen BK174.out 1
                   have p177 : 0 ≤ (x4_2 : Int) := of_decide_eq_true aS
                   have q177 : x4_2 < (l0_1.length : Int) := of_decide_eq_true aS
                   obtain ⟨ad177, A177_0, c177_0, e177, hx177_0, hl177_0, hi177_0⟩ := at_L5 HR0_1.out x4_2 p177 q177
                   cases e177
                   replace hx177_0 := (HB.out.cell (World.block_lt_of_cell? w _ hx177_0)).trans hx177_0
                   have HR177_0 := Aside0.mk hi177_0
                   have HC177_0 := Aside0.mk hl177_0
                   clear hi177_0 hl177_0
                   replace p177 := eq_true p177
                   replace q177 := eq_true q177
                   have p183 : 0 ≤ (x4_2 : Int) := of_decide_eq_true aS
                   have q183 : x4_2 < (l0_1.length : Int) := of_decide_eq_true aS
                   obtain ⟨ad183, A183_0, c183_0, e183, hx183_0, hl183_0, hi183_0⟩ := at_L5 HR0_1.out x4_2 p183 q183
                   obtain rfl : ad177 = ad183 := (by injection e183)
                   replace hx183_0 := (HB.out.cell (World.block_lt_of_cell? w _ hx183_0)).trans hx183_0
                   have HR183_0 := Aside0.mk hi183_0
                   have HC183_0 := Aside0.mk hl183_0
                   clear hi183_0 hl183_0
                   replace p183 := eq_true p183
                   replace q183 := eq_true q183
                   have ea_ := Option.some.inj (hx177_0.symm.trans hx183_0)
                   injection ea_ with ea_ en_ ec_
                   subst ea_
                   subst ec_
                   clear en_
                   go_wp2_with (first | ((with_reducible refine gate_callee (f := 66) rfl ?_); refine goesL_ (some 67) rfl rfl Try.func66 (by kernel_rfl) rfl #[.int .i64 ((rd_L5 l0_1 x4_2).length : Int), .int .i64 1, .int .i64 4] rfl aT ?_; (with_reducible refine (spec_l1In.calls ((rd_L5 l0_1 x4_2).length : Int) 1 4 true _ A28.out).mono ?_); rintro e w' ⟨rfl, ⟨nd, rfl⟩⟩; refine ⟨_, rfl, ?_⟩))
                   go_roundg k3
                   case measure => have := HJ1.out; have := HK2.out; have := HK3.out; omega
                   case rel => exact ⟨(((rd_L5 l0_1 x4_2).length : Int)), (wrap64 (x4_2 + 1)), rD, rD, H', ⟨by have := HJ1.out; have := HK2.out; have := HK3.out; omega⟩, ⟨pB BK174⟩, ⟨bC HB GE174⟩⟩
                 · replace c29 := Bool.eq_false_iff.mpr c29
                   subst c29
                   have H1 : (some false) = some r := by rw [if_neg (show ¬ (false = true) by decide)] at H; exact H
                   clear H
                   have H := H1
                   clear H1
                   obtain rfl := Option.some.inj H
                   have hcz31_0 : wr.cell? ⟨gb174, 0, none⟩ = some (.int .i64 a0_0) := (blk_cell BK174.out 0).trans rfl
                   have hcz31_1 : wr.cell? ⟨gb174, 1, none⟩ = some (.slice A0_1 l0_1.length c0_1) := (blk_cell BK174.out 1).trans rfl
                   have hfz31_0 := blk_frozen BK174.out 0
                   have hfz31_1 := blk_frozen BK174.out 1
                   have p177 : 0 ≤ (x4_2 : Int) := of_decide_eq_true aS
                   have q177 : x4_2 < (l0_1.length : Int) := of_decide_eq_true aS
                   obtain ⟨ad177, A177_0, c177_0, e177, hx177_0, hl177_0, hi177_0⟩ := at_L5 HR0_1.out x4_2 p177 q177
                   cases e177
                   replace hx177_0 := (HB.out.cell (World.block_lt_of_cell? w _ hx177_0)).trans hx177_0
                   have HR177_0 := Aside0.mk hi177_0
                   have HC177_0 := Aside0.mk hl177_0
                   clear hi177_0 hl177_0
                   replace p177 := eq_true p177
                   replace q177 := eq_true q177
                   have p183 : 0 ≤ (x4_2 : Int) := of_decide_eq_true aS
                   have q183 : x4_2 < (l0_1.length : Int) := of_decide_eq_true aS
                   obtain ⟨ad183, A183_0, c183_0, e183, hx183_0, hl183_0, hi183_0⟩ := at_L5 HR0_1.out x4_2 p183 q183
                   obtain rfl : ad177 = ad183 := (by injection e183)
                   replace hx183_0 := (HB.out.cell (World.block_lt_of_cell? w _ hx183_0)).trans hx183_0
                   have HR183_0 := Aside0.mk hi183_0
                   have HC183_0 := Aside0.mk hl183_0
                   clear hi183_0 hl183_0
                   replace p183 := eq_true p183
                   replace q183 := eq_true q183
                   have ea_ := Option.some.inj (hx177_0.symm.trans hx183_0)
                   injection ea_ with ea_ en_ ec_
                   subst ea_
                   subst ec_
                   clear en_
                   go_wp2_with (first | ((with_reducible refine gate_callee (f := 66) rfl ?_); refine goesL_ (some 67) rfl rfl Try.func66 (by kernel_rfl) rfl #[.int .i64 ((rd_L5 l0_1 x4_2).length : Int), .int .i64 1, .int .i64 4] rfl aT ?_; (with_reducible refine (spec_l1In.calls ((rd_L5 l0_1 x4_2).length : Int) 1 4 false _ A28.out).mono ?_); rintro e w' ⟨rfl, ⟨nd, rfl⟩⟩; refine ⟨_, rfl, ?_⟩))
                   go_ret
                   exact ⟨eW, bC HB GE174⟩
             · rw [if_neg c14] at H
               exact absurd H (by simp)
           · rw [if_neg c13] at H
             exact absurd H (by simp)
       · rw [if_neg c11] at H
         have c11b0 : decide (x4_2 < (l0_1.length : Int)) = false := decide_eq_false c11
         clear c11
         obtain rfl := Option.some.inj H
         have hcz32_0 : wr.cell? ⟨gb174, 0, none⟩ = some (.int .i64 a0_0) := (blk_cell BK174.out 0).trans rfl
         have hcz32_1 : wr.cell? ⟨gb174, 1, none⟩ = some (.slice A0_1 l0_1.length c0_1) := (blk_cell BK174.out 1).trans rfl
         have hfz32_0 := blk_frozen BK174.out 0
         have hfz32_1 := blk_frozen BK174.out 1
         go_wp2
         go_ret
         exact ⟨eW, bC HB GE174⟩

/-! ### spec_l1Own: function 104 -/
def spec_l1Own.f (l0 : List Int) : Option (List Int) := (some (([] : List Int) : List Int)).bind fun y185 => (if y185.length + l0.length < 17592186044416 then (some (y185 ++ l0)) else (none))
set_option maxHeartbeats 8000000 in
set_option maxRecDepth 100000 in
theorem spec_l1Own.calls (A0 : Option Addr) (c0 : Nat) (l0 : List Int) (r : List Int) (w : World) (hr0 : Kd.C (Kd.int .i64) w A0 l0.length l0) (hc0 : l0.length ≤ c0) (h : spec_l1Own.f l0 = some r) :
 Calls Try.prog 104 #[.slice A0 l0.length c0] w fun e w' => ∃ v0_ : Value, e = .returned (v0_) ∧ Kd.R (Kd.int .i64) 3 w' w.heap.size (fun _ => True) v0_ r ∧ Below w.heap.size w w' := by
 have HR0 := Aside0.mk hr0
 have HC0 := Aside0.mk hc0
 clear hr0 hc0
 have HB := Aside0.mk (Below.refl w.heap.size w)
 have H : ((some (([] : List Int) : List Int)).bind fun y185 => (if y185.length + l0.length < 17592186044416 then (some (y185 ++ l0)) else (none))) = some r := h
 clear h
 obtain ⟨y185, hy185⟩ : ∃ y_ : List Int, y_ = (([] : List Int)) := ⟨_, rfl⟩
 replace H : (if y185.length + l0.length < 17592186044416 then (some (y185 ++ l0)) else (none)) = some r := by first | (rw [hy185]; with_reducible exact H) | (have H2_ := (Option.bind_some _ _).symm.trans H; rw [hy185]; with_reducible exact H2_) | (have H2_ := (Option.bind_some _ _).symm.trans H; with_reducible exact H2_) | with_reducible exact H | (rw [hy185]; exact H) | exact H
 have Ny185 := Aside0.mk hy185
 clear hy185
 by_cases c2 : y185.length + l0.length < 17592186044416
 · rw [if_pos c2] at H
   have LMc2 := Aside0.mk c2
   clear c2
   obtain ⟨y188, hy188⟩ : ∃ y_ : List Int, y_ = (y185 ++ l0) := ⟨_, rfl⟩
   replace H : (some y188) = some r := by first | (rw [hy188]; with_reducible exact H) | (have H2_ := (Option.bind_some _ _).symm.trans H; rw [hy188]; with_reducible exact H2_) | (have H2_ := (Option.bind_some _ _).symm.trans H; with_reducible exact H2_) | with_reducible exact H | (rw [hy188]; exact H) | exact H
   have Ny188 := Aside0.mk hy188
   clear hy188
   obtain rfl := Option.some.inj H
   go_enter Try.func104, Try.ntmps104
   go_wp2_with (first | ((with_reducible refine gate_dst (N := 3) rfl ?_); refine Kd.R_lit (Kd.int .i64) _ 3 ?hg (N := 3) ?hd (xs := ([] : List Int)) (inner := []) (ok := fun _ => True) (okp := fun _ => True) ?hr ?hp (fun _ hk => hk) trivial (Below.refl _ _) (Nat.le_refl _) (by simp) ?_; (case hd => rfl); (case hg => rfl); (case hr => first | (go_simp; done) | (go_simp; rfl)); (case hp => exact (Reps.none _ _)); intro v186 w3 ho4 hb hg_ hnew_; clear hg_ hnew_; (first | rw [← Ny185.out] at ho4 | (simp only [Int.reduceToNat] at ho4; rw [← Ny185.out] at ho4)); have n0_ := Aside0.mk (Kd.R_lower ho4 (below_size (bB HB))); have n1_ := Aside0.mk (below_step (bB HB) hb); clear HB; have HO187 := n0_; have HB := n1_; clear n0_ n1_; clear hb ho4) | ((with_reducible refine gate_builtin (b := .append) (xs := #[.tmp 3, .tmp 4]) rfl ?_); at_builtin; refine Kd.R_append_rows (Kd.int .i64) (w0 := w) w.heap.size rfl (.tmp 3) (.tmp 4) 23 3 (.int .i64 0) 8 rfl Try.underlying23 info3 rfl (by decide) (by omega) v186 y185 l0 _ _ _ (fun _ => True) (fun _ => False) rfl rfl ?aO ?aR (fun _ _ h => h) (fun _ h => h.elim) ?aF ?aB ?aS ?aL ?_; (case aR => exact cB HR0 HB); (case aB => exact (bB HB)); (case aF => exact (fun _ _ => trivial)); (case aO => exact (pR HO187)); (case aS => exact (below_size (bB HB))); (case aL => have := LMc2.out; omega); intro v189 w5 ho hb hg hat; rw [← Ny188.out] at ho; have n0_ := Aside0.mk (hb); have n1_ := Aside0.mk (ho); clear HB; clear HO187; have HB := n0_; have HO190 := n1_; clear n0_ n1_; clear ho hb hg hat))
   go_ret
   exact ⟨_, eW, by (with_reducible repeat (first | apply Kd.R_alloc | apply Kd.R_drewN | apply Kd.R_drew)); exact HO190.out, bB HB⟩
 · rw [if_neg c2] at H
   exact absurd H (by simp)

/-! ### spec_l2Dot: function 82 -/
def spec_l2Dot.l0 : Nat → List Int → List Int → Int → Int → Option (Int)
 | 0, _, _, _, _ => none
 | k + 1, x0, x1, x5, x6 => if x6 < (x0.length : Int) then (if 0 ≤ x6 then (if x6 < (x1.length : Int) then (spec_l2Dot.l0 k x0 x1 (wrap64 (x5 + (wrap64 ((rd x0 x6) * (rd x1 x6))))) (wrap64 (x6 + 1))) else (none)) else (none)) else (some x5)
def spec_l2Dot.f (k : Nat) (l0 : List Int) (l1 : List Int) : Option (Int) := spec_l2Dot.l0 k l0 l1 0 0
set_option maxHeartbeats 8000000 in
set_option maxRecDepth 100000 in
theorem spec_l2Dot.calls (k : Nat) (A0 : Option Addr) (c0 : Nat) (l0 : List Int) (A1 : Option Addr) (c1 : Nat) (l1 : List Int) (r : Int) (w : World) (hr0 : Kd.C (Kd.int .i64) w A0 l0.length l0) (hc0 : l0.length ≤ c0) (hr1 : Kd.C (Kd.int .i64) w A1 l1.length l1) (hc1 : l1.length ≤ c1) (h : spec_l2Dot.f k l0 l1 = some r) :
 Calls Try.prog 82 #[.slice A0 l0.length c0, .slice A1 l1.length c1] w fun e w' => e = .returned (.int .i64 r) ∧ Drawn0 w w' := by
 have HR0 := Aside0.mk hr0
 have HC0 := Aside0.mk hc0
 clear hr0 hc0
 have HR1 := Aside0.mk hr1
 have HC1 := Aside0.mk hc1
 clear hr1 hc1
 have H : (spec_l2Dot.l0 k l0 l1 0 0) = some r := h
 clear h
 have H' := Aside0.mk H
 clear H
 go_enter Try.func82, Try.ntmps82
 go_wp2
 repeat (go_quiet (fail); try go_wp2)
 go_loopg [5, 6] k (fun kq v5 v6 w' => ∃ (x5_1 : Int) (x6_1 : Int), v5 = .int .i64 x5_1 ∧ v6 = .int .i64 x6_1 ∧ Aside0 (spec_l2Dot.l0 kq l0 l1 x5_1 x6_1 = some r) ∧ Aside0 (kq ≤ k) ∧ Drawn0 w w')
 case atStart => exact ⟨(0), (0), rD, rD, H', ⟨Nat.le_refl _⟩, by repeat (first | exact Drawn0.refl _ | apply Drawn0.step)⟩
 case round =>
  clear H'
  try clear c1
  try clear p2
  obtain ⟨x5_1, x6_1, rfl, rfl, HA, HK1, ⟨m1, rfl⟩⟩ := hrel
  cases gk with
  | zero => exact absurd HA.out (by simp [spec_l2Dot.l0])
  | succ k1 =>
   have H := HA.out
   clear HA
   simp only [spec_l2Dot.l0] at H
   by_cases c3 : x6_1 < (l0.length : Int)
   · rw [if_pos c3] at H
     have c3b0 : decide (x6_1 < (l0.length : Int)) = true := decide_eq_true c3
     clear c3
     by_cases c4 : 0 ≤ x6_1
     · rw [if_pos c4] at H
       have c4b0 : decide (0 ≤ x6_1) = true := decide_eq_true c4
       clear c4
       by_cases c5 : x6_1 < (l1.length : Int)
       · rw [if_pos c5] at H
         have c5b0 : decide (x6_1 < (l1.length : Int)) = true := decide_eq_true c5
         clear c5
         have H' := Aside0.mk H
         clear H
         have p191 : 0 ≤ (x6_1 : Int) := of_decide_eq_true aS
         have q191 : x6_1 < (l0.length : Int) := of_decide_eq_true aS
         obtain ⟨ad191, e191, hx191_0⟩ := Kd.at_int HR0.out x6_1 p191 q191
         cases e191
         replace p191 := eq_true p191
         replace q191 := eq_true q191
         have p192 : 0 ≤ (x6_1 : Int) := of_decide_eq_true aS
         have q192 : x6_1 < (l1.length : Int) := of_decide_eq_true aS
         obtain ⟨ad192, e192, hx192_0⟩ := Kd.at_int HR1.out x6_1 p192 q192
         cases e192
         replace p192 := eq_true p192
         replace q192 := eq_true q192
         go_wp2
         repeat (go_quiet (fail); try go_wp2)
         go_roundg k1
         case measure => have := HK1.out; omega
         case rel => exact ⟨(wrap64 (x5_1 + (wrap64 ((rd l0 x6_1) * (rd l1 x6_1))))), (wrap64 (x6_1 + 1)), rD, rD, H', ⟨by have := HK1.out; omega⟩, by repeat (first | exact Drawn0.refl _ | apply Drawn0.step)⟩
       · rw [if_neg c5] at H
         exact absurd H (by simp)
     · rw [if_neg c4] at H
       exact absurd H (by simp)
   · rw [if_neg c3] at H
     have c3b0 : decide (x6_1 < (l0.length : Int)) = false := decide_eq_false c3
     clear c3
     obtain rfl := Option.some.inj H
     go_wp2
     repeat (go_quiet (fail); try go_wp2)
     go_ret
     exact ⟨rD, by repeat (first | exact Drawn0.refl _ | apply Drawn0.step)⟩

end Go.Proofs.Ytniebbjbihenfaa.PFnExactNetTables
