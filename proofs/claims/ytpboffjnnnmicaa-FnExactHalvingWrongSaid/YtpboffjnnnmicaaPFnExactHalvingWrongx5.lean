-- Printed by wip/tools/myprint.py (the printer of the kit, patched by that program; roots chosen by it)
import Derived.Test.YtpboffjnnnmicaaPFnExactHalvingWrongx0
import Derived.Test.YtpboffjnnnmicaaPFnExactHalvingWrongx4
import Derived.Test.YtpboffjnnnmicaaSh
namespace Go.Proofs.Ytpboffjnnnmicaa.PFnExactHalvingWrong
open Go.RowKit Go.Proofs.Ytpboffjnnnmicaa.Sh Go.Proofs.YtpboffjnnnmicaaW.PrintWords Go.Proofs.YtpboffjnnnmicaaW.PrintLast Go.Proofs.YtpboffjnnnmicaaW.PrintMore
attribute [local go_sem] max2_int min2_int max_two min_two max_three min_three max_four min_four   -- for this text's walks alone
set_option linter.unusedVariables false
set_option linter.unusedSimpArgs false

/-! ### impl_sign: function 91 -/
def impl_sign.f (a0 : Int) : Option (Int) := if a0 ≥ 0 then (some 1) else (some (-1))
set_option maxHeartbeats 8000000 in
set_option maxRecDepth 100000 in
theorem impl_sign.calls (a0 : Int) (r : Int) (w : World) (h : impl_sign.f a0 = some r) :
 Calls Try.prog 91 #[.int .i64 a0] w fun e w' => e = .returned (.int .i64 r) ∧ Drawn0 w w' := by
 have H : (if a0 ≥ 0 then (some 1) else (some (-1))) = some r := h
 clear h
 by_cases c2 : a0 ≥ 0
 · rw [if_pos c2] at H
   have c2b0 : decide (0 ≤ a0) = true := decide_eq_true c2
   clear c2
   obtain rfl := Option.some.inj H
   go_enter Try.func91, Try.ntmps91
   go_wp2
   go_ret
   exact ⟨rD, by repeat (first | exact Drawn0.refl _ | apply Drawn0.step)⟩
 · rw [if_neg c2] at H
   have c2b0 : decide (0 ≤ a0) = false := decide_eq_false c2
   clear c2
   obtain rfl := Option.some.inj H
   go_enter Try.func91, Try.ntmps91
   go_wp2
   go_ret
   exact ⟨rD, by repeat (first | exact Drawn0.refl _ | apply Drawn0.step)⟩

/-! ### impl_HalvingSays_1: function 100 -/
def impl_HalvingSays_1.l0 : Nat → Int → Int → List Int → Int → Int → List (List Int) → List Int → Option (Int)
 | 0, _, _, _, _, _, _, _ => none
 | k + 1, x0, x6, x9, x10, x11, x198000, x198001 => if x11 < x10 then (if 0 ≤ x11 then (if x11 < (x9.length : Int) then (if x11 < (x198000.length : Int) then (if 0 ≤ x0 then (if x0 < ((rd_L1 x198000 x11).length : Int) then (if 0 ≤ (wrap64 (16 - (rd x9 x11))) then (impl_HalvingSays_1.l0 k x0 (wrap64 (x6 + (shl .i64 (rd (rd_L1 x198000 x11) x0) (wrap64 (16 - (rd x9 x11)))))) x9 x10 (wrap64 (x11 + 1)) x198000 x198001) else (none)) else (none)) else (none)) else (none)) else (none)) else (none)) else ((impl_sign.f x6).bind fun t201 => (some t201))
def impl_HalvingSays_1.f (k : Nat) (a0 : Int) (l1 : List Int) (l2_0 : List (List Int)) (l2_1 : List Int) : Option (Int) := impl_HalvingSays_1.l0 k a0 0 l1 (l1.length : Int) 0 l2_0 l2_1
set_option maxHeartbeats 8000000 in
set_option maxRecDepth 100000 in
theorem impl_HalvingSays_1.calls (k : Nat) (a0 : Int) (A1 : Option Addr) (c1 : Nat) (l1 : List Int) (A2_0 : Option Addr) (c2_0 : Nat) (l2_0 : List (List Int)) (A2_1 : Option Addr) (c2_1 : Nat) (l2_1 : List Int) (r : Int) (w : World) (gb197 : Nat) (hbk197 : w.heap[gb197]? = some (.cells #[.slice A2_0 l2_0.length c2_0, .slice A2_1 l2_1.length c2_1] 29 (0, 0))) (hr1 : Kd.C (Kd.int .i64) w A1 l1.length l1) (hc1 : l1.length ≤ c1) (hr2_0 : Kd.C (Kd.slice 3 (Kd.int .i64)) w A2_0 l2_0.length l2_0) (hc2_0 : l2_0.length ≤ c2_0) (hr2_1 : Kd.C (Kd.int .i64) w A2_1 l2_1.length l2_1) (hc2_1 : l2_1.length ≤ c2_1) (h : impl_HalvingSays_1.f k a0 l1 l2_0 l2_1 = some r) :
 Calls Try.prog 100 #[.int .i64 a0, .slice A1 l1.length c1, .pointer (some ⟨gb197, 0, none⟩)] w fun e w' => e = .returned (.int .i64 r) ∧ Below w.heap.size w w' := by
 have hu29 := Try.underlying29
 have HR1 := Aside0.mk hr1
 have HC1 := Aside0.mk hc1
 clear hr1 hc1
 have HR2_0 := Aside0.mk hr2_0
 have HC2_0 := Aside0.mk hc2_0
 clear hr2_0 hc2_0
 have HR2_1 := Aside0.mk hr2_1
 have HC2_1 := Aside0.mk hc2_1
 clear hr2_1 hc2_1
 have HB := Aside0.mk (Below.refl w.heap.size w)
 have H : (impl_HalvingSays_1.l0 k a0 0 l1 (l1.length : Int) 0 l2_0 l2_1) = some r := h
 clear h
 have H' := Aside0.mk H
 clear H
 go_enter Try.func100, Try.ntmps100
 have BK197 := Aside0.mk hbk197
 clear hbk197
 go_wp2
 go_loopg [6, 11] k (fun kq v6 v11 w' => ∃ (x6_1 : Int) (x11_1 : Int), v6 = .int .i64 x6_1 ∧ v11 = .int .i64 x11_1 ∧ Aside0 (impl_HalvingSays_1.l0 kq a0 x6_1 l1 (l1.length : Int) x11_1 l2_0 l2_1 = some r) ∧ Aside0 (kq ≤ k) ∧ Aside0 (w'.heap[gb197]? = some (.cells #[(.slice A2_0 l2_0.length c2_0), (.slice A2_1 l2_1.length c2_1)] 29 (0, 0))) ∧ Aside0 (Below w.heap.size w w'))
 case atStart => exact ⟨(0), (0), rD, rD, H', ⟨Nat.le_refl _⟩, ⟨pB BK197⟩, ⟨bB HB⟩⟩
 case round =>
  clear H'
  try clear c1
  try clear c2
  try clear p2
  obtain ⟨x6_1, x11_1, rfl, rfl, HA, HK1, BK197, HB⟩ := hrel
  cases gk with
  | zero => exact absurd HA.out (by simp [impl_HalvingSays_1.l0])
  | succ k1 =>
   have H := HA.out
   clear HA
   simp only [impl_HalvingSays_1.l0] at H
   by_cases c5 : x11_1 < (l1.length : Int)
   · rw [if_pos c5] at H
     have c5b0 : decide (x11_1 < (l1.length : Int)) = true := decide_eq_true c5
     clear c5
     by_cases c6 : 0 ≤ x11_1
     · rw [if_pos c6] at H
       have c6b0 : decide (0 ≤ x11_1) = true := decide_eq_true c6
       clear c6
       by_cases c7 : x11_1 < (l1.length : Int)
       · rw [if_pos c7] at H
         have c7b0 : decide (x11_1 < (l1.length : Int)) = true := decide_eq_true c7
         clear c7
         by_cases c8 : x11_1 < (l2_0.length : Int)
         · rw [if_pos c8] at H
           have c8b0 : decide (x11_1 < (l2_0.length : Int)) = true := decide_eq_true c8
           clear c8
           by_cases c9 : 0 ≤ a0
           · rw [if_pos c9] at H
             have c9b0 : decide (0 ≤ a0) = true := decide_eq_true c9
             clear c9
             by_cases c10 : a0 < ((rd_L1 l2_0 x11_1).length : Int)
             · rw [if_pos c10] at H
               have c10b0 : decide (a0 < ((rd_L1 l2_0 x11_1).length : Int)) = true := decide_eq_true c10
               clear c10
               obtain ⟨ji11, hji11⟩ : ∃ j_ : Int, (wrap64 (16 - (rd l1 x11_1))) = j_ := ⟨_, rfl⟩
               replace H : (if 0 ≤ (ji11) then (impl_HalvingSays_1.l0 k1 a0 (wrap64 (x6_1 + (shl .i64 (rd (rd_L1 l2_0 x11_1) a0) (ji11)))) l1 (l1.length : Int) (wrap64 (x11_1 + 1)) l2_0 l2_1) else (none)) = some r := by first | (rw [hji11] at H; exact H) | (simp only [hji11] at H ⊢; exact H)
               have hji11w : (IntKind.i64.wrap (16 - (rd l1 x11_1))) = ji11 := (i64_w _).trans hji11
               by_cases c12 : 0 ≤ (ji11)
               · rw [if_pos c12] at H
                 have c12b0 := eq_true c12
                 have c12b1 : decide (0 ≤ (ji11)) = true := decide_eq_true c12
                 clear c12
                 obtain ⟨ji13, hji13⟩ : ∃ j_ : Int, (shl .i64 (rd (rd_L1 l2_0 x11_1) a0) (ji11)) = j_ := ⟨_, rfl⟩
                 replace H : (impl_HalvingSays_1.l0 k1 a0 (wrap64 (x6_1 + (ji13))) l1 (l1.length : Int) (wrap64 (x11_1 + 1)) l2_0 l2_1) = some r := by first | (rw [hji13] at H; exact H) | (simp only [hji13] at H ⊢; exact H)
                 have hji13_ : (IntKind.i64.wrap ((rd (rd_L1 l2_0 x11_1) a0) * 2 ^ min (ji11).toNat 64)) = ji13 := hji13
                 have hji13z : (ji11) ≤ 64 → (IntKind.i64.wrap ((rd (rd_L1 l2_0 x11_1) a0) * 2 ^ (ji11).toNat)) = ji13 := shl_small hji13
                 have hji13y : (wrap64 ((rd (rd_L1 l2_0 x11_1) a0) * 2 ^ min (ji11).toNat 64)) = ji13 := (i64_w _).symm.trans hji13_
                 have hji13x : (ji11) ≤ 64 → (wrap64 ((rd (rd_L1 l2_0 x11_1) a0) * 2 ^ (ji11).toNat)) = ji13 := fun h_ => (i64_w _).symm.trans (hji13z h_)
                 have H' := Aside0.mk H
                 clear H
                 have p198 : 0 ≤ (x11_1 : Int) := of_decide_eq_true aS
                 have q198 : x11_1 < (l1.length : Int) := of_decide_eq_true aS
                 obtain ⟨ad198, e198, hx198_0⟩ := Kd.at_int HR1.out x11_1 p198 q198
                 cases e198
                 replace hx198_0 := (HB.out.cell (World.block_lt_of_cell? w _ hx198_0)).trans hx198_0
                 replace p198 := eq_true p198
                 replace q198 := eq_true q198
                 have hcz14_0 : wr.cell? ⟨gb197, 0, none⟩ = some (.slice A2_0 l2_0.length c2_0) := (blk_cell BK197.out 0).trans rfl
                 have hcz14_1 : wr.cell? ⟨gb197, 1, none⟩ = some (.slice A2_1 l2_1.length c2_1) := (blk_cell BK197.out 1).trans rfl
                 have hfz14_0 := blk_frozen BK197.out 0
                 have hfz14_1 := blk_frozen BK197.out 1
                 have p199 : 0 ≤ (x11_1 : Int) := of_decide_eq_true aS
                 have q199 : x11_1 < (l2_0.length : Int) := of_decide_eq_true aS
                 obtain ⟨ad199, A199_0, c199_0, e199, hx199_0, hl199_0, hi199_0⟩ := at_L1 HR2_0.out x11_1 p199 q199
                 cases e199
                 replace hx199_0 := (HB.out.cell (World.block_lt_of_cell? w _ hx199_0)).trans hx199_0
                 have HR199_0 := Aside0.mk hi199_0
                 have HC199_0 := Aside0.mk hl199_0
                 clear hi199_0 hl199_0
                 replace p199 := eq_true p199
                 replace q199 := eq_true q199
                 have p200 : 0 ≤ (a0 : Int) := of_decide_eq_true aS
                 have q200 : a0 < ((rd_L1 l2_0 x11_1).length : Int) := of_decide_eq_true aS
                 obtain ⟨ad200, e200, hx200_0⟩ := Kd.at_int HR199_0.out a0 p200 q200
                 cases e200
                 replace hx200_0 := (HB.out.cell (World.block_lt_of_cell? w _ hx200_0)).trans hx200_0
                 replace p200 := eq_true p200
                 replace q200 := eq_true q200
                 go_wp2
                 go_roundg k1
                 case measure => have := HK1.out; omega
                 case rel => exact ⟨(wrap64 (x6_1 + (ji13))), (wrap64 (x11_1 + 1)), (by first | rfl | (simp; done) | (simp only [← hji13] <;> (first | rfl | simp)) | (simp [*]; done)), rD, H', ⟨by have := HK1.out; omega⟩, ⟨pB BK197⟩, ⟨bB HB⟩⟩
               · rw [if_neg c12] at H
                 exact absurd H (by simp)
             · rw [if_neg c10] at H
               exact absurd H (by simp)
           · rw [if_neg c9] at H
             exact absurd H (by simp)
         · rw [if_neg c8] at H
           exact absurd H (by simp)
       · rw [if_neg c7] at H
         exact absurd H (by simp)
     · rw [if_neg c6] at H
       exact absurd H (by simp)
   · rw [if_neg c5] at H
     have c5b0 : decide (x11_1 < (l1.length : Int)) = false := decide_eq_false c5
     clear c5
     replace H := Option.bind_eq_some_iff.mp H
     obtain ⟨t201, A150, H⟩ := H
     replace H : (some t201) = some r := H
     have A15 := Aside0.mk A150
     clear A150
     obtain rfl := Option.some.inj H
     go_wp2_with (first | ((with_reducible refine gate_callee (f := 91) rfl ?_); refine goesL_ (some 31) rfl rfl Try.func91 (by kernel_rfl) rfl #[.int .i64 x6_1] rfl aT ?_; (with_reducible refine (impl_sign.calls x6_1 t201 _ A15.out).mono ?_); rintro e w' ⟨rfl, ⟨nd, rfl⟩⟩; refine ⟨_, rfl, ?_⟩))
     go_ret
     exact ⟨eW, bB HB⟩

/-! ### impl_Panel_forecast: function 89 -/
def impl_Panel_forecast.l0 : Nat → List Int → Int → Int → List (List Int) → List Int → List (List Int) → List Int → Option (List Int)
 | 0, _, _, _, _, _, _, _ => none
 | k + 1, x5, x10, x11, x203000, x203001, x204000, x204001 => if x11 < x10 then ((impl_Panel_wrongBefore.f k x204000 x204001 x11).bind fun t207 => ((impl_HalvingSays_1.f k x11 t207 x203000 x203001).bind fun t210 => (if x5.length < 17592186044416 then (impl_Panel_forecast.l0 k (x5 ++ [t210]) x10 (wrap64 (x11 + 1)) x203000 x203001 x204000 x204001) else (none)))) else (some x5)
def impl_Panel_forecast.f (k : Nat) (l0_0 : List (List Int)) (l0_1 : List Int) (l1_0 : List (List Int)) (l1_1 : List Int) : Option (List Int) := impl_Panel_forecast.l0 k (([] : List Int)) (l0_1.length : Int) 0 l1_0 l1_1 l0_0 l0_1
set_option maxHeartbeats 8000000 in
set_option maxRecDepth 100000 in
theorem impl_Panel_forecast.calls (k : Nat) (A0_0 : Option Addr) (c0_0 : Nat) (l0_0 : List (List Int)) (A0_1 : Option Addr) (c0_1 : Nat) (l0_1 : List Int) (A1_0 : Option Addr) (c1_0 : Nat) (l1_0 : List (List Int)) (A1_1 : Option Addr) (c1_1 : Nat) (l1_1 : List Int) (r : List Int) (w : World) (gb202 : Nat) (hbk202 : w.heap[gb202]? = some (.cells #[.slice A1_0 l1_0.length c1_0, .slice A1_1 l1_1.length c1_1] 29 (0, 0))) (hr0_0 : Kd.C (Kd.slice 3 (Kd.int .i64)) w A0_0 l0_0.length l0_0) (hc0_0 : l0_0.length ≤ c0_0) (hr0_1 : Kd.C (Kd.int .i64) w A0_1 l0_1.length l0_1) (hc0_1 : l0_1.length ≤ c0_1) (hr1_0 : Kd.C (Kd.slice 3 (Kd.int .i64)) w A1_0 l1_0.length l1_0) (hc1_0 : l1_0.length ≤ c1_0) (hr1_1 : Kd.C (Kd.int .i64) w A1_1 l1_1.length l1_1) (hc1_1 : l1_1.length ≤ c1_1) (h : impl_Panel_forecast.f k l0_0 l0_1 l1_0 l1_1 = some r) :
 Calls Try.prog 89 #[.agg #[.slice A0_0 l0_0.length c0_0, .slice A0_1 l0_1.length c0_1], .func (.func 100) #[] #[.pointer (some ⟨gb202, 0, none⟩)]] w fun e w' => ∃ v0_ : Value, e = .returned (v0_) ∧ Kd.R (Kd.int .i64) 3 w' w.heap.size (fun _ => True) v0_ r ∧ Below w.heap.size w w' := by
 have hu29 := Try.underlying29
 have HR0_0 := Aside0.mk hr0_0
 have HC0_0 := Aside0.mk hc0_0
 clear hr0_0 hc0_0
 have HR0_1 := Aside0.mk hr0_1
 have HC0_1 := Aside0.mk hc0_1
 clear hr0_1 hc0_1
 have HR1_0 := Aside0.mk hr1_0
 have HC1_0 := Aside0.mk hc1_0
 clear hr1_0 hc1_0
 have HR1_1 := Aside0.mk hr1_1
 have HC1_1 := Aside0.mk hc1_1
 clear hr1_1 hc1_1
 have HB := Aside0.mk (Below.refl w.heap.size w)
 have H : (impl_Panel_forecast.l0 k (([] : List Int)) (l0_1.length : Int) 0 l1_0 l1_1 l0_0 l0_1) = some r := h
 clear h
 obtain ⟨y204, hy204⟩ : ∃ y_ : List Int, y_ = (([] : List Int)) := ⟨_, rfl⟩
 replace H : (impl_Panel_forecast.l0 k y204 (l0_1.length : Int) 0 l1_0 l1_1 l0_0 l0_1) = some r := by first | (rw [hy204]; with_reducible exact H) | (have H2_ := (Option.bind_some _ _).symm.trans H; rw [hy204]; with_reducible exact H2_) | (have H2_ := (Option.bind_some _ _).symm.trans H; with_reducible exact H2_) | with_reducible exact H | (rw [hy204]; exact H) | exact H
 have Ny204 := Aside0.mk hy204
 clear hy204
 have H' := Aside0.mk H
 clear H
 go_enter Try.func89, Try.ntmps89
 have BK202 := Aside0.mk hbk202
 clear hbk202
 go_wp2_with (first | ((with_reducible refine gate_dst (N := 2) rfl ?_); refine box_event ?hg (N := 2) ?hd (cs := #[.slice A0_0 l0_0.length c0_0, .slice A0_1 l0_1.length c0_1]) (t := 29) ?hr ?_; (case hd => rfl); (case hg => rfl); (case hr => first | (go_simp; done) | (go_simp; rfl)); intro gb203 hg w4 hbox hb; have n0_ := Aside0.mk (blk_below (g := gb202) (o := .cells #[.slice A1_0 l1_0.length c1_0, .slice A1_1 l1_1.length c1_1] 29 (0, 0)) (pB BK202) hb); have n1_ := Aside0.mk (below_step (bB HB) hb); have n2_ := Aside0.mk (hbox); have n3_ := Aside0.mk ((by rw [hg]; exact (below_size (bB HB)) : w.heap.size ≤ gb203)); have n4_ := Aside0.mk ((by rw [hg]; exact (below_size (bB HB)) : w.heap.size ≤ gb203)); have n5_ := Aside0.mk ((by rw [hg]; exact Nat.ne_of_lt (blk_lt (g := gb202) (o := .cells #[.slice A1_0 l1_0.length c1_0, .slice A1_1 l1_1.length c1_1] 29 (0, 0)) (pB BK202)) : gb202 ≠ gb203)); have n6_ := Aside0.mk ((by rw [hg]; exact Nat.ne_of_gt (blk_lt (g := gb202) (o := .cells #[.slice A1_0 l1_0.length c1_0, .slice A1_1 l1_1.length c1_1] 29 (0, 0)) (pB BK202)) : gb203 ≠ gb202)); clear BK202; clear HB; have BK202 := n0_; have HB := n1_; have BK203 := n2_; have GW203 := n3_; have GE203 := n4_; have NB202_203 := n5_; have NB203_202 := n6_; clear n0_ n1_ n2_ n3_ n4_ n5_ n6_; clear hb hbox hg) | ((with_reducible refine gate_dst (N := 7) rfl ?_); refine Kd.R_lit (Kd.int .i64) _ 3 ?hg (N := 7) ?hd (xs := ([] : List Int)) (inner := []) (ok := fun _ => True) (okp := fun _ => True) ?hr ?hp (fun _ hk => hk) trivial (Below.refl _ _) (Nat.le_refl _) (by simp) ?_; (case hd => rfl); (case hg => rfl); (case hr => first | (go_simp; done) | (go_simp; rfl)); (case hp => exact (Reps.none _ _)); intro v205 w5 ho6 hb hg_ hnew_; clear hg_ hnew_; (first | rw [← Ny204.out] at ho6 | (simp only [Int.reduceToNat] at ho6; rw [← Ny204.out] at ho6)); have n0_ := Aside0.mk (Kd.R_lower ho6 (below_size (bC HB GE203))); have n1_ := Aside0.mk (blk_below (g := gb202) (o := .cells #[.slice A1_0 l1_0.length c1_0, .slice A1_1 l1_1.length c1_1] 29 (0, 0)) (pB BK202) hb); have n2_ := Aside0.mk (blk_below (g := gb203) (o := .cells #[.slice A0_0 l0_0.length c0_0, .slice A0_1 l0_1.length c0_1] 29 (0, 0)) (pB BK203) hb); have n3_ := Aside0.mk (below_step (bC HB GE203) hb); clear BK202; clear BK203; clear HB; have HO206 := n0_; have BK202 := n1_; have BK203 := n2_; have HB := n3_; clear n0_ n1_ n2_ n3_; clear hb ho6; have hnb7 := NB203_202.out; have hnc7 := NB202_203.out; have hcz8_0 : w5.cell? ⟨gb203, 0, none⟩ = some (.slice A0_0 l0_0.length c0_0) := (blk_cell BK203.out 0).trans rfl; have hcz8_1 : w5.cell? ⟨gb203, 1, none⟩ = some (.slice A0_1 l0_1.length c0_1) := (blk_cell BK203.out 1).trans rfl; have hfz8_0 := blk_frozen BK203.out 0; have hfz8_1 := blk_frozen BK203.out 1))
 go_loopg [5, 11] k (fun kq v5 v11 w' => ∃ (x5_1 : List Int) (x11_1 : Int), v11 = .int .i64 x11_1 ∧ Aside0 (impl_Panel_forecast.l0 kq x5_1 (l0_1.length : Int) x11_1 l1_0 l1_1 l0_0 l0_1 = some r) ∧ Aside0 (kq ≤ k) ∧ Aside0 (Kd.R (Kd.int .i64) 3 w' w.heap.size (fun _ => True) v5 x5_1) ∧ Aside0 (w'.heap[gb202]? = some (.cells #[(.slice A1_0 l1_0.length c1_0), (.slice A1_1 l1_1.length c1_1)] 29 (0, 0))) ∧ Aside0 (w'.heap[gb203]? = some (.cells #[(.slice A0_0 l0_0.length c0_0), (.slice A0_1 l0_1.length c0_1)] 29 (0, 0))) ∧ Aside0 (Below w.heap.size w w'))
 case atStart => exact ⟨(y204), (0), rD, H', ⟨Nat.le_refl _⟩, ⟨pR HO206⟩, ⟨pB BK202⟩, ⟨pB BK203⟩, ⟨bC HB GE203⟩⟩
 case round =>
  clear H'
  try clear c1
  try clear p2
  try clear c7
  try clear c8
  try clear hcz8_0
  try clear hcz8_1
  try clear hfz8_0
  try clear hfz8_1
  obtain ⟨x5_1, x11_1, rfl, HA, HK1, HO_5, BK202, BK203, HB⟩ := hrel
  cases gk with
  | zero => exact absurd HA.out (by simp [impl_Panel_forecast.l0])
  | succ k1 =>
   have H := HA.out
   clear HA
   simp only [impl_Panel_forecast.l0] at H
   by_cases c9 : x11_1 < (l0_1.length : Int)
   · rw [if_pos c9] at H
     have c9b0 : decide (x11_1 < (l0_1.length : Int)) = true := decide_eq_true c9
     clear c9
     replace H := Option.bind_eq_some_iff.mp H
     obtain ⟨t207, A100, H⟩ := H
     replace H : ((impl_HalvingSays_1.f k1 x11_1 t207 l1_0 l1_1).bind fun t210 => (if x5_1.length < 17592186044416 then (impl_Panel_forecast.l0 k1 (x5_1 ++ [t210]) (l0_1.length : Int) (wrap64 (x11_1 + 1)) l1_0 l1_1 l0_0 l0_1) else (none))) = some r := H
     have A10 := Aside0.mk A100
     clear A100
     replace H := Option.bind_eq_some_iff.mp H
     obtain ⟨t210, A110, H⟩ := H
     replace H : (if x5_1.length < 17592186044416 then (impl_Panel_forecast.l0 k1 (x5_1 ++ [t210]) (l0_1.length : Int) (wrap64 (x11_1 + 1)) l1_0 l1_1 l0_0 l0_1) else (none)) = some r := H
     have A11 := Aside0.mk A110
     clear A110
     by_cases c12 : x5_1.length < 17592186044416
     · rw [if_pos c12] at H
       have LMc12 := Aside0.mk c12
       clear c12
       obtain ⟨y211, hy211⟩ : ∃ y_ : List Int, y_ = (x5_1 ++ [t210]) := ⟨_, rfl⟩
       replace H : (impl_Panel_forecast.l0 k1 y211 (l0_1.length : Int) (wrap64 (x11_1 + 1)) l1_0 l1_1 l0_0 l0_1) = some r := by first | (rw [hy211]; with_reducible exact H) | (have H2_ := (Option.bind_some _ _).symm.trans H; rw [hy211]; with_reducible exact H2_) | (have H2_ := (Option.bind_some _ _).symm.trans H; with_reducible exact H2_) | with_reducible exact H | (rw [hy211]; exact H) | exact H
       have Ny211 := Aside0.mk hy211
       clear hy211
       have H' := Aside0.mk H
       clear H
       have hnb13 := NB202_203.out
       have hnc13 := NB203_202.out
       have hcz14_0 : wr.cell? ⟨gb202, 0, none⟩ = some (.slice A1_0 l1_0.length c1_0) := (blk_cell BK202.out 0).trans rfl
       have hcz14_1 : wr.cell? ⟨gb202, 1, none⟩ = some (.slice A1_1 l1_1.length c1_1) := (blk_cell BK202.out 1).trans rfl
       have hfz14_0 := blk_frozen BK202.out 0
       have hfz14_1 := blk_frozen BK202.out 1
       have hcz15_0 : wr.cell? ⟨gb203, 0, none⟩ = some (.slice A0_0 l0_0.length c0_0) := (blk_cell BK203.out 0).trans rfl
       have hcz15_1 : wr.cell? ⟨gb203, 1, none⟩ = some (.slice A0_1 l0_1.length c0_1) := (blk_cell BK203.out 1).trans rfl
       have hfz15_0 := blk_frozen BK203.out 0
       have hfz15_1 := blk_frozen BK203.out 1
       go_wp2_with (fail)
       refine calls_of_args (args' := #[.agg #[.slice A0_0 l0_0.length c0_0, .slice A0_1 l0_1.length c0_1], .int .i64 x11_1]) (by first | rfl | ((try simp only [List.map_toArray, List.map_cons, List.map_nil]); first | done | rfl | (simp only [List.length_drop, List.length_take]; rfl))) ?_
       (with_reducible refine (impl_Panel_wrongBefore.calls k1 _ _ l0_0 _ _ l0_1 x11_1 t207 _ ?side1 ?side2 ?side3 ?side4 A10.out).mono ?_)
       (case side1 => exact cB HR0_0 HB)
       (case side2 => exact HC0_0.out)
       (case side3 => exact cB HR0_1 HB)
       (case side4 => exact HC0_1.out)
       rintro e w16 ⟨v208, rfl, ho0, hb⟩
       have n0_ := Aside0.mk (Kd.R_elder' (pR HO_5) (Kd.R_base ho0) hb)
       have n1_ := Aside0.mk (Kd.R_lower (Kd.R_new' ho0 (Kd.R_lt (pR HO_5))) (below_size (bC HB GE203)))
       have n2_ := Aside0.mk (blk_below (g := gb202) (o := .cells #[.slice A1_0 l1_0.length c1_0, .slice A1_1 l1_1.length c1_1] 29 (0, 0)) (pB BK202) hb)
       have n3_ := Aside0.mk (blk_below (g := gb203) (o := .cells #[.slice A0_0 l0_0.length c0_0, .slice A0_1 l0_1.length c0_1] 29 (0, 0)) (pB BK203) hb)
       have n4_ := Aside0.mk (below_step (bC HB GE203) hb)
       clear HO_5
       clear BK202
       clear BK203
       clear HB
       have HO_5 := n0_
       have HO209 := n1_
       have BK202 := n2_
       have BK203 := n3_
       have HB := n4_
       clear n0_ n1_ n2_ n3_ n4_
       (try clear hb)
       (try clear hb2)
       (try clear hk)
       (try clear hi)
       (try clear ho0)
       obtain ⟨Ao17, co17, eo17⟩ := Kd.R_slice HO209.out
       subst eo17
       go_wp2_with (fail)
       refine calls_of_args (args' := #[.int .i64 x11_1, .slice Ao17 t207.length co17, .pointer (some ⟨gb202, 0, none⟩)]) (by first | rfl | ((try simp only [List.map_toArray, List.map_cons, List.map_nil]); first | done | rfl | (simp only [List.length_drop, List.length_take]; rfl))) ?_
       (with_reducible refine (impl_HalvingSays_1.calls k1 x11_1 _ _ t207 _ _ l1_0 _ _ l1_1 t210 _ gb202 (pB BK202) ?side1 ?side2 ?side3 ?side4 ?side5 ?side6 A11.out).mono ?_)
       (case side1 => exact cR HO209)
       (case side2 => exact (Kd.R_reads' HO209.out).2.1)
       (case side3 => exact cB HR1_0 HB)
       (case side4 => exact HC1_0.out)
       (case side5 => exact cB HR1_1 HB)
       (case side6 => exact HC1_1.out)
       rintro e w18 ⟨rfl, hb⟩
       have n0_ := Aside0.mk (Kd.R_below (pR HO_5) hb)
       have n1_ := Aside0.mk (Kd.R_below (pR HO209) hb)
       have n2_ := Aside0.mk (blk_below (g := gb202) (o := .cells #[.slice A1_0 l1_0.length c1_0, .slice A1_1 l1_1.length c1_1] 29 (0, 0)) (pB BK202) hb)
       have n3_ := Aside0.mk (blk_below (g := gb203) (o := .cells #[.slice A0_0 l0_0.length c0_0, .slice A0_1 l0_1.length c0_1] 29 (0, 0)) (pB BK203) hb)
       have n4_ := Aside0.mk (below_step (bC HB GE203) hb)
       clear HO_5
       clear HO209
       clear BK202
       clear BK203
       clear HB
       have HO_5 := n0_
       have HO209 := n1_
       have BK202 := n2_
       have BK203 := n3_
       have HB := n4_
       clear n0_ n1_ n2_ n3_ n4_
       (try clear hb)
       (try clear hb2)
       (try clear hk)
       (try clear hi)
       go_wp2_with (first | ((with_reducible refine gate_builtin (b := .append) (xs := #[.tmp 14, .tmp 21]) rfl ?_); at_builtin; refine Kd.R_append (Kd.int .i64) (w0 := w) w.heap.size rfl (.tmp 14) (.tmp 21) 23 3 (.int .i64 0) 8 rfl Try.underlying23 info3 rfl (by decide) (by omega) u5 x5_1 t210 [.int .i64 t210] (fun k_ => some k_ ≠ (.slice Ao17 t207.length co17 : Value).ownBlock) (fun _ => False) rfl rfl ?aP (fun _ hk => hk.elim) ?aF ?aO ?aB ?aS ?aL ?_; (case aP => exact rfl); (case aB => exact (bC HB GE203)); (case aF => exact (fun k_ hk => Kd.fresh' (Kd.R_lt (pR HO209)) k_ hk)); (case aO => exact (by (with_reducible repeat (first | apply Kd.R_alloc | apply Kd.R_drewN | apply Kd.R_drew)); exact Kd.R_mono HO_5.out (fun _ hk => hk.2))); (case aS => exact (below_size (bC HB GE203))); (case aL => have := LMc12.out; omega); intro v212 w19 ho hb hg hat; rw [← Ny211.out] at ho; have n0_ := Aside0.mk (blk_grown (g := gb202) (o := .cells #[.slice A1_0 l1_0.length c1_0, .slice A1_1 l1_1.length c1_1] 29 (0, 0)) (pB BK202) hg (Kd.R_ne HO_5.out BK202.out (by decide))); have n1_ := Aside0.mk (blk_grown (g := gb203) (o := .cells #[.slice A0_0 l0_0.length c0_0, .slice A0_1 l0_1.length c0_1] 29 (0, 0)) (pB BK203) hg (Kd.R_ne HO_5.out BK203.out (by decide))); have n2_ := Aside0.mk (Kd.R_after (ok := (fun _ => True)) (pR HO209) hg hat); have n3_ := Aside0.mk (hb); have n4_ := Aside0.mk (ho); clear BK202; clear BK203; clear HO209; clear HB; clear HO_5; have BK202 := n0_; have BK203 := n1_; have HO209 := n2_; have HB := n3_; have HO213 := n4_; clear n0_ n1_ n2_ n3_ n4_; clear ho hb hg hat))
       go_roundg k1
       case measure => have := HK1.out; omega
       case rel => exact ⟨(y211), (wrap64 (x11_1 + 1)), rD, H', ⟨by have := HK1.out; omega⟩, ⟨by (with_reducible repeat (first | apply Kd.R_alloc | apply Kd.R_drewN | apply Kd.R_drew)); exact Kd.R_mono HO213.out (fun _ hk => trivial)⟩, ⟨pB BK202⟩, ⟨pB BK203⟩, ⟨bC HB GE203⟩⟩
     · rw [if_neg c12] at H
       exact absurd H (by simp)
   · rw [if_neg c9] at H
     have c9b0 : decide (x11_1 < (l0_1.length : Int)) = false := decide_eq_false c9
     clear c9
     obtain rfl := Option.some.inj H
     go_wp2
     go_ret
     exact ⟨_, eW, by (with_reducible repeat (first | apply Kd.R_alloc | apply Kd.R_drewN | apply Kd.R_drew)); exact HO_5.out, bC HB GE203⟩

/-! ### impl_HalvingSays: function 53 -/
def impl_HalvingSays.f (k : Nat) (l0_0 : List (List Int)) (l0_1 : List Int) : Option (List Int × Bool) := (impl_IsPanel.f k l0_0 l0_1).bind fun t215 => (if t215 = true then ((impl_Panel_forecast.f k l0_0 l0_1 l0_0 l0_1).bind fun t216 => (some (t216, true))) else (some (([] : List Int), false)))
set_option maxHeartbeats 8000000 in
set_option maxRecDepth 100000 in
theorem impl_HalvingSays.calls (k : Nat) (A0_0 : Option Addr) (c0_0 : Nat) (l0_0 : List (List Int)) (A0_1 : Option Addr) (c0_1 : Nat) (l0_1 : List Int) (r1 : List Int) (r2 : Bool) (w : World) (hr0_0 : Kd.C (Kd.slice 3 (Kd.int .i64)) w A0_0 l0_0.length l0_0) (hc0_0 : l0_0.length ≤ c0_0) (hr0_1 : Kd.C (Kd.int .i64) w A0_1 l0_1.length l0_1) (hc0_1 : l0_1.length ≤ c0_1) (h : impl_HalvingSays.f k l0_0 l0_1 = some (r1, r2)) :
 Calls Try.prog 53 #[.agg #[.slice A0_0 l0_0.length c0_0, .slice A0_1 l0_1.length c0_1]] w fun e w' => ∃ v0_ : Value, e = .returned (.tuple #[v0_, .bool r2]) ∧ Kd.R (Kd.int .i64) 3 w' w.heap.size (fun _ => True) v0_ r1 ∧ Below w.heap.size w w' := by
 have hu29 := Try.underlying29
 have HR0_0 := Aside0.mk hr0_0
 have HC0_0 := Aside0.mk hc0_0
 clear hr0_0 hc0_0
 have HR0_1 := Aside0.mk hr0_1
 have HC0_1 := Aside0.mk hc0_1
 clear hr0_1 hc0_1
 have HB := Aside0.mk (Below.refl w.heap.size w)
 have H : ((impl_IsPanel.f k l0_0 l0_1).bind fun t215 => (if t215 = true then ((impl_Panel_forecast.f k l0_0 l0_1 l0_0 l0_1).bind fun t216 => (some (t216, true))) else (some (([] : List Int), false)))) = some (r1, r2) := h
 clear h
 replace H := Option.bind_eq_some_iff.mp H
 obtain ⟨t215, A20, H⟩ := H
 replace H : (if t215 = true then ((impl_Panel_forecast.f k l0_0 l0_1 l0_0 l0_1).bind fun t216 => (some (t216, true))) else (some (([] : List Int), false))) = some (r1, r2) := H
 have A2 := Aside0.mk A20
 clear A20
 by_cases c3 : t215 = true
 · subst c3
   have H1 : ((impl_Panel_forecast.f k l0_0 l0_1 l0_0 l0_1).bind fun t216 => (some (t216, true))) = some (r1, r2) := by rw [if_pos rfl] at H; exact H
   clear H
   have H := H1
   clear H1
   replace H := Option.bind_eq_some_iff.mp H
   obtain ⟨t216, A40, H⟩ := H
   replace H : (some (t216, true)) = some (r1, r2) := H
   have A4 := Aside0.mk A40
   clear A40
   simp only [Option.some.injEq, Prod.mk.injEq] at H
   obtain ⟨rfl, rfl⟩ := H
   have hmf : ∀ (fn : Fn) (first cap : Array Value) (w : World), (Instr.makeFunc fn first cap).run Try.prog w = .ok (.func fn first cap) w := fun _ _ _ _ => rfl
   go_enter Try.func53, Try.ntmps53
   go_wp2_with (first | ((with_reducible refine gate_dst (N := 1) rfl ?_); refine box_event ?hg (N := 1) ?hd (cs := #[.slice A0_0 l0_0.length c0_0, .slice A0_1 l0_1.length c0_1]) (t := 29) ?hr ?_; (case hd => rfl); (case hg => rfl); (case hr => first | (go_simp; done) | (go_simp; rfl)); intro gb214 hg w5 hbox hb; have n0_ := Aside0.mk (below_step (bB HB) hb); have n1_ := Aside0.mk (hbox); have n2_ := Aside0.mk ((by rw [hg]; exact (below_size (bB HB)) : w.heap.size ≤ gb214)); have n3_ := Aside0.mk ((by rw [hg]; exact (below_size (bB HB)) : w.heap.size ≤ gb214)); clear HB; have HB := n0_; have BK214 := n1_; have GW214 := n2_; have GE214 := n3_; clear n0_ n1_ n2_ n3_; clear hb hbox hg; have hcz6_0 : w5.cell? ⟨gb214, 0, none⟩ = some (.slice A0_0 l0_0.length c0_0) := (blk_cell BK214.out 0).trans rfl; have hcz6_1 : w5.cell? ⟨gb214, 1, none⟩ = some (.slice A0_1 l0_1.length c0_1) := (blk_cell BK214.out 1).trans rfl; have hfz6_0 := blk_frozen BK214.out 0; have hfz6_1 := blk_frozen BK214.out 1))
   refine calls_of_args (args' := #[.agg #[.slice A0_0 l0_0.length c0_0, .slice A0_1 l0_1.length c0_1]]) (by first | rfl | ((try simp only [List.map_toArray, List.map_cons, List.map_nil]); first | done | rfl | (simp only [List.length_drop, List.length_take]; rfl))) ?_
   (with_reducible refine (impl_IsPanel.calls k _ _ l0_0 _ _ l0_1 true _ ?side1 ?side2 ?side3 ?side4 A2.out).mono ?_)
   (case side1 => exact cB HR0_0 HB)
   (case side2 => exact HC0_0.out)
   (case side3 => exact cB HR0_1 HB)
   (case side4 => exact HC0_1.out)
   rintro e w7 ⟨rfl, hb⟩
   have n0_ := Aside0.mk (blk_below (g := gb214) (o := .cells #[.slice A0_0 l0_0.length c0_0, .slice A0_1 l0_1.length c0_1] 29 (0, 0)) (pB BK214) hb)
   have n1_ := Aside0.mk (below_step (bC HB GE214) hb)
   clear BK214
   clear HB
   have BK214 := n0_
   have HB := n1_
   clear n0_ n1_
   (try clear hb)
   (try clear hb2)
   (try clear hk)
   (try clear hi)
   have hcz8_0 : w7.cell? ⟨gb214, 0, none⟩ = some (.slice A0_0 l0_0.length c0_0) := (blk_cell BK214.out 0).trans rfl
   have hcz8_1 : w7.cell? ⟨gb214, 1, none⟩ = some (.slice A0_1 l0_1.length c0_1) := (blk_cell BK214.out 1).trans rfl
   have hfz8_0 := blk_frozen BK214.out 0
   have hfz8_1 := blk_frozen BK214.out 1
   go_wp2_with (fail)
   refine calls_of_args (args' := #[.agg #[.slice A0_0 l0_0.length c0_0, .slice A0_1 l0_1.length c0_1], .func (.func 100) #[] #[.pointer (some ⟨gb214, 0, none⟩)]]) (by first | rfl | ((try simp only [List.map_toArray, List.map_cons, List.map_nil]); first | done | rfl | (simp only [List.length_drop, List.length_take]; rfl))) ?_
   (with_reducible refine (impl_Panel_forecast.calls k _ _ l0_0 _ _ l0_1 _ _ l0_0 _ _ l0_1 t216 _ gb214 (pB BK214) ?side1 ?side2 ?side3 ?side4 ?side5 ?side6 ?side7 ?side8 A4.out).mono ?_)
   (case side1 => exact cB HR0_0 HB)
   (case side2 => exact HC0_0.out)
   (case side3 => exact cB HR0_1 HB)
   (case side4 => exact HC0_1.out)
   (case side5 => exact cB HR0_0 HB)
   (case side6 => exact HC0_0.out)
   (case side7 => exact cB HR0_1 HB)
   (case side8 => exact HC0_1.out)
   rintro e w9 ⟨v217, rfl, ho0, hb⟩
   have n0_ := Aside0.mk (Kd.R_lower ho0 (below_size (bC HB GE214)))
   have n1_ := Aside0.mk (blk_below (g := gb214) (o := .cells #[.slice A0_0 l0_0.length c0_0, .slice A0_1 l0_1.length c0_1] 29 (0, 0)) (pB BK214) hb)
   have n2_ := Aside0.mk (below_step (bC HB GE214) hb)
   clear BK214
   clear HB
   have HO218 := n0_
   have BK214 := n1_
   have HB := n2_
   clear n0_ n1_ n2_
   (try clear hb)
   (try clear hb2)
   (try clear hk)
   (try clear hi)
   (try clear ho0)
   go_wp2
   go_ret2
   exact ⟨_, eW, by (with_reducible repeat (first | apply Kd.R_alloc | apply Kd.R_drewN | apply Kd.R_drew)); exact HO218.out, bC HB GE214⟩
 · replace c3 := Bool.eq_false_iff.mpr c3
   subst c3
   have H1 : (some (([] : List Int), false)) = some (r1, r2) := by rw [if_neg (show ¬ (false = true) by decide)] at H; exact H
   clear H
   have H := H1
   clear H1
   simp only [Option.some.injEq, Prod.mk.injEq] at H
   obtain ⟨rfl, rfl⟩ := H
   go_enter Try.func53, Try.ntmps53
   go_wp2_with (first | ((with_reducible refine gate_dst (N := 1) rfl ?_); refine box_event ?hg (N := 1) ?hd (cs := #[.slice A0_0 l0_0.length c0_0, .slice A0_1 l0_1.length c0_1]) (t := 29) ?hr ?_; (case hd => rfl); (case hg => rfl); (case hr => first | (go_simp; done) | (go_simp; rfl)); intro gb214 hg w10 hbox hb; have n0_ := Aside0.mk (below_step (bB HB) hb); have n1_ := Aside0.mk (hbox); have n2_ := Aside0.mk ((by rw [hg]; exact (below_size (bB HB)) : w.heap.size ≤ gb214)); have n3_ := Aside0.mk ((by rw [hg]; exact (below_size (bB HB)) : w.heap.size ≤ gb214)); clear HB; have HB := n0_; have BK214 := n1_; have GW214 := n2_; have GE214 := n3_; clear n0_ n1_ n2_ n3_; clear hb hbox hg; have hcz11_0 : w10.cell? ⟨gb214, 0, none⟩ = some (.slice A0_0 l0_0.length c0_0) := (blk_cell BK214.out 0).trans rfl; have hcz11_1 : w10.cell? ⟨gb214, 1, none⟩ = some (.slice A0_1 l0_1.length c0_1) := (blk_cell BK214.out 1).trans rfl; have hfz11_0 := blk_frozen BK214.out 0; have hfz11_1 := blk_frozen BK214.out 1))
   refine calls_of_args (args' := #[.agg #[.slice A0_0 l0_0.length c0_0, .slice A0_1 l0_1.length c0_1]]) (by first | rfl | ((try simp only [List.map_toArray, List.map_cons, List.map_nil]); first | done | rfl | (simp only [List.length_drop, List.length_take]; rfl))) ?_
   (with_reducible refine (impl_IsPanel.calls k _ _ l0_0 _ _ l0_1 false _ ?side1 ?side2 ?side3 ?side4 A2.out).mono ?_)
   (case side1 => exact cB HR0_0 HB)
   (case side2 => exact HC0_0.out)
   (case side3 => exact cB HR0_1 HB)
   (case side4 => exact HC0_1.out)
   rintro e w12 ⟨rfl, hb⟩
   have n0_ := Aside0.mk (blk_below (g := gb214) (o := .cells #[.slice A0_0 l0_0.length c0_0, .slice A0_1 l0_1.length c0_1] 29 (0, 0)) (pB BK214) hb)
   have n1_ := Aside0.mk (below_step (bC HB GE214) hb)
   clear BK214
   clear HB
   have BK214 := n0_
   have HB := n1_
   clear n0_ n1_
   (try clear hb)
   (try clear hb2)
   (try clear hk)
   (try clear hi)
   go_wp2
   go_ret2
   exact ⟨_, eW, by first | exact Kd.R_nil _ _ _ _ _ | exact Kd.N_nil _ _ _ _ _ | exact Kd.V_nil _ _ _ _ _ | exact Kd.Q_nil _ _ _ _ _ | exact Kd.S_nil _ _ _ _ _, bC HB GE214⟩

/-! ### impl_HalvingWrong: function 46 -/
def impl_HalvingWrong.l0 : Nat → Int → List Int → Int → Int → List (List Int) → List Int → Option (Int × Bool)
 | 0, _, _, _, _, _, _ => none
 | k + 1, x6, x16, x17, x18, x220000, x220001 => if x18 < x17 then (if 0 ≤ x18 then (if x18 < (x16.length : Int) then (if x18 < (x220001.length : Int) then (if (rd x16 x18) = (rd x220001 x18) then (impl_HalvingWrong.l0 k x6 x16 x17 (wrap64 (x18 + 1)) x220000 x220001) else (impl_HalvingWrong.l0 k (wrap64 (x6 + 1)) x16 x17 (wrap64 (x18 + 1)) x220000 x220001)) else (none)) else (none)) else (none)) else (some (x6, true))
def impl_HalvingWrong.f (k : Nat) (l0_0 : List (List Int)) (l0_1 : List Int) : Option (Int × Bool) := (impl_HalvingSays.f k l0_0 l0_1).bind fun bt220 => (if bt220.2 = true then (impl_HalvingWrong.l0 k 0 bt220.1 (bt220.1.length : Int) 0 l0_0 l0_1) else (some (0, false)))
set_option maxHeartbeats 8000000 in
set_option maxRecDepth 100000 in
theorem impl_HalvingWrong.calls (k : Nat) (A0_0 : Option Addr) (c0_0 : Nat) (l0_0 : List (List Int)) (A0_1 : Option Addr) (c0_1 : Nat) (l0_1 : List Int) (r1 : Int) (r2 : Bool) (w : World) (hr0_0 : Kd.C (Kd.slice 3 (Kd.int .i64)) w A0_0 l0_0.length l0_0) (hc0_0 : l0_0.length ≤ c0_0) (hr0_1 : Kd.C (Kd.int .i64) w A0_1 l0_1.length l0_1) (hc0_1 : l0_1.length ≤ c0_1) (h : impl_HalvingWrong.f k l0_0 l0_1 = some (r1, r2)) :
 Calls Try.prog 46 #[.agg #[.slice A0_0 l0_0.length c0_0, .slice A0_1 l0_1.length c0_1]] w fun e w' => e = .returned (.tuple #[.int .i64 r1, .bool r2]) ∧ Below w.heap.size w w' := by
 have hu29 := Try.underlying29
 have HR0_0 := Aside0.mk hr0_0
 have HC0_0 := Aside0.mk hc0_0
 clear hr0_0 hc0_0
 have HR0_1 := Aside0.mk hr0_1
 have HC0_1 := Aside0.mk hc0_1
 clear hr0_1 hc0_1
 have HB := Aside0.mk (Below.refl w.heap.size w)
 have H : ((impl_HalvingSays.f k l0_0 l0_1).bind fun bt220 => (if bt220.2 = true then (impl_HalvingWrong.l0 k 0 bt220.1 (bt220.1.length : Int) 0 l0_0 l0_1) else (some (0, false)))) = some (r1, r2) := h
 clear h
 replace H := Option.bind_eq_some_iff.mp H
 obtain ⟨⟨t220, t223⟩, A20, H⟩ := H
 replace H : (if t223 = true then (impl_HalvingWrong.l0 k 0 t220 (t220.length : Int) 0 l0_0 l0_1) else (some (0, false))) = some (r1, r2) := H
 have A2 := Aside0.mk A20
 clear A20
 by_cases c3 : t223 = true
 · subst c3
   have H1 : (impl_HalvingWrong.l0 k 0 t220 (t220.length : Int) 0 l0_0 l0_1) = some (r1, r2) := by rw [if_pos rfl] at H; exact H
   clear H
   have H := H1
   clear H1
   have H' := Aside0.mk H
   clear H
   go_enter Try.func46, Try.ntmps46
   go_wp2_with (first | ((with_reducible refine gate_dst (N := 1) rfl ?_); refine box_event ?hg (N := 1) ?hd (cs := #[.slice A0_0 l0_0.length c0_0, .slice A0_1 l0_1.length c0_1]) (t := 29) ?hr ?_; (case hd => rfl); (case hg => rfl); (case hr => first | (go_simp; done) | (go_simp; rfl)); intro gb219 hg w4 hbox hb; have n0_ := Aside0.mk (below_step (bB HB) hb); have n1_ := Aside0.mk (hbox); have n2_ := Aside0.mk ((by rw [hg]; exact (below_size (bB HB)) : w.heap.size ≤ gb219)); have n3_ := Aside0.mk ((by rw [hg]; exact (below_size (bB HB)) : w.heap.size ≤ gb219)); clear HB; have HB := n0_; have BK219 := n1_; have GW219 := n2_; have GE219 := n3_; clear n0_ n1_ n2_ n3_; clear hb hbox hg; have hcz5_0 : w4.cell? ⟨gb219, 0, none⟩ = some (.slice A0_0 l0_0.length c0_0) := (blk_cell BK219.out 0).trans rfl; have hcz5_1 : w4.cell? ⟨gb219, 1, none⟩ = some (.slice A0_1 l0_1.length c0_1) := (blk_cell BK219.out 1).trans rfl; have hfz5_0 := blk_frozen BK219.out 0; have hfz5_1 := blk_frozen BK219.out 1) | ((with_reducible refine gate_callee (f := 53) rfl ?_); refine goesL_ (some 11) rfl rfl Try.func53 (by kernel_rfl) rfl #[.agg #[.slice A0_0 l0_0.length c0_0, .slice A0_1 l0_1.length c0_1]] rfl aT ?_; (with_reducible refine (impl_HalvingSays.calls k _ _ l0_0 _ _ l0_1 t220 true _ ?side1 ?side2 ?side3 ?side4 A2.out).mono ?_); (case side1 => exact cB HR0_0 HB); (case side2 => exact HC0_0.out); (case side3 => exact cB HR0_1 HB); (case side4 => exact HC0_1.out); rintro e w6 ⟨v221, rfl, ho0, hb⟩; refine ⟨_, rfl, ?_⟩; have n0_ := Aside0.mk (Kd.R_lower ho0 (below_size (bC HB GE219))); have n1_ := Aside0.mk (blk_below (g := gb219) (o := .cells #[.slice A0_0 l0_0.length c0_0, .slice A0_1 l0_1.length c0_1] 29 (0, 0)) (pB BK219) hb); have n2_ := Aside0.mk (below_step (bC HB GE219) hb); clear BK219; clear HB; have HO222 := n0_; have BK219 := n1_; have HB := n2_; clear n0_ n1_ n2_; (try clear hb); (try clear hb2); (try clear hk); (try clear hi); (try clear ho0); obtain ⟨Ao7, co7, eo7⟩ := Kd.R_slice HO222.out; subst eo7))
   go_loopg [6, 18] k (fun kq v6 v18 w' => ∃ (x6_1 : Int) (x18_1 : Int), v6 = .int .i64 x6_1 ∧ v18 = .int .i64 x18_1 ∧ Aside0 (impl_HalvingWrong.l0 kq x6_1 t220 (t220.length : Int) x18_1 l0_0 l0_1 = some (r1, r2)) ∧ Aside0 (kq ≤ k) ∧ Aside0 (Kd.R (Kd.int .i64) 3 w' w.heap.size (fun _ => True) (.slice Ao7 t220.length co7) t220) ∧ Aside0 (w'.heap[gb219]? = some (.cells #[(.slice A0_0 l0_0.length c0_0), (.slice A0_1 l0_1.length c0_1)] 29 (0, 0))) ∧ Aside0 (Below w.heap.size w w'))
   case atStart => exact ⟨(0), (0), rD, rD, H', ⟨Nat.le_refl _⟩, ⟨pR HO222⟩, ⟨pB BK219⟩, ⟨bC HB GE219⟩⟩
   case round =>
    clear H'
    try clear p2
    try clear c3
    try clear c4
    try clear c5
    try clear hcz5_0
    try clear hcz5_1
    try clear hfz5_0
    try clear hfz5_1
    obtain ⟨x6_1, x18_1, rfl, rfl, HA, HK1, HO_16, BK219, HB⟩ := hrel
    cases gk with
    | zero => exact absurd HA.out (by simp [impl_HalvingWrong.l0])
    | succ k1 =>
     have H := HA.out
     clear HA
     simp only [impl_HalvingWrong.l0] at H
     by_cases c8 : x18_1 < (t220.length : Int)
     · rw [if_pos c8] at H
       have c8b0 : decide (x18_1 < (t220.length : Int)) = true := decide_eq_true c8
       clear c8
       by_cases c9 : 0 ≤ x18_1
       · rw [if_pos c9] at H
         have c9b0 : decide (0 ≤ x18_1) = true := decide_eq_true c9
         clear c9
         by_cases c10 : x18_1 < (t220.length : Int)
         · rw [if_pos c10] at H
           have c10b0 : decide (x18_1 < (t220.length : Int)) = true := decide_eq_true c10
           clear c10
           by_cases c11 : x18_1 < (l0_1.length : Int)
           · rw [if_pos c11] at H
             have c11b0 : decide (x18_1 < (l0_1.length : Int)) = true := decide_eq_true c11
             clear c11
             by_cases c12 : (rd t220 x18_1) = (rd l0_1 x18_1)
             · rw [if_pos c12] at H
               have c12b0 : ((rd t220 x18_1) == (rd l0_1 x18_1)) = true := beq_iff_eq.mpr c12
               have c12b1 : ((rd t220 x18_1) != (rd l0_1 x18_1)) = false := bne_eq_false_iff_eq.mpr c12
               clear c12
               have H' := Aside0.mk H
               clear H
               have p224 : 0 ≤ (x18_1 : Int) := of_decide_eq_true aS
               have q224 : x18_1 < (t220.length : Int) := of_decide_eq_true aS
               obtain ⟨ad224, e224, hx224_0⟩ := Kd.at_int (Kd.R_reads' HO_16.out).2.2 x18_1 p224 q224
               cases e224
               replace p224 := eq_true p224
               replace q224 := eq_true q224
               have hcz13_0 : wr.cell? ⟨gb219, 0, none⟩ = some (.slice A0_0 l0_0.length c0_0) := (blk_cell BK219.out 0).trans rfl
               have hcz13_1 : wr.cell? ⟨gb219, 1, none⟩ = some (.slice A0_1 l0_1.length c0_1) := (blk_cell BK219.out 1).trans rfl
               have hfz13_0 := blk_frozen BK219.out 0
               have hfz13_1 := blk_frozen BK219.out 1
               have p225 : 0 ≤ (x18_1 : Int) := of_decide_eq_true aS
               have q225 : x18_1 < (l0_1.length : Int) := of_decide_eq_true aS
               obtain ⟨ad225, e225, hx225_0⟩ := Kd.at_int HR0_1.out x18_1 p225 q225
               cases e225
               replace hx225_0 := (HB.out.cell (World.block_lt_of_cell? w _ hx225_0)).trans hx225_0
               replace p225 := eq_true p225
               replace q225 := eq_true q225
               go_wp2
               go_roundg k1
               case measure => have := HK1.out; omega
               case rel => exact ⟨(x6_1), (wrap64 (x18_1 + 1)), rD, rD, H', ⟨by have := HK1.out; omega⟩, ⟨pR HO_16⟩, ⟨pB BK219⟩, ⟨bC HB GE219⟩⟩
             · rw [if_neg c12] at H
               have c12b0 : ((rd t220 x18_1) == (rd l0_1 x18_1)) = false := beq_eq_false_iff_ne.mpr c12
               have c12b1 : ((rd t220 x18_1) != (rd l0_1 x18_1)) = true := bne_iff_ne.mpr c12
               have H' := Aside0.mk H
               clear H
               have p224 : 0 ≤ (x18_1 : Int) := of_decide_eq_true aS
               have q224 : x18_1 < (t220.length : Int) := of_decide_eq_true aS
               obtain ⟨ad224, e224, hx224_0⟩ := Kd.at_int (Kd.R_reads' HO_16.out).2.2 x18_1 p224 q224
               cases e224
               replace p224 := eq_true p224
               replace q224 := eq_true q224
               have hcz14_0 : wr.cell? ⟨gb219, 0, none⟩ = some (.slice A0_0 l0_0.length c0_0) := (blk_cell BK219.out 0).trans rfl
               have hcz14_1 : wr.cell? ⟨gb219, 1, none⟩ = some (.slice A0_1 l0_1.length c0_1) := (blk_cell BK219.out 1).trans rfl
               have hfz14_0 := blk_frozen BK219.out 0
               have hfz14_1 := blk_frozen BK219.out 1
               have p225 : 0 ≤ (x18_1 : Int) := of_decide_eq_true aS
               have q225 : x18_1 < (l0_1.length : Int) := of_decide_eq_true aS
               obtain ⟨ad225, e225, hx225_0⟩ := Kd.at_int HR0_1.out x18_1 p225 q225
               cases e225
               replace hx225_0 := (HB.out.cell (World.block_lt_of_cell? w _ hx225_0)).trans hx225_0
               replace p225 := eq_true p225
               replace q225 := eq_true q225
               go_wp2
               go_roundg k1
               case measure => have := HK1.out; omega
               case rel => exact ⟨(wrap64 (x6_1 + 1)), (wrap64 (x18_1 + 1)), rD, rD, H', ⟨by have := HK1.out; omega⟩, ⟨pR HO_16⟩, ⟨pB BK219⟩, ⟨bC HB GE219⟩⟩
           · rw [if_neg c11] at H
             exact absurd H (by simp)
         · rw [if_neg c10] at H
           exact absurd H (by simp)
       · rw [if_neg c9] at H
         exact absurd H (by simp)
     · rw [if_neg c8] at H
       have c8b0 : decide (x18_1 < (t220.length : Int)) = false := decide_eq_false c8
       clear c8
       simp only [Option.some.injEq, Prod.mk.injEq] at H
       obtain ⟨rfl, rfl⟩ := H
       go_wp2
       go_ret2
       exact ⟨eW, bC HB GE219⟩
 · replace c3 := Bool.eq_false_iff.mpr c3
   subst c3
   have H1 : (some (0, false)) = some (r1, r2) := by rw [if_neg (show ¬ (false = true) by decide)] at H; exact H
   clear H
   have H := H1
   clear H1
   simp only [Option.some.injEq, Prod.mk.injEq] at H
   obtain ⟨rfl, rfl⟩ := H
   go_enter Try.func46, Try.ntmps46
   go_wp2_with (first | ((with_reducible refine gate_dst (N := 1) rfl ?_); refine box_event ?hg (N := 1) ?hd (cs := #[.slice A0_0 l0_0.length c0_0, .slice A0_1 l0_1.length c0_1]) (t := 29) ?hr ?_; (case hd => rfl); (case hg => rfl); (case hr => first | (go_simp; done) | (go_simp; rfl)); intro gb219 hg w15 hbox hb; have n0_ := Aside0.mk (below_step (bB HB) hb); have n1_ := Aside0.mk (hbox); have n2_ := Aside0.mk ((by rw [hg]; exact (below_size (bB HB)) : w.heap.size ≤ gb219)); have n3_ := Aside0.mk ((by rw [hg]; exact (below_size (bB HB)) : w.heap.size ≤ gb219)); clear HB; have HB := n0_; have BK219 := n1_; have GW219 := n2_; have GE219 := n3_; clear n0_ n1_ n2_ n3_; clear hb hbox hg; have hcz16_0 : w15.cell? ⟨gb219, 0, none⟩ = some (.slice A0_0 l0_0.length c0_0) := (blk_cell BK219.out 0).trans rfl; have hcz16_1 : w15.cell? ⟨gb219, 1, none⟩ = some (.slice A0_1 l0_1.length c0_1) := (blk_cell BK219.out 1).trans rfl; have hfz16_0 := blk_frozen BK219.out 0; have hfz16_1 := blk_frozen BK219.out 1) | ((with_reducible refine gate_callee (f := 53) rfl ?_); refine goesL_ (some 11) rfl rfl Try.func53 (by kernel_rfl) rfl #[.agg #[.slice A0_0 l0_0.length c0_0, .slice A0_1 l0_1.length c0_1]] rfl aT ?_; (with_reducible refine (impl_HalvingSays.calls k _ _ l0_0 _ _ l0_1 t220 false _ ?side1 ?side2 ?side3 ?side4 A2.out).mono ?_); (case side1 => exact cB HR0_0 HB); (case side2 => exact HC0_0.out); (case side3 => exact cB HR0_1 HB); (case side4 => exact HC0_1.out); rintro e w17 ⟨v221, rfl, ho0, hb⟩; refine ⟨_, rfl, ?_⟩; have n0_ := Aside0.mk (Kd.R_lower ho0 (below_size (bC HB GE219))); have n1_ := Aside0.mk (blk_below (g := gb219) (o := .cells #[.slice A0_0 l0_0.length c0_0, .slice A0_1 l0_1.length c0_1] 29 (0, 0)) (pB BK219) hb); have n2_ := Aside0.mk (below_step (bC HB GE219) hb); clear BK219; clear HB; have HO222 := n0_; have BK219 := n1_; have HB := n2_; clear n0_ n1_ n2_; (try clear hb); (try clear hb2); (try clear hk); (try clear hi); (try clear ho0)))
   go_ret2
   exact ⟨eW, bC HB GE219⟩

-- NOT PRINTED: function 11 (laws_FnExactHalvingWrong)

end Go.Proofs.Ytpboffjnnnmicaa.PFnExactHalvingWrong
