import Derived.Test.YtfkfahdikmfpeaaDoorRs
import Derived.Test.YtfkfahdikmfpeaaDoorPFnExactVapnikNumberx0
import Derived.Test.YtfkfahdikmfpeaaDoorPFnExactVapnikNumberx5
import Derived.Test.YtfkfahdikmfpeaaDoorSh
namespace Go.Proofs.YtfkfahdikmfpeaaDoor.PFnExactVapnikNumber
open Go.RowKit Go.Proofs.YtfkfahdikmfpeaaDoor.Sh Go.Proofs.YtfkfahdikmfpeaaDoorW.PrintWords Go.Proofs.YtfkfahdikmfpeaaDoorW.PrintLast Go.Proofs.YtfkfahdikmfpeaaDoorW.PrintMore
attribute [local go_sem] max2_int min2_int max_two min_two max_three min_three max_four min_four
set_option linter.unusedVariables false
set_option maxHeartbeats 8000000
set_option maxRecDepth 100000
set_option linter.unusedSimpArgs false

def impl_members.l0 : Nat → Int → List Int → Option (List Int)
 | 0, _, _ => none
 | k + 1, x0, x3 => if x0 = 0 then (some x3) else ((bits_TrailingZeros.f (IntKind.u64.wrap (x0))).bind fun t302 => (if x3.length < 17592186044416 then (impl_members.l0 k (Go.bits .and .i64 x0 (wrap64 (x0 - 1))) (x3 ++ [t302])) else (none)))
def impl_members.f (k : Nat) (a0 : Int) : Option (List Int) := impl_members.l0 k a0 (([] : List Int))
theorem impl_members.calls (k : Nat) (a0 : Int) (r : List Int) (w : World) (h : impl_members.f k a0 = some r) (HTab : Aside0 (TabAt 1 Go.Lib.deBruijn64tab w)) :
 Calls Tryd.prog 20 #[.int .i64 a0] w fun e w' => ∃ v0_ : Value, e = .returned (v0_) ∧ Kd.R (Kd.int .i64) 3 w' w.heap.size (fun _ => True) v0_ r ∧ Below w.heap.size w w' := by
 have HB := Aside0.mk (Below.refl w.heap.size w); have H : (impl_members.l0 k a0 (([] : List Int))) = some r := h; clear h; obtain ⟨y299, hy299⟩ : ∃ y_ : List Int, y_ = (([] : List Int)) := ⟨_, rfl⟩; replace H : (impl_members.l0 k a0 y299) = some r := by first | (rw [hy299]; with_reducible exact H) | (have H2_ := (Option.bind_some _ _).symm.trans H; rw [hy299]; with_reducible exact H2_) | (have H2_ := (Option.bind_some _ _).symm.trans H; with_reducible exact H2_) | with_reducible exact H | (rw [hy299]; exact H) | exact H
 have Ny299 := Aside0.mk hy299; clear hy299; have H' := Aside0.mk H; clear H; go_enter Tryd.func20, Tryd.ntmps20; go_wp2_with (first | ((with_reducible refine gate_dst (N := 4) rfl ?_); refine Kd.R_lit (Kd.int .i64) _ 3 ?hg (N := 4) ?hd (xs := ([] : List Int)) (inner := []) (ok := fun _ => True) (okp := fun _ => True) ?hr ?hp (fun _ hk => hk) trivial (Below.refl _ _) (Nat.le_refl _) (by simp) ?_; (case hd => rfl); (case hg => rfl); (case hr => go_simp <;> rfl); (case hp => exact (Reps.none _ _)); intro v300 w2 ho3 hb hg_ hnew_; clear hg_ hnew_; (first | rw [← Ny299.out] at ho3 | (simp only [Int.reduceToNat] at ho3; rw [← Ny299.out] at ho3)); have HO301 := Aside0.mk (Kd.R_lower ho3 (below_size (bB HB))); replace HB := Aside0.mk (below_step (bB HB) hb); clear hb ho3))
 go_loopg [0, 3] k (fun kq v0 v3 w' => ∃ (x0_1 : Int) (x3_1 : List Int), v0 = .int .i64 x0_1 ∧ Aside0 (impl_members.l0 kq x0_1 x3_1 = some r) ∧ Aside0 (kq ≤ k) ∧ Aside0 (Kd.R (Kd.int .i64) 3 w' w.heap.size (fun _ => True) v3 x3_1) ∧ Aside0 (Below w.heap.size w w'))
 case atStart => exact ⟨(a0), (y299), rD, H', ⟨Nat.le_refl _⟩, ⟨pR HO301⟩, ⟨bB HB⟩⟩
 case round =>
  clear H'; obtain ⟨x0_1, x3_1, rfl, HA, HK1, HO_3, HB⟩ := hrel; cases gk with
  | zero => exact absurd HA.out (by simp [impl_members.l0])
  | succ k1 =>
   have H := HA.out; clear HA; simp only [impl_members.l0] at H; by_cases c4 : x0_1 = 0
   · rw [if_pos c4] at H; have c4b0 : (x0_1 == 0) = true := beq_iff_eq.mpr c4; have c4b1 : (x0_1 != 0) = false := bne_eq_false_iff_eq.mpr c4; clear c4; obtain rfl := Option.some.inj H; go_wp2; go_ret
     exact ⟨_, eW, by (with_reducible repeat (first | apply Kd.R_alloc | apply Kd.R_drewN | apply Kd.R_drew)); exact HO_3.out, bB HB⟩
   · rw [if_neg c4] at H; have c4b0 : (x0_1 == 0) = false := beq_eq_false_iff_ne.mpr c4; have c4b1 : (x0_1 != 0) = true := bne_iff_ne.mpr c4; replace H := Option.bind_eq_some_iff.mp H; obtain ⟨t302, A50, H⟩ := H; replace H : (if x3_1.length < 17592186044416 then (impl_members.l0 k1 (Go.bits .and .i64 x0_1 (wrap64 (x0_1 - 1))) (x3_1 ++ [t302])) else (none)) = some r := H; have A5 := Aside0.mk A50; clear A50; by_cases c6 : x3_1.length < 17592186044416
     · rw [if_pos c6] at H; have LMc6 := Aside0.mk c6; clear c6; obtain ⟨y303, hy303⟩ : ∃ y_ : List Int, y_ = (x3_1 ++ [t302]) := ⟨_, rfl⟩; replace H : (impl_members.l0 k1 (Go.bits .and .i64 x0_1 (wrap64 (x0_1 - 1))) y303) = some r := by first | (rw [hy303]; with_reducible exact H) | (have H2_ := (Option.bind_some _ _).symm.trans H; rw [hy303]; with_reducible exact H2_) | (have H2_ := (Option.bind_some _ _).symm.trans H; with_reducible exact H2_) | with_reducible exact H | (rw [hy303]; exact H) | exact H
       have Ny303 := Aside0.mk hy303; clear hy303; have H' := Aside0.mk H; clear H; go_wp2_with (first | ((with_reducible refine gate_callee (f := 34) rfl ?_); refine goesL_ (some 14) rfl rfl Tryd.func34 (by kernel_rfl) rfl #[.int .u64 (IntKind.u64.wrap (x0_1))] rfl aT ?_; (with_reducible refine (bits_TrailingZeros.calls (IntKind.u64.wrap (x0_1)) t302 _ A5.out HTab (bB HB)).mono ?_); rintro e w' ⟨rfl, ⟨nd, rfl⟩⟩; refine ⟨_, rfl, ?_⟩) | ((with_reducible refine gate_builtin (b := .append) (xs := #[.tmp 11, .tmp 15]) rfl ?_); at_builtin; refine Kd.R_append (Kd.int .i64) (w0 := w) w.heap.size rfl (.tmp 11) (.tmp 15) 32 3 (.int .i64 0) 8 rfl Tryd.underlying32 info3 rfl (by decide) (by omega) u3 x3_1 t302 [.int .i64 t302] (fun _ => True) (fun _ => False) rfl rfl ?aP (fun _ hk => hk.elim) ?aF ?aO ?aB ?aS ?aL ?_; (case aP => exact rfl); (case aB => exact (bB HB)); (case aF => exact (fun _ _ => trivial)); (case aO => exact (pR HO_3)); (case aS => exact (below_size (bB HB))); (case aL => have := LMc6.out; omega); intro v304 w7 ho hb hg hat; rw [← Ny303.out] at ho; have HO305 := Aside0.mk (ho); replace HB := Aside0.mk (hb); clear HO_3; clear ho hb hg hat))
       go_roundg k1
       case measure => have := HK1.out; omega
       case rel => exact ⟨(Go.bits .and .i64 x0_1 (wrap64 (x0_1 - 1))), (y303), rD, H', ⟨by have := HK1.out; omega⟩, ⟨pR HO305⟩, ⟨bB HB⟩⟩
     · rw [if_neg c6] at H; exact absurd H (by simp)

def impl_at.l0 : Nat → List Int → List Int → List Int → Int → Int → Option (List Int)
 | 0, _, _, _, _, _ => none
 | k + 1, x0, x5, x9, x10, x11 => if x11 < x10 then (if 0 ≤ x11 then (if x11 < (x9.length : Int) then (if 0 ≤ (rd x9 x11) then (if (rd x9 x11) < (x0.length : Int) then (if x5.length < 17592186044416 then (impl_at.l0 k x0 (x5 ++ [rd x0 (rd x9 x11)]) x9 x10 (wrap64 (x11 + 1))) else (none)) else (none)) else (none)) else (none)) else (none)) else (some x5)
def impl_at.f (k : Nat) (l0 : List Int) (l1 : List Int) : Option (List Int) := impl_at.l0 k l0 (([] : List Int)) l1 (l1.length : Int) 0
theorem impl_at.calls (k : Nat) (A0 : Option Addr) (c0 : Nat) (l0 : List Int) (A1 : Option Addr) (c1 : Nat) (l1 : List Int) (r : List Int) (w : World) (hr0 : Kd.C (Kd.int .i64) w A0 l0.length l0) (hc0 : l0.length ≤ c0) (hr1 : Kd.C (Kd.int .i64) w A1 l1.length l1) (hc1 : l1.length ≤ c1) (h : impl_at.f k l0 l1 = some r) :
 Calls Tryd.prog 43 #[.slice A0 l0.length c0, .slice A1 l1.length c1] w fun e w' => ∃ v0_ : Value, e = .returned (v0_) ∧ Kd.R (Kd.int .i64) 3 w' w.heap.size (fun _ => True) v0_ r ∧ Below w.heap.size w w' := by
 have HR0 := Aside0.mk hr0; have HC0 := Aside0.mk hc0; clear hr0 hc0; have HR1 := Aside0.mk hr1; have HC1 := Aside0.mk hc1; clear hr1 hc1; have HB := Aside0.mk (Below.refl w.heap.size w); have H : (impl_at.l0 k l0 (([] : List Int)) l1 (l1.length : Int) 0) = some r := h; clear h; obtain ⟨y306, hy306⟩ : ∃ y_ : List Int, y_ = (([] : List Int)) := ⟨_, rfl⟩; replace H : (impl_at.l0 k l0 y306 l1 (l1.length : Int) 0) = some r := by first | (rw [hy306]; with_reducible exact H) | (have H2_ := (Option.bind_some _ _).symm.trans H; rw [hy306]; with_reducible exact H2_) | (have H2_ := (Option.bind_some _ _).symm.trans H; with_reducible exact H2_) | with_reducible exact H | (rw [hy306]; exact H) | exact H
 have Ny306 := Aside0.mk hy306; clear hy306; have H' := Aside0.mk H; clear H; go_enter Tryd.func43, Tryd.ntmps43; go_wp2_with (first | ((with_reducible refine gate_dst (N := 8) rfl ?_); refine Kd.R_lit (Kd.int .i64) _ 3 ?hg (N := 8) ?hd (xs := ([] : List Int)) (inner := []) (ok := fun _ => True) (okp := fun _ => True) ?hr ?hp (fun _ hk => hk) trivial (Below.refl _ _) (Nat.le_refl _) (by simp) ?_; (case hd => rfl); (case hg => rfl); (case hr => go_simp <;> rfl); (case hp => exact (Reps.none _ _)); intro v307 w3 ho4 hb hg_ hnew_; clear hg_ hnew_; (first | rw [← Ny306.out] at ho4 | (simp only [Int.reduceToNat] at ho4; rw [← Ny306.out] at ho4)); have HO308 := Aside0.mk (Kd.R_lower ho4 (below_size (bB HB))); replace HB := Aside0.mk (below_step (bB HB) hb); clear hb ho4))
 go_loopg [5, 11] k (fun kq v5 v11 w' => ∃ (x5_1 : List Int) (x11_1 : Int), v11 = .int .i64 x11_1 ∧ Aside0 (impl_at.l0 kq l0 x5_1 l1 (l1.length : Int) x11_1 = some r) ∧ Aside0 (kq ≤ k) ∧ Aside0 (Kd.R (Kd.int .i64) 3 w' w.heap.size (fun _ => True) v5 x5_1) ∧ Aside0 (Below w.heap.size w w'))
 case atStart => exact ⟨(y306), (0), rD, H', ⟨Nat.le_refl _⟩, ⟨pR HO308⟩, ⟨bB HB⟩⟩
 case round =>
  clear H'; try clear c1
  obtain ⟨x5_1, x11_1, rfl, HA, HK1, HO_5, HB⟩ := hrel; cases gk with
  | zero => exact absurd HA.out (by simp [impl_at.l0])
  | succ k1 =>
   have H := HA.out; clear HA; simp only [impl_at.l0] at H; by_cases c5 : x11_1 < (l1.length : Int)
   · rw [if_pos c5] at H; have c5b0 : decide (x11_1 < (l1.length : Int)) = true := decide_eq_true c5; clear c5; by_cases c6 : 0 ≤ x11_1
     · rw [if_pos c6] at H; have c6b0 : decide (0 ≤ x11_1) = true := decide_eq_true c6; clear c6; by_cases c7 : x11_1 < (l1.length : Int)
       · rw [if_pos c7] at H; have c7b0 : decide (x11_1 < (l1.length : Int)) = true := decide_eq_true c7; clear c7; by_cases c8 : 0 ≤ (rd l1 x11_1)
         · rw [if_pos c8] at H; have c8b0 : decide (0 ≤ (rd l1 x11_1)) = true := decide_eq_true c8; clear c8; by_cases c9 : (rd l1 x11_1) < (l0.length : Int)
           · rw [if_pos c9] at H; have c9b0 : decide ((rd l1 x11_1) < (l0.length : Int)) = true := decide_eq_true c9; clear c9; by_cases c10 : x5_1.length < 17592186044416
             · rw [if_pos c10] at H; have LMc10 := Aside0.mk c10; clear c10; obtain ⟨y311, hy311⟩ : ∃ y_ : List Int, y_ = (x5_1 ++ [rd l0 (rd l1 x11_1)]) := ⟨_, rfl⟩; replace H : (impl_at.l0 k1 l0 y311 l1 (l1.length : Int) (wrap64 (x11_1 + 1))) = some r := by first | (rw [hy311]; with_reducible exact H) | (have H2_ := (Option.bind_some _ _).symm.trans H; rw [hy311]; with_reducible exact H2_) | (have H2_ := (Option.bind_some _ _).symm.trans H; with_reducible exact H2_) | with_reducible exact H | (rw [hy311]; exact H) | exact H
               have Ny311 := Aside0.mk hy311; clear hy311; have H' := Aside0.mk H; clear H; have p309 : 0 ≤ (x11_1 : Int) := of_decide_eq_true aS; have q309 : x11_1 < (l1.length : Int) := of_decide_eq_true aS; obtain ⟨ad309, e309, hx309_0⟩ := Kd.at_int HR1.out x11_1 p309 q309; cases e309
               replace hx309_0 := (HB.out.cell (World.block_lt_of_cell? w _ hx309_0)).trans hx309_0; replace p309 := eq_true p309; replace q309 := eq_true q309; have p310 : 0 ≤ ((rd l1 x11_1) : Int) := of_decide_eq_true aS; have q310 : (rd l1 x11_1) < (l0.length : Int) := of_decide_eq_true aS; obtain ⟨ad310, e310, hx310_0⟩ := Kd.at_int HR0.out (rd l1 x11_1) p310 q310; cases e310
               replace hx310_0 := (HB.out.cell (World.block_lt_of_cell? w _ hx310_0)).trans hx310_0; replace p310 := eq_true p310; replace q310 := eq_true q310; go_wp2_with (first | ((with_reducible refine gate_builtin (b := .append) (xs := #[.tmp 15, .tmp 20]) rfl ?_); at_builtin; refine Kd.R_append (Kd.int .i64) (w0 := w) w.heap.size rfl (.tmp 15) (.tmp 20) 32 3 (.int .i64 0) 8 rfl Tryd.underlying32 info3 rfl (by decide) (by omega) u5 x5_1 (rd l0 (rd l1 x11_1)) [.int .i64 (rd l0 (rd l1 x11_1))] (fun _ => True) (fun _ => False) rfl rfl ?aP (fun _ hk => hk.elim) ?aF ?aO ?aB ?aS ?aL ?_; (case aP => exact rfl); (case aB => exact (bB HB)); (case aF => exact (fun _ _ => trivial)); (case aO => exact (pR HO_5)); (case aS => exact (below_size (bB HB))); (case aL => have := LMc10.out; omega); intro v312 w11 ho hb hg hat; rw [← Ny311.out] at ho; have HO313 := Aside0.mk (ho); replace HB := Aside0.mk (hb); clear HO_5; clear ho hb hg hat))
               go_roundg k1
               case measure => have := HK1.out; omega
               case rel => exact ⟨(y311), (wrap64 (x11_1 + 1)), rD, H', ⟨by have := HK1.out; omega⟩, ⟨pR HO313⟩, ⟨bB HB⟩⟩
             · rw [if_neg c10] at H; exact absurd H (by simp)
           · rw [if_neg c9] at H; exact absurd H (by simp)
         · rw [if_neg c8] at H; exact absurd H (by simp)
       · rw [if_neg c7] at H; exact absurd H (by simp)
     · rw [if_neg c6] at H; exact absurd H (by simp)
   · rw [if_neg c5] at H; have c5b0 : decide (x11_1 < (l1.length : Int)) = false := decide_eq_false c5; clear c5; obtain rfl := Option.some.inj H; go_wp2; go_ret
     exact ⟨_, eW, by (with_reducible repeat (first | apply Kd.R_alloc | apply Kd.R_drewN | apply Kd.R_drew)); exact HO_5.out, bB HB⟩

def slices_Equal_int_int.l0 : Nat → List Int → List Int → Int → Int → Option (Bool)
 | 0, _, _, _, _ => none
 | k + 1, x0, x1, x12, x13 => if x13 < x12 then (if 0 ≤ x13 then (if x13 < (x0.length : Int) then (if x13 < (x1.length : Int) then (if (rd x0 x13) = (rd x1 x13) then (slices_Equal_int_int.l0 k x0 x1 x12 (wrap64 (x13 + 1))) else (some false)) else (none)) else (none)) else (none)) else (some true)
def slices_Equal_int_int.f (k : Nat) (l0 : List Int) (l1 : List Int) : Option (Bool) := if (l0.length : Int) = (l1.length : Int) then (slices_Equal_int_int.l0 k l0 l1 (l0.length : Int) 0) else (some false)
theorem slices_Equal_int_int.calls (k : Nat) (A0 : Option Addr) (c0 : Nat) (l0 : List Int) (A1 : Option Addr) (c1 : Nat) (l1 : List Int) (r : Bool) (w : World) (hr0 : Kd.C (Kd.int .i64) w A0 l0.length l0) (hc0 : l0.length ≤ c0) (hr1 : Kd.C (Kd.int .i64) w A1 l1.length l1) (hc1 : l1.length ≤ c1) (h : slices_Equal_int_int.f k l0 l1 = some r) :
 Calls Tryd.prog 45 #[.slice A0 l0.length c0, .slice A1 l1.length c1] w fun e w' => e = .returned (.bool r) ∧ Drawn0 w w' := by
 have HR0 := Aside0.mk hr0; have HC0 := Aside0.mk hc0; clear hr0 hc0; have HR1 := Aside0.mk hr1; have HC1 := Aside0.mk hc1; clear hr1 hc1; have H : (if (l0.length : Int) = (l1.length : Int) then (slices_Equal_int_int.l0 k l0 l1 (l0.length : Int) 0) else (some false)) = some r := h; clear h; by_cases c3 : (l0.length : Int) = (l1.length : Int)
 · rw [if_pos c3] at H; have c3b0 : ((l0.length : Int) == (l1.length : Int)) = true := beq_iff_eq.mpr c3; have c3b1 : ((l0.length : Int) != (l1.length : Int)) = false := bne_eq_false_iff_eq.mpr c3; have c3b2 : (l0.length == l1.length) = true := by first | simpa using c3 | (simp at c3 ⊢; omega)
   clear c3; have H' := Aside0.mk H; clear H; go_enter Tryd.func45, Tryd.ntmps45; go_wp2; repeat (go_quiet (fail); try go_wp2)
   go_loopg [13] k (fun kq v13 w' => ∃ (x13_1 : Int), v13 = .int .i64 x13_1 ∧ Aside0 (slices_Equal_int_int.l0 kq l0 l1 (l0.length : Int) x13_1 = some r) ∧ Aside0 (kq ≤ k) ∧ Drawn0 w w')
   case atStart => exact ⟨(0), rD, H', ⟨Nat.le_refl _⟩, by repeat (first | exact Drawn0.refl _ | apply Drawn0.step)⟩
   case round =>
    clear H'; try clear c1
    try clear c3
    try clear c3b0
    try clear c3b1
    try clear c3b2
    obtain ⟨x13_1, rfl, HA, HK1, ⟨m1, rfl⟩⟩ := hrel; cases gk with
    | zero => exact absurd HA.out (by simp [slices_Equal_int_int.l0])
    | succ k1 =>
     have H := HA.out; clear HA; simp only [slices_Equal_int_int.l0] at H; by_cases c4 : x13_1 < (l0.length : Int)
     · rw [if_pos c4] at H; have c4b0 : decide (x13_1 < (l0.length : Int)) = true := decide_eq_true c4; clear c4; by_cases c5 : 0 ≤ x13_1
       · rw [if_pos c5] at H; have c5b0 : decide (0 ≤ x13_1) = true := decide_eq_true c5; clear c5; by_cases c6 : x13_1 < (l0.length : Int)
         · rw [if_pos c6] at H; have c6b0 : decide (x13_1 < (l0.length : Int)) = true := decide_eq_true c6; clear c6; by_cases c7 : x13_1 < (l1.length : Int)
           · rw [if_pos c7] at H; have c7b0 : decide (x13_1 < (l1.length : Int)) = true := decide_eq_true c7; clear c7; by_cases c8 : (rd l0 x13_1) = (rd l1 x13_1)
             · rw [if_pos c8] at H; have c8b0 : ((rd l0 x13_1) == (rd l1 x13_1)) = true := beq_iff_eq.mpr c8; have c8b1 : ((rd l0 x13_1) != (rd l1 x13_1)) = false := bne_eq_false_iff_eq.mpr c8; clear c8; have H' := Aside0.mk H; clear H; have p314 : 0 ≤ (x13_1 : Int) := of_decide_eq_true aS; have q314 : x13_1 < (l0.length : Int) := of_decide_eq_true aS; obtain ⟨ad314, e314, hx314_0⟩ := Kd.at_int HR0.out x13_1 p314 q314; cases e314
               replace p314 := eq_true p314; replace q314 := eq_true q314; have p315 : 0 ≤ (x13_1 : Int) := of_decide_eq_true aS; have q315 : x13_1 < (l1.length : Int) := of_decide_eq_true aS; obtain ⟨ad315, e315, hx315_0⟩ := Kd.at_int HR1.out x13_1 p315 q315; cases e315
               replace p315 := eq_true p315; replace q315 := eq_true q315; go_wp2; repeat (go_quiet (fail); try go_wp2)
               go_roundg k1
               case measure => have := HK1.out; omega
               case rel => exact ⟨(wrap64 (x13_1 + 1)), rD, H', ⟨by have := HK1.out; omega⟩, by repeat (first | exact Drawn0.refl _ | apply Drawn0.step)⟩
             · rw [if_neg c8] at H; have c8b0 : ((rd l0 x13_1) == (rd l1 x13_1)) = false := beq_eq_false_iff_ne.mpr c8; have c8b1 : ((rd l0 x13_1) != (rd l1 x13_1)) = true := bne_iff_ne.mpr c8; obtain rfl := Option.some.inj H; have p314 : 0 ≤ (x13_1 : Int) := of_decide_eq_true aS; have q314 : x13_1 < (l0.length : Int) := of_decide_eq_true aS; obtain ⟨ad314, e314, hx314_0⟩ := Kd.at_int HR0.out x13_1 p314 q314; cases e314
               replace p314 := eq_true p314; replace q314 := eq_true q314; have p315 : 0 ≤ (x13_1 : Int) := of_decide_eq_true aS; have q315 : x13_1 < (l1.length : Int) := of_decide_eq_true aS; obtain ⟨ad315, e315, hx315_0⟩ := Kd.at_int HR1.out x13_1 p315 q315; cases e315
               replace p315 := eq_true p315; replace q315 := eq_true q315; go_wp2; repeat (go_quiet (fail); try go_wp2)
               go_ret
               exact ⟨rD, by repeat (first | exact Drawn0.refl _ | apply Drawn0.step)⟩
           · rw [if_neg c7] at H; exact absurd H (by simp)
         · rw [if_neg c6] at H; exact absurd H (by simp)
       · rw [if_neg c5] at H; exact absurd H (by simp)
     · rw [if_neg c4] at H; have c4b0 : decide (x13_1 < (l0.length : Int)) = false := decide_eq_false c4; clear c4; obtain rfl := Option.some.inj H; go_wp2; repeat (go_quiet (fail); try go_wp2)
       go_ret
       exact ⟨rD, by repeat (first | exact Drawn0.refl _ | apply Drawn0.step)⟩
 · rw [if_neg c3] at H; have c3b0 : ((l0.length : Int) == (l1.length : Int)) = false := beq_eq_false_iff_ne.mpr c3; have c3b1 : ((l0.length : Int) != (l1.length : Int)) = true := bne_iff_ne.mpr c3; have c3b2 : (l0.length == l1.length) = false := by first | simpa using c3 | (simp at c3 ⊢; omega)
   obtain rfl := Option.some.inj H; go_enter Tryd.func45, Tryd.ntmps45; go_wp2; repeat (go_quiet (fail); try go_wp2)
   go_ret
   exact ⟨rD, by repeat (first | exact Drawn0.refl _ | apply Drawn0.step)⟩

def impl_traces.cf (k : Nat) (x y : List Int) : Int := (slices_Compare_int_int.f k x y).getD 0
def impl_traces.eqf (k : Nat) (x y : List Int) : Bool := (slices_Equal_int_int.f k x y).getD false
def impl_traces.le (k : Nat) (x y : List Int) : Bool := !decide (impl_traces.cf k y x < 0)
def impl_traces.okP (k : Nat) (xs : List (List Int)) (x y : List Int) : Prop := (slices_Compare_int_int.f k x y).isSome = true ∧ (impl_traces.cf k x y < 0 ∨ impl_traces.cf k y x < 0 ∨ x = y) ∧ ¬ (impl_traces.cf k x y < 0 ∧ impl_traces.cf k y x < 0) ∧ ∀ z ∈ xs, (impl_traces.cf k x y < 0 → impl_traces.cf k y z < 0 → impl_traces.cf k x z < 0) ∧ (¬ impl_traces.cf k x y < 0 → ¬ impl_traces.cf k y z < 0 → ¬ impl_traces.cf k x z < 0)
def impl_traces.ok (k : Nat) (xs : List (List Int)) : Prop := 0 < xs.length ∧ xs.length < 4611686018427387904 ∧ (∀ x ∈ xs, ∀ y ∈ xs, impl_traces.okP k xs x y) ∧ ∀ x ∈ [] :: xs, ∀ y ∈ [] :: xs, (slices_Equal_int_int.f k x y).isSome = true
instance (k : Nat) (xs : List (List Int)) (x y : List Int) : Decidable (impl_traces.okP k xs x y) := by unfold impl_traces.okP; infer_instance
instance (k : Nat) (xs : List (List Int)) : Decidable (impl_traces.ok k xs) := by unfold impl_traces.ok; infer_instance
def impl_traces.res (k : Nat) (xs : List (List Int)) : Option (List (List Int)) := if impl_traces.ok k xs then some (Rs.compactBy (impl_traces.eqf k) (xs.mergeSort (impl_traces.le k))) else none
theorem impl_traces.res_ok {k : Nat} {xs r : List (List Int)} (h : impl_traces.res k xs = some r) : impl_traces.ok k xs ∧ r = Rs.compactBy (impl_traces.eqf k) (xs.mergeSort (impl_traces.le k)) := by
 unfold impl_traces.res at h; split at h
 · next hk => exact ⟨hk, (Option.some.inj h).symm⟩
 · cases h
theorem impl_traces.sorts {k : Nat} {xs ys : List (List Int)} (h : impl_traces.ok k xs) (hp : ys.Perm xs) (hs : ys.Pairwise (fun a b => ¬ impl_traces.cf k b a < 0)) : ys = xs.mergeSort (impl_traces.le k) := by
 have h3 := h.2.2.1; refine Rs.sort_unique _ xs ys (fun a ha b hb c hc h1 h2 => ?_) (fun a ha b hb => ?_) (fun a ha b hb h1 h2 => ?_) hp (hs.imp fun h1 => ?_)
 · simp only [impl_traces.le, Bool.not_eq_true', decide_eq_false_iff_not] at h1 h2 ⊢; exact ((h3 c hc b hb).2.2.2 a ha).2 h2 h1
 · simp only [impl_traces.le, Bool.or_eq_true, Bool.not_eq_true', decide_eq_false_iff_not]; have := (h3 a ha b hb).2.2.1; by_cases e : impl_traces.cf k b a < 0
   · exact .inr fun e2 => this ⟨e2, e⟩
   · exact .inl e
 · simp only [impl_traces.le, Bool.not_eq_true', decide_eq_false_iff_not] at h1 h2; rcases (h3 a ha b hb).2.1 with e | e | e
   · exact absurd e h2
   · exact absurd e h1
   · exact e
 · simp only [impl_traces.le, Bool.not_eq_true', decide_eq_false_iff_not]; exact h1
theorem impl_traces.compares (k : Nat) (xs : List (List Int)) (h : impl_traces.ok k xs) (W : World) (A : Option Addr) (c : Nat) (l : List Int) (A' : Option Addr) (c' : Nat) (l' : List Int) (hl : l ∈ xs) (hl' : l' ∈ xs) (h1 : Kd.C (Kd.int .i64) W A l.length l) (h2 : l.length ≤ c) (h3 : Kd.C (Kd.int .i64) W A' l'.length l') (h4 : l'.length ≤ c') : Calls Tryd.prog 33 #[.slice A l.length c, .slice A' l'.length c'] W fun e w' => e = .returned (.int .i64 (impl_traces.cf k l l')) ∧ Drawn0 W w' :=
 slices_Compare_int_int.calls k A c l A' c' l' _ W h1 h2 h3 h4 (by
  obtain ⟨v, hv⟩ := Option.isSome_iff_exists.1 (h.2.2.1 l hl l' hl').1; unfold impl_traces.cf; rw [hv]; rfl)
theorem impl_traces.equals (k : Nat) (xs : List (List Int)) (h : impl_traces.ok k xs) (W : World) (A : Option Addr) (c : Nat) (l : List Int) (A' : Option Addr) (c' : Nat) (l' : List Int) (hl : l ∈ [] :: xs) (hl' : l' ∈ [] :: xs) (h1 : Kd.C (Kd.int .i64) W A l.length l) (h2 : l.length ≤ c) (h3 : Kd.C (Kd.int .i64) W A' l'.length l') (h4 : l'.length ≤ c') : Calls Tryd.prog 45 #[.slice A l.length c, .slice A' l'.length c'] W fun e w' => e = .returned (.bool (impl_traces.eqf k l l')) ∧ Drawn0 W w' :=
 slices_Equal_int_int.calls k A c l A' c' l' _ W h1 h2 h3 h4 (by
  obtain ⟨v, hv⟩ := Option.isSome_iff_exists.1 (h.2.2.2 l hl l' hl'); unfold impl_traces.eqf; rw [hv]; rfl)
theorem impl_traces.sortCall (k : Nat) (xs : List (List Int)) (h : impl_traces.ok k xs) {w W : World} {v : Value} (hS : Kd.S (Kd.slice 3 (Kd.int .i64)) 32 W w.heap.size (fun _ => True) v xs) (hB : Below w.heap.size w W) : Calls Tryd.prog 22 #[v, .func (.func 33) #[] #[]] W fun e w' => e = .returned (.tuple #[]) ∧ Kd.S (Kd.slice 3 (Kd.int .i64)) 32 w' w.heap.size (fun _ => True) v (xs.mergeSort (impl_traces.le k)) ∧ Below w.heap.size w w' := by
 refine (Rs.sortS (impl_traces.cf k) (fun x => x ∈ xs) (fun x hx => ?_) (fun x y z hx hy hz => ((h.2.2.1 x hx y hy).2.2.2 z hz).1) (fun x y z hx hy hz => ((h.2.2.1 x hx y hy).2.2.2 z hz).2) 33 (enters_of Tryd.func33 (by kernel_rfl) rfl) (impl_traces.compares k xs h) hS (fun e => by have := h.1; rw [e] at this; exact absurd this (by decide)) (fun _ hx => hx) h.2.1).mono ?_
 · intro e; exact (h.2.2.1 x hx x hx).2.2.1 ⟨e, e⟩
 · rintro e w' ⟨rfl, ys, hp, hs, hS1, row, hrow, hg⟩; obtain rfl := impl_traces.sorts h hp hs; exact ⟨rfl, hS1, pw_below_grown hB _ hB.size hg (fun q e => by injection e with e; subst e; exact Kd.S_base hS row hrow)⟩
theorem impl_traces.compactCall (k : Nat) (xs : List (List Int)) (h : impl_traces.ok k xs) {w W : World} {v : Value} (hS : Kd.S (Kd.slice 3 (Kd.int .i64)) 32 W w.heap.size (fun _ => True) v (xs.mergeSort (impl_traces.le k))) (hB : Below w.heap.size w W) : Calls Tryd.prog 44 #[v, .func (.func 45) #[] #[]] W fun e w' => ∃ v1 : Value, e = .returned v1 ∧ Kd.S (Kd.slice 3 (Kd.int .i64)) 32 w' w.heap.size (fun _ => True) v1 (Rs.compactBy (impl_traces.eqf k) (xs.mergeSort (impl_traces.le k))) ∧ Below w.heap.size w w' := by
 have hm : ∀ x, x ∈ xs.mergeSort (impl_traces.le k) ↔ x ∈ xs := fun x => (List.mergeSort_perm xs _).mem_iff
 refine (Rs.compactS (impl_traces.eqf k) (fun x => x ∈ [] :: xs) List.mem_cons_self 45 (enters_of Tryd.func45 (by kernel_rfl) rfl) (impl_traces.equals k xs h) hS (fun e => by have h2 := (List.mergeSort_perm xs (impl_traces.le k)).length_eq; rw [e] at h2; have := h.1; rw [← h2] at this; exact absurd this (by decide)) (fun x hx => List.mem_cons_of_mem _ ((hm x).1 hx))).mono ?_; rintro e w' ⟨v1, rfl, ho, hS1, row, hrow, hg⟩; exact ⟨v1, rfl, hS1, pw_below_grown hB _ hB.size hg (fun q e => by injection e with e; subst e; exact Kd.S_base hS row hrow)⟩
def impl_traces.l0 : Nat → List Int → List (List Int) → List (List Int) → Int → Int → Option ((List (List Int)))
 | 0, _, _, _, _, _ => none
 | k + 1, x1, x5, x9, x10, x11 => if x11 < x10 then (if 0 ≤ x11 then (if x11 < (x9.length : Int) then ((impl_at.f k (rd_L1 x9 x11) x1).bind fun t329 => (if x5.length < 5864062014805 then (impl_traces.l0 k x1 (x5 ++ [t329]) x9 x10 (wrap64 (x11 + 1))) else (none))) else (none)) else (none)) else (impl_traces.res k x5)
def impl_traces.f (k : Nat) (l0 : List (List Int)) (l1 : List Int) : Option ((List (List Int))) := impl_traces.l0 k l1 (([] : List (List Int))) l0 (l0.length : Int) 0
theorem impl_traces.calls (k : Nat) (A0 : Option Addr) (c0 : Nat) (l0 : List (List Int)) (A1 : Option Addr) (c1 : Nat) (l1 : List Int) (r : List (List Int)) (w : World) (hr0 : Kd.C (Kd.slice 3 (Kd.int .i64)) w A0 l0.length l0) (hc0 : l0.length ≤ c0) (hr1 : Kd.C (Kd.int .i64) w A1 l1.length l1) (hc1 : l1.length ≤ c1) (h : impl_traces.f k l0 l1 = some r) :
 Calls Tryd.prog 35 #[.slice A0 l0.length c0, .slice A1 l1.length c1] w fun e w' => ∃ v0_ : Value, e = .returned (v0_) ∧ Kd.S (Kd.slice 3 (Kd.int .i64)) 32 w' w.heap.size (fun _ => True) v0_ r ∧ Below w.heap.size w w' := by
 have HR0 := Aside0.mk hr0; have HC0 := Aside0.mk hc0; clear hr0 hc0; have HR1 := Aside0.mk hr1; have HC1 := Aside0.mk hc1; clear hr1 hc1; have HB := Aside0.mk (Below.refl w.heap.size w); have H : (impl_traces.l0 k l1 (([] : List (List Int))) l0 (l0.length : Int) 0) = some r := h; clear h; obtain ⟨y325, hy325⟩ : ∃ y_ : List (List Int), y_ = (([] : List (List Int))) := ⟨_, rfl⟩; replace H : (impl_traces.l0 k l1 y325 l0 (l0.length : Int) 0) = some r := by first | (rw [hy325]; with_reducible exact H) | (have H2_ := (Option.bind_some _ _).symm.trans H; rw [hy325]; with_reducible exact H2_) | (have H2_ := (Option.bind_some _ _).symm.trans H; with_reducible exact H2_) | with_reducible exact H | (rw [hy325]; exact H) | exact H
 have Ny325 := Aside0.mk hy325; clear hy325; have H' := Aside0.mk H; clear H; go_enter Tryd.func35, Tryd.ntmps35; go_wp2_with (first | ((with_reducible refine gate_dst (N := 8) rfl ?_); refine Kd.S_lit (Kd.slice 3 (Kd.int .i64)) _ 32 ?hg (N := 8) ?hd (xs := ([] : List (List Int))) (inner := []) (ok := fun _ => True) (okp := fun _ => True) ?hr ?hp (fun _ hk => hk) trivial (Below.refl _ _) (Nat.le_refl _) (by simp) ?_; (case hd => rfl); (case hg => rfl); (case hr => go_simp <;> rfl); (case hp => exact (Reps.none _ _)); intro v326 w3 ho4 hb hg_ hnew_; clear hg_ hnew_; (first | rw [← Ny325.out] at ho4 | (simp only [Int.reduceToNat] at ho4; rw [← Ny325.out] at ho4)); have HO327 := Aside0.mk (Kd.S_lower ho4 (below_size (bB HB))); replace HB := Aside0.mk (below_step (bB HB) hb); clear hb ho4))
 go_loopg [5, 11] k (fun kq v5 v11 w' => ∃ (x5_1 : List (List Int)) (x11_1 : Int), v11 = .int .i64 x11_1 ∧ Aside0 (impl_traces.l0 kq l1 x5_1 l0 (l0.length : Int) x11_1 = some r) ∧ Aside0 (kq ≤ k) ∧ Aside0 (Kd.S (Kd.slice 3 (Kd.int .i64)) 32 w' w.heap.size (fun _ => True) v5 x5_1) ∧ Aside0 (Below w.heap.size w w'))
 case atStart => exact ⟨(y325), (0), rD, H', ⟨Nat.le_refl _⟩, ⟨pS HO327⟩, ⟨bB HB⟩⟩
 case round =>
  clear H'; try clear c1
  obtain ⟨x5_1, x11_1, rfl, HA, HK1, HO_5, HB⟩ := hrel; cases gk with
  | zero => exact absurd HA.out (by simp [impl_traces.l0])
  | succ k1 =>
   have H := HA.out; clear HA; simp only [impl_traces.l0] at H; by_cases c5 : x11_1 < (l0.length : Int)
   · rw [if_pos c5] at H; have c5b0 : decide (x11_1 < (l0.length : Int)) = true := decide_eq_true c5; clear c5; by_cases c6 : 0 ≤ x11_1
     · rw [if_pos c6] at H; have c6b0 : decide (0 ≤ x11_1) = true := decide_eq_true c6; clear c6; by_cases c7 : x11_1 < (l0.length : Int)
       · rw [if_pos c7] at H; have c7b0 : decide (x11_1 < (l0.length : Int)) = true := decide_eq_true c7; clear c7; replace H := Option.bind_eq_some_iff.mp H; obtain ⟨t329, A80, H⟩ := H; replace H : (if x5_1.length < 5864062014805 then (impl_traces.l0 k1 l1 (x5_1 ++ [t329]) l0 (l0.length : Int) (wrap64 (x11_1 + 1))) else (none)) = some r := H; have A8 := Aside0.mk A80; clear A80; by_cases c9 : x5_1.length < 5864062014805
         · rw [if_pos c9] at H; have LMc9 := Aside0.mk c9; clear c9; obtain ⟨y332, hy332⟩ : ∃ y_ : List (List Int), y_ = (x5_1 ++ [t329]) := ⟨_, rfl⟩; replace H : (impl_traces.l0 k1 l1 y332 l0 (l0.length : Int) (wrap64 (x11_1 + 1))) = some r := by first | (rw [hy332]; with_reducible exact H) | (have H2_ := (Option.bind_some _ _).symm.trans H; rw [hy332]; with_reducible exact H2_) | (have H2_ := (Option.bind_some _ _).symm.trans H; with_reducible exact H2_) | with_reducible exact H | (rw [hy332]; exact H) | exact H
           have Ny332 := Aside0.mk hy332; clear hy332; have H' := Aside0.mk H; clear H; have p328 : 0 ≤ (x11_1 : Int) := of_decide_eq_true aS; have q328 : x11_1 < (l0.length : Int) := of_decide_eq_true aS; obtain ⟨ad328, A328_0, c328_0, e328, hx328_0, hl328_0, hi328_0⟩ := at_L1 HR0.out x11_1 p328 q328; cases e328
           replace hx328_0 := (HB.out.cell (World.block_lt_of_cell? w _ hx328_0)).trans hx328_0; have HR328_0 := Aside0.mk hi328_0; have HC328_0 := Aside0.mk hl328_0; clear hi328_0 hl328_0; replace p328 := eq_true p328; replace q328 := eq_true q328; go_wp2_with (first | ((with_reducible refine gate_callee (f := 43) rfl ?_); refine goesL_ (some 18) rfl rfl Tryd.func43 (by kernel_rfl) rfl #[.slice A328_0 (rd_L1 l0 x11_1).length c328_0, .slice A1 l1.length c1] rfl aT ?_; (with_reducible refine (impl_at.calls k1 _ _ (rd_L1 l0 x11_1) _ _ l1 t329 _ ?side1 ?side2 ?side3 ?side4 A8.out).mono ?_); (case side1 => exact cB HR328_0 HB); (case side2 => exact HC328_0.out); (case side3 => exact cB HR1 HB); (case side4 => exact HC1.out); rintro e w10 ⟨v330, rfl, ho0, hb⟩; refine ⟨_, rfl, ?_⟩; have HO331 := Aside0.mk (Kd.R_lower ho0 (below_size (bB HB))); replace HO_5 := Aside0.mk (Kd.S_elder' (pS HO_5) (Kd.R_base ho0) hb); replace HB := Aside0.mk (below_step (bB HB) hb); (try clear hb); (try clear hb2); (try clear hk); (try clear hi); (try clear ho0); obtain ⟨Ao12, co12, eo12⟩ := Kd.R_slice HO331.out; subst eo12) | ((with_reducible refine gate_builtin (b := .append) (xs := #[.tmp 15, .tmp 19]) rfl ?_); at_builtin; refine Kd.S_append (Kd.slice 3 (Kd.int .i64)) (w0 := w) w.heap.size rfl (.tmp 15) (.tmp 19) 22 32 (.slice none 0 0) 24 rfl Tryd.underlying22 info32 rfl (by decide) (by omega) u5 x5_1 t329 [.slice Ao12 t329.length co12] (fun _ => True) (fun k_ => some k_ = (.slice Ao12 t329.length co12 : Value).ownBlock) rfl rfl ?aP (fun k_ hk_ => ((Kd.R_mono (ok' := fun k_ => ((fun _ => True)) k_ ∧ some k_ ≠ (u5 : Value).ownBlock) (Kd.R_apart' (HO331.out) (Kd.S_typed HO_5.out) (by decide)) (fun k_ hk => ⟨trivial, hk.2⟩))).1 k_ hk_.symm) ?aF ?aO ?aB ?aS ?aL ?_; (case aP => exact Kd.M_row (Kd.R_mono (Kd.R_tight rfl (Kd.R_mono (ok' := fun k_ => ((fun _ => True)) k_ ∧ some k_ ≠ (u5 : Value).ownBlock) (Kd.R_apart' (HO331.out) (Kd.S_typed HO_5.out) (by decide)) (fun k_ hk => ⟨trivial, hk.2⟩))) (fun _ h_ => h_))); (case aB => exact (bB HB)); (case aF => exact (fun _ _ => trivial)); (case aO => exact (by (with_reducible repeat (first | apply Kd.S_alloc | apply Kd.S_drewN | apply Kd.S_drew)); exact Kd.S_mono HO_5.out (fun k_ hk => ⟨trivial, fun e_ => hk.2 e_⟩))); (case aS => exact (below_size (bB HB))); (case aL => have := LMc9.out; omega); intro v333 w11 ho hb hg hat; rw [← Ny332.out] at ho; have HO334 := Aside0.mk (ho); replace HB := Aside0.mk (hb); clear HO_5 HO331; clear ho hb hg hat))
           go_roundg k1
           case measure => have := HK1.out; omega
           case rel => exact ⟨(y332), (wrap64 (x11_1 + 1)), rD, H', ⟨by have := HK1.out; omega⟩, ⟨pS HO334⟩, ⟨bB HB⟩⟩
         · rw [if_neg c9] at H; exact absurd H (by simp)
       · rw [if_neg c7] at H; exact absurd H (by simp)
     · rw [if_neg c6] at H; exact absurd H (by simp)
   · rw [if_neg c5] at H; have c5b0 : decide (x11_1 < (l0.length : Int)) = false := decide_eq_false c5; clear c5; obtain ⟨hok, rfl⟩ := impl_traces.res_ok H; clear H; have HOK := Aside0.mk hok; clear hok; go_wp2_with (fail)
     refine (impl_traces.sortCall k1 x5_1 HOK.out (pS HO_5) (bB HB)).mono ?_; rintro e w21 ⟨rfl, hs, hb⟩; clear HO_5 HB; have HO_5 := Aside0.mk hs; have HB := Aside0.mk hb; clear hs hb; go_wp2_with (fail)
     refine (impl_traces.compactCall k1 x5_1 HOK.out (pS HO_5) (bB HB)).mono ?_; rintro e w22 ⟨v22, rfl, hs, hb⟩; clear HO_5 HB; have HO_5 := Aside0.mk hs; have HB := Aside0.mk hb; clear hs hb; go_wp2; go_ret
     exact ⟨_, eW, pS HO_5, bB HB⟩


def impl_shatters.f (k : Nat) (l0 : List (List Int)) (l1 : List Int) : Option (Bool) := (impl_traces.f k l0 l1).bind fun t316 => (some ((t316.length : Int) == (shl .i64 1 (l1.length : Int))))
def impl_shatters.T1 : Bool × List (List Nat × List Nat) := (true, [([], []), ([], []), ([0, 1], [0, 1]), ([2], [2]), ([], []), ([4], [4]), ([5], [5]), ([3, 6], [3, 6]), ([7, 2, 0, 1, 2, 3, 4, 5, 6, 7], [7])])
def impl_shatters.B1 : List Nat := [0, 0, 3, 7, 0, 16, 48, 127, 255]
theorem impl_shatters.tab1 : rtab .any (opsOf Tryd.f21 1) = impl_shatters.T1 := by kernel_rfl
theorem impl_shatters.bits1 : waitsOk impl_shatters.T1.2 impl_shatters.B1 = true := by kernel_rfl
theorem impl_shatters.calls (k : Nat) (A0 : Option Addr) (c0 : Nat) (l0 : List (List Int)) (A1 : Option Addr) (c1 : Nat) (l1 : List Int) (r : Bool) (w : World) (hr0 : Kd.C (Kd.slice 3 (Kd.int .i64)) w A0 l0.length l0) (hc0 : l0.length ≤ c0) (hr1 : Kd.C (Kd.int .i64) w A1 l1.length l1) (hc1 : l1.length ≤ c1) (h : impl_shatters.f k l0 l1 = some r) :
 Calls Tryd.prog 21 #[.slice A0 l0.length c0, .slice A1 l1.length c1] w fun e w' => e = .returned (.bool r) ∧ Below w.heap.size w w' := by
 have HR0 := Aside0.mk hr0; have HC0 := Aside0.mk hc0; clear hr0 hc0; have HR1 := Aside0.mk hr1; have HC1 := Aside0.mk hc1; clear hr1 hc1; have HB := Aside0.mk (Below.refl w.heap.size w); have H : ((impl_traces.f k l0 l1).bind fun t316 => (some ((t316.length : Int) == (shl .i64 1 (l1.length : Int))))) = some r := h; clear h; replace H := Option.bind_eq_some_iff.mp H; obtain ⟨t316, A30, H⟩ := H; replace H : (some ((t316.length : Int) == (shl .i64 1 (l1.length : Int)))) = some r := H; have A3 := Aside0.mk A30; clear A30; obtain ⟨ji4, hji4⟩ : ∃ j_ : Int, (shl .i64 1 (l1.length : Int)) = j_ := ⟨_, rfl⟩; replace H : (some ((t316.length : Int) == (ji4))) = some r := by first | (rw [hji4] at H; exact H) | (simp only [hji4] at H ⊢; exact H)
 (try rw [hji4] at A3); have hji4_ : (IntKind.i64.wrap (1 * 2 ^ min (l1.length : Int).toNat 64)) = ji4 := hji4; have hji4z : (l1.length : Int) ≤ 64 → (IntKind.i64.wrap (1 * 2 ^ (l1.length : Int).toNat)) = ji4 := shl_small hji4; have hji4p : (IntKind.i64.wrap (1 * 2 ^ min l1.length 64)) = ji4 := hji4_; have hji4q : (l1.length : Int) ≤ 64 → (IntKind.i64.wrap (1 * 2 ^ l1.length)) = ji4 := hji4z; have hji4r : (IntKind.i64.wrap (2 ^ min l1.length 64)) = ji4 := by have h_ := hji4p; rw [Int.one_mul] at h_; exact h_
 have hji4s : (l1.length : Int) ≤ 64 → (IntKind.i64.wrap (2 ^ l1.length)) = ji4 := fun hle_ => by have h_ := hji4q hle_; rw [Int.one_mul] at h_; exact h_
 have hji4u : (IntKind.i64.wrap (2 ^ min (l1.length : Int).toNat 64)) = ji4 := by have h_ := hji4_; rw [Int.one_mul] at h_; exact h_
 have hji4v : (l1.length : Int) ≤ 64 → (IntKind.i64.wrap (2 ^ (l1.length : Int).toNat)) = ji4 := fun hle_ => by have h_ := hji4z hle_; rw [Int.one_mul] at h_; exact h_
 have hji4y : (wrap64 (1 * 2 ^ min (l1.length : Int).toNat 64)) = ji4 := (i64_w _).symm.trans hji4_; have hji4x : (l1.length : Int) ≤ 64 → (wrap64 (1 * 2 ^ (l1.length : Int).toNat)) = ji4 := fun h_ => (i64_w _).symm.trans (hji4z h_)
 obtain rfl := Option.some.inj H; go_enter Tryd.func21, Tryd.ntmps21; try go_wp2
 replace HB := Aside0.mk (below_drew1 HB.out); refine start_ (n := 9) (S := fun w' => True) (ds := []) #[false, false, false, false, false, false, false, false, false] (by kernel_rfl) rfl rfl trivial (fun hHeld => ?_); refine with_tabW impl_shatters.tab1 impl_shatters.bits1 (fun HT_ HW_ => ?_); generalize w.drew = w5 at HB hHeld ⊢; refine pure_ (i := 0) (N := some 5) (v := ?_) (a' := ?_) #[true, false, false, false, false, false, false, false, false] rfl rfl (any_of HT_.out (by kernel_rfl)) (fun _ _ _ h => h) (Or.inl ⟨by rfl, ?_⟩) ?_ ?_; rotate_left
 · intro w'; go_simp; with_reducible rfl
 rotate_left
 · exact aP
 refine pure_ (i := 1) (N := some 6) (v := ?_) (a' := ?_) #[true, true, false, false, false, false, false, false, false] rfl rfl (any_of HT_.out (by kernel_rfl)) (fun _ _ _ h => h) (Or.inl ⟨by rfl, ?_⟩) ?_ ?_; rotate_left
 · intro w'; go_simp; with_reducible rfl
 rotate_left
 · exact aP
 refine pure_ (i := 4) (N := some 9) (v := ?_) (a' := ?_) #[true, true, false, false, true, false, false, false, false] rfl rfl (any_of HT_.out (by kernel_rfl)) (fun _ _ _ h => h) (Or.inl ⟨by rfl, ?_⟩) ?_ ?_; rotate_left
 · intro w'; go_simp; with_reducible rfl
 rotate_left
 · exact aP
 refine pure_ (i := 5) (N := some 10) (v := ?_) (a' := ?_) #[true, true, false, false, true, true, false, false, false] rfl rfl (any_of HT_.out (by kernel_rfl)) (fun _ _ _ h => h) (Or.inl ⟨by rfl, ?_⟩) ?_ ?_; rotate_left
 · intro w'; go_simp; with_reducible rfl
 rotate_left
 · exact aP
 refine pure_ (i := 6) (N := some 11) (v := ?_) (a' := ?_) #[true, true, false, false, true, true, true, false, false] rfl rfl (any_of HT_.out (by kernel_rfl)) (fun _ _ _ h => h) (Or.inl ⟨by rfl, ?_⟩) ?_ ?_; rotate_left
 · intro w'; go_simp; with_reducible rfl
 rotate_left
 · exact aP
 refine one_ (i := 2) (N := some 7) #[true, true, true, false, true, true, true, false, false] rfl rfl (one_of HT_.out (by kernel_rfl)) (by decide) (fun K hK => ?_); refine goes_ Tryd.func35 (by kernel_rfl) rfl #[.slice A0 l0.length c0, .slice A1 l1.length c1] (by rfl) rfl rfl aT ?_; with_reducible refine (impl_traces.calls k _ _ l0 _ _ l1 t316 _ ?side1 ?side2 ?side3 ?side4 A3.out).mono ?_
 (case side1 => exact cB HR0 HB); (case side2 => exact HC0.out); (case side3 => exact cB HR1 HB); (case side4 => exact HC1.out); rintro e w6 ⟨v317, rfl, ho0, hb⟩; refine ⟨_, rfl, ?_⟩; have HO318 := Aside0.mk (Kd.S_lower ho0 (below_size (bB HB))); replace HB := Aside0.mk (below_step (bB HB) hb); (try clear hb); (try clear hb2); (try clear hk); (try clear hi); (try clear ho0); obtain ⟨Ao7, co7, eo7⟩ := Kd.S_slice HO318.out; (first | subst eo7 | (injection eo7 with f1_ f2_ f3_; have f4_ := f1_.symm; have f5_ := f3_.symm; clear f1_ f2_ f3_; subst f4_; subst f5_)); refine hK.out _ _ trivial (fun hHeld => ?_); clear hK K; refine norm_ (a' := ?_) ?_ ?_; rotate_left
 · show Act.put _ (some 7) _ = _
   simp only [Act.put, List.setIfInBounds_toArray, List.set_cons_zero, List.set_cons_succ, i64_w, i32_w]; rfl
 refine pure_ (i := 3) (N := some 8) (v := ?_) (a' := ?_) #[true, true, true, true, true, true, true, false, false] rfl rfl (any_of HT_.out (by kernel_rfl)) (fun _ _ _ h => h) (Or.inl ⟨by rfl, ?_⟩) ?_ ?_; rotate_left
 · intro w'; go_simp; with_reducible rfl
 rotate_left
 · exact aP
 refine pure_ (i := 7) (N := some 12) (v := ?_) (a' := ?_) #[true, true, true, true, true, true, true, true, false] rfl rfl (any_of HT_.out (by kernel_rfl)) (fun _ _ _ h => h) (Or.inl ⟨by rfl, ?_⟩) ?_ ?_; rotate_left
 · intro w'; go_simp; with_reducible rfl
 rotate_left
 · exact aP
 refine pure_ (i := 8) (N := some 4) (v := ?_) (a' := ?_) #[true, true, true, true, true, true, true, true, true] rfl rfl (any_of HT_.out (by kernel_rfl)) (fun _ _ _ h => h) (Or.inl ⟨by rfl, ?_⟩) ?_ ?_; rotate_left
 · intro w'; go_simp; with_reducible rfl
 rotate_left
 · exact aP
 refine done_ (done_of HT_.out (by kernel_rfl)) ?_; try go_wp2
 go_ret
 exact ⟨by first | rfl | (simp [errW_none, errW_some] <;> rfl) | (simp only [← hji4]; first | rfl | (simp [errW_none, errW_some] <;> rfl)) | (simp [*, errW_none, errW_some] <;> rfl), bB HB⟩

def impl_compareSets.f (k : Nat) (l0 : List Int) (l1 : List Int) : Option (Int) := if (l0.length : Int) = (l1.length : Int) then ((slices_Compare_int_int.f k l0 l1).bind fun t319 => (some t319)) else (some (wrap64 ((l0.length : Int) - (l1.length : Int))))
theorem impl_compareSets.calls (k : Nat) (A0 : Option Addr) (c0 : Nat) (l0 : List Int) (A1 : Option Addr) (c1 : Nat) (l1 : List Int) (r : Int) (w : World) (hr0 : Kd.C (Kd.int .i64) w A0 l0.length l0) (hc0 : l0.length ≤ c0) (hr1 : Kd.C (Kd.int .i64) w A1 l1.length l1) (hc1 : l1.length ≤ c1) (h : impl_compareSets.f k l0 l1 = some r) :
 Calls Tryd.prog 23 #[.slice A0 l0.length c0, .slice A1 l1.length c1] w fun e w' => e = .returned (.int .i64 r) ∧ Drawn0 w w' := by
 have HR0 := Aside0.mk hr0; have HC0 := Aside0.mk hc0; clear hr0 hc0; have HR1 := Aside0.mk hr1; have HC1 := Aside0.mk hc1; clear hr1 hc1; have H : (if (l0.length : Int) = (l1.length : Int) then ((slices_Compare_int_int.f k l0 l1).bind fun t319 => (some t319)) else (some (wrap64 ((l0.length : Int) - (l1.length : Int))))) = some r := h; clear h; by_cases c3 : (l0.length : Int) = (l1.length : Int)
 · rw [if_pos c3] at H; have c3b0 : ((l0.length : Int) == (l1.length : Int)) = true := beq_iff_eq.mpr c3; have c3b1 : ((l0.length : Int) != (l1.length : Int)) = false := bne_eq_false_iff_eq.mpr c3; have c3b2 : (l0.length == l1.length) = true := by first | simpa using c3 | (simp at c3 ⊢; omega)
   clear c3; replace H := Option.bind_eq_some_iff.mp H; obtain ⟨t319, A40, H⟩ := H; replace H : (some t319) = some r := H; have A4 := Aside0.mk A40; clear A40; obtain rfl := Option.some.inj H; go_enter Tryd.func23, Tryd.ntmps23; go_wp2_with (first | ((with_reducible refine gate_callee (f := 33) rfl ?_); refine goesL_ (some 17) rfl rfl Tryd.func33 (by kernel_rfl) rfl #[.slice A0 l0.length c0, .slice A1 l1.length c1] rfl aT ?_; (with_reducible refine (slices_Compare_int_int.calls k _ _ l0 _ _ l1 t319 _ ?side1 ?side2 ?side3 ?side4 A4.out).mono ?_); (case side1 => exact cC HR0); (case side2 => exact HC0.out); (case side3 => exact cC HR1); (case side4 => exact HC1.out); rintro e w' ⟨rfl, ⟨nd, rfl⟩⟩; refine ⟨_, rfl, ?_⟩))
   go_ret
   exact ⟨rD, by repeat (first | exact Drawn0.refl _ | apply Drawn0.step)⟩
 · rw [if_neg c3] at H; have c3b0 : ((l0.length : Int) == (l1.length : Int)) = false := beq_eq_false_iff_ne.mpr c3; have c3b1 : ((l0.length : Int) != (l1.length : Int)) = true := bne_iff_ne.mpr c3; have c3b2 : (l0.length == l1.length) = false := by first | simpa using c3 | (simp at c3 ⊢; omega)
   obtain rfl := Option.some.inj H; go_enter Tryd.func23, Tryd.ntmps23; go_wp2; go_ret
   exact ⟨rD, by repeat (first | exact Drawn0.refl _ | apply Drawn0.step)⟩

end Go.Proofs.YtfkfahdikmfpeaaDoor.PFnExactVapnikNumber
