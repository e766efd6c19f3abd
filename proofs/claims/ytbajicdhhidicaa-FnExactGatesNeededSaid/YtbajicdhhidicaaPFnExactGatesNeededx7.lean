-- Printed by wip/tools/myprint.py (the printer of the kit, patched by that program; roots chosen by it)
import Derived.Test.YtbajicdhhidicaaSm
import Derived.Test.YtbajicdhhidicaaCl
import Derived.Test.YtbajicdhhidicaaPFnExactGatesNeededx0
import Derived.Test.YtbajicdhhidicaaPFnExactGatesNeededx6
import Derived.Test.YtbajicdhhidicaaSh
namespace Go.Proofs.Ytbajicdhhidicaa.PFnExactGatesNeeded
open Go.RowKit Go.Proofs.Ytbajicdhhidicaa.Sh Go.Proofs.YtbajicdhhidicaaW.PrintWords Go.Proofs.YtbajicdhhidicaaW.PrintLast Go.Proofs.YtbajicdhhidicaaW.PrintMore
attribute [local go_sem] max2_int min2_int max_two min_two max_three min_three max_four min_four   -- for this text's walks alone
set_option linter.unusedVariables false
set_option linter.unusedSimpArgs false

/-! ### impl_productsOf: function 55 -/
def impl_productsOf.l0 : Nat → Int → List Int → List Int → Int → Int → Option (List Int)
 | 0, _, _, _, _, _ => none
 | k + 1, x0, x1, x5, x9, x10 => if x10 < x9 then ((impl_bitPoint.f k x0 x10).bind fun t219 => ((impl_product.f k x1 t219).bind fun t222 => (if x5.length < 17592186044416 then (impl_productsOf.l0 k x0 x1 (x5 ++ [t222]) x9 (wrap64 (x10 + 1))) else (none)))) else (some x5)
def impl_productsOf.f (k : Nat) (a0 : Int) (l1 : List Int) : Option (List Int) := if 0 ≤ a0 then (impl_productsOf.l0 k a0 l1 (([] : List Int)) (shl .i64 1 a0) 0) else (none)
set_option maxHeartbeats 8000000 in
set_option maxRecDepth 100000 in
theorem impl_productsOf.calls (k : Nat) (a0 : Int) (A1 : Option Addr) (c1 : Nat) (l1 : List Int) (r : List Int) (w : World) (hr1 : Kd.C (Kd.int .i64) w A1 l1.length l1) (hc1 : l1.length ≤ c1) (h : impl_productsOf.f k a0 l1 = some r) :
 Calls Try.prog 55 #[.int .i64 a0, .slice A1 l1.length c1] w fun e w' => ∃ v0_ : Value, e = .returned (v0_) ∧ Kd.R (Kd.int .i64) 3 w' w.heap.size (fun _ => True) v0_ r ∧ Below w.heap.size w w' := by
 have HR1 := Aside0.mk hr1
 have HC1 := Aside0.mk hc1
 clear hr1 hc1
 have HB := Aside0.mk (Below.refl w.heap.size w)
 have H : (if 0 ≤ a0 then (impl_productsOf.l0 k a0 l1 (([] : List Int)) (shl .i64 1 a0) 0) else (none)) = some r := h
 clear h
 obtain ⟨y216, hy216⟩ : ∃ y_ : List Int, y_ = (([] : List Int)) := ⟨_, rfl⟩
 replace H : (if 0 ≤ a0 then (impl_productsOf.l0 k a0 l1 y216 (shl .i64 1 a0) 0) else (none)) = some r := by first | (rw [hy216]; with_reducible exact H) | (have H2_ := (Option.bind_some _ _).symm.trans H; rw [hy216]; with_reducible exact H2_) | (have H2_ := (Option.bind_some _ _).symm.trans H; with_reducible exact H2_) | with_reducible exact H | (rw [hy216]; exact H) | exact H
 have Ny216 := Aside0.mk hy216
 clear hy216
 by_cases c3 : 0 ≤ a0
 · rw [if_pos c3] at H
   have c3b0 := eq_true c3
   have c3b1 : decide (0 ≤ a0) = true := decide_eq_true c3
   clear c3
   obtain ⟨ji4, hji4⟩ : ∃ j_ : Int, (shl .i64 1 a0) = j_ := ⟨_, rfl⟩
   replace H : (impl_productsOf.l0 k a0 l1 y216 ji4 0) = some r := by first | (rw [hji4] at H; exact H) | (simp only [hji4] at H ⊢; exact H)
   have hji4_ : (IntKind.i64.wrap (1 * 2 ^ min a0.toNat 64)) = ji4 := hji4
   have hji4z : a0 ≤ 64 → (IntKind.i64.wrap (1 * 2 ^ a0.toNat)) = ji4 := shl_small hji4
   have hji4u : (IntKind.i64.wrap (2 ^ min a0.toNat 64)) = ji4 := by have h_ := hji4_; rw [Int.one_mul] at h_; exact h_
   have hji4v : a0 ≤ 64 → (IntKind.i64.wrap (2 ^ a0.toNat)) = ji4 := fun hle_ => by have h_ := hji4z hle_; rw [Int.one_mul] at h_; exact h_
   have hji4y : (wrap64 (1 * 2 ^ min a0.toNat 64)) = ji4 := (i64_w _).symm.trans hji4_
   have hji4x : a0 ≤ 64 → (wrap64 (1 * 2 ^ a0.toNat)) = ji4 := fun h_ => (i64_w _).symm.trans (hji4z h_)
   have H' := Aside0.mk H
   clear H
   go_enter Try.func55, Try.ntmps55
   go_wp2_with (first | ((with_reducible refine gate_dst (N := 7) rfl ?_); refine Kd.R_lit (Kd.int .i64) _ 3 ?hg (N := 7) ?hd (xs := ([] : List Int)) (inner := []) (ok := fun _ => True) (okp := fun _ => True) ?hr ?hp (fun _ hk => hk) trivial (Below.refl _ _) (Nat.le_refl _) (by simp) ?_; (case hd => rfl); (case hg => rfl); (case hr => first | (go_simp; done) | (go_simp; rfl)); (case hp => exact (Reps.none _ _)); intro v217 w5 ho6 hb hg_ hnew_; clear hg_ hnew_; (first | rw [← Ny216.out] at ho6 | (simp only [Int.reduceToNat] at ho6; rw [← Ny216.out] at ho6)); have n0_ := Aside0.mk (Kd.R_lower ho6 (below_size (bB HB))); have n1_ := Aside0.mk (below_step (bB HB) hb); clear HB; have HO218 := n0_; have HB := n1_; clear n0_ n1_; clear hb ho6))
   go_loopg [5, 10] k (fun kq v5 v10 w' => ∃ (x5_1 : List Int) (x10_1 : Int), v10 = .int .i64 x10_1 ∧ Aside0 (impl_productsOf.l0 kq a0 l1 x5_1 ji4 x10_1 = some r) ∧ Aside0 (kq ≤ k) ∧ Aside0 (Kd.R (Kd.int .i64) 3 w' w.heap.size (fun _ => True) v5 x5_1) ∧ Aside0 (Below w.heap.size w w'))
   case atStart => exact ⟨(y216), (0), rD, H', ⟨Nat.le_refl _⟩, ⟨pR HO218⟩, ⟨bB HB⟩⟩
   case round =>
    clear H'
    try clear c1
    try clear c3
    try clear c3b0
    try clear c3b1
    obtain ⟨x5_1, x10_1, rfl, HA, HK1, HO_5, HB⟩ := hrel
    cases gk with
    | zero => exact absurd HA.out (by simp [impl_productsOf.l0])
    | succ k1 =>
     have H := HA.out
     clear HA
     simp only [impl_productsOf.l0] at H
     by_cases c7 : x10_1 < ji4
     · rw [if_pos c7] at H
       have c7b0 : decide (x10_1 < ji4) = true := decide_eq_true c7
       clear c7
       replace H := Option.bind_eq_some_iff.mp H
       obtain ⟨t219, A80, H⟩ := H
       replace H : ((impl_product.f k1 l1 t219).bind fun t222 => (if x5_1.length < 17592186044416 then (impl_productsOf.l0 k1 a0 l1 (x5_1 ++ [t222]) ji4 (wrap64 (x10_1 + 1))) else (none))) = some r := H
       have A8 := Aside0.mk A80
       clear A80
       replace H := Option.bind_eq_some_iff.mp H
       obtain ⟨t222, A90, H⟩ := H
       replace H : (if x5_1.length < 17592186044416 then (impl_productsOf.l0 k1 a0 l1 (x5_1 ++ [t222]) ji4 (wrap64 (x10_1 + 1))) else (none)) = some r := H
       have A9 := Aside0.mk A90
       clear A90
       by_cases c10 : x5_1.length < 17592186044416
       · rw [if_pos c10] at H
         have LMc10 := Aside0.mk c10
         clear c10
         obtain ⟨y223, hy223⟩ : ∃ y_ : List Int, y_ = (x5_1 ++ [t222]) := ⟨_, rfl⟩
         replace H : (impl_productsOf.l0 k1 a0 l1 y223 ji4 (wrap64 (x10_1 + 1))) = some r := by first | (rw [hy223]; with_reducible exact H) | (have H2_ := (Option.bind_some _ _).symm.trans H; rw [hy223]; with_reducible exact H2_) | (have H2_ := (Option.bind_some _ _).symm.trans H; with_reducible exact H2_) | with_reducible exact H | (rw [hy223]; exact H) | exact H
         have Ny223 := Aside0.mk hy223
         clear hy223
         have H' := Aside0.mk H
         clear H
         go_wp2_with (first | ((with_reducible refine gate_callee (f := 62) rfl ?_); refine goesL_ (some 17) rfl rfl Try.func62 (by kernel_rfl) rfl #[.int .i64 a0, .int .i64 x10_1] rfl aT ?_; (with_reducible refine (impl_bitPoint.calls k1 a0 x10_1 t219 _ A8.out).mono ?_); rintro e w11 ⟨v220, rfl, ho0, hb⟩; refine ⟨_, rfl, ?_⟩; have n0_ := Aside0.mk (Kd.R_elder' (pR HO_5) (Kd.R_base ho0) hb); have n1_ := Aside0.mk (Kd.R_lower (Kd.R_new' ho0 (Kd.R_lt (pR HO_5))) (below_size (bB HB))); have n2_ := Aside0.mk (below_step (bB HB) hb); clear HO_5; clear HB; have HO_5 := n0_; have HO221 := n1_; have HB := n2_; clear n0_ n1_ n2_; (try clear hb); (try clear hb2); (try clear hk); (try clear hi); (try clear ho0); obtain ⟨Ao12, co12, eo12⟩ := Kd.R_slice HO221.out; subst eo12) | ((with_reducible refine gate_callee (f := 61) rfl ?_); refine goesL_ (some 18) rfl rfl Try.func61 (by kernel_rfl) rfl #[.slice A1 l1.length c1, .slice Ao12 t219.length co12] rfl aT ?_; (with_reducible refine (impl_product.calls k1 _ _ l1 _ _ t219 t222 _ ?side1 ?side2 ?side3 ?side4 A9.out).mono ?_); (case side1 => exact cB HR1 HB); (case side2 => exact HC1.out); (case side3 => exact cR HO221); (case side4 => exact (Kd.R_reads' HO221.out).2.1); rintro e w' ⟨rfl, ⟨nd, rfl⟩⟩; refine ⟨_, rfl, ?_⟩) | ((with_reducible refine gate_builtin (b := .append) (xs := #[.tmp 13, .tmp 19]) rfl ?_); at_builtin; refine Kd.R_append (Kd.int .i64) (w0 := w) w.heap.size rfl (.tmp 13) (.tmp 19) 22 3 (.int .i64 0) 8 rfl Try.underlying22 info3 rfl (by decide) (by omega) u5 x5_1 t222 [.int .i64 t222] (fun k_ => some k_ ≠ (.slice Ao12 t219.length co12 : Value).ownBlock) (fun _ => False) rfl rfl ?aP (fun _ hk => hk.elim) ?aF ?aO ?aB ?aS ?aL ?_; (case aP => exact rfl); (case aB => exact (bB HB)); (case aF => exact (fun k_ hk => Kd.fresh' (Kd.R_lt (pR HO221)) k_ hk)); (case aO => exact (by (with_reducible repeat (first | apply Kd.R_alloc | apply Kd.R_drewN | apply Kd.R_drew)); exact Kd.R_mono HO_5.out (fun _ hk => hk.2))); (case aS => exact (below_size (bB HB))); (case aL => have := LMc10.out; omega); intro v224 w13 ho hb hg hat; rw [← Ny223.out] at ho; have n0_ := Aside0.mk (Kd.R_after (ok := (fun _ => True)) (pR HO221) hg hat); have n1_ := Aside0.mk (hb); have n2_ := Aside0.mk (ho); clear HO221; clear HB; clear HO_5; have HO221 := n0_; have HB := n1_; have HO225 := n2_; clear n0_ n1_ n2_; clear ho hb hg hat))
         go_roundg k1
         case measure => have := HK1.out; omega
         case rel => exact ⟨(y223), (wrap64 (x10_1 + 1)), rD, H', ⟨by have := HK1.out; omega⟩, ⟨by (with_reducible repeat (first | apply Kd.R_alloc | apply Kd.R_drewN | apply Kd.R_drew)); exact Kd.R_mono HO225.out (fun _ hk => trivial)⟩, ⟨bB HB⟩⟩
       · rw [if_neg c10] at H
         exact absurd H (by simp)
     · rw [if_neg c7] at H
       have c7b0 : decide (x10_1 < ji4) = false := decide_eq_false c7
       clear c7
       obtain rfl := Option.some.inj H
       go_wp2
       go_ret
       exact ⟨_, by first | rfl | (simp [errW_none, errW_some] <;> rfl) | (simp only [← hji4]; first | rfl | (simp [errW_none, errW_some] <;> rfl)) | (simp [*, errW_none, errW_some] <;> rfl), by (with_reducible repeat (first | apply Kd.R_alloc | apply Kd.R_drewN | apply Kd.R_drew)); exact HO_5.out, bB HB⟩
 · rw [if_neg c3] at H
   exact absurd H (by simp)

/-! ### impl_leastPlane: function 40 -/
def impl_leastPlane.sum (x : List Int) : Int := x.foldl (fun s m => wrap64 (s + mx m (wrap64 (-m)))) 0
def impl_leastPlane.step (k : Nat) (n : Int) (T x : List Int) (s : List Int × Int × Int) : Option (List Int × Int × Int) := if x.length < 1000 then (if impl_leastPlane.sum x ≥ s.2.2 then some s else (impl_productsOf.f k n x).bind fun ps => (impl_gap.f k T ps).bind fun q => if q.1 ≤ q.2 then some s else (if q.1 = 1000000000 then some (x, wrap64 (q.2 + 1), impl_leastPlane.sum x) else some (x, q.1, impl_leastPlane.sum x))) else none
def impl_leastPlane.f (k : Nat) (a0 : Int) (l1 : List Int) : Option (List Int × Int × Int × Bool) := (Go.Proofs.Ytbajicdhhidicaa.Sm.impl_smallWeights.f (impl_leastPlane.step k a0 l1) k a0 3 ([], 0, 1000000000)).bind fun s => some (s.1, s.2.1, s.2.2, decide (s.2.2 < 1000000000))
theorem impl_leastPlane.cop {l : List Int} (h : l.length < 1000) : impl_copied.f l = some l := by
 have : ([] : List Int).length + l.length < 17592186044416 := by simp; omega
 simp only [impl_copied.f, Option.bind_some, if_pos this, List.nil_append]
theorem impl_leastPlane.newR {w w1 w00 : World} {v : Value} {xs : List Int} {gS gB : Nat} {A : Option Addr} (h : Kd.R (Kd.int .i64) 3 w1 w.heap.size (fun _ => True) v xs) (hs : w00.heap.size ≤ w.heap.size) (h1 : gS < w.heap.size) (h2 : gB < w.heap.size) (h3 : ∀ ad : Addr, A = some ad → ad.block < w.heap.size) : Kd.R (Kd.int .i64) 3 w1 w00.heap.size (fun q => (q ≠ gS ∧ q ≠ gB) ∧ ∀ ad : Addr, A = some ad → q ≠ ad.block) v xs :=
 Kd.R_lower (Kd.R_mono (Kd.R_bound h) (fun q hq => ⟨⟨by have := hq.2.1; omega, by have := hq.2.1; omega⟩, fun ad he => by have := h3 ad he; have := hq.2.1; omega⟩)) hs
def impl_leastPlane.Inv (gS gT gN gB : Nat) (w00 w : World) (AT : Option Addr) (cT : Nat) (T : List Int) (n : Int) (s : List Int × Int × Int) (A : Option Addr) (w1 : World) : Prop :=
 (∀ ad : Addr, A = some ad → w.heap.size ≤ ad.block) ∧ w1.heap[gS]? = some (.cells #[.int .i64 s.2.2] 3 (0, 0)) ∧ w1.heap[gT]? = some (.cells #[.slice AT T.length cT] 22 (0, 0)) ∧ w1.heap[gN]? = some (.cells #[.int .i64 n] 3 (0, 0)) ∧
  ∃ Ab cb, w1.heap[gB]? = some (.cells #[.slice Ab s.1.length cb, .int .i64 s.2.1] 52 (0, 0)) ∧ Kd.R (Kd.int .i64) 3 w1 w00.heap.size (fun q => (q ≠ gS ∧ q ≠ gB) ∧ ∀ ad : Addr, A = some ad → q ≠ ad.block) (.slice Ab s.1.length cb) s.1
set_option maxHeartbeats 8000000 in
set_option maxRecDepth 100000 in
theorem impl_leastPlane.vis (k : Nat) (n : Int) (AT : Option Addr) (cT : Nat) (T : List Int) (gS gT gN gB : Nat) (w00 w : World) (hT : Kd.C (Kd.int .i64) w00 AT T.length T) (hcT : T.length ≤ cT) (hge : w00.heap.size ≤ gS ∧ w00.heap.size ≤ gB) (hne : gT ≠ gS ∧ gT ≠ gB ∧ gN ≠ gS ∧ gN ≠ gB ∧ gS ≠ gB)
 (x : List Int) (s s' : List Int × Int × Int) (A : Option Addr) (c : Nat) (w1 : World) (hI : impl_leastPlane.Inv gS gT gN gB w00 w AT cT T n s A w1) (hA : ∀ ad : Addr, A = some ad → w.heap.size ≤ ad.block ∧ ad.block < w1.heap.size) (hf : impl_leastPlane.step k n T x s = some s') (hb00 : Below w00.heap.size w00 w1) (hx : ∀ W', Kept w1 W' (fun q => q = gS ∨ q = gB) → Kd.C (Kd.int .i64) W' A x.length x) (hc : x.length ≤ c) :
 Calls Try.prog 53 (#[.slice A x.length c] ++ #[.pointer (some ⟨gS, 0, none⟩), .pointer (some ⟨gT, 0, none⟩), .pointer (some ⟨gN, 0, none⟩), .pointer (some ⟨gB, 0, none⟩)]) w1 fun e w' => e = .returned (.tuple #[]) ∧ impl_leastPlane.Inv gS gT gN gB w00 w AT cT T n s' A w' ∧ Below w00.heap.size w00 w' ∧ Kept w1 w' (fun q => q = gS ∨ q = gB) := by
 obtain ⟨sb, sd, sz⟩ := s
 obtain ⟨hI1, hIS, hIT, hIN, Ab, cb, hIB, hIR⟩ := hI
 simp only [impl_leastPlane.step] at hf
 have HF := Aside0.mk hf
 have HI1 := Aside0.mk hI1
 have BS := Aside0.mk (show w1.heap[gS]? = some (.cells #[.int .i64 sz] 3 (0, 0)) from hIS)
 have BT := Aside0.mk hIT
 have BN := Aside0.mk hIN
 have BB := Aside0.mk (show w1.heap[gB]? = some (.cells #[.slice Ab sb.length cb, .int .i64 sd] 52 (0, 0)) from hIB)
 have HV := Aside0.mk (show Kd.R (Kd.int .i64) 3 w1 w00.heap.size (fun q => (q ≠ gS ∧ q ≠ gB) ∧ ∀ ad : Addr, A = some ad → q ≠ ad.block) (.slice Ab sb.length cb) sb from hIR)
 have HB := Aside0.mk hb00
 have HKW := Aside0.mk (Kept.refl w1 (fun q => q = gS ∨ q = gB))
 have HX := Aside0.mk hx
 have HC := Aside0.mk hc
 have HT := Aside0.mk hT
 have HCT := Aside0.mk hcT
 have HGE := Aside0.mk hge
 have HNE := Aside0.mk hne
 have HAD := Aside0.mk hA
 clear hf hI1 hIS hIT hIN hIB hIR hb00 hx hc hT hcT hge hne hA
 refine calls_of_args (args' := #[.slice A x.length c, .pointer (some ⟨gS, 0, none⟩), .pointer (some ⟨gT, 0, none⟩), .pointer (some ⟨gN, 0, none⟩), .pointer (some ⟨gB, 0, none⟩)]) (by rfl) ?_
 go_enter Try.func53, Try.ntmps53
 go_wp2
 go_loopg [6, 13] (x.length + 1) (fun kq v6 v13 w' => ∃ (i : Nat) (z sm : Int), v6 = .int .i64 sm ∧ v13 = .int .i64 z ∧ Aside0 (x.length - i < kq) ∧ Aside0 (kq ≤ x.length + 1) ∧ Aside0 (i ≤ x.length ∧ z = (i : Int)) ∧ Aside0 ((x.drop i).foldl (fun s m => wrap64 (s + mx m (wrap64 (-m)))) sm = impl_leastPlane.sum x) ∧ w1 = w')
 case atStart => exact ⟨0, 0, 0, rfl, rfl, ⟨by omega⟩, ⟨Nat.le_refl _⟩, ⟨Nat.zero_le _, rfl⟩, ⟨rfl⟩, rfl⟩
 case round =>
  obtain ⟨i, z, sm, rfl, rfl, HMK, HK1, HI, HS, hww⟩ := hrel
  subst hww
  cases gk with
  | zero => exact absurd HMK.out (by omega)
  | succ k1 =>
   by_cases hi : i < x.length
   · have c0 : decide (z < (x.length : Int)) = true := decide_eq_true (by have := HI.out.2; omega)
     have p0 : 0 ≤ z := by have := HI.out.2; omega
     have q0 : z < (x.length : Int) := by have := HI.out.2; omega
     have hrd : rd x z = x[i] := by have := HI.out.2; subst this; simp [rd, List.getElem?_eq_getElem hi]
     have hdr : x.drop i = x[i] :: x.drop (i + 1) := List.drop_eq_getElem_cons hi
     have HS2 := Aside0.mk (show (x.drop (i + 1)).foldl (fun s m => wrap64 (s + mx m (wrap64 (-m)))) (wrap64 (sm + mx (rd x z) (wrap64 (-(rd x z))))) = impl_leastPlane.sum x from by have h_ := HS.out; rw [hdr, List.foldl_cons] at h_; rw [hrd]; exact h_)
     obtain ⟨ad, ea, hx0⟩ := Kd.at_int (HX.out w1 (Kept.refl _ _)) z p0 q0
     subst ea
     have HW := Aside0.mk (by have := HI.out.2; have := (Kd.C_max (HX.out w1 (Kept.refl _ _))); unfold wrap64; omega : wrap64 (z + 1) = ((i + 1 : Nat) : Int))
     obtain ⟨ji, hji⟩ : ∃ j_ : Int, (mx (rd x z) (wrap64 (-(rd x z)))) = j_ := ⟨_, rfl⟩
     have hji_ : (if (rd x z) < (wrap64 (-(rd x z))) then (wrap64 (-(rd x z))) else (rd x z)) = ji := hji
     have HS3 := Aside0.mk (show (x.drop (i + 1)).foldl (fun s m => wrap64 (s + mx m (wrap64 (-m)))) (wrap64 (sm + ji)) = impl_leastPlane.sum x from by rw [← hji]; exact HS2.out)
     replace p0 := eq_true p0
     replace q0 := eq_true q0
     clear hrd hdr HS HS2
     go_wp2
     go_roundg k1
     case measure => have := HK1.out; omega
     case rel => exact ⟨i + 1, wrap64 (z + 1), wrap64 (sm + ji), rfl, rfl, ⟨by have := HMK.out; omega⟩, ⟨by have := HK1.out; omega⟩, ⟨by omega, HW.out⟩, HS3, rfl⟩
   · have c0 : decide (z < (x.length : Int)) = false := decide_eq_false (by have := HI.out.2; omega)
     have hsm : sm = impl_leastPlane.sum x := by have h_ := HS.out; rw [List.drop_eq_nil_of_le (by omega)] at h_; exact h_
     subst hsm
     clear HS HI HMK hi
     have hf := HF.out
     clear HF
     have hcz : w1.cell? ⟨gS, 0, none⟩ = some (.int .i64 sz) := (blk_cell BS.out 0).trans rfl
     by_cases c1 : x.length < 1000
     · rw [if_pos c1] at hf
       have HCOP := Aside0.mk (impl_leastPlane.cop c1)
       clear c1
       by_cases c2 : impl_leastPlane.sum x ≥ sz
       · rw [if_pos c2] at hf
         obtain rfl := Option.some.inj hf
         have c2b : decide (sz ≤ impl_leastPlane.sum x) = true := decide_eq_true c2
         go_wp2
         first | go_end0 | ((try simp only [Exit.inBlock, Exit.then]); refine bodyPost_ret (results_none rfl _ _ _) rfl ?_)
         exact ⟨rfl, ⟨HI1.out, BS.out, BT.out, BN.out, Ab, cb, BB.out, HV.out⟩, HB.out, HKW.out⟩
       · rw [if_neg c2] at hf
         have c2b : decide (sz ≤ impl_leastPlane.sum x) = false := decide_eq_false c2
         obtain ⟨ps, hps, hf⟩ := Option.bind_eq_some_iff.mp hf
         obtain ⟨⟨o, t⟩, hga, hf⟩ := Option.bind_eq_some_iff.mp hf
         have HPS := Aside0.mk hps
         have HGA := Aside0.mk hga
         clear c2 hps hga
         simp only at hf
         go_wp2
         clear hcz
         by_cases c3 : o ≤ t
         · rw [if_pos c3] at hf
           obtain rfl := Option.some.inj hf
           have c3b : decide (o ≤ t) = true := decide_eq_true c3
           refine start_ (n := 10) (S := fun w' => w'.cell? ⟨gT, 0, none⟩ = some (.slice AT T.length cT) ∧ w'.cell? ⟨gN, 0, none⟩ = some (.int .i64 n)) (ds := []) #[false, false, false, false, false, false, false, false, false, false] (by kernel_rfl) rfl rfl ⟨(blk_cell BT.out 0).trans rfl, (blk_cell BN.out 0).trans rfl⟩ (fun hHeld => ?_)
           have hd := below_drew (Below.refl w1.heap.size w1)
           have n0_ := Aside0.mk (blk_below BS.out hd)
           have n1_ := Aside0.mk (blk_below BT.out hd)
           have n2_ := Aside0.mk (blk_below BN.out hd)
           have n3_ := Aside0.mk (blk_below BB.out hd)
           have n4_ := Aside0.mk (Kd.R_below HV.out hd)
           have n5_ := Aside0.mk (below_step HB.out hd)
           have n6_ := Aside0.mk (HKW.out.below hd)
           clear BS BT BN BB HV HB HKW
           have BS := n0_
           have BT := n1_
           have BN := n2_
           have BB := n3_
           have HV := n4_
           have HB := n5_
           have HKW := n6_
           clear n0_ n1_ n2_ n3_ n4_ n5_ n6_
           clear hd
           generalize w1.drew = w13 at BS BT BN BB HV HB HKW hHeld ⊢
           refine pure_ (i := 2) (N := some 30) (v := ?_) (a' := ?_) #[false, false, true, false, false, false, false, false, false, false] rfl rfl (by kernel_rfl) (fun _ _ _ h => h) (Or.inl ⟨by rfl, ?_⟩) ?_ ?_
           rotate_left
           · intro w'
             go_simp
             with_reducible rfl
           rotate_left
           · exact aP
           refine take_ (i := 0) (N := some 28) (v := ?_) (a' := ?_) #[true, false, true, false, false, false, false, false, false, false] rfl rfl (by kernel_rfl) (fun _ _ _ h => h) (Or.inl ⟨by rfl, ?_⟩) hHeld ?_ ?_
           rotate_left
           · rintro w' ⟨s0, s1⟩
             go_simp
             with_reducible rfl
           rotate_left
           · exact aP
           refine take_ (i := 1) (N := some 29) (v := ?_) (a' := ?_) #[true, true, true, false, false, false, false, false, false, false] rfl rfl (by kernel_rfl) (fun _ _ _ h => h) (Or.inl ⟨by rfl, ?_⟩) hHeld ?_ ?_
           rotate_left
           · rintro w' ⟨s0, s1⟩
             go_simp
             with_reducible rfl
           rotate_left
           · exact aP
           refine one_ (i := 3) (N := some 31) #[true, true, true, true, false, false, false, false, false, false] rfl rfl (by kernel_rfl) (by decide) (fun K hK => ?_)
           refine goes_ Try.func55 (by kernel_rfl) rfl #[.int .i64 n, .slice A x.length c] (by rfl) rfl rfl aT ?_
           with_reducible refine (impl_productsOf.calls k _ _ _ x ps _ ?side1 ?side2 HPS.out).mono ?_
           (case side1 => exact HX.out _ HKW.out)
           (case side2 => exact HC.out)
           rintro e w14 ⟨v14, rfl, ho, hb⟩
           obtain ⟨Ap, cp, ep⟩ := Kd.R_slice ho
           subst ep
           refine ⟨_, rfl, ?_⟩
           have n0_ := Aside0.mk (ho)
           have n1_ := Aside0.mk (blk_below BS.out hb)
           have n2_ := Aside0.mk (blk_below BT.out hb)
           have n3_ := Aside0.mk (blk_below BN.out hb)
           have n4_ := Aside0.mk (blk_below BB.out hb)
           have n5_ := Aside0.mk (Kd.R_below HV.out hb)
           have n6_ := Aside0.mk (below_step HB.out hb)
           have n7_ := Aside0.mk (HKW.out.below hb)
           clear BS BT BN BB HV HB HKW
           have HP := n0_
           have BS := n1_
           have BT := n2_
           have BN := n3_
           have BB := n4_
           have HV := n5_
           have HB := n6_
           have HKW := n7_
           clear n0_ n1_ n2_ n3_ n4_ n5_ n6_ n7_
           clear hb ho
           refine hK.out _ _ ⟨(blk_cell BT.out 0).trans rfl, (blk_cell BN.out 0).trans rfl⟩ (fun hHeld => ?_)
           clear hK K
           refine norm_ (a' := ?_) ?_ ?_
           rotate_left
           · show Act.put _ (some 31) _ = _
             simp only [Act.put, List.setIfInBounds_toArray, List.set_cons_zero, List.set_cons_succ, i64_w, i32_w]
             rfl
           refine one_ (i := 4) (N := some 32) #[true, true, true, true, true, false, false, false, false, false] rfl rfl (by kernel_rfl) (by decide) (fun K hK => ?_)
           refine goes_ Try.func54 (by kernel_rfl) rfl #[.slice AT T.length cT, .slice Ap ps.length cp] (by rfl) rfl rfl aT ?_
           with_reducible refine (impl_gap.calls k _ _ T _ _ ps o t _ ?side1 ?side2 ?side3 ?side4 HGA.out).mono ?_
           (case side1 => exact Kd.C_below HT.out HB.out)
           (case side2 => exact HCT.out)
           (case side3 => exact (Kd.R_reads' HP.out).2.2)
           (case side4 => exact (Kd.R_reads' HP.out).2.1)
           rintro e w15 ⟨rfl, hb⟩
           refine ⟨_, rfl, ?_⟩
           have n0_ := Aside0.mk (blk_below BS.out hb)
           have n1_ := Aside0.mk (blk_below BT.out hb)
           have n2_ := Aside0.mk (blk_below BN.out hb)
           have n3_ := Aside0.mk (blk_below BB.out hb)
           have n4_ := Aside0.mk (Kd.R_below HV.out hb)
           have n5_ := Aside0.mk (below_step HB.out hb)
           have n6_ := Aside0.mk (HKW.out.below hb)
           clear BS BT BN BB HV HB HKW
           have BS := n0_
           have BT := n1_
           have BN := n2_
           have BB := n3_
           have HV := n4_
           have HB := n5_
           have HKW := n6_
           clear n0_ n1_ n2_ n3_ n4_ n5_ n6_
           clear hb HP
           refine hK.out _ _ ⟨(blk_cell BT.out 0).trans rfl, (blk_cell BN.out 0).trans rfl⟩ (fun hHeld => ?_)
           clear hK K
           refine norm_ (a' := ?_) ?_ ?_
           rotate_left
           · show Act.put _ (some 32) _ = _
             simp only [Act.put, List.setIfInBounds_toArray, List.set_cons_zero, List.set_cons_succ, i64_w, i32_w]
             rfl
           refine pure_ (i := 5) (N := some 27) (v := ?_) (a' := ?_) #[true, true, true, true, true, true, false, false, false, false] rfl rfl (by kernel_rfl) (fun _ _ _ h => h) (Or.inl ⟨by rfl, ?_⟩) ?_ ?_
           rotate_left
           · intro w'
             go_simp
             with_reducible rfl
           rotate_left
           · exact aP
           refine pure_ (i := 6) (N := some 33) (v := ?_) (a' := ?_) #[true, true, true, true, true, true, true, false, false, false] rfl rfl (by kernel_rfl) (fun _ _ _ h => h) (Or.inl ⟨by rfl, ?_⟩) ?_ ?_
           rotate_left
           · intro w'
             go_simp
             with_reducible rfl
           rotate_left
           · exact aP
           refine pure_ (i := 7) (N := some 34) (v := ?_) (a' := ?_) #[true, true, true, true, true, true, true, true, false, false] rfl rfl (by kernel_rfl) (fun _ _ _ h => h) (Or.inl ⟨by rfl, ?_⟩) ?_ ?_
           rotate_left
           · intro w'
             go_simp
             with_reducible rfl
           rotate_left
           · exact aP
           refine pure_ (i := 8) (N := some 9) (v := ?_) (a' := ?_) #[true, true, true, true, true, true, true, true, true, false] rfl rfl (by kernel_rfl) (fun _ _ _ h => h) (Or.inl ⟨by rfl, ?_⟩) ?_ ?_
           rotate_left
           · intro w'
             go_simp
             with_reducible rfl
           rotate_left
           · exact aP
           refine pure_ (i := 9) (N := some 10) (v := ?_) (a' := ?_) #[true, true, true, true, true, true, true, true, true, true] rfl rfl (by kernel_rfl) (fun _ _ _ h => h) (Or.inl ⟨by rfl, ?_⟩) ?_ ?_
           rotate_left
           · intro w'
             go_simp
             with_reducible rfl
           rotate_left
           · exact aP
           refine done_ (by kernel_rfl) ?_
           go_wp2
           first | go_end0 | ((try simp only [Exit.inBlock, Exit.then]); refine bodyPost_ret (results_none rfl _ _ _) rfl ?_)
           exact ⟨rfl, ⟨HI1.out, BS.out, BT.out, BN.out, Ab, cb, BB.out, HV.out⟩, HB.out, HKW.out⟩
         · rw [if_neg c3] at hf
           have c3b : decide (o ≤ t) = false := decide_eq_false c3
           by_cases c4 : o = 1000000000
           · rw [if_pos c4] at hf
             have c4b : (o == 1000000000) = true := beq_iff_eq.mpr c4
             obtain rfl := Option.some.inj hf
             refine start_ (n := 10) (S := fun w' => w'.cell? ⟨gT, 0, none⟩ = some (.slice AT T.length cT) ∧ w'.cell? ⟨gN, 0, none⟩ = some (.int .i64 n)) (ds := []) #[false, false, false, false, false, false, false, false, false, false] (by kernel_rfl) rfl rfl ⟨(blk_cell BT.out 0).trans rfl, (blk_cell BN.out 0).trans rfl⟩ (fun hHeld => ?_)
             have hd := below_drew (Below.refl w1.heap.size w1)
             have n0_ := Aside0.mk (blk_below BS.out hd)
             have n1_ := Aside0.mk (blk_below BT.out hd)
             have n2_ := Aside0.mk (blk_below BN.out hd)
             have n3_ := Aside0.mk (blk_below BB.out hd)
             have n4_ := Aside0.mk (Kd.R_below HV.out hd)
             have n5_ := Aside0.mk (below_step HB.out hd)
             have n6_ := Aside0.mk (HKW.out.below hd)
             clear BS BT BN BB HV HB HKW
             have BS := n0_
             have BT := n1_
             have BN := n2_
             have BB := n3_
             have HV := n4_
             have HB := n5_
             have HKW := n6_
             clear n0_ n1_ n2_ n3_ n4_ n5_ n6_
             clear hd
             generalize w1.drew = w13 at BS BT BN BB HV HB HKW hHeld ⊢
             refine pure_ (i := 2) (N := some 30) (v := ?_) (a' := ?_) #[false, false, true, false, false, false, false, false, false, false] rfl rfl (by kernel_rfl) (fun _ _ _ h => h) (Or.inl ⟨by rfl, ?_⟩) ?_ ?_
             rotate_left
             · intro w'
               go_simp
               with_reducible rfl
             rotate_left
             · exact aP
             refine take_ (i := 0) (N := some 28) (v := ?_) (a' := ?_) #[true, false, true, false, false, false, false, false, false, false] rfl rfl (by kernel_rfl) (fun _ _ _ h => h) (Or.inl ⟨by rfl, ?_⟩) hHeld ?_ ?_
             rotate_left
             · rintro w' ⟨s0, s1⟩
               go_simp
               with_reducible rfl
             rotate_left
             · exact aP
             refine take_ (i := 1) (N := some 29) (v := ?_) (a' := ?_) #[true, true, true, false, false, false, false, false, false, false] rfl rfl (by kernel_rfl) (fun _ _ _ h => h) (Or.inl ⟨by rfl, ?_⟩) hHeld ?_ ?_
             rotate_left
             · rintro w' ⟨s0, s1⟩
               go_simp
               with_reducible rfl
             rotate_left
             · exact aP
             refine one_ (i := 3) (N := some 31) #[true, true, true, true, false, false, false, false, false, false] rfl rfl (by kernel_rfl) (by decide) (fun K hK => ?_)
             refine goes_ Try.func55 (by kernel_rfl) rfl #[.int .i64 n, .slice A x.length c] (by rfl) rfl rfl aT ?_
             with_reducible refine (impl_productsOf.calls k _ _ _ x ps _ ?side1 ?side2 HPS.out).mono ?_
             (case side1 => exact HX.out _ HKW.out)
             (case side2 => exact HC.out)
             rintro e w14 ⟨v14, rfl, ho, hb⟩
             obtain ⟨Ap, cp, ep⟩ := Kd.R_slice ho
             subst ep
             refine ⟨_, rfl, ?_⟩
             have n0_ := Aside0.mk (ho)
             have n1_ := Aside0.mk (blk_below BS.out hb)
             have n2_ := Aside0.mk (blk_below BT.out hb)
             have n3_ := Aside0.mk (blk_below BN.out hb)
             have n4_ := Aside0.mk (blk_below BB.out hb)
             have n5_ := Aside0.mk (Kd.R_below HV.out hb)
             have n6_ := Aside0.mk (below_step HB.out hb)
             have n7_ := Aside0.mk (HKW.out.below hb)
             clear BS BT BN BB HV HB HKW
             have HP := n0_
             have BS := n1_
             have BT := n2_
             have BN := n3_
             have BB := n4_
             have HV := n5_
             have HB := n6_
             have HKW := n7_
             clear n0_ n1_ n2_ n3_ n4_ n5_ n6_ n7_
             clear hb ho
             refine hK.out _ _ ⟨(blk_cell BT.out 0).trans rfl, (blk_cell BN.out 0).trans rfl⟩ (fun hHeld => ?_)
             clear hK K
             refine norm_ (a' := ?_) ?_ ?_
             rotate_left
             · show Act.put _ (some 31) _ = _
               simp only [Act.put, List.setIfInBounds_toArray, List.set_cons_zero, List.set_cons_succ, i64_w, i32_w]
               rfl
             refine one_ (i := 4) (N := some 32) #[true, true, true, true, true, false, false, false, false, false] rfl rfl (by kernel_rfl) (by decide) (fun K hK => ?_)
             refine goes_ Try.func54 (by kernel_rfl) rfl #[.slice AT T.length cT, .slice Ap ps.length cp] (by rfl) rfl rfl aT ?_
             with_reducible refine (impl_gap.calls k _ _ T _ _ ps o t _ ?side1 ?side2 ?side3 ?side4 HGA.out).mono ?_
             (case side1 => exact Kd.C_below HT.out HB.out)
             (case side2 => exact HCT.out)
             (case side3 => exact (Kd.R_reads' HP.out).2.2)
             (case side4 => exact (Kd.R_reads' HP.out).2.1)
             rintro e w15 ⟨rfl, hb⟩
             refine ⟨_, rfl, ?_⟩
             have n0_ := Aside0.mk (blk_below BS.out hb)
             have n1_ := Aside0.mk (blk_below BT.out hb)
             have n2_ := Aside0.mk (blk_below BN.out hb)
             have n3_ := Aside0.mk (blk_below BB.out hb)
             have n4_ := Aside0.mk (Kd.R_below HV.out hb)
             have n5_ := Aside0.mk (below_step HB.out hb)
             have n6_ := Aside0.mk (HKW.out.below hb)
             clear BS BT BN BB HV HB HKW
             have BS := n0_
             have BT := n1_
             have BN := n2_
             have BB := n3_
             have HV := n4_
             have HB := n5_
             have HKW := n6_
             clear n0_ n1_ n2_ n3_ n4_ n5_ n6_
             clear hb HP
             refine hK.out _ _ ⟨(blk_cell BT.out 0).trans rfl, (blk_cell BN.out 0).trans rfl⟩ (fun hHeld => ?_)
             clear hK K
             refine norm_ (a' := ?_) ?_ ?_
             rotate_left
             · show Act.put _ (some 32) _ = _
               simp only [Act.put, List.setIfInBounds_toArray, List.set_cons_zero, List.set_cons_succ, i64_w, i32_w]
               rfl
             refine pure_ (i := 5) (N := some 27) (v := ?_) (a' := ?_) #[true, true, true, true, true, true, false, false, false, false] rfl rfl (by kernel_rfl) (fun _ _ _ h => h) (Or.inl ⟨by rfl, ?_⟩) ?_ ?_
             rotate_left
             · intro w'
               go_simp
               with_reducible rfl
             rotate_left
             · exact aP
             refine pure_ (i := 6) (N := some 33) (v := ?_) (a' := ?_) #[true, true, true, true, true, true, true, false, false, false] rfl rfl (by kernel_rfl) (fun _ _ _ h => h) (Or.inl ⟨by rfl, ?_⟩) ?_ ?_
             rotate_left
             · intro w'
               go_simp
               with_reducible rfl
             rotate_left
             · exact aP
             refine pure_ (i := 7) (N := some 34) (v := ?_) (a' := ?_) #[true, true, true, true, true, true, true, true, false, false] rfl rfl (by kernel_rfl) (fun _ _ _ h => h) (Or.inl ⟨by rfl, ?_⟩) ?_ ?_
             rotate_left
             · intro w'
               go_simp
               with_reducible rfl
             rotate_left
             · exact aP
             refine pure_ (i := 8) (N := some 9) (v := ?_) (a' := ?_) #[true, true, true, true, true, true, true, true, true, false] rfl rfl (by kernel_rfl) (fun _ _ _ h => h) (Or.inl ⟨by rfl, ?_⟩) ?_ ?_
             rotate_left
             · intro w'
               go_simp
               with_reducible rfl
             rotate_left
             · exact aP
             refine pure_ (i := 9) (N := some 10) (v := ?_) (a' := ?_) #[true, true, true, true, true, true, true, true, true, true] rfl rfl (by kernel_rfl) (fun _ _ _ h => h) (Or.inl ⟨by rfl, ?_⟩) ?_ ?_
             rotate_left
             · intro w'
               go_simp
               with_reducible rfl
             rotate_left
             · exact aP
             refine done_ (by kernel_rfl) ?_
             go_wp2_with (first | ((with_reducible refine gate_callee (f := 42) rfl ?_); refine goesL_ (some 43) rfl rfl Try.func42 (by kernel_rfl) rfl #[.slice A x.length c] rfl aT ?_; (with_reducible refine (impl_copied.calls _ _ x x _ ?side1 ?side2 HCOP.out).mono ?_); (case side1 => exact HX.out _ HKW.out); (case side2 => exact HC.out); rintro e w16 ⟨v16, rfl, ho, hb⟩; obtain ⟨Av, cv, ev⟩ := Kd.R_slice ho; subst ev; refine ⟨_, rfl, ?_⟩; have n0_ := Aside0.mk (ho); have n1_ := Aside0.mk (blk_lt BS.out); have n2_ := Aside0.mk (blk_lt BB.out); have n3_ := Aside0.mk (fun ad he => Nat.lt_of_lt_of_le (HAD.out ad he).2 HKW.out.1); have n4_ := Aside0.mk (HB.out.size); have n5_ := Aside0.mk (blk_below BS.out hb); have n6_ := Aside0.mk (blk_below BT.out hb); have n7_ := Aside0.mk (blk_below BN.out hb); have n8_ := Aside0.mk (blk_below BB.out hb); have n9_ := Aside0.mk (Kd.R_below HV.out hb); have n10_ := Aside0.mk (below_step HB.out hb); have n11_ := Aside0.mk (HKW.out.below hb); clear BS BT BN BB HV HB HKW; have HN := n0_; have HLS := n1_; have HLB := n2_; have HLA := n3_; have HWS := n4_; have BS := n5_; have BT := n6_; have BN := n7_; have BB := n8_; have HV := n9_; have HB := n10_; have HKW := n11_; clear n0_ n1_ n2_ n3_ n4_ n5_ n6_ n7_ n8_ n9_ n10_ n11_; clear hb ho; have hs0 : w16.cell? ⟨gB, 0, none⟩ = some (.slice Ab sb.length cb) := (blk_cell BB.out 0).trans rfl; have hs1 : w16.cell? ⟨gB, 1, none⟩ = some (.int .i64 sd) := (blk_cell BB.out 1).trans rfl; have hf0 := blk_frozen BB.out 0; have hf1 := blk_frozen BB.out 1) | ((with_reducible refine gate_store (t := 52) (p := 4) rfl ?_); refine store_event (t := 52) (p := 4) (v := ?vo_w17) (w1 := ((w16.setCell ⟨gB, 0, none⟩ (.slice Av x.length cv)).setCell ⟨gB, 1, none⟩ (.int .i64 (wrap64 (t + 1))))) ?hg ?ho ?hn ?hr ?_; (case ho => rfl); (case hg => rfl); (case hn => rfl); (case hr => first | (go_simp; done) | (go_simp; rfl)); intro w17 hw; have n0_ : Aside0 (w17.heap[gS]? = some (.cells #[.int .i64 sz] 3 (0, 0))) := Aside0.mk (by rw [hw]; exact blk_far (p := ⟨gB, 1, none⟩) (blk_far (p := ⟨gB, 0, none⟩) BS.out HNE.out.2.2.2.2 _) HNE.out.2.2.2.2 _); have n1_ : Aside0 (w17.heap[gT]? = some (.cells #[.slice AT T.length cT] 22 (0, 0))) := Aside0.mk (by rw [hw]; exact blk_far (p := ⟨gB, 1, none⟩) (blk_far (p := ⟨gB, 0, none⟩) BT.out HNE.out.2.1 _) HNE.out.2.1 _); have n2_ : Aside0 (w17.heap[gN]? = some (.cells #[.int .i64 n] 3 (0, 0))) := Aside0.mk (by rw [hw]; exact blk_far (p := ⟨gB, 1, none⟩) (blk_far (p := ⟨gB, 0, none⟩) BN.out HNE.out.2.2.2.1 _) HNE.out.2.2.2.1 _); have n3_ : Aside0 (w17.heap[gB]? = some (.cells #[.slice Av x.length cv, .int .i64 (wrap64 (t + 1))] 52 (0, 0))) := Aside0.mk (by rw [hw]; exact blk_put (cs := #[.slice Av x.length cv, .int .i64 sd]) (blk_put (cs := #[.slice Ab sb.length cb, .int .i64 sd]) BB.out 0 _ rfl) 1 _ rfl); have n4_ : Aside0 (Kd.R (Kd.int .i64) 3 w17 w00.heap.size (fun q => (q ≠ gS ∧ q ≠ gB) ∧ ∀ ad : Addr, A = some ad → q ≠ ad.block) (.slice Av x.length cv) x) := Aside0.mk (by rw [hw]; exact Kd.R_far (p := ⟨gB, 1, none⟩) (Kd.R_far (p := ⟨gB, 0, none⟩) (impl_leastPlane.newR HN.out HWS.out HLS.out HLB.out HLA.out) (fun _ hk => hk.1.2) _) (fun _ hk => hk.1.2) _); have n5_ : Aside0 (Below w00.heap.size w00 w17) := Aside0.mk (by rw [hw]; exact below_set (below_set HB.out HGE.out.2) HGE.out.2); have n6_ : Aside0 (Kept w1 w17 (fun q => q = gS ∨ q = gB)) := Aside0.mk (by rw [hw]; exact Kept.setCell (p := ⟨gB, 1, none⟩) (Kept.setCell (p := ⟨gB, 0, none⟩) HKW.out (.inl (.inr rfl)) _) (.inl (.inr rfl)) _); clear BS BT BN BB HV HB HKW HN hs0 hs1 hf0 hf1 hw; have BS := n0_; have BT := n1_; have BN := n2_; have BB := n3_; have HV := n4_; have HB := n5_; have HKW := n6_; clear n0_ n1_ n2_ n3_ n4_ n5_ n6_; have hs2 : w17.cell? ⟨gS, 0, none⟩ = some (.int .i64 sz) := (blk_cell BS.out 0).trans rfl; have hf2 := blk_frozen BS.out 0) | ((with_reducible refine gate_store (t := 3) (p := 1) rfl ?_); refine store_event (t := 3) (p := 1) (v := ?vo_w18) (w1 := (w17.setCell ⟨gS, 0, none⟩ (.int .i64 (impl_leastPlane.sum x)))) ?hg ?ho ?hn ?hr ?_; (case ho => rfl); (case hg => rfl); (case hn => rfl); (case hr => first | (go_simp; done) | (go_simp; rfl)); intro w18 hw; have n0_ : Aside0 (w18.heap[gS]? = some (.cells #[.int .i64 (impl_leastPlane.sum x)] 3 (0, 0))) := Aside0.mk (by rw [hw]; exact (blk_set BS.out 0 _).trans rfl); have n1_ : Aside0 (w18.heap[gT]? = some (.cells #[.slice AT T.length cT] 22 (0, 0))) := Aside0.mk (by rw [hw]; exact blk_far (p := ⟨gS, 0, none⟩) BT.out HNE.out.1 _); have n2_ : Aside0 (w18.heap[gN]? = some (.cells #[.int .i64 n] 3 (0, 0))) := Aside0.mk (by rw [hw]; exact blk_far (p := ⟨gS, 0, none⟩) BN.out HNE.out.2.2.1 _); have n3_ : Aside0 (w18.heap[gB]? = some (.cells #[.slice Av x.length cv, .int .i64 (wrap64 (t + 1))] 52 (0, 0))) := Aside0.mk (by rw [hw]; exact blk_far (p := ⟨gS, 0, none⟩) BB.out (fun h_ => HNE.out.2.2.2.2 h_.symm) _); have n4_ : Aside0 (Kd.R (Kd.int .i64) 3 w18 w00.heap.size (fun q => (q ≠ gS ∧ q ≠ gB) ∧ ∀ ad : Addr, A = some ad → q ≠ ad.block) (.slice Av x.length cv) x) := Aside0.mk (by rw [hw]; exact Kd.R_far (p := ⟨gS, 0, none⟩) HV.out (fun _ hk => hk.1.1) _); have n5_ : Aside0 (Below w00.heap.size w00 w18) := Aside0.mk (by rw [hw]; exact below_set HB.out HGE.out.1); have n6_ : Aside0 (Kept w1 w18 (fun q => q = gS ∨ q = gB)) := Aside0.mk (by rw [hw]; exact Kept.setCell (p := ⟨gS, 0, none⟩) HKW.out (.inl (.inl rfl)) _); clear BS BT BN BB HV HB HKW hs2 hf2 hw; have BS := n0_; have BT := n1_; have BN := n2_; have BB := n3_; have HV := n4_; have HB := n5_; have HKW := n6_; clear n0_ n1_ n2_ n3_ n4_ n5_ n6_))
             first | go_end0 | ((try simp only [Exit.inBlock, Exit.then]); refine bodyPost_ret (results_none rfl _ _ _) rfl ?_)
             exact ⟨rfl, ⟨HI1.out, BS.out, BT.out, BN.out, Av, cv, BB.out, HV.out⟩, HB.out, HKW.out⟩
           · rw [if_neg c4] at hf
             have c4b : (o == 1000000000) = false := beq_eq_false_iff_ne.mpr c4
             obtain rfl := Option.some.inj hf
             refine start_ (n := 10) (S := fun w' => w'.cell? ⟨gT, 0, none⟩ = some (.slice AT T.length cT) ∧ w'.cell? ⟨gN, 0, none⟩ = some (.int .i64 n)) (ds := []) #[false, false, false, false, false, false, false, false, false, false] (by kernel_rfl) rfl rfl ⟨(blk_cell BT.out 0).trans rfl, (blk_cell BN.out 0).trans rfl⟩ (fun hHeld => ?_)
             have hd := below_drew (Below.refl w1.heap.size w1)
             have n0_ := Aside0.mk (blk_below BS.out hd)
             have n1_ := Aside0.mk (blk_below BT.out hd)
             have n2_ := Aside0.mk (blk_below BN.out hd)
             have n3_ := Aside0.mk (blk_below BB.out hd)
             have n4_ := Aside0.mk (Kd.R_below HV.out hd)
             have n5_ := Aside0.mk (below_step HB.out hd)
             have n6_ := Aside0.mk (HKW.out.below hd)
             clear BS BT BN BB HV HB HKW
             have BS := n0_
             have BT := n1_
             have BN := n2_
             have BB := n3_
             have HV := n4_
             have HB := n5_
             have HKW := n6_
             clear n0_ n1_ n2_ n3_ n4_ n5_ n6_
             clear hd
             generalize w1.drew = w13 at BS BT BN BB HV HB HKW hHeld ⊢
             refine pure_ (i := 2) (N := some 30) (v := ?_) (a' := ?_) #[false, false, true, false, false, false, false, false, false, false] rfl rfl (by kernel_rfl) (fun _ _ _ h => h) (Or.inl ⟨by rfl, ?_⟩) ?_ ?_
             rotate_left
             · intro w'
               go_simp
               with_reducible rfl
             rotate_left
             · exact aP
             refine take_ (i := 0) (N := some 28) (v := ?_) (a' := ?_) #[true, false, true, false, false, false, false, false, false, false] rfl rfl (by kernel_rfl) (fun _ _ _ h => h) (Or.inl ⟨by rfl, ?_⟩) hHeld ?_ ?_
             rotate_left
             · rintro w' ⟨s0, s1⟩
               go_simp
               with_reducible rfl
             rotate_left
             · exact aP
             refine take_ (i := 1) (N := some 29) (v := ?_) (a' := ?_) #[true, true, true, false, false, false, false, false, false, false] rfl rfl (by kernel_rfl) (fun _ _ _ h => h) (Or.inl ⟨by rfl, ?_⟩) hHeld ?_ ?_
             rotate_left
             · rintro w' ⟨s0, s1⟩
               go_simp
               with_reducible rfl
             rotate_left
             · exact aP
             refine one_ (i := 3) (N := some 31) #[true, true, true, true, false, false, false, false, false, false] rfl rfl (by kernel_rfl) (by decide) (fun K hK => ?_)
             refine goes_ Try.func55 (by kernel_rfl) rfl #[.int .i64 n, .slice A x.length c] (by rfl) rfl rfl aT ?_
             with_reducible refine (impl_productsOf.calls k _ _ _ x ps _ ?side1 ?side2 HPS.out).mono ?_
             (case side1 => exact HX.out _ HKW.out)
             (case side2 => exact HC.out)
             rintro e w14 ⟨v14, rfl, ho, hb⟩
             obtain ⟨Ap, cp, ep⟩ := Kd.R_slice ho
             subst ep
             refine ⟨_, rfl, ?_⟩
             have n0_ := Aside0.mk (ho)
             have n1_ := Aside0.mk (blk_below BS.out hb)
             have n2_ := Aside0.mk (blk_below BT.out hb)
             have n3_ := Aside0.mk (blk_below BN.out hb)
             have n4_ := Aside0.mk (blk_below BB.out hb)
             have n5_ := Aside0.mk (Kd.R_below HV.out hb)
             have n6_ := Aside0.mk (below_step HB.out hb)
             have n7_ := Aside0.mk (HKW.out.below hb)
             clear BS BT BN BB HV HB HKW
             have HP := n0_
             have BS := n1_
             have BT := n2_
             have BN := n3_
             have BB := n4_
             have HV := n5_
             have HB := n6_
             have HKW := n7_
             clear n0_ n1_ n2_ n3_ n4_ n5_ n6_ n7_
             clear hb ho
             refine hK.out _ _ ⟨(blk_cell BT.out 0).trans rfl, (blk_cell BN.out 0).trans rfl⟩ (fun hHeld => ?_)
             clear hK K
             refine norm_ (a' := ?_) ?_ ?_
             rotate_left
             · show Act.put _ (some 31) _ = _
               simp only [Act.put, List.setIfInBounds_toArray, List.set_cons_zero, List.set_cons_succ, i64_w, i32_w]
               rfl
             refine one_ (i := 4) (N := some 32) #[true, true, true, true, true, false, false, false, false, false] rfl rfl (by kernel_rfl) (by decide) (fun K hK => ?_)
             refine goes_ Try.func54 (by kernel_rfl) rfl #[.slice AT T.length cT, .slice Ap ps.length cp] (by rfl) rfl rfl aT ?_
             with_reducible refine (impl_gap.calls k _ _ T _ _ ps o t _ ?side1 ?side2 ?side3 ?side4 HGA.out).mono ?_
             (case side1 => exact Kd.C_below HT.out HB.out)
             (case side2 => exact HCT.out)
             (case side3 => exact (Kd.R_reads' HP.out).2.2)
             (case side4 => exact (Kd.R_reads' HP.out).2.1)
             rintro e w15 ⟨rfl, hb⟩
             refine ⟨_, rfl, ?_⟩
             have n0_ := Aside0.mk (blk_below BS.out hb)
             have n1_ := Aside0.mk (blk_below BT.out hb)
             have n2_ := Aside0.mk (blk_below BN.out hb)
             have n3_ := Aside0.mk (blk_below BB.out hb)
             have n4_ := Aside0.mk (Kd.R_below HV.out hb)
             have n5_ := Aside0.mk (below_step HB.out hb)
             have n6_ := Aside0.mk (HKW.out.below hb)
             clear BS BT BN BB HV HB HKW
             have BS := n0_
             have BT := n1_
             have BN := n2_
             have BB := n3_
             have HV := n4_
             have HB := n5_
             have HKW := n6_
             clear n0_ n1_ n2_ n3_ n4_ n5_ n6_
             clear hb HP
             refine hK.out _ _ ⟨(blk_cell BT.out 0).trans rfl, (blk_cell BN.out 0).trans rfl⟩ (fun hHeld => ?_)
             clear hK K
             refine norm_ (a' := ?_) ?_ ?_
             rotate_left
             · show Act.put _ (some 32) _ = _
               simp only [Act.put, List.setIfInBounds_toArray, List.set_cons_zero, List.set_cons_succ, i64_w, i32_w]
               rfl
             refine pure_ (i := 5) (N := some 27) (v := ?_) (a' := ?_) #[true, true, true, true, true, true, false, false, false, false] rfl rfl (by kernel_rfl) (fun _ _ _ h => h) (Or.inl ⟨by rfl, ?_⟩) ?_ ?_
             rotate_left
             · intro w'
               go_simp
               with_reducible rfl
             rotate_left
             · exact aP
             refine pure_ (i := 6) (N := some 33) (v := ?_) (a' := ?_) #[true, true, true, true, true, true, true, false, false, false] rfl rfl (by kernel_rfl) (fun _ _ _ h => h) (Or.inl ⟨by rfl, ?_⟩) ?_ ?_
             rotate_left
             · intro w'
               go_simp
               with_reducible rfl
             rotate_left
             · exact aP
             refine pure_ (i := 7) (N := some 34) (v := ?_) (a' := ?_) #[true, true, true, true, true, true, true, true, false, false] rfl rfl (by kernel_rfl) (fun _ _ _ h => h) (Or.inl ⟨by rfl, ?_⟩) ?_ ?_
             rotate_left
             · intro w'
               go_simp
               with_reducible rfl
             rotate_left
             · exact aP
             refine pure_ (i := 8) (N := some 9) (v := ?_) (a' := ?_) #[true, true, true, true, true, true, true, true, true, false] rfl rfl (by kernel_rfl) (fun _ _ _ h => h) (Or.inl ⟨by rfl, ?_⟩) ?_ ?_
             rotate_left
             · intro w'
               go_simp
               with_reducible rfl
             rotate_left
             · exact aP
             refine pure_ (i := 9) (N := some 10) (v := ?_) (a' := ?_) #[true, true, true, true, true, true, true, true, true, true] rfl rfl (by kernel_rfl) (fun _ _ _ h => h) (Or.inl ⟨by rfl, ?_⟩) ?_ ?_
             rotate_left
             · intro w'
               go_simp
               with_reducible rfl
             rotate_left
             · exact aP
             refine done_ (by kernel_rfl) ?_
             go_wp2_with (first | ((with_reducible refine gate_callee (f := 42) rfl ?_); refine goesL_ (some 43) rfl rfl Try.func42 (by kernel_rfl) rfl #[.slice A x.length c] rfl aT ?_; (with_reducible refine (impl_copied.calls _ _ x x _ ?side1 ?side2 HCOP.out).mono ?_); (case side1 => exact HX.out _ HKW.out); (case side2 => exact HC.out); rintro e w16 ⟨v16, rfl, ho, hb⟩; obtain ⟨Av, cv, ev⟩ := Kd.R_slice ho; subst ev; refine ⟨_, rfl, ?_⟩; have n0_ := Aside0.mk (ho); have n1_ := Aside0.mk (blk_lt BS.out); have n2_ := Aside0.mk (blk_lt BB.out); have n3_ := Aside0.mk (fun ad he => Nat.lt_of_lt_of_le (HAD.out ad he).2 HKW.out.1); have n4_ := Aside0.mk (HB.out.size); have n5_ := Aside0.mk (blk_below BS.out hb); have n6_ := Aside0.mk (blk_below BT.out hb); have n7_ := Aside0.mk (blk_below BN.out hb); have n8_ := Aside0.mk (blk_below BB.out hb); have n9_ := Aside0.mk (Kd.R_below HV.out hb); have n10_ := Aside0.mk (below_step HB.out hb); have n11_ := Aside0.mk (HKW.out.below hb); clear BS BT BN BB HV HB HKW; have HN := n0_; have HLS := n1_; have HLB := n2_; have HLA := n3_; have HWS := n4_; have BS := n5_; have BT := n6_; have BN := n7_; have BB := n8_; have HV := n9_; have HB := n10_; have HKW := n11_; clear n0_ n1_ n2_ n3_ n4_ n5_ n6_ n7_ n8_ n9_ n10_ n11_; clear hb ho; have hs0 : w16.cell? ⟨gB, 0, none⟩ = some (.slice Ab sb.length cb) := (blk_cell BB.out 0).trans rfl; have hs1 : w16.cell? ⟨gB, 1, none⟩ = some (.int .i64 sd) := (blk_cell BB.out 1).trans rfl; have hf0 := blk_frozen BB.out 0; have hf1 := blk_frozen BB.out 1) | ((with_reducible refine gate_store (t := 52) (p := 4) rfl ?_); refine store_event (t := 52) (p := 4) (v := ?vo_w17) (w1 := ((w16.setCell ⟨gB, 0, none⟩ (.slice Av x.length cv)).setCell ⟨gB, 1, none⟩ (.int .i64 o))) ?hg ?ho ?hn ?hr ?_; (case ho => rfl); (case hg => rfl); (case hn => rfl); (case hr => first | (go_simp; done) | (go_simp; rfl)); intro w17 hw; have n0_ : Aside0 (w17.heap[gS]? = some (.cells #[.int .i64 sz] 3 (0, 0))) := Aside0.mk (by rw [hw]; exact blk_far (p := ⟨gB, 1, none⟩) (blk_far (p := ⟨gB, 0, none⟩) BS.out HNE.out.2.2.2.2 _) HNE.out.2.2.2.2 _); have n1_ : Aside0 (w17.heap[gT]? = some (.cells #[.slice AT T.length cT] 22 (0, 0))) := Aside0.mk (by rw [hw]; exact blk_far (p := ⟨gB, 1, none⟩) (blk_far (p := ⟨gB, 0, none⟩) BT.out HNE.out.2.1 _) HNE.out.2.1 _); have n2_ : Aside0 (w17.heap[gN]? = some (.cells #[.int .i64 n] 3 (0, 0))) := Aside0.mk (by rw [hw]; exact blk_far (p := ⟨gB, 1, none⟩) (blk_far (p := ⟨gB, 0, none⟩) BN.out HNE.out.2.2.2.1 _) HNE.out.2.2.2.1 _); have n3_ : Aside0 (w17.heap[gB]? = some (.cells #[.slice Av x.length cv, .int .i64 o] 52 (0, 0))) := Aside0.mk (by rw [hw]; exact blk_put (cs := #[.slice Av x.length cv, .int .i64 sd]) (blk_put (cs := #[.slice Ab sb.length cb, .int .i64 sd]) BB.out 0 _ rfl) 1 _ rfl); have n4_ : Aside0 (Kd.R (Kd.int .i64) 3 w17 w00.heap.size (fun q => (q ≠ gS ∧ q ≠ gB) ∧ ∀ ad : Addr, A = some ad → q ≠ ad.block) (.slice Av x.length cv) x) := Aside0.mk (by rw [hw]; exact Kd.R_far (p := ⟨gB, 1, none⟩) (Kd.R_far (p := ⟨gB, 0, none⟩) (impl_leastPlane.newR HN.out HWS.out HLS.out HLB.out HLA.out) (fun _ hk => hk.1.2) _) (fun _ hk => hk.1.2) _); have n5_ : Aside0 (Below w00.heap.size w00 w17) := Aside0.mk (by rw [hw]; exact below_set (below_set HB.out HGE.out.2) HGE.out.2); have n6_ : Aside0 (Kept w1 w17 (fun q => q = gS ∨ q = gB)) := Aside0.mk (by rw [hw]; exact Kept.setCell (p := ⟨gB, 1, none⟩) (Kept.setCell (p := ⟨gB, 0, none⟩) HKW.out (.inl (.inr rfl)) _) (.inl (.inr rfl)) _); clear BS BT BN BB HV HB HKW HN hs0 hs1 hf0 hf1 hw; have BS := n0_; have BT := n1_; have BN := n2_; have BB := n3_; have HV := n4_; have HB := n5_; have HKW := n6_; clear n0_ n1_ n2_ n3_ n4_ n5_ n6_; have hs2 : w17.cell? ⟨gS, 0, none⟩ = some (.int .i64 sz) := (blk_cell BS.out 0).trans rfl; have hf2 := blk_frozen BS.out 0) | ((with_reducible refine gate_store (t := 3) (p := 1) rfl ?_); refine store_event (t := 3) (p := 1) (v := ?vo_w18) (w1 := (w17.setCell ⟨gS, 0, none⟩ (.int .i64 (impl_leastPlane.sum x)))) ?hg ?ho ?hn ?hr ?_; (case ho => rfl); (case hg => rfl); (case hn => rfl); (case hr => first | (go_simp; done) | (go_simp; rfl)); intro w18 hw; have n0_ : Aside0 (w18.heap[gS]? = some (.cells #[.int .i64 (impl_leastPlane.sum x)] 3 (0, 0))) := Aside0.mk (by rw [hw]; exact (blk_set BS.out 0 _).trans rfl); have n1_ : Aside0 (w18.heap[gT]? = some (.cells #[.slice AT T.length cT] 22 (0, 0))) := Aside0.mk (by rw [hw]; exact blk_far (p := ⟨gS, 0, none⟩) BT.out HNE.out.1 _); have n2_ : Aside0 (w18.heap[gN]? = some (.cells #[.int .i64 n] 3 (0, 0))) := Aside0.mk (by rw [hw]; exact blk_far (p := ⟨gS, 0, none⟩) BN.out HNE.out.2.2.1 _); have n3_ : Aside0 (w18.heap[gB]? = some (.cells #[.slice Av x.length cv, .int .i64 o] 52 (0, 0))) := Aside0.mk (by rw [hw]; exact blk_far (p := ⟨gS, 0, none⟩) BB.out (fun h_ => HNE.out.2.2.2.2 h_.symm) _); have n4_ : Aside0 (Kd.R (Kd.int .i64) 3 w18 w00.heap.size (fun q => (q ≠ gS ∧ q ≠ gB) ∧ ∀ ad : Addr, A = some ad → q ≠ ad.block) (.slice Av x.length cv) x) := Aside0.mk (by rw [hw]; exact Kd.R_far (p := ⟨gS, 0, none⟩) HV.out (fun _ hk => hk.1.1) _); have n5_ : Aside0 (Below w00.heap.size w00 w18) := Aside0.mk (by rw [hw]; exact below_set HB.out HGE.out.1); have n6_ : Aside0 (Kept w1 w18 (fun q => q = gS ∨ q = gB)) := Aside0.mk (by rw [hw]; exact Kept.setCell (p := ⟨gS, 0, none⟩) HKW.out (.inl (.inl rfl)) _); clear BS BT BN BB HV HB HKW hs2 hf2 hw; have BS := n0_; have BT := n1_; have BN := n2_; have BB := n3_; have HV := n4_; have HB := n5_; have HKW := n6_; clear n0_ n1_ n2_ n3_ n4_ n5_ n6_))
             first | go_end0 | ((try simp only [Exit.inBlock, Exit.then]); refine bodyPost_ret (results_none rfl _ _ _) rfl ?_)
             exact ⟨rfl, ⟨HI1.out, BS.out, BT.out, BN.out, Av, cv, BB.out, HV.out⟩, HB.out, HKW.out⟩
     · rw [if_neg c1] at hf
       exact absurd hf (by simp)
theorem impl_leastPlane.move {gS gT gN gB : Nat} {w00 w : World} {AT : Option Addr} {cT : Nat} {T : List Int} {n : Int} (hS : gS < w.heap.size) (hT : gT < w.heap.size) (hN : gN < w.heap.size) (hB : gB < w.heap.size) : ∀ s A w1 w2, impl_leastPlane.Inv gS gT gN gB w00 w AT cT T n s A w1 → w.heap.size ≤ w1.heap.size → (∀ q, q < w1.heap.size → (∀ ad : Addr, A = some ad → q ≠ ad.block) → w2.heap[q]? = w1.heap[q]?) → impl_leastPlane.Inv gS gT gN gB w00 w AT cT T n s A w2 := by
 rintro s A w1 w2 ⟨h1, h2, h3, h4, Ab, cb, h5, h6⟩ hsz hm
 have mv : ∀ {g : Nat} {o : Obj}, w1.heap[g]? = some o → g < w.heap.size → w2.heap[g]? = some o := fun {g o} h hg => (hm g (blk_lt h) (fun ad he => by have := h1 ad he; omega)).trans h
 exact ⟨h1, mv h2 hS, mv h3 hT, mv h4 hN, Ab, cb, mv h5 hB, Kd.R_step h6 (fun q ho hlt => hm q hlt ho.2)⟩
theorem impl_leastPlane.begin {gS gT gN gB : Nat} {w00 w : World} {AT : Option Addr} {cT : Nat} {T : List Int} {n : Int} (hS : w.heap[gS]? = some (.cells #[.int .i64 1000000000] 3 (0, 0))) (hT : w.heap[gT]? = some (.cells #[.slice AT T.length cT] 22 (0, 0))) (hN : w.heap[gN]? = some (.cells #[.int .i64 n] 3 (0, 0))) (hB : w.heap[gB]? = some (.cells #[.slice none 0 0, .int .i64 0] 52 (0, 0))) :
 ∀ A w1, (∀ ad : Addr, A = some ad → w.heap.size ≤ ad.block) → w.heap.size ≤ w1.heap.size → (∀ q, q < w.heap.size → w1.heap[q]? = w.heap[q]?) → impl_leastPlane.Inv gS gT gN gB w00 w AT cT T n ([], 0, 1000000000) A w1 :=
 fun A w1 h1 hsz hm => ⟨h1, (hm _ (blk_lt hS)).trans hS, (hm _ (blk_lt hT)).trans hT, (hm _ (blk_lt hN)).trans hN, none, 0, (hm _ (blk_lt hB)).trans hB, Kd.R_nil _ _ _ _ _⟩
set_option maxHeartbeats 8000000 in
set_option maxRecDepth 100000 in
theorem impl_leastPlane.calls (k : Nat) (a0 : Int) (A1 : Option Addr) (c1 : Nat) (l1 : List Int) (r1 : List Int) (r2 : Int) (r3 : Int) (r4 : Bool) (w : World) (hr1 : Kd.C (Kd.int .i64) w A1 l1.length l1) (hc1 : l1.length ≤ c1) (h : impl_leastPlane.f k a0 l1 = some (r1, r2, r3, r4)) :
 Calls Try.prog 40 #[.int .i64 a0, .slice A1 l1.length c1] w fun e w' => ∃ v0_ : Value, e = .returned (.tuple #[.agg #[v0_, .int .i64 r2], .int .i64 r3, .bool r4]) ∧ Kd.R (Kd.int .i64) 3 w' w.heap.size (fun _ => True) v0_ r1 ∧ Below w.heap.size w w' := by
 have hu := Try.underlying52
 have hmf : ∀ (fn : Fn) (first cap : Array Value) (w : World), (Instr.makeFunc fn first cap).run Try.prog w = .ok (.func fn first cap) w := fun _ _ _ _ => rfl
 obtain ⟨s, hrun, H⟩ := Option.bind_eq_some_iff.mp h
 have H2 := Option.some.inj H
 simp only [Prod.mk.injEq] at H2
 obtain ⟨e1, e2, e3, hr4⟩ := H2
 have hs : s = (r1, r2, r3) := by rw [← e1, ← e2, ← e3]
 subst hs
 clear e1 e2 e3 H
 have HR1 := Aside0.mk hr1
 have HC1 := Aside0.mk hc1
 have HRUN := Aside0.mk hrun
 have HR4 := Aside0.mk hr4
 have HB := Aside0.mk (Below.refl w.heap.size w)
 clear h hr1 hc1 hrun hr4
 go_enter Try.func40, Try.ntmps40
 go_wp2_with (first | ((with_reducible refine gate_dst (N := 2) rfl ?_); refine box_event ?hg (N := 2) ?hd (cs := #[.int .i64 a0]) (t := 3) ?hr ?_; (case hd => rfl); (case hg => rfl); (case hr => first | (go_simp; done) | (go_simp; rfl)); intro gN hg w2 hbox hb; have n0_ := Aside0.mk (hbox); have n1_ := Aside0.mk ((by rw [hg]; exact HB.out.size : w.heap.size ≤ gN)); have n2_ := Aside0.mk (below_step HB.out hb); clear HB; have BN := n0_; have GBN := n1_; have HB := n2_; clear n0_ n1_ n2_; clear hb hbox hg) | ((with_reducible refine gate_dst (N := 3) rfl ?_); refine box_event ?hg (N := 3) ?hd (cs := #[.slice A1 l1.length c1]) (t := 22) ?hr ?_; (case hd => rfl); (case hg => rfl); (case hr => first | (go_simp; done) | (go_simp; rfl)); intro gT hg w3 hbox hb; have n0_ := Aside0.mk (blk_below BN.out hb); have n1_ := Aside0.mk (hbox); have n2_ := Aside0.mk ((by rw [hg]; exact HB.out.size : w.heap.size ≤ gT)); have n3_ := Aside0.mk ((by rw [hg]; exact Nat.ne_of_lt (blk_lt BN.out) : gN ≠ gT)); have n4_ := Aside0.mk (below_step HB.out hb); clear BN HB; have BN := n0_; have BT := n1_; have GBT := n2_; have DBNBT := n3_; have HB := n4_; clear n0_ n1_ n2_ n3_ n4_; clear hb hbox hg) | ((with_reducible refine gate_dst (N := 4) rfl ?_); refine box_event ?hg (N := 4) ?hd (cs := #[.slice none 0 0, .int .i64 0]) (t := 52) ?hr ?_; (case hd => rfl); (case hg => rfl); (case hr => first | (go_simp; done) | (go_simp; rfl)); intro gR hg w4 hbox hb; have n0_ := Aside0.mk (blk_below BN.out hb); have n1_ := Aside0.mk (blk_below BT.out hb); have n2_ := Aside0.mk (hbox); have n3_ := Aside0.mk ((by rw [hg]; exact HB.out.size : w.heap.size ≤ gR)); have n4_ := Aside0.mk ((by rw [hg]; exact Nat.ne_of_lt (blk_lt BN.out) : gN ≠ gR)); have n5_ := Aside0.mk ((by rw [hg]; exact Nat.ne_of_lt (blk_lt BT.out) : gT ≠ gR)); have n6_ := Aside0.mk (below_step HB.out hb); clear BN BT HB; have BN := n0_; have BT := n1_; have BR := n2_; have GBR := n3_; have DBNBR := n4_; have DBTBR := n5_; have HB := n6_; clear n0_ n1_ n2_ n3_ n4_ n5_ n6_; clear hb hbox hg) | ((with_reducible refine gate_dst (N := 7) rfl ?_); refine box_event ?hg (N := 7) ?hd (cs := #[.slice none 0 0, .int .i64 0]) (t := 52) ?hr ?_; (case hd => rfl); (case hg => rfl); (case hr => first | (go_simp; done) | (go_simp; rfl)); intro gB hg w7 hbox hb; have n0_ := Aside0.mk (blk_below BN.out hb); have n1_ := Aside0.mk (blk_below BT.out hb); have n2_ := Aside0.mk (blk_below BR.out hb); have n3_ := Aside0.mk (hbox); have n4_ := Aside0.mk ((by rw [hg]; exact HB.out.size : w.heap.size ≤ gB)); have n5_ := Aside0.mk ((by rw [hg]; exact Nat.ne_of_lt (blk_lt BN.out) : gN ≠ gB)); have n6_ := Aside0.mk ((by rw [hg]; exact Nat.ne_of_lt (blk_lt BT.out) : gT ≠ gB)); have n7_ := Aside0.mk ((by rw [hg]; exact Nat.ne_of_lt (blk_lt BR.out) : gR ≠ gB)); have n8_ := Aside0.mk (below_step HB.out hb); clear BN BT BR HB; have BN := n0_; have BT := n1_; have BR := n2_; have BB := n3_; have GBB := n4_; have DBNBB := n5_; have DBTBB := n6_; have DBRBB := n7_; have HB := n8_; clear n0_ n1_ n2_ n3_ n4_ n5_ n6_ n7_ n8_; clear hb hbox hg) | ((with_reducible refine gate_dst (N := 8) rfl ?_); refine box_event ?hg (N := 8) ?hd (cs := #[.int .i64 0]) (t := 3) ?hr ?_; (case hd => rfl); (case hg => rfl); (case hr => first | (go_simp; done) | (go_simp; rfl)); intro gS hg w8 hbox hb; have n0_ := Aside0.mk (blk_below BN.out hb); have n1_ := Aside0.mk (blk_below BT.out hb); have n2_ := Aside0.mk (blk_below BR.out hb); have n3_ := Aside0.mk (blk_below BB.out hb); have n4_ := Aside0.mk (hbox); have n5_ := Aside0.mk ((by rw [hg]; exact HB.out.size : w.heap.size ≤ gS)); have n6_ := Aside0.mk ((by rw [hg]; exact Nat.ne_of_lt (blk_lt BN.out) : gN ≠ gS)); have n7_ := Aside0.mk ((by rw [hg]; exact Nat.ne_of_lt (blk_lt BT.out) : gT ≠ gS)); have n8_ := Aside0.mk ((by rw [hg]; exact Nat.ne_of_lt (blk_lt BR.out) : gR ≠ gS)); have n9_ := Aside0.mk ((by rw [hg]; exact Nat.ne_of_lt (blk_lt BB.out) : gB ≠ gS)); have n10_ := Aside0.mk (below_step HB.out hb); clear BN BT BR BB HB; have BN := n0_; have BT := n1_; have BR := n2_; have BB := n3_; have BS := n4_; have GBS := n5_; have DBNBS := n6_; have DBTBS := n7_; have DBRBS := n8_; have DBBBS := n9_; have HB := n10_; clear n0_ n1_ n2_ n3_ n4_ n5_ n6_ n7_ n8_ n9_ n10_; clear hb hbox hg; have hs0 : w8.cell? ⟨gB, 0, none⟩ = some (.slice none 0 0) := (blk_cell BB.out 0).trans rfl; have hs1 : w8.cell? ⟨gB, 1, none⟩ = some (.int .i64 0) := (blk_cell BB.out 1).trans rfl; have hf0 := blk_frozen BB.out 0; have hf1 := blk_frozen BB.out 1) | ((with_reducible refine gate_store (t := 52) (p := 7) rfl ?_); refine store_event (t := 52) (p := 7) (v := ?vo_w9) (w1 := ((w8.setCell ⟨gB, 0, none⟩ (.slice none 0 0)).setCell ⟨gB, 1, none⟩ (.int .i64 0))) ?hg ?ho ?hn ?hr ?_; (case ho => rfl); (case hg => rfl); (case hn => rfl); (case hr => first | (go_simp; done) | (go_simp; rfl)); intro w9 hw; have n0_ : Aside0 (w9.heap[gN]? = some (.cells #[.int .i64 a0] 3 (0, 0))) := Aside0.mk (by rw [hw]; exact blk_far (p := ⟨gB, 1, none⟩) (blk_far (p := ⟨gB, 0, none⟩) BN.out DBNBB.out _) DBNBB.out _); have n1_ : Aside0 (w9.heap[gT]? = some (.cells #[.slice A1 l1.length c1] 22 (0, 0))) := Aside0.mk (by rw [hw]; exact blk_far (p := ⟨gB, 1, none⟩) (blk_far (p := ⟨gB, 0, none⟩) BT.out DBTBB.out _) DBTBB.out _); have n2_ : Aside0 (w9.heap[gR]? = some (.cells #[.slice none 0 0, .int .i64 0] 52 (0, 0))) := Aside0.mk (by rw [hw]; exact blk_far (p := ⟨gB, 1, none⟩) (blk_far (p := ⟨gB, 0, none⟩) BR.out DBRBB.out _) DBRBB.out _); have n3_ : Aside0 (w9.heap[gB]? = some (.cells #[.slice none 0 0, .int .i64 0] 52 (0, 0))) := Aside0.mk (by rw [hw]; exact blk_put (cs := #[.slice none 0 0, .int .i64 0]) (blk_put (cs := #[.slice none 0 0, .int .i64 0]) BB.out 0 _ rfl) 1 _ rfl); have n4_ : Aside0 (w9.heap[gS]? = some (.cells #[.int .i64 0] 3 (0, 0))) := Aside0.mk (by rw [hw]; exact blk_far (p := ⟨gB, 1, none⟩) (blk_far (p := ⟨gB, 0, none⟩) BS.out (fun h_ => DBBBS.out h_.symm) _) (fun h_ => DBBBS.out h_.symm) _); have n5_ : Aside0 (Below w.heap.size w w9) := Aside0.mk (by rw [hw]; exact below_set (below_set HB.out GBB.out) GBB.out); clear BN BT BR BB BS HB hw; have BN := n0_; have BT := n1_; have BR := n2_; have BB := n3_; have BS := n4_; have HB := n5_; clear n0_ n1_ n2_ n3_ n4_ n5_; clear hs0 hs1 hf0 hf1; have hs2 : w9.cell? ⟨gS, 0, none⟩ = some (.int .i64 0) := (blk_cell BS.out 0).trans rfl; have hf2 := blk_frozen BS.out 0) | ((with_reducible refine gate_store (t := 3) (p := 8) rfl ?_); refine store_event (t := 3) (p := 8) (v := ?vo_w10) (w1 := (w9.setCell ⟨gS, 0, none⟩ (.int .i64 1000000000))) ?hg ?ho ?hn ?hr ?_; (case ho => rfl); (case hg => rfl); (case hn => rfl); (case hr => first | (go_simp; done) | (go_simp; rfl)); intro w10 hw; have n0_ : Aside0 (w10.heap[gN]? = some (.cells #[.int .i64 a0] 3 (0, 0))) := Aside0.mk (by rw [hw]; exact blk_far (p := ⟨gS, 0, none⟩) BN.out DBNBS.out _); have n1_ : Aside0 (w10.heap[gT]? = some (.cells #[.slice A1 l1.length c1] 22 (0, 0))) := Aside0.mk (by rw [hw]; exact blk_far (p := ⟨gS, 0, none⟩) BT.out DBTBS.out _); have n2_ : Aside0 (w10.heap[gR]? = some (.cells #[.slice none 0 0, .int .i64 0] 52 (0, 0))) := Aside0.mk (by rw [hw]; exact blk_far (p := ⟨gS, 0, none⟩) BR.out DBRBS.out _); have n3_ : Aside0 (w10.heap[gB]? = some (.cells #[.slice none 0 0, .int .i64 0] 52 (0, 0))) := Aside0.mk (by rw [hw]; exact blk_far (p := ⟨gS, 0, none⟩) BB.out DBBBS.out _); have n4_ : Aside0 (w10.heap[gS]? = some (.cells #[.int .i64 1000000000] 3 (0, 0))) := Aside0.mk (by rw [hw]; exact (blk_set BS.out 0 _).trans rfl); have n5_ : Aside0 (Below w.heap.size w w10) := Aside0.mk (by rw [hw]; exact below_set HB.out GBS.out); clear BN BT BR BB BS HB hw; have BN := n0_; have BT := n1_; have BR := n2_; have BB := n3_; have BS := n4_; have HB := n5_; clear n0_ n1_ n2_ n3_ n4_ n5_; clear hs2 hf2; have hs3 : w10.cell? ⟨gN, 0, none⟩ = some (.int .i64 a0) := (blk_cell BN.out 0).trans rfl) | ((with_reducible refine gate_callee (f := 52) rfl ?_); refine goesL_ (some 12) rfl rfl Try.func52 (by kernel_rfl) rfl #[.int .i64 a0, .int .i64 3, .func (.func 53) #[] #[.pointer (some ⟨gS, 0, none⟩), .pointer (some ⟨gT, 0, none⟩), .pointer (some ⟨gN, 0, none⟩), .pointer (some ⟨gB, 0, none⟩)]] rfl aT ?_; refine (Go.Proofs.Ytbajicdhhidicaa.Sm.impl_smallWeights.tell (impl_leastPlane.Inv gS gT gN gB w w10 A1 c1 l1 a0) (impl_leastPlane.step k a0 l1) (fun q => q = gS ∨ q = gB) 53 _ #[.pointer (some ⟨gS, 0, none⟩), .pointer (some ⟨gT, 0, none⟩), .pointer (some ⟨gN, 0, none⟩), .pointer (some ⟨gB, 0, none⟩)] Try.func53 (by kernel_rfl) rfl w w10 HB.out (fun q hq => by rcases hq with rfl | rfl; exact blk_lt BS.out; exact blk_lt BB.out) (impl_leastPlane.move (blk_lt BS.out) (blk_lt BT.out) (blk_lt BN.out) (blk_lt BB.out)) (fun x s s' A c w1 hI hA hf hb _ hx hc => impl_leastPlane.vis k a0 A1 c1 l1 gS gT gN gB w w10 HR1.out HC1.out ⟨GBS.out, GBB.out⟩ ⟨DBTBS.out, DBTBB.out, DBNBS.out, DBNBB.out, (fun h_ => DBBBS.out h_.symm)⟩ x s s' A c w1 hI hA hf hb hx hc) k a0 3 ([], 0, 1000000000) (r1, r2, r3) (impl_leastPlane.begin BS.out BT.out BN.out BB.out) HRUN.out).mono ?_; rintro e w9 ⟨rfl, ⟨A9, hI9⟩, hB9, hK9⟩; refine ⟨_, rfl, ?_⟩; clear hs3; obtain ⟨_, hS9, _, _, Ab, cb, hB9b, hV9⟩ := hI9; have n0_ := Aside0.mk (show w9.heap[gS]? = some (.cells #[.int .i64 r3] 3 (0, 0)) from hS9); have n1_ := Aside0.mk (show w9.heap[gB]? = some (.cells #[.slice Ab r1.length cb, .int .i64 r2] 52 (0, 0)) from hB9b); have n2_ := Aside0.mk (blk_kept BR.out hK9 (fun h_ => h_.elim DBRBS.out DBRBB.out)); have n3_ := Aside0.mk hB9; clear BS BB BR HB BT BN; have BS := n0_; have BB := n1_; have BR := n2_; have HB := n3_; clear n0_ n1_ n2_ n3_; have HV : Aside0 (Kd.R (Kd.int .i64) 3 w9 w.heap.size (fun q => q ≠ gR) (.slice Ab r1.length cb) r1) := Aside0.mk (Kd.R_mono (Kd.R_types hV9 BR.out (by decide)) (fun q hq => hq.2)); clear hS9 hB9b hV9 hB9 hK9))
 have GER := GBR
 have NSR := Aside0.mk (fun h_ => DBRBS.out h_.symm : gS ≠ gR)
 have NBR := Aside0.mk (fun h_ => DBRBB.out h_.symm : gB ≠ gR)
 refine start_ (n := 7) (S := fun w' => w'.cell? ⟨gB, 0, none⟩ = some (.slice Ab r1.length cb) ∧ w'.cell? ⟨gB, 1, none⟩ = some (.int .i64 r2) ∧ w'.cell? ⟨gS, 0, none⟩ = some (.int .i64 r3)) (ds := []) #[false, false, false, false, false, false, false] (by kernel_rfl) rfl rfl ⟨(blk_cell BB.out 0).trans rfl, (blk_cell BB.out 1).trans rfl, (blk_cell BS.out 0).trans rfl⟩ (fun hHeld => ?_)
 have hd := below_drew (Below.refl w9.heap.size w9)
 have n0_ := Aside0.mk (blk_below BS.out hd)
 have n1_ := Aside0.mk (blk_below BB.out hd)
 have n2_ := Aside0.mk (blk_below BR.out hd)
 have n3_ := Aside0.mk (Kd.R_below HV.out hd)
 have n4_ := Aside0.mk (below_step HB.out hd)
 clear BS BB BR HV HB
 have BS := n0_
 have BB := n1_
 have BR := n2_
 have HV := n3_
 have HB := n4_
 clear n0_ n1_ n2_ n3_ n4_
 clear hd
 generalize w9.drew = w13 at BS BB BR HV HB hHeld ⊢
 refine take_ (i := 0) (N := some 13) (v := ?_) (a' := ?_) #[true, false, false, false, false, false, false] rfl rfl (by kernel_rfl) (fun _ _ _ h => h) (Or.inl ⟨by rfl, ?_⟩) hHeld ?_ ?_
 rotate_left
 · rintro w' ⟨s0, s1, s2⟩
   go_simp
   with_reducible rfl
 rotate_left
 · exact aP
 refine take_ (i := 1) (N := some 14) (v := ?_) (a' := ?_) #[true, true, false, false, false, false, false] rfl rfl (by kernel_rfl) (fun _ _ _ h => h) (Or.inl ⟨by rfl, ?_⟩) hHeld ?_ ?_
 rotate_left
 · rintro w' ⟨s0, s1, s2⟩
   go_simp
   with_reducible rfl
 rotate_left
 · exact aP
 refine take_ (i := 2) (N := some 15) (v := ?_) (a' := ?_) #[true, true, true, false, false, false, false] rfl rfl (by kernel_rfl) (fun _ _ _ h => h) (Or.inl ⟨by rfl, ?_⟩) hHeld ?_ ?_
 rotate_left
 · rintro w' ⟨s0, s1, s2⟩
   go_simp
   with_reducible rfl
 rotate_left
 · exact aP
 refine pure_ (i := 3) (N := some 16) (v := ?_) (a' := ?_) #[true, true, true, true, false, false, false] rfl rfl (by kernel_rfl) (fun _ _ _ h => h) (Or.inl ⟨by rfl, ?_⟩) ?_ ?_
 rotate_left
 · intro w'
   go_simp
   with_reducible rfl
 rotate_left
 · exact aP
 refine one_ (i := 4) (N := none) #[true, true, true, true, true, false, false] rfl rfl (by kernel_rfl) (by decide) (fun K hK => ?_)
 have hs0 : w13.cell? ⟨gR, 0, none⟩ = some (.slice none 0 0) := (blk_cell BR.out 0).trans rfl
 have hs1 : w13.cell? ⟨gR, 1, none⟩ = some (.int .i64 0) := (blk_cell BR.out 1).trans rfl
 have hf0 := blk_frozen BR.out 0
 have hf1 := blk_frozen BR.out 1
 refine skip_ (w1 := ((w13.setCell ⟨gR, 0, none⟩ (.slice Ab r1.length cb)).setCell ⟨gR, 1, none⟩ (.int .i64 r2))) (by rfl) rfl (by first | (go_simp; done) | (go_simp; rfl)) ?_
 have hk4 : Below w.heap.size w ((w13.setCell ⟨gR, 0, none⟩ (.slice Ab r1.length cb)).setCell ⟨gR, 1, none⟩ (.int .i64 r2)) := below_set (below_set HB.out GER.out) GER.out
 have n0_ : Aside0 _ := Aside0.mk (blk_far (p := ⟨gR, 1, none⟩) (blk_far (p := ⟨gR, 0, none⟩) BS.out NSR.out (.slice Ab r1.length cb)) NSR.out (.int .i64 r2))
 have n1_ : Aside0 _ := Aside0.mk (blk_far (p := ⟨gR, 1, none⟩) (blk_far (p := ⟨gR, 0, none⟩) BB.out NBR.out (.slice Ab r1.length cb)) NBR.out (.int .i64 r2))
 have n2_ : Aside0 _ := Aside0.mk (blk_put (cs := #[.slice Ab r1.length cb, .int .i64 0]) (blk_put (cs := #[.slice none 0 0, .int .i64 0]) BR.out 0 (.slice Ab r1.length cb) rfl) 1 (.int .i64 r2) rfl)
 have n3_ : Aside0 _ := Aside0.mk (Kd.R_far (p := ⟨gR, 1, none⟩) (Kd.R_far (p := ⟨gR, 0, none⟩) HV.out (fun _ hk => hk) (.slice Ab r1.length cb)) (fun _ hk => hk) (.int .i64 r2))
 have n4_ := Aside0.mk hk4
 clear BS BB BR HV HB hs0 hs1 hf0 hf1 hk4
 have BS := n0_
 have BB := n1_
 have BR := n2_
 have HV := n3_
 have HB := n4_
 clear n0_ n1_ n2_ n3_ n4_
 refine hK.out _ _ ⟨(blk_cell BB.out 0).trans rfl, (blk_cell BB.out 1).trans rfl, (blk_cell BS.out 0).trans rfl⟩ (fun hHeld => ?_)
 clear hK K
 refine pure_ (i := 5) (N := some 5) (v := ?_) (a' := ?_) #[true, true, true, true, true, true, false] rfl rfl (by kernel_rfl) (fun _ _ _ h => h) (Or.inl ⟨by rfl, ?_⟩) ?_ ?_
 rotate_left
 · intro w'
   go_simp
   with_reducible rfl
 rotate_left
 · exact aP
 refine pure_ (i := 6) (N := some 6) (v := ?_) (a' := ?_) #[true, true, true, true, true, true, true] rfl rfl (by kernel_rfl) (fun _ _ _ h => h) (Or.inl ⟨by rfl, ?_⟩) ?_ ?_
 rotate_left
 · intro w'
   go_simp
   with_reducible rfl
 rotate_left
 · exact aP
 refine done_ (by kernel_rfl) ?_
 try go_wp2
 refine bodyPost_ret (results_ctt rfl _ _ gR 52 #[.slice Ab r1.length cb, .int .i64 r2] (0, 0) _ rfl BR.out Try.underlying52 rfl (by kernel_rfl)) rfl ?_
 refine ⟨_, ?_, Kd.R_mono HV.out (fun _ _ => trivial), HB.out⟩
 rw [← HR4.out]
 rfl


/-! ### impl_isThreshold: function 23 -/
def impl_isThreshold.f (k : Nat) (a0 : Int) (l1 : List Int) : Option (Bool) := if a0 = 0 then (some true) else ((impl_leastPlane.f k a0 l1).bind fun bt226 => (some bt226.2.2.2))
set_option maxHeartbeats 8000000 in
set_option maxRecDepth 100000 in
theorem impl_isThreshold.calls (k : Nat) (a0 : Int) (A1 : Option Addr) (c1 : Nat) (l1 : List Int) (r : Bool) (w : World) (hr1 : Kd.C (Kd.int .i64) w A1 l1.length l1) (hc1 : l1.length ≤ c1) (h : impl_isThreshold.f k a0 l1 = some r) :
 Calls Try.prog 23 #[.int .i64 a0, .slice A1 l1.length c1] w fun e w' => e = .returned (.bool r) ∧ Below w.heap.size w w' := by
 have hu52 := Try.underlying52
 have HR1 := Aside0.mk hr1
 have HC1 := Aside0.mk hc1
 clear hr1 hc1
 have HB := Aside0.mk (Below.refl w.heap.size w)
 have H : (if a0 = 0 then (some true) else ((impl_leastPlane.f k a0 l1).bind fun bt226 => (some bt226.2.2.2))) = some r := h
 clear h
 by_cases c3 : a0 = 0
 · rw [if_pos c3] at H
   have c3b0 : (a0 == 0) = true := beq_iff_eq.mpr c3
   have c3b1 : (a0 != 0) = false := bne_eq_false_iff_eq.mpr c3
   clear c3
   obtain rfl := Option.some.inj H
   go_enter Try.func23, Try.ntmps23
   go_wp2
   go_ret
   exact ⟨eW, bB HB⟩
 · rw [if_neg c3] at H
   have c3b0 : (a0 == 0) = false := beq_eq_false_iff_ne.mpr c3
   have c3b1 : (a0 != 0) = true := bne_iff_ne.mpr c3
   replace H := Option.bind_eq_some_iff.mp H
   obtain ⟨⟨t226, t229, t230, t231⟩, A40, H⟩ := H
   replace H : (some t231) = some r := H
   have A4 := Aside0.mk A40
   clear A40
   obtain rfl := Option.some.inj H
   go_enter Try.func23, Try.ntmps23
   go_wp2_with (first | ((with_reducible refine gate_callee (f := 40) rfl ?_); refine goesL_ (some 13) rfl rfl Try.func40 (by kernel_rfl) rfl #[.int .i64 a0, .slice A1 l1.length c1] rfl aT ?_; (with_reducible refine (impl_leastPlane.calls k a0 _ _ l1 t226 t229 t230 t231 _ ?side1 ?side2 A4.out).mono ?_); (case side1 => exact cC HR1); (case side2 => exact HC1.out); rintro e w5 ⟨v227, rfl, ho0, hb⟩; refine ⟨_, rfl, ?_⟩; have n0_ := Aside0.mk (Kd.R_lower ho0 (below_size (bB HB))); have n1_ := Aside0.mk (below_step (bB HB) hb); clear HB; have HO228 := n0_; have HB := n1_; clear n0_ n1_; (try clear hb); (try clear hb2); (try clear hk); (try clear hi); (try clear ho0)) | ((with_reducible refine gate_dst (N := 5) rfl ?_); refine box_event ?hg (N := 5) ?hd (cs := #[.slice none 0 0, .int .i64 0]) (t := 52) ?hr ?_; (case hd => rfl); (case hg => rfl); (case hr => first | (go_simp; done) | (go_simp; rfl)); intro gb232 hg w6 hbox hb; have n0_ := Aside0.mk (Kd.R_below (pR HO228) hb); have n1_ := Aside0.mk (below_step (bB HB) hb); have n2_ := Aside0.mk (hbox); have n3_ := Aside0.mk ((by rw [hg]; exact (below_size (bB HB)) : w.heap.size ≤ gb232)); have n4_ := Aside0.mk ((by rw [hg]; exact (below_size (bB HB)) : w.heap.size ≤ gb232)); clear HO228; clear HB; have HO228 := n0_; have HB := n1_; have BK232 := n2_; have GW232 := n3_; have GE232 := n4_; clear n0_ n1_ n2_ n3_ n4_; clear hb hbox hg; obtain ⟨Ao7, co7, eo7⟩ := Kd.R_slice HO228.out; subst eo7; have hcz8_0 : w6.cell? ⟨gb232, 0, none⟩ = some (.slice none 0 0) := (blk_cell BK232.out 0).trans rfl; have hcz8_1 : w6.cell? ⟨gb232, 1, none⟩ = some (.int .i64 0) := (blk_cell BK232.out 1).trans rfl; have hfz8_0 := blk_frozen BK232.out 0; have hfz8_1 := blk_frozen BK232.out 1))
   go_ret
   exact ⟨eW, bC HB GE232⟩

end Go.Proofs.Ytbajicdhhidicaa.PFnExactGatesNeeded
