-- Printed by wip/tools/myprint.py (the printer of the kit, patched by that program; roots chosen by it)
import Derived.Test.YtbajicdhhidicaaWRepsOne
import Derived.Test.YtbajicdhhidicaaMp
import Derived.Test.YtbajicdhhidicaaSm
import Derived.Test.YtbajicdhhidicaaCl
import Derived.Test.YtbajicdhhidicaaPFnExactGatesNeededx0
import Derived.Test.YtbajicdhhidicaaPFnExactGatesNeededx7
import Derived.Test.YtbajicdhhidicaaSh
namespace Go.Proofs.Ytbajicdhhidicaa.PFnExactGatesNeeded
open Go.RowKit Go.Proofs.Ytbajicdhhidicaa.Sh Go.Proofs.YtbajicdhhidicaaW.PrintWords Go.Proofs.YtbajicdhhidicaaW.PrintLast Go.Proofs.YtbajicdhhidicaaW.PrintMore
attribute [local go_sem] max2_int min2_int max_two min_two max_three min_three max_four min_four   -- for this text's walks alone
set_option linter.unusedVariables false
set_option linter.unusedSimpArgs false

/-! ### impl_thresholdTables: function 41 -/
mutual
def impl_thresholdTables.cl.l0 : Nat → List Int → Int → List Int → List Int → Int → Int → Option (List Int)
 | 0, _, _, _, _, _, _ => none
 | k + 1, x0, x1, x2, x13, x14, x15 => if x15 < x14 then (if 0 ≤ x15 then (if x15 < (x13.length : Int) then ((impl_productsOf.f k x1 x0).bind fun t126 => (impl_thresholdTables.cl.l1 k x0 x1 x2 (rd x13 x15) 0 x13 x14 x15 t126 (t126.length : Int) 0)) else (none)) else (none)) else (some x2)
def impl_thresholdTables.cl.l1 : Nat → List Int → Int → List Int → Int → Int → List Int → Int → Int → List Int → Int → Int → Option (List Int)
 | 0, _, _, _, _, _, _, _, _, _, _, _ => none
 | k + 1, x0, x1, x2, x5, x6, x13, x14, x15, x21, x22, x23 => if x23 < x22 then (if 0 ≤ x23 then (if x23 < (x21.length : Int) then (if (rd x21 x23) ≥ x5 then (impl_thresholdTables.cl.l1 k x0 x1 x2 x5 (Go.bits .or .i64 x6 (shl .i64 1 x23)) x13 x14 x15 x21 x22 (wrap64 (x23 + 1))) else (impl_thresholdTables.cl.l1 k x0 x1 x2 x5 x6 x13 x14 x15 x21 x22 (wrap64 (x23 + 1)))) else (none)) else (none)) else (if (Lit.int .i64 x6).wf = true ∧ x2.length < 1000000 then (impl_thresholdTables.cl.l0 k x0 x1 (x2 ++ [x6]) x13 x14 (wrap64 (x15 + 1))) else none)
end
def impl_thresholdTables.cl.f (k : Nat) (l0 : List Int) (a1 : Int) (a2 : List Int) : Option (List Int) := (impl_productsOf.f k a1 l0).bind fun t119 => (if t119.length < 17592186044416 then ((some (t119 ++ [99] : List Int)).bind fun y122 => (impl_thresholdTables.cl.l0 k l0 a1 a2 y122 (y122.length : Int) 0)) else (none))
def impl_thresholdTables.Inv (gN gM gm : Nat) (w : World) (n : Int) (s : List Int) (A : Option Addr) (w1 : World) : Prop :=
 (∀ ad : Addr, A = some ad → w.heap.size ≤ ad.block) ∧ w1.heap[gN]? = some (.cells #[.int .i64 n] 3 (0, 0)) ∧ w1.heap[gM]? = some (.cells #[.map (some gm)] 69 (0, 0)) ∧ Go.Proofs.Ytbajicdhhidicaa.Mp.MapB Try.prog 3 4 w1 gm s.length (fun q => decide (q ∈ s))
theorem impl_thresholdTables.move {gN gM gm : Nat} {w : World} {n : Int} (hN : gN < w.heap.size) (hM : gM < w.heap.size) (hm : gm < w.heap.size) : ∀ s A w1 w2, impl_thresholdTables.Inv gN gM gm w n s A w1 → w.heap.size ≤ w1.heap.size → (∀ q, q < w1.heap.size → (∀ ad : Addr, A = some ad → q ≠ ad.block) → w2.heap[q]? = w1.heap[q]?) → impl_thresholdTables.Inv gN gM gm w n s A w2 := by
 rintro s A w1 w2 ⟨h1, h2, h3, h4⟩ hsz hmv
 have mv : ∀ {g : Nat}, g < w.heap.size → w2.heap[g]? = w1.heap[g]? := fun {g} hg => hmv g (by omega) (fun ad he => by have := h1 ad he; omega)
 exact ⟨h1, (mv hN).trans h2, (mv hM).trans h3, h4.move (mv hm)⟩
theorem impl_thresholdTables.begin {gN gM gm : Nat} {w : World} {n : Int} (hN : w.heap[gN]? = some (.cells #[.int .i64 n] 3 (0, 0))) (hM : w.heap[gM]? = some (.cells #[.map (some gm)] 69 (0, 0))) (hm : Go.Proofs.Ytbajicdhhidicaa.Mp.MapB Try.prog 3 4 w gm 0 (fun _ => false)) :
 ∀ A w1, (∀ ad : Addr, A = some ad → w.heap.size ≤ ad.block) → w.heap.size ≤ w1.heap.size → (∀ q, q < w.heap.size → w1.heap[q]? = w.heap[q]?) → impl_thresholdTables.Inv gN gM gm w n [] A w1 :=
 fun A w1 h1 hsz hmv => ⟨h1, (hmv _ (blk_lt hN)).trans hN, (hmv _ (blk_lt hM)).trans hM, by simpa using hm.move (hmv gm hm.lt)⟩
set_option maxHeartbeats 8000000 in
set_option maxRecDepth 100000 in
theorem impl_thresholdTables.vis (k : Nat) (a1 : Int) (gN gM gm : Nat) (w00 wB : World) (hge : w00.heap.size ≤ gm) (hgm : gm < wB.heap.size) (hwB : wB.heap.size ≤ wB.heap.size) (nN : gN ≠ gm) (nM : gM ≠ gm) (l0 : List Int) (s s' : List Int) (A0 : Option Addr) (c0 : Nat) (w : World) (hI : impl_thresholdTables.Inv gN gM gm wB a1 s A0 w) (hsz : wB.heap.size ≤ w.heap.size) (hf : impl_thresholdTables.cl.f k l0 a1 s = some s') (hb00 : Below w00.heap.size w00 w) (hx : ∀ W', Kept w W' (fun q => q = gm) → Kd.C (Kd.int .i64) W' A0 l0.length l0) (hc0 : l0.length ≤ c0) :
 Calls Try.prog 63 (#[.slice A0 l0.length c0] ++ #[.pointer (some ⟨gN, 0, none⟩), .pointer (some ⟨gM, 0, none⟩)]) w fun e w' => e = .returned (.tuple #[]) ∧ impl_thresholdTables.Inv gN gM gm wB a1 s' A0 w' ∧ Below w00.heap.size w00 w' ∧ Kept w w' (fun q => q = gm) := by
 obtain ⟨hI1, hIN, hIM, hMM⟩ := hI
 have HI1 := Aside0.mk hI1
 have QN := Aside0.mk hIN
 have QM := Aside0.mk hIM
 have HM0 := Aside0.mk hMM
 have NN := Aside0.mk nN
 have NM := Aside0.mk nM
 have HGE := Aside0.mk hge
 have HGL := Aside0.mk (Nat.lt_of_lt_of_le hgm hsz)
 have HB00 := Aside0.mk hb00
 have HX := Aside0.mk hx
 have HC0 := Aside0.mk hc0
 have HF := Aside0.mk hf
 have hczN : w.cell? ⟨gN, 0, none⟩ = some (.int .i64 a1) := (blk_cell hIN 0).trans rfl
 clear hI1 hIN hIM hMM nN nM hge hgm hwB hsz hb00 hx hc0 hf
 refine calls_of_args (args' := #[.slice A0 l0.length c0, .pointer (some ⟨gN, 0, none⟩), .pointer (some ⟨gM, 0, none⟩)]) (by rfl) ?_
 have HB := Aside0.mk (Below.refl w.heap.size w)
 have H : ((impl_productsOf.f k a1 l0).bind fun t119 => (if t119.length < 17592186044416 then ((some (t119 ++ [99] : List Int)).bind fun y122 => (impl_thresholdTables.cl.l0 k l0 a1 s y122 (y122.length : Int) 0)) else (none))) = some s' := HF.out
 clear HF
 replace H := Option.bind_eq_some_iff.mp H
 obtain ⟨t119, A40, H⟩ := H
 replace H : (if t119.length < 17592186044416 then ((some (t119 ++ [99] : List Int)).bind fun y122 => (impl_thresholdTables.cl.l0 k l0 a1 s y122 (y122.length : Int) 0)) else (none)) = some s' := H
 have A4 := Aside0.mk A40
 clear A40
 by_cases c5 : t119.length < 17592186044416
 · rw [if_pos c5] at H
   have LMc5 := Aside0.mk c5
   clear c5
   obtain ⟨y122, hy122⟩ : ∃ y_ : List Int, y_ = (t119 ++ [99]) := ⟨_, rfl⟩
   replace H : (impl_thresholdTables.cl.l0 k l0 a1 s y122 (y122.length : Int) 0) = some s' := by first | (rw [hy122]; with_reducible exact H) | (have H2_ := (Option.bind_some _ _).symm.trans H; rw [hy122]; with_reducible exact H2_) | (have H2_ := (Option.bind_some _ _).symm.trans H; with_reducible exact H2_) | with_reducible exact H | (rw [hy122]; exact H) | exact H
   have Ny122 := Aside0.mk hy122
   clear hy122
   have H' := Aside0.mk H
   clear H
   go_enter Try.func63, Try.ntmps63
   go_wp2_with (first | ((with_reducible refine gate_callee (f := 55) rfl ?_); refine goesL_ (some 11) rfl rfl Try.func55 (by kernel_rfl) rfl #[.int .i64 a1, .slice A0 l0.length c0] rfl aT ?_; (with_reducible refine (impl_productsOf.calls k a1 _ _ l0 t119 _ ?side1 ?side2 A4.out).mono ?_); (case side1 => exact HX.out w (Kept.refl _ _)); (case side2 => exact HC0.out); rintro e w6 ⟨v120, rfl, ho0, hb⟩; refine ⟨_, rfl, ?_⟩; have n0_ := Aside0.mk (Kd.R_lower ho0 (below_size (bB HB))); have n1_ := Aside0.mk (below_step (bB HB) hb); clear HB; have HO121 := n0_; have HB := n1_; clear n0_ n1_; (try clear hb); (try clear hb2); (try clear hk); (try clear hi); (try clear ho0)) | ((with_reducible refine gate_builtin (b := .append) (xs := #[.tmp 11, .tmp 12]) rfl ?_); at_builtin; refine Kd.R_append (Kd.int .i64) (w0 := w) w.heap.size rfl (.tmp 11) (.tmp 12) 22 3 (.int .i64 0) 8 rfl Try.underlying22 info3 rfl (by decide) (by omega) v120 t119 99 [.int .i64 99] (fun _ => True) (fun _ => False) rfl rfl ?aP (fun _ hk => hk.elim) ?aF ?aO ?aB ?aS ?aL ?_; (case aP => exact rfl); (case aB => exact (bB HB)); (case aF => exact (fun _ _ => trivial)); (case aO => exact (pR HO121)); (case aS => exact (below_size (bB HB))); (case aL => have := LMc5.out; omega); intro v123 w7 ho hb hg hat; rw [← Ny122.out] at ho; have n0_ := Aside0.mk (hb); have n1_ := Aside0.mk (ho); clear HB; clear HO121; have HB := n0_; have HO124 := n1_; clear n0_ n1_; clear ho hb hg hat; obtain ⟨Ao8, co8, eo8⟩ := Kd.R_slice HO124.out; subst eo8))
   go_loopg [15] k (fun kq v15 w' => ∃ (x2_1 : List Int) (x15_1 : Int), v15 = .int .i64 x15_1 ∧ Aside0 (impl_thresholdTables.cl.l0 kq l0 a1 x2_1 y122 (y122.length : Int) x15_1 = some s') ∧ Aside0 (kq ≤ k) ∧ Aside0 (Kd.R (Kd.int .i64) 3 w' w.heap.size (fun _ => True) (.slice Ao8 y122.length co8) y122) ∧ Aside0 (Go.Proofs.Ytbajicdhhidicaa.Cl.Bk w00 w (fun q => q = gm) w') ∧ Aside0 (Go.Proofs.Ytbajicdhhidicaa.Mp.MapB Try.prog 3 4 w' gm x2_1.length (fun q => decide (q ∈ x2_1))))
   case atStart => exact ⟨s, (0), rD, H', ⟨Nat.le_refl _⟩, ⟨pR HO124⟩, ⟨Go.Proofs.Ytbajicdhhidicaa.Cl.Bk.start HB00.out HB.out⟩, ⟨HM0.out.move (HB.out.block gm HGL.out)⟩⟩
   case round =>
    clear H'
    try clear c5
    clear HB
    try clear hczN
    obtain ⟨x2_1, x15_1, rfl, HA, HK1, HO_13, HB, HM⟩ := hrel
    have hczN : wr.cell? ⟨gN, 0, none⟩ = some (.int .i64 a1) := (blk_cell (blk_kept QN.out HB.out.2 NN.out) 0).trans rfl
    cases gk with
    | zero => exact absurd HA.out (by simp [impl_thresholdTables.cl.l0])
    | succ k1 =>
     have H := HA.out
     clear HA
     simp only [impl_thresholdTables.cl.l0] at H
     by_cases c9 : x15_1 < (y122.length : Int)
     · rw [if_pos c9] at H
       have c9b0 : decide (x15_1 < (y122.length : Int)) = true := decide_eq_true c9
       clear c9
       by_cases c10 : 0 ≤ x15_1
       · rw [if_pos c10] at H
         have c10b0 : decide (0 ≤ x15_1) = true := decide_eq_true c10
         clear c10
         by_cases c11 : x15_1 < (y122.length : Int)
         · rw [if_pos c11] at H
           have c11b0 : decide (x15_1 < (y122.length : Int)) = true := decide_eq_true c11
           clear c11
           replace H := Option.bind_eq_some_iff.mp H
           obtain ⟨t126, A120, H⟩ := H
           replace H : (impl_thresholdTables.cl.l1 k1 l0 a1 x2_1 (rd y122 x15_1) 0 y122 (y122.length : Int) x15_1 t126 (t126.length : Int) 0) = some s' := H
           have A12 := Aside0.mk A120
           clear A120
           have H' := Aside0.mk H
           clear H
           have p125 : 0 ≤ (x15_1 : Int) := of_decide_eq_true aS
           have q125 : x15_1 < (y122.length : Int) := of_decide_eq_true aS
           obtain ⟨ad125, e125, hx125_0⟩ := Kd.at_int (Kd.R_reads' HO_13.out).2.2 x15_1 p125 q125
           cases e125
           replace p125 := eq_true p125
           replace q125 := eq_true q125
           go_wp2_with (first | ((with_reducible refine gate_callee (f := 55) rfl ?_); refine goesL_ (some 21) rfl rfl Try.func55 (by kernel_rfl) rfl #[.int .i64 a1, .slice A0 l0.length c0] rfl aT ?_; (with_reducible refine (impl_productsOf.calls k1 a1 _ _ l0 t126 _ ?side1 ?side2 A12.out).mono ?_); (case side1 => exact HX.out _ HB.out.2); (case side2 => exact HC0.out); rintro e w13 ⟨v127, rfl, ho0, hb⟩; refine ⟨_, rfl, ?_⟩; have n0_ := Aside0.mk (Kd.R_elder' (pR HO_13) (Kd.R_base ho0) hb); have n1_ := Aside0.mk (Kd.R_lower (Kd.R_new' ho0 (Kd.R_lt (pR HO_13))) HB.out.2.1); have n2_ := Aside0.mk (Go.Proofs.Ytbajicdhhidicaa.Cl.Bk.step HB.out hb); have n3_ := Aside0.mk (HM.out.move (hb.block gm HM.out.lt)); clear HO_13; clear HB; clear HM; (try clear hczN); have HO_13 := n0_; have HO128 := n1_; have HB := n2_; have HM := n3_; clear n0_ n1_ n2_ n3_; (try clear hb); (try clear hb2); (try clear hk); (try clear hi); (try clear ho0); obtain ⟨Ao14, co14, eo14⟩ := Kd.R_slice HO128.out; subst eo14))
           go_loopg [6, 23] k1 (fun kq v6 v23 w' => ∃ (x6_2 : Int) (x23_2 : Int), v6 = .int .i64 x6_2 ∧ v23 = .int .i64 x23_2 ∧ Aside0 (impl_thresholdTables.cl.l1 kq l0 a1 x2_1 (rd y122 x15_1) x6_2 y122 (y122.length : Int) x15_1 t126 (t126.length : Int) x23_2 = some s') ∧ Aside0 (kq ≤ k1) ∧ Aside0 (Kd.R (Kd.int .i64) 3 w' w.heap.size (fun k_ => some k_ ≠ ((.slice Ao14 t126.length co14) : Value).ownBlock) (.slice (some ad125) y122.length co8) y122) ∧ Aside0 (Kd.R (Kd.int .i64) 3 w' w.heap.size (fun k_ => some k_ ≠ ((.slice (some ad125) y122.length co8) : Value).ownBlock) (.slice Ao14 t126.length co14) t126) ∧ Aside0 (Go.Proofs.Ytbajicdhhidicaa.Cl.Bk w00 w (fun q => q = gm) w') ∧ Aside0 (Go.Proofs.Ytbajicdhhidicaa.Mp.MapB Try.prog 3 4 w' gm x2_1.length (fun q => decide (q ∈ x2_1))))
           case atStart => exact ⟨(0), (0), rD, rD, H', ⟨Nat.le_refl _⟩, ⟨by (with_reducible repeat (first | apply Kd.R_alloc | apply Kd.R_drewN | apply Kd.R_drew)); exact Kd.R_mono HO_13.out (fun _ hk => hk.2)⟩, ⟨by (with_reducible repeat (first | apply Kd.R_alloc | apply Kd.R_drewN | apply Kd.R_drew)); exact Kd.R_mono HO128.out (fun _ hk => hk.2)⟩, HB, HM⟩
           case round =>
            clear H'
            try clear c5
            try clear c9
            try clear c9b0
            try clear c10
            try clear c10b0
            try clear c11
            try clear c11b0
            try clear hx125_0
            try clear p125
            try clear q125
            clear HB HM
            try clear hczN
            obtain ⟨x6_2, x23_2, rfl, rfl, HA, HK2, HO_13, HO_21, HB, HM⟩ := hrel
            cases gk with
            | zero => exact absurd HA.out (by simp [impl_thresholdTables.cl.l1])
            | succ k2 =>
             have H := HA.out
             clear HA
             simp only [impl_thresholdTables.cl.l1] at H
             by_cases c15 : x23_2 < (t126.length : Int)
             · rw [if_pos c15] at H
               have c15b0 : decide (x23_2 < (t126.length : Int)) = true := decide_eq_true c15
               clear c15
               by_cases c16 : 0 ≤ x23_2
               · rw [if_pos c16] at H
                 have c16b0 : decide (0 ≤ x23_2) = true := decide_eq_true c16
                 clear c16
                 by_cases c17 : x23_2 < (t126.length : Int)
                 · rw [if_pos c17] at H
                   have c17b0 : decide (x23_2 < (t126.length : Int)) = true := decide_eq_true c17
                   clear c17
                   by_cases c18 : (rd t126 x23_2) ≥ (rd y122 x15_1)
                   · rw [if_pos c18] at H
                     have c18b0 : decide ((rd y122 x15_1) ≤ (rd t126 x23_2)) = true := decide_eq_true c18
                     clear c18
                     have c19b0 := eq_true (of_decide_eq_true aS : 0 ≤ x23_2)
                     obtain ⟨ji20, hji20⟩ : ∃ j_ : Int, (shl .i64 1 x23_2) = j_ := ⟨_, rfl⟩
                     replace H : (impl_thresholdTables.cl.l1 k2 l0 a1 x2_1 (rd y122 x15_1) (Go.bits .or .i64 x6_2 (ji20)) y122 (y122.length : Int) x15_1 t126 (t126.length : Int) (wrap64 (x23_2 + 1))) = some s' := by first | (rw [hji20] at H; exact H) | (simp only [hji20] at H ⊢; exact H)
                     have hji20_ : (IntKind.i64.wrap (1 * 2 ^ min x23_2.toNat 64)) = ji20 := hji20
                     have hji20z : x23_2 ≤ 64 → (IntKind.i64.wrap (1 * 2 ^ x23_2.toNat)) = ji20 := shl_small hji20
                     have hji20u : (IntKind.i64.wrap (2 ^ min x23_2.toNat 64)) = ji20 := by have h_ := hji20_; rw [Int.one_mul] at h_; exact h_
                     have hji20v : x23_2 ≤ 64 → (IntKind.i64.wrap (2 ^ x23_2.toNat)) = ji20 := fun hle_ => by have h_ := hji20z hle_; rw [Int.one_mul] at h_; exact h_
                     have hji20y : (wrap64 (1 * 2 ^ min x23_2.toNat 64)) = ji20 := (i64_w _).symm.trans hji20_
                     have hji20x : x23_2 ≤ 64 → (wrap64 (1 * 2 ^ x23_2.toNat)) = ji20 := fun h_ => (i64_w _).symm.trans (hji20z h_)
                     have H' := Aside0.mk H
                     clear H
                     have p129 : 0 ≤ (x23_2 : Int) := of_decide_eq_true aS
                     have q129 : x23_2 < (t126.length : Int) := of_decide_eq_true aS
                     obtain ⟨ad129, e129, hx129_0⟩ := Kd.at_int (Kd.R_reads' HO_21.out).2.2 x23_2 p129 q129
                     cases e129
                     replace p129 := eq_true p129
                     replace q129 := eq_true q129
                     go_wp2
                     go_roundg k2
                     case measure => have := HK1.out; have := HK2.out; omega
                     case rel => exact ⟨(Go.bits .or .i64 x6_2 (ji20)), (wrap64 (x23_2 + 1)), (by first | rfl | (simp; done) | (simp only [← hji20] <;> (first | rfl | simp)) | (simp [*]; done)), rD, H', ⟨by have := HK1.out; have := HK2.out; omega⟩, ⟨pR HO_13⟩, ⟨pR HO_21⟩, HB, HM⟩
                   · rw [if_neg c18] at H
                     have c18b0 : decide ((rd y122 x15_1) ≤ (rd t126 x23_2)) = false := decide_eq_false c18
                     clear c18
                     have H' := Aside0.mk H
                     clear H
                     have p129 : 0 ≤ (x23_2 : Int) := of_decide_eq_true aS
                     have q129 : x23_2 < (t126.length : Int) := of_decide_eq_true aS
                     obtain ⟨ad129, e129, hx129_0⟩ := Kd.at_int (Kd.R_reads' HO_21.out).2.2 x23_2 p129 q129
                     cases e129
                     replace p129 := eq_true p129
                     replace q129 := eq_true q129
                     go_wp2
                     go_roundg k2
                     case measure => have := HK1.out; have := HK2.out; omega
                     case rel => exact ⟨(x6_2), (wrap64 (x23_2 + 1)), rD, rD, H', ⟨by have := HK1.out; have := HK2.out; omega⟩, ⟨pR HO_13⟩, ⟨pR HO_21⟩, HB, HM⟩
                 · rw [if_neg c17] at H
                   exact absurd H (by simp)
               · rw [if_neg c16] at H
                 exact absurd H (by simp)
             · rw [if_neg c15] at H
               have c15b0 : decide (x23_2 < (t126.length : Int)) = false := decide_eq_false c15
               clear c15
               by_cases cw : (Lit.int .i64 x6_2).wf = true ∧ x2_1.length < 1000000
               · rw [if_pos cw] at H
                 have H' := Aside0.mk H
                 clear H
                 have hczM : wr.cell? ⟨gM, 0, none⟩ = some (.map (some gm)) := (blk_cell (blk_kept QM.out HB.out.2 NM.out) 0).trans rfl
                 obtain ⟨w30, hrun, hm30, hg30⟩ := HM.out.update (t := 69) Try.underlying3 Try.underlying4 Try.underlying69 (by have := cw.2; simp only [maxLen]; omega) x6_2 cw.1
                 have n0_ := Aside0.mk (Kd.R_mono (Kd.R_grown (Kd.R_bound HO_13.out) hg30 (fun q hq he => by injection he with he; have := hq.2.1; have := HGL.out; omega)) (ok' := fun _ => True) (fun _ _ => trivial))
                 have n1_ := Aside0.mk (Go.Proofs.Ytbajicdhhidicaa.Cl.Bk.grown HB.out hg30 rfl HGE.out)
                 have n2_ : Aside0 (Go.Proofs.Ytbajicdhhidicaa.Mp.MapB Try.prog 3 4 w30 gm (x2_1 ++ [x6_2]).length (fun q => decide (q ∈ x2_1 ++ [x6_2]))) := Aside0.mk (by
                  have e_ : (fun q => decide (q ∈ x2_1 ++ [x6_2])) = (fun q => if q = x6_2 then true else decide (q ∈ x2_1)) := by
                   funext q
                   by_cases e : q = x6_2 <;> simp [e]
                  rw [e_, List.length_append, List.length_singleton]
                  exact hm30)
                 clear hm30 hg30 HO_13 HB HM
                 go_wp2
                 go_roundg k2
                 case measure => have := HK1.out; have := HK2.out; omega
                 case rel => exact ⟨(x2_1 ++ [x6_2]), (wrap64 (x15_1 + 1)), rD, H', ⟨by have := HK1.out; have := HK2.out; omega⟩, n0_, n1_, n2_⟩
               · rw [if_neg cw] at H
                 exact absurd H (by simp)
         · rw [if_neg c11] at H
           exact absurd H (by simp)
       · rw [if_neg c10] at H
         exact absurd H (by simp)
     · rw [if_neg c9] at H
       have c9b0 : decide (x15_1 < (y122.length : Int)) = false := decide_eq_false c9
       clear c9
       obtain rfl := Option.some.inj H
       go_wp2
       first | go_end0 | ((try simp only [Exit.inBlock, Exit.then]); refine bodyPost_ret (results_none rfl _ _ _) rfl ?_)
       exact ⟨rfl, ⟨HI1.out, blk_kept QN.out HB.out.2 NN.out, blk_kept QM.out HB.out.2 NM.out, HM.out⟩, HB.out.1, HB.out.2⟩
 · rw [if_neg c5] at H
   exact absurd H (by simp)
set_option maxHeartbeats 8000000 in
set_option maxRecDepth 100000 in
theorem impl_thresholdTables.tabs (k : Nat) (a0 a1 : Int) (ks : List Int) (w : World) (h : Go.Proofs.Ytbajicdhhidicaa.Sm.impl_smallWeights.f (fun x s => impl_thresholdTables.cl.f k x a0 s) k a0 a1 [] = some ks) :
 Calls Try.prog 56 #[.int .i64 a0, .int .i64 a1] w fun e w' => ∃ gm, e = .returned (.map (some gm)) ∧ w.heap.size ≤ gm ∧ Go.Proofs.Ytbajicdhhidicaa.Mp.MapB Try.prog 3 4 w' gm ks.length (fun q => decide (q ∈ ks)) ∧ Below w.heap.size w w' := by
 have hmf : ∀ (fn : Fn) (first cap : Array Value) (w : World), (Instr.makeFunc fn first cap).run Try.prog w = .ok (.func fn first cap) w := fun _ _ _ _ => rfl
 have hmm := @run_makeMap Try.prog
 have hsm := Go.Proofs.Ytbajicdhhidicaa.Mp.store_map Try.prog
 have HKS := Aside0.mk h
 have HB := Aside0.mk (Below.refl w.heap.size w)
 clear h
 go_enter Try.func56, Try.ntmps56
 go_wp2_with (first | ((with_reducible refine gate_dst (N := 2) rfl ?_); refine box_event ?hg (N := 2) ?hd (cs := #[.int .i64 a0]) (t := 3) ?hr ?_; (case hd => rfl); (case hg => rfl); (case hr => first | (go_simp; done) | (go_simp; rfl)); intro gN hg w2 hbox hb; have n0_ := Aside0.mk (hbox); have n1_ := Aside0.mk (below_step HB.out hb); clear HB; have BN := n0_; have HB := n1_; clear n0_ n1_; clear hb hbox hg) | ((with_reducible refine gate_dst (N := 6) rfl ?_); refine Go.Proofs.Ytbajicdhhidicaa.Mp.map_event 3 4 ?hg ?hr ?_; (case hg => rfl); (case hr => first | (go_simp; done) | (go_simp; rfl)); intro gm hg w3 hmm hb; have n0_ := Aside0.mk (hmm); have n1_ := Aside0.mk ((by rw [hg]; exact HB.out.size : w.heap.size ≤ gm)); have n2_ := Aside0.mk ((by rw [hg]; exact Nat.ne_of_lt (blk_lt BN.out) : gN ≠ gm)); have n3_ := Aside0.mk (blk_below BN.out hb); have n4_ := Aside0.mk (below_step HB.out hb); clear BN HB; have HM := n0_; have GEM := n1_; have NN := n2_; have BN := n3_; have HB := n4_; clear n0_ n1_ n2_ n3_ n4_; clear hb hmm hg) | ((with_reducible refine gate_dst (N := 5) rfl ?_); refine box_event ?hg (N := 5) ?hd (cs := #[.map none]) (t := 69) ?hr ?_; (case hd => rfl); (case hg => rfl); (case hr => first | (go_simp; done) | (go_simp; rfl)); intro gM hg w4 hbox hb; have n0_ := Aside0.mk (hbox); have n1_ := Aside0.mk ((by rw [hg]; exact HB.out.size : w.heap.size ≤ gM)); have n2_ := Aside0.mk ((by rw [hg]; exact Nat.ne_of_gt HM.out.lt : gM ≠ gm)); have n3_ := Aside0.mk ((by rw [hg]; exact Nat.ne_of_lt (blk_lt BN.out) : gN ≠ gM)); have n4_ := Aside0.mk (blk_below BN.out hb); have n5_ := Aside0.mk (HM.out.move (hb.block gm HM.out.lt)); have n6_ := Aside0.mk (below_step HB.out hb); clear BN HM HB; have BM := n0_; have GEB := n1_; have NM := n2_; have NB := n3_; have BN := n4_; have HM := n5_; have HB := n6_; clear n0_ n1_ n2_ n3_ n4_ n5_ n6_; clear hb hbox hg; have hs0 : w4.cell? ⟨gM, 0, none⟩ = some (.map none) := (blk_cell BM.out 0).trans rfl; have hf0 := blk_frozen BM.out 0) | ((with_reducible refine gate_store (t := 69) (p := 5) rfl ?_); refine store_event (t := 69) (p := 5) (v := ?vo_w5) (w1 := (w4.setCell ⟨gM, 0, none⟩ (.map (some gm)))) ?hg ?ho ?hn ?hr ?_; (case ho => rfl); (case hg => rfl); (case hn => rfl); (case hr => first | (go_simp; done) | (go_simp; rfl)); intro w5 hw; have n0_ : Aside0 (w5.heap[gN]? = some (.cells #[.int .i64 a0] 3 (0, 0))) := Aside0.mk (by rw [hw]; exact blk_far BN.out NB.out _); have n1_ : Aside0 (w5.heap[gM]? = some (.cells #[.map (some gm)] 69 (0, 0))) := Aside0.mk (by rw [hw]; exact (blk_set BM.out 0 _).trans rfl); have n2_ : Aside0 (Go.Proofs.Ytbajicdhhidicaa.Mp.MapB Try.prog 3 4 w5 gm 0 (fun _ => false)) := Aside0.mk (by rw [hw]; exact HM.out.move (Below.heap_setCell _ _ _ gm (fun h_ => NM.out h_.symm))); have n3_ : Aside0 (Below w.heap.size w w5) := Aside0.mk (by rw [hw]; exact below_set HB.out GEB.out); clear BN BM HM HB hs0 hf0 hw; have BN := n0_; have BM := n1_; have HM := n2_; have HB := n3_; clear n0_ n1_ n2_ n3_; have hs1 : w5.cell? ⟨gN, 0, none⟩ = some (.int .i64 a0) := (blk_cell BN.out 0).trans rfl) | ((with_reducible refine gate_callee (f := 52) rfl ?_); refine goesL_ (some 10) rfl rfl Try.func52 (by kernel_rfl) rfl #[.int .i64 a0, .int .i64 a1, .func (.func 63) #[] #[.pointer (some ⟨gN, 0, none⟩), .pointer (some ⟨gM, 0, none⟩)]] rfl aT ?_; refine (Go.Proofs.Ytbajicdhhidicaa.Sm.impl_smallWeights.tell (impl_thresholdTables.Inv gN gM gm w5 a0) (fun x s => impl_thresholdTables.cl.f k x a0 s) (fun q => q = gm) 63 _ #[.pointer (some ⟨gN, 0, none⟩), .pointer (some ⟨gM, 0, none⟩)] Try.func63 (by kernel_rfl) rfl w w5 HB.out (fun q hq => by subst hq; exact HM.out.lt) (impl_thresholdTables.move (blk_lt BN.out) (blk_lt BM.out) HM.out.lt) (fun x s s' A c w1 hI hA hf hb hsz hx hc => impl_thresholdTables.vis k a0 gN gM gm w w5 GEM.out HM.out.lt (Nat.le_refl _) NN.out NM.out x s s' A c w1 hI hsz hf hb hx hc) k a0 a1 [] ks (impl_thresholdTables.begin BN.out BM.out HM.out) HKS.out).mono ?_; rintro e w9 ⟨rfl, ⟨A9, hI9⟩, hB9, hK9⟩; refine ⟨_, rfl, ?_⟩; clear hs1; obtain ⟨_, _, hM9, hm9⟩ := hI9; have n0_ := Aside0.mk hM9; have n1_ := Aside0.mk hm9; have n2_ := Aside0.mk hB9; clear BN BM HM HB; have BM := n0_; have HM := n1_; have HB := n2_; clear n0_ n1_ n2_ hM9 hm9 hB9 hK9; have hs2 : w9.cell? ⟨gM, 0, none⟩ = some (.map (some gm)) := (blk_cell BM.out 0).trans rfl))
 go_ret
 exact ⟨gm, rfl, GEM.out, HM.out, HB.out⟩
mutual
def impl_thresholdTables.l0 (ks : List Int) : Nat → List (List Int) → Int → Int → Int → Option ((List (List Int)))
 | 0, _, _, _, _ => none
 | k + 1, x3, x5, x17, x18 => if x18 < x17 then (impl_thresholdTables.l1 ks k x3 x5 x18 (([] : List Int)) 0 x17 x18 x5 0) else (some x3)
def impl_thresholdTables.l1 (ks : List Int) : Nat → List (List Int) → Int → Int → List Int → Int → Int → Int → Int → Int → Option ((List (List Int)))
 | 0, _, _, _, _, _, _, _, _, _ => none
 | k + 1, x3, x5, x6, x7, x8, x17, x18, x22, x23 => if x23 < x22 then (if 0 ≤ (wrap64 ((wrap64 (x5 - 1)) - x23)) then (if x7.length < 17592186044416 then (if 0 ≤ x23 then (impl_thresholdTables.l1 ks k x3 x5 x6 (x7 ++ [Go.bits .and .i64 (shr .i64 x6 (wrap64 ((wrap64 (x5 - 1)) - x23))) 1]) (Go.bits .or .i64 x8 (shl .i64 (Go.bits .and .i64 (shr .i64 x6 (wrap64 ((wrap64 (x5 - 1)) - x23))) 1) x23)) x17 x18 x22 (wrap64 (x23 + 1))) else (none)) else (none)) else (none)) else (if (Lit.int .i64 x8).wf = true then (if x8 ∈ ks then (if x3.length < 5864062014805 then (impl_thresholdTables.l0 ks k (x3 ++ [x7]) x5 x17 (wrap64 (x18 + 1))) else (none)) else (impl_thresholdTables.l0 ks k x3 x5 x17 (wrap64 (x18 + 1)))) else none)
end
def impl_thresholdTables.f (k : Nat) (a0 : Int) : Option ((List (List Int))) := (Go.Proofs.Ytbajicdhhidicaa.Sm.impl_smallWeights.f (fun x s => impl_thresholdTables.cl.f k x a0 s) k a0 3 []).bind fun ks => (if 0 ≤ a0 then (if 0 ≤ (shl .i64 1 a0) then (impl_thresholdTables.l0 ks k (([] : List (List Int))) (shl .i64 1 a0) (shl .i64 1 (shl .i64 1 a0)) 0) else (none)) else (none))
set_option maxHeartbeats 8000000 in
set_option maxRecDepth 100000 in
theorem impl_thresholdTables.calls (k : Nat) (a0 : Int) (r : List (List Int)) (w : World) (h : impl_thresholdTables.f k a0 = some r) :
 Calls Try.prog 41 #[.int .i64 a0] w fun e w' => ∃ v0_ : Value, e = .returned (v0_) ∧ Kd.S (Kd.slice 3 (Kd.int .i64)) 22 w' w.heap.size (fun _ => True) v0_ r ∧ Below w.heap.size w w' := by
 have HB := Aside0.mk (Below.refl w.heap.size w)
 obtain ⟨ks, hks, h⟩ := Option.bind_eq_some_iff.mp h
 have HKS := Aside0.mk hks
 clear hks
 have hbz : ∀ w_ : World, (zeroValue 4).run Try.prog w_ = .ok (.bool false) w_ := fun _ => by kernel_rfl
 have H : (if 0 ≤ a0 then (if 0 ≤ (shl .i64 1 a0) then (impl_thresholdTables.l0 ks k (([] : List (List Int))) (shl .i64 1 a0) (shl .i64 1 (shl .i64 1 a0)) 0) else (none)) else (none)) = some r := h
 clear h
 obtain ⟨y101, hy101⟩ : ∃ y_ : List (List Int), y_ = (([] : List (List Int))) := ⟨_, rfl⟩
 replace H : (if 0 ≤ a0 then (if 0 ≤ (shl .i64 1 a0) then (impl_thresholdTables.l0 ks k y101 (shl .i64 1 a0) (shl .i64 1 (shl .i64 1 a0)) 0) else (none)) else (none)) = some r := by first | (rw [hy101]; with_reducible exact H) | (have H2_ := (Option.bind_some _ _).symm.trans H; rw [hy101]; with_reducible exact H2_) | (have H2_ := (Option.bind_some _ _).symm.trans H; with_reducible exact H2_) | with_reducible exact H | (rw [hy101]; exact H) | exact H
 have Ny101 := Aside0.mk hy101
 clear hy101
 by_cases c2 : 0 ≤ a0
 · rw [if_pos c2] at H
   have c2b0 := eq_true c2
   have c2b1 : decide (0 ≤ a0) = true := decide_eq_true c2
   clear c2
   obtain ⟨ji3, hji3⟩ : ∃ j_ : Int, (shl .i64 1 a0) = j_ := ⟨_, rfl⟩
   replace H : (if 0 ≤ (ji3) then (impl_thresholdTables.l0 ks k y101 ji3 (shl .i64 1 (ji3)) 0) else (none)) = some r := by first | (rw [hji3] at H; exact H) | (simp only [hji3] at H ⊢; exact H)
   have hji3_ : (IntKind.i64.wrap (1 * 2 ^ min a0.toNat 64)) = ji3 := hji3
   have hji3z : a0 ≤ 64 → (IntKind.i64.wrap (1 * 2 ^ a0.toNat)) = ji3 := shl_small hji3
   have hji3u : (IntKind.i64.wrap (2 ^ min a0.toNat 64)) = ji3 := by have h_ := hji3_; rw [Int.one_mul] at h_; exact h_
   have hji3v : a0 ≤ 64 → (IntKind.i64.wrap (2 ^ a0.toNat)) = ji3 := fun hle_ => by have h_ := hji3z hle_; rw [Int.one_mul] at h_; exact h_
   have hji3y : (wrap64 (1 * 2 ^ min a0.toNat 64)) = ji3 := (i64_w _).symm.trans hji3_
   have hji3x : a0 ≤ 64 → (wrap64 (1 * 2 ^ a0.toNat)) = ji3 := fun h_ => (i64_w _).symm.trans (hji3z h_)
   by_cases c4 : 0 ≤ (ji3)
   · rw [if_pos c4] at H
     have c4b0 := eq_true c4
     have c4b1 : decide (0 ≤ (ji3)) = true := decide_eq_true c4
     clear c4
     obtain ⟨ji5, hji5⟩ : ∃ j_ : Int, (shl .i64 1 (ji3)) = j_ := ⟨_, rfl⟩
     replace H : (impl_thresholdTables.l0 ks k y101 ji3 ji5 0) = some r := by first | (rw [hji5] at H; exact H) | (simp only [hji5] at H ⊢; exact H)
     have hji5_ : (IntKind.i64.wrap (1 * 2 ^ min (ji3).toNat 64)) = ji5 := hji5
     have hji5z : (ji3) ≤ 64 → (IntKind.i64.wrap (1 * 2 ^ (ji3).toNat)) = ji5 := shl_small hji5
     have hji5u : (IntKind.i64.wrap (2 ^ min (ji3).toNat 64)) = ji5 := by have h_ := hji5_; rw [Int.one_mul] at h_; exact h_
     have hji5v : (ji3) ≤ 64 → (IntKind.i64.wrap (2 ^ (ji3).toNat)) = ji5 := fun hle_ => by have h_ := hji5z hle_; rw [Int.one_mul] at h_; exact h_
     have hji5y : (wrap64 (1 * 2 ^ min (ji3).toNat 64)) = ji5 := (i64_w _).symm.trans hji5_
     have hji5x : (ji3) ≤ 64 → (wrap64 (1 * 2 ^ (ji3).toNat)) = ji5 := fun h_ => (i64_w _).symm.trans (hji5z h_)
     have H' := Aside0.mk H
     clear H
     go_enter Try.func41, Try.ntmps41
     go_wp2_with (first | ((with_reducible refine gate_dst (N := 11) rfl ?_); refine Kd.S_lit (Kd.slice 3 (Kd.int .i64)) _ 22 ?hg (N := 11) ?hd (xs := ([] : List (List Int))) (inner := []) (ok := fun _ => True) (okp := fun _ => True) ?hr ?hp (fun _ hk => hk) trivial (Below.refl _ _) (Nat.le_refl _) (by simp) ?_; (case hd => rfl); (case hg => rfl); (case hr => first | (go_simp; done) | (go_simp; rfl)); (case hp => exact (Reps.none _ _)); intro v102 w6 ho7 hb hg_ hnew_; clear hg_ hnew_; (first | rw [← Ny101.out] at ho7 | (simp only [Int.reduceToNat] at ho7; rw [← Ny101.out] at ho7)); have n0_ := Aside0.mk (Kd.S_lower ho7 (below_size (bB HB))); have n1_ := Aside0.mk (below_step (bB HB) hb); clear HB; have HO103 := n0_; have HB := n1_; clear n0_ n1_; clear hb ho7) | ((with_reducible refine gate_callee (f := 56) rfl ?_); refine goesL_ (some 13) rfl rfl Try.func56 (by kernel_rfl) rfl #[.int .i64 a0, .int .i64 3] rfl aT ?_; refine (impl_thresholdTables.tabs k a0 3 ks _ HKS.out).mono ?_; rintro e w5 ⟨gm, rfl, hgm, hmm, hb⟩; refine ⟨_, rfl, ?_⟩; have n0_ := Aside0.mk (Kd.S_below (pS HO103) hb); have n1_ := Aside0.mk (below_step (bB HB) hb); have HM := Aside0.mk hmm; clear HO103 HB hmm hb; have HO103 := n0_; have HB := n1_; clear n0_ n1_))
     go_loopg [3, 18] k (fun kq v3 v18 w' => ∃ (x3_1 : List (List Int)) (x18_1 : Int), v18 = .int .i64 x18_1 ∧ Aside0 (impl_thresholdTables.l0 ks kq x3_1 ji3 ji5 x18_1 = some r) ∧ Aside0 (kq ≤ k) ∧ Aside0 (Kd.S (Kd.slice 3 (Kd.int .i64)) 22 w' w.heap.size (fun _ => True) v3 x3_1) ∧ Aside0 (Below w.heap.size w w') ∧ Aside0 (Go.Proofs.Ytbajicdhhidicaa.Mp.MapB Try.prog 3 4 w' gm ks.length (fun q => decide (q ∈ ks))))
     case atStart => exact ⟨(y101), (0), rD, H', ⟨Nat.le_refl _⟩, ⟨pS HO103⟩, ⟨bB HB⟩, HM⟩
     case round =>
      clear H'
      try clear c2
      try clear c2b0
      try clear c2b1
      try clear c4
      try clear c4b0
      try clear c4b1
      clear HM
      obtain ⟨x3_1, x18_1, rfl, HA, HK1, HO_3, HB, HM⟩ := hrel
      cases gk with
      | zero => exact absurd HA.out (by simp [impl_thresholdTables.l0])
      | succ k1 =>
       have H := HA.out
       clear HA
       simp only [impl_thresholdTables.l0] at H
       by_cases c8 : x18_1 < ji5
       · rw [if_pos c8] at H
         have c8b0 : decide (x18_1 < ji5) = true := decide_eq_true c8
         clear c8
         obtain ⟨y104, hy104⟩ : ∃ y_ : List Int, y_ = (([] : List Int)) := ⟨_, rfl⟩
         replace H : (impl_thresholdTables.l1 ks k1 x3_1 ji3 x18_1 y104 0 ji5 x18_1 ji3 0) = some r := by first | (rw [hy104]; with_reducible exact H) | (have H2_ := (Option.bind_some _ _).symm.trans H; rw [hy104]; with_reducible exact H2_) | (have H2_ := (Option.bind_some _ _).symm.trans H; with_reducible exact H2_) | with_reducible exact H | (rw [hy104]; exact H) | exact H
         have Ny104 := Aside0.mk hy104
         clear hy104
         have H' := Aside0.mk H
         clear H
         go_wp2_with (first | ((with_reducible refine gate_dst (N := 21) rfl ?_); refine Kd.R_lit (Kd.int .i64) _ 3 ?hg (N := 21) ?hd (xs := ([] : List Int)) (inner := []) (ok := fun _ => True) (okp := fun _ => True) ?hr ?hp (fun _ hk => hk) trivial (Below.refl _ _) (Nat.le_refl _) (by simp) ?_; (case hd => rfl); (case hg => rfl); (case hr => first | (go_simp; done) | (go_simp; rfl)); (case hp => exact (Reps.none _ _)); intro v105 w9 ho10 hb hg_ hnew_; have nM_ := Aside0.mk (HM.out.move (hb.block gm HM.out.lt)); clear HM; have HM := nM_; clear nM_; clear hg_ hnew_; (first | rw [← Ny104.out] at ho10 | (simp only [Int.reduceToNat] at ho10; rw [← Ny104.out] at ho10)); have n0_ := Aside0.mk (Kd.S_elder' (pS HO_3) (Kd.R_base ho10) hb); have n1_ := Aside0.mk (Kd.R_lower ho10 (below_size (bB HB))); have n2_ := Aside0.mk (below_step (bB HB) hb); clear HO_3; clear HB; have HO_3 := n0_; have HO106 := n1_; have HB := n2_; clear n0_ n1_ n2_; clear hb ho10))
         go_loopg [7, 8, 23] k1 (fun kq v7 v8 v23 w' => ∃ (x7_2 : List Int) (x8_2 : Int) (x23_2 : Int), v8 = .int .i64 x8_2 ∧ v23 = .int .i64 x23_2 ∧ Aside0 (impl_thresholdTables.l1 ks kq x3_1 ji3 x18_1 x7_2 x8_2 ji5 x18_1 ji3 x23_2 = some r) ∧ Aside0 (kq ≤ k1) ∧ Aside0 (Kd.S (Kd.slice 3 (Kd.int .i64)) 22 w' w.heap.size (fun k_ => some k_ ≠ (v7 : Value).ownBlock) u3 x3_1) ∧ Aside0 (Kd.R (Kd.int .i64) 3 w' w.heap.size (fun _ => True) v7 x7_2) ∧ Aside0 (Below w.heap.size w w') ∧ Aside0 (Go.Proofs.Ytbajicdhhidicaa.Mp.MapB Try.prog 3 4 w' gm ks.length (fun q => decide (q ∈ ks))))
         case atStart => exact ⟨(y104), (0), (0), rD, rD, H', ⟨Nat.le_refl _⟩, ⟨by (with_reducible repeat (first | apply Kd.S_alloc | apply Kd.S_drewN | apply Kd.S_drew)); exact Kd.S_mono HO_3.out (fun _ hk => hk.2)⟩, ⟨pR HO106⟩, ⟨bB HB⟩, HM⟩
         case round =>
          clear H'
          try clear c2
          try clear c2b0
          try clear c2b1
          try clear c4
          try clear c4b0
          try clear c4b1
          try clear c8
          try clear c8b0
          clear HM
          obtain ⟨x7_2, x8_2, x23_2, rfl, rfl, HA, HK2, HO_3, HO_7, HB, HM⟩ := hrel
          cases gk with
          | zero => exact absurd HA.out (by simp [impl_thresholdTables.l1])
          | succ k2 =>
           have H := HA.out
           clear HA
           simp only [impl_thresholdTables.l1] at H
           by_cases c11 : x23_2 < ji3
           · rw [if_pos c11] at H
             have c11b0 : decide (x23_2 < ji3) = true := decide_eq_true c11
             clear c11
             obtain ⟨ji12, hji12⟩ : ∃ j_ : Int, (wrap64 ((wrap64 (ji3 - 1)) - x23_2)) = j_ := ⟨_, rfl⟩
             replace H : (if 0 ≤ (ji12) then (if x7_2.length < 17592186044416 then (if 0 ≤ x23_2 then (impl_thresholdTables.l1 ks k2 x3_1 ji3 x18_1 (x7_2 ++ [Go.bits .and .i64 (shr .i64 x18_1 (ji12)) 1]) (Go.bits .or .i64 x8_2 (shl .i64 (Go.bits .and .i64 (shr .i64 x18_1 (ji12)) 1) x23_2)) ji5 x18_1 ji3 (wrap64 (x23_2 + 1))) else (none)) else (none)) else (none)) = some r := by first | (rw [hji12] at H; exact H) | (simp only [hji12] at H ⊢; exact H)
             have hji12w : (IntKind.i64.wrap ((wrap64 (ji3 - 1)) - x23_2)) = ji12 := (i64_w _).trans hji12
             by_cases c13 : 0 ≤ (ji12)
             · rw [if_pos c13] at H
               have c13b0 := eq_true c13
               have c13b1 : decide (0 ≤ (ji12)) = true := decide_eq_true c13
               clear c13
               obtain ⟨ji14, hji14⟩ : ∃ j_ : Int, (shr .i64 x18_1 (ji12)) = j_ := ⟨_, rfl⟩
               replace H : (if x7_2.length < 17592186044416 then (if 0 ≤ x23_2 then (impl_thresholdTables.l1 ks k2 x3_1 ji3 x18_1 (x7_2 ++ [Go.bits .and .i64 (ji14) 1]) (Go.bits .or .i64 x8_2 (shl .i64 (Go.bits .and .i64 (ji14) 1) x23_2)) ji5 x18_1 ji3 (wrap64 (x23_2 + 1))) else (none)) else (none)) = some r := by first | (rw [hji14] at H; exact H) | (simp only [hji14] at H ⊢; exact H)
               have hji14_ : (x18_1 / 2 ^ min (ji12).toNat 64) = ji14 := hji14
               have hji14z : (ji12) ≤ 64 → (x18_1 / 2 ^ (ji12).toNat) = ji14 := shr_small hji14
               by_cases c15 : x7_2.length < 17592186044416
               · rw [if_pos c15] at H
                 have LMc15 := Aside0.mk c15
                 clear c15
                 obtain ⟨y107, hy107⟩ : ∃ y_ : List Int, y_ = (x7_2 ++ [Go.bits .and .i64 (ji14) 1]) := ⟨_, rfl⟩
                 replace H : (if 0 ≤ x23_2 then (impl_thresholdTables.l1 ks k2 x3_1 ji3 x18_1 y107 (Go.bits .or .i64 x8_2 (shl .i64 (Go.bits .and .i64 (ji14) 1) x23_2)) ji5 x18_1 ji3 (wrap64 (x23_2 + 1))) else (none)) = some r := by first | (rw [hy107]; with_reducible exact H) | (have H2_ := (Option.bind_some _ _).symm.trans H; rw [hy107]; with_reducible exact H2_) | (have H2_ := (Option.bind_some _ _).symm.trans H; with_reducible exact H2_) | with_reducible exact H | (rw [hy107]; exact H) | exact H
                 have Ny107 := Aside0.mk hy107
                 clear hy107
                 by_cases c16 : 0 ≤ x23_2
                 · rw [if_pos c16] at H
                   have c16b0 := eq_true c16
                   have c16b1 : decide (0 ≤ x23_2) = true := decide_eq_true c16
                   clear c16
                   obtain ⟨ji17, hji17⟩ : ∃ j_ : Int, (shl .i64 (Go.bits .and .i64 (ji14) 1) x23_2) = j_ := ⟨_, rfl⟩
                   replace H : (impl_thresholdTables.l1 ks k2 x3_1 ji3 x18_1 y107 (Go.bits .or .i64 x8_2 (ji17)) ji5 x18_1 ji3 (wrap64 (x23_2 + 1))) = some r := by first | (rw [hji17] at H; exact H) | (simp only [hji17] at H ⊢; exact H)
                   have hji17_ : (IntKind.i64.wrap ((Go.bits .and .i64 (ji14) 1) * 2 ^ min x23_2.toNat 64)) = ji17 := hji17
                   have hji17z : x23_2 ≤ 64 → (IntKind.i64.wrap ((Go.bits .and .i64 (ji14) 1) * 2 ^ x23_2.toNat)) = ji17 := shl_small hji17
                   have hji17y : (wrap64 ((Go.bits .and .i64 (ji14) 1) * 2 ^ min x23_2.toNat 64)) = ji17 := (i64_w _).symm.trans hji17_
                   have hji17x : x23_2 ≤ 64 → (wrap64 ((Go.bits .and .i64 (ji14) 1) * 2 ^ x23_2.toNat)) = ji17 := fun h_ => (i64_w _).symm.trans (hji17z h_)
                   have H' := Aside0.mk H
                   clear H
                   go_wp2_with (first | ((with_reducible refine gate_builtin (b := .append) (xs := #[.tmp 33, .tmp 35]) rfl ?_); at_builtin; refine Kd.R_append (Kd.int .i64) (w0 := w) w.heap.size rfl (.tmp 33) (.tmp 35) 22 3 (.int .i64 0) 8 rfl Try.underlying22 info3 rfl (by decide) (by omega) u7 x7_2 (Go.bits .and .i64 (ji14) 1) [.int .i64 (Go.bits .and .i64 (ji14) 1)] (fun _ => True) (fun _ => False) rfl rfl ?aP (fun _ hk => hk.elim) ?aF ?aO ?aB ?aS ?aL ?_; (case aP => exact rfl); (case aB => exact (bB HB)); (case aF => exact (fun _ _ => trivial)); (case aO => exact (pR HO_7)); (case aS => exact (below_size (bB HB))); (case aL => have := LMc15.out; omega); intro v108 w18 ho hb hg hat; have nM_ := Aside0.mk (HM.out.grown hg (Kd.R_typed HO_7.out)); clear HM; have HM := nM_; clear nM_; rw [← Ny107.out] at ho; have n0_ := Aside0.mk (Kd.S_after (ok := (fun _ => True)) (by (with_reducible repeat (first | apply Kd.S_alloc | apply Kd.S_drewN | apply Kd.S_drew)); exact Kd.S_mono HO_3.out (fun _ hk => ⟨trivial, hk⟩)) hg hat); have n1_ := Aside0.mk (hb); have n2_ := Aside0.mk (ho); clear HO_3; clear HB; clear HO_7; have HO_3 := n0_; have HB := n1_; have HO109 := n2_; clear n0_ n1_ n2_; clear ho hb hg hat))
                   go_roundg k2
                   case measure => have := HK1.out; have := HK2.out; omega
                   case rel => exact ⟨(y107), (Go.bits .or .i64 x8_2 (ji17)), (wrap64 (x23_2 + 1)), (by first | rfl | (simp; done) | (simp only [← hji17] <;> (first | rfl | simp)) | (simp [*]; done)), rD, H', ⟨by have := HK1.out; have := HK2.out; omega⟩, ⟨by (with_reducible repeat (first | apply Kd.S_alloc | apply Kd.S_drewN | apply Kd.S_drew)); exact Kd.S_mono HO_3.out (fun _ hk => hk.2)⟩, ⟨pR HO109⟩, ⟨bB HB⟩, HM⟩
                 · rw [if_neg c16] at H
                   exact absurd H (by simp)
               · rw [if_neg c15] at H
                 exact absurd H (by simp)
             · rw [if_neg c13] at H
               exact absurd H (by simp)
           · rw [if_neg c11] at H
             have c11b0 : decide (x23_2 < ji3) = false := decide_eq_false c11
             clear c11
             by_cases cw : (Lit.int .i64 x8_2).wf = true
             · rw [if_pos cw] at H
               have hlook := HM.out.look (t := 69) Try.underlying3 Try.underlying4 Try.underlying69 (hbz _) x8_2 cw
               by_cases c19 : x8_2 ∈ ks
               · rw [if_pos c19] at H
                 have c19b0 : decide (x8_2 ∈ ks) = true := decide_eq_true c19
                 clear c19
                 by_cases c20 : x3_1.length < 5864062014805
                 · rw [if_pos c20] at H
                   have LMc20 := Aside0.mk c20
                   clear c20
                   obtain ⟨y110, hy110⟩ : ∃ y_ : List (List Int), y_ = (x3_1 ++ [x7_2]) := ⟨_, rfl⟩
                   replace H : (impl_thresholdTables.l0 ks k2 y110 ji3 ji5 (wrap64 (x18_1 + 1))) = some r := by first | (rw [hy110]; with_reducible exact H) | (have H2_ := (Option.bind_some _ _).symm.trans H; rw [hy110]; with_reducible exact H2_) | (have H2_ := (Option.bind_some _ _).symm.trans H; with_reducible exact H2_) | with_reducible exact H | (rw [hy110]; exact H) | exact H
                   have Ny110 := Aside0.mk hy110
                   clear hy110
                   have H' := Aside0.mk H
                   clear H
                   obtain ⟨Ao22, co22, eo22⟩ := Kd.R_slice HO_7.out
                   subst eo22
                   go_wp2_with (first | ((with_reducible refine gate_builtin (b := .append) (xs := #[.tmp 46, .tmp 48]) rfl ?_); at_builtin; refine Kd.S_append (Kd.slice 3 (Kd.int .i64)) (w0 := w) w.heap.size rfl (.tmp 46) (.tmp 48) 28 22 (.slice none 0 0) 24 rfl Try.underlying28 info22 rfl (by decide) (by omega) u3 x3_1 x7_2 [.slice Ao22 x7_2.length co22] (fun _ => True) (fun k_ => some k_ = (.slice Ao22 x7_2.length co22 : Value).ownBlock) rfl rfl ?aP (fun k_ hk_ => ((Kd.R_mono (ok' := fun k_ => ((fun _ => True)) k_ ∧ some k_ ≠ (u3 : Value).ownBlock) (Kd.R_apart' (HO_7.out) (Kd.S_typed HO_3.out) (by decide)) (fun k_ hk => ⟨trivial, hk.2⟩))).1 k_ hk_.symm) ?aF ?aO ?aB ?aS ?aL ?_; (case aP => exact Kd.M_row (Kd.R_mono (Kd.R_tight rfl (Kd.R_mono (ok' := fun k_ => ((fun _ => True)) k_ ∧ some k_ ≠ (u3 : Value).ownBlock) (Kd.R_apart' (HO_7.out) (Kd.S_typed HO_3.out) (by decide)) (fun k_ hk => ⟨trivial, hk.2⟩))) (fun _ h_ => h_))); (case aB => exact (bB HB)); (case aF => exact (fun _ _ => trivial)); (case aO => exact (by (with_reducible repeat (first | apply Kd.S_alloc | apply Kd.S_drewN | apply Kd.S_drew)); exact Kd.S_mono HO_3.out (fun k_ hk => ⟨trivial, fun e_ => hk e_⟩))); (case aS => exact (below_size (bB HB))); (case aL => have := LMc20.out; omega); intro v111 w21 ho hb hg hat; have nM_ := Aside0.mk (HM.out.grown hg (Kd.S_typed HO_3.out)); clear HM; have HM := nM_; clear nM_; rw [← Ny110.out] at ho; have n0_ := Aside0.mk (hb); have n1_ := Aside0.mk (ho); clear HB; clear HO_3; clear HO_7; have HB := n0_; have HO112 := n1_; clear n0_ n1_; clear ho hb hg hat))
                   go_roundg k2
                   case measure => have := HK1.out; have := HK2.out; omega
                   case rel => exact ⟨(y110), (wrap64 (x18_1 + 1)), rD, H', ⟨by have := HK1.out; have := HK2.out; omega⟩, ⟨pS HO112⟩, ⟨bB HB⟩, HM⟩
                 · rw [if_neg c20] at H
                   exact absurd H (by simp)
               · rw [if_neg c19] at H
                 have c19b0 : decide (x8_2 ∈ ks) = false := decide_eq_false c19
                 have H' := Aside0.mk H
                 clear H
                 go_wp2
                 go_roundg k2
                 case measure => have := HK1.out; have := HK2.out; omega
                 case rel => exact ⟨(x3_1), (wrap64 (x18_1 + 1)), rD, H', ⟨by have := HK1.out; have := HK2.out; omega⟩, ⟨by (with_reducible repeat (first | apply Kd.S_alloc | apply Kd.S_drewN | apply Kd.S_drew)); exact Kd.S_mono HO_3.out (fun _ hk => trivial)⟩, ⟨bB HB⟩, HM⟩
             · rw [if_neg cw] at H
               exact absurd H (by simp)
       · rw [if_neg c8] at H
         have c8b0 : decide (x18_1 < ji5) = false := decide_eq_false c8
         clear c8
         obtain rfl := Option.some.inj H
         go_wp2
         go_ret
         exact ⟨_, by first | rfl | (simp [errW_none, errW_some] <;> rfl) | (simp only [← hji3, ← hji5]; first | rfl | (simp [errW_none, errW_some] <;> rfl)) | (simp [*, errW_none, errW_some] <;> rfl), by (with_reducible repeat (first | apply Kd.S_alloc | apply Kd.S_drewN | apply Kd.S_drew)); exact HO_3.out, bB HB⟩
   · rw [if_neg c4] at H
     exact absurd H (by simp)
 · rw [if_neg c2] at H
   exact absurd H (by simp)

/-! ### impl_findPair: function 24 -/
mutual
def impl_findPair.l0 : Nat → List Int → List (List Int) → List (List Int) → List (List Int) → Int → Int → Option ((List (List Int)) × Bool)
 | 0, _, _, _, _, _, _ => none
 | k + 1, x1, x6, x7, x20, x21, x22 => if x22 < x21 then (if 0 ≤ x22 then (if x22 < (x20.length : Int) then (impl_findPair.l1 k x1 x6 x7 (rd_L1 x20 x22) x20 x21 x22 x6 (x6.length : Int) 0) else (none)) else (none)) else (some (([] : List (List Int)), false))
def impl_findPair.l1 : Nat → List Int → List (List Int) → List (List Int) → List Int → List (List Int) → Int → Int → List (List Int) → Int → Int → Option ((List (List Int)) × Bool)
 | 0, _, _, _, _, _, _, _, _, _, _ => none
 | k + 1, x1, x6, x7, x9, x20, x21, x22, x26, x27, x28 => if x28 < x27 then (if 0 ≤ x28 then (if x28 < (x26.length : Int) then (impl_findPair.l2 k x1 x6 x7 x9 (rd_L1 x26 x28) x20 x21 x22 x26 x27 x28 x7 (x7.length : Int) 0) else (none)) else (none)) else (impl_findPair.l0 k x1 x6 x7 x20 x21 (wrap64 (x22 + 1)))
def impl_findPair.l2 : Nat → List Int → List (List Int) → List (List Int) → List Int → List Int → List (List Int) → Int → Int → List (List Int) → Int → Int → List (List Int) → Int → Int → Option ((List (List Int)) × Bool)
 | 0, _, _, _, _, _, _, _, _, _, _, _, _, _, _ => none
 | k + 1, x1, x6, x7, x9, x11, x20, x21, x22, x26, x27, x28, x32, x33, x34 => if x34 < x33 then (if 0 ≤ x34 then (if x34 < (x32.length : Int) then (impl_findPair.l3 k x1 x6 x7 x9 x11 (rd_L1 x32 x34) true x20 x21 x22 x26 x27 x28 x32 x33 x34 x1 (x1.length : Int) 0) else (none)) else (none)) else (impl_findPair.l1 k x1 x6 x7 x9 x20 x21 x22 x26 x27 (wrap64 (x28 + 1)))
def impl_findPair.l3 : Nat → List Int → List (List Int) → List (List Int) → List Int → List Int → List Int → Bool → List (List Int) → Int → Int → List (List Int) → Int → Int → List (List Int) → Int → Int → List Int → Int → Int → Option ((List (List Int)) × Bool)
 | 0, _, _, _, _, _, _, _, _, _, _, _, _, _, _, _, _, _, _, _ => none
 | k + 1, x1, x6, x7, x9, x11, x13, x14, x20, x21, x22, x26, x27, x28, x32, x33, x34, x38, x39, x40 => if x40 < x39 then (if 0 ≤ x40 then (if x40 < (x38.length : Int) then (if x14 = true then (if x40 < (x9.length : Int) then (if x40 < (x11.length : Int) then (if 0 ≤ (Go.bits .or .i64 (rd x9 x40) (wrap64 ((rd x11 x40) * 2))) then (if (Go.bits .or .i64 (rd x9 x40) (wrap64 ((rd x11 x40) * 2))) < (x13.length : Int) then (impl_findPair.l3 k x1 x6 x7 x9 x11 x13 ((rd x13 (Go.bits .or .i64 (rd x9 x40) (wrap64 ((rd x11 x40) * 2)))) == (rd x38 x40)) x20 x21 x22 x26 x27 x28 x32 x33 x34 x38 x39 (wrap64 (x40 + 1))) else (none)) else (none)) else (none)) else (none)) else (impl_findPair.l3 k x1 x6 x7 x9 x11 x13 false x20 x21 x22 x26 x27 x28 x32 x33 x34 x38 x39 (wrap64 (x40 + 1)))) else (none)) else (none)) else (if x14 = true then (some (([x9, x11, x13] : List (List Int)), true)) else (impl_findPair.l2 k x1 x6 x7 x9 x11 x20 x21 x22 x26 x27 x28 x32 x33 (wrap64 (x34 + 1))))
end
def impl_findPair.f (k : Nat) (a0 : Int) (l1 : List Int) : Option ((List (List Int)) × Bool) := (impl_thresholdTables.f k a0).bind fun t219 => ((impl_thresholdTables.f k 2).bind fun t222 => (impl_findPair.l0 k l1 t219 t222 t219 (t219.length : Int) 0))
set_option maxHeartbeats 8000000 in
set_option maxRecDepth 100000 in
theorem impl_findPair.calls (k : Nat) (a0 : Int) (A1 : Option Addr) (c1 : Nat) (l1 : List Int) (r1 : List (List Int)) (r2 : Bool) (w : World) (hr1 : Kd.C (Kd.int .i64) w A1 l1.length l1) (hc1 : l1.length ≤ c1) (h : impl_findPair.f k a0 l1 = some (r1, r2)) :
 Calls Try.prog 24 #[.int .i64 a0, .slice A1 l1.length c1] w fun e w' => ∃ v0_ : Value, e = .returned (.tuple #[v0_, .bool r2]) ∧ Kd.N (Kd.slice 3 (Kd.int .i64)) 22 w' w.heap.size (fun k_ => w.heap.size ≤ k_) v0_ r1 ∧ Below w.heap.size w w' := by
 have HR1 := Aside0.mk hr1
 have HC1 := Aside0.mk hc1
 clear hr1 hc1
 have HB := Aside0.mk (Below.refl w.heap.size w)
 have H : ((impl_thresholdTables.f k a0).bind fun t219 => ((impl_thresholdTables.f k 2).bind fun t222 => (impl_findPair.l0 k l1 t219 t222 t219 (t219.length : Int) 0))) = some (r1, r2) := h
 clear h
 replace H := Option.bind_eq_some_iff.mp H
 obtain ⟨t219, A30, H⟩ := H
 replace H : ((impl_thresholdTables.f k 2).bind fun t222 => (impl_findPair.l0 k l1 t219 t222 t219 (t219.length : Int) 0)) = some (r1, r2) := H
 have A3 := Aside0.mk A30
 clear A30
 replace H := Option.bind_eq_some_iff.mp H
 obtain ⟨t222, A40, H⟩ := H
 replace H : (impl_findPair.l0 k l1 t219 t222 t219 (t219.length : Int) 0) = some (r1, r2) := H
 have A4 := Aside0.mk A40
 clear A40
 have H' := Aside0.mk H
 clear H
 go_enter Try.func24, Try.ntmps24
 go_wp2_with (first | (go_at_call 41; (with_reducible refine (impl_thresholdTables.calls k a0 t219 _ A3.out).mono ?_); rintro e w5 ⟨v220, rfl, ho0, hb⟩; have n0_ := Aside0.mk (Kd.S_lower ho0 (below_size (bB HB))); have n1_ := Aside0.mk (below_step (bB HB) hb); clear HB; have HO221 := n0_; have HB := n1_; clear n0_ n1_; (try clear hb); (try clear hb2); (try clear hk); (try clear hi); (try clear ho0)) | (go_at_call 41; (with_reducible refine (impl_thresholdTables.calls k 2 t222 _ A4.out).mono ?_); rintro e w6 ⟨v223, rfl, ho0, hb⟩; have n0_ := Aside0.mk (Kd.S_elder' (pS HO221) (Kd.S_base ho0) hb); have n1_ := Aside0.mk (Kd.S_lower (Kd.S_new' ho0 (Kd.S_lt (pS HO221))) (below_size (bB HB))); have n2_ := Aside0.mk (below_step (bB HB) hb); clear HO221; clear HB; have HO221 := n0_; have HO224 := n1_; have HB := n2_; clear n0_ n1_ n2_; (try clear hb); (try clear hb2); (try clear hk); (try clear hi); (try clear ho0); obtain ⟨Ao7, co7, eo7⟩ := Kd.S_slice HO221.out; subst eo7))
 repeat (go_quiet (first | (go_at_call 41; (with_reducible refine (impl_thresholdTables.calls k a0 t219 _ A3.out).mono ?_); rintro e w5 ⟨v220, rfl, ho0, hb⟩; have n0_ := Aside0.mk (Kd.S_lower ho0 (below_size (bB HB))); have n1_ := Aside0.mk (below_step (bB HB) hb); clear HB; have HO221 := n0_; have HB := n1_; clear n0_ n1_; (try clear hb); (try clear hb2); (try clear hk); (try clear hi); (try clear ho0)) | (go_at_call 41; (with_reducible refine (impl_thresholdTables.calls k 2 t222 _ A4.out).mono ?_); rintro e w6 ⟨v223, rfl, ho0, hb⟩; have n0_ := Aside0.mk (Kd.S_elder' (pS HO221) (Kd.S_base ho0) hb); have n1_ := Aside0.mk (Kd.S_lower (Kd.S_new' ho0 (Kd.S_lt (pS HO221))) (below_size (bB HB))); have n2_ := Aside0.mk (below_step (bB HB) hb); clear HO221; clear HB; have HO221 := n0_; have HO224 := n1_; have HB := n2_; clear n0_ n1_ n2_; (try clear hb); (try clear hb2); (try clear hk); (try clear hi); (try clear ho0); obtain ⟨Ao7, co7, eo7⟩ := Kd.S_slice HO221.out; subst eo7)); try go_wp2_with (first | (go_at_call 41; (with_reducible refine (impl_thresholdTables.calls k a0 t219 _ A3.out).mono ?_); rintro e w5 ⟨v220, rfl, ho0, hb⟩; have n0_ := Aside0.mk (Kd.S_lower ho0 (below_size (bB HB))); have n1_ := Aside0.mk (below_step (bB HB) hb); clear HB; have HO221 := n0_; have HB := n1_; clear n0_ n1_; (try clear hb); (try clear hb2); (try clear hk); (try clear hi); (try clear ho0)) | (go_at_call 41; (with_reducible refine (impl_thresholdTables.calls k 2 t222 _ A4.out).mono ?_); rintro e w6 ⟨v223, rfl, ho0, hb⟩; have n0_ := Aside0.mk (Kd.S_elder' (pS HO221) (Kd.S_base ho0) hb); have n1_ := Aside0.mk (Kd.S_lower (Kd.S_new' ho0 (Kd.S_lt (pS HO221))) (below_size (bB HB))); have n2_ := Aside0.mk (below_step (bB HB) hb); clear HO221; clear HB; have HO221 := n0_; have HO224 := n1_; have HB := n2_; clear n0_ n1_ n2_; (try clear hb); (try clear hb2); (try clear hk); (try clear hi); (try clear ho0); obtain ⟨Ao7, co7, eo7⟩ := Kd.S_slice HO221.out; subst eo7)))
 go_loopg [22] k (fun kq v22 w' => ∃ (x22_1 : Int), v22 = .int .i64 x22_1 ∧ Aside0 (impl_findPair.l0 kq l1 t219 t222 t219 (t219.length : Int) x22_1 = some (r1, r2)) ∧ Aside0 (kq ≤ k) ∧ Aside0 (Kd.S (Kd.slice 3 (Kd.int .i64)) 22 w' w.heap.size (fun k_ => some k_ ≠ (v223 : Value).ownBlock) (.slice Ao7 t219.length co7) t219) ∧ Aside0 (Kd.S (Kd.slice 3 (Kd.int .i64)) 22 w' w.heap.size (fun k_ => some k_ ≠ ((.slice Ao7 t219.length co7) : Value).ownBlock ∧ some k_ ≠ ((.slice Ao7 t219.length co7) : Value).ownBlock) v223 t222) ∧ Aside0 (Kd.S (Kd.slice 3 (Kd.int .i64)) 22 w' w.heap.size (fun k_ => some k_ ≠ (v223 : Value).ownBlock) (.slice Ao7 t219.length co7) t219) ∧ Aside0 (Below w.heap.size w w'))
 case atStart => exact ⟨(0), rD, H', ⟨Nat.le_refl _⟩, ⟨by (with_reducible repeat (first | apply Kd.S_alloc | apply Kd.S_drewN | apply Kd.S_drew)); exact Kd.S_mono HO221.out (fun _ hk => hk.2)⟩, ⟨by (with_reducible repeat (first | apply Kd.S_alloc | apply Kd.S_drewN | apply Kd.S_drew)); exact Kd.S_mono HO224.out (fun _ hk => ⟨hk.2, hk.2⟩)⟩, ⟨by (with_reducible repeat (first | apply Kd.S_alloc | apply Kd.S_drewN | apply Kd.S_drew)); exact Kd.S_mono HO221.out (fun _ hk => hk.2)⟩, ⟨bB HB⟩⟩
 case round =>
  clear H'
  try clear c1
  obtain ⟨x22_1, rfl, HA, HK1, HO_6, HO_7, HO_20, HB⟩ := hrel
  cases gk with
  | zero => exact absurd HA.out (by simp [impl_findPair.l0])
  | succ k1 =>
   have H := HA.out
   clear HA
   simp only [impl_findPair.l0] at H
   by_cases c8 : x22_1 < (t219.length : Int)
   · rw [if_pos c8] at H
     have c8b0 : decide (x22_1 < (t219.length : Int)) = true := decide_eq_true c8
     clear c8
     by_cases c9 : 0 ≤ x22_1
     · rw [if_pos c9] at H
       have c9b0 : decide (0 ≤ x22_1) = true := decide_eq_true c9
       clear c9
       by_cases c10 : x22_1 < (t219.length : Int)
       · rw [if_pos c10] at H
         have c10b0 : decide (x22_1 < (t219.length : Int)) = true := decide_eq_true c10
         clear c10
         have H' := Aside0.mk H
         clear H
         have p225 : 0 ≤ (x22_1 : Int) := of_decide_eq_true aS
         have q225 : x22_1 < (t219.length : Int) := of_decide_eq_true aS
         obtain ⟨ad225, A225_0, c225_0, e225, hx225_0, hl225_0, hi225_0⟩ := at_L1 (Kd.S_reads' HO_20.out).2.2 x22_1 p225 q225
         cases e225
         obtain ⟨ce225, hce225, hMe225, hcc225⟩ := Kd.S_get HO_20.out [] x22_1 p225 (by first | exact q225 | exact of_decide_eq_true aS | (have e_ := (Kd.S_reads' HO_20.out).1; omega))
         obtain ⟨ve225_0, rfl, ge225_0⟩ := hMe225
         have hv225_0 := hcc225 0 _ rfl
         rw [Nat.add_zero, show ((Kd.slice 3 (Kd.int .i64))).sz = 1 from rfl, Nat.mul_one] at hv225_0
         replace hv225_0 := Option.some.inj (hv225_0.symm.trans hx225_0)
         rw [hv225_0] at ge225_0
         have HL225_0 := Aside0.mk (show Kd.R (Kd.int .i64) 3 _ _ _ _ (rd_L1 t219 x22_1) from ge225_0)
         clear hv225_0 ge225_0
         clear hcc225 hce225
         have HR225_0 := Aside0.mk (show Kd.V (Kd.int .i64) 3 _ w.heap.size (fun q => w.heap.size ≤ q) (.slice A225_0 (rd_L1 t219 x22_1).length c225_0) (rd_L1 t219 x22_1) from Kd.V_mono (Kd.R_V (Kd.R_bound HL225_0.out)) (fun q hq => hq.2.1))
         have HC225_0 := Aside0.mk hl225_0
         clear hi225_0 hl225_0
         replace p225 := eq_true p225
         replace q225 := eq_true q225
         go_wp2
         repeat (go_quiet (fail); try go_wp2)
         go_loopg [28] k1 (fun kq v28 w' => ∃ (x28_2 : Int), v28 = .int .i64 x28_2 ∧ Aside0 (impl_findPair.l1 kq l1 t219 t222 (rd_L1 t219 x22_1) t219 (t219.length : Int) x22_1 t219 (t219.length : Int) x28_2 = some (r1, r2)) ∧ Aside0 (kq ≤ k1) ∧ Aside0 (Kd.S (Kd.slice 3 (Kd.int .i64)) 22 w' w.heap.size (fun k_ => some k_ ≠ (v223 : Value).ownBlock) (.slice (some ad225) t219.length co7) t219) ∧ Aside0 (Kd.S (Kd.slice 3 (Kd.int .i64)) 22 w' w.heap.size (fun k_ => some k_ ≠ ((.slice (some ad225) t219.length co7) : Value).ownBlock ∧ some k_ ≠ ((.slice (some ad225) t219.length co7) : Value).ownBlock ∧ some k_ ≠ ((.slice (some ad225) t219.length co7) : Value).ownBlock) v223 t222) ∧ Aside0 (Kd.S (Kd.slice 3 (Kd.int .i64)) 22 w' w.heap.size (fun k_ => some k_ ≠ (v223 : Value).ownBlock) (.slice (some ad225) t219.length co7) t219) ∧ Aside0 (Kd.S (Kd.slice 3 (Kd.int .i64)) 22 w' w.heap.size (fun k_ => some k_ ≠ (v223 : Value).ownBlock) (.slice (some ad225) t219.length co7) t219) ∧ Aside0 (Kd.V (Kd.int .i64) 3 w' w.heap.size (fun q => w.heap.size ≤ q) (.slice A225_0 (rd_L1 t219 x22_1).length c225_0) (rd_L1 t219 x22_1)) ∧ Aside0 (Below w.heap.size w w'))
         case atStart => exact ⟨(0), rD, H', ⟨Nat.le_refl _⟩, ⟨pS HO_6⟩, ⟨by (with_reducible repeat (first | apply Kd.S_alloc | apply Kd.S_drewN | apply Kd.S_drew)); exact Kd.S_mono HO_7.out (fun _ hk => ⟨hk.1, ⟨hk.2, hk.1⟩⟩)⟩, ⟨pS HO_20⟩, ⟨pS HO_6⟩, ⟨by repeat (first | (with_reducible exact HR225_0.out) | (with_reducible refine Kd.V_alloc ?_ _) | (with_reducible refine Kd.V_drewN ?_ _) | (with_reducible refine Kd.V_drew ?_) | exact HR225_0.out)⟩, ⟨bB HB⟩⟩
         case round =>
          clear H'
          try clear c1
          try clear c8
          try clear c8b0
          try clear c9
          try clear c9b0
          try clear c10
          try clear c10b0
          try clear hx225_0
          try clear p225
          try clear q225
          obtain ⟨x28_2, rfl, HA, HK2, HO_6, HO_7, HO_20, HO_26, HR225_0, HB⟩ := hrel
          cases gk with
          | zero => exact absurd HA.out (by simp [impl_findPair.l1])
          | succ k2 =>
           have H := HA.out
           clear HA
           simp only [impl_findPair.l1] at H
           by_cases c11 : x28_2 < (t219.length : Int)
           · rw [if_pos c11] at H
             have c11b0 : decide (x28_2 < (t219.length : Int)) = true := decide_eq_true c11
             clear c11
             by_cases c12 : 0 ≤ x28_2
             · rw [if_pos c12] at H
               have c12b0 : decide (0 ≤ x28_2) = true := decide_eq_true c12
               clear c12
               by_cases c13 : x28_2 < (t219.length : Int)
               · rw [if_pos c13] at H
                 have c13b0 : decide (x28_2 < (t219.length : Int)) = true := decide_eq_true c13
                 clear c13
                 have H' := Aside0.mk H
                 clear H
                 have p226 : 0 ≤ (x28_2 : Int) := of_decide_eq_true aS
                 have q226 : x28_2 < (t219.length : Int) := of_decide_eq_true aS
                 obtain ⟨ad226, A226_0, c226_0, e226, hx226_0, hl226_0, hi226_0⟩ := at_L1 (Kd.S_reads' HO_26.out).2.2 x28_2 p226 q226
                 obtain rfl : ad225 = ad226 := (by injection e226)
                 obtain ⟨ce226, hce226, hMe226, hcc226⟩ := Kd.S_get HO_26.out [] x28_2 p226 (by first | exact q226 | exact of_decide_eq_true aS | (have e_ := (Kd.S_reads' HO_26.out).1; omega))
                 obtain ⟨ve226_0, rfl, ge226_0⟩ := hMe226
                 have hv226_0 := hcc226 0 _ rfl
                 rw [Nat.add_zero, show ((Kd.slice 3 (Kd.int .i64))).sz = 1 from rfl, Nat.mul_one] at hv226_0
                 replace hv226_0 := Option.some.inj (hv226_0.symm.trans hx226_0)
                 rw [hv226_0] at ge226_0
                 have HL226_0 := Aside0.mk (show Kd.R (Kd.int .i64) 3 _ _ _ _ (rd_L1 t219 x28_2) from ge226_0)
                 clear hv226_0 ge226_0
                 clear hcc226 hce226
                 have HR226_0 := Aside0.mk (show Kd.V (Kd.int .i64) 3 _ w.heap.size (fun q => w.heap.size ≤ q) (.slice A226_0 (rd_L1 t219 x28_2).length c226_0) (rd_L1 t219 x28_2) from Kd.V_mono (Kd.R_V (Kd.R_bound HL226_0.out)) (fun q hq => hq.2.1))
                 have HC226_0 := Aside0.mk hl226_0
                 clear hi226_0 hl226_0
                 replace p226 := eq_true p226
                 replace q226 := eq_true q226
                 obtain ⟨Ao14, co14, eo14⟩ := Kd.S_slice HO_7.out
                 subst eo14
                 go_wp2
                 repeat (go_quiet (fail); try go_wp2)
                 go_loopg [34] k2 (fun kq v34 w' => ∃ (x34_3 : Int), v34 = .int .i64 x34_3 ∧ Aside0 (impl_findPair.l2 kq l1 t219 t222 (rd_L1 t219 x22_1) (rd_L1 t219 x28_2) t219 (t219.length : Int) x22_1 t219 (t219.length : Int) x28_2 t222 (t222.length : Int) x34_3 = some (r1, r2)) ∧ Aside0 (kq ≤ k2) ∧ Aside0 (Kd.S (Kd.slice 3 (Kd.int .i64)) 22 w' w.heap.size (fun k_ => some k_ ≠ ((.slice Ao14 t222.length co14) : Value).ownBlock ∧ some k_ ≠ ((.slice Ao14 t222.length co14) : Value).ownBlock) (.slice (some ad225) t219.length co7) t219) ∧ Aside0 (Kd.S (Kd.slice 3 (Kd.int .i64)) 22 w' w.heap.size (fun k_ => some k_ ≠ ((.slice (some ad225) t219.length co7) : Value).ownBlock ∧ some k_ ≠ ((.slice (some ad225) t219.length co7) : Value).ownBlock ∧ some k_ ≠ ((.slice (some ad225) t219.length co7) : Value).ownBlock) (.slice Ao14 t222.length co14) t222) ∧ Aside0 (Kd.S (Kd.slice 3 (Kd.int .i64)) 22 w' w.heap.size (fun k_ => some k_ ≠ ((.slice Ao14 t222.length co14) : Value).ownBlock ∧ some k_ ≠ ((.slice Ao14 t222.length co14) : Value).ownBlock) (.slice (some ad225) t219.length co7) t219) ∧ Aside0 (Kd.S (Kd.slice 3 (Kd.int .i64)) 22 w' w.heap.size (fun k_ => some k_ ≠ ((.slice Ao14 t222.length co14) : Value).ownBlock ∧ some k_ ≠ ((.slice Ao14 t222.length co14) : Value).ownBlock) (.slice (some ad225) t219.length co7) t219) ∧ Aside0 (Kd.S (Kd.slice 3 (Kd.int .i64)) 22 w' w.heap.size (fun k_ => some k_ ≠ ((.slice (some ad225) t219.length co7) : Value).ownBlock ∧ some k_ ≠ ((.slice (some ad225) t219.length co7) : Value).ownBlock ∧ some k_ ≠ ((.slice (some ad225) t219.length co7) : Value).ownBlock) (.slice Ao14 t222.length co14) t222) ∧ Aside0 (Kd.V (Kd.int .i64) 3 w' w.heap.size (fun q => w.heap.size ≤ q) (.slice A225_0 (rd_L1 t219 x22_1).length c225_0) (rd_L1 t219 x22_1)) ∧ Aside0 (Kd.V (Kd.int .i64) 3 w' w.heap.size (fun q => w.heap.size ≤ q) (.slice A226_0 (rd_L1 t219 x28_2).length c226_0) (rd_L1 t219 x28_2)) ∧ Aside0 (Below w.heap.size w w'))
                 case atStart => exact ⟨(0), rD, H', ⟨Nat.le_refl _⟩, ⟨by (with_reducible repeat (first | apply Kd.S_alloc | apply Kd.S_drewN | apply Kd.S_drew)); exact Kd.S_mono HO_6.out (fun _ hk => ⟨hk, hk⟩)⟩, ⟨pS HO_7⟩, ⟨by (with_reducible repeat (first | apply Kd.S_alloc | apply Kd.S_drewN | apply Kd.S_drew)); exact Kd.S_mono HO_20.out (fun _ hk => ⟨hk, hk⟩)⟩, ⟨by (with_reducible repeat (first | apply Kd.S_alloc | apply Kd.S_drewN | apply Kd.S_drew)); exact Kd.S_mono HO_26.out (fun _ hk => ⟨hk, hk⟩)⟩, ⟨pS HO_7⟩, ⟨by repeat (first | (with_reducible exact HR225_0.out) | (with_reducible refine Kd.V_alloc ?_ _) | (with_reducible refine Kd.V_drewN ?_ _) | (with_reducible refine Kd.V_drew ?_) | exact HR225_0.out)⟩, ⟨by repeat (first | (with_reducible exact HR226_0.out) | (with_reducible refine Kd.V_alloc ?_ _) | (with_reducible refine Kd.V_drewN ?_ _) | (with_reducible refine Kd.V_drew ?_) | exact HR226_0.out)⟩, ⟨bB HB⟩⟩
                 case round =>
                  clear H'
                  try clear c1
                  try clear c8
                  try clear c8b0
                  try clear c9
                  try clear c9b0
                  try clear c10
                  try clear c10b0
                  try clear c11
                  try clear c11b0
                  try clear c12
                  try clear c12b0
                  try clear c13
                  try clear c13b0
                  try clear hx225_0
                  try clear hx226_0
                  try clear p225
                  try clear p226
                  try clear q225
                  try clear q226
                  obtain ⟨x34_3, rfl, HA, HK3, HO_6, HO_7, HO_20, HO_26, HO_32, HR225_0, HR226_0, HB⟩ := hrel
                  cases gk with
                  | zero => exact absurd HA.out (by simp [impl_findPair.l2])
                  | succ k3 =>
                   have H := HA.out
                   clear HA
                   simp only [impl_findPair.l2] at H
                   by_cases c15 : x34_3 < (t222.length : Int)
                   · rw [if_pos c15] at H
                     have c15b0 : decide (x34_3 < (t222.length : Int)) = true := decide_eq_true c15
                     clear c15
                     by_cases c16 : 0 ≤ x34_3
                     · rw [if_pos c16] at H
                       have c16b0 : decide (0 ≤ x34_3) = true := decide_eq_true c16
                       clear c16
                       by_cases c17 : x34_3 < (t222.length : Int)
                       · rw [if_pos c17] at H
                         have c17b0 : decide (x34_3 < (t222.length : Int)) = true := decide_eq_true c17
                         clear c17
                         have H' := Aside0.mk H
                         clear H
                         have p227 : 0 ≤ (x34_3 : Int) := of_decide_eq_true aS
                         have q227 : x34_3 < (t222.length : Int) := of_decide_eq_true aS
                         obtain ⟨ad227, A227_0, c227_0, e227, hx227_0, hl227_0, hi227_0⟩ := at_L1 (Kd.S_reads' HO_32.out).2.2 x34_3 p227 q227
                         cases e227
                         obtain ⟨ce227, hce227, hMe227, hcc227⟩ := Kd.S_get HO_32.out [] x34_3 p227 (by first | exact q227 | exact of_decide_eq_true aS | (have e_ := (Kd.S_reads' HO_32.out).1; omega))
                         obtain ⟨ve227_0, rfl, ge227_0⟩ := hMe227
                         have hv227_0 := hcc227 0 _ rfl
                         rw [Nat.add_zero, show ((Kd.slice 3 (Kd.int .i64))).sz = 1 from rfl, Nat.mul_one] at hv227_0
                         replace hv227_0 := Option.some.inj (hv227_0.symm.trans hx227_0)
                         rw [hv227_0] at ge227_0
                         have HL227_0 := Aside0.mk (show Kd.R (Kd.int .i64) 3 _ _ _ _ (rd_L1 t222 x34_3) from ge227_0)
                         clear hv227_0 ge227_0
                         clear hcc227 hce227
                         have HR227_0 := Aside0.mk (show Kd.V (Kd.int .i64) 3 _ w.heap.size (fun q => w.heap.size ≤ q) (.slice A227_0 (rd_L1 t222 x34_3).length c227_0) (rd_L1 t222 x34_3) from Kd.V_mono (Kd.R_V (Kd.R_bound HL227_0.out)) (fun q hq => hq.2.1))
                         have HC227_0 := Aside0.mk hl227_0
                         clear hi227_0 hl227_0
                         replace p227 := eq_true p227
                         replace q227 := eq_true q227
                         go_wp2
                         repeat (go_quiet (fail); try go_wp2)
                         go_loopg [14, 40] k3 (fun kq v14 v40 w' => ∃ (x14_4 : Bool) (x40_4 : Int), v14 = .bool x14_4 ∧ v40 = .int .i64 x40_4 ∧ Aside0 (impl_findPair.l3 kq l1 t219 t222 (rd_L1 t219 x22_1) (rd_L1 t219 x28_2) (rd_L1 t222 x34_3) x14_4 t219 (t219.length : Int) x22_1 t219 (t219.length : Int) x28_2 t222 (t222.length : Int) x34_3 l1 (l1.length : Int) x40_4 = some (r1, r2)) ∧ Aside0 (kq ≤ k3) ∧ Aside0 (Kd.S (Kd.slice 3 (Kd.int .i64)) 22 w' w.heap.size (fun k_ => some k_ ≠ ((.slice (some ad227) t222.length co14) : Value).ownBlock ∧ some k_ ≠ ((.slice (some ad227) t222.length co14) : Value).ownBlock) (.slice (some ad225) t219.length co7) t219) ∧ Aside0 (Kd.S (Kd.slice 3 (Kd.int .i64)) 22 w' w.heap.size (fun k_ => some k_ ≠ ((.slice (some ad225) t219.length co7) : Value).ownBlock ∧ some k_ ≠ ((.slice (some ad225) t219.length co7) : Value).ownBlock ∧ some k_ ≠ ((.slice (some ad225) t219.length co7) : Value).ownBlock) (.slice (some ad227) t222.length co14) t222) ∧ Aside0 (Kd.S (Kd.slice 3 (Kd.int .i64)) 22 w' w.heap.size (fun k_ => some k_ ≠ ((.slice (some ad227) t222.length co14) : Value).ownBlock ∧ some k_ ≠ ((.slice (some ad227) t222.length co14) : Value).ownBlock) (.slice (some ad225) t219.length co7) t219) ∧ Aside0 (Kd.S (Kd.slice 3 (Kd.int .i64)) 22 w' w.heap.size (fun k_ => some k_ ≠ ((.slice (some ad227) t222.length co14) : Value).ownBlock ∧ some k_ ≠ ((.slice (some ad227) t222.length co14) : Value).ownBlock) (.slice (some ad225) t219.length co7) t219) ∧ Aside0 (Kd.S (Kd.slice 3 (Kd.int .i64)) 22 w' w.heap.size (fun k_ => some k_ ≠ ((.slice (some ad225) t219.length co7) : Value).ownBlock ∧ some k_ ≠ ((.slice (some ad225) t219.length co7) : Value).ownBlock ∧ some k_ ≠ ((.slice (some ad225) t219.length co7) : Value).ownBlock) (.slice (some ad227) t222.length co14) t222) ∧ Aside0 (Kd.V (Kd.int .i64) 3 w' w.heap.size (fun q => w.heap.size ≤ q) (.slice A225_0 (rd_L1 t219 x22_1).length c225_0) (rd_L1 t219 x22_1)) ∧ Aside0 (Kd.V (Kd.int .i64) 3 w' w.heap.size (fun q => w.heap.size ≤ q) (.slice A226_0 (rd_L1 t219 x28_2).length c226_0) (rd_L1 t219 x28_2)) ∧ Aside0 (Kd.V (Kd.int .i64) 3 w' w.heap.size (fun q => w.heap.size ≤ q) (.slice A227_0 (rd_L1 t222 x34_3).length c227_0) (rd_L1 t222 x34_3)) ∧ Aside0 (Below w.heap.size w w'))
                         case atStart => exact ⟨(true), (0), rD, rD, H', ⟨Nat.le_refl _⟩, ⟨pS HO_6⟩, ⟨pS HO_7⟩, ⟨pS HO_20⟩, ⟨pS HO_26⟩, ⟨pS HO_32⟩, ⟨by repeat (first | (with_reducible exact HR225_0.out) | (with_reducible refine Kd.V_alloc ?_ _) | (with_reducible refine Kd.V_drewN ?_ _) | (with_reducible refine Kd.V_drew ?_) | exact HR225_0.out)⟩, ⟨by repeat (first | (with_reducible exact HR226_0.out) | (with_reducible refine Kd.V_alloc ?_ _) | (with_reducible refine Kd.V_drewN ?_ _) | (with_reducible refine Kd.V_drew ?_) | exact HR226_0.out)⟩, ⟨by repeat (first | (with_reducible exact HR227_0.out) | (with_reducible refine Kd.V_alloc ?_ _) | (with_reducible refine Kd.V_drewN ?_ _) | (with_reducible refine Kd.V_drew ?_) | exact HR227_0.out)⟩, ⟨bB HB⟩⟩
                         case round =>
                          clear H'
                          try clear c1
                          try clear c8
                          try clear c8b0
                          try clear c9
                          try clear c9b0
                          try clear c10
                          try clear c10b0
                          try clear c11
                          try clear c11b0
                          try clear c12
                          try clear c12b0
                          try clear c13
                          try clear c13b0
                          try clear c15
                          try clear c15b0
                          try clear c16
                          try clear c16b0
                          try clear c17
                          try clear c17b0
                          try clear hx225_0
                          try clear hx226_0
                          try clear hx227_0
                          try clear p225
                          try clear p226
                          try clear p227
                          try clear q225
                          try clear q226
                          try clear q227
                          obtain ⟨x14_4, x40_4, rfl, rfl, HA, HK4, HO_6, HO_7, HO_20, HO_26, HO_32, HR225_0, HR226_0, HR227_0, HB⟩ := hrel
                          cases gk with
                          | zero => exact absurd HA.out (by simp [impl_findPair.l3])
                          | succ k4 =>
                           have H := HA.out
                           clear HA
                           simp only [impl_findPair.l3] at H
                           by_cases c18 : x40_4 < (l1.length : Int)
                           · rw [if_pos c18] at H
                             have c18b0 : decide (x40_4 < (l1.length : Int)) = true := decide_eq_true c18
                             clear c18
                             by_cases c19 : 0 ≤ x40_4
                             · rw [if_pos c19] at H
                               have c19b0 : decide (0 ≤ x40_4) = true := decide_eq_true c19
                               clear c19
                               by_cases c20 : x40_4 < (l1.length : Int)
                               · rw [if_pos c20] at H
                                 have c20b0 : decide (x40_4 < (l1.length : Int)) = true := decide_eq_true c20
                                 clear c20
                                 by_cases c21 : x14_4 = true
                                 · subst c21
                                   have H1 : (if x40_4 < ((rd_L1 t219 x22_1).length : Int) then (if x40_4 < ((rd_L1 t219 x28_2).length : Int) then (if 0 ≤ (Go.bits .or .i64 (rd (rd_L1 t219 x22_1) x40_4) (wrap64 ((rd (rd_L1 t219 x28_2) x40_4) * 2))) then (if (Go.bits .or .i64 (rd (rd_L1 t219 x22_1) x40_4) (wrap64 ((rd (rd_L1 t219 x28_2) x40_4) * 2))) < ((rd_L1 t222 x34_3).length : Int) then (impl_findPair.l3 k4 l1 t219 t222 (rd_L1 t219 x22_1) (rd_L1 t219 x28_2) (rd_L1 t222 x34_3) ((rd (rd_L1 t222 x34_3) (Go.bits .or .i64 (rd (rd_L1 t219 x22_1) x40_4) (wrap64 ((rd (rd_L1 t219 x28_2) x40_4) * 2)))) == (rd l1 x40_4)) t219 (t219.length : Int) x22_1 t219 (t219.length : Int) x28_2 t222 (t222.length : Int) x34_3 l1 (l1.length : Int) (wrap64 (x40_4 + 1))) else (none)) else (none)) else (none)) else (none)) = some (r1, r2) := by rw [if_pos rfl] at H; exact H
                                   clear H
                                   have H := H1
                                   clear H1
                                   by_cases c22 : x40_4 < ((rd_L1 t219 x22_1).length : Int)
                                   · rw [if_pos c22] at H
                                     have c22b0 : decide (x40_4 < ((rd_L1 t219 x22_1).length : Int)) = true := decide_eq_true c22
                                     clear c22
                                     by_cases c23 : x40_4 < ((rd_L1 t219 x28_2).length : Int)
                                     · rw [if_pos c23] at H
                                       have c23b0 : decide (x40_4 < ((rd_L1 t219 x28_2).length : Int)) = true := decide_eq_true c23
                                       clear c23
                                       obtain ⟨ji24, hji24⟩ : ∃ j_ : Int, (Go.bits .or .i64 (rd (rd_L1 t219 x22_1) x40_4) (wrap64 ((rd (rd_L1 t219 x28_2) x40_4) * 2))) = j_ := ⟨_, rfl⟩
                                       replace H : (if 0 ≤ (ji24) then (if (ji24) < ((rd_L1 t222 x34_3).length : Int) then (impl_findPair.l3 k4 l1 t219 t222 (rd_L1 t219 x22_1) (rd_L1 t219 x28_2) (rd_L1 t222 x34_3) ((rd (rd_L1 t222 x34_3) (ji24)) == (rd l1 x40_4)) t219 (t219.length : Int) x22_1 t219 (t219.length : Int) x28_2 t222 (t222.length : Int) x34_3 l1 (l1.length : Int) (wrap64 (x40_4 + 1))) else (none)) else (none)) = some (r1, r2) := by first | (rw [hji24] at H; exact H) | (simp only [hji24] at H ⊢; exact H)
                                       by_cases c25 : 0 ≤ (ji24)
                                       · rw [if_pos c25] at H
                                         have c25b0 : decide (0 ≤ (ji24)) = true := decide_eq_true c25
                                         clear c25
                                         by_cases c26 : (ji24) < ((rd_L1 t222 x34_3).length : Int)
                                         · rw [if_pos c26] at H
                                           have c26b0 : decide ((ji24) < ((rd_L1 t222 x34_3).length : Int)) = true := decide_eq_true c26
                                           clear c26
                                           have H' := Aside0.mk H
                                           clear H
                                           have p228 : 0 ≤ (x40_4 : Int) := of_decide_eq_true aS
                                           have q228 : x40_4 < (l1.length : Int) := of_decide_eq_true aS
                                           obtain ⟨ad228, e228, hx228_0⟩ := Kd.at_int HR1.out x40_4 p228 q228
                                           cases e228
                                           replace hx228_0 := (HB.out.cell (World.block_lt_of_cell? w _ hx228_0)).trans hx228_0
                                           replace p228 := eq_true p228
                                           replace q228 := eq_true q228
                                           have p229 : 0 ≤ (x40_4 : Int) := of_decide_eq_true aS
                                           have q229 : x40_4 < ((rd_L1 t219 x22_1).length : Int) := of_decide_eq_true aS
                                           obtain ⟨ad229, e229, hx229_0⟩ := Kd.at_int (Kd.V_reads' HR225_0.out).2.2 x40_4 p229 q229
                                           cases e229
                                           replace p229 := eq_true p229
                                           replace q229 := eq_true q229
                                           have p230 : 0 ≤ (x40_4 : Int) := of_decide_eq_true aS
                                           have q230 : x40_4 < ((rd_L1 t219 x28_2).length : Int) := of_decide_eq_true aS
                                           obtain ⟨ad230, e230, hx230_0⟩ := Kd.at_int (Kd.V_reads' HR226_0.out).2.2 x40_4 p230 q230
                                           cases e230
                                           replace p230 := eq_true p230
                                           replace q230 := eq_true q230
                                           have p231 : 0 ≤ ((ji24) : Int) := of_decide_eq_true aS
                                           have q231 : (ji24) < ((rd_L1 t222 x34_3).length : Int) := of_decide_eq_true aS
                                           obtain ⟨ad231, e231, hx231_0⟩ := Kd.at_int (Kd.V_reads' HR227_0.out).2.2 (ji24) p231 q231
                                           cases e231
                                           replace p231 := eq_true p231
                                           replace q231 := eq_true q231
                                           go_wp2
                                           repeat (go_quiet (fail); try go_wp2)
                                           go_roundg k4
                                           case measure => have := HK1.out; have := HK2.out; have := HK3.out; have := HK4.out; omega
                                           case rel => exact ⟨(((rd (rd_L1 t222 x34_3) (ji24)) == (rd l1 x40_4))), (wrap64 (x40_4 + 1)), (by first | rfl | (simp; done) | (simp only [← hji24] <;> (first | rfl | simp)) | (simp [*]; done)), rD, H', ⟨by have := HK1.out; have := HK2.out; have := HK3.out; have := HK4.out; omega⟩, ⟨pS HO_6⟩, ⟨pS HO_7⟩, ⟨pS HO_20⟩, ⟨pS HO_26⟩, ⟨pS HO_32⟩, ⟨by repeat (first | (with_reducible exact HR225_0.out) | (with_reducible refine Kd.V_alloc ?_ _) | (with_reducible refine Kd.V_drewN ?_ _) | (with_reducible refine Kd.V_drew ?_) | exact HR225_0.out)⟩, ⟨by repeat (first | (with_reducible exact HR226_0.out) | (with_reducible refine Kd.V_alloc ?_ _) | (with_reducible refine Kd.V_drewN ?_ _) | (with_reducible refine Kd.V_drew ?_) | exact HR226_0.out)⟩, ⟨by repeat (first | (with_reducible exact HR227_0.out) | (with_reducible refine Kd.V_alloc ?_ _) | (with_reducible refine Kd.V_drewN ?_ _) | (with_reducible refine Kd.V_drew ?_) | exact HR227_0.out)⟩, ⟨bB HB⟩⟩
                                         · rw [if_neg c26] at H
                                           exact absurd H (by simp)
                                       · rw [if_neg c25] at H
                                         exact absurd H (by simp)
                                     · rw [if_neg c23] at H
                                       exact absurd H (by simp)
                                   · rw [if_neg c22] at H
                                     exact absurd H (by simp)
                                 · replace c21 := Bool.eq_false_iff.mpr c21
                                   subst c21
                                   have H1 : (impl_findPair.l3 k4 l1 t219 t222 (rd_L1 t219 x22_1) (rd_L1 t219 x28_2) (rd_L1 t222 x34_3) false t219 (t219.length : Int) x22_1 t219 (t219.length : Int) x28_2 t222 (t222.length : Int) x34_3 l1 (l1.length : Int) (wrap64 (x40_4 + 1))) = some (r1, r2) := by rw [if_neg (show ¬ (false = true) by decide)] at H; exact H
                                   clear H
                                   have H := H1
                                   clear H1
                                   have H' := Aside0.mk H
                                   clear H
                                   have p228 : 0 ≤ (x40_4 : Int) := of_decide_eq_true aS
                                   have q228 : x40_4 < (l1.length : Int) := of_decide_eq_true aS
                                   obtain ⟨ad228, e228, hx228_0⟩ := Kd.at_int HR1.out x40_4 p228 q228
                                   cases e228
                                   replace hx228_0 := (HB.out.cell (World.block_lt_of_cell? w _ hx228_0)).trans hx228_0
                                   replace p228 := eq_true p228
                                   replace q228 := eq_true q228
                                   go_wp2
                                   repeat (go_quiet (fail); try go_wp2)
                                   go_roundg k4
                                   case measure => have := HK1.out; have := HK2.out; have := HK3.out; have := HK4.out; omega
                                   case rel => exact ⟨(false), (wrap64 (x40_4 + 1)), rD, rD, H', ⟨by have := HK1.out; have := HK2.out; have := HK3.out; have := HK4.out; omega⟩, ⟨pS HO_6⟩, ⟨pS HO_7⟩, ⟨pS HO_20⟩, ⟨pS HO_26⟩, ⟨pS HO_32⟩, ⟨by repeat (first | (with_reducible exact HR225_0.out) | (with_reducible refine Kd.V_alloc ?_ _) | (with_reducible refine Kd.V_drewN ?_ _) | (with_reducible refine Kd.V_drew ?_) | exact HR225_0.out)⟩, ⟨by repeat (first | (with_reducible exact HR226_0.out) | (with_reducible refine Kd.V_alloc ?_ _) | (with_reducible refine Kd.V_drewN ?_ _) | (with_reducible refine Kd.V_drew ?_) | exact HR226_0.out)⟩, ⟨by repeat (first | (with_reducible exact HR227_0.out) | (with_reducible refine Kd.V_alloc ?_ _) | (with_reducible refine Kd.V_drewN ?_ _) | (with_reducible refine Kd.V_drew ?_) | exact HR227_0.out)⟩, ⟨bB HB⟩⟩
                               · rw [if_neg c20] at H
                                 exact absurd H (by simp)
                             · rw [if_neg c19] at H
                               exact absurd H (by simp)
                           · rw [if_neg c18] at H
                             have c18b0 : decide (x40_4 < (l1.length : Int)) = false := decide_eq_false c18
                             clear c18
                             by_cases c27 : x14_4 = true
                             · subst c27
                               have H1 : (some (([rd_L1 t219 x22_1, rd_L1 t219 x28_2, rd_L1 t222 x34_3] : List (List Int)), true)) = some (r1, r2) := by rw [if_pos rfl] at H; exact H
                               clear H
                               have H := H1
                               clear H1
                               simp only [Option.some.injEq, Prod.mk.injEq] at H
                               obtain ⟨rfl, rfl⟩ := H
                               go_wp2_with (first | ((with_reducible refine gate_dst (N := 68) rfl ?_); refine Kd.N_lit (Kd.slice 3 (Kd.int .i64)) _ 22 ?hg (N' := 68) ?hd (xs := ([rd_L1 t219 x22_1, rd_L1 t219 x28_2, rd_L1 t222 x34_3] : List (List Int))) (inner := [.slice A225_0 (rd_L1 t219 x22_1).length c225_0, .slice A226_0 (rd_L1 t219 x28_2).length c226_0, .slice A227_0 (rd_L1 t222 x34_3).length c227_0]) (ok := (fun k_ => w.heap.size ≤ k_)) (okp := (fun k_ => w.heap.size ≤ k_)) ?hr ?hp (fun _ hk => hk) (below_size (bB HB)) (Below.refl _ _) (Nat.le_refl _) (by simp) ?_; (case hd => rfl); (case hg => rfl); (case hr => first | (go_simp; done) | (go_simp; rfl)); (case hp => exact (Reps.one (show Kd.FK (Kd.slice 3 (Kd.int .i64)) _ _ (rd_L1 t219 x22_1) [.slice A225_0 (rd_L1 t219 x22_1).length c225_0] from (Kd.FK_slice_mk (Kd.V_reads' (HR225_0.out)).2.1 (Kd.V_F HR225_0.out))) (Reps.one (show Kd.FK (Kd.slice 3 (Kd.int .i64)) _ _ (rd_L1 t219 x28_2) [.slice A226_0 (rd_L1 t219 x28_2).length c226_0] from (Kd.FK_slice_mk (Kd.V_reads' (HR226_0.out)).2.1 (Kd.V_F HR226_0.out))) (Reps.one (show Kd.FK (Kd.slice 3 (Kd.int .i64)) _ _ (rd_L1 t222 x34_3) [.slice A227_0 (rd_L1 t222 x34_3).length c227_0] from (Kd.FK_slice_mk (Kd.V_reads' (HR227_0.out)).2.1 (Kd.V_F HR227_0.out))) (Reps.none _ _)))));intro v69 w30 ho6 hb hg_ hnew_; have HN69 := Aside0.mk (Kd.N_lower ho6 (below_size (bB HB))); have n1_ := Aside0.mk (below_step (bB HB) hb); clear HB; have HB := n1_; clear n1_ hb ho6 hg_ hnew_))
                               repeat (go_quiet (fail); try go_wp2)
                               go_ret2
                               exact ⟨_, eW, HN69.out, bB HB⟩
                             · replace c27 := Bool.eq_false_iff.mpr c27
                               subst c27
                               have H1 : (impl_findPair.l2 k4 l1 t219 t222 (rd_L1 t219 x22_1) (rd_L1 t219 x28_2) t219 (t219.length : Int) x22_1 t219 (t219.length : Int) x28_2 t222 (t222.length : Int) (wrap64 (x34_3 + 1))) = some (r1, r2) := by rw [if_neg (show ¬ (false = true) by decide)] at H; exact H
                               clear H
                               have H := H1
                               clear H1
                               have H' := Aside0.mk H
                               clear H
                               go_wp2
                               repeat (go_quiet (fail); try go_wp2)
                               go_roundg k4
                               case measure => have := HK1.out; have := HK2.out; have := HK3.out; have := HK4.out; omega
                               case rel => exact ⟨(wrap64 (x34_3 + 1)), rD, H', ⟨by have := HK1.out; have := HK2.out; have := HK3.out; have := HK4.out; omega⟩, ⟨pS HO_6⟩, ⟨pS HO_7⟩, ⟨pS HO_20⟩, ⟨pS HO_26⟩, ⟨pS HO_32⟩, ⟨by repeat (first | (with_reducible exact HR225_0.out) | (with_reducible refine Kd.V_alloc ?_ _) | (with_reducible refine Kd.V_drewN ?_ _) | (with_reducible refine Kd.V_drew ?_) | exact HR225_0.out)⟩, ⟨by repeat (first | (with_reducible exact HR226_0.out) | (with_reducible refine Kd.V_alloc ?_ _) | (with_reducible refine Kd.V_drewN ?_ _) | (with_reducible refine Kd.V_drew ?_) | exact HR226_0.out)⟩, ⟨bB HB⟩⟩
                       · rw [if_neg c17] at H
                         exact absurd H (by simp)
                     · rw [if_neg c16] at H
                       exact absurd H (by simp)
                   · rw [if_neg c15] at H
                     have c15b0 : decide (x34_3 < (t222.length : Int)) = false := decide_eq_false c15
                     clear c15
                     have H' := Aside0.mk H
                     clear H
                     go_wp2
                     repeat (go_quiet (fail); try go_wp2)
                     go_roundg k3
                     case measure => have := HK1.out; have := HK2.out; have := HK3.out; omega
                     case rel => exact ⟨(wrap64 (x28_2 + 1)), rD, H', ⟨by have := HK1.out; have := HK2.out; have := HK3.out; omega⟩, ⟨by (with_reducible repeat (first | apply Kd.S_alloc | apply Kd.S_drewN | apply Kd.S_drew)); exact Kd.S_mono HO_6.out (fun _ hk => hk.1)⟩, ⟨pS HO_7⟩, ⟨by (with_reducible repeat (first | apply Kd.S_alloc | apply Kd.S_drewN | apply Kd.S_drew)); exact Kd.S_mono HO_20.out (fun _ hk => hk.1)⟩, ⟨by (with_reducible repeat (first | apply Kd.S_alloc | apply Kd.S_drewN | apply Kd.S_drew)); exact Kd.S_mono HO_26.out (fun _ hk => hk.1)⟩, ⟨by repeat (first | (with_reducible exact HR225_0.out) | (with_reducible refine Kd.V_alloc ?_ _) | (with_reducible refine Kd.V_drewN ?_ _) | (with_reducible refine Kd.V_drew ?_) | exact HR225_0.out)⟩, ⟨bB HB⟩⟩
               · rw [if_neg c13] at H
                 exact absurd H (by simp)
             · rw [if_neg c12] at H
               exact absurd H (by simp)
           · rw [if_neg c11] at H
             have c11b0 : decide (x28_2 < (t219.length : Int)) = false := decide_eq_false c11
             clear c11
             have H' := Aside0.mk H
             clear H
             go_wp2
             repeat (go_quiet (fail); try go_wp2)
             go_roundg k2
             case measure => have := HK1.out; have := HK2.out; omega
             case rel => exact ⟨(wrap64 (x22_1 + 1)), rD, H', ⟨by have := HK1.out; have := HK2.out; omega⟩, ⟨pS HO_6⟩, ⟨by (with_reducible repeat (first | apply Kd.S_alloc | apply Kd.S_drewN | apply Kd.S_drew)); exact Kd.S_mono HO_7.out (fun _ hk => ⟨hk.1, hk.2.1⟩)⟩, ⟨pS HO_20⟩, ⟨bB HB⟩⟩
       · rw [if_neg c10] at H
         exact absurd H (by simp)
     · rw [if_neg c9] at H
       exact absurd H (by simp)
   · rw [if_neg c8] at H
     have c8b0 : decide (x22_1 < (t219.length : Int)) = false := decide_eq_false c8
     clear c8
     simp only [Option.some.injEq, Prod.mk.injEq] at H
     obtain ⟨rfl, rfl⟩ := H
     go_wp2
     repeat (go_quiet (fail); try go_wp2)
     go_ret2
     exact ⟨_, eW, by first | exact Kd.S_nil _ _ _ _ _ | exact Kd.N_nil _ _ _ _ _ | exact Kd.V_nil _ _ _ _ _ | exact Kd.Q_nil _ _ _ _ _ | exact Kd.R_nil _ _ _ _ _, bB HB⟩

end Go.Proofs.Ytbajicdhhidicaa.PFnExactGatesNeeded
