-- Printed by wip/tools/myprint.py (the printer of the kit, patched by that program; roots chosen by it)
import Derived.Test.YtfkfahdikmfpeaaPFnExactSinglePlanex0
import Derived.Test.YtfkfahdikmfpeaaPFnExactSinglePlanex4
import Derived.Test.YtfkfahdikmfpeaaPFnExactSinglePlanex7
import Derived.Test.YtfkfahdikmfpeaaSh
namespace Go.Proofs.Ytfkfahdikmfpeaa.PFnExactSinglePlane
open Go.RowKit Go.Proofs.Ytfkfahdikmfpeaa.Sh Go.Proofs.YtfkfahdikmfpeaaW.PrintWords Go.Proofs.YtfkfahdikmfpeaaW.PrintLast Go.Proofs.YtfkfahdikmfpeaaW.PrintMore
attribute [local go_sem] max2_int min2_int max_two min_two max_three min_three max_four min_four   -- for this text's walks alone
set_option linter.unusedVariables false
set_option linter.unusedSimpArgs false

/-! ### spec_l9Tables: function 68 -/
mutual
def spec_l9Tables.l0 : Nat → List (List Int) → Int → Int → List (List (S39)) → Option ((List (List Int)))
 | 0, _, _, _, _ => none
 | k + 1, x3, x4, x241000, x241001 => if 0 ≤ x241000 then (if x4 < (shl .i64 1 x241000) then ((spec_l2BitPoint.f k x241000 x4).bind fun t245 => ((spec_l9Run.f k x241000 x241001 t245).bind fun t248 => (spec_l9Tables.l1 k x3 x4 t248 0 x241000 x241001))) else (some x3)) else (none)
def spec_l9Tables.l1 : Nat → List (List Int) → Int → List Int → Int → Int → List (List (S39)) → Option ((List (List Int)))
 | 0, _, _, _, _, _, _ => none
 | k + 1, x3, x4, x5, x6, x241000, x241001 => if x6 < (x3.length : Int) then (if 0 ≤ x6 then (if x6 < (x5.length : Int) then (if (rd_L1 x3 x6).length < 17592186044416 then (spec_l9Tables.l1 k (x3.set (x6 : Int).toNat ((rd_L1 x3 x6) ++ [rd x5 x6])) x4 x5 (wrap64 (x6 + 1)) x241000 x241001) else (none)) else (none)) else (none)) else (spec_l9Tables.l0 k x3 (wrap64 (x4 + 1)) x241000 x241001)
end
def spec_l9Tables.f (k : Nat) (a0_0 : Int) (l0_1 : List (List (S39))) : Option ((List (List Int))) := if 0 ≤ (wrap64 ((l0_1.length : Int) - 1)) then (if (wrap64 ((l0_1.length : Int) - 1)) < (l0_1.length : Int) then (if 0 ≤ ((rd_L3 l0_1 (wrap64 ((l0_1.length : Int) - 1))).length : Int) then (if (((rd_L3 l0_1 (wrap64 ((l0_1.length : Int) - 1))).length : Int) : Int).toNat ≤ 11728124029610 then (spec_l9Tables.l0 k (List.replicate (((rd_L3 l0_1 (wrap64 ((l0_1.length : Int) - 1))).length : Int) : Int).toNat []) 0 a0_0 l0_1) else (none)) else (none)) else (none)) else (none)
def spec_l9Tables.T9 : Bool × List (List Nat × List Nat) := (true, [([], []), ([], []), ([], []), ([], []), ([2, 3], [2, 3]), ([4], [4]), ([], []), ([], []), ([6, 7], [6, 7]), ([8], [8]), ([9], [9]), ([5, 10], [5, 10]), ([0, 1, 0, 1, 2, 3, 4, 5, 6, 7, 8, 9, 10, 11], [0, 1]), ([12, 11, 11, 0, 1, 2, 3, 4, 5, 6, 7, 8, 9, 10, 11], [11, 12])])
def spec_l9Tables.B9 : List Nat := [0, 0, 0, 0, 12, 28, 0, 0, 192, 448, 960, 2044, 4095, 8191]
theorem spec_l9Tables.tab9 : rtab .any (opsOf Try.f68 9) = spec_l9Tables.T9 := by kernel_rfl
theorem spec_l9Tables.bits9 : waitsOk spec_l9Tables.T9.2 spec_l9Tables.B9 = true := by kernel_rfl
set_option maxHeartbeats 8000000 in
set_option maxRecDepth 100000 in
theorem spec_l9Tables.calls (k : Nat) (a0_0 : Int) (A0_1 : Option Addr) (c0_1 : Nat) (l0_1 : List (List (S39))) (r : List (List Int)) (w : World) (hr0_1 : Kd.C (Kd.slice 39 k39) w A0_1 l0_1.length l0_1) (hc0_1 : l0_1.length ≤ c0_1) (h : spec_l9Tables.f k a0_0 l0_1 = some r) :
 Calls Try.prog 68 #[.agg #[.int .i64 a0_0, .slice A0_1 l0_1.length c0_1]] w fun e w' => ∃ v0_ : Value, e = .returned (v0_) ∧ Kd.S (Kd.slice 3 (Kd.int .i64)) 22 w' w.heap.size (fun _ => True) v0_ r ∧ Below w.heap.size w w' := by
 have hu25 := Try.underlying25; have HR0_1 := Aside0.mk hr0_1; have HC0_1 := Aside0.mk hc0_1; clear hr0_1 hc0_1; have HB := Aside0.mk (Below.refl w.heap.size w); have H : (if 0 ≤ (wrap64 ((l0_1.length : Int) - 1)) then (if (wrap64 ((l0_1.length : Int) - 1)) < (l0_1.length : Int) then (if 0 ≤ ((rd_L3 l0_1 (wrap64 ((l0_1.length : Int) - 1))).length : Int) then (if (((rd_L3 l0_1 (wrap64 ((l0_1.length : Int) - 1))).length : Int) : Int).toNat ≤ 11728124029610 then (spec_l9Tables.l0 k (List.replicate (((rd_L3 l0_1 (wrap64 ((l0_1.length : Int) - 1))).length : Int) : Int).toNat []) 0 a0_0 l0_1) else (none)) else (none)) else (none)) else (none)) = some r := h; clear h; obtain ⟨ji2, hji2⟩ : ∃ j_ : Int, (wrap64 ((l0_1.length : Int) - 1)) = j_ := ⟨_, rfl⟩; replace H : (if 0 ≤ (ji2) then (if (ji2) < (l0_1.length : Int) then (if 0 ≤ ((rd_L3 l0_1 (ji2)).length : Int) then (if (((rd_L3 l0_1 (ji2)).length : Int) : Int).toNat ≤ 11728124029610 then (spec_l9Tables.l0 k (List.replicate (((rd_L3 l0_1 (ji2)).length : Int) : Int).toNat []) 0 a0_0 l0_1) else (none)) else (none)) else (none)) else (none)) = some r := by first | (rw [hji2] at H; exact H) | (simp only [hji2] at H ⊢; exact H)
 have hji2w : (IntKind.i64.wrap ((l0_1.length : Int) - 1)) = ji2 := (i64_w _).trans hji2; by_cases c3 : 0 ≤ (ji2)
 · rw [if_pos c3] at H; have c3b0 : decide (0 ≤ (ji2)) = true := decide_eq_true c3; clear c3; by_cases c4 : (ji2) < (l0_1.length : Int)
   · rw [if_pos c4] at H; have c4b0 : decide ((ji2) < (l0_1.length : Int)) = true := decide_eq_true c4; clear c4; by_cases c5 : 0 ≤ ((rd_L3 l0_1 (ji2)).length : Int)
     · rw [if_pos c5] at H; have c5b0 := eq_true c5; have c5b1 : decide (0 ≤ ((rd_L3 l0_1 (ji2)).length : Int)) = true := decide_eq_true c5; clear c5; by_cases c6 : (((rd_L3 l0_1 (ji2)).length : Int) : Int).toNat ≤ 11728124029610
       · rw [if_pos c6] at H; have c6b0 := eq_true c6; have c6b1 : decide ((((rd_L3 l0_1 (ji2)).length : Int) : Int).toNat ≤ 11728124029610) = true := decide_eq_true c6; clear c6; obtain ⟨y242, hy242⟩ : ∃ y_ : List (List Int), y_ = (List.replicate (((rd_L3 l0_1 (ji2)).length : Int) : Int).toNat []) := ⟨_, rfl⟩; replace H : (spec_l9Tables.l0 k y242 0 a0_0 l0_1) = some r := by first | (rw [hy242]; with_reducible exact H) | (have H2_ := (Option.bind_some _ _).symm.trans H; rw [hy242]; with_reducible exact H2_) | (have H2_ := (Option.bind_some _ _).symm.trans H; with_reducible exact H2_) | with_reducible exact H | (rw [hy242]; exact H) | exact H
         have Ny242 := Aside0.mk hy242; clear hy242; have H' := Aside0.mk H; clear H; go_enter Try.func68, Try.ntmps68; go_wp2_with (first | ((with_reducible refine gate_dst (N := 1) rfl ?_); refine box_event ?hg (N := 1) ?hd (cs := #[.int .i64 a0_0, .slice A0_1 l0_1.length c0_1]) (t := 25) ?hr ?_; (case hd => rfl); (case hg => rfl); (case hr => first | (go_simp; done) | (go_simp; rfl)); intro gb240 hg w7 hbox hb; have n0_ := Aside0.mk (below_step (bB HB) hb); have n1_ := Aside0.mk (hbox); have n2_ := Aside0.mk ((by rw [hg]; exact (below_size (bB HB)) : w.heap.size ≤ gb240)); have n3_ := Aside0.mk ((by rw [hg]; exact (below_size (bB HB)) : w.heap.size ≤ gb240)); clear HB; have HB := n0_; have BK240 := n1_; have GW240 := n2_; have GE240 := n3_; clear n0_ n1_ n2_ n3_; clear hb hbox hg; have hcz8_0 : w7.cell? ⟨gb240, 0, none⟩ = some (.int .i64 a0_0) := (blk_cell BK240.out 0).trans rfl; have hcz8_1 : w7.cell? ⟨gb240, 1, none⟩ = some (.slice A0_1 l0_1.length c0_1) := (blk_cell BK240.out 1).trans rfl; have hfz8_0 := blk_frozen BK240.out 0; have hfz8_1 := blk_frozen BK240.out 1; have p241 : 0 ≤ ((ji2) : Int) := of_decide_eq_true aS; have q241 : (ji2) < (l0_1.length : Int) := of_decide_eq_true aS; obtain ⟨ad241, A241_0, c241_0, e241, hx241_0, hl241_0, hi241_0⟩ := at_L3 HR0_1.out (ji2) p241 q241; cases e241; replace hx241_0 := (HB.out.cell (World.block_lt_of_cell? w _ hx241_0)).trans hx241_0; have HR241_0 := Aside0.mk hi241_0; have HC241_0 := Aside0.mk hl241_0; clear hi241_0 hl241_0; replace p241 := eq_true p241; replace q241 := eq_true q241) | ((with_reducible refine gate_dst (N := 16) rfl ?_); refine Kd.S_make (Kd.slice 3 (Kd.int .i64)) _ 22 rfl (N := 16) rfl 46 _ _ rfl ((rd_L3 l0_1 (ji2)).length : Int) rfl rfl Try.underlying46 (.slice none 0 0) 24 info22 rfl (by decide) (by omega) [] (ok := fun _ => True) (okp := fun _ => True) ⟨_, rfl, Kd.R_nil _ _ _ _ _⟩ (fun _ hk => hk) trivial (of_decide_eq_true aS) (Nat.le_trans (Nat.mul_le_mul_right _ (of_decide_eq_true aS : ((rd_L3 l0_1 (ji2)).length : Int).toNat ≤ 11728124029610)) (by omega)) (Below.refl _ _) (Nat.le_refl _) ?_; intro v243 w9 ho10 hb hg_ hnew_; clear hg_ hnew_; (first | rw [← Ny242.out] at ho10 | (simp only [Int.reduceToNat] at ho10; rw [← Ny242.out] at ho10)); have n0_ := Aside0.mk (Kd.S_lower ho10 (below_size (bC HB GE240))); have n1_ := Aside0.mk (bW BK240 hb); have n2_ := Aside0.mk (below_step (bC HB GE240) hb); clear BK240; clear HB; have HO244 := n0_; have BK240 := n1_; have HB := n2_; clear n0_ n1_ n2_; clear hb ho10))
         go_loopg [4] k (fun kq v4 w' => ∃ (x3_1 : List (List Int)) (x4_1 : Int), v4 = .int .i64 x4_1 ∧ Aside0 (spec_l9Tables.l0 kq x3_1 x4_1 a0_0 l0_1 = some r) ∧ Aside0 (kq ≤ k) ∧ Aside0 (Kd.S (Kd.slice 3 (Kd.int .i64)) 22 w' w.heap.size (fun _ => True) v243 x3_1) ∧ Aside0 (w'.heap[gb240]? = some (.cells #[.int .i64 a0_0, (.slice (some ad241) l0_1.length c0_1)] 25 (0, 0))) ∧ Aside0 (Below w.heap.size w w'))
         case atStart => exact ⟨(y242), (0), rD, H', ⟨Nat.le_refl _⟩, ⟨pS HO244⟩, ⟨pB BK240⟩, ⟨bC HB GE240⟩⟩
         case round =>
          clear H'; try clear c3
          try clear c3b0
          try clear c4
          try clear c4b0
          try clear c5
          try clear c5b0
          try clear c5b1
          try clear c6
          try clear c6b0
          try clear c6b1
          try clear hcz8_0
          try clear hcz8_1
          try clear hfz8_0
          try clear hfz8_1
          try clear hx241_0
          try clear p241
          try clear q241
          obtain ⟨x3_1, x4_1, rfl, HA, HK1, HO_3, BK240, HB⟩ := hrel; cases gk with
          | zero => exact absurd HA.out (by simp [spec_l9Tables.l0])
          | succ k1 =>
           have H := HA.out; clear HA; simp only [spec_l9Tables.l0] at H; by_cases c11 : 0 ≤ a0_0
           · rw [if_pos c11] at H; have c11b0 := eq_true c11; have c11b1 : decide (0 ≤ a0_0) = true := decide_eq_true c11; clear c11; obtain ⟨ji12, hji12⟩ : ∃ j_ : Int, (shl .i64 1 a0_0) = j_ := ⟨_, rfl⟩; replace H : (if x4_1 < (ji12) then ((spec_l2BitPoint.f k1 a0_0 x4_1).bind fun t245 => ((spec_l9Run.f k1 a0_0 l0_1 t245).bind fun t248 => (spec_l9Tables.l1 k1 x3_1 x4_1 t248 0 a0_0 l0_1))) else (some x3_1)) = some r := by first | (rw [hji12] at H; exact H) | (simp only [hji12] at H ⊢; exact H)
             have hji12_ : (IntKind.i64.wrap (1 * 2 ^ min a0_0.toNat 64)) = ji12 := hji12; have hji12z : a0_0 ≤ 64 → (IntKind.i64.wrap (1 * 2 ^ a0_0.toNat)) = ji12 := shl_small hji12; have hji12u : (IntKind.i64.wrap (2 ^ min a0_0.toNat 64)) = ji12 := by have h_ := hji12_; rw [Int.one_mul] at h_; exact h_
             have hji12v : a0_0 ≤ 64 → (IntKind.i64.wrap (2 ^ a0_0.toNat)) = ji12 := fun hle_ => by have h_ := hji12z hle_; rw [Int.one_mul] at h_; exact h_
             have hji12y : (wrap64 (1 * 2 ^ min a0_0.toNat 64)) = ji12 := (i64_w _).symm.trans hji12_; have hji12x : a0_0 ≤ 64 → (wrap64 (1 * 2 ^ a0_0.toNat)) = ji12 := fun h_ => (i64_w _).symm.trans (hji12z h_)
             by_cases c13 : x4_1 < (ji12)
             · rw [if_pos c13] at H; have c13b0 : decide (x4_1 < (ji12)) = true := decide_eq_true c13; clear c13; replace H := Option.bind_eq_some_iff.mp H; obtain ⟨t245, A140, H⟩ := H; replace H : ((spec_l9Run.f k1 a0_0 l0_1 t245).bind fun t248 => (spec_l9Tables.l1 k1 x3_1 x4_1 t248 0 a0_0 l0_1)) = some r := H; have A14 := Aside0.mk A140; clear A140; replace H := Option.bind_eq_some_iff.mp H; obtain ⟨t248, A150, H⟩ := H; replace H : (spec_l9Tables.l1 k1 x3_1 x4_1 t248 0 a0_0 l0_1) = some r := H; have A15 := Aside0.mk A150; clear A150; have H' := Aside0.mk H; clear H; have hcz16_0 : wr.cell? ⟨gb240, 0, none⟩ = some (.int .i64 a0_0) := (blk_cell BK240.out 0).trans rfl; have hcz16_1 : wr.cell? ⟨gb240, 1, none⟩ = some (.slice (some ad241) l0_1.length c0_1) := (blk_cell BK240.out 1).trans rfl; have hfz16_0 := blk_frozen BK240.out 0; have hfz16_1 := blk_frozen BK240.out 1; try go_wp2
               have n0_ := Aside0.mk (Kd.S_drew HO_3.out); have n1_ := Aside0.mk (blk_drew BK240.out); have n2_ := Aside0.mk (below_drew1 HB.out); clear HO_3; clear BK240; clear HB; have HO_3 := n0_; have BK240 := n1_; have HB := n2_; clear n0_ n1_ n2_; refine start_ (n := 7) (S := fun w' => w'.cell? ⟨gb240, 0, none⟩ = some (.int .i64 a0_0) ∧ w'.cell? ⟨gb240, 1, none⟩ = some (.slice (some ad241) l0_1.length c0_1)) (ds := []) #[false, false, false, false, false, false, false] (by kernel_rfl) rfl rfl ⟨(blk_cell BK240.out 0).trans rfl, (blk_cell BK240.out 1).trans rfl⟩ (fun hHeld => ?_); generalize wr.drew = w17 at HO_3 BK240 HB hHeld ⊢; refine pure_ (i := 1) (N := some 25) (v := ?_) (a' := ?_) #[false, true, false, false, false, false, false] rfl rfl (by kernel_rfl) (fun _ _ _ h => h) (Or.inl ⟨by rfl, ?_⟩) ?_ ?_; rotate_left
               · intro w'; go_simp; with_reducible rfl
               rotate_left
               · exact aP
               refine pure_ (i := 3) (N := some 27) (v := ?_) (a' := ?_) #[false, true, false, true, false, false, false] rfl rfl (by kernel_rfl) (fun _ _ _ h => h) (Or.inl ⟨by rfl, ?_⟩) ?_ ?_; rotate_left
               · intro w'; go_simp; with_reducible rfl
               rotate_left
               · exact aP
               refine take_ (i := 0) (N := some 24) (v := ?_) (a' := ?_) #[true, true, false, true, false, false, false] rfl rfl (by kernel_rfl) (fun _ _ _ h => h) (Or.inl ⟨by rfl, ?_⟩) hHeld ?_ ?_; rotate_left
               · rintro w' ⟨s0, s1⟩; go_simp; with_reducible rfl
               rotate_left
               · exact aP
               refine take_ (i := 2) (N := some 26) (v := ?_) (a' := ?_) #[true, true, true, true, false, false, false] rfl rfl (by kernel_rfl) (fun _ _ _ h => h) (Or.inl ⟨by rfl, ?_⟩) hHeld ?_ ?_; rotate_left
               · rintro w' ⟨s0, s1⟩; go_simp; with_reducible rfl
               rotate_left
               · exact aP
               refine one_ (i := 4) (N := some 28) #[true, true, true, true, true, false, false] rfl rfl (by kernel_rfl) (by decide) (fun K hK => ?_); refine goes_ Try.func126 (by kernel_rfl) rfl #[.int .i64 a0_0, .int .i64 x4_1] (by rfl) rfl rfl aT ?_; with_reducible refine (spec_l2BitPoint.calls k1 a0_0 x4_1 t245 _ A14.out).mono ?_
               rintro e w18 ⟨v246, rfl, ho0, hb⟩; refine ⟨_, rfl, ?_⟩; have n0_ := Aside0.mk (Kd.S_elder' (pS HO_3) (Kd.R_base ho0) hb); have n1_ := Aside0.mk (Kd.R_lower ho0 (below_size (bC HB GE240))); have n2_ := Aside0.mk (bW BK240 hb); have n3_ := Aside0.mk (below_step (bC HB GE240) hb); clear HO_3; clear BK240; clear HB; have HO_3 := n0_; have HO247 := n1_; have BK240 := n2_; have HB := n3_; clear n0_ n1_ n2_ n3_; (try clear hb); (try clear hb2); (try clear hk); (try clear hi); (try clear ho0); obtain ⟨Ao19, co19, eo19⟩ := Kd.R_slice HO247.out; (first | subst eo19 | (injection eo19 with f1_ f2_ f3_; have f4_ := f1_.symm; have f5_ := f3_.symm; clear f1_ f2_ f3_; subst f4_; subst f5_)); refine hK.out _ _ ⟨(blk_cell BK240.out 0).trans rfl, (blk_cell BK240.out 1).trans rfl⟩ (fun hHeld => ?_); clear hK K; refine norm_ (a' := ?_) ?_ ?_; rotate_left
               · show Act.put _ (some 28) _ = _
                 simp only [Act.put, List.setIfInBounds_toArray, List.set_cons_zero, List.set_cons_succ, i64_w, i32_w]; rfl
               refine one_ (i := 5) (N := some 29) #[true, true, true, true, true, true, false] rfl rfl (by kernel_rfl) (by decide) (fun K hK => ?_); refine goes_ Try.func125 (by kernel_rfl) rfl #[.agg #[.int .i64 a0_0, .slice (some ad241) l0_1.length c0_1], .slice Ao19 t245.length co19] (by rfl) rfl rfl aT ?_; with_reducible refine (spec_l9Run.calls k1 a0_0 _ _ l0_1 _ _ t245 t248 _ ?side1 ?side2 ?side3 ?side4 A15.out).mono ?_
               (case side1 => exact cB HR0_1 HB); (case side2 => exact HC0_1.out); (case side3 => exact cR HO247); (case side4 => exact (Kd.R_reads' HO247.out).2.1); rintro e w20 ⟨v249, rfl, ho0, hb⟩; refine ⟨_, rfl, ?_⟩; have n0_ := Aside0.mk (Kd.S_elder' (pS HO_3) (Kd.R_base ho0) hb); have n1_ := Aside0.mk (Kd.R_elder' (pR HO247) (Kd.R_base ho0) hb); have n2_ := Aside0.mk (Kd.R_lower (Kd.R_new' ho0 (Kd.R_lt (pR HO247))) (below_size (bC HB GE240))); have n3_ := Aside0.mk (bW BK240 hb); have n4_ := Aside0.mk (below_step (bC HB GE240) hb); clear HO_3; clear HO247; clear BK240; clear HB; have HO_3 := n0_; have HO247 := n1_; have HO250 := n2_; have BK240 := n3_; have HB := n4_; clear n0_ n1_ n2_ n3_ n4_; (try clear hb); (try clear hb2); (try clear hk); (try clear hi); (try clear ho0); refine hK.out _ _ ⟨(blk_cell BK240.out 0).trans rfl, (blk_cell BK240.out 1).trans rfl⟩ (fun hHeld => ?_); clear hK K; refine norm_ (a' := ?_) ?_ ?_; rotate_left
               · show Act.put _ (some 29) _ = _
                 simp only [Act.put, List.setIfInBounds_toArray, List.set_cons_zero, List.set_cons_succ, i64_w, i32_w]; rfl
               refine pure_ (i := 6) (N := some 5) (v := ?_) (a' := ?_) #[true, true, true, true, true, true, true] rfl rfl (by kernel_rfl) (fun _ _ _ h => h) (Or.inl ⟨by rfl, ?_⟩) ?_ ?_; rotate_left
               · intro w'; go_simp; with_reducible rfl
               rotate_left
               · exact aP
               refine done_ (by kernel_rfl) ?_; try go_wp2
               go_loopg [6] k1 (fun kq v6 w' => ∃ (x3_2 : List (List Int)) (x6_2 : Int), v6 = .int .i64 x6_2 ∧ Aside0 (spec_l9Tables.l1 kq x3_2 x4_1 t248 x6_2 a0_0 l0_1 = some r) ∧ Aside0 (kq ≤ k1) ∧ Aside0 (Kd.S (Kd.slice 3 (Kd.int .i64)) 22 w' w.heap.size (fun k_ => some k_ ≠ (v249 : Value).ownBlock) v243 x3_2) ∧ Aside0 (Kd.R (Kd.int .i64) 3 w' w.heap.size (fun _ => True) v249 t248) ∧ Aside0 (w'.heap[gb240]? = some (.cells #[.int .i64 a0_0, (.slice (some ad241) l0_1.length c0_1)] 25 (0, 0))) ∧ Aside0 (Below w.heap.size w w'))
               case atStart => exact ⟨(x3_1), (0), rD, H', ⟨Nat.le_refl _⟩, ⟨by (with_reducible repeat (first | apply Kd.S_alloc | apply Kd.S_drewN | apply Kd.S_drew)); exact Kd.S_mono HO_3.out (fun _ hk => hk.2)⟩, ⟨by (with_reducible repeat (first | apply Kd.R_alloc | apply Kd.R_drewN | apply Kd.R_drew)); exact Kd.R_mono HO250.out (fun _ hk => trivial)⟩, ⟨pB BK240⟩, ⟨bC HB GE240⟩⟩
               case round =>
                clear H'; try clear c3
                try clear c3b0
                try clear c4
                try clear c4b0
                try clear c5
                try clear c5b0
                try clear c5b1
                try clear c6
                try clear c6b0
                try clear c6b1
                try clear c11
                try clear c11b0
                try clear c11b1
                try clear c13
                try clear c13b0
                try clear hcz16_0
                try clear hcz16_1
                try clear hcz8_0
                try clear hcz8_1
                try clear hfz16_0
                try clear hfz16_1
                try clear hfz8_0
                try clear hfz8_1
                try clear hx241_0
                try clear p241
                try clear q241
                obtain ⟨x3_2, x6_2, rfl, HA, HK2, HO_3, HO_5, BK240, HB⟩ := hrel; cases gk with
                | zero => exact absurd HA.out (by simp [spec_l9Tables.l1])
                | succ k2 =>
                 have H := HA.out; clear HA; simp only [spec_l9Tables.l1] at H; by_cases c21 : x6_2 < (x3_2.length : Int)
                 · rw [if_pos c21] at H; have c21b0 : decide (x6_2 < (x3_2.length : Int)) = true := decide_eq_true c21; clear c21; by_cases c22 : 0 ≤ x6_2
                   · rw [if_pos c22] at H; have c22b0 : decide (0 ≤ x6_2) = true := decide_eq_true c22; clear c22; by_cases c23 : x6_2 < (t248.length : Int)
                     · rw [if_pos c23] at H; have c23b0 : decide (x6_2 < (t248.length : Int)) = true := decide_eq_true c23; clear c23; by_cases c24 : (rd_L1 x3_2 x6_2).length < 17592186044416
                       · rw [if_pos c24] at H; have LMc24 := Aside0.mk c24; clear c24; obtain ⟨y253, hy253⟩ : ∃ y_ : List Int, y_ = ((rd_L1 x3_2 x6_2) ++ [rd t248 x6_2]) := ⟨_, rfl⟩; replace H : (spec_l9Tables.l1 k2 (x3_2.set (x6_2 : Int).toNat y253) x4_1 t248 (wrap64 (x6_2 + 1)) a0_0 l0_1) = some r := by first | (rw [hy253]; with_reducible exact H) | (have H2_ := (Option.bind_some _ _).symm.trans H; rw [hy253]; with_reducible exact H2_) | (have H2_ := (Option.bind_some _ _).symm.trans H; with_reducible exact H2_) | with_reducible exact H | (rw [hy253]; exact H) | exact H
                         have Ny253 := Aside0.mk hy253; clear hy253; obtain ⟨y256, hy256⟩ : ∃ y_ : List (List Int), y_ = (x3_2.set (x6_2 : Int).toNat y253) := ⟨_, rfl⟩; replace H : (spec_l9Tables.l1 k2 y256 x4_1 t248 (wrap64 (x6_2 + 1)) a0_0 l0_1) = some r := by first | (rw [hy256]; with_reducible exact H) | (have H2_ := (Option.bind_some _ _).symm.trans H; rw [hy256]; with_reducible exact H2_) | (have H2_ := (Option.bind_some _ _).symm.trans H; with_reducible exact H2_) | with_reducible exact H | (rw [hy256]; exact H) | exact H
                         have Ny256 := Aside0.mk hy256; clear hy256; have H' := Aside0.mk H; clear H; obtain ⟨Ao26, co26, eo26⟩ := Kd.S_slice HO_3.out; subst eo26; try go_wp2
                         have n0_ := Aside0.mk (Kd.S_drew HO_3.out); have n1_ := Aside0.mk (Kd.R_drew HO_5.out); have n2_ := Aside0.mk (blk_drew BK240.out); have n3_ := Aside0.mk (below_drew1 HB.out); clear HO_3; clear HO_5; clear BK240; clear HB; have HO_3 := n0_; have HO_5 := n1_; have BK240 := n2_; have HB := n3_; clear n0_ n1_ n2_ n3_; have p251 : 0 ≤ (x6_2 : Int) := of_decide_eq_true aS; have q251 : x6_2 < (x3_2.length : Int) := of_decide_eq_true aS; obtain ⟨ad251, A251_0, c251_0, e251, hx251_0, hl251_0, hi251_0⟩ := at_L1 (Kd.S_reads' HO_3.out).2.2 x6_2 p251 q251; cases e251
                         obtain ⟨ce251, hce251, hMe251, hcc251⟩ := Kd.S_get HO_3.out [] x6_2 p251 (by first | exact q251 | exact of_decide_eq_true aS | (have e_ := (Kd.S_reads' HO_3.out).1; omega)); obtain ⟨ve251_0, rfl, ge251_0⟩ := hMe251; have hv251_0 := hcc251 0 _ rfl; rw [Nat.add_zero, show ((Kd.slice 3 (Kd.int .i64))).sz = 1 from rfl, Nat.mul_one] at hv251_0; replace hv251_0 := Option.some.inj (hv251_0.symm.trans hx251_0); rw [hv251_0] at ge251_0; have HL251_0 := Aside0.mk (show Kd.R (Kd.int .i64) 3 _ _ _ _ (rd_L1 x3_2 x6_2) from ge251_0); clear hv251_0 ge251_0; have HX251_0 := Aside0.mk hx251_0; clear hcc251 hce251; have HR251_0 := Aside0.mk hi251_0; have HC251_0 := Aside0.mk hl251_0; clear hi251_0 hl251_0; replace p251 := eq_true p251; replace q251 := eq_true q251; obtain ⟨Ao28, co28, eo28⟩ := Kd.R_slice HO_5.out; (first | subst eo28 | (injection eo28 with f1_ f2_ f3_; have f4_ := f1_.symm; have f5_ := f3_.symm; clear f1_ f2_ f3_; subst f4_; subst f5_)); have p252 : 0 ≤ (x6_2 : Int) := of_decide_eq_true aS; have q252 : x6_2 < (t248.length : Int) := of_decide_eq_true aS; obtain ⟨ad252, e252, hx252_0⟩ := Kd.at_int (Kd.R_reads' HO_5.out).2.2 x6_2 p252 q252; cases e252
                         replace p252 := eq_true p252; replace q252 := eq_true q252; obtain ⟨go29, co29, eo29, gb29, gl29, cl29, HG29⟩ := Kd.S_form HO_3.out (by have h_ : (x6_2 : Int) < ((x3_2.length : Int) : Int) := of_decide_eq_true aS; have h2_ : 0 ≤ (x6_2 : Int) := (of_decide_eq_true aS); omega); (first | cases eo29 | (injection eo29 with ea_ en_ ec_; (first | subst ea_ | (injection ea_ with ea_; subst ea_)); subst ec_; clear en_)); have GB29 := Aside0.mk gb29; have GG29 := Aside0.mk HG29; clear gb29 gl29 HG29; (first | simp only [add_plain] at hx251_0 | skip); obtain ⟨oki29, ce29, hcl29, hM29, hcc29, _, _, hH29⟩ := Kd.S_elem HO_3.out [] (x6_2 : Int) (of_decide_eq_true aS) (by have h_ : (x6_2 : Int) < ((x3_2.length : Int) : Int) := of_decide_eq_true aS; first | exact h_ | (have e_ := (Kd.S_reads' HO_3.out).1; omega) | simpa using h_); obtain ⟨ve29_0, rfl, ge29_0⟩ := hM29; have hv29 := hcc29 0 _ rfl; have hX29 := HX251_0.out; (try simp only [add_plain] at hX29); (try simp only [Nat.add_zero] at hv29); (try rw [show ((Kd.slice 3 (Kd.int .i64))).sz = 1 from rfl, Nat.mul_one] at hv29); replace hv29 := Option.some.inj (hv29.symm.trans hX29); subst hv29; clear hX29 hcc29 hcl29; have UU29 := Aside0.mk (show Kd.R (Kd.int .i64) 3 _ w.heap.size oki29 (.slice A251_0 (rd_L1 x3_2 x6_2).length c251_0) (rd_L1 x3_2 x6_2) from ge29_0); have HH29 := Aside0.mk hH29; have HN29 := Aside0.mk (Kd.S_reads' HO_3.out).1; clear hH29 ge29_0; refine start_ (n := 14) (S := fun w' => w'.cell? ⟨go29, (x6_2).toNat, none⟩ = some (.slice A251_0 (rd_L1 x3_2 x6_2).length c251_0) ∧ w'.cell? (ad252.add (x6_2).toNat) = some (.int .i64 (rd t248 x6_2))) (ds := [11, 13]) #[false, false, false, false, false, false, false, false, false, false, false, false, false, false] (by kernel_rfl) rfl rfl ⟨hx251_0, hx252_0⟩ (fun hHeld => ?_); refine with_tabW spec_l9Tables.tab9 spec_l9Tables.bits9 (fun HT_ HW_ => ?_); generalize wr.drew = w27 at HO_3 HO_5 BK240 HB GG29 HH29 HL251_0 HR251_0 HX251_0 UU29 hx251_0 hx252_0 hHeld ⊢; refine pure_ (i := 0) (N := some 36) (v := ?_) (a' := ?_) #[true, false, false, false, false, false, false, false, false, false, false, false, false, false] rfl rfl (any_of HT_.out (by kernel_rfl)) (fun _ _ _ h => h) (Or.inl ⟨by rfl, ?_⟩) ?_ ?_; rotate_left
                         · intro w'; go_simp; with_reducible rfl
                         rotate_left
                         · exact aP
                         refine pure_ (i := 1) (N := some 37) (v := ?_) (a' := ?_) #[true, true, false, false, false, false, false, false, false, false, false, false, false, false] rfl rfl (any_of HT_.out (by kernel_rfl)) (fun _ _ _ h => h) (Or.inl ⟨by rfl, ?_⟩) ?_ ?_; rotate_left
                         · intro w'; go_simp; with_reducible rfl
                         rotate_left
                         · exact aP
                         refine pure_ (i := 2) (N := some 38) (v := ?_) (a' := ?_) #[true, true, true, false, false, false, false, false, false, false, false, false, false, false] rfl rfl (any_of HT_.out (by kernel_rfl)) (fun _ _ _ h => h) (Or.inl ⟨by rfl, ?_⟩) ?_ ?_; rotate_left
                         · intro w'; go_simp; with_reducible rfl
                         rotate_left
                         · exact aP
                         refine pure_ (i := 3) (N := some 39) (v := ?_) (a' := ?_) #[true, true, true, true, false, false, false, false, false, false, false, false, false, false] rfl rfl (any_of HT_.out (by kernel_rfl)) (fun _ _ _ h => h) (Or.inl ⟨by rfl, ?_⟩) ?_ ?_; rotate_left
                         · intro w'; go_simp; with_reducible rfl
                         rotate_left
                         · exact aP
                         refine pure_ (i := 4) (N := some 40) (v := ?_) (a' := ?_) #[true, true, true, true, true, false, false, false, false, false, false, false, false, false] rfl rfl (any_of HT_.out (by kernel_rfl)) (fun _ _ _ h => h) (Or.inl ⟨by rfl, ?_⟩) ?_ ?_; rotate_left
                         · intro w'; go_simp; with_reducible rfl
                         rotate_left
                         · exact aP
                         refine pure_ (i := 6) (N := some 42) (v := ?_) (a' := ?_) #[true, true, true, true, true, false, true, false, false, false, false, false, false, false] rfl rfl (any_of HT_.out (by kernel_rfl)) (fun _ _ _ h => h) (Or.inl ⟨by rfl, ?_⟩) ?_ ?_; rotate_left
                         · intro w'; go_simp; with_reducible rfl
                         rotate_left
                         · exact aP
                         refine pure_ (i := 7) (N := some 43) (v := ?_) (a' := ?_) #[true, true, true, true, true, false, true, true, false, false, false, false, false, false] rfl rfl (any_of HT_.out (by kernel_rfl)) (fun _ _ _ h => h) (Or.inl ⟨by rfl, ?_⟩) ?_ ?_; rotate_left
                         · intro w'; go_simp; with_reducible rfl
                         rotate_left
                         · exact aP
                         refine pure_ (i := 8) (N := some 44) (v := ?_) (a' := ?_) #[true, true, true, true, true, false, true, true, true, false, false, false, false, false] rfl rfl (any_of HT_.out (by kernel_rfl)) (fun _ _ _ h => h) (Or.inl ⟨by rfl, ?_⟩) ?_ ?_; rotate_left
                         · intro w'; go_simp; with_reducible rfl
                         rotate_left
                         · exact aP
                         refine take_ (i := 5) (N := some 41) (v := ?_) (a' := ?_) #[true, true, true, true, true, true, true, true, true, false, false, false, false, false] rfl rfl (take_ofW HT_.out HW_.out (by kernel_rfl)) (fun _ _ _ h => h) (Or.inl ⟨by rfl, ?_⟩) hHeld ?_ ?_; rotate_left
                         · rintro w' ⟨s0, s1⟩; go_simp; with_reducible rfl
                         rotate_left
                         · exact aP
                         refine take_ (i := 9) (N := some 45) (v := ?_) (a' := ?_) #[true, true, true, true, true, true, true, true, true, true, false, false, false, false] rfl rfl (take_ofW HT_.out HW_.out (by kernel_rfl)) (fun _ _ _ h => h) (Or.inl ⟨by rfl, ?_⟩) hHeld ?_ ?_; rotate_left
                         · rintro w' ⟨s0, s1⟩; go_simp; with_reducible rfl
                         rotate_left
                         · exact aP
                         refine one_ (i := 10) (N := some 46) #[true, true, true, true, true, true, true, true, true, true, true, false, false, false] rfl rfl (one_of HT_.out (by kernel_rfl)) (by decide) (fun K hK => ?_); refine value_ (w1 := ?_) (v := ?_) (by rfl) rfl ?_ ?_; rotate_left 2
                         · go_simp; constructor
                           · rfl
                           · rfl
                         refine hK.out _ _ ⟨(World.cell?_alloc_lt _ _ _ (World.block_lt_of_cell? _ _ (hHeld.1))).trans (hHeld.1), (World.cell?_alloc_lt _ _ _ (World.block_lt_of_cell? _ _ (hHeld.2))).trans (hHeld.2)⟩ (fun hHeld => ?_); clear hK K; refine norm_ (a' := ?_) ?_ ?_; rotate_left
                         · show Act.put _ (some 46) _ = _
                           simp only [Act.put, List.setIfInBounds_toArray, List.set_cons_zero, List.set_cons_succ, i64_w, i32_w]; rfl
                         refine last_ (i := 11) (N := some 47) #[true, true, true, true, true, true, true, true, true, true, true, true, false, false] rfl rfl (one_of HT_.out (by kernel_rfl)) (by decide) (fun K hK => ?_); refine Kd.R_append_step (Kd.int .i64) (w0 := w) w.heap.size (by rfl) (.tmp 41) (.tmp 46) 22 3 (.int .i64 0) 8 rfl Try.underlying22 info3 rfl (by decide) (by omega) (.slice A251_0 (rd_L1 x3_2 x6_2).length c251_0) (rd_L1 x3_2 x6_2) (rd t248 x6_2) [.int .i64 (rd t248 x6_2)] (fun k_ => oki29 k_ ∨ ((fun k_ => some k_ ≠ (.slice (some ad252) t248.length co28 : Value).ownBlock)) k_ ∧ w27.heap.size ≤ k_) (fun _ => False) rfl rfl ?aP (fun _ hk => hk.elim) ?aF ?aO ?aB ?aS ?aL ?_; (case aP => exact rfl); (case aB => exact (bC HB GE240)); (case aF => exact (fun k_ hk => .inr ⟨Kd.fresh' (Kd.R_lt (pR HO_5)) k_ hk, hk⟩)); (case aO => exact (by (with_reducible repeat (first | apply Kd.R_alloc | apply Kd.R_drewN | apply Kd.R_drew)); exact Kd.R_mono UU29.out (fun _ hk => .inl hk))); (case aS => exact (below_size (bC HB GE240))); (case aL => have := LMc24.out; omega); intro v254 w30 ho hb hg hat; rw [← Ny253.out] at ho; have n0_ := Aside0.mk (Kd.R_grown2 (pR HO_5) rfl hg (fun k_ e_ => (HL251_0.out.1 k_ e_).1)); have n1_ := Aside0.mk (blk_grown (g := gb240) (o := .cells #[.int .i64 a0_0, .slice (some ad241) l0_1.length c0_1] 25 (0, 0)) (pB BK240) hg (Kd.R_ne HL251_0.out BK240.out (by decide))); have n2_ := Aside0.mk (hb); have n3_ := Aside0.mk (Kd.H_grown (Kd.H_widen (by repeat (first | exact HH29.out | refine Kd.H_alloc ?_ _ | refine Kd.H_drewN ?_ _ | refine Kd.H_drew ?_))) hg (fun k_ e_ => .inl (UU29.out.1 k_ e_))); have n4_ := Aside0.mk (ho); clear HO_5; clear BK240; clear HB; clear HH29; clear HO_3; clear UU29; clear HL251_0; have HO_5 := n0_; have BK240 := n1_; have HB := n2_; have HH29 := n3_; have HO255 := n4_; clear n0_ n1_ n2_ n3_ n4_; clear ho hb hg hat; have p25 : 0 ≤ (x6_2 : Int) := of_decide_eq_true aS; have q25 : (x6_2 : Int) < ((x3_2.length : Int) : Int) := of_decide_eq_true aS; replace p25 := eq_true p25; replace q25 := eq_true q25; obtain ⟨Ao33, co33, eo33⟩ := Kd.R_slice HO255.out; (first | subst eo33 | (injection eo33 with f1_ f2_ f3_; have f4_ := f1_.symm; have f5_ := f3_.symm; clear f1_ f2_ f3_; subst f4_; subst f5_)); obtain ⟨_, _, hraw31, _, _, hcc31, _⟩ := Kd.H_raw HH29.out (of_decide_eq_true aS) (by have h_ : (x6_2 : Int) < ((x3_2.length : Int) : Int) := of_decide_eq_true aS; first | exact h_ | (have e_ := (HN29.out); omega) | simpa using h_); obtain ⟨_, hfr31⟩ := Kd.H_at HH29.out (of_decide_eq_true aS) (by have h_ : (x6_2 : Int) < ((x3_2.length : Int) : Int) := of_decide_eq_true aS; first | exact h_ | (have e_ := (HN29.out); omega) | simpa using h_); have hx31_0 := hcc31 0 _ rfl; have hf31_0 := hfr31 0; (try simp only [Nat.add_zero] at hx31_0 hf31_0); (try rw [show ((Kd.slice 3 (Kd.int .i64))).sz = 1 from rfl, Nat.mul_one] at hx31_0); (try rw [show ((Kd.slice 3 (Kd.int .i64))).sz = 1 from rfl, Nat.mul_one] at hf31_0); have HP31 := Kd.S_seg0 HH29.out (of_decide_eq_true aS) (by have h_ : (x6_2 : Int) < ((x3_2.length : Int) : Int) := of_decide_eq_true aS; first | exact h_ | (have e_ := (HN29.out); omega) | simpa using h_) (seg := [.slice Ao33 y253.length co33]) (j := 0) (show 1 ≤ 1 from by decide) (x' := y253) (Kd.M_row HO255.out) (fun _ hk => hk); (try simp only [show ((Kd.slice 3 (Kd.int .i64))).sz = 1 from rfl, Nat.mul_one, Nat.add_zero] at HP31); clear hcc31 hfr31; have HNB240_go29 := Aside0.mk (show gb240 ≠ go29 from by have h_ := Kd.R_ne hraw31 BK240.out (by decide); intro e_; exact h_ (by rw [e_]; rfl)); have HS31 := HP31.1; rw [← Ny256.out] at HS31; have HQ31 := Aside0.mk HS31; obtain ⟨_, hgg31⟩ := Kd.R_typed hraw31 go29 rfl; have GG31_ := Aside0.mk hgg31; clear HP31 HS31 hgg31; refine hK.out _ _ ?_; clear hK K; refine norm_ (a' := ?_) ?_ ?_; rotate_left
                         · show Act.put _ (some 47) _ = _
                           simp only [Act.put, List.setIfInBounds_toArray, List.set_cons_zero, List.set_cons_succ, i64_w, i32_w]; rfl
                         refine pure_ (i := 12) (N := some 48) (v := ?_) (a' := ?_) #[true, true, true, true, true, true, true, true, true, true, true, true, true, false] rfl rfl (any_of HT_.out (by kernel_rfl)) (fun _ _ _ h => h) (Or.inl ⟨by rfl, ?_⟩) ?_ ?_; rotate_left
                         · intro w'; go_simp; with_reducible rfl
                         rotate_left
                         · exact aP
                         refine last_ (i := 13) (N := none) #[true, true, true, true, true, true, true, true, true, true, true, true, true, true] rfl rfl (one_of HT_.out (by kernel_rfl)) (by decide) (fun K hK => ?_); refine skip_ (w1 := ?_) (by rfl) rfl ?_ ?_; rotate_left
                         · go_simp; rfl
                         refine hK.out _ _ ?_; clear hK K; refine done_ (done_of HT_.out (by kernel_rfl)) ?_; try go_wp2
                         go_roundg k2
                         case measure => have := HK1.out; have := HK2.out; omega
                         case rel => exact ⟨(y256), (wrap64 (x6_2 + 1)), rD, H', ⟨by have := HK1.out; have := HK2.out; omega⟩, ⟨pS HQ31⟩, ⟨by (with_reducible repeat (first | apply Kd.R_alloc | apply Kd.R_drewN | apply Kd.R_drew)); exact Kd.R_mono (Kd.R_far (p := ⟨go29, (x6_2 : Int).toNat, none⟩) (Kd.R_types HO_5.out GG31_.out (by decide)) (fun _ hk => hk.2) (.slice Ao33 y253.length co33)) (fun _ hk => trivial)⟩, ⟨by (with_reducible repeat (first | refine blk_drewN ?_ _ | refine blk_drew ?_ | refine blk_alloc ?_ _)); refine blk_far ?_ HNB240_go29.out _; (with_reducible repeat (first | refine blk_drewN ?_ _ | refine blk_drew ?_ | refine blk_alloc ?_ _)); exact BK240.out⟩, ⟨bD HB GB29 GE240⟩⟩
                       · rw [if_neg c24] at H; exact absurd H (by simp)
                     · rw [if_neg c23] at H; exact absurd H (by simp)
                   · rw [if_neg c22] at H; exact absurd H (by simp)
                 · rw [if_neg c21] at H; have c21b0 : decide (x6_2 < (x3_2.length : Int)) = false := decide_eq_false c21; clear c21; have H' := Aside0.mk H; clear H; obtain ⟨Ao34, co34, eo34⟩ := Kd.S_slice HO_3.out; subst eo34; go_wp2; go_roundg k2
                   case measure => have := HK1.out; have := HK2.out; omega
                   case rel => exact ⟨(x3_2), (wrap64 (x4_1 + 1)), rD, H', ⟨by have := HK1.out; have := HK2.out; omega⟩, ⟨by (with_reducible repeat (first | apply Kd.S_alloc | apply Kd.S_drewN | apply Kd.S_drew)); exact Kd.S_mono HO_3.out (fun _ hk => trivial)⟩, ⟨pB BK240⟩, ⟨bC HB GE240⟩⟩
             · rw [if_neg c13] at H; have c13b0 : decide (x4_1 < (ji12)) = false := decide_eq_false c13; clear c13; obtain rfl := Option.some.inj H; have hcz35_0 : wr.cell? ⟨gb240, 0, none⟩ = some (.int .i64 a0_0) := (blk_cell BK240.out 0).trans rfl; have hcz35_1 : wr.cell? ⟨gb240, 1, none⟩ = some (.slice (some ad241) l0_1.length c0_1) := (blk_cell BK240.out 1).trans rfl; have hfz35_0 := blk_frozen BK240.out 0; have hfz35_1 := blk_frozen BK240.out 1; go_wp2; go_ret
               exact ⟨_, by first | rfl | (simp [errW_none, errW_some] <;> rfl) | (simp only [← hji2, ← hji12]; first | rfl | (simp [errW_none, errW_some] <;> rfl)) | (simp [*, errW_none, errW_some] <;> rfl), by (with_reducible repeat (first | apply Kd.S_alloc | apply Kd.S_drewN | apply Kd.S_drew)); exact HO_3.out, bC HB GE240⟩
           · rw [if_neg c11] at H; exact absurd H (by simp)
       · rw [if_neg c6] at H; exact absurd H (by simp)
     · rw [if_neg c5] at H; exact absurd H (by simp)
   · rw [if_neg c4] at H; exact absurd H (by simp)
 · rw [if_neg c3] at H; exact absurd H (by simp)

end Go.Proofs.Ytfkfahdikmfpeaa.PFnExactSinglePlane
