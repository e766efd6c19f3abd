-- Printed by wip/tools/myprint.py (the printer of the kit, patched by that program; roots chosen by it)
import Derived.Test.YtniebbjbihenfaaPFnExactNetTablesx0
import Derived.Test.YtniebbjbihenfaaPFnExactNetTablesx4
import Derived.Test.YtniebbjbihenfaaPFnExactNetTablesx5
import Derived.Test.YtniebbjbihenfaaSh
namespace Go.Proofs.Ytniebbjbihenfaa.PFnExactNetTables
open Go.RowKit Go.Proofs.Ytniebbjbihenfaa.Sh Go.Proofs.YtniebbjbihenfaaW.PrintWords Go.Proofs.YtniebbjbihenfaaW.PrintLast Go.Proofs.YtniebbjbihenfaaW.PrintMore
attribute [local go_sem] max2_int min2_int max_two min_two max_three min_three max_four min_four   -- for this text's walks alone
set_option linter.unusedVariables false
set_option linter.unusedSimpArgs false

/-! ### spec_l9Tables: function 109 -/
mutual
def spec_l9Tables.l0 : Nat → List (List Int) → Int → Int → List (List (S42)) → Option ((List (List Int)))
 | 0, _, _, _, _ => none
 | k + 1, x3, x4, x221000, x221001 => if 0 ≤ x221000 then (if x4 < (shl .i64 1 x221000) then ((spec_l2BitPoint.f k x221000 x4).bind fun t225 => ((spec_l9Run.f k x221000 x221001 t225).bind fun t228 => (spec_l9Tables.l1 k x3 x4 t228 0 x221000 x221001))) else (some x3)) else (none)
def spec_l9Tables.l1 : Nat → List (List Int) → Int → List Int → Int → Int → List (List (S42)) → Option ((List (List Int)))
 | 0, _, _, _, _, _, _ => none
 | k + 1, x3, x4, x5, x6, x221000, x221001 => if x6 < (x3.length : Int) then (if 0 ≤ x6 then (if x6 < (x5.length : Int) then (if (rd_L1 x3 x6).length < 17592186044416 then (spec_l9Tables.l1 k (x3.set (x6 : Int).toNat ((rd_L1 x3 x6) ++ [rd x5 x6])) x4 x5 (wrap64 (x6 + 1)) x221000 x221001) else (none)) else (none)) else (none)) else (spec_l9Tables.l0 k x3 (wrap64 (x4 + 1)) x221000 x221001)
end
def spec_l9Tables.f (k : Nat) (a0_0 : Int) (l0_1 : List (List (S42))) : Option ((List (List Int))) := if 0 ≤ (wrap64 ((l0_1.length : Int) - 1)) then (if (wrap64 ((l0_1.length : Int) - 1)) < (l0_1.length : Int) then (if 0 ≤ ((rd_L5 l0_1 (wrap64 ((l0_1.length : Int) - 1))).length : Int) then (if (((rd_L5 l0_1 (wrap64 ((l0_1.length : Int) - 1))).length : Int) : Int).toNat ≤ 11728124029610 then (spec_l9Tables.l0 k (List.replicate (((rd_L5 l0_1 (wrap64 ((l0_1.length : Int) - 1))).length : Int) : Int).toNat []) 0 a0_0 l0_1) else (none)) else (none)) else (none)) else (none)
def spec_l9Tables.T9 : Bool × List (List Nat × List Nat) := (true, [([], []), ([], []), ([], []), ([], []), ([2, 3], [2, 3]), ([4], [4]), ([], []), ([], []), ([6, 7], [6, 7]), ([8], [8]), ([9], [9]), ([5, 10], [5, 10]), ([0, 1, 0, 1, 2, 3, 4, 5, 6, 7, 8, 9, 10, 11], [0, 1]), ([12, 11, 11, 0, 1, 2, 3, 4, 5, 6, 7, 8, 9, 10, 11], [11, 12])])
def spec_l9Tables.B9 : List Nat := [0, 0, 0, 0, 12, 28, 0, 0, 192, 448, 960, 2044, 4095, 8191]
theorem spec_l9Tables.tab9 : rtab .any (opsOf Try.f109 9) = spec_l9Tables.T9 := by kernel_rfl
theorem spec_l9Tables.bits9 : waitsOk spec_l9Tables.T9.2 spec_l9Tables.B9 = true := by kernel_rfl
set_option maxHeartbeats 8000000 in
set_option maxRecDepth 100000 in
theorem spec_l9Tables.calls (k : Nat) (a0_0 : Int) (A0_1 : Option Addr) (c0_1 : Nat) (l0_1 : List (List (S42))) (r : List (List Int)) (w : World) (hr0_1 : Kd.C (Kd.slice 42 k42) w A0_1 l0_1.length l0_1) (hc0_1 : l0_1.length ≤ c0_1) (h : spec_l9Tables.f k a0_0 l0_1 = some r) :
 Calls Try.prog 109 #[.agg #[.int .i64 a0_0, .slice A0_1 l0_1.length c0_1]] w fun e w' => ∃ v0_ : Value, e = .returned (v0_) ∧ Kd.S (Kd.slice 3 (Kd.int .i64)) 23 w' w.heap.size (fun _ => True) v0_ r ∧ Below w.heap.size w w' := by
 have hu62 := Try.underlying62
 have HR0_1 := Aside0.mk hr0_1
 have HC0_1 := Aside0.mk hc0_1
 clear hr0_1 hc0_1
 have HB := Aside0.mk (Below.refl w.heap.size w)
 have H : (if 0 ≤ (wrap64 ((l0_1.length : Int) - 1)) then (if (wrap64 ((l0_1.length : Int) - 1)) < (l0_1.length : Int) then (if 0 ≤ ((rd_L5 l0_1 (wrap64 ((l0_1.length : Int) - 1))).length : Int) then (if (((rd_L5 l0_1 (wrap64 ((l0_1.length : Int) - 1))).length : Int) : Int).toNat ≤ 11728124029610 then (spec_l9Tables.l0 k (List.replicate (((rd_L5 l0_1 (wrap64 ((l0_1.length : Int) - 1))).length : Int) : Int).toNat []) 0 a0_0 l0_1) else (none)) else (none)) else (none)) else (none)) = some r := h
 clear h
 obtain ⟨ji2, hji2⟩ : ∃ j_ : Int, (wrap64 ((l0_1.length : Int) - 1)) = j_ := ⟨_, rfl⟩
 replace H : (if 0 ≤ (ji2) then (if (ji2) < (l0_1.length : Int) then (if 0 ≤ ((rd_L5 l0_1 (ji2)).length : Int) then (if (((rd_L5 l0_1 (ji2)).length : Int) : Int).toNat ≤ 11728124029610 then (spec_l9Tables.l0 k (List.replicate (((rd_L5 l0_1 (ji2)).length : Int) : Int).toNat []) 0 a0_0 l0_1) else (none)) else (none)) else (none)) else (none)) = some r := by first | (rw [hji2] at H; exact H) | (simp only [hji2] at H ⊢; exact H)
 have hji2w : (IntKind.i64.wrap ((l0_1.length : Int) - 1)) = ji2 := (i64_w _).trans hji2
 by_cases c3 : 0 ≤ (ji2)
 · rw [if_pos c3] at H
   have c3b0 : decide (0 ≤ (ji2)) = true := decide_eq_true c3
   clear c3
   by_cases c4 : (ji2) < (l0_1.length : Int)
   · rw [if_pos c4] at H
     have c4b0 : decide ((ji2) < (l0_1.length : Int)) = true := decide_eq_true c4
     clear c4
     by_cases c5 : 0 ≤ ((rd_L5 l0_1 (ji2)).length : Int)
     · rw [if_pos c5] at H
       have c5b0 := eq_true c5
       have c5b1 : decide (0 ≤ ((rd_L5 l0_1 (ji2)).length : Int)) = true := decide_eq_true c5
       clear c5
       by_cases c6 : (((rd_L5 l0_1 (ji2)).length : Int) : Int).toNat ≤ 11728124029610
       · rw [if_pos c6] at H
         have c6b0 := eq_true c6
         have c6b1 : decide ((((rd_L5 l0_1 (ji2)).length : Int) : Int).toNat ≤ 11728124029610) = true := decide_eq_true c6
         clear c6
         obtain ⟨y222, hy222⟩ : ∃ y_ : List (List Int), y_ = (List.replicate (((rd_L5 l0_1 (ji2)).length : Int) : Int).toNat []) := ⟨_, rfl⟩
         replace H : (spec_l9Tables.l0 k y222 0 a0_0 l0_1) = some r := by first | (rw [hy222]; with_reducible exact H) | (have H2_ := (Option.bind_some _ _).symm.trans H; rw [hy222]; with_reducible exact H2_) | (have H2_ := (Option.bind_some _ _).symm.trans H; with_reducible exact H2_) | with_reducible exact H | (rw [hy222]; exact H) | exact H
         have Ny222 := Aside0.mk hy222
         clear hy222
         have H' := Aside0.mk H
         clear H
         go_enter Try.func109, Try.ntmps109
         go_wp2_with (first | ((with_reducible refine gate_dst (N := 1) rfl ?_); refine box_event ?hg (N := 1) ?hd (cs := #[.int .i64 a0_0, .slice A0_1 l0_1.length c0_1]) (t := 62) ?hr ?_; (case hd => rfl); (case hg => rfl); (case hr => first | (go_simp; done) | (go_simp; rfl)); intro gb220 hg w7 hbox hb; have n0_ := Aside0.mk (below_step (bB HB) hb); have n1_ := Aside0.mk (hbox); have n2_ := Aside0.mk ((by rw [hg]; exact (below_size (bB HB)) : w.heap.size ≤ gb220)); have n3_ := Aside0.mk ((by rw [hg]; exact (below_size (bB HB)) : w.heap.size ≤ gb220)); clear HB; have HB := n0_; have BK220 := n1_; have GW220 := n2_; have GE220 := n3_; clear n0_ n1_ n2_ n3_; clear hb hbox hg; have hcz8_0 : w7.cell? ⟨gb220, 0, none⟩ = some (.int .i64 a0_0) := (blk_cell BK220.out 0).trans rfl; have hcz8_1 : w7.cell? ⟨gb220, 1, none⟩ = some (.slice A0_1 l0_1.length c0_1) := (blk_cell BK220.out 1).trans rfl; have hfz8_0 := blk_frozen BK220.out 0; have hfz8_1 := blk_frozen BK220.out 1; have p221 : 0 ≤ ((ji2) : Int) := of_decide_eq_true aS; have q221 : (ji2) < (l0_1.length : Int) := of_decide_eq_true aS; obtain ⟨ad221, A221_0, c221_0, e221, hx221_0, hl221_0, hi221_0⟩ := at_L5 HR0_1.out (ji2) p221 q221; cases e221; replace hx221_0 := (HB.out.cell (World.block_lt_of_cell? w _ hx221_0)).trans hx221_0; have HR221_0 := Aside0.mk hi221_0; have HC221_0 := Aside0.mk hl221_0; clear hi221_0 hl221_0; replace p221 := eq_true p221; replace q221 := eq_true q221) | ((with_reducible refine gate_dst (N := 16) rfl ?_); refine Kd.S_make (Kd.slice 3 (Kd.int .i64)) _ 23 rfl (N := 16) rfl 22 _ _ rfl ((rd_L5 l0_1 (ji2)).length : Int) rfl rfl Try.underlying22 (.slice none 0 0) 24 info23 rfl (by decide) (by omega) [] (ok := fun _ => True) (okp := fun _ => True) ⟨_, rfl, Kd.R_nil _ _ _ _ _⟩ (fun _ hk => hk) trivial (of_decide_eq_true aS) (Nat.le_trans (Nat.mul_le_mul_right _ (of_decide_eq_true aS : ((rd_L5 l0_1 (ji2)).length : Int).toNat ≤ 11728124029610)) (by omega)) (Below.refl _ _) (Nat.le_refl _) ?_; intro v223 w9 ho10 hb hg_ hnew_; clear hg_ hnew_; (first | rw [← Ny222.out] at ho10 | (simp only [Int.reduceToNat] at ho10; rw [← Ny222.out] at ho10)); have n0_ := Aside0.mk (Kd.S_lower ho10 (below_size (bC HB GE220))); have n1_ := Aside0.mk (blk_below (g := gb220) (o := .cells #[.int .i64 a0_0, .slice (some ad221) l0_1.length c0_1] 62 (0, 0)) (pB BK220) hb); have n2_ := Aside0.mk (below_step (bC HB GE220) hb); clear BK220; clear HB; have HO224 := n0_; have BK220 := n1_; have HB := n2_; clear n0_ n1_ n2_; clear hb ho10))
         go_loopg [4] k (fun kq v4 w' => ∃ (x3_1 : List (List Int)) (x4_1 : Int), v4 = .int .i64 x4_1 ∧ Aside0 (spec_l9Tables.l0 kq x3_1 x4_1 a0_0 l0_1 = some r) ∧ Aside0 (kq ≤ k) ∧ Aside0 (Kd.S (Kd.slice 3 (Kd.int .i64)) 23 w' w.heap.size (fun _ => True) v223 x3_1) ∧ Aside0 (w'.heap[gb220]? = some (.cells #[.int .i64 a0_0, (.slice (some ad221) l0_1.length c0_1)] 62 (0, 0))) ∧ Aside0 (Below w.heap.size w w'))
         case atStart => exact ⟨(y222), (0), rD, H', ⟨Nat.le_refl _⟩, ⟨pS HO224⟩, ⟨pB BK220⟩, ⟨bC HB GE220⟩⟩
         case round =>
          clear H'
          try clear c1
          try clear c2
          try clear p2
          try clear q2
          try clear hx2
          try clear c3
          try clear c3b0
          try clear c4
          try clear c4b0
          try clear c5
          try clear c5b0
          try clear c5b1
          try clear c6
          try clear c6b0
          try clear c6b1
          try clear p6
          try clear c10
          try clear hcz8_0
          try clear hcz8_1
          try clear hfz8_0
          try clear hfz8_1
          try clear hx221_0
          try clear p221
          try clear q221
          obtain ⟨x3_1, x4_1, rfl, HA, HK1, HO_3, BK220, HB⟩ := hrel
          cases gk with
          | zero => exact absurd HA.out (by simp [spec_l9Tables.l0])
          | succ k1 =>
           have H := HA.out
           clear HA
           simp only [spec_l9Tables.l0] at H
           by_cases c11 : 0 ≤ a0_0
           · rw [if_pos c11] at H
             have c11b0 := eq_true c11
             have c11b1 : decide (0 ≤ a0_0) = true := decide_eq_true c11
             clear c11
             obtain ⟨ji12, hji12⟩ : ∃ j_ : Int, (shl .i64 1 a0_0) = j_ := ⟨_, rfl⟩
             replace H : (if x4_1 < (ji12) then ((spec_l2BitPoint.f k1 a0_0 x4_1).bind fun t225 => ((spec_l9Run.f k1 a0_0 l0_1 t225).bind fun t228 => (spec_l9Tables.l1 k1 x3_1 x4_1 t228 0 a0_0 l0_1))) else (some x3_1)) = some r := by first | (rw [hji12] at H; exact H) | (simp only [hji12] at H ⊢; exact H)
             have hji12_ : (IntKind.i64.wrap (1 * 2 ^ min a0_0.toNat 64)) = ji12 := hji12
             have hji12z : a0_0 ≤ 64 → (IntKind.i64.wrap (1 * 2 ^ a0_0.toNat)) = ji12 := shl_small hji12
             have hji12u : (IntKind.i64.wrap (2 ^ min a0_0.toNat 64)) = ji12 := by have h_ := hji12_; rw [Int.one_mul] at h_; exact h_
             have hji12v : a0_0 ≤ 64 → (IntKind.i64.wrap (2 ^ a0_0.toNat)) = ji12 := fun hle_ => by have h_ := hji12z hle_; rw [Int.one_mul] at h_; exact h_
             have hji12y : (wrap64 (1 * 2 ^ min a0_0.toNat 64)) = ji12 := (i64_w _).symm.trans hji12_
             have hji12x : a0_0 ≤ 64 → (wrap64 (1 * 2 ^ a0_0.toNat)) = ji12 := fun h_ => (i64_w _).symm.trans (hji12z h_)
             by_cases c13 : x4_1 < (ji12)
             · rw [if_pos c13] at H
               have c13b0 : decide (x4_1 < (ji12)) = true := decide_eq_true c13
               clear c13
               replace H := Option.bind_eq_some_iff.mp H
               obtain ⟨t225, A140, H⟩ := H
               replace H : ((spec_l9Run.f k1 a0_0 l0_1 t225).bind fun t228 => (spec_l9Tables.l1 k1 x3_1 x4_1 t228 0 a0_0 l0_1)) = some r := H
               have A14 := Aside0.mk A140
               clear A140
               replace H := Option.bind_eq_some_iff.mp H
               obtain ⟨t228, A150, H⟩ := H
               replace H : (spec_l9Tables.l1 k1 x3_1 x4_1 t228 0 a0_0 l0_1) = some r := H
               have A15 := Aside0.mk A150
               clear A150
               have H' := Aside0.mk H
               clear H
               have hcz16_0 : wr.cell? ⟨gb220, 0, none⟩ = some (.int .i64 a0_0) := (blk_cell BK220.out 0).trans rfl
               have hcz16_1 : wr.cell? ⟨gb220, 1, none⟩ = some (.slice (some ad221) l0_1.length c0_1) := (blk_cell BK220.out 1).trans rfl
               have hfz16_0 := blk_frozen BK220.out 0
               have hfz16_1 := blk_frozen BK220.out 1
               try go_wp2
               have n0_ := Aside0.mk (Kd.S_drew HO_3.out)
               have n1_ := Aside0.mk (blk_drew BK220.out)
               have n2_ := Aside0.mk (below_drew1 HB.out)
               clear HO_3
               clear BK220
               clear HB
               have HO_3 := n0_
               have BK220 := n1_
               have HB := n2_
               clear n0_ n1_ n2_
               refine start_ (n := 7) (S := fun w' => w'.cell? ⟨gb220, 0, none⟩ = some (.int .i64 a0_0) ∧ w'.cell? ⟨gb220, 1, none⟩ = some (.slice (some ad221) l0_1.length c0_1)) (ds := []) #[false, false, false, false, false, false, false] (by kernel_rfl) rfl rfl ⟨(blk_cell BK220.out 0).trans rfl, (blk_cell BK220.out 1).trans rfl⟩ (fun hHeld => ?_)
               generalize wr.drew = w17 at HO_3 BK220 HB hHeld ⊢
               refine pure_ (i := 1) (N := some 25) (v := ?_) (a' := ?_) #[false, true, false, false, false, false, false] rfl rfl (by kernel_rfl) (fun _ _ _ h => h) (Or.inl ⟨by rfl, ?_⟩) ?_ ?_
               rotate_left
               · intro w'
                 go_simp
                 with_reducible rfl
               rotate_left
               · exact aP
               refine pure_ (i := 3) (N := some 27) (v := ?_) (a' := ?_) #[false, true, false, true, false, false, false] rfl rfl (by kernel_rfl) (fun _ _ _ h => h) (Or.inl ⟨by rfl, ?_⟩) ?_ ?_
               rotate_left
               · intro w'
                 go_simp
                 with_reducible rfl
               rotate_left
               · exact aP
               refine take_ (i := 0) (N := some 24) (v := ?_) (a' := ?_) #[true, true, false, true, false, false, false] rfl rfl (by kernel_rfl) (fun _ _ _ h => h) (Or.inl ⟨by rfl, ?_⟩) hHeld ?_ ?_
               rotate_left
               · rintro w' ⟨s0, s1⟩
                 go_simp
                 with_reducible rfl
               rotate_left
               · exact aP
               refine take_ (i := 2) (N := some 26) (v := ?_) (a' := ?_) #[true, true, true, true, false, false, false] rfl rfl (by kernel_rfl) (fun _ _ _ h => h) (Or.inl ⟨by rfl, ?_⟩) hHeld ?_ ?_
               rotate_left
               · rintro w' ⟨s0, s1⟩
                 go_simp
                 with_reducible rfl
               rotate_left
               · exact aP
               refine one_ (i := 4) (N := some 28) #[true, true, true, true, true, false, false] rfl rfl (by kernel_rfl) (by decide) (fun K hK => ?_)
               refine goes_ Try.func144 (by kernel_rfl) rfl #[.int .i64 a0_0, .int .i64 x4_1] (by rfl) rfl rfl aT ?_
               with_reducible refine (spec_l2BitPoint.calls k1 a0_0 x4_1 t225 _ A14.out).mono ?_
               rintro e w18 ⟨v226, rfl, ho0, hb⟩
               refine ⟨_, rfl, ?_⟩
               have n0_ := Aside0.mk (Kd.S_elder' (pS HO_3) (Kd.R_base ho0) hb)
               have n1_ := Aside0.mk (Kd.R_lower ho0 (below_size (bC HB GE220)))
               have n2_ := Aside0.mk (blk_below (g := gb220) (o := .cells #[.int .i64 a0_0, .slice (some ad221) l0_1.length c0_1] 62 (0, 0)) (pB BK220) hb)
               have n3_ := Aside0.mk (below_step (bC HB GE220) hb)
               clear HO_3
               clear BK220
               clear HB
               have HO_3 := n0_
               have HO227 := n1_
               have BK220 := n2_
               have HB := n3_
               clear n0_ n1_ n2_ n3_
               (try clear hb)
               (try clear hb2)
               (try clear hk)
               (try clear hi)
               (try clear ho0)
               obtain ⟨Ao19, co19, eo19⟩ := Kd.R_slice HO227.out
               (first | subst eo19 | (injection eo19 with f1_ f2_ f3_; have f4_ := f1_.symm; have f5_ := f3_.symm; clear f1_ f2_ f3_; subst f4_; subst f5_))
               refine hK.out _ _ ⟨(blk_cell BK220.out 0).trans rfl, (blk_cell BK220.out 1).trans rfl⟩ (fun hHeld => ?_)
               clear hK K
               refine norm_ (a' := ?_) ?_ ?_
               rotate_left
               · show Act.put _ (some 28) _ = _
                 simp only [Act.put, List.setIfInBounds_toArray, List.set_cons_zero, List.set_cons_succ, i64_w, i32_w]
                 rfl
               refine one_ (i := 5) (N := some 29) #[true, true, true, true, true, true, false] rfl rfl (by kernel_rfl) (by decide) (fun K hK => ?_)
               refine goes_ Try.func96 (by kernel_rfl) rfl #[.agg #[.int .i64 a0_0, .slice (some ad221) l0_1.length c0_1], .slice Ao19 t225.length co19] (by rfl) rfl rfl aT ?_
               with_reducible refine (spec_l9Run.calls k1 a0_0 _ _ l0_1 _ _ t225 t228 _ ?side1 ?side2 ?side3 ?side4 A15.out).mono ?_
               (case side1 => exact cB HR0_1 HB)
               (case side2 => exact HC0_1.out)
               (case side3 => exact cR HO227)
               (case side4 => exact (Kd.R_reads' HO227.out).2.1)
               rintro e w20 ⟨v229, rfl, ho0, hb⟩
               refine ⟨_, rfl, ?_⟩
               have n0_ := Aside0.mk (Kd.S_elder' (pS HO_3) (Kd.R_base ho0) hb)
               have n1_ := Aside0.mk (Kd.R_elder' (pR HO227) (Kd.R_base ho0) hb)
               have n2_ := Aside0.mk (Kd.R_lower (Kd.R_new' ho0 (Kd.R_lt (pR HO227))) (below_size (bC HB GE220)))
               have n3_ := Aside0.mk (blk_below (g := gb220) (o := .cells #[.int .i64 a0_0, .slice (some ad221) l0_1.length c0_1] 62 (0, 0)) (pB BK220) hb)
               have n4_ := Aside0.mk (below_step (bC HB GE220) hb)
               clear HO_3
               clear HO227
               clear BK220
               clear HB
               have HO_3 := n0_
               have HO227 := n1_
               have HO230 := n2_
               have BK220 := n3_
               have HB := n4_
               clear n0_ n1_ n2_ n3_ n4_
               (try clear hb)
               (try clear hb2)
               (try clear hk)
               (try clear hi)
               (try clear ho0)
               refine hK.out _ _ ⟨(blk_cell BK220.out 0).trans rfl, (blk_cell BK220.out 1).trans rfl⟩ (fun hHeld => ?_)
               clear hK K
               refine norm_ (a' := ?_) ?_ ?_
               rotate_left
               · show Act.put _ (some 29) _ = _
                 simp only [Act.put, List.setIfInBounds_toArray, List.set_cons_zero, List.set_cons_succ, i64_w, i32_w]
                 rfl
               refine pure_ (i := 6) (N := some 5) (v := ?_) (a' := ?_) #[true, true, true, true, true, true, true] rfl rfl (by kernel_rfl) (fun _ _ _ h => h) (Or.inl ⟨by rfl, ?_⟩) ?_ ?_
               rotate_left
               · intro w'
                 go_simp
                 with_reducible rfl
               rotate_left
               · exact aP
               refine done_ (by kernel_rfl) ?_
               try go_wp2
               go_loopg [6] k1 (fun kq v6 w' => ∃ (x3_2 : List (List Int)) (x6_2 : Int), v6 = .int .i64 x6_2 ∧ Aside0 (spec_l9Tables.l1 kq x3_2 x4_1 t228 x6_2 a0_0 l0_1 = some r) ∧ Aside0 (kq ≤ k1) ∧ Aside0 (Kd.S (Kd.slice 3 (Kd.int .i64)) 23 w' w.heap.size (fun k_ => some k_ ≠ (v229 : Value).ownBlock) v223 x3_2) ∧ Aside0 (Kd.R (Kd.int .i64) 3 w' w.heap.size (fun _ => True) v229 t228) ∧ Aside0 (w'.heap[gb220]? = some (.cells #[.int .i64 a0_0, (.slice (some ad221) l0_1.length c0_1)] 62 (0, 0))) ∧ Aside0 (Below w.heap.size w w'))
               case atStart => exact ⟨(x3_1), (0), rD, H', ⟨Nat.le_refl _⟩, ⟨by (with_reducible repeat (first | apply Kd.S_alloc | apply Kd.S_drewN | apply Kd.S_drew)); exact Kd.S_mono HO_3.out (fun _ hk => hk.2)⟩, ⟨by (with_reducible repeat (first | apply Kd.R_alloc | apply Kd.R_drewN | apply Kd.R_drew)); exact Kd.R_mono HO230.out (fun _ hk => trivial)⟩, ⟨pB BK220⟩, ⟨bC HB GE220⟩⟩
               case round =>
                clear H'
                try clear c1
                try clear c2
                try clear p2
                try clear q2
                try clear hx2
                try clear c3
                try clear c3b0
                try clear c4
                try clear c4b0
                try clear c5
                try clear c5b0
                try clear c5b1
                try clear c6
                try clear c6b0
                try clear c6b1
                try clear p6
                try clear c9
                try clear c10
                try clear c11
                try clear c11b0
                try clear c11b1
                try clear c13
                try clear c13b0
                try clear c14
                try clear hcz16_0
                try clear hcz16_1
                try clear hcz8_0
                try clear hcz8_1
                try clear hfz16_0
                try clear hfz16_1
                try clear hfz8_0
                try clear hfz8_1
                try clear hx221_0
                try clear p2
                try clear p221
                try clear p6
                try clear q2
                try clear q221
                obtain ⟨x3_2, x6_2, rfl, HA, HK2, HO_3, HO_5, BK220, HB⟩ := hrel
                cases gk with
                | zero => exact absurd HA.out (by simp [spec_l9Tables.l1])
                | succ k2 =>
                 have H := HA.out
                 clear HA
                 simp only [spec_l9Tables.l1] at H
                 by_cases c21 : x6_2 < (x3_2.length : Int)
                 · rw [if_pos c21] at H
                   have c21b0 : decide (x6_2 < (x3_2.length : Int)) = true := decide_eq_true c21
                   clear c21
                   by_cases c22 : 0 ≤ x6_2
                   · rw [if_pos c22] at H
                     have c22b0 : decide (0 ≤ x6_2) = true := decide_eq_true c22
                     clear c22
                     by_cases c23 : x6_2 < (t228.length : Int)
                     · rw [if_pos c23] at H
                       have c23b0 : decide (x6_2 < (t228.length : Int)) = true := decide_eq_true c23
                       clear c23
                       by_cases c24 : (rd_L1 x3_2 x6_2).length < 17592186044416
                       · rw [if_pos c24] at H
                         have LMc24 := Aside0.mk c24
                         clear c24
                         obtain ⟨y233, hy233⟩ : ∃ y_ : List Int, y_ = ((rd_L1 x3_2 x6_2) ++ [rd t228 x6_2]) := ⟨_, rfl⟩
                         replace H : (spec_l9Tables.l1 k2 (x3_2.set (x6_2 : Int).toNat y233) x4_1 t228 (wrap64 (x6_2 + 1)) a0_0 l0_1) = some r := by first | (rw [hy233]; with_reducible exact H) | (have H2_ := (Option.bind_some _ _).symm.trans H; rw [hy233]; with_reducible exact H2_) | (have H2_ := (Option.bind_some _ _).symm.trans H; with_reducible exact H2_) | with_reducible exact H | (rw [hy233]; exact H) | exact H
                         have Ny233 := Aside0.mk hy233
                         clear hy233
                         obtain ⟨y236, hy236⟩ : ∃ y_ : List (List Int), y_ = (x3_2.set (x6_2 : Int).toNat y233) := ⟨_, rfl⟩
                         replace H : (spec_l9Tables.l1 k2 y236 x4_1 t228 (wrap64 (x6_2 + 1)) a0_0 l0_1) = some r := by first | (rw [hy236]; with_reducible exact H) | (have H2_ := (Option.bind_some _ _).symm.trans H; rw [hy236]; with_reducible exact H2_) | (have H2_ := (Option.bind_some _ _).symm.trans H; with_reducible exact H2_) | with_reducible exact H | (rw [hy236]; exact H) | exact H
                         have Ny236 := Aside0.mk hy236
                         clear hy236
                         have H' := Aside0.mk H
                         clear H
                         obtain ⟨Ao26, co26, eo26⟩ := Kd.S_slice HO_3.out
                         subst eo26
                         try go_wp2
                         have n0_ := Aside0.mk (Kd.S_drew HO_3.out)
                         have n1_ := Aside0.mk (Kd.R_drew HO_5.out)
                         have n2_ := Aside0.mk (blk_drew BK220.out)
                         have n3_ := Aside0.mk (below_drew1 HB.out)
                         clear HO_3
                         clear HO_5
                         clear BK220
                         clear HB
                         have HO_3 := n0_
                         have HO_5 := n1_
                         have BK220 := n2_
                         have HB := n3_
                         clear n0_ n1_ n2_ n3_
                         have p231 : 0 ≤ (x6_2 : Int) := of_decide_eq_true aS
                         have q231 : x6_2 < (x3_2.length : Int) := of_decide_eq_true aS
                         obtain ⟨ad231, A231_0, c231_0, e231, hx231_0, hl231_0, hi231_0⟩ := at_L1 (Kd.S_reads' HO_3.out).2.2 x6_2 p231 q231
                         cases e231
                         obtain ⟨ce231, hce231, hMe231, hcc231⟩ := Kd.S_get HO_3.out [] x6_2 p231 (by first | exact q231 | exact of_decide_eq_true aS | (have e_ := (Kd.S_reads' HO_3.out).1; omega))
                         obtain ⟨ve231_0, rfl, ge231_0⟩ := hMe231
                         have hv231_0 := hcc231 0 _ rfl
                         rw [Nat.add_zero, show ((Kd.slice 3 (Kd.int .i64))).sz = 1 from rfl, Nat.mul_one] at hv231_0
                         replace hv231_0 := Option.some.inj (hv231_0.symm.trans hx231_0)
                         rw [hv231_0] at ge231_0
                         have HL231_0 := Aside0.mk (show Kd.R (Kd.int .i64) 3 _ _ _ _ (rd_L1 x3_2 x6_2) from ge231_0)
                         clear hv231_0 ge231_0
                         have HX231_0 := Aside0.mk hx231_0
                         clear hcc231 hce231
                         have HR231_0 := Aside0.mk hi231_0
                         have HC231_0 := Aside0.mk hl231_0
                         clear hi231_0 hl231_0
                         replace p231 := eq_true p231
                         replace q231 := eq_true q231
                         obtain ⟨Ao28, co28, eo28⟩ := Kd.R_slice HO_5.out
                         (first | subst eo28 | (injection eo28 with f1_ f2_ f3_; have f4_ := f1_.symm; have f5_ := f3_.symm; clear f1_ f2_ f3_; subst f4_; subst f5_))
                         have p232 : 0 ≤ (x6_2 : Int) := of_decide_eq_true aS
                         have q232 : x6_2 < (t228.length : Int) := of_decide_eq_true aS
                         obtain ⟨ad232, e232, hx232_0⟩ := Kd.at_int (Kd.R_reads' HO_5.out).2.2 x6_2 p232 q232
                         cases e232
                         replace p232 := eq_true p232
                         replace q232 := eq_true q232
                         obtain ⟨go29, co29, eo29, gb29, gl29, cl29, HG29⟩ := Kd.S_form HO_3.out (by have h_ : (x6_2 : Int) < ((x3_2.length : Int) : Int) := of_decide_eq_true aS; have h2_ : 0 ≤ (x6_2 : Int) := (of_decide_eq_true aS); omega)
                         (first | cases eo29 | (injection eo29 with ea_ en_ ec_; (first | subst ea_ | (injection ea_ with ea_; subst ea_)); subst ec_; clear en_))
                         have GB29 := Aside0.mk gb29
                         have GG29 := Aside0.mk HG29
                         clear gb29 gl29 HG29
                         (first | simp only [add_plain] at hx231_0 | skip)
                         obtain ⟨oki29, ce29, hcl29, hM29, hcc29, _, _, hH29⟩ := Kd.S_elem HO_3.out [] (x6_2 : Int) (of_decide_eq_true aS) (by have h_ : (x6_2 : Int) < ((x3_2.length : Int) : Int) := of_decide_eq_true aS; first | exact h_ | (have e_ := (Kd.S_reads' HO_3.out).1; omega) | simpa using h_)
                         obtain ⟨ve29_0, rfl, ge29_0⟩ := hM29
                         have hv29 := hcc29 0 _ rfl
                         have hX29 := HX231_0.out
                         (try simp only [add_plain] at hX29)
                         (try simp only [Nat.add_zero] at hv29)
                         (try rw [show ((Kd.slice 3 (Kd.int .i64))).sz = 1 from rfl, Nat.mul_one] at hv29)
                         replace hv29 := Option.some.inj (hv29.symm.trans hX29)
                         subst hv29
                         clear hX29 hcc29 hcl29
                         have UU29 := Aside0.mk (show Kd.R (Kd.int .i64) 3 _ w.heap.size oki29 (.slice A231_0 (rd_L1 x3_2 x6_2).length c231_0) (rd_L1 x3_2 x6_2) from ge29_0)
                         have HH29 := Aside0.mk hH29
                         have HN29 := Aside0.mk (Kd.S_reads' HO_3.out).1
                         clear hH29 ge29_0
                         refine start_ (n := 14) (S := fun w' => w'.cell? ⟨go29, (x6_2).toNat, none⟩ = some (.slice A231_0 (rd_L1 x3_2 x6_2).length c231_0) ∧ w'.cell? (ad232.add (x6_2).toNat) = some (.int .i64 (rd t228 x6_2))) (ds := [11, 13]) #[false, false, false, false, false, false, false, false, false, false, false, false, false, false] (by kernel_rfl) rfl rfl ⟨hx231_0, hx232_0⟩ (fun hHeld => ?_); refine with_tabW spec_l9Tables.tab9 spec_l9Tables.bits9 (fun HT_ HW_ => ?_)
                         generalize wr.drew = w27 at HO_3 HO_5 BK220 HB GG29 HH29 HL231_0 HR231_0 HX231_0 UU29 hx231_0 hx232_0 hHeld ⊢
                         refine pure_ (i := 0) (N := some 36) (v := ?_) (a' := ?_) #[true, false, false, false, false, false, false, false, false, false, false, false, false, false] rfl rfl (any_of HT_.out (by kernel_rfl)) (fun _ _ _ h => h) (Or.inl ⟨by rfl, ?_⟩) ?_ ?_
                         rotate_left
                         · intro w'
                           go_simp
                           with_reducible rfl
                         rotate_left
                         · exact aP
                         refine pure_ (i := 1) (N := some 37) (v := ?_) (a' := ?_) #[true, true, false, false, false, false, false, false, false, false, false, false, false, false] rfl rfl (any_of HT_.out (by kernel_rfl)) (fun _ _ _ h => h) (Or.inl ⟨by rfl, ?_⟩) ?_ ?_
                         rotate_left
                         · intro w'
                           go_simp
                           with_reducible rfl
                         rotate_left
                         · exact aP
                         refine pure_ (i := 2) (N := some 38) (v := ?_) (a' := ?_) #[true, true, true, false, false, false, false, false, false, false, false, false, false, false] rfl rfl (any_of HT_.out (by kernel_rfl)) (fun _ _ _ h => h) (Or.inl ⟨by rfl, ?_⟩) ?_ ?_
                         rotate_left
                         · intro w'
                           go_simp
                           with_reducible rfl
                         rotate_left
                         · exact aP
                         refine pure_ (i := 3) (N := some 39) (v := ?_) (a' := ?_) #[true, true, true, true, false, false, false, false, false, false, false, false, false, false] rfl rfl (any_of HT_.out (by kernel_rfl)) (fun _ _ _ h => h) (Or.inl ⟨by rfl, ?_⟩) ?_ ?_
                         rotate_left
                         · intro w'
                           go_simp
                           with_reducible rfl
                         rotate_left
                         · exact aP
                         refine pure_ (i := 4) (N := some 40) (v := ?_) (a' := ?_) #[true, true, true, true, true, false, false, false, false, false, false, false, false, false] rfl rfl (any_of HT_.out (by kernel_rfl)) (fun _ _ _ h => h) (Or.inl ⟨by rfl, ?_⟩) ?_ ?_
                         rotate_left
                         · intro w'
                           go_simp
                           with_reducible rfl
                         rotate_left
                         · exact aP
                         refine pure_ (i := 6) (N := some 42) (v := ?_) (a' := ?_) #[true, true, true, true, true, false, true, false, false, false, false, false, false, false] rfl rfl (any_of HT_.out (by kernel_rfl)) (fun _ _ _ h => h) (Or.inl ⟨by rfl, ?_⟩) ?_ ?_
                         rotate_left
                         · intro w'
                           go_simp
                           with_reducible rfl
                         rotate_left
                         · exact aP
                         refine pure_ (i := 7) (N := some 43) (v := ?_) (a' := ?_) #[true, true, true, true, true, false, true, true, false, false, false, false, false, false] rfl rfl (any_of HT_.out (by kernel_rfl)) (fun _ _ _ h => h) (Or.inl ⟨by rfl, ?_⟩) ?_ ?_
                         rotate_left
                         · intro w'
                           go_simp
                           with_reducible rfl
                         rotate_left
                         · exact aP
                         refine pure_ (i := 8) (N := some 44) (v := ?_) (a' := ?_) #[true, true, true, true, true, false, true, true, true, false, false, false, false, false] rfl rfl (any_of HT_.out (by kernel_rfl)) (fun _ _ _ h => h) (Or.inl ⟨by rfl, ?_⟩) ?_ ?_
                         rotate_left
                         · intro w'
                           go_simp
                           with_reducible rfl
                         rotate_left
                         · exact aP
                         refine take_ (i := 5) (N := some 41) (v := ?_) (a' := ?_) #[true, true, true, true, true, true, true, true, true, false, false, false, false, false] rfl rfl (take_ofW HT_.out HW_.out (by kernel_rfl)) (fun _ _ _ h => h) (Or.inl ⟨by rfl, ?_⟩) hHeld ?_ ?_
                         rotate_left
                         · rintro w' ⟨s0, s1⟩
                           go_simp
                           with_reducible rfl
                         rotate_left
                         · exact aP
                         refine take_ (i := 9) (N := some 45) (v := ?_) (a' := ?_) #[true, true, true, true, true, true, true, true, true, true, false, false, false, false] rfl rfl (take_ofW HT_.out HW_.out (by kernel_rfl)) (fun _ _ _ h => h) (Or.inl ⟨by rfl, ?_⟩) hHeld ?_ ?_
                         rotate_left
                         · rintro w' ⟨s0, s1⟩
                           go_simp
                           with_reducible rfl
                         rotate_left
                         · exact aP
                         refine one_ (i := 10) (N := some 46) #[true, true, true, true, true, true, true, true, true, true, true, false, false, false] rfl rfl (one_of HT_.out (by kernel_rfl)) (by decide) (fun K hK => ?_)
                         refine value_ (w1 := ?_) (v := ?_) (by rfl) rfl ?_ ?_
                         rotate_left 2
                         · go_simp
                           constructor
                           · rfl
                           · rfl
                         refine hK.out _ _ ⟨(World.cell?_alloc_lt _ _ _ (World.block_lt_of_cell? _ _ (hHeld.1))).trans (hHeld.1), (World.cell?_alloc_lt _ _ _ (World.block_lt_of_cell? _ _ (hHeld.2))).trans (hHeld.2)⟩ (fun hHeld => ?_)
                         clear hK K
                         refine norm_ (a' := ?_) ?_ ?_
                         rotate_left
                         · show Act.put _ (some 46) _ = _
                           simp only [Act.put, List.setIfInBounds_toArray, List.set_cons_zero, List.set_cons_succ, i64_w, i32_w]
                           rfl
                         refine last_ (i := 11) (N := some 47) #[true, true, true, true, true, true, true, true, true, true, true, true, false, false] rfl rfl (one_of HT_.out (by kernel_rfl)) (by decide) (fun K hK => ?_)
                         refine Kd.R_append_step (Kd.int .i64) (w0 := w) w.heap.size (by rfl) (.tmp 41) (.tmp 46) 23 3 (.int .i64 0) 8 rfl Try.underlying23 info3 rfl (by decide) (by omega) (.slice A231_0 (rd_L1 x3_2 x6_2).length c231_0) (rd_L1 x3_2 x6_2) (rd t228 x6_2) [.int .i64 (rd t228 x6_2)] (fun k_ => oki29 k_ ∨ ((fun k_ => some k_ ≠ (.slice (some ad232) t228.length co28 : Value).ownBlock)) k_ ∧ w27.heap.size ≤ k_) (fun _ => False) rfl rfl ?aP (fun _ hk => hk.elim) ?aF ?aO ?aB ?aS ?aL ?_
                         (case aP => exact rfl)
                         (case aB => exact (bC HB GE220))
                         (case aF => exact (fun k_ hk => .inr ⟨Kd.fresh' (Kd.R_lt (pR HO_5)) k_ hk, hk⟩))
                         (case aO => exact (by (with_reducible repeat (first | apply Kd.R_alloc | apply Kd.R_drewN | apply Kd.R_drew)); exact Kd.R_mono UU29.out (fun _ hk => .inl hk)))
                         (case aS => exact (below_size (bC HB GE220)))
                         (case aL => have := LMc24.out; omega)
                         intro v234 w30 ho hb hg hat
                         rw [← Ny233.out] at ho
                         have n0_ := Aside0.mk (Kd.R_grown2 (pR HO_5) rfl hg (fun k_ e_ => (HL231_0.out.1 k_ e_).1))
                         have n1_ := Aside0.mk (blk_grown (g := gb220) (o := .cells #[.int .i64 a0_0, .slice (some ad221) l0_1.length c0_1] 62 (0, 0)) (pB BK220) hg (Kd.R_ne HL231_0.out BK220.out (by decide)))
                         have n2_ := Aside0.mk (hb)
                         have n3_ := Aside0.mk (Kd.H_grown (Kd.H_widen (by repeat (first | exact HH29.out | refine Kd.H_alloc ?_ _ | refine Kd.H_drewN ?_ _ | refine Kd.H_drew ?_))) hg (fun k_ e_ => .inl (UU29.out.1 k_ e_)))
                         have n4_ := Aside0.mk (ho)
                         clear HO_5
                         clear BK220
                         clear HB
                         clear HH29
                         clear HO_3
                         clear UU29
                         clear HL231_0
                         have HO_5 := n0_
                         have BK220 := n1_
                         have HB := n2_
                         have HH29 := n3_
                         have HO235 := n4_
                         clear n0_ n1_ n2_ n3_ n4_
                         clear ho hb hg hat
                         have p25 : 0 ≤ (x6_2 : Int) := of_decide_eq_true aS
                         have q25 : (x6_2 : Int) < ((x3_2.length : Int) : Int) := of_decide_eq_true aS
                         replace p25 := eq_true p25
                         replace q25 := eq_true q25
                         obtain ⟨Ao33, co33, eo33⟩ := Kd.R_slice HO235.out
                         (first | subst eo33 | (injection eo33 with f1_ f2_ f3_; have f4_ := f1_.symm; have f5_ := f3_.symm; clear f1_ f2_ f3_; subst f4_; subst f5_))
                         obtain ⟨_, _, hraw31, _, _, hcc31, _⟩ := Kd.H_raw HH29.out (of_decide_eq_true aS) (by have h_ : (x6_2 : Int) < ((x3_2.length : Int) : Int) := of_decide_eq_true aS; first | exact h_ | (have e_ := (HN29.out); omega) | simpa using h_)
                         obtain ⟨_, hfr31⟩ := Kd.H_at HH29.out (of_decide_eq_true aS) (by have h_ : (x6_2 : Int) < ((x3_2.length : Int) : Int) := of_decide_eq_true aS; first | exact h_ | (have e_ := (HN29.out); omega) | simpa using h_)
                         have hx31_0 := hcc31 0 _ rfl
                         have hf31_0 := hfr31 0
                         (try simp only [Nat.add_zero] at hx31_0 hf31_0)
                         (try rw [show ((Kd.slice 3 (Kd.int .i64))).sz = 1 from rfl, Nat.mul_one] at hx31_0)
                         (try rw [show ((Kd.slice 3 (Kd.int .i64))).sz = 1 from rfl, Nat.mul_one] at hf31_0)
                         have HP31 := Kd.S_seg0 HH29.out (of_decide_eq_true aS) (by have h_ : (x6_2 : Int) < ((x3_2.length : Int) : Int) := of_decide_eq_true aS; first | exact h_ | (have e_ := (HN29.out); omega) | simpa using h_) (seg := [.slice Ao33 y233.length co33]) (j := 0) (show 1 ≤ 1 from by decide) (x' := y233) (Kd.M_row HO235.out) (fun _ hk => hk)
                         (try simp only [show ((Kd.slice 3 (Kd.int .i64))).sz = 1 from rfl, Nat.mul_one, Nat.add_zero] at HP31)
                         clear hcc31 hfr31
                         have HNB220_go29 := Aside0.mk (show gb220 ≠ go29 from by have h_ := Kd.R_ne hraw31 BK220.out (by decide); intro e_; exact h_ (by rw [e_]; rfl))
                         have HS31 := HP31.1
                         rw [← Ny236.out] at HS31
                         have HQ31 := Aside0.mk HS31
                         obtain ⟨_, hgg31⟩ := Kd.R_typed hraw31 go29 rfl
                         have GG31_ := Aside0.mk hgg31
                         clear HP31 HS31 hgg31
                         refine hK.out _ _ ?_
                         clear hK K
                         refine norm_ (a' := ?_) ?_ ?_
                         rotate_left
                         · show Act.put _ (some 47) _ = _
                           simp only [Act.put, List.setIfInBounds_toArray, List.set_cons_zero, List.set_cons_succ, i64_w, i32_w]
                           rfl
                         refine pure_ (i := 12) (N := some 48) (v := ?_) (a' := ?_) #[true, true, true, true, true, true, true, true, true, true, true, true, true, false] rfl rfl (any_of HT_.out (by kernel_rfl)) (fun _ _ _ h => h) (Or.inl ⟨by rfl, ?_⟩) ?_ ?_
                         rotate_left
                         · intro w'
                           go_simp
                           with_reducible rfl
                         rotate_left
                         · exact aP
                         refine last_ (i := 13) (N := none) #[true, true, true, true, true, true, true, true, true, true, true, true, true, true] rfl rfl (one_of HT_.out (by kernel_rfl)) (by decide) (fun K hK => ?_)
                         refine skip_ (w1 := ?_) (by rfl) rfl ?_ ?_
                         rotate_left
                         · go_simp
                           rfl
                         refine hK.out _ _ ?_
                         clear hK K
                         refine done_ (done_of HT_.out (by kernel_rfl)) ?_
                         try go_wp2
                         go_roundg k2
                         case measure => have := HK1.out; have := HK2.out; omega
                         case rel => exact ⟨(y236), (wrap64 (x6_2 + 1)), rD, H', ⟨by have := HK1.out; have := HK2.out; omega⟩, ⟨pS HQ31⟩, ⟨by (with_reducible repeat (first | apply Kd.R_alloc | apply Kd.R_drewN | apply Kd.R_drew)); exact Kd.R_mono (Kd.R_far (p := ⟨go29, (x6_2 : Int).toNat, none⟩) (Kd.R_types HO_5.out GG31_.out (by decide)) (fun _ hk => hk.2) (.slice Ao33 y233.length co33)) (fun _ hk => trivial)⟩, ⟨by (with_reducible repeat (first | refine blk_drewN ?_ _ | refine blk_drew ?_ | refine blk_alloc ?_ _)); refine blk_far ?_ HNB220_go29.out _; (with_reducible repeat (first | refine blk_drewN ?_ _ | refine blk_drew ?_ | refine blk_alloc ?_ _)); exact BK220.out⟩, ⟨bD HB GB29 GE220⟩⟩
                       · rw [if_neg c24] at H
                         exact absurd H (by simp)
                     · rw [if_neg c23] at H
                       exact absurd H (by simp)
                   · rw [if_neg c22] at H
                     exact absurd H (by simp)
                 · rw [if_neg c21] at H
                   have c21b0 : decide (x6_2 < (x3_2.length : Int)) = false := decide_eq_false c21
                   clear c21
                   have H' := Aside0.mk H
                   clear H
                   obtain ⟨Ao34, co34, eo34⟩ := Kd.S_slice HO_3.out
                   subst eo34
                   go_wp2
                   go_roundg k2
                   case measure => have := HK1.out; have := HK2.out; omega
                   case rel => exact ⟨(x3_2), (wrap64 (x4_1 + 1)), rD, H', ⟨by have := HK1.out; have := HK2.out; omega⟩, ⟨by (with_reducible repeat (first | apply Kd.S_alloc | apply Kd.S_drewN | apply Kd.S_drew)); exact Kd.S_mono HO_3.out (fun _ hk => trivial)⟩, ⟨pB BK220⟩, ⟨bC HB GE220⟩⟩
             · rw [if_neg c13] at H
               have c13b0 : decide (x4_1 < (ji12)) = false := decide_eq_false c13
               clear c13
               obtain rfl := Option.some.inj H
               have hcz35_0 : wr.cell? ⟨gb220, 0, none⟩ = some (.int .i64 a0_0) := (blk_cell BK220.out 0).trans rfl
               have hcz35_1 : wr.cell? ⟨gb220, 1, none⟩ = some (.slice (some ad221) l0_1.length c0_1) := (blk_cell BK220.out 1).trans rfl
               have hfz35_0 := blk_frozen BK220.out 0
               have hfz35_1 := blk_frozen BK220.out 1
               go_wp2
               go_ret
               exact ⟨_, by first | rfl | (simp [errW_none, errW_some] <;> rfl) | (simp only [← hji2, ← hji12]; first | rfl | (simp [errW_none, errW_some] <;> rfl)) | (simp [*, errW_none, errW_some] <;> rfl), by (with_reducible repeat (first | apply Kd.S_alloc | apply Kd.S_drewN | apply Kd.S_drew)); exact HO_3.out, bC HB GE220⟩
           · rw [if_neg c11] at H
             exact absurd H (by simp)
       · rw [if_neg c6] at H
         exact absurd H (by simp)
     · rw [if_neg c5] at H
       exact absurd H (by simp)
   · rw [if_neg c4] at H
     exact absurd H (by simp)
 · rw [if_neg c3] at H
   exact absurd H (by simp)

/-! ### spec_NetTables: function 52 -/
def spec_NetTables.f (k : Nat) (a0_0 : Int) (l0_1 : List (List (S42))) : Option ((List (List Int)) × Bool) := (spec_l9Good.f k a0_0 l0_1).bind fun t238 => (if t238 = true then ((spec_l9Tables.f k a0_0 l0_1).bind fun t239 => (some (t239, true))) else (some ((([] : List (List Int))), false)))
set_option maxHeartbeats 8000000 in
set_option maxRecDepth 100000 in
theorem spec_NetTables.calls (k : Nat) (a0_0 : Int) (A0_1 : Option Addr) (c0_1 : Nat) (l0_1 : List (List (S42))) (r1 : List (List Int)) (r2 : Bool) (w : World) (hr0_1 : Kd.C (Kd.slice 42 k42) w A0_1 l0_1.length l0_1) (hc0_1 : l0_1.length ≤ c0_1) (h : spec_NetTables.f k a0_0 l0_1 = some (r1, r2)) :
 Calls Try.prog 52 #[.agg #[.int .i64 a0_0, .slice A0_1 l0_1.length c0_1]] w fun e w' => ∃ v0_ : Value, e = .returned (.tuple #[v0_, .bool r2]) ∧ Kd.S (Kd.slice 3 (Kd.int .i64)) 23 w' w.heap.size (fun _ => True) v0_ r1 ∧ Below w.heap.size w w' := by
 have hu62 := Try.underlying62
 have HR0_1 := Aside0.mk hr0_1
 have HC0_1 := Aside0.mk hc0_1
 clear hr0_1 hc0_1
 have HB := Aside0.mk (Below.refl w.heap.size w)
 have H : ((spec_l9Good.f k a0_0 l0_1).bind fun t238 => (if t238 = true then ((spec_l9Tables.f k a0_0 l0_1).bind fun t239 => (some (t239, true))) else (some ((([] : List (List Int))), false)))) = some (r1, r2) := h
 clear h
 replace H := Option.bind_eq_some_iff.mp H
 obtain ⟨t238, A20, H⟩ := H
 replace H : (if t238 = true then ((spec_l9Tables.f k a0_0 l0_1).bind fun t239 => (some (t239, true))) else (some ((([] : List (List Int))), false))) = some (r1, r2) := H
 have A2 := Aside0.mk A20
 clear A20
 by_cases c3 : t238 = true
 · subst c3
   have H1 : ((spec_l9Tables.f k a0_0 l0_1).bind fun t239 => (some (t239, true))) = some (r1, r2) := by rw [if_pos rfl] at H; exact H
   clear H
   have H := H1
   clear H1
   replace H := Option.bind_eq_some_iff.mp H
   obtain ⟨t239, A40, H⟩ := H
   replace H : (some (t239, true)) = some (r1, r2) := H
   have A4 := Aside0.mk A40
   clear A40
   simp only [Option.some.injEq, Prod.mk.injEq] at H
   obtain ⟨rfl, rfl⟩ := H
   go_enter Try.func52, Try.ntmps52
   go_wp2_with (first | ((with_reducible refine gate_dst (N := 1) rfl ?_); refine box_event ?hg (N := 1) ?hd (cs := #[.int .i64 a0_0, .slice A0_1 l0_1.length c0_1]) (t := 62) ?hr ?_; (case hd => rfl); (case hg => rfl); (case hr => first | (go_simp; done) | (go_simp; rfl)); intro gb237 hg w5 hbox hb; have n0_ := Aside0.mk (below_step (bB HB) hb); have n1_ := Aside0.mk (hbox); have n2_ := Aside0.mk ((by rw [hg]; exact (below_size (bB HB)) : w.heap.size ≤ gb237)); have n3_ := Aside0.mk ((by rw [hg]; exact (below_size (bB HB)) : w.heap.size ≤ gb237)); clear HB; have HB := n0_; have BK237 := n1_; have GW237 := n2_; have GE237 := n3_; clear n0_ n1_ n2_ n3_; clear hb hbox hg; have hcz6_0 : w5.cell? ⟨gb237, 0, none⟩ = some (.int .i64 a0_0) := (blk_cell BK237.out 0).trans rfl; have hcz6_1 : w5.cell? ⟨gb237, 1, none⟩ = some (.slice A0_1 l0_1.length c0_1) := (blk_cell BK237.out 1).trans rfl; have hfz6_0 := blk_frozen BK237.out 0; have hfz6_1 := blk_frozen BK237.out 1) | ((with_reducible refine gate_callee (f := 94) rfl ?_); refine goesL_ (some 5) rfl rfl Try.func94 (by kernel_rfl) rfl #[.agg #[.int .i64 a0_0, .slice A0_1 l0_1.length c0_1]] rfl aT ?_; (with_reducible refine (spec_l9Good.calls k a0_0 _ _ l0_1 true _ ?side1 ?side2 A2.out).mono ?_); (case side1 => exact cB HR0_1 HB); (case side2 => exact HC0_1.out); rintro e w7 ⟨rfl, hb⟩; refine ⟨_, rfl, ?_⟩; have n0_ := Aside0.mk (blk_below (g := gb237) (o := .cells #[.int .i64 a0_0, .slice A0_1 l0_1.length c0_1] 62 (0, 0)) (pB BK237) hb); have n1_ := Aside0.mk (below_step (bC HB GE237) hb); clear BK237; clear HB; have BK237 := n0_; have HB := n1_; clear n0_ n1_; (try clear hb); (try clear hb2); (try clear hk); (try clear hi); have hcz8_0 : w7.cell? ⟨gb237, 0, none⟩ = some (.int .i64 a0_0) := (blk_cell BK237.out 0).trans rfl; have hcz8_1 : w7.cell? ⟨gb237, 1, none⟩ = some (.slice A0_1 l0_1.length c0_1) := (blk_cell BK237.out 1).trans rfl; have hfz8_0 := blk_frozen BK237.out 0; have hfz8_1 := blk_frozen BK237.out 1) | ((with_reducible refine gate_callee (f := 109) rfl ?_); refine goesL_ (some 9) rfl rfl Try.func109 (by kernel_rfl) rfl #[.agg #[.int .i64 a0_0, .slice A0_1 l0_1.length c0_1]] rfl aT ?_; (with_reducible refine (spec_l9Tables.calls k a0_0 _ _ l0_1 t239 _ ?side1 ?side2 A4.out).mono ?_); (case side1 => exact cB HR0_1 HB); (case side2 => exact HC0_1.out); rintro e w9 ⟨v240, rfl, ho0, hb⟩; refine ⟨_, rfl, ?_⟩; have n0_ := Aside0.mk (Kd.S_lower ho0 (below_size (bC HB GE237))); have n1_ := Aside0.mk (blk_below (g := gb237) (o := .cells #[.int .i64 a0_0, .slice A0_1 l0_1.length c0_1] 62 (0, 0)) (pB BK237) hb); have n2_ := Aside0.mk (below_step (bC HB GE237) hb); clear BK237; clear HB; have HO241 := n0_; have BK237 := n1_; have HB := n2_; clear n0_ n1_ n2_; (try clear hb); (try clear hb2); (try clear hk); (try clear hi); (try clear ho0)))
   go_ret2
   exact ⟨_, eW, by (with_reducible repeat (first | apply Kd.S_alloc | apply Kd.S_drewN | apply Kd.S_drew)); exact HO241.out, bC HB GE237⟩
 · replace c3 := Bool.eq_false_iff.mpr c3
   subst c3
   have H1 : (some ((([] : List (List Int))), false)) = some (r1, r2) := by rw [if_neg (show ¬ (false = true) by decide)] at H; exact H
   clear H
   have H := H1
   clear H1
   obtain ⟨y242, hy242⟩ : ∃ y_ : List (List Int), y_ = (([] : List (List Int))) := ⟨_, rfl⟩
   replace H : (some (y242, false)) = some (r1, r2) := by first | (rw [hy242]; with_reducible exact H) | (have H2_ := (Option.bind_some _ _).symm.trans H; rw [hy242]; with_reducible exact H2_) | (have H2_ := (Option.bind_some _ _).symm.trans H; with_reducible exact H2_) | with_reducible exact H | (rw [hy242]; exact H) | exact H
   have Ny242 := Aside0.mk hy242
   clear hy242
   simp only [Option.some.injEq, Prod.mk.injEq] at H
   obtain ⟨rfl, rfl⟩ := H
   go_enter Try.func52, Try.ntmps52
   go_wp2_with (first | ((with_reducible refine gate_dst (N := 1) rfl ?_); refine box_event ?hg (N := 1) ?hd (cs := #[.int .i64 a0_0, .slice A0_1 l0_1.length c0_1]) (t := 62) ?hr ?_; (case hd => rfl); (case hg => rfl); (case hr => first | (go_simp; done) | (go_simp; rfl)); intro gb237 hg w10 hbox hb; have n0_ := Aside0.mk (below_step (bB HB) hb); have n1_ := Aside0.mk (hbox); have n2_ := Aside0.mk ((by rw [hg]; exact (below_size (bB HB)) : w.heap.size ≤ gb237)); have n3_ := Aside0.mk ((by rw [hg]; exact (below_size (bB HB)) : w.heap.size ≤ gb237)); clear HB; have HB := n0_; have BK237 := n1_; have GW237 := n2_; have GE237 := n3_; clear n0_ n1_ n2_ n3_; clear hb hbox hg; have hcz11_0 : w10.cell? ⟨gb237, 0, none⟩ = some (.int .i64 a0_0) := (blk_cell BK237.out 0).trans rfl; have hcz11_1 : w10.cell? ⟨gb237, 1, none⟩ = some (.slice A0_1 l0_1.length c0_1) := (blk_cell BK237.out 1).trans rfl; have hfz11_0 := blk_frozen BK237.out 0; have hfz11_1 := blk_frozen BK237.out 1) | ((with_reducible refine gate_callee (f := 94) rfl ?_); refine goesL_ (some 5) rfl rfl Try.func94 (by kernel_rfl) rfl #[.agg #[.int .i64 a0_0, .slice A0_1 l0_1.length c0_1]] rfl aT ?_; (with_reducible refine (spec_l9Good.calls k a0_0 _ _ l0_1 false _ ?side1 ?side2 A2.out).mono ?_); (case side1 => exact cB HR0_1 HB); (case side2 => exact HC0_1.out); rintro e w12 ⟨rfl, hb⟩; refine ⟨_, rfl, ?_⟩; have n0_ := Aside0.mk (blk_below (g := gb237) (o := .cells #[.int .i64 a0_0, .slice A0_1 l0_1.length c0_1] 62 (0, 0)) (pB BK237) hb); have n1_ := Aside0.mk (below_step (bC HB GE237) hb); clear BK237; clear HB; have BK237 := n0_; have HB := n1_; clear n0_ n1_; (try clear hb); (try clear hb2); (try clear hk); (try clear hi)) | ((with_reducible refine gate_dst (N := 7) rfl ?_); refine Kd.S_lit (Kd.slice 3 (Kd.int .i64)) _ 23 ?hg (N := 7) ?hd (xs := ([] : List (List Int))) (inner := []) (ok := fun _ => True) (okp := fun _ => True) ?hr ?hp (fun _ hk => hk) trivial (Below.refl _ _) (Nat.le_refl _) (by simp) ?_; (case hd => rfl); (case hg => rfl); (case hr => first | (go_simp; done) | (go_simp; rfl)); (case hp => exact (Reps.none _ _)); intro v243 w13 ho14 hb hg_ hnew_; clear hg_ hnew_; (first | rw [← Ny242.out] at ho14 | (simp only [Int.reduceToNat] at ho14; rw [← Ny242.out] at ho14)); have n0_ := Aside0.mk (Kd.S_lower ho14 (below_size (bC HB GE237))); have n1_ := Aside0.mk (blk_below (g := gb237) (o := .cells #[.int .i64 a0_0, .slice A0_1 l0_1.length c0_1] 62 (0, 0)) (pB BK237) hb); have n2_ := Aside0.mk (below_step (bC HB GE237) hb); clear BK237; clear HB; have HO244 := n0_; have BK237 := n1_; have HB := n2_; clear n0_ n1_ n2_; clear hb ho14))
   go_ret2
   exact ⟨_, eW, by (with_reducible repeat (first | apply Kd.S_alloc | apply Kd.S_drewN | apply Kd.S_drew)); exact HO244.out, bC HB GE237⟩

/-! ### impl_within: function 71 -/
def impl_within.f (a0 : Int) (a1 : Int) (a2 : Int) : Option (Bool) := if a0 ≥ a1 then (some (decide (a0 ≤ a2))) else (some false)
set_option maxHeartbeats 8000000 in
set_option maxRecDepth 100000 in
theorem impl_within.calls (a0 : Int) (a1 : Int) (a2 : Int) (r : Bool) (w : World) (h : impl_within.f a0 a1 a2 = some r) :
 Calls Try.prog 71 #[.int .i64 a0, .int .i64 a1, .int .i64 a2] w fun e w' => e = .returned (.bool r) ∧ Drawn0 w w' := by
 have H : (if a0 ≥ a1 then (some (decide (a0 ≤ a2))) else (some false)) = some r := h
 clear h
 by_cases c4 : a0 ≥ a1
 · rw [if_pos c4] at H
   have c4b0 : decide (a1 ≤ a0) = true := decide_eq_true c4
   clear c4
   obtain rfl := Option.some.inj H
   go_enter Try.func71, Try.ntmps71
   go_wp2
   go_ret
   exact ⟨rD, by repeat (first | exact Drawn0.refl _ | apply Drawn0.step)⟩
 · rw [if_neg c4] at H
   have c4b0 : decide (a1 ≤ a0) = false := decide_eq_false c4
   clear c4
   obtain rfl := Option.some.inj H
   go_enter Try.func71, Try.ntmps71
   go_wp2
   go_ret
   exact ⟨rD, by repeat (first | exact Drawn0.refl _ | apply Drawn0.step)⟩

/-! ### impl_allWithin: function 99 -/
def impl_allWithin.l0 : Nat → Int → Int → List Int → Int → Int → Option (Bool)
 | 0, _, _, _, _, _ => none
 | k + 1, x1, x2, x9, x10, x11 => if x11 < x10 then (if 0 ≤ x11 then (if x11 < (x9.length : Int) then ((impl_within.f (rd x9 x11) x1 x2).bind fun t246 => (if t246 = true then (impl_allWithin.l0 k x1 x2 x9 x10 (wrap64 (x11 + 1))) else (some false))) else (none)) else (none)) else (some true)
def impl_allWithin.f (k : Nat) (l0 : List Int) (a1 : Int) (a2 : Int) : Option (Bool) := impl_allWithin.l0 k a1 a2 l0 (l0.length : Int) 0
set_option maxHeartbeats 8000000 in
set_option maxRecDepth 100000 in
theorem impl_allWithin.calls (k : Nat) (A0 : Option Addr) (c0 : Nat) (l0 : List Int) (a1 : Int) (a2 : Int) (r : Bool) (w : World) (hr0 : Kd.C (Kd.int .i64) w A0 l0.length l0) (hc0 : l0.length ≤ c0) (h : impl_allWithin.f k l0 a1 a2 = some r) :
 Calls Try.prog 99 #[.slice A0 l0.length c0, .int .i64 a1, .int .i64 a2] w fun e w' => e = .returned (.bool r) ∧ Drawn0 w w' := by
 have HR0 := Aside0.mk hr0
 have HC0 := Aside0.mk hc0
 clear hr0 hc0
 have H : (impl_allWithin.l0 k a1 a2 l0 (l0.length : Int) 0) = some r := h
 clear h
 have H' := Aside0.mk H
 clear H
 go_enter Try.func99, Try.ntmps99
 go_wp2
 go_loopg [11] k (fun kq v11 w' => ∃ (x11_1 : Int), v11 = .int .i64 x11_1 ∧ Aside0 (impl_allWithin.l0 kq a1 a2 l0 (l0.length : Int) x11_1 = some r) ∧ Aside0 (kq ≤ k) ∧ Drawn0 w w')
 case atStart => exact ⟨(0), rD, H', ⟨Nat.le_refl _⟩, by repeat (first | exact Drawn0.refl _ | apply Drawn0.step)⟩
 case round =>
  clear H'
  try clear p2
  obtain ⟨x11_1, rfl, HA, HK1, ⟨m1, rfl⟩⟩ := hrel
  cases gk with
  | zero => exact absurd HA.out (by simp [impl_allWithin.l0])
  | succ k1 =>
   have H := HA.out
   clear HA
   simp only [impl_allWithin.l0] at H
   by_cases c4 : x11_1 < (l0.length : Int)
   · rw [if_pos c4] at H
     have c4b0 : decide (x11_1 < (l0.length : Int)) = true := decide_eq_true c4
     clear c4
     by_cases c5 : 0 ≤ x11_1
     · rw [if_pos c5] at H
       have c5b0 : decide (0 ≤ x11_1) = true := decide_eq_true c5
       clear c5
       by_cases c6 : x11_1 < (l0.length : Int)
       · rw [if_pos c6] at H
         have c6b0 : decide (x11_1 < (l0.length : Int)) = true := decide_eq_true c6
         clear c6
         replace H := Option.bind_eq_some_iff.mp H
         obtain ⟨t246, A70, H⟩ := H
         replace H : (if t246 = true then (impl_allWithin.l0 k1 a1 a2 l0 (l0.length : Int) (wrap64 (x11_1 + 1))) else (some false)) = some r := H
         have A7 := Aside0.mk A70
         clear A70
         by_cases c8 : t246 = true
         · subst c8
           have H1 : (impl_allWithin.l0 k1 a1 a2 l0 (l0.length : Int) (wrap64 (x11_1 + 1))) = some r := by rw [if_pos rfl] at H; exact H
           clear H
           have H := H1
           clear H1
           have H' := Aside0.mk H
           clear H
           have p245 : 0 ≤ (x11_1 : Int) := of_decide_eq_true aS
           have q245 : x11_1 < (l0.length : Int) := of_decide_eq_true aS
           obtain ⟨ad245, e245, hx245_0⟩ := Kd.at_int HR0.out x11_1 p245 q245
           cases e245
           replace p245 := eq_true p245
           replace q245 := eq_true q245
           go_wp2_with (first | ((with_reducible refine gate_callee (f := 71) rfl ?_); refine goesL_ (some 18) rfl rfl Try.func71 (by kernel_rfl) rfl #[.int .i64 (rd l0 x11_1), .int .i64 a1, .int .i64 a2] rfl aT ?_; (with_reducible refine (impl_within.calls (rd l0 x11_1) a1 a2 true _ A7.out).mono ?_); rintro e w' ⟨rfl, ⟨nd, rfl⟩⟩; refine ⟨_, rfl, ?_⟩))
           go_roundg k1
           case measure => have := HK1.out; omega
           case rel => exact ⟨(wrap64 (x11_1 + 1)), rD, H', ⟨by have := HK1.out; omega⟩, by repeat (first | exact Drawn0.refl _ | apply Drawn0.step)⟩
         · replace c8 := Bool.eq_false_iff.mpr c8
           subst c8
           have H1 : (some false) = some r := by rw [if_neg (show ¬ (false = true) by decide)] at H; exact H
           clear H
           have H := H1
           clear H1
           obtain rfl := Option.some.inj H
           have p245 : 0 ≤ (x11_1 : Int) := of_decide_eq_true aS
           have q245 : x11_1 < (l0.length : Int) := of_decide_eq_true aS
           obtain ⟨ad245, e245, hx245_0⟩ := Kd.at_int HR0.out x11_1 p245 q245
           cases e245
           replace p245 := eq_true p245
           replace q245 := eq_true q245
           go_wp2_with (first | ((with_reducible refine gate_callee (f := 71) rfl ?_); refine goesL_ (some 18) rfl rfl Try.func71 (by kernel_rfl) rfl #[.int .i64 (rd l0 x11_1), .int .i64 a1, .int .i64 a2] rfl aT ?_; (with_reducible refine (impl_within.calls (rd l0 x11_1) a1 a2 false _ A7.out).mono ?_); rintro e w' ⟨rfl, ⟨nd, rfl⟩⟩; refine ⟨_, rfl, ?_⟩))
           go_ret
           exact ⟨rD, by repeat (first | exact Drawn0.refl _ | apply Drawn0.step)⟩
       · rw [if_neg c6] at H
         exact absurd H (by simp)
     · rw [if_neg c5] at H
       exact absurd H (by simp)
   · rw [if_neg c4] at H
     have c4b0 : decide (x11_1 < (l0.length : Int)) = false := decide_eq_false c4
     clear c4
     obtain rfl := Option.some.inj H
     go_wp2
     go_ret
     exact ⟨rD, by repeat (first | exact Drawn0.refl _ | apply Drawn0.step)⟩

end Go.Proofs.Ytniebbjbihenfaa.PFnExactNetTables
