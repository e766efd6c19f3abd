-- Printed by wip/tools/myprint.py (the printer of the kit, patched by that program; roots chosen by it)
import Derived.Test.YtfkfahdikmfpeaaPFnExactFittingJuryx0
import Derived.Test.YtfkfahdikmfpeaaPFnExactFittingJuryx5
import Derived.Test.YtfkfahdikmfpeaaSh
namespace Go.Proofs.Ytfkfahdikmfpeaa.PFnExactFittingJury
open Go.RowKit Go.Proofs.Ytfkfahdikmfpeaa.Sh Go.Proofs.YtfkfahdikmfpeaaW.PrintWords Go.Proofs.YtfkfahdikmfpeaaW.PrintLast Go.Proofs.YtfkfahdikmfpeaaW.PrintMore
attribute [local go_sem] max2_int min2_int max_two min_two max_three min_three max_four min_four   -- for this text's walks alone
set_option linter.unusedVariables false
set_option linter.unusedSimpArgs false

/-! ### spec_l8Unit: function 151 -/
def spec_l8Unit.f (a0 : Int) (a1 : Int) (a2 : Int) : Option (List Int) := if 0 ≤ a0 then (if (a0 : Int).toNat ≤ 35184372088832 then ((some (List.replicate (a0 : Int).toNat 0 : List Int)).bind fun y165 => (if 0 ≤ a1 then (if a1 < (y165.length : Int) then (some (y165.set (a1 : Int).toNat a2)) else (none)) else (none))) else (none)) else (none)
set_option maxHeartbeats 8000000 in
set_option maxRecDepth 100000 in
theorem spec_l8Unit.calls (a0 : Int) (a1 : Int) (a2 : Int) (r : List Int) (w : World) (h : spec_l8Unit.f a0 a1 a2 = some r) :
 Calls Try.prog 151 #[.int .i64 a0, .int .i64 a1, .int .i64 a2] w fun e w' => ∃ v0_ : Value, e = .returned (v0_) ∧ Kd.R (Kd.int .i64) 3 w' w.heap.size (fun _ => True) v0_ r ∧ Below w.heap.size w w' := by
 have HB := Aside0.mk (Below.refl w.heap.size w); have H : (if 0 ≤ a0 then (if (a0 : Int).toNat ≤ 35184372088832 then ((some (List.replicate (a0 : Int).toNat 0 : List Int)).bind fun y165 => (if 0 ≤ a1 then (if a1 < (y165.length : Int) then (some (y165.set (a1 : Int).toNat a2)) else (none)) else (none))) else (none)) else (none)) = some r := h; clear h; by_cases c4 : 0 ≤ a0
 · rw [if_pos c4] at H; have c4b0 := eq_true c4; have c4b1 : decide (0 ≤ a0) = true := decide_eq_true c4; clear c4; by_cases c5 : (a0 : Int).toNat ≤ 35184372088832
   · rw [if_pos c5] at H; have c5b0 := eq_true c5; have c5b1 : decide ((a0 : Int).toNat ≤ 35184372088832) = true := decide_eq_true c5; clear c5; obtain ⟨y165, hy165⟩ : ∃ y_ : List Int, y_ = (List.replicate (a0 : Int).toNat 0) := ⟨_, rfl⟩; replace H : (if 0 ≤ a1 then (if a1 < (y165.length : Int) then (some (y165.set (a1 : Int).toNat a2)) else (none)) else (none)) = some r := by first | (rw [hy165]; with_reducible exact H) | (have H2_ := (Option.bind_some _ _).symm.trans H; rw [hy165]; with_reducible exact H2_) | (have H2_ := (Option.bind_some _ _).symm.trans H; with_reducible exact H2_) | with_reducible exact H | (rw [hy165]; exact H) | exact H
     have Ny165 := Aside0.mk hy165; clear hy165; by_cases c6 : 0 ≤ a1
     · rw [if_pos c6] at H; have c6b0 : decide (0 ≤ a1) = true := decide_eq_true c6; clear c6; by_cases c7 : a1 < (y165.length : Int)
       · rw [if_pos c7] at H; have c7b0 : decide (a1 < (y165.length : Int)) = true := decide_eq_true c7; clear c7; obtain ⟨y168, hy168⟩ : ∃ y_ : List Int, y_ = (y165.set (a1 : Int).toNat a2) := ⟨_, rfl⟩; replace H : (some y168) = some r := by first | (rw [hy168]; with_reducible exact H) | (have H2_ := (Option.bind_some _ _).symm.trans H; rw [hy168]; with_reducible exact H2_) | (have H2_ := (Option.bind_some _ _).symm.trans H; with_reducible exact H2_) | with_reducible exact H | (rw [hy168]; exact H) | exact H
         have Ny168 := Aside0.mk hy168; clear hy168; obtain rfl := Option.some.inj H; go_enter Try.func151, Try.ntmps151; go_wp2_with (first | ((with_reducible refine gate_dst (N := 9) rfl ?_); refine Kd.R_make (Kd.int .i64) _ 3 rfl (N := 9) rfl 22 _ _ rfl a0 rfl rfl Try.underlying22 (.int .i64 0) 8 info3 rfl (by decide) (by omega) 0 (ok := fun _ => True) (okp := fun _ => True) rfl (fun _ hk => hk) trivial (of_decide_eq_true aS) (Nat.le_trans (Nat.mul_le_mul_right _ (of_decide_eq_true aS : a0.toNat ≤ 35184372088832)) (by omega)) (Below.refl _ _) (Nat.le_refl _) ?_; intro v166 w9 ho10 hb hg_ hnew_; clear hg_ hnew_; (first | rw [← Ny165.out] at ho10 | (simp only [Int.reduceToNat] at ho10; rw [← Ny165.out] at ho10)); have n0_ := Aside0.mk (Kd.R_lower ho10 (below_size (bB HB))); have n1_ := Aside0.mk (below_step (bB HB) hb); clear HB; have HO167 := n0_; have HB := n1_; clear n0_ n1_; clear hb ho10; have p8 : 0 ≤ (a1 : Int) := of_decide_eq_true aS; have q8 : (a1 : Int) < ((y165.length : Int) : Int) := of_decide_eq_true aS; obtain ⟨go8, co8, eo8, gb8, gl8, cl8, HG8⟩ := Kd.R_form HO167.out (by omega); (first | cases eo8 | (injection eo8 with ea_ en_ ec_; (first | subst ea_ | (injection ea_ with ea_; subst ea_)); subst ec_; clear en_)); have GB8 := Aside0.mk gb8; have GG8 := Aside0.mk HG8; clear gb8 gl8 HG8; obtain ⟨hx8_0, hf8_0⟩ := Kd.R_celln 0 HO167.out (a1 : Int) p8 q8; replace p8 := eq_true p8; replace q8 := eq_true q8; obtain ⟨hy11_, hz11_⟩ := Kd.R_celln 0 HO167.out (a1 : Int) (of_decide_eq_true aS) (of_decide_eq_true aS); have HP11 := Kd.R_putg HO167.out (a1 : Int) a2) | ((with_reducible refine gate_store (t := 3) (p := 13) rfl ?_); refine store_event (t := 3) (p := 13) (v := ?vo_w12) (w1 := (w9.setCell ⟨go8, (a1 : Int).toNat, none⟩ (.int .i64 a2))) ?hg ?ho ?hn ?hr ?_; (case ho => rfl); (case hg => rfl); (case hn => rfl); (case hr => first | (go_simp; done) | (go_simp; rfl)); intro w12 hw; have hg : w9.grownBy w12 (some go8) := (by rw [hw]; exact HP11.2); have hp_ : Kd.R (Kd.int .i64) 3 w12 w.heap.size (fun _ => True) (.slice (some ⟨go8, 0, none⟩) y165.length co8) y168 := (by rw [hw, Ny168.out]; exact HP11.1); clear HP11; have n0_ := Aside0.mk (hp_); have n1_ := Aside0.mk ((by rw [hw]; exact below_set (HB.out) GB8.out : Below w.heap.size w w12)); clear HO167; clear HB; have HO167 := n0_; have HB := n1_; clear n0_ n1_; clear hg hw hp_))
         go_ret
         exact ⟨_, eW, by (with_reducible repeat (first | apply Kd.R_alloc | apply Kd.R_drewN | apply Kd.R_drew)); exact HO167.out, bB HB⟩
       · rw [if_neg c7] at H; exact absurd H (by simp)
     · rw [if_neg c6] at H; exact absurd H (by simp)
   · rw [if_neg c5] at H; exact absurd H (by simp)
 · rw [if_neg c4] at H; exact absurd H (by simp)

/-! ### spec_l8Stumps: function 97 -/
mutual
def spec_l8Stumps.l0 : Nat → List (S39) → Int → Int → List (List Int) → List Int → Option ((List (S39)))
 | 0, _, _, _, _, _ => none
 | k + 1, x3, x4, x5, x170000, x170001 => if x5 < x4 then (spec_l8Stumps.l1 k x3 x4 x5 1 x170000 x170001) else (some x3)
def spec_l8Stumps.l1 : Nat → List (S39) → Int → Int → Int → List (List Int) → List Int → Option ((List (S39)))
 | 0, _, _, _, _, _, _ => none
 | k + 1, x3, x4, x5, x6, x170000, x170001 => if x6 ≥ (-1) then (spec_l8Stumps.l2 k x3 x4 x5 x6 (([] : List Int)) 0 x170000 x170001) else (spec_l8Stumps.l0 k x3 x4 (wrap64 (x5 + 1)) x170000 x170001)
def spec_l8Stumps.l2 : Nat → List (S39) → Int → Int → Int → List Int → Int → List (List Int) → List Int → Option ((List (S39)))
 | 0, _, _, _, _, _, _, _, _ => none
 | k + 1, x3, x4, x5, x6, x7, x8, x170000, x170001 => if x8 < (x170000.length : Int) then (if 0 ≤ x8 then (if 0 ≤ x5 then (if x5 < ((rd_L1 x170000 x8).length : Int) then ((spec_l1Put.f k x7 (wrap64 (x6 * (rd (rd_L1 x170000 x8) x5)))).bind fun t179 => (spec_l8Stumps.l2 k x3 x4 x5 x6 t179 (wrap64 (x8 + 1)) x170000 x170001)) else (none)) else (none)) else (none)) else (if 0 ≤ (wrap64 ((x7.length : Int) - 1)) then (if (wrap64 ((x7.length : Int) - 1)) < (x7.length : Int) then (if x7.length < 17592186044416 then (spec_l8Stumps.l3 k x3 x4 x5 x6 (x7 ++ [wrap64 ((rd x7 (wrap64 ((x7.length : Int) - 1))) + 1)]) 0 x170000 x170001) else (none)) else (none)) else (none))
def spec_l8Stumps.l3 : Nat → List (S39) → Int → Int → Int → List Int → Int → List (List Int) → List Int → Option ((List (S39)))
 | 0, _, _, _, _, _, _, _, _ => none
 | k + 1, x3, x4, x5, x6, x7, x9, x170000, x170001 => if x9 < (x7.length : Int) then ((spec_l8Unit.f x4 x5 x6).bind fun t186 => (if 0 ≤ x9 then (if x3.length < 4398046511104 then (spec_l8Stumps.l3 k (x3 ++ [(⟨t186, rd x7 x9⟩ : S39)]) x4 x5 x6 x7 (wrap64 (x9 + 1)) x170000 x170001) else (none)) else (none))) else (spec_l8Stumps.l1 k x3 x4 x5 (wrap64 (x6 - 2)) x170000 x170001)
end
def spec_l8Stumps.f (k : Nat) (l0_0 : List (List Int)) (l0_1 : List Int) : Option ((List (S39))) := if 0 < (l0_0.length : Int) then (spec_l8Stumps.l0 k (([] : List (S39))) ((rd_L1 l0_0 0).length : Int) 0 l0_0 l0_1) else (none)
def spec_l8Stumps.T1 : Bool × List (List Nat × List Nat) := (true, [([], []), ([], []), ([1], [1]), ([2], [2]), ([3], [3]), ([4], [4]), ([0, 0], [0]), ([5, 6, 0, 1, 2, 3, 4, 5, 6], [5])])
def spec_l8Stumps.B1 : List Nat := [0, 0, 2, 6, 14, 30, 1, 127]
theorem spec_l8Stumps.tab1 : rtab .any (opsOf Try.f97 1) = spec_l8Stumps.T1 := by kernel_rfl
theorem spec_l8Stumps.bits1 : waitsOk spec_l8Stumps.T1.2 spec_l8Stumps.B1 = true := by kernel_rfl
def spec_l8Stumps.T17 : Bool × List (List Nat × List Nat) := (true, [([], []), ([], []), ([], []), ([], []), ([1, 2, 3], [1, 2, 3]), ([], []), ([], []), ([5, 6], [5, 6]), ([7], [7]), ([4, 8], [4, 8]), ([9], [9]), ([0, 10, 4], [0, 10]), ([11, 11, 0, 1, 2, 3, 4, 5, 6, 7, 8, 9, 10, 11], [0, 11])])
def spec_l8Stumps.B17 : List Nat := [0, 0, 0, 0, 14, 0, 0, 96, 224, 510, 1022, 2047, 4095]
theorem spec_l8Stumps.tab17 : rtab .any (opsOf Try.f97 17) = spec_l8Stumps.T17 := by kernel_rfl
theorem spec_l8Stumps.bits17 : waitsOk spec_l8Stumps.T17.2 spec_l8Stumps.B17 = true := by kernel_rfl
set_option maxHeartbeats 8000000 in
set_option maxRecDepth 100000 in
theorem spec_l8Stumps.calls (k : Nat) (A0_0 : Option Addr) (c0_0 : Nat) (l0_0 : List (List Int)) (A0_1 : Option Addr) (c0_1 : Nat) (l0_1 : List Int) (r : List (S39)) (w : World) (hr0_0 : Kd.C (Kd.slice 3 (Kd.int .i64)) w A0_0 l0_0.length l0_0) (hc0_0 : l0_0.length ≤ c0_0) (hr0_1 : Kd.C (Kd.int .i64) w A0_1 l0_1.length l0_1) (hc0_1 : l0_1.length ≤ c0_1) (h : spec_l8Stumps.f k l0_0 l0_1 = some r) :
 Calls Try.prog 97 #[.agg #[.slice A0_0 l0_0.length c0_0, .slice A0_1 l0_1.length c0_1]] w fun e w' => ∃ v0_ : Value, e = .returned (v0_) ∧ Kd.S k39 39 w' w.heap.size (fun _ => True) v0_ r ∧ Below w.heap.size w w' := by
 have hu52 := Try.underlying52; have hu39 := Try.underlying39; have HR0_0 := Aside0.mk hr0_0; have HC0_0 := Aside0.mk hc0_0; clear hr0_0 hc0_0; have HR0_1 := Aside0.mk hr0_1; have HC0_1 := Aside0.mk hc0_1; clear hr0_1 hc0_1; have HB := Aside0.mk (Below.refl w.heap.size w); have H : (if 0 < (l0_0.length : Int) then (spec_l8Stumps.l0 k (([] : List (S39))) ((rd_L1 l0_0 0).length : Int) 0 l0_0 l0_1) else (none)) = some r := h; clear h; obtain ⟨y170, hy170⟩ : ∃ y_ : List (S39), y_ = (([] : List (S39))) := ⟨_, rfl⟩; replace H : (if 0 < (l0_0.length : Int) then (spec_l8Stumps.l0 k y170 ((rd_L1 l0_0 0).length : Int) 0 l0_0 l0_1) else (none)) = some r := by first | (rw [hy170]; with_reducible exact H) | (have H2_ := (Option.bind_some _ _).symm.trans H; rw [hy170]; with_reducible exact H2_) | (have H2_ := (Option.bind_some _ _).symm.trans H; with_reducible exact H2_) | with_reducible exact H | (rw [hy170]; exact H) | exact H
 have Ny170 := Aside0.mk hy170; clear hy170; by_cases c2 : 0 < (l0_0.length : Int)
 · rw [if_pos c2] at H; have c2b0 : decide (0 < (l0_0.length : Int)) = true := decide_eq_true c2; have c2b1 : decide (0 < l0_0.length) = true := decide_eq_true (by omega); clear c2; have H' := Aside0.mk H; clear H; go_enter Try.func97, Try.ntmps97; try go_wp2_with (first | ((with_reducible refine gate_dst (N := 1) rfl ?_); refine box_event ?hg (N := 1) ?hd (cs := #[.slice A0_0 l0_0.length c0_0, .slice A0_1 l0_1.length c0_1]) (t := 52) ?hr ?_; (case hd => rfl); (case hg => rfl); (case hr => first | (go_simp; done) | (go_simp; rfl)); intro gb169 hg w3 hbox hb; have n0_ := Aside0.mk (below_step (bB HB) hb); have n1_ := Aside0.mk (hbox); have n2_ := Aside0.mk ((by rw [hg]; exact (below_size (bB HB)) : w.heap.size ≤ gb169)); have n3_ := Aside0.mk ((by rw [hg]; exact (below_size (bB HB)) : w.heap.size ≤ gb169)); clear HB; have HB := n0_; have BK169 := n1_; have GW169 := n2_; have GE169 := n3_; clear n0_ n1_ n2_ n3_; clear hb hbox hg))
   have n0_ := Aside0.mk (blk_drew BK169.out); have n1_ := Aside0.mk (below_drew1 HB.out); clear BK169; clear HB; have BK169 := n0_; have HB := n1_; clear n0_ n1_; have p173 : 0 ≤ (0 : Int) := (by omega); have q173 : 0 < (l0_0.length : Int) := of_decide_eq_true aS; obtain ⟨ad173, A173_0, c173_0, e173, hx173_0, hl173_0, hi173_0⟩ := at_L1 HR0_0.out 0 p173 q173; have hw173_0 := hx173_0; (try rw [show ((0 : Int)).toNat = 0 from rfl] at hw173_0); (try rw [show 0 * 1 = 0 from rfl] at hw173_0); (try rw [Addr.add_zero'] at hw173_0); cases e173
   have qi173 : (0 < l0_0.length) = True := eq_true (by omega); (try rw [show ((0 : Int)).toNat = 0 from rfl] at hx173_0); (try rw [Addr.add_zero'] at hx173_0); replace hx173_0 := (HB.out.cell (World.block_lt_of_cell? w _ hx173_0)).trans hx173_0; have HR173_0 := Aside0.mk hi173_0; have HC173_0 := Aside0.mk hl173_0; clear hi173_0 hl173_0; replace p173 := eq_true p173; replace q173 := eq_true q173; refine start_ (n := 8) (S := fun w' => w'.cell? ⟨gb169, 0, none⟩ = some (.slice (some ad173) l0_0.length c0_0) ∧ w'.cell? ⟨gb169, 1, none⟩ = some (.slice A0_1 l0_1.length c0_1) ∧ w'.cell? ad173 = some (.slice A173_0 (rd_L1 l0_0 0).length c173_0)) (ds := []) #[false, false, false, false, false, false, false, false] (by kernel_rfl) rfl rfl ⟨(blk_cell BK169.out 0).trans rfl, (blk_cell BK169.out 1).trans rfl, ((HB.out.cell (World.block_lt_of_cell? w _ hw173_0)).trans hw173_0)⟩ (fun hHeld => ?_); refine with_tabW spec_l8Stumps.tab1 spec_l8Stumps.bits1 (fun HT_ HW_ => ?_); generalize w3.drew = w4 at BK169 HB HR173_0 hx173_0 hHeld ⊢; refine pure_ (i := 1) (N := some 11) (v := ?_) (a' := ?_) #[false, true, false, false, false, false, false, false] rfl rfl (any_of HT_.out (by kernel_rfl)) (fun _ _ _ h => h) (Or.inl ⟨by rfl, ?_⟩) ?_ ?_; rotate_left
   · intro w'; go_simp; with_reducible rfl
   rotate_left
   · exact aP
   refine take_ (i := 2) (N := some 12) (v := ?_) (a' := ?_) #[false, true, true, false, false, false, false, false] rfl rfl (take_ofW HT_.out HW_.out (by kernel_rfl)) (fun _ _ _ h => h) (Or.inl ⟨by rfl, ?_⟩) hHeld ?_ ?_; rotate_left
   · rintro w' ⟨s0, s1, s2⟩; go_simp; with_reducible rfl
   rotate_left
   · exact aP
   refine pure_ (i := 3) (N := some 13) (v := ?_) (a' := ?_) #[false, true, true, true, false, false, false, false] rfl rfl (any_of HT_.out (by kernel_rfl)) (fun _ _ _ h => h) (Or.inl ⟨by rfl, ?_⟩) ?_ ?_; rotate_left
   · intro w'; go_simp; with_reducible rfl
   rotate_left
   · exact aP
   refine take_ (i := 4) (N := some 14) (v := ?_) (a' := ?_) #[false, true, true, true, true, false, false, false] rfl rfl (take_ofW HT_.out HW_.out (by kernel_rfl)) (fun _ _ _ h => h) (Or.inl ⟨by rfl, ?_⟩) hHeld ?_ ?_; rotate_left
   · rintro w' ⟨s0, s1, s2⟩; go_simp; with_reducible rfl
   rotate_left
   · exact aP
   refine pure_ (i := 5) (N := some 15) (v := ?_) (a' := ?_) #[false, true, true, true, true, true, false, false] rfl rfl (any_of HT_.out (by kernel_rfl)) (fun _ _ _ h => h) (Or.inl ⟨by rfl, ?_⟩) ?_ ?_; rotate_left
   · intro w'; go_simp; with_reducible rfl
   rotate_left
   · exact aP
   refine one_ (i := 0) (N := some 10) #[true, true, true, true, true, true, false, false] rfl rfl (one_of HT_.out (by kernel_rfl)) (by decide) (fun K hK => ?_); refine Kd.S_lit_step k39 _ 39 ?hg (N := 10) ?hd (xs := ([] : List (S39))) (inner := []) (ok := fun _ => True) (okp := fun _ => True) ?hr ?hp (fun _ hk => hk) trivial (Below.refl _ _) (Nat.le_refl _) (by simp) ?_; (case hd => rfl); (case hg => rfl); (case hr => first | (go_simp; done) | (go_simp; rfl)); (case hp => exact (Reps.none _ _)); intro v171 w5 ho6 hb hg_ hnew_; clear hg_ hnew_; (first | rw [← Ny170.out] at ho6 | (simp only [Int.reduceToNat] at ho6; rw [← Ny170.out] at ho6)); have n0_ := Aside0.mk (Kd.S_lower ho6 (below_size (bC HB GE169))); have n1_ := Aside0.mk (bW BK169 hb); have n2_ := Aside0.mk (below_step (bC HB GE169) hb); clear BK169; clear HB; have HO172 := n0_; have BK169 := n1_; have HB := n2_; clear n0_ n1_ n2_; clear hb ho6; refine hK.out _ _ ⟨(blk_cell BK169.out 0).trans rfl, (blk_cell BK169.out 1).trans rfl, ((HB.out.cell (World.block_lt_of_cell? w _ hw173_0)).trans hw173_0)⟩ (fun hHeld => ?_); clear hK K; refine norm_ (a' := ?_) ?_ ?_; rotate_left
   · show Act.put _ (some 10) _ = _
     simp only [Act.put, List.setIfInBounds_toArray, List.set_cons_zero, List.set_cons_succ, i64_w, i32_w]; rfl
   refine pure_ (i := 6) (N := some 3) (v := ?_) (a' := ?_) #[true, true, true, true, true, true, true, false] rfl rfl (any_of HT_.out (by kernel_rfl)) (fun _ _ _ h => h) (Or.inl ⟨by rfl, ?_⟩) ?_ ?_; rotate_left
   · intro w'; go_simp; with_reducible rfl
   rotate_left
   · exact aP
   refine pure_ (i := 7) (N := some 4) (v := ?_) (a' := ?_) #[true, true, true, true, true, true, true, true] rfl rfl (any_of HT_.out (by kernel_rfl)) (fun _ _ _ h => h) (Or.inl ⟨by rfl, ?_⟩) ?_ ?_; rotate_left
   · intro w'; go_simp; with_reducible rfl
   rotate_left
   · exact aP
   refine done_ (done_of HT_.out (by kernel_rfl)) ?_; try go_wp2
   go_loopg [3, 5] k (fun kq v3 v5 w' => ∃ (x3_1 : List (S39)) (x5_1 : Int), v5 = .int .i64 x5_1 ∧ Aside0 (spec_l8Stumps.l0 kq x3_1 ((rd_L1 l0_0 0).length : Int) x5_1 l0_0 l0_1 = some r) ∧ Aside0 (kq ≤ k) ∧ Aside0 (Kd.S k39 39 w' w.heap.size (fun _ => True) v3 x3_1) ∧ Aside0 (w'.heap[gb169]? = some (.cells #[(.slice (some ad173) l0_0.length c0_0), (.slice A0_1 l0_1.length c0_1)] 52 (0, 0))) ∧ Aside0 (Below w.heap.size w w'))
   case atStart => exact ⟨(y170), (0), rD, H', ⟨Nat.le_refl _⟩, ⟨pS HO172⟩, ⟨pB BK169⟩, ⟨bC HB GE169⟩⟩
   case round =>
    clear H'; try clear c2
    try clear c2b0
    try clear c2b1
    try clear hx173_0
    try clear p173
    try clear q173
    obtain ⟨x3_1, x5_1, rfl, HA, HK1, HO_3, BK169, HB⟩ := hrel; cases gk with
    | zero => exact absurd HA.out (by simp [spec_l8Stumps.l0])
    | succ k1 =>
     have H := HA.out; clear HA; simp only [spec_l8Stumps.l0] at H; by_cases c7 : x5_1 < ((rd_L1 l0_0 0).length : Int)
     · rw [if_pos c7] at H; have c7b0 : decide (x5_1 < ((rd_L1 l0_0 0).length : Int)) = true := decide_eq_true c7; clear c7; have H' := Aside0.mk H; clear H; go_wp2; go_loopg [3, 6] k1 (fun kq v3 v6 w' => ∃ (x3_2 : List (S39)) (x6_2 : Int), v6 = .int .i64 x6_2 ∧ Aside0 (spec_l8Stumps.l1 kq x3_2 ((rd_L1 l0_0 0).length : Int) x5_1 x6_2 l0_0 l0_1 = some r) ∧ Aside0 (kq ≤ k1) ∧ Aside0 (Kd.S k39 39 w' w.heap.size (fun _ => True) v3 x3_2) ∧ Aside0 (w'.heap[gb169]? = some (.cells #[(.slice (some ad173) l0_0.length c0_0), (.slice A0_1 l0_1.length c0_1)] 52 (0, 0))) ∧ Aside0 (Below w.heap.size w w'))
       case atStart => exact ⟨(x3_1), (1), rD, H', ⟨Nat.le_refl _⟩, ⟨pS HO_3⟩, ⟨pB BK169⟩, ⟨bC HB GE169⟩⟩
       case round =>
        clear H'; try clear c2
        try clear c2b0
        try clear c2b1
        try clear c7
        try clear c7b0
        try clear hx173_0
        try clear p173
        try clear q173
        obtain ⟨x3_2, x6_2, rfl, HA, HK2, HO_3, BK169, HB⟩ := hrel; cases gk with
        | zero => exact absurd HA.out (by simp [spec_l8Stumps.l1])
        | succ k2 =>
         have H := HA.out; clear HA; simp only [spec_l8Stumps.l1] at H; by_cases c8 : x6_2 ≥ (-1)
         · rw [if_pos c8] at H; have c8b0 : decide ((-1) ≤ x6_2) = true := decide_eq_true c8; clear c8; obtain ⟨y174, hy174⟩ : ∃ y_ : List Int, y_ = (([] : List Int)) := ⟨_, rfl⟩; replace H : (spec_l8Stumps.l2 k2 x3_2 ((rd_L1 l0_0 0).length : Int) x5_1 x6_2 y174 0 l0_0 l0_1) = some r := by first | (rw [hy174]; with_reducible exact H) | (have H2_ := (Option.bind_some _ _).symm.trans H; rw [hy174]; with_reducible exact H2_) | (have H2_ := (Option.bind_some _ _).symm.trans H; with_reducible exact H2_) | with_reducible exact H | (rw [hy174]; exact H) | exact H
           have Ny174 := Aside0.mk hy174; clear hy174; have H' := Aside0.mk H; clear H; go_wp2_with (first | ((with_reducible refine gate_dst (N := 25) rfl ?_); refine Kd.R_lit (Kd.int .i64) _ 3 ?hg (N := 25) ?hd (xs := ([] : List Int)) (inner := []) (ok := fun _ => True) (okp := fun _ => True) ?hr ?hp (fun _ hk => hk) trivial (Below.refl _ _) (Nat.le_refl _) (by simp) ?_; (case hd => rfl); (case hg => rfl); (case hr => first | (go_simp; done) | (go_simp; rfl)); (case hp => exact (Reps.none _ _)); intro v175 w9 ho10 hb hg_ hnew_; clear hg_ hnew_; (first | rw [← Ny174.out] at ho10 | (simp only [Int.reduceToNat] at ho10; rw [← Ny174.out] at ho10)); have n0_ := Aside0.mk (Kd.S_elder' (pS HO_3) (Kd.R_base ho10) hb); have n1_ := Aside0.mk (Kd.R_lower ho10 (below_size (bC HB GE169))); have n2_ := Aside0.mk (bW BK169 hb); have n3_ := Aside0.mk (below_step (bC HB GE169) hb); clear HO_3; clear BK169; clear HB; have HO_3 := n0_; have HO176 := n1_; have BK169 := n2_; have HB := n3_; clear n0_ n1_ n2_ n3_; clear hb ho10))
           go_loopg [7, 8] k2 (fun kq v7 v8 w' => ∃ (x7_3 : List Int) (x8_3 : Int), v8 = .int .i64 x8_3 ∧ Aside0 (spec_l8Stumps.l2 kq x3_2 ((rd_L1 l0_0 0).length : Int) x5_1 x6_2 x7_3 x8_3 l0_0 l0_1 = some r) ∧ Aside0 (kq ≤ k2) ∧ Aside0 (Kd.S k39 39 w' w.heap.size (fun k_ => some k_ ≠ (v7 : Value).ownBlock) u3 x3_2) ∧ Aside0 (Kd.R (Kd.int .i64) 3 w' w.heap.size (fun _ => True) v7 x7_3) ∧ Aside0 (w'.heap[gb169]? = some (.cells #[(.slice (some ad173) l0_0.length c0_0), (.slice A0_1 l0_1.length c0_1)] 52 (0, 0))) ∧ Aside0 (Below w.heap.size w w'))
           case atStart => exact ⟨(y174), (0), rD, H', ⟨Nat.le_refl _⟩, ⟨by (with_reducible repeat (first | apply Kd.S_alloc | apply Kd.S_drewN | apply Kd.S_drew)); exact Kd.S_mono HO_3.out (fun _ hk => hk.2)⟩, ⟨pR HO176⟩, ⟨pB BK169⟩, ⟨bC HB GE169⟩⟩
           case round =>
            clear H'; try clear c2
            try clear c2b0
            try clear c2b1
            try clear c7
            try clear c7b0
            try clear c8
            try clear c8b0
            try clear hx173_0
            try clear p173
            try clear q173
            obtain ⟨x7_3, x8_3, rfl, HA, HK3, HO_3, HO_7, BK169, HB⟩ := hrel; cases gk with
            | zero => exact absurd HA.out (by simp [spec_l8Stumps.l2])
            | succ k3 =>
             have H := HA.out; clear HA; simp only [spec_l8Stumps.l2] at H; by_cases c11 : x8_3 < (l0_0.length : Int)
             · rw [if_pos c11] at H; have c11b0 : decide (x8_3 < (l0_0.length : Int)) = true := decide_eq_true c11; clear c11; by_cases c12 : 0 ≤ x8_3
               · rw [if_pos c12] at H; have c12b0 : decide (0 ≤ x8_3) = true := decide_eq_true c12; clear c12; by_cases c13 : 0 ≤ x5_1
                 · rw [if_pos c13] at H; have c13b0 : decide (0 ≤ x5_1) = true := decide_eq_true c13; clear c13; by_cases c14 : x5_1 < ((rd_L1 l0_0 x8_3).length : Int)
                   · rw [if_pos c14] at H; have c14b0 : decide (x5_1 < ((rd_L1 l0_0 x8_3).length : Int)) = true := decide_eq_true c14; clear c14; replace H := Option.bind_eq_some_iff.mp H; obtain ⟨t179, A150, H⟩ := H; replace H : (spec_l8Stumps.l2 k3 x3_2 ((rd_L1 l0_0 0).length : Int) x5_1 x6_2 t179 (wrap64 (x8_3 + 1)) l0_0 l0_1) = some r := H; have A15 := Aside0.mk A150; clear A150; have H' := Aside0.mk H; clear H; have hcz16_0 : wr.cell? ⟨gb169, 0, none⟩ = some (.slice (some ad173) l0_0.length c0_0) := (blk_cell BK169.out 0).trans rfl; have hcz16_1 : wr.cell? ⟨gb169, 1, none⟩ = some (.slice A0_1 l0_1.length c0_1) := (blk_cell BK169.out 1).trans rfl; have hfz16_0 := blk_frozen BK169.out 0; have hfz16_1 := blk_frozen BK169.out 1; have p177 : 0 ≤ (x8_3 : Int) := of_decide_eq_true aS; have q177 : x8_3 < (l0_0.length : Int) := of_decide_eq_true aS; obtain ⟨ad177, A177_0, c177_0, e177, hx177_0, hl177_0, hi177_0⟩ := at_L1 HR0_0.out x8_3 p177 q177; obtain rfl : ad173 = ad177 := (by injection e177); replace hx177_0 := (HB.out.cell (World.block_lt_of_cell? w _ hx177_0)).trans hx177_0; have HR177_0 := Aside0.mk hi177_0; have HC177_0 := Aside0.mk hl177_0; clear hi177_0 hl177_0; replace p177 := eq_true p177; replace q177 := eq_true q177; have p178 : 0 ≤ (x5_1 : Int) := of_decide_eq_true aS; have q178 : x5_1 < ((rd_L1 l0_0 x8_3).length : Int) := of_decide_eq_true aS; obtain ⟨ad178, e178, hx178_0⟩ := Kd.at_int HR177_0.out x5_1 p178 q178; cases e178
                     replace hx178_0 := (HB.out.cell (World.block_lt_of_cell? w _ hx178_0)).trans hx178_0; replace p178 := eq_true p178; replace q178 := eq_true q178; obtain ⟨Ao17, co17, eo17⟩ := Kd.R_slice HO_7.out; subst eo17; go_wp2_with (first | ((with_reducible refine gate_callee (f := 150) rfl ?_); refine goesL_ (some 44) rfl rfl Try.func150 (by kernel_rfl) rfl #[.slice Ao17 x7_3.length co17, .int .i64 (wrap64 (x6_2 * (rd (rd_L1 l0_0 x8_3) x5_1)))] rfl aT ?_; (with_reducible refine (spec_l1Put.calls k3 (fun k_ => some k_ = (.slice Ao17 x7_3.length co17 : Value).ownBlock) (.slice Ao17 x7_3.length co17) x7_3 (wrap64 (x6_2 * (rd (rd_L1 l0_0 x8_3) x5_1))) t179 w _ ?side1 ?side2 A15.out).mono ?_); (case side1 => exact bC HB GE169); (case side2 => exact Kd.R_tight rfl HO_7.out); rintro e w18 ⟨v180, rfl, ho0, hb, hkp⟩; refine ⟨_, rfl, ?_⟩; have n0_ := Aside0.mk (Kd.S_mono (ok' := fun k_ => some k_ ≠ (v180 : Value).ownBlock) (Kd.S_keptB (HO_3.out) hkp (fun k_ hk_ hs_ => (hk_) hs_)) (fun k_ hk_ => fun e_ => Or.elim (ho0.1 k_ e_.symm) (fun hs_ => hk_.2.1 hs_) (fun hn_ => Nat.not_le.2 hk_.2.2 hn_))); have n1_ := Aside0.mk (blk_kept (pB BK169) hkp (fun hs_ => (fun e_ => (Kd.R_ne HO_7.out BK169.out (by decide)) e_) hs_)); have n2_ := Aside0.mk (Kd.R_mono (ok' := fun k_ => True) ho0 (fun k_ hk_ => trivial)); have n3_ := Aside0.mk (hb); clear HO_3; clear BK169; clear HB; clear HO_7; have HO_3 := n0_; have BK169 := n1_; have HO181 := n2_; have HB := n3_; clear n0_ n1_ n2_ n3_; (try clear hb); (try clear hkp); (try clear ho0)))
                     go_roundg k3
                     case measure => have := HK1.out; have := HK2.out; have := HK3.out; omega
                     case rel => exact ⟨(t179), (wrap64 (x8_3 + 1)), rD, H', ⟨by have := HK1.out; have := HK2.out; have := HK3.out; omega⟩, ⟨pS HO_3⟩, ⟨pR HO181⟩, ⟨pB BK169⟩, ⟨bC HB GE169⟩⟩
                   · rw [if_neg c14] at H; exact absurd H (by simp)
                 · rw [if_neg c13] at H; exact absurd H (by simp)
               · rw [if_neg c12] at H; exact absurd H (by simp)
             · rw [if_neg c11] at H; have c11b0 : decide (x8_3 < (l0_0.length : Int)) = false := decide_eq_false c11; clear c11; obtain ⟨ji19, hji19⟩ : ∃ j_ : Int, (wrap64 ((x7_3.length : Int) - 1)) = j_ := ⟨_, rfl⟩; replace H : (if 0 ≤ (ji19) then (if (ji19) < (x7_3.length : Int) then (if x7_3.length < 17592186044416 then (spec_l8Stumps.l3 k3 x3_2 ((rd_L1 l0_0 0).length : Int) x5_1 x6_2 (x7_3 ++ [wrap64 ((rd x7_3 (ji19)) + 1)]) 0 l0_0 l0_1) else (none)) else (none)) else (none)) = some r := by first | (rw [hji19] at H; exact H) | (simp only [hji19] at H ⊢; exact H)
               have hji19w : (IntKind.i64.wrap ((x7_3.length : Int) - 1)) = ji19 := (i64_w _).trans hji19; by_cases c20 : 0 ≤ (ji19)
               · rw [if_pos c20] at H; have c20b0 : decide (0 ≤ (ji19)) = true := decide_eq_true c20; clear c20; by_cases c21 : (ji19) < (x7_3.length : Int)
                 · rw [if_pos c21] at H; have c21b0 : decide ((ji19) < (x7_3.length : Int)) = true := decide_eq_true c21; clear c21; by_cases c22 : x7_3.length < 17592186044416
                   · rw [if_pos c22] at H; have LMc22 := Aside0.mk c22; clear c22; obtain ⟨y183, hy183⟩ : ∃ y_ : List Int, y_ = (x7_3 ++ [wrap64 ((rd x7_3 (ji19)) + 1)]) := ⟨_, rfl⟩; replace H : (spec_l8Stumps.l3 k3 x3_2 ((rd_L1 l0_0 0).length : Int) x5_1 x6_2 y183 0 l0_0 l0_1) = some r := by first | (rw [hy183]; with_reducible exact H) | (have H2_ := (Option.bind_some _ _).symm.trans H; rw [hy183]; with_reducible exact H2_) | (have H2_ := (Option.bind_some _ _).symm.trans H; with_reducible exact H2_) | with_reducible exact H | (rw [hy183]; exact H) | exact H
                     have Ny183 := Aside0.mk hy183; clear hy183; have H' := Aside0.mk H; clear H; have hcz23_0 : wr.cell? ⟨gb169, 0, none⟩ = some (.slice (some ad173) l0_0.length c0_0) := (blk_cell BK169.out 0).trans rfl; have hcz23_1 : wr.cell? ⟨gb169, 1, none⟩ = some (.slice A0_1 l0_1.length c0_1) := (blk_cell BK169.out 1).trans rfl; have hfz23_0 := blk_frozen BK169.out 0; have hfz23_1 := blk_frozen BK169.out 1; obtain ⟨Ao24, co24, eo24⟩ := Kd.R_slice HO_7.out; subst eo24; have p182 : 0 ≤ ((ji19) : Int) := of_decide_eq_true aS; have q182 : (ji19) < (x7_3.length : Int) := of_decide_eq_true aS; obtain ⟨ad182, e182, hx182_0⟩ := Kd.at_int (Kd.R_reads' HO_7.out).2.2 (ji19) p182 q182; cases e182
                     replace p182 := eq_true p182; replace q182 := eq_true q182; go_wp2_with (first | ((with_reducible refine gate_builtin (b := .append) (xs := #[.tmp 45, .tmp 53]) rfl ?_); at_builtin; refine Kd.R_append (Kd.int .i64) (w0 := w) w.heap.size rfl (.tmp 45) (.tmp 53) 22 3 (.int .i64 0) 8 rfl Try.underlying22 info3 rfl (by decide) (by omega) (.slice (some ad182) x7_3.length co24) x7_3 (wrap64 ((rd x7_3 (ji19)) + 1)) [.int .i64 (wrap64 ((rd x7_3 (ji19)) + 1))] (fun _ => True) (fun _ => False) rfl rfl ?aP (fun _ hk => hk.elim) ?aF ?aO ?aB ?aS ?aL ?_; (case aP => exact rfl); (case aB => exact (bC HB GE169)); (case aF => exact (fun _ _ => trivial)); (case aO => exact (pR HO_7)); (case aS => exact (below_size (bC HB GE169))); (case aL => have := LMc22.out; omega); intro v184 w25 ho hb hg hat; rw [← Ny183.out] at ho; have n0_ := Aside0.mk (Kd.S_after (ok := (fun _ => True)) (by (with_reducible repeat (first | apply Kd.S_alloc | apply Kd.S_drewN | apply Kd.S_drew)); exact Kd.S_mono HO_3.out (fun _ hk => ⟨trivial, hk⟩)) hg hat); have n1_ := Aside0.mk (blk_grown (g := gb169) (o := .cells #[.slice (some ad173) l0_0.length c0_0, .slice A0_1 l0_1.length c0_1] 52 (0, 0)) (pB BK169) hg (Kd.R_ne HO_7.out BK169.out (by decide))); have n2_ := Aside0.mk (hb); have n3_ := Aside0.mk (ho); clear HO_3; clear BK169; clear HB; clear HO_7; have HO_3 := n0_; have BK169 := n1_; have HB := n2_; have HO185 := n3_; clear n0_ n1_ n2_ n3_; clear ho hb hg hat))
                     go_loopg [3, 9] k3 (fun kq v3 v9 w' => ∃ (x3_4 : List (S39)) (x9_4 : Int), v9 = .int .i64 x9_4 ∧ Aside0 (spec_l8Stumps.l3 kq x3_4 ((rd_L1 l0_0 0).length : Int) x5_1 x6_2 y183 x9_4 l0_0 l0_1 = some r) ∧ Aside0 (kq ≤ k3) ∧ Aside0 (Kd.S k39 39 w' w.heap.size (fun k_ => some k_ ≠ (v184 : Value).ownBlock) v3 x3_4) ∧ Aside0 (Kd.R (Kd.int .i64) 3 w' w.heap.size (fun _ => True) v184 y183) ∧ Aside0 (w'.heap[gb169]? = some (.cells #[(.slice (some ad173) l0_0.length c0_0), (.slice A0_1 l0_1.length c0_1)] 52 (0, 0))) ∧ Aside0 (Below w.heap.size w w'))
                     case atStart => exact ⟨(x3_2), (0), rD, H', ⟨Nat.le_refl _⟩, ⟨by (with_reducible repeat (first | apply Kd.S_alloc | apply Kd.S_drewN | apply Kd.S_drew)); exact Kd.S_mono HO_3.out (fun _ hk => hk.2)⟩, ⟨pR HO185⟩, ⟨pB BK169⟩, ⟨bC HB GE169⟩⟩
                     case round =>
                      clear H'; try clear c2
                      try clear c2b0
                      try clear c2b1
                      try clear c7
                      try clear c7b0
                      try clear c8
                      try clear c8b0
                      try clear c11
                      try clear c11b0
                      try clear c12
                      try clear c20
                      try clear c20b0
                      try clear c21
                      try clear c21b0
                      try clear c22
                      try clear hcz23_0
                      try clear hcz23_1
                      try clear hfz23_0
                      try clear hfz23_1
                      try clear hx173_0
                      try clear hx182_0
                      try clear p173
                      try clear p182
                      try clear q173
                      try clear q182
                      obtain ⟨x3_4, x9_4, rfl, HA, HK4, HO_3, HO_7, BK169, HB⟩ := hrel; cases gk with
                      | zero => exact absurd HA.out (by simp [spec_l8Stumps.l3])
                      | succ k4 =>
                       have H := HA.out; clear HA; simp only [spec_l8Stumps.l3] at H; by_cases c26 : x9_4 < (y183.length : Int)
                       · rw [if_pos c26] at H; have c26b0 : decide (x9_4 < (y183.length : Int)) = true := decide_eq_true c26; clear c26; replace H := Option.bind_eq_some_iff.mp H; obtain ⟨t186, A270, H⟩ := H; replace H : (if 0 ≤ x9_4 then (if x3_4.length < 4398046511104 then (spec_l8Stumps.l3 k4 (x3_4 ++ [(⟨t186, rd y183 x9_4⟩ : S39)]) ((rd_L1 l0_0 0).length : Int) x5_1 x6_2 y183 (wrap64 (x9_4 + 1)) l0_0 l0_1) else (none)) else (none)) = some r := H; have A27 := Aside0.mk A270; clear A270; by_cases c28 : 0 ≤ x9_4
                         · rw [if_pos c28] at H; have c28b0 : decide (0 ≤ x9_4) = true := decide_eq_true c28; clear c28; by_cases c29 : x3_4.length < 4398046511104
                           · rw [if_pos c29] at H; have LMc29 := Aside0.mk c29; clear c29; obtain ⟨y190, hy190⟩ : ∃ y_ : List (S39), y_ = (x3_4 ++ [(⟨t186, rd y183 x9_4⟩ : S39)]) := ⟨_, rfl⟩; replace H : (spec_l8Stumps.l3 k4 y190 ((rd_L1 l0_0 0).length : Int) x5_1 x6_2 y183 (wrap64 (x9_4 + 1)) l0_0 l0_1) = some r := by first | (rw [hy190]; with_reducible exact H) | (have H2_ := (Option.bind_some _ _).symm.trans H; rw [hy190]; with_reducible exact H2_) | (have H2_ := (Option.bind_some _ _).symm.trans H; with_reducible exact H2_) | with_reducible exact H | (rw [hy190]; exact H) | exact H
                             have Ny190 := Aside0.mk hy190; clear hy190; have H' := Aside0.mk H; clear H; obtain ⟨Ao30, co30, eo30⟩ := Kd.R_slice HO_7.out; subst eo30; try go_wp2
                             have n0_ := Aside0.mk (Kd.S_drew HO_3.out); have n1_ := Aside0.mk (Kd.R_drew HO_7.out); have n2_ := Aside0.mk (blk_drew BK169.out); have n3_ := Aside0.mk (below_drew1 HB.out); clear HO_3; clear HO_7; clear BK169; clear HB; have HO_3 := n0_; have HO_7 := n1_; have BK169 := n2_; have HB := n3_; clear n0_ n1_ n2_ n3_; have p189 : 0 ≤ (x9_4 : Int) := of_decide_eq_true aS; have q189 : x9_4 < (y183.length : Int) := of_decide_eq_true aS; obtain ⟨ad189, e189, hx189_0⟩ := Kd.at_int (Kd.R_reads' HO_7.out).2.2 x9_4 p189 q189; cases e189
                             replace p189 := eq_true p189; replace q189 := eq_true q189; refine start_ (n := 13) (S := fun w' => w'.cell? (ad189.add (x9_4).toNat) = some (.int .i64 (rd y183 x9_4))) (ds := [10, 11]) #[false, false, false, false, false, false, false, false, false, false, false, false, false] (by kernel_rfl) rfl rfl (hx189_0) (fun hHeld => ?_); refine with_tabW spec_l8Stumps.tab17 spec_l8Stumps.bits17 (fun HT_ HW_ => ?_); generalize wr.drew = w31 at HO_3 HO_7 BK169 HB hx189_0 hHeld ⊢; refine pure_ (i := 0) (N := some 61) (v := ?_) (a' := ?_) #[true, false, false, false, false, false, false, false, false, false, false, false, false] rfl rfl (any_of HT_.out (by kernel_rfl)) (fun _ _ _ h => h) (Or.inl ⟨by rfl, ?_⟩) ?_ ?_; rotate_left
                             · intro w'; go_simp; with_reducible rfl
                             rotate_left
                             · exact aP
                             refine pure_ (i := 1) (N := some 62) (v := ?_) (a' := ?_) #[true, true, false, false, false, false, false, false, false, false, false, false, false] rfl rfl (any_of HT_.out (by kernel_rfl)) (fun _ _ _ h => h) (Or.inl ⟨by rfl, ?_⟩) ?_ ?_; rotate_left
                             · intro w'; go_simp; with_reducible rfl
                             rotate_left
                             · exact aP
                             refine pure_ (i := 2) (N := some 63) (v := ?_) (a' := ?_) #[true, true, true, false, false, false, false, false, false, false, false, false, false] rfl rfl (any_of HT_.out (by kernel_rfl)) (fun _ _ _ h => h) (Or.inl ⟨by rfl, ?_⟩) ?_ ?_; rotate_left
                             · intro w'; go_simp; with_reducible rfl
                             rotate_left
                             · exact aP
                             refine pure_ (i := 3) (N := some 64) (v := ?_) (a' := ?_) #[true, true, true, true, false, false, false, false, false, false, false, false, false] rfl rfl (any_of HT_.out (by kernel_rfl)) (fun _ _ _ h => h) (Or.inl ⟨by rfl, ?_⟩) ?_ ?_; rotate_left
                             · intro w'; go_simp; with_reducible rfl
                             rotate_left
                             · exact aP
                             refine pure_ (i := 5) (N := some 66) (v := ?_) (a' := ?_) #[true, true, true, true, false, true, false, false, false, false, false, false, false] rfl rfl (any_of HT_.out (by kernel_rfl)) (fun _ _ _ h => h) (Or.inl ⟨by rfl, ?_⟩) ?_ ?_; rotate_left
                             · intro w'; go_simp; with_reducible rfl
                             rotate_left
                             · exact aP
                             refine pure_ (i := 6) (N := some 67) (v := ?_) (a' := ?_) #[true, true, true, true, false, true, true, false, false, false, false, false, false] rfl rfl (any_of HT_.out (by kernel_rfl)) (fun _ _ _ h => h) (Or.inl ⟨by rfl, ?_⟩) ?_ ?_; rotate_left
                             · intro w'; go_simp; with_reducible rfl
                             rotate_left
                             · exact aP
                             refine pure_ (i := 7) (N := some 68) (v := ?_) (a' := ?_) #[true, true, true, true, false, true, true, true, false, false, false, false, false] rfl rfl (any_of HT_.out (by kernel_rfl)) (fun _ _ _ h => h) (Or.inl ⟨by rfl, ?_⟩) ?_ ?_; rotate_left
                             · intro w'; go_simp; with_reducible rfl
                             rotate_left
                             · exact aP
                             refine take_ (i := 8) (N := some 69) (v := ?_) (a' := ?_) #[true, true, true, true, false, true, true, true, true, false, false, false, false] rfl rfl (take_ofW HT_.out HW_.out (by kernel_rfl)) (fun _ _ _ h => h) (Or.inl ⟨by rfl, ?_⟩) hHeld ?_ ?_; rotate_left
                             · intro w' s0; go_simp; with_reducible rfl
                             rotate_left
                             · exact aP
                             refine one_ (i := 4) (N := some 65) #[true, true, true, true, true, true, true, true, true, false, false, false, false] rfl rfl (one_of HT_.out (by kernel_rfl)) (by decide) (fun K hK => ?_); refine goes_ Try.func151 (by kernel_rfl) rfl #[.int .i64 ((rd_L1 l0_0 0).length : Int), .int .i64 x5_1, .int .i64 x6_2] (by rfl) rfl rfl aT ?_; with_reducible refine (spec_l8Unit.calls ((rd_L1 l0_0 0).length : Int) x5_1 x6_2 t186 _ A27.out).mono ?_
                             rintro e w32 ⟨v187, rfl, ho0, hb⟩; have HS0_ := (hb.cell (World.block_lt_of_cell? _ _ (hHeld))).trans (hHeld); refine ⟨_, rfl, ?_⟩; have n0_ := Aside0.mk (Kd.S_elder' (pS HO_3) (Kd.R_base ho0) hb); have n1_ := Aside0.mk (Kd.R_elder' (pR HO_7) (Kd.R_base ho0) hb); have n2_ := Aside0.mk (Kd.R_lower (Kd.R_new' ho0 (Kd.R_lt (pR HO_7))) (below_size (bC HB GE169))); have n3_ := Aside0.mk (bW BK169 hb); have n4_ := Aside0.mk (below_step (bC HB GE169) hb); clear HO_3; clear HO_7; clear BK169; clear HB; have HO_3 := n0_; have HO_7 := n1_; have HO188 := n2_; have BK169 := n3_; have HB := n4_; clear n0_ n1_ n2_ n3_ n4_; (try clear hb); (try clear hb2); (try clear hk); (try clear hi); (try clear ho0); obtain ⟨Ao33, co33, eo33⟩ := Kd.R_slice HO188.out; (first | subst eo33 | (injection eo33 with f1_ f2_ f3_; have f4_ := f1_.symm; have f5_ := f3_.symm; clear f1_ f2_ f3_; subst f4_; subst f5_)); refine hK.out _ _ (HS0_) (fun hHeld => ?_); clear hK K; refine norm_ (a' := ?_) ?_ ?_; rotate_left
                             · show Act.put _ (some 65) _ = _
                               simp only [Act.put, List.setIfInBounds_toArray, List.set_cons_zero, List.set_cons_succ, i64_w, i32_w]; rfl
                             refine pure_ (i := 9) (N := some 70) (v := ?_) (a' := ?_) #[true, true, true, true, true, true, true, true, true, true, false, false, false] rfl rfl (any_of HT_.out (by kernel_rfl)) (fun _ _ _ h => h) (Or.inl ⟨by rfl, ?_⟩) ?_ ?_; rotate_left
                             · intro w'; go_simp; with_reducible rfl
                             rotate_left
                             · exact aP
                             refine last_ (i := 10) (N := some 71) #[true, true, true, true, true, true, true, true, true, true, true, false, false] rfl rfl (one_of HT_.out (by kernel_rfl)) (by decide) (fun K hK => ?_); refine value_ (w1 := ?_) (v := ?_) (by rfl) rfl ?_ ?_; rotate_left 2
                             · go_simp; constructor
                               · rfl
                               · rfl
                             refine hK.out _ _ ?_; clear hK K; refine norm_ (a' := ?_) ?_ ?_; rotate_left
                             · show Act.put _ (some 71) _ = _
                               simp only [Act.put, List.setIfInBounds_toArray, List.set_cons_zero, List.set_cons_succ, i64_w, i32_w]; rfl
                             refine last_ (i := 11) (N := some 72) #[true, true, true, true, true, true, true, true, true, true, true, true, false] rfl rfl (one_of HT_.out (by kernel_rfl)) (by decide) (fun K hK => ?_); refine Kd.S_append_step k39 (w0 := w) w.heap.size (by rfl) (.tmp 61) (.tmp 71) 65 39 (.agg #[(.slice none 0 0), (.int .i64 0)]) 32 rfl Try.underlying65 info39 rfl (by decide) (by omega) u3 x3_4 (⟨t186, rd y183 x9_4⟩ : S39) [.slice Ao33 t186.length co33, .int .i64 (rd y183 x9_4)] (fun k_ => some k_ ≠ (.slice (some ad189) y183.length co30 : Value).ownBlock) (fun k_ => some k_ = (.slice Ao33 t186.length co33 : Value).ownBlock) rfl rfl ?aP (fun k_ hk_ => ((Kd.R_mono (ok' := fun k_ => ((fun k_ => some k_ ≠ (.slice (some ad189) y183.length co30 : Value).ownBlock)) k_ ∧ some k_ ≠ (u3 : Value).ownBlock) (Kd.R_apart' (HO188.out) (Kd.S_typed HO_3.out) (by decide)) (fun k_ hk => ⟨hk.1.2, hk.2⟩))).1 k_ hk_.symm) ?aF ?aO ?aB ?aS ?aL ?_; (case aP => exact k39_mkM _ _ _ (⟨t186, rd y183 x9_4⟩ : S39) (Kd.R_mono (Kd.R_tight rfl (Kd.R_mono (ok' := fun k_ => ((fun k_ => some k_ ≠ (.slice (some ad189) y183.length co30 : Value).ownBlock)) k_ ∧ some k_ ≠ (u3 : Value).ownBlock) (Kd.R_apart' (HO188.out) (Kd.S_typed HO_3.out) (by decide)) (fun k_ hk => ⟨hk.1.2, hk.2⟩))) (fun _ h_ => h_))); (case aB => exact (bC HB GE169)); (case aF => exact (fun k_ hk => Kd.fresh' (Kd.R_lt (pR HO_7)) k_ hk)); (case aO => exact (by (with_reducible repeat (first | apply Kd.S_alloc | apply Kd.S_drewN | apply Kd.S_drew)); exact Kd.S_mono HO_3.out (fun k_ hk => ⟨hk.1, fun e_ => hk.2 e_⟩))); (case aS => exact (below_size (bC HB GE169))); (case aL => have := LMc29.out; omega); intro v191 w34 ho hb hg hat; rw [← Ny190.out] at ho; have n0_ := Aside0.mk (Kd.R_over' (pR HO_7) (Kd.S_typed (pS HO_3)) (by decide) hg); have n1_ := Aside0.mk (blk_grown (g := gb169) (o := .cells #[.slice (some ad173) l0_0.length c0_0, .slice A0_1 l0_1.length c0_1] 52 (0, 0)) (pB BK169) hg (Kd.S_ne HO_3.out BK169.out (by decide))); have n2_ := Aside0.mk (hb); have n3_ := Aside0.mk (ho); clear HO_7; clear BK169; clear HB; clear HO_3; clear HO188; have HO_7 := n0_; have BK169 := n1_; have HB := n2_; have HO192 := n3_; clear n0_ n1_ n2_ n3_; clear ho hb hg hat; refine hK.out _ _ ?_; clear hK K; refine norm_ (a' := ?_) ?_ ?_; rotate_left
                             · show Act.put _ (some 72) _ = _
                               simp only [Act.put, List.setIfInBounds_toArray, List.set_cons_zero, List.set_cons_succ, i64_w, i32_w]; rfl
                             refine pure_ (i := 12) (N := some 3) (v := ?_) (a' := ?_) #[true, true, true, true, true, true, true, true, true, true, true, true, true] rfl rfl (any_of HT_.out (by kernel_rfl)) (fun _ _ _ h => h) (Or.inl ⟨by rfl, ?_⟩) ?_ ?_; rotate_left
                             · intro w'; go_simp; with_reducible rfl
                             rotate_left
                             · exact aP
                             refine done_ (done_of HT_.out (by kernel_rfl)) ?_; try go_wp2
                             go_roundg k4
                             case measure => have := HK1.out; have := HK2.out; have := HK3.out; have := HK4.out; omega
                             case rel => exact ⟨(y190), (wrap64 (x9_4 + 1)), rD, H', ⟨by have := HK1.out; have := HK2.out; have := HK3.out; have := HK4.out; omega⟩, ⟨pS HO192⟩, ⟨by (with_reducible repeat (first | apply Kd.R_alloc | apply Kd.R_drewN | apply Kd.R_drew)); exact Kd.R_mono HO_7.out (fun _ hk => trivial)⟩, ⟨pB BK169⟩, ⟨bC HB GE169⟩⟩
                           · rw [if_neg c29] at H; exact absurd H (by simp)
                         · rw [if_neg c28] at H; exact absurd H (by simp)
                       · rw [if_neg c26] at H; have c26b0 : decide (x9_4 < (y183.length : Int)) = false := decide_eq_false c26; clear c26; have H' := Aside0.mk H; clear H; obtain ⟨Ao35, co35, eo35⟩ := Kd.R_slice HO_7.out; subst eo35; go_wp2; go_roundg k4
                         case measure => have := HK1.out; have := HK2.out; have := HK3.out; have := HK4.out; omega
                         case rel => exact ⟨(x3_4), (wrap64 (x6_2 - 2)), rD, H', ⟨by have := HK1.out; have := HK2.out; have := HK3.out; have := HK4.out; omega⟩, ⟨by (with_reducible repeat (first | apply Kd.S_alloc | apply Kd.S_drewN | apply Kd.S_drew)); exact Kd.S_mono HO_3.out (fun _ hk => trivial)⟩, ⟨pB BK169⟩, ⟨bC HB GE169⟩⟩
                   · rw [if_neg c22] at H; exact absurd H (by simp)
                 · rw [if_neg c21] at H; exact absurd H (by simp)
               · rw [if_neg c20] at H; exact absurd H (by simp)
         · rw [if_neg c8] at H; have c8b0 : decide ((-1) ≤ x6_2) = false := decide_eq_false c8; clear c8; have H' := Aside0.mk H; clear H; go_wp2; go_roundg k2
           case measure => have := HK1.out; have := HK2.out; omega
           case rel => exact ⟨(x3_2), (wrap64 (x5_1 + 1)), rD, H', ⟨by have := HK1.out; have := HK2.out; omega⟩, ⟨pS HO_3⟩, ⟨pB BK169⟩, ⟨bC HB GE169⟩⟩
     · rw [if_neg c7] at H; have c7b0 : decide (x5_1 < ((rd_L1 l0_0 0).length : Int)) = false := decide_eq_false c7; clear c7; obtain rfl := Option.some.inj H; go_wp2; go_ret
       exact ⟨_, eW, by (with_reducible repeat (first | apply Kd.S_alloc | apply Kd.S_drewN | apply Kd.S_drew)); exact HO_3.out, bC HB GE169⟩
 · rw [if_neg c2] at H; exact absurd H (by simp)

end Go.Proofs.Ytfkfahdikmfpeaa.PFnExactFittingJury
