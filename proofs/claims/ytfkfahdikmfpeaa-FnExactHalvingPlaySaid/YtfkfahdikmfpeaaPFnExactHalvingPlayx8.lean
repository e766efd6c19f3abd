-- Printed by wip/tools/myprint.py (the printer of the kit, patched by that program; roots chosen by it)
import Derived.Test.YtfkfahdikmfpeaaPFnExactHalvingPlayx0
import Derived.Test.YtfkfahdikmfpeaaPFnExactHalvingPlayx6
import Derived.Test.YtfkfahdikmfpeaaPFnExactHalvingPlayx7
import Derived.Test.YtfkfahdikmfpeaaSh
namespace Go.Proofs.Ytfkfahdikmfpeaa.PFnExactHalvingPlay
open Go.RowKit Go.Proofs.Ytfkfahdikmfpeaa.Sh Go.Proofs.YtfkfahdikmfpeaaW.PrintWords Go.Proofs.YtfkfahdikmfpeaaW.PrintLast Go.Proofs.YtfkfahdikmfpeaaW.PrintMore
attribute [local go_sem] max2_int min2_int max_two min_two max_three min_three max_four min_four   -- for this text's walks alone
set_option linter.unusedVariables false
set_option linter.unusedSimpArgs false

/-! ### impl_HalvingPlay: function 43 -/
mutual
def impl_HalvingPlay.j0 : Nat → List (List Int) → Int → List Int → Bool → Option (List Int × Bool)
 | 0, _, _, _, _ => none
 | k + 1, x0, x1, x2, x31 => if x31 = true then (some (([] : List Int), false)) else (impl_HalvingPlay.l0 k x0 x1 x2 (([] : List Int)) x2 (x2.length : Int) 0)
def impl_HalvingPlay.l0 : Nat → List (List Int) → Int → List Int → List Int → List Int → Int → Int → Option (List Int × Bool)
 | 0, _, _, _, _, _, _, _ => none
 | k + 1, x0, x1, x2, x9, x33, x34, x35 => if x35 < x34 then (if 0 ≤ x35 then (if x35 < (x33.length : Int) then (if x35 ≤ (x2.length : Int) then (if 0 ≤ x1 then (if x1 < (x0.length : Int) then ((impl_at.f k (rd_L1 x0 x1) (x2.take (x35 : Int).toNat)).bind fun t256 => ((impl_version.f k x0 (x2.take (x35 : Int).toNat) t256).bind fun t259 => (impl_HalvingPlay.l1 k x0 x1 x2 x9 (rd x33 x35) 0 x33 x34 x35 t259 (t259.length : Int) 0))) else (none)) else (none)) else (none)) else (none)) else (none)) else (some (x9, true))
def impl_HalvingPlay.l1 : Nat → List (List Int) → Int → List Int → List Int → Int → Int → List Int → Int → Int → List Int → Int → Int → Option (List Int × Bool)
 | 0, _, _, _, _, _, _, _, _, _, _, _, _ => none
 | k + 1, x0, x1, x2, x9, x11, x12, x33, x34, x35, x52, x53, x54 => if x54 < x53 then (if 0 ≤ x54 then (if x54 < (x52.length : Int) then (if 0 ≤ (rd x52 x54) then (if (rd x52 x54) < (x0.length : Int) then (if 0 ≤ x11 then (if x11 < ((rd_L1 x0 (rd x52 x54)).length : Int) then (impl_HalvingPlay.l1 k x0 x1 x2 x9 x11 (wrap64 (x12 + (rd (rd_L1 x0 (rd x52 x54)) x11))) x33 x34 x35 x52 x53 (wrap64 (x54 + 1))) else (none)) else (none)) else (none)) else (none)) else (none)) else (none)) else (if x12 < 0 then (if 0 ≤ x1 then (if x1 < (x0.length : Int) then (if 0 ≤ x11 then (if x11 < ((rd_L1 x0 x1).length : Int) then (if (-1) = (rd (rd_L1 x0 x1) x11) then (impl_HalvingPlay.l0 k x0 x1 x2 x9 x33 x34 (wrap64 (x35 + 1))) else (if x9.length < 17592186044416 then (impl_HalvingPlay.l0 k x0 x1 x2 (x9 ++ [x11]) x33 x34 (wrap64 (x35 + 1))) else (none))) else (none)) else (none)) else (none)) else (none)) else (if 0 ≤ x1 then (if x1 < (x0.length : Int) then (if 0 ≤ x11 then (if x11 < ((rd_L1 x0 x1).length : Int) then (if 1 = (rd (rd_L1 x0 x1) x11) then (impl_HalvingPlay.l0 k x0 x1 x2 x9 x33 x34 (wrap64 (x35 + 1))) else (if x9.length < 17592186044416 then (impl_HalvingPlay.l0 k x0 x1 x2 (x9 ++ [x11]) x33 x34 (wrap64 (x35 + 1))) else (none))) else (none)) else (none)) else (none)) else (none)))
end
def impl_HalvingPlay.f (k : Nat) (l0 : List (List Int)) (a1 : Int) (l2 : List Int) : Option (List Int × Bool) := (impl_copied.f l2).bind fun t243 => ((slices_Sort_int_int.f t243).bind fun t246 => ((impl_isClassSet.f k l0 t246).bind fun t247 => (if t247 = true then ((impl_within.f a1 0 (wrap64 ((l0.length : Int) - 1))).bind fun t248 => (impl_HalvingPlay.j0 k l0 a1 l2 (!t248))) else (impl_HalvingPlay.j0 k l0 a1 l2 true))))
def impl_HalvingPlay.T10 : Bool × List (List Nat × List Nat) := (true, [([], []), ([], []), ([], []), ([1, 2], [1, 2]), ([], []), ([], []), ([4, 5], [4, 5]), ([6], [6]), ([], []), ([], []), ([8, 9], [8, 9]), ([7, 10], [7, 10]), ([0, 3, 11, 11], [0, 3, 11]), ([12], [12]), ([], [])])
def impl_HalvingPlay.B10 : List Nat := [0, 0, 0, 6, 0, 0, 48, 112, 0, 0, 768, 2032, 4095, 8191, 0]
theorem impl_HalvingPlay.tab10 : rtab .any (opsOf Try.f43 10) = impl_HalvingPlay.T10 := by kernel_rfl
theorem impl_HalvingPlay.bits10 : waitsOk impl_HalvingPlay.T10.2 impl_HalvingPlay.B10 = true := by kernel_rfl
set_option maxHeartbeats 8000000 in
set_option maxRecDepth 100000 in
theorem impl_HalvingPlay.calls (k : Nat) (A0 : Option Addr) (c0 : Nat) (l0 : List (List Int)) (a1 : Int) (A2 : Option Addr) (c2 : Nat) (l2 : List Int) (r1 : List Int) (r2 : Bool) (w : World) (hr0 : Kd.C (Kd.slice 3 (Kd.int .i64)) w A0 l0.length l0) (hc0 : l0.length ≤ c0) (hr2 : Kd.C (Kd.int .i64) w A2 l2.length l2) (hc2 : l2.length ≤ c2) (h : impl_HalvingPlay.f k l0 a1 l2 = some (r1, r2)) :
 Calls Try.prog 43 #[.slice A0 l0.length c0, .int .i64 a1, .slice A2 l2.length c2] w fun e w' => ∃ v0_ : Value, e = .returned (.tuple #[v0_, .bool r2]) ∧ Kd.R (Kd.int .i64) 3 w' w.heap.size (fun _ => True) v0_ r1 ∧ Below w.heap.size w w' := by
 have HR0 := Aside0.mk hr0
 have HC0 := Aside0.mk hc0
 clear hr0 hc0
 have HR2 := Aside0.mk hr2
 have HC2 := Aside0.mk hc2
 clear hr2 hc2
 have HB := Aside0.mk (Below.refl w.heap.size w)
 have H : ((impl_copied.f l2).bind fun t243 => ((slices_Sort_int_int.f t243).bind fun t246 => ((impl_isClassSet.f k l0 t246).bind fun t247 => (if t247 = true then ((impl_within.f a1 0 (wrap64 ((l0.length : Int) - 1))).bind fun t248 => (impl_HalvingPlay.j0 k l0 a1 l2 (!t248))) else (impl_HalvingPlay.j0 k l0 a1 l2 true))))) = some (r1, r2) := h
 clear h
 replace H := Option.bind_eq_some_iff.mp H
 obtain ⟨t243, A40, H⟩ := H
 replace H : ((slices_Sort_int_int.f t243).bind fun t246 => ((impl_isClassSet.f k l0 t246).bind fun t247 => (if t247 = true then ((impl_within.f a1 0 (wrap64 ((l0.length : Int) - 1))).bind fun t248 => (impl_HalvingPlay.j0 k l0 a1 l2 (!t248))) else (impl_HalvingPlay.j0 k l0 a1 l2 true)))) = some (r1, r2) := H
 have A4 := Aside0.mk A40
 clear A40
 replace H := Option.bind_eq_some_iff.mp H
 obtain ⟨t246, A50, H⟩ := H
 replace H : ((impl_isClassSet.f k l0 t246).bind fun t247 => (if t247 = true then ((impl_within.f a1 0 (wrap64 ((l0.length : Int) - 1))).bind fun t248 => (impl_HalvingPlay.j0 k l0 a1 l2 (!t248))) else (impl_HalvingPlay.j0 k l0 a1 l2 true))) = some (r1, r2) := H
 have A5 := Aside0.mk A50
 clear A50
 have HC6 := Aside0.mk H
 clear H
 go_enter Try.func43, Try.ntmps43
 go_upto_region 3 with (first | ((with_reducible refine gate_callee (f := 81) rfl ?_); refine goesL_ (some 17) rfl rfl Try.func81 (by kernel_rfl) rfl #[.slice A2 l2.length c2] rfl aT ?_; (with_reducible refine (impl_copied.calls _ _ l2 t243 _ ?side1 ?side2 A4.out).mono ?_); (case side1 => exact cC HR2); (case side2 => exact HC2.out); rintro e w7 ⟨v244, rfl, ho0, hb⟩; refine ⟨_, rfl, ?_⟩; have n0_ := Aside0.mk (Kd.R_lower ho0 (below_size (bB HB))); have n1_ := Aside0.mk (below_step (bB HB) hb); clear HB; have HO245 := n0_; have HB := n1_; clear n0_ n1_; (try clear hb); (try clear hb2); (try clear hk); (try clear hi); (try clear ho0); obtain ⟨Ao8, co8, eo8⟩ := Kd.R_slice HO245.out; subst eo8) | ((with_reducible refine gate_callee (f := 92) rfl ?_); refine goesL_ (some 19) rfl rfl Try.func92 (by kernel_rfl) rfl #[.slice Ao8 t243.length co8] rfl aT ?_; (with_reducible refine (slices_Sort_int_int.calls (fun k_ => some k_ = (.slice Ao8 t243.length co8 : Value).ownBlock) (.slice Ao8 t243.length co8) t243 t246 w _ ?side1 ?side2 A5.out).mono ?_); (case side1 => exact bB HB); (case side2 => exact Kd.R_tight rfl HO245.out); rintro e w9 ⟨rfl, hy0, hb, hkp⟩; refine ⟨_, rfl, ?_⟩; have n0_ := Aside0.mk (Kd.R_reok rfl hy0 (fun k_ e_ => HO245.out.1 k_ e_)); have n1_ := Aside0.mk (hb); clear HO245; clear HB; have HO245 := n0_; have HB := n1_; clear n0_ n1_; (try clear hb); (try clear hkp); (try clear hy0)))
 (try simp only [Act.put, List.setIfInBounds_toArray, List.set_cons_zero, List.set_cons_succ])
 go_cut [31] (fun v31 wc => ∃ (kq : Nat) (x31_5 : Bool), v31 = .bool x31_5 ∧ Aside0 (impl_HalvingPlay.j0 kq l0 a1 l2 x31_5 = some (r1, r2)) ∧ Aside0 (kq ≤ k) ∧ Aside0 (Below w.heap.size w wc))
 case first =>
  have H := HC6.out
  clear HC6
  replace H := Option.bind_eq_some_iff.mp H
  obtain ⟨t247, A100, H⟩ := H
  replace H : (if t247 = true then ((impl_within.f a1 0 (wrap64 ((l0.length : Int) - 1))).bind fun t248 => (impl_HalvingPlay.j0 k l0 a1 l2 (!t248))) else (impl_HalvingPlay.j0 k l0 a1 l2 true)) = some (r1, r2) := H
  have A10 := Aside0.mk A100
  clear A100
  by_cases c11 : t247 = true
  · subst c11
    have H1 : ((impl_within.f a1 0 (wrap64 ((l0.length : Int) - 1))).bind fun t248 => (impl_HalvingPlay.j0 k l0 a1 l2 (!t248))) = some (r1, r2) := by rw [if_pos rfl] at H; exact H
    clear H
    have H := H1
    clear H1
    replace H := Option.bind_eq_some_iff.mp H
    obtain ⟨t248, A120, H⟩ := H
    replace H : (impl_HalvingPlay.j0 k l0 a1 l2 (!t248)) = some (r1, r2) := H
    have A12 := Aside0.mk A120
    clear A120
    have H' := Aside0.mk H
    clear H
    go_wp2_with (first | ((with_reducible refine gate_callee (f := 85) rfl ?_); refine goesL_ (some 22) rfl rfl Try.func85 (by kernel_rfl) rfl #[.slice A0 l0.length c0, .slice Ao8 t246.length co8] rfl (by (try simp only [List.map_toArray, List.map_cons, List.map_nil]); first | done | (rw [show t246.length = t243.length from (Kd.R_reads' HO245.out).1.symm] <;> rfl) | rfl | (simp only [List.length_drop, List.length_take]; rfl)) ?_; (with_reducible refine (impl_isClassSet.calls k _ _ l0 _ _ t246 true _ ?side1 ?side2 ?side3 ?side4 A10.out).mono ?_); (case side1 => exact cB HR0 HB); (case side2 => exact HC0.out); (case side3 => exact cR HO245); (case side4 => rw [show t246.length = t243.length from (Kd.R_reads' HO245.out).1.symm]; exact (Kd.R_reads' HO245.out).2.1); rintro e w' ⟨rfl, ⟨nd, rfl⟩⟩; refine ⟨_, rfl, ?_⟩) | (go_at_call 93; (with_reducible refine (impl_within.calls a1 0 (wrap64 ((l0.length : Int) - 1)) t248 _ A12.out).mono ?_); rintro e w' ⟨rfl, ⟨nd, rfl⟩⟩))
    go_meet
    case rel => exact ⟨_, (!t248), rD, H', ⟨by first | omega | exact Nat.le_refl _⟩, ⟨bB HB⟩⟩
  · replace c11 := Bool.eq_false_iff.mpr c11
    subst c11
    have H1 : (impl_HalvingPlay.j0 k l0 a1 l2 true) = some (r1, r2) := by rw [if_neg (show ¬ (false = true) by decide)] at H; exact H
    clear H
    have H := H1
    clear H1
    have H' := Aside0.mk H
    clear H
    go_wp2_with (first | ((with_reducible refine gate_callee (f := 85) rfl ?_); refine goesL_ (some 22) rfl rfl Try.func85 (by kernel_rfl) rfl #[.slice A0 l0.length c0, .slice Ao8 t246.length co8] rfl (by (try simp only [List.map_toArray, List.map_cons, List.map_nil]); first | done | (rw [show t246.length = t243.length from (Kd.R_reads' HO245.out).1.symm] <;> rfl) | rfl | (simp only [List.length_drop, List.length_take]; rfl)) ?_; (with_reducible refine (impl_isClassSet.calls k _ _ l0 _ _ t246 false _ ?side1 ?side2 ?side3 ?side4 A10.out).mono ?_); (case side1 => exact cB HR0 HB); (case side2 => exact HC0.out); (case side3 => exact cR HO245); (case side4 => rw [show t246.length = t243.length from (Kd.R_reads' HO245.out).1.symm]; exact (Kd.R_reads' HO245.out).2.1); rintro e w' ⟨rfl, ⟨nd, rfl⟩⟩; refine ⟨_, rfl, ?_⟩))
    go_meet
    case rel => exact ⟨_, (true), rD, H', ⟨by first | omega | exact Nat.le_refl _⟩, ⟨bB HB⟩⟩
 case rest =>
  clear HC6
  try clear c2
  obtain ⟨kq, x31_5, rfl, HA, HJ5, HB⟩ := hcut
  cases kq with
  | zero => exact absurd HA.out (by simp [impl_HalvingPlay.j0])
  | succ kj5 =>
   have H := HA.out
   clear HA
   simp only [impl_HalvingPlay.j0] at H
   by_cases c13 : x31_5 = true
   · subst c13
     have H1 : (some (([] : List Int), false)) = some (r1, r2) := by rw [if_pos rfl] at H; exact H
     clear H
     have H := H1
     clear H1
     simp only [Option.some.injEq, Prod.mk.injEq] at H
     obtain ⟨rfl, rfl⟩ := H
     go_wp2
     go_ret2
     exact ⟨_, eW, by first | exact Kd.R_nil _ _ _ _ _ | exact Kd.N_nil _ _ _ _ _ | exact Kd.V_nil _ _ _ _ _ | exact Kd.Q_nil _ _ _ _ _ | exact Kd.S_nil _ _ _ _ _, bB HB⟩
   · replace c13 := Bool.eq_false_iff.mpr c13
     subst c13
     have H1 : (impl_HalvingPlay.l0 kj5 l0 a1 l2 (([] : List Int)) l2 (l2.length : Int) 0) = some (r1, r2) := by rw [if_neg (show ¬ (false = true) by decide)] at H; exact H
     clear H
     have H := H1
     clear H1
     obtain ⟨y249, hy249⟩ : ∃ y_ : List Int, y_ = (([] : List Int)) := ⟨_, rfl⟩
     replace H : (impl_HalvingPlay.l0 kj5 l0 a1 l2 y249 l2 (l2.length : Int) 0) = some (r1, r2) := by first | (rw [hy249]; with_reducible exact H) | (have H2_ := (Option.bind_some _ _).symm.trans H; rw [hy249]; with_reducible exact H2_) | (have H2_ := (Option.bind_some _ _).symm.trans H; with_reducible exact H2_) | with_reducible exact H | (rw [hy249]; exact H) | exact H
     have Ny249 := Aside0.mk hy249
     clear hy249
     have H' := Aside0.mk H
     clear H
     go_wp2_with (first | ((with_reducible refine gate_dst (N := 32) rfl ?_); refine Kd.R_lit (Kd.int .i64) _ 3 ?hg (N := 32) ?hd (xs := ([] : List Int)) (inner := []) (ok := fun _ => True) (okp := fun _ => True) ?hr ?hp (fun _ hk => hk) trivial (Below.refl _ _) (Nat.le_refl _) (by simp) ?_; (case hd => rfl); (case hg => rfl); (case hr => first | (go_simp; done) | (go_simp; rfl)); (case hp => exact (Reps.none _ _)); intro v250 w14 ho15 hb hg_ hnew_; clear hg_ hnew_; (first | rw [← Ny249.out] at ho15 | (simp only [Int.reduceToNat] at ho15; rw [← Ny249.out] at ho15)); have n0_ := Aside0.mk (Kd.R_lower ho15 (below_size (bB HB))); have n1_ := Aside0.mk (below_step (bB HB) hb); clear HB; have HO251 := n0_; have HB := n1_; clear n0_ n1_; clear hb ho15))
     go_loopg [9, 35] kj5 (fun kq v9 v35 w' => ∃ (x9_2 : List Int) (x35_2 : Int), v35 = .int .i64 x35_2 ∧ Aside0 (impl_HalvingPlay.l0 kq l0 a1 l2 x9_2 l2 (l2.length : Int) x35_2 = some (r1, r2)) ∧ Aside0 (kq ≤ kj5) ∧ Aside0 (Kd.R (Kd.int .i64) 3 w' w.heap.size (fun _ => True) v9 x9_2) ∧ Aside0 (Below w.heap.size w w'))
     case atStart => exact ⟨(y249), (0), rD, H', ⟨Nat.le_refl _⟩, ⟨pR HO251⟩, ⟨bB HB⟩⟩
     case round =>
      clear H'
      try clear c2
      try clear c13
      obtain ⟨x9_2, x35_2, rfl, HA, HK2, HO_9, HB⟩ := hrel
      cases gk with
      | zero => exact absurd HA.out (by simp [impl_HalvingPlay.l0])
      | succ k2 =>
       have H := HA.out
       clear HA
       simp only [impl_HalvingPlay.l0] at H
       by_cases c16 : x35_2 < (l2.length : Int)
       · rw [if_pos c16] at H
         have c16b0 : decide (x35_2 < (l2.length : Int)) = true := decide_eq_true c16
         clear c16
         by_cases c17 : 0 ≤ x35_2
         · rw [if_pos c17] at H
           have c17b0 : decide (0 ≤ x35_2) = true := decide_eq_true c17
           clear c17
           by_cases c18 : x35_2 < (l2.length : Int)
           · rw [if_pos c18] at H
             have c18b0 : decide (x35_2 < (l2.length : Int)) = true := decide_eq_true c18
             clear c18
             have c19b0 := eq_true (of_decide_eq_true aS : 0 ≤ x35_2)
             by_cases c20 : x35_2 ≤ (l2.length : Int)
             · rw [if_pos c20] at H
               have c20b0 := eq_true c20
               have c20b1 : decide (x35_2 ≤ (l2.length : Int)) = true := decide_eq_true c20
               clear c20
               by_cases c21 : 0 ≤ a1
               · rw [if_pos c21] at H
                 have c21b0 : decide (0 ≤ a1) = true := decide_eq_true c21
                 clear c21
                 by_cases c22 : a1 < (l0.length : Int)
                 · rw [if_pos c22] at H
                   have c22b0 : decide (a1 < (l0.length : Int)) = true := decide_eq_true c22
                   clear c22
                   have c23b0 := eq_true (of_decide_eq_true aS : 0 ≤ x35_2)
                   have c24b0 := eq_true (of_decide_eq_true aS : x35_2 ≤ (l2.length : Int))
                   replace H := Option.bind_eq_some_iff.mp H
                   obtain ⟨t256, A250, H⟩ := H
                   replace H : ((impl_version.f k2 l0 (l2.take (x35_2 : Int).toNat) t256).bind fun t259 => (impl_HalvingPlay.l1 k2 l0 a1 l2 x9_2 (rd l2 x35_2) 0 l2 (l2.length : Int) x35_2 t259 (t259.length : Int) 0)) = some (r1, r2) := H
                   have A25 := Aside0.mk A250
                   clear A250
                   replace H := Option.bind_eq_some_iff.mp H
                   obtain ⟨t259, A260, H⟩ := H
                   replace H : (impl_HalvingPlay.l1 k2 l0 a1 l2 x9_2 (rd l2 x35_2) 0 l2 (l2.length : Int) x35_2 t259 (t259.length : Int) 0) = some (r1, r2) := H
                   have A26 := Aside0.mk A260
                   clear A260
                   have H' := Aside0.mk H
                   clear H
                   have p252 : 0 ≤ (x35_2 : Int) := of_decide_eq_true aS
                   have q252 : x35_2 < (l2.length : Int) := of_decide_eq_true aS
                   obtain ⟨ad252, e252, hx252_0⟩ := Kd.at_int HR2.out x35_2 p252 q252
                   cases e252
                   replace hx252_0 := (HB.out.cell (World.block_lt_of_cell? w _ hx252_0)).trans hx252_0
                   replace p252 := eq_true p252
                   replace q252 := eq_true q252
                   try go_wp2
                   have n0_ := Aside0.mk (Kd.R_drew HO_9.out)
                   have n1_ := Aside0.mk (below_drew1 HB.out)
                   clear HO_9
                   clear HB
                   have HO_9 := n0_
                   have HB := n1_
                   clear n0_ n1_
                   obtain ⟨i028, hi028, _, hsz28, _⟩ := info_parts info3
                   obtain ⟨hcut28, hA28, hC28⟩ := print_take_of (P := Try.prog) (Value.int .i64) 0 22 3 .i64 Try.underlying22 hi028 hsz28 (some ad252) c2 l2 x35_2 (of_decide_eq_true aS) (of_decide_eq_true aS) HC2.out
                   have HR253 := Aside0.mk (Kd.C_of_reads (h1 := fun _ => rfl) (hA28 _ (Kd.reads_of_C HR2.out)))
                   have HC253 := Aside0.mk hC28
                   clear hA28 hC28 hi028 hsz28
                   have p254 : 0 ≤ (a1 : Int) := of_decide_eq_true aS
                   have q254 : a1 < (l0.length : Int) := of_decide_eq_true aS
                   obtain ⟨ad254, A254_0, c254_0, e254, hx254_0, hl254_0, hi254_0⟩ := at_L1 HR0.out a1 p254 q254
                   have hw254_0 := hx254_0
                   cases e254
                   replace hx254_0 := (HB.out.cell (World.block_lt_of_cell? w _ hx254_0)).trans hx254_0
                   have HR254_0 := Aside0.mk hi254_0
                   have HC254_0 := Aside0.mk hl254_0
                   clear hi254_0 hl254_0
                   replace p254 := eq_true p254
                   replace q254 := eq_true q254
                   obtain ⟨i029, hi029, _, hsz29, _⟩ := info_parts info3
                   obtain ⟨hcut29, hA29, hC29⟩ := print_take_of (P := Try.prog) (Value.int .i64) 0 22 3 .i64 Try.underlying22 hi029 hsz29 (some ad252) c2 l2 x35_2 (of_decide_eq_true aS) (of_decide_eq_true aS) HC2.out
                   have HR255 := Aside0.mk (Kd.C_of_reads (h1 := fun _ => rfl) (hA29 _ (Kd.reads_of_C HR2.out)))
                   have HC255 := Aside0.mk hC29
                   clear hA29 hC29 hi029 hsz29
                   refine start_ (n := 15) (S := fun w' => w'.cell? (ad254.add (a1).toNat) = some (.slice A254_0 (rd_L1 l0 a1).length c254_0)) (ds := []) #[false, false, false, false, false, false, false, false, false, false, false, false, false, false, false] (by kernel_rfl) rfl rfl (((HB.out.cell (World.block_lt_of_cell? w _ hw254_0)).trans hw254_0)) (fun hHeld => ?_); refine with_tabW impl_HalvingPlay.tab10 impl_HalvingPlay.bits10 (fun HT_ HW_ => ?_)
                   generalize wr.drew = w27 at HO_9 HB HR253 HR254_0 HR255 hx254_0 hHeld ⊢
                   refine pure_ (i := 0) (N := some 40) (v := ?_) (a' := ?_) #[true, false, false, false, false, false, false, false, false, false, false, false, false, false, false] rfl rfl (any_of HT_.out (by kernel_rfl)) (fun _ _ _ h => h) (Or.inl ⟨by rfl, ?_⟩) ?_ ?_
                   rotate_left
                   · intro w'
                     go_simp
                     with_reducible rfl
                   rotate_left
                   · exact aP
                   refine pure_ (i := 1) (N := some 41) (v := ?_) (a' := ?_) #[true, true, false, false, false, false, false, false, false, false, false, false, false, false, false] rfl rfl (any_of HT_.out (by kernel_rfl)) (fun _ _ _ h => h) (Or.inl ⟨by rfl, ?_⟩) ?_ ?_
                   rotate_left
                   · intro w'
                     go_simp
                     with_reducible rfl
                   rotate_left
                   · exact aP
                   refine pure_ (i := 2) (N := some 42) (v := ?_) (a' := ?_) #[true, true, true, false, false, false, false, false, false, false, false, false, false, false, false] rfl rfl (any_of HT_.out (by kernel_rfl)) (fun _ _ _ h => h) (Or.inl ⟨by rfl, ?_⟩) ?_ ?_
                   rotate_left
                   · intro w'
                     go_simp
                     with_reducible rfl
                   rotate_left
                   · exact aP
                   refine pure_ (i := 3) (N := some 43) (v := ?_) (a' := ?_) #[true, true, true, true, false, false, false, false, false, false, false, false, false, false, false] rfl rfl (any_of HT_.out (by kernel_rfl)) (fun _ _ _ h => h) (Or.inl ⟨by rfl, ?_⟩) ?_ ?_
                   rotate_left
                   · intro w'
                     go_simp
                     with_reducible rfl
                   rotate_left
                   · exact aP
                   refine pure_ (i := 4) (N := some 44) (v := ?_) (a' := ?_) #[true, true, true, true, true, false, false, false, false, false, false, false, false, false, false] rfl rfl (any_of HT_.out (by kernel_rfl)) (fun _ _ _ h => h) (Or.inl ⟨by rfl, ?_⟩) ?_ ?_
                   rotate_left
                   · intro w'
                     go_simp
                     with_reducible rfl
                   rotate_left
                   · exact aP
                   refine pure_ (i := 5) (N := some 45) (v := ?_) (a' := ?_) #[true, true, true, true, true, true, false, false, false, false, false, false, false, false, false] rfl rfl (any_of HT_.out (by kernel_rfl)) (fun _ _ _ h => h) (Or.inl ⟨by rfl, ?_⟩) ?_ ?_
                   rotate_left
                   · intro w'
                     go_simp
                     with_reducible rfl
                   rotate_left
                   · exact aP
                   refine pure_ (i := 6) (N := some 46) (v := ?_) (a' := ?_) #[true, true, true, true, true, true, true, false, false, false, false, false, false, false, false] rfl rfl (any_of HT_.out (by kernel_rfl)) (fun _ _ _ h => h) (Or.inl ⟨by rfl, ?_⟩) ?_ ?_
                   rotate_left
                   · intro w'
                     go_simp
                     with_reducible rfl
                   rotate_left
                   · exact aP
                   refine pure_ (i := 8) (N := some 48) (v := ?_) (a' := ?_) #[true, true, true, true, true, true, true, false, true, false, false, false, false, false, false] rfl rfl (any_of HT_.out (by kernel_rfl)) (fun _ _ _ h => h) (Or.inl ⟨by rfl, ?_⟩) ?_ ?_
                   rotate_left
                   · intro w'
                     go_simp
                     with_reducible rfl
                   rotate_left
                   · exact aP
                   refine pure_ (i := 9) (N := some 49) (v := ?_) (a' := ?_) #[true, true, true, true, true, true, true, false, true, true, false, false, false, false, false] rfl rfl (any_of HT_.out (by kernel_rfl)) (fun _ _ _ h => h) (Or.inl ⟨by rfl, ?_⟩) ?_ ?_
                   rotate_left
                   · intro w'
                     go_simp
                     with_reducible rfl
                   rotate_left
                   · exact aP
                   refine pure_ (i := 10) (N := some 50) (v := ?_) (a' := ?_) #[true, true, true, true, true, true, true, false, true, true, true, false, false, false, false] rfl rfl (any_of HT_.out (by kernel_rfl)) (fun _ _ _ h => h) (Or.inl ⟨by rfl, ?_⟩) ?_ ?_
                   rotate_left
                   · intro w'
                     go_simp
                     with_reducible rfl
                   rotate_left
                   · exact aP
                   refine pure_ (i := 14) (N := some 54) (v := ?_) (a' := ?_) #[true, true, true, true, true, true, true, false, true, true, true, false, false, false, true] rfl rfl (any_of HT_.out (by kernel_rfl)) (fun _ _ _ h => h) (Or.inl ⟨by rfl, ?_⟩) ?_ ?_
                   rotate_left
                   · intro w'
                     go_simp
                     with_reducible rfl
                   rotate_left
                   · exact aP
                   refine take_ (i := 7) (N := some 47) (v := ?_) (a' := ?_) #[true, true, true, true, true, true, true, true, true, true, true, false, false, false, true] rfl rfl (take_ofW HT_.out HW_.out (by kernel_rfl)) (fun _ _ _ h => h) (Or.inl ⟨by rfl, ?_⟩) hHeld ?_ ?_
                   rotate_left
                   · intro w' s0
                     go_simp
                     with_reducible rfl
                   rotate_left
                   · exact aP
                   refine one_ (i := 11) (N := some 51) #[true, true, true, true, true, true, true, true, true, true, true, true, false, false, true] rfl rfl (one_of HT_.out (by kernel_rfl)) (by decide) (fun K hK => ?_)
                   refine goes_ Try.func95 (by kernel_rfl) rfl #[.slice A254_0 (rd_L1 l0 a1).length c254_0, .slice (some ad252) (l2.take (x35_2 : Int).toNat).length c2] (by rfl) rfl rfl (by (try simp only [List.map_toArray, List.map_cons, List.map_nil]); first | done | (rw [show (l2.take (x35_2 : Int).toNat).length = x35_2.toNat from (by rw [List.length_take]; have h_ : (x35_2 : Int) ≤ (l2.length : Int) := of_decide_eq_true aS; omega)] <;> rfl) | rfl | (simp only [List.length_drop, List.length_take]; rfl)) ?_
                   with_reducible refine (impl_at.calls k2 _ _ (rd_L1 l0 a1) _ _ (l2.take (x35_2 : Int).toNat) t256 _ ?side1 ?side2 ?side3 ?side4 A25.out).mono ?_
                   (case side1 => exact cB HR254_0 HB)
                   (case side2 => exact HC254_0.out)
                   (case side3 => exact cB HR255 HB)
                   (case side4 => exact HC255.out)
                   rintro e w30 ⟨v257, rfl, ho0, hb⟩
                   refine ⟨_, rfl, ?_⟩
                   have n0_ := Aside0.mk (Kd.R_elder' (pR HO_9) (Kd.R_base ho0) hb)
                   have n1_ := Aside0.mk (Kd.R_lower (Kd.R_new' ho0 (Kd.R_lt (pR HO_9))) (below_size (bB HB)))
                   have n2_ := Aside0.mk (below_step (bB HB) hb)
                   clear HO_9
                   clear HB
                   have HO_9 := n0_
                   have HO258 := n1_
                   have HB := n2_
                   clear n0_ n1_ n2_
                   (try clear hb)
                   (try clear hb2)
                   (try clear hk)
                   (try clear hi)
                   (try clear ho0)
                   obtain ⟨Ao31, co31, eo31⟩ := Kd.R_slice HO258.out
                   (first | subst eo31 | (injection eo31 with f1_ f2_ f3_; have f4_ := f1_.symm; have f5_ := f3_.symm; clear f1_ f2_ f3_; subst f4_; subst f5_))
                   refine hK.out _ _ (((HB.out.cell (World.block_lt_of_cell? w _ hw254_0)).trans hw254_0)) (fun hHeld => ?_)
                   clear hK K
                   refine norm_ (a' := ?_) ?_ ?_
                   rotate_left
                   · show Act.put _ (some 51) _ = _
                     simp only [Act.put, List.setIfInBounds_toArray, List.set_cons_zero, List.set_cons_succ, i64_w, i32_w]
                     rfl
                   refine one_ (i := 12) (N := some 52) #[true, true, true, true, true, true, true, true, true, true, true, true, true, false, true] rfl rfl (one_of HT_.out (by kernel_rfl)) (by decide) (fun K hK => ?_)
                   refine goes_ Try.func94 (by kernel_rfl) rfl #[.slice (some ad254) l0.length c0, .slice (some ad252) (l2.take (x35_2 : Int).toNat).length c2, .slice Ao31 t256.length co31] (by rfl) rfl rfl (by (try simp only [List.map_toArray, List.map_cons, List.map_nil]); first | done | (rw [show (l2.take (x35_2 : Int).toNat).length = x35_2.toNat from (by rw [List.length_take]; have h_ : (x35_2 : Int) ≤ (l2.length : Int) := of_decide_eq_true aS; omega)] <;> rfl) | rfl | (simp only [List.length_drop, List.length_take]; rfl)) ?_
                   with_reducible refine (impl_version.calls k2 _ _ l0 _ _ (l2.take (x35_2 : Int).toNat) _ _ t256 t259 _ ?side1 ?side2 ?side3 ?side4 ?side5 ?side6 A26.out).mono ?_
                   (case side1 => exact cB HR0 HB)
                   (case side2 => exact HC0.out)
                   (case side3 => exact cB HR253 HB)
                   (case side4 => exact HC253.out)
                   (case side5 => exact cR HO258)
                   (case side6 => exact (Kd.R_reads' HO258.out).2.1)
                   rintro e w32 ⟨v260, rfl, ho0, hb⟩
                   refine ⟨_, rfl, ?_⟩
                   have n0_ := Aside0.mk (Kd.R_elder' (pR HO_9) (Kd.R_base ho0) hb)
                   have n1_ := Aside0.mk (Kd.R_elder' (pR HO258) (Kd.R_base ho0) hb)
                   have n2_ := Aside0.mk (Kd.R_lower (Kd.R_new' (Kd.R_new' ho0 (Kd.R_lt (pR HO_9))) (Kd.R_lt (pR HO258))) (below_size (bB HB)))
                   have n3_ := Aside0.mk (below_step (bB HB) hb)
                   clear HO_9
                   clear HO258
                   clear HB
                   have HO_9 := n0_
                   have HO258 := n1_
                   have HO261 := n2_
                   have HB := n3_
                   clear n0_ n1_ n2_ n3_
                   (try clear hb)
                   (try clear hb2)
                   (try clear hk)
                   (try clear hi)
                   (try clear ho0)
                   obtain ⟨Ao33, co33, eo33⟩ := Kd.R_slice HO261.out
                   (first | subst eo33 | (injection eo33 with f1_ f2_ f3_; have f4_ := f1_.symm; have f5_ := f3_.symm; clear f1_ f2_ f3_; subst f4_; subst f5_))
                   refine hK.out _ _ (((HB.out.cell (World.block_lt_of_cell? w _ hw254_0)).trans hw254_0)) (fun hHeld => ?_)
                   clear hK K
                   refine norm_ (a' := ?_) ?_ ?_
                   rotate_left
                   · show Act.put _ (some 52) _ = _
                     simp only [Act.put, List.setIfInBounds_toArray, List.set_cons_zero, List.set_cons_succ, i64_w, i32_w]
                     rfl
                   refine pure_ (i := 13) (N := some 53) (v := ?_) (a' := ?_) #[true, true, true, true, true, true, true, true, true, true, true, true, true, true, true] rfl rfl (any_of HT_.out (by kernel_rfl)) (fun _ _ _ h => h) (Or.inl ⟨by rfl, ?_⟩) ?_ ?_
                   rotate_left
                   · intro w'
                     go_simp
                     with_reducible rfl
                   rotate_left
                   · exact aP
                   refine done_ (done_of HT_.out (by kernel_rfl)) ?_
                   try go_wp2
                   go_loopg [12, 54] k2 (fun kq v12 v54 w' => ∃ (x12_3 : Int) (x54_3 : Int), v12 = .int .i64 x12_3 ∧ v54 = .int .i64 x54_3 ∧ Aside0 (impl_HalvingPlay.l1 kq l0 a1 l2 x9_2 (rd l2 x35_2) x12_3 l2 (l2.length : Int) x35_2 t259 (t259.length : Int) x54_3 = some (r1, r2)) ∧ Aside0 (kq ≤ k2) ∧ Aside0 (Kd.R (Kd.int .i64) 3 w' w.heap.size (fun k_ => some k_ ≠ ((.slice Ao33 t259.length co33) : Value).ownBlock) u9 x9_2) ∧ Aside0 (Kd.R (Kd.int .i64) 3 w' w.heap.size (fun k_ => some k_ ≠ (u9 : Value).ownBlock) (.slice Ao33 t259.length co33) t259) ∧ Aside0 (Below w.heap.size w w'))
                   case atStart => exact ⟨(0), (0), rD, rD, H', ⟨Nat.le_refl _⟩, ⟨by (with_reducible repeat (first | apply Kd.R_alloc | apply Kd.R_drewN | apply Kd.R_drew)); exact Kd.R_mono HO_9.out (fun _ hk => hk.2)⟩, ⟨by (with_reducible repeat (first | apply Kd.R_alloc | apply Kd.R_drewN | apply Kd.R_drew)); exact Kd.R_mono HO261.out (fun _ hk => hk.1.2)⟩, ⟨bB HB⟩⟩
                   case round =>
                    clear H'
                    try clear c2
                    try clear c13
                    try clear c16
                    try clear c16b0
                    try clear c17
                    try clear c17b0
                    try clear c18
                    try clear c18b0
                    try clear c19b0
                    try clear c20
                    try clear c20b0
                    try clear c20b1
                    try clear c21
                    try clear c21b0
                    try clear c22
                    try clear c22b0
                    try clear c23b0
                    try clear c24b0
                    try clear hx252_0
                    try clear hx254_0
                    try clear p252
                    try clear p254
                    try clear q252
                    try clear q254
                    obtain ⟨x12_3, x54_3, rfl, rfl, HA, HK3, HO_9, HO_52, HB⟩ := hrel
                    cases gk with
                    | zero => exact absurd HA.out (by simp [impl_HalvingPlay.l1])
                    | succ k3 =>
                     have H := HA.out
                     clear HA
                     simp only [impl_HalvingPlay.l1] at H
                     by_cases c34 : x54_3 < (t259.length : Int)
                     · rw [if_pos c34] at H
                       have c34b0 : decide (x54_3 < (t259.length : Int)) = true := decide_eq_true c34
                       clear c34
                       by_cases c35 : 0 ≤ x54_3
                       · rw [if_pos c35] at H
                         have c35b0 : decide (0 ≤ x54_3) = true := decide_eq_true c35
                         clear c35
                         by_cases c36 : x54_3 < (t259.length : Int)
                         · rw [if_pos c36] at H
                           have c36b0 : decide (x54_3 < (t259.length : Int)) = true := decide_eq_true c36
                           clear c36
                           by_cases c37 : 0 ≤ (rd t259 x54_3)
                           · rw [if_pos c37] at H
                             have c37b0 : decide (0 ≤ (rd t259 x54_3)) = true := decide_eq_true c37
                             clear c37
                             by_cases c38 : (rd t259 x54_3) < (l0.length : Int)
                             · rw [if_pos c38] at H
                               have c38b0 : decide ((rd t259 x54_3) < (l0.length : Int)) = true := decide_eq_true c38
                               clear c38
                               by_cases c39 : 0 ≤ (rd l2 x35_2)
                               · rw [if_pos c39] at H
                                 have c39b0 : decide (0 ≤ (rd l2 x35_2)) = true := decide_eq_true c39
                                 clear c39
                                 by_cases c40 : (rd l2 x35_2) < ((rd_L1 l0 (rd t259 x54_3)).length : Int)
                                 · rw [if_pos c40] at H
                                   have c40b0 : decide ((rd l2 x35_2) < ((rd_L1 l0 (rd t259 x54_3)).length : Int)) = true := decide_eq_true c40
                                   clear c40
                                   have H' := Aside0.mk H
                                   clear H
                                   have p262 : 0 ≤ (x54_3 : Int) := of_decide_eq_true aS
                                   have q262 : x54_3 < (t259.length : Int) := of_decide_eq_true aS
                                   obtain ⟨ad262, e262, hx262_0⟩ := Kd.at_int (Kd.R_reads' HO_52.out).2.2 x54_3 p262 q262
                                   cases e262
                                   replace p262 := eq_true p262
                                   replace q262 := eq_true q262
                                   have p263 : 0 ≤ ((rd t259 x54_3) : Int) := of_decide_eq_true aS
                                   have q263 : (rd t259 x54_3) < (l0.length : Int) := of_decide_eq_true aS
                                   obtain ⟨ad263, A263_0, c263_0, e263, hx263_0, hl263_0, hi263_0⟩ := at_L1 HR0.out (rd t259 x54_3) p263 q263
                                   obtain rfl : ad254 = ad263 := (by injection e263)
                                   replace hx263_0 := (HB.out.cell (World.block_lt_of_cell? w _ hx263_0)).trans hx263_0
                                   have HR263_0 := Aside0.mk hi263_0
                                   have HC263_0 := Aside0.mk hl263_0
                                   clear hi263_0 hl263_0
                                   replace p263 := eq_true p263
                                   replace q263 := eq_true q263
                                   have p264 : 0 ≤ ((rd l2 x35_2) : Int) := of_decide_eq_true aS
                                   have q264 : (rd l2 x35_2) < ((rd_L1 l0 (rd t259 x54_3)).length : Int) := of_decide_eq_true aS
                                   obtain ⟨ad264, e264, hx264_0⟩ := Kd.at_int HR263_0.out (rd l2 x35_2) p264 q264
                                   cases e264
                                   replace hx264_0 := (HB.out.cell (World.block_lt_of_cell? w _ hx264_0)).trans hx264_0
                                   replace p264 := eq_true p264
                                   replace q264 := eq_true q264
                                   go_wp2
                                   go_roundg k3
                                   case measure => have := HJ5.out; have := HK2.out; have := HK3.out; omega
                                   case rel => exact ⟨(wrap64 (x12_3 + (rd (rd_L1 l0 (rd t259 x54_3)) (rd l2 x35_2)))), (wrap64 (x54_3 + 1)), rD, rD, H', ⟨by have := HJ5.out; have := HK2.out; have := HK3.out; omega⟩, ⟨pR HO_9⟩, ⟨pR HO_52⟩, ⟨bB HB⟩⟩
                                 · rw [if_neg c40] at H
                                   exact absurd H (by simp)
                               · rw [if_neg c39] at H
                                 exact absurd H (by simp)
                             · rw [if_neg c38] at H
                               exact absurd H (by simp)
                           · rw [if_neg c37] at H
                             exact absurd H (by simp)
                         · rw [if_neg c36] at H
                           exact absurd H (by simp)
                       · rw [if_neg c35] at H
                         exact absurd H (by simp)
                     · rw [if_neg c34] at H
                       have c34b0 : decide (x54_3 < (t259.length : Int)) = false := decide_eq_false c34
                       clear c34
                       by_cases c41 : x12_3 < 0
                       · rw [if_pos c41] at H
                         have c41b0 : decide (x12_3 < 0) = true := decide_eq_true c41
                         clear c41
                         by_cases c42 : 0 ≤ a1
                         · rw [if_pos c42] at H
                           have c42b0 : decide (0 ≤ a1) = true := decide_eq_true c42
                           clear c42
                           by_cases c43 : a1 < (l0.length : Int)
                           · rw [if_pos c43] at H
                             have c43b0 : decide (a1 < (l0.length : Int)) = true := decide_eq_true c43
                             clear c43
                             by_cases c44 : 0 ≤ (rd l2 x35_2)
                             · rw [if_pos c44] at H
                               have c44b0 : decide (0 ≤ (rd l2 x35_2)) = true := decide_eq_true c44
                               clear c44
                               by_cases c45 : (rd l2 x35_2) < ((rd_L1 l0 a1).length : Int)
                               · rw [if_pos c45] at H
                                 have c45b0 : decide ((rd l2 x35_2) < ((rd_L1 l0 a1).length : Int)) = true := decide_eq_true c45
                                 clear c45
                                 by_cases c46 : (-1) = (rd (rd_L1 l0 a1) (rd l2 x35_2))
                                 · rw [if_pos c46] at H
                                   have c46b0 : ((-1) == (rd (rd_L1 l0 a1) (rd l2 x35_2))) = true := beq_iff_eq.mpr c46
                                   have c46b1 : ((-1) != (rd (rd_L1 l0 a1) (rd l2 x35_2))) = false := bne_eq_false_iff_eq.mpr c46
                                   clear c46
                                   have H' := Aside0.mk H
                                   clear H
                                   have p265 : 0 ≤ (a1 : Int) := of_decide_eq_true aS
                                   have q265 : a1 < (l0.length : Int) := of_decide_eq_true aS
                                   obtain ⟨ad265, A265_0, c265_0, e265, hx265_0, hl265_0, hi265_0⟩ := at_L1 HR0.out a1 p265 q265
                                   obtain rfl : ad254 = ad265 := (by injection e265)
                                   replace hx265_0 := (HB.out.cell (World.block_lt_of_cell? w _ hx265_0)).trans hx265_0
                                   have HR265_0 := Aside0.mk hi265_0
                                   have HC265_0 := Aside0.mk hl265_0
                                   clear hi265_0 hl265_0
                                   replace p265 := eq_true p265
                                   replace q265 := eq_true q265
                                   have p266 : 0 ≤ ((rd l2 x35_2) : Int) := of_decide_eq_true aS
                                   have q266 : (rd l2 x35_2) < ((rd_L1 l0 a1).length : Int) := of_decide_eq_true aS
                                   obtain ⟨ad266, e266, hx266_0⟩ := Kd.at_int HR265_0.out (rd l2 x35_2) p266 q266
                                   cases e266
                                   replace hx266_0 := (HB.out.cell (World.block_lt_of_cell? w _ hx266_0)).trans hx266_0
                                   replace p266 := eq_true p266
                                   replace q266 := eq_true q266
                                   go_wp2
                                   go_roundg k3
                                   case measure => have := HJ5.out; have := HK2.out; have := HK3.out; omega
                                   case rel => exact ⟨(x9_2), (wrap64 (x35_2 + 1)), rD, H', ⟨by have := HJ5.out; have := HK2.out; have := HK3.out; omega⟩, ⟨by (with_reducible repeat (first | apply Kd.R_alloc | apply Kd.R_drewN | apply Kd.R_drew)); exact Kd.R_mono HO_9.out (fun _ hk => trivial)⟩, ⟨bB HB⟩⟩
                                 · rw [if_neg c46] at H
                                   have c46b0 : ((-1) == (rd (rd_L1 l0 a1) (rd l2 x35_2))) = false := beq_eq_false_iff_ne.mpr c46
                                   have c46b1 : ((-1) != (rd (rd_L1 l0 a1) (rd l2 x35_2))) = true := bne_iff_ne.mpr c46
                                   by_cases c47 : x9_2.length < 17592186044416
                                   · rw [if_pos c47] at H
                                     have LMc47 := Aside0.mk c47
                                     clear c47
                                     obtain ⟨y267, hy267⟩ : ∃ y_ : List Int, y_ = (x9_2 ++ [(rd l2 x35_2)]) := ⟨_, rfl⟩
                                     replace H : (impl_HalvingPlay.l0 k3 l0 a1 l2 y267 l2 (l2.length : Int) (wrap64 (x35_2 + 1))) = some (r1, r2) := by first | (rw [hy267]; with_reducible exact H) | (have H2_ := (Option.bind_some _ _).symm.trans H; rw [hy267]; with_reducible exact H2_) | (have H2_ := (Option.bind_some _ _).symm.trans H; with_reducible exact H2_) | with_reducible exact H | (rw [hy267]; exact H) | exact H
                                     have Ny267 := Aside0.mk hy267
                                     clear hy267
                                     have H' := Aside0.mk H
                                     clear H
                                     have p265 : 0 ≤ (a1 : Int) := of_decide_eq_true aS
                                     have q265 : a1 < (l0.length : Int) := of_decide_eq_true aS
                                     obtain ⟨ad265, A265_0, c265_0, e265, hx265_0, hl265_0, hi265_0⟩ := at_L1 HR0.out a1 p265 q265
                                     obtain rfl : ad254 = ad265 := (by injection e265)
                                     replace hx265_0 := (HB.out.cell (World.block_lt_of_cell? w _ hx265_0)).trans hx265_0
                                     have HR265_0 := Aside0.mk hi265_0
                                     have HC265_0 := Aside0.mk hl265_0
                                     clear hi265_0 hl265_0
                                     replace p265 := eq_true p265
                                     replace q265 := eq_true q265
                                     have p266 : 0 ≤ ((rd l2 x35_2) : Int) := of_decide_eq_true aS
                                     have q266 : (rd l2 x35_2) < ((rd_L1 l0 a1).length : Int) := of_decide_eq_true aS
                                     obtain ⟨ad266, e266, hx266_0⟩ := Kd.at_int HR265_0.out (rd l2 x35_2) p266 q266
                                     cases e266
                                     replace hx266_0 := (HB.out.cell (World.block_lt_of_cell? w _ hx266_0)).trans hx266_0
                                     replace p266 := eq_true p266
                                     replace q266 := eq_true q266
                                     go_wp2_with (first | ((with_reducible refine gate_builtin (b := .append) (xs := #[.tmp 79, .tmp 81]) rfl ?_); at_builtin; refine Kd.R_append (Kd.int .i64) (w0 := w) w.heap.size rfl (.tmp 79) (.tmp 81) 22 3 (.int .i64 0) 8 rfl Try.underlying22 info3 rfl (by decide) (by omega) u9 x9_2 (rd l2 x35_2) [.int .i64 (rd l2 x35_2)] (fun k_ => some k_ ≠ (.slice Ao33 t259.length co33 : Value).ownBlock) (fun _ => False) rfl rfl ?aP (fun _ hk => hk.elim) ?aF ?aO ?aB ?aS ?aL ?_; (case aP => exact rfl); (case aB => exact (bB HB)); (case aF => exact (fun k_ hk => Kd.fresh' (Kd.R_lt (pR HO_52)) k_ hk)); (case aO => exact (pR HO_9)); (case aS => exact (below_size (bB HB))); (case aL => have := LMc47.out; omega); intro v268 w48 ho hb hg hat; rw [← Ny267.out] at ho; have n0_ := Aside0.mk (Kd.R_after (ok := (fun _ => True)) (by (with_reducible repeat (first | apply Kd.R_alloc | apply Kd.R_drewN | apply Kd.R_drew)); exact Kd.R_mono HO_52.out (fun _ hk => ⟨trivial, hk⟩)) hg hat); have n1_ := Aside0.mk (hb); have n2_ := Aside0.mk (ho); clear HO_52; clear HB; clear HO_9; have HO_52 := n0_; have HB := n1_; have HO269 := n2_; clear n0_ n1_ n2_; clear ho hb hg hat))
                                     go_roundg k3
                                     case measure => have := HJ5.out; have := HK2.out; have := HK3.out; omega
                                     case rel => exact ⟨(y267), (wrap64 (x35_2 + 1)), rD, H', ⟨by have := HJ5.out; have := HK2.out; have := HK3.out; omega⟩, ⟨by (with_reducible repeat (first | apply Kd.R_alloc | apply Kd.R_drewN | apply Kd.R_drew)); exact Kd.R_mono HO269.out (fun _ hk => trivial)⟩, ⟨bB HB⟩⟩
                                   · rw [if_neg c47] at H
                                     exact absurd H (by simp)
                               · rw [if_neg c45] at H
                                 exact absurd H (by simp)
                             · rw [if_neg c44] at H
                               exact absurd H (by simp)
                           · rw [if_neg c43] at H
                             exact absurd H (by simp)
                         · rw [if_neg c42] at H
                           exact absurd H (by simp)
                       · rw [if_neg c41] at H
                         have c41b0 : decide (x12_3 < 0) = false := decide_eq_false c41
                         clear c41
                         by_cases c49 : 0 ≤ a1
                         · rw [if_pos c49] at H
                           have c49b0 : decide (0 ≤ a1) = true := decide_eq_true c49
                           clear c49
                           by_cases c50 : a1 < (l0.length : Int)
                           · rw [if_pos c50] at H
                             have c50b0 : decide (a1 < (l0.length : Int)) = true := decide_eq_true c50
                             clear c50
                             by_cases c51 : 0 ≤ (rd l2 x35_2)
                             · rw [if_pos c51] at H
                               have c51b0 : decide (0 ≤ (rd l2 x35_2)) = true := decide_eq_true c51
                               clear c51
                               by_cases c52 : (rd l2 x35_2) < ((rd_L1 l0 a1).length : Int)
                               · rw [if_pos c52] at H
                                 have c52b0 : decide ((rd l2 x35_2) < ((rd_L1 l0 a1).length : Int)) = true := decide_eq_true c52
                                 clear c52
                                 by_cases c53 : 1 = (rd (rd_L1 l0 a1) (rd l2 x35_2))
                                 · rw [if_pos c53] at H
                                   have c53b0 : (1 == (rd (rd_L1 l0 a1) (rd l2 x35_2))) = true := beq_iff_eq.mpr c53
                                   have c53b1 : (1 != (rd (rd_L1 l0 a1) (rd l2 x35_2))) = false := bne_eq_false_iff_eq.mpr c53
                                   clear c53
                                   have H' := Aside0.mk H
                                   clear H
                                   have p270 : 0 ≤ (a1 : Int) := of_decide_eq_true aS
                                   have q270 : a1 < (l0.length : Int) := of_decide_eq_true aS
                                   obtain ⟨ad270, A270_0, c270_0, e270, hx270_0, hl270_0, hi270_0⟩ := at_L1 HR0.out a1 p270 q270
                                   obtain rfl : ad254 = ad270 := (by injection e270)
                                   replace hx270_0 := (HB.out.cell (World.block_lt_of_cell? w _ hx270_0)).trans hx270_0
                                   have HR270_0 := Aside0.mk hi270_0
                                   have HC270_0 := Aside0.mk hl270_0
                                   clear hi270_0 hl270_0
                                   replace p270 := eq_true p270
                                   replace q270 := eq_true q270
                                   have p271 : 0 ≤ ((rd l2 x35_2) : Int) := of_decide_eq_true aS
                                   have q271 : (rd l2 x35_2) < ((rd_L1 l0 a1).length : Int) := of_decide_eq_true aS
                                   obtain ⟨ad271, e271, hx271_0⟩ := Kd.at_int HR270_0.out (rd l2 x35_2) p271 q271
                                   cases e271
                                   replace hx271_0 := (HB.out.cell (World.block_lt_of_cell? w _ hx271_0)).trans hx271_0
                                   replace p271 := eq_true p271
                                   replace q271 := eq_true q271
                                   go_wp2
                                   go_roundg k3
                                   case measure => have := HJ5.out; have := HK2.out; have := HK3.out; omega
                                   case rel => exact ⟨(x9_2), (wrap64 (x35_2 + 1)), rD, H', ⟨by have := HJ5.out; have := HK2.out; have := HK3.out; omega⟩, ⟨by (with_reducible repeat (first | apply Kd.R_alloc | apply Kd.R_drewN | apply Kd.R_drew)); exact Kd.R_mono HO_9.out (fun _ hk => trivial)⟩, ⟨bB HB⟩⟩
                                 · rw [if_neg c53] at H
                                   have c53b0 : (1 == (rd (rd_L1 l0 a1) (rd l2 x35_2))) = false := beq_eq_false_iff_ne.mpr c53
                                   have c53b1 : (1 != (rd (rd_L1 l0 a1) (rd l2 x35_2))) = true := bne_iff_ne.mpr c53
                                   by_cases c54 : x9_2.length < 17592186044416
                                   · rw [if_pos c54] at H
                                     have LMc54 := Aside0.mk c54
                                     clear c54
                                     obtain ⟨y272, hy272⟩ : ∃ y_ : List Int, y_ = (x9_2 ++ [(rd l2 x35_2)]) := ⟨_, rfl⟩
                                     replace H : (impl_HalvingPlay.l0 k3 l0 a1 l2 y272 l2 (l2.length : Int) (wrap64 (x35_2 + 1))) = some (r1, r2) := by first | (rw [hy272]; with_reducible exact H) | (have H2_ := (Option.bind_some _ _).symm.trans H; rw [hy272]; with_reducible exact H2_) | (have H2_ := (Option.bind_some _ _).symm.trans H; with_reducible exact H2_) | with_reducible exact H | (rw [hy272]; exact H) | exact H
                                     have Ny272 := Aside0.mk hy272
                                     clear hy272
                                     have H' := Aside0.mk H
                                     clear H
                                     have p270 : 0 ≤ (a1 : Int) := of_decide_eq_true aS
                                     have q270 : a1 < (l0.length : Int) := of_decide_eq_true aS
                                     obtain ⟨ad270, A270_0, c270_0, e270, hx270_0, hl270_0, hi270_0⟩ := at_L1 HR0.out a1 p270 q270
                                     obtain rfl : ad254 = ad270 := (by injection e270)
                                     replace hx270_0 := (HB.out.cell (World.block_lt_of_cell? w _ hx270_0)).trans hx270_0
                                     have HR270_0 := Aside0.mk hi270_0
                                     have HC270_0 := Aside0.mk hl270_0
                                     clear hi270_0 hl270_0
                                     replace p270 := eq_true p270
                                     replace q270 := eq_true q270
                                     have p271 : 0 ≤ ((rd l2 x35_2) : Int) := of_decide_eq_true aS
                                     have q271 : (rd l2 x35_2) < ((rd_L1 l0 a1).length : Int) := of_decide_eq_true aS
                                     obtain ⟨ad271, e271, hx271_0⟩ := Kd.at_int HR270_0.out (rd l2 x35_2) p271 q271
                                     cases e271
                                     replace hx271_0 := (HB.out.cell (World.block_lt_of_cell? w _ hx271_0)).trans hx271_0
                                     replace p271 := eq_true p271
                                     replace q271 := eq_true q271
                                     go_wp2_with (first | ((with_reducible refine gate_builtin (b := .append) (xs := #[.tmp 79, .tmp 81]) rfl ?_); at_builtin; refine Kd.R_append (Kd.int .i64) (w0 := w) w.heap.size rfl (.tmp 79) (.tmp 81) 22 3 (.int .i64 0) 8 rfl Try.underlying22 info3 rfl (by decide) (by omega) u9 x9_2 (rd l2 x35_2) [.int .i64 (rd l2 x35_2)] (fun k_ => some k_ ≠ (.slice Ao33 t259.length co33 : Value).ownBlock) (fun _ => False) rfl rfl ?aP (fun _ hk => hk.elim) ?aF ?aO ?aB ?aS ?aL ?_; (case aP => exact rfl); (case aB => exact (bB HB)); (case aF => exact (fun k_ hk => Kd.fresh' (Kd.R_lt (pR HO_52)) k_ hk)); (case aO => exact (pR HO_9)); (case aS => exact (below_size (bB HB))); (case aL => have := LMc54.out; omega); intro v273 w55 ho hb hg hat; rw [← Ny272.out] at ho; have n0_ := Aside0.mk (Kd.R_after (ok := (fun _ => True)) (by (with_reducible repeat (first | apply Kd.R_alloc | apply Kd.R_drewN | apply Kd.R_drew)); exact Kd.R_mono HO_52.out (fun _ hk => ⟨trivial, hk⟩)) hg hat); have n1_ := Aside0.mk (hb); have n2_ := Aside0.mk (ho); clear HO_52; clear HB; clear HO_9; have HO_52 := n0_; have HB := n1_; have HO274 := n2_; clear n0_ n1_ n2_; clear ho hb hg hat))
                                     go_roundg k3
                                     case measure => have := HJ5.out; have := HK2.out; have := HK3.out; omega
                                     case rel => exact ⟨(y272), (wrap64 (x35_2 + 1)), rD, H', ⟨by have := HJ5.out; have := HK2.out; have := HK3.out; omega⟩, ⟨by (with_reducible repeat (first | apply Kd.R_alloc | apply Kd.R_drewN | apply Kd.R_drew)); exact Kd.R_mono HO274.out (fun _ hk => trivial)⟩, ⟨bB HB⟩⟩
                                   · rw [if_neg c54] at H
                                     exact absurd H (by simp)
                               · rw [if_neg c52] at H
                                 exact absurd H (by simp)
                             · rw [if_neg c51] at H
                               exact absurd H (by simp)
                           · rw [if_neg c50] at H
                             exact absurd H (by simp)
                         · rw [if_neg c49] at H
                           exact absurd H (by simp)
                 · rw [if_neg c22] at H
                   exact absurd H (by simp)
               · rw [if_neg c21] at H
                 exact absurd H (by simp)
             · rw [if_neg c20] at H
               exact absurd H (by simp)
           · rw [if_neg c18] at H
             exact absurd H (by simp)
         · rw [if_neg c17] at H
           exact absurd H (by simp)
       · rw [if_neg c16] at H
         have c16b0 : decide (x35_2 < (l2.length : Int)) = false := decide_eq_false c16
         clear c16
         simp only [Option.some.injEq, Prod.mk.injEq] at H
         obtain ⟨rfl, rfl⟩ := H
         go_wp2
         go_ret2
         exact ⟨_, eW, by (with_reducible repeat (first | apply Kd.R_alloc | apply Kd.R_drewN | apply Kd.R_drew)); exact HO_9.out, bB HB⟩

-- NOT PRINTED: function 7 (laws_FnExactHalvingPlay)

end Go.Proofs.Ytfkfahdikmfpeaa.PFnExactHalvingPlay
