-- Printed by wip/tools/myprint.py (the printer of the kit, patched by that program; roots chosen by it)
import Derived.Test.YtihhedemdkifhaaWMore
import Derived.Test.YtihhedemdkifhaaWApart
import Derived.Test.YtihhedemdkifhaaPFnExactSwitchWrongx0
import Derived.Test.YtihhedemdkifhaaPFnExactSwitchWrongx1
import Derived.Test.YtihhedemdkifhaaPFnExactSwitchWrongx2
import Derived.Test.YtihhedemdkifhaaSh
namespace Go.Proofs.Ytihhedemdkifhaa.PFnExactSwitchWrong
open Go.RowKit Go.Proofs.Ytihhedemdkifhaa.Sh Go.Proofs.YtihhedemdkifhaaW.PrintWords Go.Proofs.YtihhedemdkifhaaW.PrintLast Go.Proofs.YtihhedemdkifhaaW.PrintMore
attribute [local go_sem] max2_int min2_int max_two min_two max_three min_three max_four min_four   -- for this text's walks alone
set_option linter.unusedVariables false
set_option linter.unusedSimpArgs false

/-! ### spec_l11Switch: function 55 -/
mutual
def spec_l11Switch.r0 : Nat → Int → List (List (List Int)) → Int → Int → Int → Int → List Int → Int → List (List Int) → List Int → Option (List Int)
 | 0, _, _, _, _, _, _, _, _, _, _ => none
 | k + 1, x1, x2, x3, x4, x5, x6, x10, x11, x102000, x102001 => if x11 ≤ x1 then (spec_l11Switch.rj1 k x1 x2 x3 x4 x5 x6 x10 x11 (decide (x3 < x5)) x102000 x102001) else (spec_l11Switch.rj1 k x1 x2 x3 x4 x5 x6 x10 x11 false x102000 x102001)
def spec_l11Switch.rj1 : Nat → Int → List (List (List Int)) → Int → Int → Int → Int → List Int → Int → Bool → List (List Int) → List Int → Option (List Int)
 | 0, _, _, _, _, _, _, _, _, _, _, _ => none
 | k + 1, x1, x2, x3, x4, x5, x6, x10, x11, x43, x102000, x102001 => if x43 = true then (if 0 ≤ (wrap64 (x3 + 1)) then (if (wrap64 (x3 + 1)) < (x2.length : Int) then (if 0 ≤ x4 then (if x4 < ((rd_L2 x2 (wrap64 (x3 + 1))).length : Int) then (if 0 ≤ x11 then (if x11 < ((rd_L1 (rd_L2 x2 (wrap64 (x3 + 1))) x4).length : Int) then (spec_l11Switch.r1 k x1 x2 x3 x4 x5 x6 x10 x11 (rd (rd_L1 (rd_L2 x2 (wrap64 (x3 + 1))) x4) x11) 0 x102000 x102001) else (none)) else (none)) else (none)) else (none)) else (none)) else (none)) else (some x10)
def spec_l11Switch.r1 : Nat → Int → List (List (List Int)) → Int → Int → Int → Int → List Int → Int → Int → Int → List (List Int) → List Int → Option (List Int)
 | 0, _, _, _, _, _, _, _, _, _, _, _, _ => none
 | k + 1, x1, x2, x3, x4, x5, x6, x10, x11, x12, x13, x102000, x102001 => if x13 < x6 then (if x11 > 0 then (if 0 ≤ (wrap64 (x3 + 1)) then (if (wrap64 (x3 + 1)) < (x2.length : Int) then (if 0 ≤ x13 then (if x13 < ((rd_L2 x2 (wrap64 (x3 + 1))).length : Int) then (if 0 ≤ (wrap64 (x11 - 1)) then (if (wrap64 (x11 - 1)) < ((rd_L1 (rd_L2 x2 (wrap64 (x3 + 1))) x13).length : Int) then ((spec_l1Least.f x12 (rd (rd_L1 (rd_L2 x2 (wrap64 (x3 + 1))) x13) (wrap64 (x11 - 1)))).bind fun t111 => (spec_l11Switch.r1 k x1 x2 x3 x4 x5 x6 x10 x11 t111 (wrap64 (x13 + 1)) x102000 x102001)) else (none)) else (none)) else (none)) else (none)) else (none)) else (none)) else (if 0 ≤ x4 then (if x4 < (x102000.length : Int) then (if 0 ≤ x3 then (if x3 < ((rd_L1 x102000 x4).length : Int) then (if x3 < (x102001.length : Int) then ((spec_l11Wrong.f (rd (rd_L1 x102000 x4) x3) (rd x102001 x3)).bind fun t115 => (if t115 = true then (if 0 ≤ x11 then (if x11 < (x10.length : Int) then (spec_l11Switch.r0 k x1 x2 x3 x4 x5 x6 (x10.set (x11 : Int).toNat (wrap64 (x12 + 1))) (wrap64 (x11 + 1)) x102000 x102001) else (none)) else (none)) else (if 0 ≤ x11 then (if x11 < (x10.length : Int) then (spec_l11Switch.r0 k x1 x2 x3 x4 x5 x6 (x10.set (x11 : Int).toNat x12) (wrap64 (x11 + 1)) x102000 x102001) else (none)) else (none)))) else (none)) else (none)) else (none)) else (none)) else (none))) else (if 0 ≤ x4 then (if x4 < (x102000.length : Int) then (if 0 ≤ x3 then (if x3 < ((rd_L1 x102000 x4).length : Int) then (if x3 < (x102001.length : Int) then ((spec_l11Wrong.f (rd (rd_L1 x102000 x4) x3) (rd x102001 x3)).bind fun t121 => (if t121 = true then (if 0 ≤ x11 then (if x11 < (x10.length : Int) then (spec_l11Switch.r0 k x1 x2 x3 x4 x5 x6 (x10.set (x11 : Int).toNat (wrap64 (x12 + 1))) (wrap64 (x11 + 1)) x102000 x102001) else (none)) else (none)) else (if 0 ≤ x11 then (if x11 < (x10.length : Int) then (spec_l11Switch.r0 k x1 x2 x3 x4 x5 x6 (x10.set (x11 : Int).toNat x12) (wrap64 (x11 + 1)) x102000 x102001) else (none)) else (none)))) else (none)) else (none)) else (none)) else (none)) else (none))
end
def spec_l11Switch.row (k : Nat) (l0_0 : List (List Int)) (l0_1 : List Int) (a1 : Int) (l2 : List (List (List Int))) (a3 : Int) (a4 : Int) : Option (List Int) := if 0 ≤ (wrap64 (a1 + 1)) then (if (wrap64 (a1 + 1) : Int).toNat ≤ 35184372088832 then (spec_l11Switch.r0 k a1 l2 a3 a4 (l0_1.length : Int) (l0_0.length : Int) (List.replicate (wrap64 (a1 + 1) : Int).toNat 0) 0 l0_0 l0_1) else (none)) else (none)
def spec_l11Switch.o1 : Nat → List (List Int) → List Int → Int → List (List (List Int)) → Int → Int → Option (List (List (List Int)))
 | 0, _, _, _, _, _, _ => none
 | k + 1, S, T, kk, out, d, i => if i < (S.length : Int) then ((spec_l11Switch.row k S T kk out d i).bind fun y => if 0 ≤ d then (if d < (out.length : Int) then (if (out.getD d.toNat []).length < 1000000 then spec_l11Switch.o1 k S T kk (out.set d.toNat (out.getD d.toNat [] ++ [y])) d (wrap64 (i + 1)) else none) else none) else none) else some out
def spec_l11Switch.o0 : Nat → List (List Int) → List Int → Int → List (List (List Int)) → Int → Option (List (List (List Int)))
 | 0, _, _, _, _, _ => none
 | k + 1, S, T, kk, out, d => if d ≥ 0 then ((spec_l11Switch.o1 k S T kk out d 0).bind fun y => spec_l11Switch.o0 k S T kk y (wrap64 (d - 1))) else some out
def spec_l11Switch.f (k : Nat) (l0_0 : List (List Int)) (l0_1 : List Int) (a1 : Int) : Option (List (List (List Int))) := if l0_1.length < 1000000 then spec_l11Switch.o0 k l0_0 l0_1 a1 (List.replicate (l0_1.length + 1) []) (l0_1.length : Int) else none
theorem spec_l11Switch.info28 : (Try.prog.info? 28).map (fun i => (i.zero, i.size, i.bytes)) = some (some (.slice none 0 0), 1, 24) := by kernel_rfl
theorem spec_l11Switch.info22 : (Try.prog.info? 22).map (fun i => (i.zero, i.size, i.bytes)) = some (some (.slice none 0 0), 1, 24) := by kernel_rfl
theorem spec_l11Switch.size28 : (Try.prog.info? 28).map (·.size) = some 1 := by kernel_rfl
set_option maxHeartbeats 8000000 in
set_option maxRecDepth 100000 in
theorem spec_l11Switch.calls (k : Nat) (A0_0 : Option Addr) (c0_0 : Nat) (l0_0 : List (List Int)) (A0_1 : Option Addr) (c0_1 : Nat) (l0_1 : List Int) (a1 : Int) (r : List (List (List Int))) (w : World) (hr0_0 : Kd.C (Kd.slice 3 (Kd.int .i64)) w A0_0 l0_0.length l0_0) (hc0_0 : l0_0.length ≤ c0_0) (hr0_1 : Kd.C (Kd.int .i64) w A0_1 l0_1.length l0_1) (hc0_1 : l0_1.length ≤ c0_1) (h : spec_l11Switch.f k l0_0 l0_1 a1 = some r) :
 Calls Try.prog 55 #[.agg #[.slice A0_0 l0_0.length c0_0, .slice A0_1 l0_1.length c0_1], .int .i64 a1] w fun e w' => ∃ v0_ : Value, e = .returned (v0_) ∧ Kd.R (Kd.slice 22 (Kd.slice 3 (Kd.int .i64))) 28 w' w.heap.size (fun _ => True) v0_ r ∧ Below w.heap.size w w' := by
 have hu33 := Try.underlying33
 have HR0_0 := Aside0.mk hr0_0
 have HC0_0 := Aside0.mk hc0_0
 have HR0_1 := Aside0.mk hr0_1
 have HC0_1 := Aside0.mk hc0_1
 clear hr0_0 hc0_0 hr0_1 hc0_1
 have HB := Aside0.mk (Below.refl w.heap.size w)
 unfold spec_l11Switch.f at h
 by_cases cT : l0_1.length < 1000000
 · rw [if_pos cT] at h
   have H' := Aside0.mk h
   clear h
   obtain ⟨jn, hjn⟩ : ∃ j : Int, wrap64 ((l0_1.length : Int) + 1) = j := ⟨_, rfl⟩
   have hjnw : (IntKind.i64.wrap ((l0_1.length : Int) + 1)) = jn := (i64_w _).trans hjn
   have JN := Aside0.mk (show jn = ((l0_1.length + 1 : Nat) : Int) by rw [← hjn]; unfold wrap64; omega)
   clear hjn
   have HL := Aside0.mk cT
   clear cT
   go_enter Try.func55, Try.ntmps55
   go_wp2_with (first | ((with_reducible refine gate_dst (N := 2) rfl ?_); refine box_event ?hg (N := 2) ?hd (cs := #[.slice A0_0 l0_0.length c0_0, .slice A0_1 l0_1.length c0_1]) (t := 33) ?hr ?_; (case hd => rfl); (case hg => rfl); (case hr => first | (go_simp; done) | (go_simp; rfl)); intro gb101 hg w9 hbox hb; have n0_ := Aside0.mk (below_step (bB HB) hb); have n1_ := Aside0.mk (hbox); have n2_ := Aside0.mk ((by rw [hg]; exact (below_size (bB HB)) : w.heap.size ≤ gb101)); have n3_ := Aside0.mk ((by rw [hg]; exact (below_size (bB HB)) : w.heap.size ≤ gb101)); clear HB; have HB := n0_; have BK101 := n1_; have GW101 := n2_; have GE101 := n3_; clear n0_ n1_ n2_ n3_; clear hb hbox hg; have hcz10_0 : w9.cell? ⟨gb101, 0, none⟩ = some (.slice A0_0 l0_0.length c0_0) := (blk_cell BK101.out 0).trans rfl; have hcz10_1 : w9.cell? ⟨gb101, 1, none⟩ = some (.slice A0_1 l0_1.length c0_1) := (blk_cell BK101.out 1).trans rfl; have hfz10_0 := blk_frozen BK101.out 0; have hfz10_1 := blk_frozen BK101.out 1) | ((with_reducible refine gate_dst (N := 22) rfl ?_); refine Kd.S_make (Kd.slice 22 (Kd.slice 3 (Kd.int .i64))) _ 28 rfl (N := 22) rfl 71 _ _ rfl jn rfl rfl Try.underlying71 (.slice none 0 0) 24 spec_l11Switch.info28 rfl (by decide) (by omega) ([] : List (List Int)) (ok := fun _ => True) (okp := fun _ => True) ⟨_, rfl, Kd.R_nil _ _ _ _ _⟩ (fun _ hk => hk) trivial (by rw [JN.out]; omega) (by rw [JN.out]; have := HL.out; omega) (Below.refl _ _) (Nat.le_refl _) ?_; intro vT wT hoT hb hg_ hnew_; clear hg_ hnew_; have n0_ := Aside0.mk (Kd.S_lower hoT (below_size (bC HB GE101))); have n1_ := Aside0.mk (bW BK101 hb); have n2_ := Aside0.mk (below_step (bC HB GE101) hb); clear BK101; clear HB; have HS := n0_; have BK101 := n1_; have HB := n2_; clear n0_ n1_ n2_; clear hb hoT))
   repeat (go_quiet (first | ((with_reducible refine gate_dst (N := 2) rfl ?_); refine box_event ?hg (N := 2) ?hd (cs := #[.slice A0_0 l0_0.length c0_0, .slice A0_1 l0_1.length c0_1]) (t := 33) ?hr ?_; (case hd => rfl); (case hg => rfl); (case hr => first | (go_simp; done) | (go_simp; rfl)); intro gb101 hg w9 hbox hb; have n0_ := Aside0.mk (below_step (bB HB) hb); have n1_ := Aside0.mk (hbox); have n2_ := Aside0.mk ((by rw [hg]; exact (below_size (bB HB)) : w.heap.size ≤ gb101)); have n3_ := Aside0.mk ((by rw [hg]; exact (below_size (bB HB)) : w.heap.size ≤ gb101)); clear HB; have HB := n0_; have BK101 := n1_; have GW101 := n2_; have GE101 := n3_; clear n0_ n1_ n2_ n3_; clear hb hbox hg; have hcz10_0 : w9.cell? ⟨gb101, 0, none⟩ = some (.slice A0_0 l0_0.length c0_0) := (blk_cell BK101.out 0).trans rfl; have hcz10_1 : w9.cell? ⟨gb101, 1, none⟩ = some (.slice A0_1 l0_1.length c0_1) := (blk_cell BK101.out 1).trans rfl; have hfz10_0 := blk_frozen BK101.out 0; have hfz10_1 := blk_frozen BK101.out 1) | ((with_reducible refine gate_dst (N := 22) rfl ?_); refine Kd.S_make (Kd.slice 22 (Kd.slice 3 (Kd.int .i64))) _ 28 rfl (N := 22) rfl 71 _ _ rfl jn rfl rfl Try.underlying71 (.slice none 0 0) 24 spec_l11Switch.info28 rfl (by decide) (by omega) ([] : List (List Int)) (ok := fun _ => True) (okp := fun _ => True) ⟨_, rfl, Kd.R_nil _ _ _ _ _⟩ (fun _ hk => hk) trivial (by rw [JN.out]; omega) (by rw [JN.out]; have := HL.out; omega) (Below.refl _ _) (Nat.le_refl _) ?_; intro vT wT hoT hb hg_ hnew_; clear hg_ hnew_; have n0_ := Aside0.mk (Kd.S_lower hoT (below_size (bC HB GE101))); have n1_ := Aside0.mk (bW BK101 hb); have n2_ := Aside0.mk (below_step (bC HB GE101) hb); clear BK101; clear HB; have HS := n0_; have BK101 := n1_; have HB := n2_; clear n0_ n1_ n2_; clear hb hoT)); try go_wp2_with (first | ((with_reducible refine gate_dst (N := 2) rfl ?_); refine box_event ?hg (N := 2) ?hd (cs := #[.slice A0_0 l0_0.length c0_0, .slice A0_1 l0_1.length c0_1]) (t := 33) ?hr ?_; (case hd => rfl); (case hg => rfl); (case hr => first | (go_simp; done) | (go_simp; rfl)); intro gb101 hg w9 hbox hb; have n0_ := Aside0.mk (below_step (bB HB) hb); have n1_ := Aside0.mk (hbox); have n2_ := Aside0.mk ((by rw [hg]; exact (below_size (bB HB)) : w.heap.size ≤ gb101)); have n3_ := Aside0.mk ((by rw [hg]; exact (below_size (bB HB)) : w.heap.size ≤ gb101)); clear HB; have HB := n0_; have BK101 := n1_; have GW101 := n2_; have GE101 := n3_; clear n0_ n1_ n2_ n3_; clear hb hbox hg; have hcz10_0 : w9.cell? ⟨gb101, 0, none⟩ = some (.slice A0_0 l0_0.length c0_0) := (blk_cell BK101.out 0).trans rfl; have hcz10_1 : w9.cell? ⟨gb101, 1, none⟩ = some (.slice A0_1 l0_1.length c0_1) := (blk_cell BK101.out 1).trans rfl; have hfz10_0 := blk_frozen BK101.out 0; have hfz10_1 := blk_frozen BK101.out 1) | ((with_reducible refine gate_dst (N := 22) rfl ?_); refine Kd.S_make (Kd.slice 22 (Kd.slice 3 (Kd.int .i64))) _ 28 rfl (N := 22) rfl 71 _ _ rfl jn rfl rfl Try.underlying71 (.slice none 0 0) 24 spec_l11Switch.info28 rfl (by decide) (by omega) ([] : List (List Int)) (ok := fun _ => True) (okp := fun _ => True) ⟨_, rfl, Kd.R_nil _ _ _ _ _⟩ (fun _ hk => hk) trivial (by rw [JN.out]; omega) (by rw [JN.out]; have := HL.out; omega) (Below.refl _ _) (Nat.le_refl _) ?_; intro vT wT hoT hb hg_ hnew_; clear hg_ hnew_; have n0_ := Aside0.mk (Kd.S_lower hoT (below_size (bC HB GE101))); have n1_ := Aside0.mk (bW BK101 hb); have n2_ := Aside0.mk (below_step (bC HB GE101) hb); clear BK101; clear HB; have HS := n0_; have BK101 := n1_; have HB := n2_; clear n0_ n1_ n2_; clear hb hoT)))
   obtain ⟨gT, capT, eT_, _, _, _⟩ := Kd.S_form HS.out (by rw [List.length_replicate, JN.out, Int.toNat_natCast]; omega)
   obtain ⟨adT, hadT⟩ : ∃ z : Addr, z = ⟨gT, 0, none⟩ := ⟨_, rfl⟩
   rw [← hadT] at eT_
   have HAD := Aside0.mk hadT
   obtain ⟨nT, hnT⟩ : ∃ z : Nat, z = (List.replicate jn.toNat ([] : List (List Int))).length := ⟨_, rfl⟩
   rw [← hnT] at eT_
   subst eT_
   have e_ : jn.toNat = l0_1.length + 1 := by rw [JN.out, Int.toNat_natCast]
   have H2_ := Aside0.mk (by rw [e_]; exact H'.out : spec_l11Switch.o0 k l0_0 l0_1 a1 (List.replicate jn.toNat []) (l0_1.length : Int) = some r)
   clear e_
   clear H' hadT hnT
   go_loopg [8] k (fun kq v8 w' => ∃ (xT : List (List (List Int))) (dv : Int), v8 = .int .i64 dv ∧ Aside0 (spec_l11Switch.o0 kq l0_0 l0_1 a1 xT dv = some r) ∧ Aside0 (kq ≤ k) ∧ Aside0 (Kd.S (Kd.slice 22 (Kd.slice 3 (Kd.int .i64))) 28 w' w.heap.size (fun _ => True) (.slice (some adT) nT capT) xT) ∧ Aside0 (w'.heap[gb101]? = some (.cells #[.slice A0_0 l0_0.length c0_0, .slice A0_1 l0_1.length c0_1] 33 (0, 0))) ∧ Aside0 (Below w.heap.size w w'))
   case atStart => exact ⟨_, _, rD, H2_, ⟨Nat.le_refl _⟩, HS, BK101, ⟨bC HB GE101⟩⟩
   case round =>
    clear H2_ HS BK101 HB
    obtain ⟨xT, dv, rfl, HA, HKo, HS, BK101, HBo⟩ := hrel
    cases gk with
    | zero => exact absurd HA.out (by simp [spec_l11Switch.o0])
    | succ ko =>
     have H := HA.out
     clear HA
     simp only [spec_l11Switch.o0] at H
     by_cases co : dv ≥ 0
     · rw [if_pos co] at H
       obtain ⟨yT, hyT, H⟩ := Option.bind_eq_some_iff.mp H
       have HN0 := Aside0.mk H
       have H2_ := Aside0.mk hyT
       clear H hyT
       have D0 := Aside0.mk (show (0 : Int) ≤ dv from co)
       have cob : decide (dv ≥ 0) = true := decide_eq_true co
       clear co
       go_wp2
       go_loopg [9] ko (fun kq v9 w' => ∃ (x7o : List (List (List Int))) (iv : Int), v9 = .int .i64 iv ∧ Aside0 (spec_l11Switch.o1 kq l0_0 l0_1 a1 x7o dv iv = some yT) ∧ Aside0 (kq ≤ ko) ∧ Aside0 (Kd.S (Kd.slice 22 (Kd.slice 3 (Kd.int .i64))) 28 w' w.heap.size (fun _ => True) (.slice (some adT) nT capT) x7o) ∧ Aside0 (w'.heap[gb101]? = some (.cells #[.slice A0_0 l0_0.length c0_0, .slice A0_1 l0_1.length c0_1] 33 (0, 0))) ∧ Aside0 (Below w.heap.size w w'))
       case atStart => exact ⟨xT, 0, rD, H2_, ⟨Nat.le_refl _⟩, HS, BK101, HBo⟩
       case round =>
        clear H2_ HS BK101 HBo
        obtain ⟨x7o, iv, rfl, HA, HKi, HS, BK101, HBo⟩ := hrel
        cases gk with
        | zero => exact absurd HA.out (by simp [spec_l11Switch.o1])
        | succ ki =>
         have H := HA.out
         clear HA
         simp only [spec_l11Switch.o1] at H
         by_cases ci : iv < (l0_0.length : Int)
         · rw [if_pos ci] at H
           obtain ⟨yq, hyq, H⟩ := Option.bind_eq_some_iff.mp H
           by_cases cd1 : 0 ≤ dv
           · rw [if_pos cd1] at H
             by_cases cd2 : dv < (x7o.length : Int)
             · rw [if_pos cd2] at H
               by_cases cd3 : (x7o.getD dv.toNat []).length < 1000000
               · rw [if_pos cd3] at H
                 have HN := Aside0.mk H
                 have CL := Aside0.mk cd3
                 clear cd1 cd3 H
                 obtain ⟨en_, hcap_, hread_⟩ := Kd.S_reads' HS.out
                 have EN := Aside0.mk en_
                 have D1 := Aside0.mk (show dv < (nT : Int) by rw [en_]; exact cd2)
                 obtain ⟨wq, rfl⟩ : ∃ z, z = wr := ⟨wr, rfl⟩
                 replace HR0_0 := Aside0.mk (Kd.C_below HR0_0.out HBo.out)
                 replace HR0_1 := Aside0.mk (Kd.C_below HR0_1.out HBo.out)
                 have HRq := Aside0.mk hread_
                 have HCq := Aside0.mk (show x7o.length ≤ capT by omega)
                 have HB := Aside0.mk (Below.refl wq.heap.size wq)
                 have cib : decide (iv < (l0_0.length : Int)) = true := decide_eq_true ci
                 clear ci cd2 hread_ hcap_
                 have H : spec_l11Switch.row ki l0_0 l0_1 a1 x7o dv iv = some yq := hyq
                 unfold spec_l11Switch.row at H
                 clear hyq
                 obtain ⟨ji6, hji6⟩ : ∃ j_ : Int, (wrap64 (a1 + 1)) = j_ := ⟨_, rfl⟩
                 replace H : (if 0 ≤ (ji6) then (if (ji6 : Int).toNat ≤ 35184372088832 then (spec_l11Switch.r0 ki a1 x7o dv iv (l0_1.length : Int) (l0_0.length : Int) (List.replicate (ji6 : Int).toNat 0) 0 l0_0 l0_1) else (none)) else (none)) = some yq := by first | (rw [hji6] at H; exact H) | (simp only [hji6] at H ⊢; exact H)
                 have hji6w : (IntKind.i64.wrap (a1 + 1)) = ji6 := (i64_w _).trans hji6
                 by_cases c7 : 0 ≤ (ji6)
                 · rw [if_pos c7] at H
                   have c7b0 := eq_true c7
                   have c7b1 : decide (0 ≤ (ji6)) = true := decide_eq_true c7
                   clear c7
                   by_cases c8 : (ji6 : Int).toNat ≤ 35184372088832
                   · rw [if_pos c8] at H
                     have c8b0 := eq_true c8
                     have c8b1 : decide ((ji6 : Int).toNat ≤ 35184372088832) = true := decide_eq_true c8
                     clear c8
                     obtain ⟨y102, hy102⟩ : ∃ y_ : List Int, y_ = (List.replicate (ji6 : Int).toNat 0) := ⟨_, rfl⟩
                     replace H : (spec_l11Switch.r0 ki a1 x7o dv iv (l0_1.length : Int) (l0_0.length : Int) y102 0 l0_0 l0_1) = some yq := by first | (rw [hy102]; with_reducible exact H) | (have H2_ := (Option.bind_some _ _).symm.trans H; rw [hy102]; with_reducible exact H2_) | (have H2_ := (Option.bind_some _ _).symm.trans H; with_reducible exact H2_) | with_reducible exact H | (rw [hy102]; exact H) | exact H
                     have Ny102 := Aside0.mk hy102
                     clear hy102
                     have H' := Aside0.mk H
                     clear H
                     go_wp2_with (first | ((with_reducible refine gate_dst (N := 35) rfl ?_); refine Kd.R_make (Kd.int .i64) _ 3 rfl (N := 35) rfl 22 _ _ rfl ji6 rfl rfl Try.underlying22 (.int .i64 0) 8 info3 rfl (by decide) (by omega) 0 (ok := fun _ => True) (okp := fun _ => True) rfl (fun _ hk => hk) trivial (of_decide_eq_true aS) (Nat.le_trans (Nat.mul_le_mul_right _ (of_decide_eq_true aS : ji6.toNat ≤ 35184372088832)) (by omega)) (Below.refl _ _) (Nat.le_refl _) ?_; intro v103 w11 ho12 hb hg_ hnew_; clear hg_ hnew_; (first | rw [← Ny102.out] at ho12 | (simp only [Int.reduceToNat] at ho12; rw [← Ny102.out] at ho12)); have n0_ := Aside0.mk (Kd.R_lower ho12 (below_size (bB HB))); have n1_ := Aside0.mk (bW BK101 hb); have n2_ := Aside0.mk (below_step (bB HB) hb); clear BK101; clear HB; have HO104 := n0_; have BK101 := n1_; have HB := n2_; clear n0_ n1_ n2_; clear hb ho12))
                     go_loopg [11] ki (fun kq v11 w' => ∃ (x10_1 : List Int) (x11_1 : Int), v11 = .int .i64 x11_1 ∧ Aside0 (spec_l11Switch.r0 kq a1 x7o dv iv (l0_1.length : Int) (l0_0.length : Int) x10_1 x11_1 l0_0 l0_1 = some yq) ∧ Aside0 (kq ≤ ki) ∧ Aside0 (Kd.R (Kd.int .i64) 3 w' wq.heap.size (fun _ => True) v103 x10_1) ∧ Aside0 (w'.heap[gb101]? = some (.cells #[(.slice A0_0 l0_0.length c0_0), (.slice A0_1 l0_1.length c0_1)] 33 (0, 0))) ∧ Aside0 (Below wq.heap.size wq w'))
                     case atStart => exact ⟨(y102), (0), rD, H', ⟨Nat.le_refl _⟩, ⟨pR HO104⟩, ⟨pB BK101⟩, ⟨bB HB⟩⟩
                     case round =>
                      clear H'
                      try clear c7
                      try clear c7b0
                      try clear c7b1
                      try clear c8
                      try clear c8b0
                      try clear c8b1
                      try clear hcz10_0
                      try clear hcz10_1
                      try clear hfz10_0
                      try clear hfz10_1
                      obtain ⟨x10_1, x11_1, rfl, HA, HK1, HO_10, BK101, HB⟩ := hrel
                      cases gk with
                      | zero => exact absurd HA.out (by simp [spec_l11Switch.r0])
                      | succ k1 =>
                       have H := HA.out
                       clear HA
                       simp only [spec_l11Switch.r0] at H
                       have HC13 := Aside0.mk H
                       clear H
                       go_upto_region 11 with (fail)
                       repeat (go_quiet (fail); go_upto_region 11 with (fail))
                       go_cut [43] (fun v43 wc => ∃ (kq : Nat) (x43_12 : Bool), v43 = .bool x43_12 ∧ Aside0 (spec_l11Switch.rj1 kq a1 x7o dv iv (l0_1.length : Int) (l0_0.length : Int) x10_1 x11_1 x43_12 l0_0 l0_1 = some yq) ∧ Aside0 (kq ≤ k1) ∧ Aside0 (Kd.R (Kd.int .i64) 3 wc wq.heap.size (fun _ => True) v103 x10_1) ∧ Aside0 (wc.heap[gb101]? = some (.cells #[(.slice A0_0 l0_0.length c0_0), (.slice A0_1 l0_1.length c0_1)] 33 (0, 0))) ∧ Aside0 (Below wq.heap.size wq wc))
                       case first =>
                        have H := HC13.out
                        clear HC13
                        by_cases c14 : x11_1 ≤ a1
                        · rw [if_pos c14] at H
                          have c14b0 : decide (x11_1 ≤ a1) = true := decide_eq_true c14
                          clear c14
                          (first | rw [c14b0] | (simp only [i64_w, i32_w]; rw [c14b0]) | skip)
                          have H' := Aside0.mk H
                          clear H
                          go_wp2
                          repeat (go_quiet (fail); try go_wp2)
                          go_meet
                          case rel => exact ⟨_, (decide (dv < (l0_1.length : Int))), rD, H', ⟨by have := HK1.out; first | omega | exact Nat.le_refl _⟩, ⟨pR HO_10⟩, ⟨pB BK101⟩, ⟨bB HB⟩⟩
                        · rw [if_neg c14] at H
                          have c14b0 : decide (x11_1 ≤ a1) = false := decide_eq_false c14
                          clear c14
                          (first | rw [c14b0] | (simp only [i64_w, i32_w]; rw [c14b0]) | skip)
                          have H' := Aside0.mk H
                          clear H
                          go_wp2
                          repeat (go_quiet (fail); try go_wp2)
                          go_meet
                          case rel => exact ⟨_, (false), rD, H', ⟨by have := HK1.out; first | omega | exact Nat.le_refl _⟩, ⟨pR HO_10⟩, ⟨pB BK101⟩, ⟨bB HB⟩⟩
                       case rest =>
                        clear HC13
                        try clear c7
                        try clear c7b0
                        try clear c7b1
                        try clear c8
                        try clear c8b0
                        try clear c8b1
                        try clear hcz10_0
                        try clear hcz10_1
                        try clear hfz10_0
                        try clear hfz10_1
                        obtain ⟨kq, x43_12, rfl, HA, HJ12, HO_10, BK101, HB⟩ := hcut
                        cases kq with
                        | zero => exact absurd HA.out (by simp [spec_l11Switch.rj1])
                        | succ kj12 =>
                         have H := HA.out
                         clear HA
                         simp only [spec_l11Switch.rj1] at H
                         by_cases c15 : x43_12 = true
                         · subst c15
                           have H1 : (if 0 ≤ (wrap64 (dv + 1)) then (if (wrap64 (dv + 1)) < (x7o.length : Int) then (if 0 ≤ iv then (if iv < ((rd_L2 x7o (wrap64 (dv + 1))).length : Int) then (if 0 ≤ x11_1 then (if x11_1 < ((rd_L1 (rd_L2 x7o (wrap64 (dv + 1))) iv).length : Int) then (spec_l11Switch.r1 kj12 a1 x7o dv iv (l0_1.length : Int) (l0_0.length : Int) x10_1 x11_1 (rd (rd_L1 (rd_L2 x7o (wrap64 (dv + 1))) iv) x11_1) 0 l0_0 l0_1) else (none)) else (none)) else (none)) else (none)) else (none)) else (none)) = some yq := by rw [if_pos rfl] at H; exact H
                           clear H
                           have H := H1
                           clear H1
                           obtain ⟨ji16, hji16⟩ : ∃ j_ : Int, (wrap64 (dv + 1)) = j_ := ⟨_, rfl⟩
                           replace H : (if 0 ≤ (ji16) then (if (ji16) < (x7o.length : Int) then (if 0 ≤ iv then (if iv < ((rd_L2 x7o (ji16)).length : Int) then (if 0 ≤ x11_1 then (if x11_1 < ((rd_L1 (rd_L2 x7o (ji16)) iv).length : Int) then (spec_l11Switch.r1 kj12 a1 x7o dv iv (l0_1.length : Int) (l0_0.length : Int) x10_1 x11_1 (rd (rd_L1 (rd_L2 x7o (ji16)) iv) x11_1) 0 l0_0 l0_1) else (none)) else (none)) else (none)) else (none)) else (none)) else (none)) = some yq := by first | (rw [hji16] at H; exact H) | (simp only [hji16] at H ⊢; exact H)
                           have hji16w : (IntKind.i64.wrap (dv + 1)) = ji16 := (i64_w _).trans hji16
                           by_cases c17 : 0 ≤ (ji16)
                           · rw [if_pos c17] at H
                             have c17b0 : decide (0 ≤ (ji16)) = true := decide_eq_true c17
                             clear c17
                             by_cases c18 : (ji16) < (x7o.length : Int)
                             · rw [if_pos c18] at H
                               have c18b0 : decide ((ji16) < (x7o.length : Int)) = true := decide_eq_true c18
                               clear c18
                               by_cases c19 : 0 ≤ iv
                               · rw [if_pos c19] at H
                                 have c19b0 : decide (0 ≤ iv) = true := decide_eq_true c19
                                 clear c19
                                 by_cases c20 : iv < ((rd_L2 x7o (ji16)).length : Int)
                                 · rw [if_pos c20] at H
                                   have c20b0 : decide (iv < ((rd_L2 x7o (ji16)).length : Int)) = true := decide_eq_true c20
                                   clear c20
                                   by_cases c21 : 0 ≤ x11_1
                                   · rw [if_pos c21] at H
                                     have c21b0 : decide (0 ≤ x11_1) = true := decide_eq_true c21
                                     clear c21
                                     by_cases c22 : x11_1 < ((rd_L1 (rd_L2 x7o (ji16)) iv).length : Int)
                                     · rw [if_pos c22] at H
                                       have c22b0 : decide (x11_1 < ((rd_L1 (rd_L2 x7o (ji16)) iv).length : Int)) = true := decide_eq_true c22
                                       clear c22
                                       have H' := Aside0.mk H
                                       clear H
                                       have p105 : 0 ≤ ((ji16) : Int) := of_decide_eq_true aS
                                       have q105 : (ji16) < (x7o.length : Int) := of_decide_eq_true aS
                                       obtain ⟨ad105, A105_0, c105_0, e105, hx105_0, hl105_0, hi105_0⟩ := at_L2 HRq.out (ji16) p105 q105
                                       cases e105
                                       replace hx105_0 := (HB.out.cell (World.block_lt_of_cell? wq _ hx105_0)).trans hx105_0
                                       have HR105_0 := Aside0.mk hi105_0
                                       have HC105_0 := Aside0.mk hl105_0
                                       clear hi105_0 hl105_0
                                       replace p105 := eq_true p105
                                       replace q105 := eq_true q105
                                       have p106 : 0 ≤ (iv : Int) := of_decide_eq_true aS
                                       have q106 : iv < ((rd_L2 x7o (ji16)).length : Int) := of_decide_eq_true aS
                                       obtain ⟨ad106, A106_0, c106_0, e106, hx106_0, hl106_0, hi106_0⟩ := at_L1 HR105_0.out iv p106 q106
                                       cases e106
                                       replace hx106_0 := (HB.out.cell (World.block_lt_of_cell? wq _ hx106_0)).trans hx106_0
                                       have HR106_0 := Aside0.mk hi106_0
                                       have HC106_0 := Aside0.mk hl106_0
                                       clear hi106_0 hl106_0
                                       replace p106 := eq_true p106
                                       replace q106 := eq_true q106
                                       have p107 : 0 ≤ (x11_1 : Int) := of_decide_eq_true aS
                                       have q107 : x11_1 < ((rd_L1 (rd_L2 x7o (ji16)) iv).length : Int) := of_decide_eq_true aS
                                       obtain ⟨ad107, e107, hx107_0⟩ := Kd.at_int HR106_0.out x11_1 p107 q107
                                       cases e107
                                       replace hx107_0 := (HB.out.cell (World.block_lt_of_cell? wq _ hx107_0)).trans hx107_0
                                       replace p107 := eq_true p107
                                       replace q107 := eq_true q107
                                       go_wp2
                                       repeat (go_quiet (fail); try go_wp2)
                                       go_loopg [12, 13] kj12 (fun kq v12 v13 w' => ∃ (x12_3 : Int) (x13_3 : Int), v12 = .int .i64 x12_3 ∧ v13 = .int .i64 x13_3 ∧ Aside0 (spec_l11Switch.r1 kq a1 x7o dv iv (l0_1.length : Int) (l0_0.length : Int) x10_1 x11_1 x12_3 x13_3 l0_0 l0_1 = some yq) ∧ Aside0 (kq ≤ kj12) ∧ Aside0 (Kd.R (Kd.int .i64) 3 w' wq.heap.size (fun _ => True) v103 x10_1) ∧ Aside0 (w'.heap[gb101]? = some (.cells #[(.slice A0_0 l0_0.length c0_0), (.slice A0_1 l0_1.length c0_1)] 33 (0, 0))) ∧ Aside0 (Below wq.heap.size wq w'))
                                       case atStart => exact ⟨(rd (rd_L1 (rd_L2 x7o (ji16)) iv) x11_1), (0), (by first | rfl | (simp; done) | (simp only [← hji16] <;> (first | rfl | simp)) | (simp [*]; done)), rD, H', ⟨Nat.le_refl _⟩, ⟨pR HO_10⟩, ⟨pB BK101⟩, ⟨bB HB⟩⟩
                                       case round =>
                                        clear H'
                                        try clear c7
                                        try clear c7b0
                                        try clear c7b1
                                        try clear c8
                                        try clear c8b0
                                        try clear c8b1
                                        try clear c15
                                        try clear c17
                                        try clear c17b0
                                        try clear c18
                                        try clear c18b0
                                        try clear c19
                                        try clear c19b0
                                        try clear c20
                                        try clear c20b0
                                        try clear c21
                                        try clear c21b0
                                        try clear c22
                                        try clear c22b0
                                        try clear hcz10_0
                                        try clear hcz10_1
                                        try clear hfz10_0
                                        try clear hfz10_1
                                        try clear hx105_0
                                        try clear hx106_0
                                        try clear hx107_0
                                        try clear p105
                                        try clear p106
                                        try clear p107
                                        try clear q105
                                        try clear q106
                                        try clear q107
                                        obtain ⟨x12_3, x13_3, rfl, rfl, HA, HK3, HO_10, BK101, HB⟩ := hrel
                                        cases gk with
                                        | zero => exact absurd HA.out (by simp [spec_l11Switch.r1])
                                        | succ k3 =>
                                         have H := HA.out
                                         clear HA
                                         simp only [spec_l11Switch.r1] at H
                                         by_cases c23 : x13_3 < (l0_0.length : Int)
                                         · rw [if_pos c23] at H
                                           have c23b0 : decide (x13_3 < (l0_0.length : Int)) = true := decide_eq_true c23
                                           clear c23
                                           by_cases c24 : x11_1 > 0
                                           · rw [if_pos c24] at H
                                             have c24b0 : decide (0 < x11_1) = true := decide_eq_true c24
                                             clear c24
                                             obtain ⟨ji25, hji25⟩ : ∃ j_ : Int, (wrap64 (dv + 1)) = j_ := ⟨_, rfl⟩
                                             try (obtain rfl : ji25 = ji16 := hji25.symm.trans hji16)
                                             replace H : (if 0 ≤ (ji25) then (if (ji25) < (x7o.length : Int) then (if 0 ≤ x13_3 then (if x13_3 < ((rd_L2 x7o (ji25)).length : Int) then (if 0 ≤ (wrap64 (x11_1 - 1)) then (if (wrap64 (x11_1 - 1)) < ((rd_L1 (rd_L2 x7o (ji25)) x13_3).length : Int) then ((spec_l1Least.f x12_3 (rd (rd_L1 (rd_L2 x7o (ji25)) x13_3) (wrap64 (x11_1 - 1)))).bind fun t111 => (spec_l11Switch.r1 k3 a1 x7o dv iv (l0_1.length : Int) (l0_0.length : Int) x10_1 x11_1 t111 (wrap64 (x13_3 + 1)) l0_0 l0_1)) else (none)) else (none)) else (none)) else (none)) else (none)) else (none)) = some yq := by first | (rw [hji25] at H; exact H) | (simp only [hji25] at H ⊢; exact H)
                                             have hji25w : (IntKind.i64.wrap (dv + 1)) = ji25 := (i64_w _).trans hji25
                                             by_cases c26 : 0 ≤ (ji25)
                                             · rw [if_pos c26] at H
                                               have c26b0 : decide (0 ≤ (ji25)) = true := decide_eq_true c26
                                               clear c26
                                               by_cases c27 : (ji25) < (x7o.length : Int)
                                               · rw [if_pos c27] at H
                                                 have c27b0 : decide ((ji25) < (x7o.length : Int)) = true := decide_eq_true c27
                                                 clear c27
                                                 by_cases c28 : 0 ≤ x13_3
                                                 · rw [if_pos c28] at H
                                                   have c28b0 : decide (0 ≤ x13_3) = true := decide_eq_true c28
                                                   clear c28
                                                   by_cases c29 : x13_3 < ((rd_L2 x7o (ji25)).length : Int)
                                                   · rw [if_pos c29] at H
                                                     have c29b0 : decide (x13_3 < ((rd_L2 x7o (ji25)).length : Int)) = true := decide_eq_true c29
                                                     clear c29
                                                     obtain ⟨ji30, hji30⟩ : ∃ j_ : Int, (wrap64 (x11_1 - 1)) = j_ := ⟨_, rfl⟩
                                                     replace H : (if 0 ≤ (ji30) then (if (ji30) < ((rd_L1 (rd_L2 x7o (ji25)) x13_3).length : Int) then ((spec_l1Least.f x12_3 (rd (rd_L1 (rd_L2 x7o (ji25)) x13_3) (ji30))).bind fun t111 => (spec_l11Switch.r1 k3 a1 x7o dv iv (l0_1.length : Int) (l0_0.length : Int) x10_1 x11_1 t111 (wrap64 (x13_3 + 1)) l0_0 l0_1)) else (none)) else (none)) = some yq := by first | (rw [hji30] at H; exact H) | (simp only [hji30] at H ⊢; exact H)
                                                     have hji30w : (IntKind.i64.wrap (x11_1 - 1)) = ji30 := (i64_w _).trans hji30
                                                     by_cases c31 : 0 ≤ (ji30)
                                                     · rw [if_pos c31] at H
                                                       have c31b0 : decide (0 ≤ (ji30)) = true := decide_eq_true c31
                                                       clear c31
                                                       by_cases c32 : (ji30) < ((rd_L1 (rd_L2 x7o (ji25)) x13_3).length : Int)
                                                       · rw [if_pos c32] at H
                                                         have c32b0 : decide ((ji30) < ((rd_L1 (rd_L2 x7o (ji25)) x13_3).length : Int)) = true := decide_eq_true c32
                                                         clear c32
                                                         replace H := Option.bind_eq_some_iff.mp H
                                                         obtain ⟨t111, A330, H⟩ := H
                                                         replace H : (spec_l11Switch.r1 k3 a1 x7o dv iv (l0_1.length : Int) (l0_0.length : Int) x10_1 x11_1 t111 (wrap64 (x13_3 + 1)) l0_0 l0_1) = some yq := H
                                                         have A33 := Aside0.mk A330
                                                         clear A330
                                                         have H' := Aside0.mk H
                                                         clear H
                                                         have p108 : 0 ≤ ((ji25) : Int) := of_decide_eq_true aS
                                                         have q108 : (ji25) < (x7o.length : Int) := of_decide_eq_true aS
                                                         obtain ⟨ad108, A108_0, c108_0, e108, hx108_0, hl108_0, hi108_0⟩ := at_L2 HRq.out (ji25) p108 q108
                                                         obtain rfl : adT = ad108 := (by injection e108)
                                                         replace hx108_0 := (HB.out.cell (World.block_lt_of_cell? wq _ hx108_0)).trans hx108_0
                                                         have HR108_0 := Aside0.mk hi108_0
                                                         have HC108_0 := Aside0.mk hl108_0
                                                         clear hi108_0 hl108_0
                                                         replace p108 := eq_true p108
                                                         replace q108 := eq_true q108
                                                         have p109 : 0 ≤ (x13_3 : Int) := of_decide_eq_true aS
                                                         have q109 : x13_3 < ((rd_L2 x7o (ji25)).length : Int) := of_decide_eq_true aS
                                                         obtain ⟨ad109, A109_0, c109_0, e109, hx109_0, hl109_0, hi109_0⟩ := at_L1 HR108_0.out x13_3 p109 q109
                                                         cases e109
                                                         replace hx109_0 := (HB.out.cell (World.block_lt_of_cell? wq _ hx109_0)).trans hx109_0
                                                         have HR109_0 := Aside0.mk hi109_0
                                                         have HC109_0 := Aside0.mk hl109_0
                                                         clear hi109_0 hl109_0
                                                         replace p109 := eq_true p109
                                                         replace q109 := eq_true q109
                                                         have p110 : 0 ≤ ((ji30) : Int) := of_decide_eq_true aS
                                                         have q110 : (ji30) < ((rd_L1 (rd_L2 x7o (ji25)) x13_3).length : Int) := of_decide_eq_true aS
                                                         obtain ⟨ad110, e110, hx110_0⟩ := Kd.at_int HR109_0.out (ji30) p110 q110
                                                         cases e110
                                                         replace hx110_0 := (HB.out.cell (World.block_lt_of_cell? wq _ hx110_0)).trans hx110_0
                                                         replace p110 := eq_true p110
                                                         replace q110 := eq_true q110
                                                         go_wp2_with (first | (go_at_call 101; (with_reducible refine (spec_l1Least.calls x12_3 (rd (rd_L1 (rd_L2 x7o (ji25)) x13_3) (ji30)) t111 _ A33.out).mono ?_); rintro e w' ⟨rfl, ⟨nd, rfl⟩⟩; (try first | exact ⟨rfl, _, World.drewN_drewN _ _ _⟩ | exact ⟨rfl, _, Eq.trans (World.drewN_drewN _ _ _) (congrArg (World.drewN _) (Nat.add_assoc _ _ _))⟩)))
                                                         repeat (go_quiet (first | (go_at_call 101; (with_reducible refine (spec_l1Least.calls x12_3 (rd (rd_L1 (rd_L2 x7o (ji25)) x13_3) (ji30)) t111 _ A33.out).mono ?_); rintro e w' ⟨rfl, ⟨nd, rfl⟩⟩; (try first | exact ⟨rfl, _, World.drewN_drewN _ _ _⟩ | exact ⟨rfl, _, Eq.trans (World.drewN_drewN _ _ _) (congrArg (World.drewN _) (Nat.add_assoc _ _ _))⟩))); try go_wp2_with (first | (go_at_call 101; (with_reducible refine (spec_l1Least.calls x12_3 (rd (rd_L1 (rd_L2 x7o (ji25)) x13_3) (ji30)) t111 _ A33.out).mono ?_); rintro e w' ⟨rfl, ⟨nd, rfl⟩⟩; (try first | exact ⟨rfl, _, World.drewN_drewN _ _ _⟩ | exact ⟨rfl, _, Eq.trans (World.drewN_drewN _ _ _) (congrArg (World.drewN _) (Nat.add_assoc _ _ _))⟩))))
                                                         go_roundg k3
                                                         case measure => have := HK1.out; have := HJ12.out; have := HK3.out; omega
                                                         case rel => exact ⟨(t111), (wrap64 (x13_3 + 1)), rD, rD, H', ⟨by have := HK1.out; have := HJ12.out; have := HK3.out; omega⟩, ⟨pR HO_10⟩, ⟨pB BK101⟩, ⟨bB HB⟩⟩
                                                       · rw [if_neg c32] at H
                                                         exact absurd H (by simp)
                                                     · rw [if_neg c31] at H
                                                       exact absurd H (by simp)
                                                   · rw [if_neg c29] at H
                                                     exact absurd H (by simp)
                                                 · rw [if_neg c28] at H
                                                   exact absurd H (by simp)
                                               · rw [if_neg c27] at H
                                                 exact absurd H (by simp)
                                             · rw [if_neg c26] at H
                                               exact absurd H (by simp)
                                           · rw [if_neg c24] at H
                                             have c24b0 : decide (0 < x11_1) = false := decide_eq_false c24
                                             clear c24
                                             by_cases c34 : 0 ≤ iv
                                             · rw [if_pos c34] at H
                                               have c34b0 : decide (0 ≤ iv) = true := decide_eq_true c34
                                               clear c34
                                               by_cases c35 : iv < (l0_0.length : Int)
                                               · rw [if_pos c35] at H
                                                 have c35b0 : decide (iv < (l0_0.length : Int)) = true := decide_eq_true c35
                                                 clear c35
                                                 by_cases c36 : 0 ≤ dv
                                                 · rw [if_pos c36] at H
                                                   have c36b0 : decide (0 ≤ dv) = true := decide_eq_true c36
                                                   clear c36
                                                   by_cases c37 : dv < ((rd_L1 l0_0 iv).length : Int)
                                                   · rw [if_pos c37] at H
                                                     have c37b0 : decide (dv < ((rd_L1 l0_0 iv).length : Int)) = true := decide_eq_true c37
                                                     clear c37
                                                     by_cases c38 : dv < (l0_1.length : Int)
                                                     · rw [if_pos c38] at H
                                                       have c38b0 : decide (dv < (l0_1.length : Int)) = true := decide_eq_true c38
                                                       clear c38
                                                       replace H := Option.bind_eq_some_iff.mp H
                                                       obtain ⟨t115, A390, H⟩ := H
                                                       replace H : (if t115 = true then (if 0 ≤ x11_1 then (if x11_1 < (x10_1.length : Int) then (spec_l11Switch.r0 k3 a1 x7o dv iv (l0_1.length : Int) (l0_0.length : Int) (x10_1.set (x11_1 : Int).toNat (wrap64 (x12_3 + 1))) (wrap64 (x11_1 + 1)) l0_0 l0_1) else (none)) else (none)) else (if 0 ≤ x11_1 then (if x11_1 < (x10_1.length : Int) then (spec_l11Switch.r0 k3 a1 x7o dv iv (l0_1.length : Int) (l0_0.length : Int) (x10_1.set (x11_1 : Int).toNat x12_3) (wrap64 (x11_1 + 1)) l0_0 l0_1) else (none)) else (none))) = some yq := H
                                                       have A39 := Aside0.mk A390
                                                       clear A390
                                                       by_cases c40 : t115 = true
                                                       · subst c40
                                                         have H1 : (if 0 ≤ x11_1 then (if x11_1 < (x10_1.length : Int) then (spec_l11Switch.r0 k3 a1 x7o dv iv (l0_1.length : Int) (l0_0.length : Int) (x10_1.set (x11_1 : Int).toNat (wrap64 (x12_3 + 1))) (wrap64 (x11_1 + 1)) l0_0 l0_1) else (none)) else (none)) = some yq := by rw [if_pos rfl] at H; exact H
                                                         clear H
                                                         have H := H1
                                                         clear H1
                                                         by_cases c41 : 0 ≤ x11_1
                                                         · rw [if_pos c41] at H
                                                           have c41b0 : decide (0 ≤ x11_1) = true := decide_eq_true c41
                                                           clear c41
                                                           by_cases c42 : x11_1 < (x10_1.length : Int)
                                                           · rw [if_pos c42] at H
                                                             have c42b0 : decide (x11_1 < (x10_1.length : Int)) = true := decide_eq_true c42
                                                             clear c42
                                                             obtain ⟨y116, hy116⟩ : ∃ y_ : List Int, y_ = (x10_1.set (x11_1 : Int).toNat (wrap64 (x12_3 + 1))) := ⟨_, rfl⟩
                                                             replace H : (spec_l11Switch.r0 k3 a1 x7o dv iv (l0_1.length : Int) (l0_0.length : Int) y116 (wrap64 (x11_1 + 1)) l0_0 l0_1) = some yq := by first | (rw [hy116]; with_reducible exact H) | (have H2_ := (Option.bind_some _ _).symm.trans H; rw [hy116]; with_reducible exact H2_) | (have H2_ := (Option.bind_some _ _).symm.trans H; with_reducible exact H2_) | with_reducible exact H | (rw [hy116]; exact H) | exact H
                                                             have Ny116 := Aside0.mk hy116
                                                             clear hy116
                                                             have H' := Aside0.mk H
                                                             clear H
                                                             have hcz44_0 : wr.cell? ⟨gb101, 0, none⟩ = some (.slice A0_0 l0_0.length c0_0) := (blk_cell BK101.out 0).trans rfl
                                                             have hcz44_1 : wr.cell? ⟨gb101, 1, none⟩ = some (.slice A0_1 l0_1.length c0_1) := (blk_cell BK101.out 1).trans rfl
                                                             have hfz44_0 := blk_frozen BK101.out 0
                                                             have hfz44_1 := blk_frozen BK101.out 1
                                                             have p112 : 0 ≤ (iv : Int) := of_decide_eq_true aS
                                                             have q112 : iv < (l0_0.length : Int) := of_decide_eq_true aS
                                                             obtain ⟨ad112, A112_0, c112_0, e112, hx112_0, hl112_0, hi112_0⟩ := at_L1 HR0_0.out iv p112 q112
                                                             cases e112
                                                             replace hx112_0 := (HB.out.cell (World.block_lt_of_cell? wq _ hx112_0)).trans hx112_0
                                                             have HR112_0 := Aside0.mk hi112_0
                                                             have HC112_0 := Aside0.mk hl112_0
                                                             clear hi112_0 hl112_0
                                                             replace p112 := eq_true p112
                                                             replace q112 := eq_true q112
                                                             have p113 : 0 ≤ (dv : Int) := of_decide_eq_true aS
                                                             have q113 : dv < ((rd_L1 l0_0 iv).length : Int) := of_decide_eq_true aS
                                                             obtain ⟨ad113, e113, hx113_0⟩ := Kd.at_int HR112_0.out dv p113 q113
                                                             cases e113
                                                             replace hx113_0 := (HB.out.cell (World.block_lt_of_cell? wq _ hx113_0)).trans hx113_0
                                                             replace p113 := eq_true p113
                                                             replace q113 := eq_true q113
                                                             have p114 : 0 ≤ (dv : Int) := of_decide_eq_true aS
                                                             have q114 : dv < (l0_1.length : Int) := of_decide_eq_true aS
                                                             obtain ⟨ad114, e114, hx114_0⟩ := Kd.at_int HR0_1.out dv p114 q114
                                                             cases e114
                                                             replace hx114_0 := (HB.out.cell (World.block_lt_of_cell? wq _ hx114_0)).trans hx114_0
                                                             replace p114 := eq_true p114
                                                             replace q114 := eq_true q114
                                                             have p43 : 0 ≤ (x11_1 : Int) := of_decide_eq_true aS; have q43 : (x11_1 : Int) < ((x10_1.length : Int) : Int) := of_decide_eq_true aS; obtain ⟨go43, co43, eo43, gb43, gl43, cl43, HG43⟩ := Kd.R_form HO_10.out (by omega); (first | cases eo43 | (injection eo43 with ea_ en_ ec_; (first | subst ea_ | (injection ea_ with ea_; subst ea_)); subst ec_; clear en_)); have GB43 := Aside0.mk gb43; have GG43 := Aside0.mk HG43; clear gb43 gl43 HG43; obtain ⟨hx43_0, hf43_0⟩ := Kd.R_celln 0 HO_10.out (x11_1 : Int) p43 q43; replace p43 := eq_true p43; replace q43 := eq_true q43; obtain ⟨hy45_, hz45_⟩ := Kd.R_celln 0 HO_10.out (x11_1 : Int) (of_decide_eq_true aS) (of_decide_eq_true aS); have HP45 := Kd.R_putg HO_10.out (x11_1 : Int) (wrap64 (x12_3 + 1))
                                                             go_wp2_with (first | (go_at_call 102; (with_reducible refine (spec_l11Wrong.calls (rd (rd_L1 l0_0 iv) dv) (rd l0_1 dv) true _ A39.out).mono ?_); rintro e w' ⟨rfl, ⟨nd, rfl⟩⟩; (try first | exact ⟨rfl, _, World.drewN_drewN _ _ _⟩ | exact ⟨rfl, _, Eq.trans (World.drewN_drewN _ _ _) (congrArg (World.drewN _) (Nat.add_assoc _ _ _))⟩)) | ((with_reducible refine gate_store (t := 3) (p := 99) rfl ?_); (try (rw [drewN_self wr]; generalize hq_ : World.drewN wr _ = wr; have n0_ := Aside0.mk (Kd.R_at hq_ HO_10.out); have n1_ := Aside0.mk (blk_at hq_ BK101.out); have n2_ := Aside0.mk (below_at hq_ HB.out); clear hq_ HO_10 BK101 HB; have HO_10 := n0_; have BK101 := n1_; have HB := n2_; clear n0_ n1_ n2_; (try (obtain ⟨hy45_, hz45_⟩ := Kd.R_celln 0 HO_10.out (x11_1 : Int) (of_decide_eq_true aS) (of_decide_eq_true aS))); (try (have HP45 := Kd.R_putg HO_10.out (x11_1 : Int) (wrap64 (x12_3 + 1)))))); refine store_event (t := 3) (p := 99) (v := ?vo_w46) (w1 := (wr.setCell ⟨go43, (x11_1 : Int).toNat, none⟩ (.int .i64 (wrap64 (x12_3 + 1))))) ?hg ?ho ?hn ?hr ?_; (case ho => rfl); (case hg => rfl); (case hn => rfl); (case hr => first | (go_simp; done) | (go_simp; rfl)); intro w46 hw; have hg : wr.grownBy w46 (some go43) := (by rw [hw]; exact HP45.2); have hp_ : Kd.R (Kd.int .i64) 3 w46 wq.heap.size (fun _ => True) (.slice (some ⟨go43, 0, none⟩) x10_1.length co43) y116 := (by rw [hw, Ny116.out]; exact HP45.1); clear HP45; have n0_ := Aside0.mk (hp_); have n1_ := Aside0.mk (blk_grown (g := gb101) (o := .cells #[.slice (some ad112) l0_0.length c0_0, .slice (some ad114) l0_1.length c0_1] 33 (0, 0)) (pB BK101) hg (Kd.R_ne HO_10.out BK101.out (by decide))); have n2_ := Aside0.mk ((by rw [hw]; exact below_set (HB.out) GB43.out : Below wq.heap.size wq w46)); clear HO_10; clear BK101; clear HB; have HO_10 := n0_; have BK101 := n1_; have HB := n2_; clear n0_ n1_ n2_; clear hg hw hp_))
                                                             repeat (go_quiet (first | (go_at_call 102; (with_reducible refine (spec_l11Wrong.calls (rd (rd_L1 l0_0 iv) dv) (rd l0_1 dv) true _ A39.out).mono ?_); rintro e w' ⟨rfl, ⟨nd, rfl⟩⟩; (try first | exact ⟨rfl, _, World.drewN_drewN _ _ _⟩ | exact ⟨rfl, _, Eq.trans (World.drewN_drewN _ _ _) (congrArg (World.drewN _) (Nat.add_assoc _ _ _))⟩)) | ((with_reducible refine gate_store (t := 3) (p := 99) rfl ?_); (try (rw [drewN_self wr]; generalize hq_ : World.drewN wr _ = wr; have n0_ := Aside0.mk (Kd.R_at hq_ HO_10.out); have n1_ := Aside0.mk (blk_at hq_ BK101.out); have n2_ := Aside0.mk (below_at hq_ HB.out); clear hq_ HO_10 BK101 HB; have HO_10 := n0_; have BK101 := n1_; have HB := n2_; clear n0_ n1_ n2_; (try (obtain ⟨hy45_, hz45_⟩ := Kd.R_celln 0 HO_10.out (x11_1 : Int) (of_decide_eq_true aS) (of_decide_eq_true aS))); (try (have HP45 := Kd.R_putg HO_10.out (x11_1 : Int) (wrap64 (x12_3 + 1)))))); refine store_event (t := 3) (p := 99) (v := ?vo_w46) (w1 := (wr.setCell ⟨go43, (x11_1 : Int).toNat, none⟩ (.int .i64 (wrap64 (x12_3 + 1))))) ?hg ?ho ?hn ?hr ?_; (case ho => rfl); (case hg => rfl); (case hn => rfl); (case hr => first | (go_simp; done) | (go_simp; rfl)); intro w46 hw; have hg : wr.grownBy w46 (some go43) := (by rw [hw]; exact HP45.2); have hp_ : Kd.R (Kd.int .i64) 3 w46 wq.heap.size (fun _ => True) (.slice (some ⟨go43, 0, none⟩) x10_1.length co43) y116 := (by rw [hw, Ny116.out]; exact HP45.1); clear HP45; have n0_ := Aside0.mk (hp_); have n1_ := Aside0.mk (blk_grown (g := gb101) (o := .cells #[.slice (some ad112) l0_0.length c0_0, .slice (some ad114) l0_1.length c0_1] 33 (0, 0)) (pB BK101) hg (Kd.R_ne HO_10.out BK101.out (by decide))); have n2_ := Aside0.mk ((by rw [hw]; exact below_set (HB.out) GB43.out : Below wq.heap.size wq w46)); clear HO_10; clear BK101; clear HB; have HO_10 := n0_; have BK101 := n1_; have HB := n2_; clear n0_ n1_ n2_; clear hg hw hp_)); try go_wp2_with (first | (go_at_call 102; (with_reducible refine (spec_l11Wrong.calls (rd (rd_L1 l0_0 iv) dv) (rd l0_1 dv) true _ A39.out).mono ?_); rintro e w' ⟨rfl, ⟨nd, rfl⟩⟩; (try first | exact ⟨rfl, _, World.drewN_drewN _ _ _⟩ | exact ⟨rfl, _, Eq.trans (World.drewN_drewN _ _ _) (congrArg (World.drewN _) (Nat.add_assoc _ _ _))⟩); have p43 : 0 ≤ (x11_1 : Int) := of_decide_eq_true aS; have q43 : (x11_1 : Int) < ((x10_1.length : Int) : Int) := of_decide_eq_true aS; obtain ⟨go43, co43, eo43, gb43, gl43, cl43, HG43⟩ := Kd.R_form HO_10.out (by omega); (first | cases eo43 | (injection eo43 with ea_ en_ ec_; (first | subst ea_ | (injection ea_ with ea_; subst ea_)); subst ec_; clear en_)); have GB43 := Aside0.mk gb43; have GG43 := Aside0.mk HG43; clear gb43 gl43 HG43; obtain ⟨hx43_0, hf43_0⟩ := Kd.R_celln 0 HO_10.out (x11_1 : Int) p43 q43; replace p43 := eq_true p43; replace q43 := eq_true q43; obtain ⟨hy45_, hz45_⟩ := Kd.R_celln 0 HO_10.out (x11_1 : Int) (of_decide_eq_true aS) (of_decide_eq_true aS); have HP45 := Kd.R_putg HO_10.out (x11_1 : Int) (wrap64 (x12_3 + 1))) | ((with_reducible refine gate_store (t := 3) (p := 99) rfl ?_); (try (rw [drewN_self wr]; generalize hq_ : World.drewN wr _ = wr; have n0_ := Aside0.mk (Kd.R_at hq_ HO_10.out); have n1_ := Aside0.mk (blk_at hq_ BK101.out); have n2_ := Aside0.mk (below_at hq_ HB.out); clear hq_ HO_10 BK101 HB; have HO_10 := n0_; have BK101 := n1_; have HB := n2_; clear n0_ n1_ n2_; (try (obtain ⟨hy45_, hz45_⟩ := Kd.R_celln 0 HO_10.out (x11_1 : Int) (of_decide_eq_true aS) (of_decide_eq_true aS))); (try (have HP45 := Kd.R_putg HO_10.out (x11_1 : Int) (wrap64 (x12_3 + 1)))))); refine store_event (t := 3) (p := 99) (v := ?vo_w46) (w1 := (wr.setCell ⟨go43, (x11_1 : Int).toNat, none⟩ (.int .i64 (wrap64 (x12_3 + 1))))) ?hg ?ho ?hn ?hr ?_; (case ho => rfl); (case hg => rfl); (case hn => rfl); (case hr => first | (go_simp; done) | (go_simp; rfl)); intro w46 hw; have hg : wr.grownBy w46 (some go43) := (by rw [hw]; exact HP45.2); have hp_ : Kd.R (Kd.int .i64) 3 w46 wq.heap.size (fun _ => True) (.slice (some ⟨go43, 0, none⟩) x10_1.length co43) y116 := (by rw [hw, Ny116.out]; exact HP45.1); clear HP45; have n0_ := Aside0.mk (hp_); have n1_ := Aside0.mk (blk_grown (g := gb101) (o := .cells #[.slice (some ad112) l0_0.length c0_0, .slice (some ad114) l0_1.length c0_1] 33 (0, 0)) (pB BK101) hg (Kd.R_ne HO_10.out BK101.out (by decide))); have n2_ := Aside0.mk ((by rw [hw]; exact below_set (HB.out) GB43.out : Below wq.heap.size wq w46)); clear HO_10; clear BK101; clear HB; have HO_10 := n0_; have BK101 := n1_; have HB := n2_; clear n0_ n1_ n2_; clear hg hw hp_)))
                                                             go_roundg k3
                                                             case measure => have := HK1.out; have := HJ12.out; have := HK3.out; omega
                                                             case rel => exact ⟨(y116), (wrap64 (x11_1 + 1)), rD, H', ⟨by have := HK1.out; have := HJ12.out; have := HK3.out; omega⟩, ⟨pR HO_10⟩, ⟨pB BK101⟩, ⟨bB HB⟩⟩
                                                           · rw [if_neg c42] at H
                                                             exact absurd H (by simp)
                                                         · rw [if_neg c41] at H
                                                           exact absurd H (by simp)
                                                       · replace c40 := Bool.eq_false_iff.mpr c40
                                                         subst c40
                                                         have H1 : (if 0 ≤ x11_1 then (if x11_1 < (x10_1.length : Int) then (spec_l11Switch.r0 k3 a1 x7o dv iv (l0_1.length : Int) (l0_0.length : Int) (x10_1.set (x11_1 : Int).toNat x12_3) (wrap64 (x11_1 + 1)) l0_0 l0_1) else (none)) else (none)) = some yq := by rw [if_neg (show ¬ (false = true) by decide)] at H; exact H
                                                         clear H
                                                         have H := H1
                                                         clear H1
                                                         by_cases c47 : 0 ≤ x11_1
                                                         · rw [if_pos c47] at H
                                                           have c47b0 : decide (0 ≤ x11_1) = true := decide_eq_true c47
                                                           clear c47
                                                           by_cases c48 : x11_1 < (x10_1.length : Int)
                                                           · rw [if_pos c48] at H
                                                             have c48b0 : decide (x11_1 < (x10_1.length : Int)) = true := decide_eq_true c48
                                                             clear c48
                                                             obtain ⟨y117, hy117⟩ : ∃ y_ : List Int, y_ = (x10_1.set (x11_1 : Int).toNat x12_3) := ⟨_, rfl⟩
                                                             replace H : (spec_l11Switch.r0 k3 a1 x7o dv iv (l0_1.length : Int) (l0_0.length : Int) y117 (wrap64 (x11_1 + 1)) l0_0 l0_1) = some yq := by first | (rw [hy117]; with_reducible exact H) | (have H2_ := (Option.bind_some _ _).symm.trans H; rw [hy117]; with_reducible exact H2_) | (have H2_ := (Option.bind_some _ _).symm.trans H; with_reducible exact H2_) | with_reducible exact H | (rw [hy117]; exact H) | exact H
                                                             have Ny117 := Aside0.mk hy117
                                                             clear hy117
                                                             have H' := Aside0.mk H
                                                             clear H
                                                             have hcz50_0 : wr.cell? ⟨gb101, 0, none⟩ = some (.slice A0_0 l0_0.length c0_0) := (blk_cell BK101.out 0).trans rfl
                                                             have hcz50_1 : wr.cell? ⟨gb101, 1, none⟩ = some (.slice A0_1 l0_1.length c0_1) := (blk_cell BK101.out 1).trans rfl
                                                             have hfz50_0 := blk_frozen BK101.out 0
                                                             have hfz50_1 := blk_frozen BK101.out 1
                                                             have p112 : 0 ≤ (iv : Int) := of_decide_eq_true aS
                                                             have q112 : iv < (l0_0.length : Int) := of_decide_eq_true aS
                                                             obtain ⟨ad112, A112_0, c112_0, e112, hx112_0, hl112_0, hi112_0⟩ := at_L1 HR0_0.out iv p112 q112
                                                             cases e112
                                                             replace hx112_0 := (HB.out.cell (World.block_lt_of_cell? wq _ hx112_0)).trans hx112_0
                                                             have HR112_0 := Aside0.mk hi112_0
                                                             have HC112_0 := Aside0.mk hl112_0
                                                             clear hi112_0 hl112_0
                                                             replace p112 := eq_true p112
                                                             replace q112 := eq_true q112
                                                             have p113 : 0 ≤ (dv : Int) := of_decide_eq_true aS
                                                             have q113 : dv < ((rd_L1 l0_0 iv).length : Int) := of_decide_eq_true aS
                                                             obtain ⟨ad113, e113, hx113_0⟩ := Kd.at_int HR112_0.out dv p113 q113
                                                             cases e113
                                                             replace hx113_0 := (HB.out.cell (World.block_lt_of_cell? wq _ hx113_0)).trans hx113_0
                                                             replace p113 := eq_true p113
                                                             replace q113 := eq_true q113
                                                             have p114 : 0 ≤ (dv : Int) := of_decide_eq_true aS
                                                             have q114 : dv < (l0_1.length : Int) := of_decide_eq_true aS
                                                             obtain ⟨ad114, e114, hx114_0⟩ := Kd.at_int HR0_1.out dv p114 q114
                                                             cases e114
                                                             replace hx114_0 := (HB.out.cell (World.block_lt_of_cell? wq _ hx114_0)).trans hx114_0
                                                             replace p114 := eq_true p114
                                                             replace q114 := eq_true q114
                                                             have p49 : 0 ≤ (x11_1 : Int) := of_decide_eq_true aS; have q49 : (x11_1 : Int) < ((x10_1.length : Int) : Int) := of_decide_eq_true aS; obtain ⟨go49, co49, eo49, gb49, gl49, cl49, HG49⟩ := Kd.R_form HO_10.out (by omega); (first | cases eo49 | (injection eo49 with ea_ en_ ec_; (first | subst ea_ | (injection ea_ with ea_; subst ea_)); subst ec_; clear en_)); have GB49 := Aside0.mk gb49; have GG49 := Aside0.mk HG49; clear gb49 gl49 HG49; obtain ⟨hx49_0, hf49_0⟩ := Kd.R_celln 0 HO_10.out (x11_1 : Int) p49 q49; replace p49 := eq_true p49; replace q49 := eq_true q49; obtain ⟨hy51_, hz51_⟩ := Kd.R_celln 0 HO_10.out (x11_1 : Int) (of_decide_eq_true aS) (of_decide_eq_true aS); have HP51 := Kd.R_putg HO_10.out (x11_1 : Int) x12_3
                                                             go_wp2_with (first | (go_at_call 102; (with_reducible refine (spec_l11Wrong.calls (rd (rd_L1 l0_0 iv) dv) (rd l0_1 dv) false _ A39.out).mono ?_); rintro e w' ⟨rfl, ⟨nd, rfl⟩⟩; (try first | exact ⟨rfl, _, World.drewN_drewN _ _ _⟩ | exact ⟨rfl, _, Eq.trans (World.drewN_drewN _ _ _) (congrArg (World.drewN _) (Nat.add_assoc _ _ _))⟩)) | ((with_reducible refine gate_store (t := 3) (p := 99) rfl ?_); (try (rw [drewN_self wr]; generalize hq_ : World.drewN wr _ = wr; have n0_ := Aside0.mk (Kd.R_at hq_ HO_10.out); have n1_ := Aside0.mk (blk_at hq_ BK101.out); have n2_ := Aside0.mk (below_at hq_ HB.out); clear hq_ HO_10 BK101 HB; have HO_10 := n0_; have BK101 := n1_; have HB := n2_; clear n0_ n1_ n2_; (try (obtain ⟨hy51_, hz51_⟩ := Kd.R_celln 0 HO_10.out (x11_1 : Int) (of_decide_eq_true aS) (of_decide_eq_true aS))); (try (have HP51 := Kd.R_putg HO_10.out (x11_1 : Int) x12_3)))); refine store_event (t := 3) (p := 99) (v := ?vo_w52) (w1 := (wr.setCell ⟨go49, (x11_1 : Int).toNat, none⟩ (.int .i64 x12_3))) ?hg ?ho ?hn ?hr ?_; (case ho => rfl); (case hg => rfl); (case hn => rfl); (case hr => first | (go_simp; done) | (go_simp; rfl)); intro w52 hw; have hg : wr.grownBy w52 (some go49) := (by rw [hw]; exact HP51.2); have hp_ : Kd.R (Kd.int .i64) 3 w52 wq.heap.size (fun _ => True) (.slice (some ⟨go49, 0, none⟩) x10_1.length co49) y117 := (by rw [hw, Ny117.out]; exact HP51.1); clear HP51; have n0_ := Aside0.mk (hp_); have n1_ := Aside0.mk (blk_grown (g := gb101) (o := .cells #[.slice (some ad112) l0_0.length c0_0, .slice (some ad114) l0_1.length c0_1] 33 (0, 0)) (pB BK101) hg (Kd.R_ne HO_10.out BK101.out (by decide))); have n2_ := Aside0.mk ((by rw [hw]; exact below_set (HB.out) GB49.out : Below wq.heap.size wq w52)); clear HO_10; clear BK101; clear HB; have HO_10 := n0_; have BK101 := n1_; have HB := n2_; clear n0_ n1_ n2_; clear hg hw hp_))
                                                             repeat (go_quiet (first | (go_at_call 102; (with_reducible refine (spec_l11Wrong.calls (rd (rd_L1 l0_0 iv) dv) (rd l0_1 dv) false _ A39.out).mono ?_); rintro e w' ⟨rfl, ⟨nd, rfl⟩⟩; (try first | exact ⟨rfl, _, World.drewN_drewN _ _ _⟩ | exact ⟨rfl, _, Eq.trans (World.drewN_drewN _ _ _) (congrArg (World.drewN _) (Nat.add_assoc _ _ _))⟩)) | ((with_reducible refine gate_store (t := 3) (p := 99) rfl ?_); (try (rw [drewN_self wr]; generalize hq_ : World.drewN wr _ = wr; have n0_ := Aside0.mk (Kd.R_at hq_ HO_10.out); have n1_ := Aside0.mk (blk_at hq_ BK101.out); have n2_ := Aside0.mk (below_at hq_ HB.out); clear hq_ HO_10 BK101 HB; have HO_10 := n0_; have BK101 := n1_; have HB := n2_; clear n0_ n1_ n2_; (try (obtain ⟨hy51_, hz51_⟩ := Kd.R_celln 0 HO_10.out (x11_1 : Int) (of_decide_eq_true aS) (of_decide_eq_true aS))); (try (have HP51 := Kd.R_putg HO_10.out (x11_1 : Int) x12_3)))); refine store_event (t := 3) (p := 99) (v := ?vo_w52) (w1 := (wr.setCell ⟨go49, (x11_1 : Int).toNat, none⟩ (.int .i64 x12_3))) ?hg ?ho ?hn ?hr ?_; (case ho => rfl); (case hg => rfl); (case hn => rfl); (case hr => first | (go_simp; done) | (go_simp; rfl)); intro w52 hw; have hg : wr.grownBy w52 (some go49) := (by rw [hw]; exact HP51.2); have hp_ : Kd.R (Kd.int .i64) 3 w52 wq.heap.size (fun _ => True) (.slice (some ⟨go49, 0, none⟩) x10_1.length co49) y117 := (by rw [hw, Ny117.out]; exact HP51.1); clear HP51; have n0_ := Aside0.mk (hp_); have n1_ := Aside0.mk (blk_grown (g := gb101) (o := .cells #[.slice (some ad112) l0_0.length c0_0, .slice (some ad114) l0_1.length c0_1] 33 (0, 0)) (pB BK101) hg (Kd.R_ne HO_10.out BK101.out (by decide))); have n2_ := Aside0.mk ((by rw [hw]; exact below_set (HB.out) GB49.out : Below wq.heap.size wq w52)); clear HO_10; clear BK101; clear HB; have HO_10 := n0_; have BK101 := n1_; have HB := n2_; clear n0_ n1_ n2_; clear hg hw hp_)); try go_wp2_with (first | (go_at_call 102; (with_reducible refine (spec_l11Wrong.calls (rd (rd_L1 l0_0 iv) dv) (rd l0_1 dv) false _ A39.out).mono ?_); rintro e w' ⟨rfl, ⟨nd, rfl⟩⟩; (try first | exact ⟨rfl, _, World.drewN_drewN _ _ _⟩ | exact ⟨rfl, _, Eq.trans (World.drewN_drewN _ _ _) (congrArg (World.drewN _) (Nat.add_assoc _ _ _))⟩); have p49 : 0 ≤ (x11_1 : Int) := of_decide_eq_true aS; have q49 : (x11_1 : Int) < ((x10_1.length : Int) : Int) := of_decide_eq_true aS; obtain ⟨go49, co49, eo49, gb49, gl49, cl49, HG49⟩ := Kd.R_form HO_10.out (by omega); (first | cases eo49 | (injection eo49 with ea_ en_ ec_; (first | subst ea_ | (injection ea_ with ea_; subst ea_)); subst ec_; clear en_)); have GB49 := Aside0.mk gb49; have GG49 := Aside0.mk HG49; clear gb49 gl49 HG49; obtain ⟨hx49_0, hf49_0⟩ := Kd.R_celln 0 HO_10.out (x11_1 : Int) p49 q49; replace p49 := eq_true p49; replace q49 := eq_true q49; obtain ⟨hy51_, hz51_⟩ := Kd.R_celln 0 HO_10.out (x11_1 : Int) (of_decide_eq_true aS) (of_decide_eq_true aS); have HP51 := Kd.R_putg HO_10.out (x11_1 : Int) x12_3) | ((with_reducible refine gate_store (t := 3) (p := 99) rfl ?_); (try (rw [drewN_self wr]; generalize hq_ : World.drewN wr _ = wr; have n0_ := Aside0.mk (Kd.R_at hq_ HO_10.out); have n1_ := Aside0.mk (blk_at hq_ BK101.out); have n2_ := Aside0.mk (below_at hq_ HB.out); clear hq_ HO_10 BK101 HB; have HO_10 := n0_; have BK101 := n1_; have HB := n2_; clear n0_ n1_ n2_; (try (obtain ⟨hy51_, hz51_⟩ := Kd.R_celln 0 HO_10.out (x11_1 : Int) (of_decide_eq_true aS) (of_decide_eq_true aS))); (try (have HP51 := Kd.R_putg HO_10.out (x11_1 : Int) x12_3)))); refine store_event (t := 3) (p := 99) (v := ?vo_w52) (w1 := (wr.setCell ⟨go49, (x11_1 : Int).toNat, none⟩ (.int .i64 x12_3))) ?hg ?ho ?hn ?hr ?_; (case ho => rfl); (case hg => rfl); (case hn => rfl); (case hr => first | (go_simp; done) | (go_simp; rfl)); intro w52 hw; have hg : wr.grownBy w52 (some go49) := (by rw [hw]; exact HP51.2); have hp_ : Kd.R (Kd.int .i64) 3 w52 wq.heap.size (fun _ => True) (.slice (some ⟨go49, 0, none⟩) x10_1.length co49) y117 := (by rw [hw, Ny117.out]; exact HP51.1); clear HP51; have n0_ := Aside0.mk (hp_); have n1_ := Aside0.mk (blk_grown (g := gb101) (o := .cells #[.slice (some ad112) l0_0.length c0_0, .slice (some ad114) l0_1.length c0_1] 33 (0, 0)) (pB BK101) hg (Kd.R_ne HO_10.out BK101.out (by decide))); have n2_ := Aside0.mk ((by rw [hw]; exact below_set (HB.out) GB49.out : Below wq.heap.size wq w52)); clear HO_10; clear BK101; clear HB; have HO_10 := n0_; have BK101 := n1_; have HB := n2_; clear n0_ n1_ n2_; clear hg hw hp_)))
                                                             go_roundg k3
                                                             case measure => have := HK1.out; have := HJ12.out; have := HK3.out; omega
                                                             case rel => exact ⟨(y117), (wrap64 (x11_1 + 1)), rD, H', ⟨by have := HK1.out; have := HJ12.out; have := HK3.out; omega⟩, ⟨pR HO_10⟩, ⟨pB BK101⟩, ⟨bB HB⟩⟩
                                                           · rw [if_neg c48] at H
                                                             exact absurd H (by simp)
                                                         · rw [if_neg c47] at H
                                                           exact absurd H (by simp)
                                                     · rw [if_neg c38] at H
                                                       exact absurd H (by simp)
                                                   · rw [if_neg c37] at H
                                                     exact absurd H (by simp)
                                                 · rw [if_neg c36] at H
                                                   exact absurd H (by simp)
                                               · rw [if_neg c35] at H
                                                 exact absurd H (by simp)
                                             · rw [if_neg c34] at H
                                               exact absurd H (by simp)
                                         · rw [if_neg c23] at H
                                           have c23b0 : decide (x13_3 < (l0_0.length : Int)) = false := decide_eq_false c23
                                           clear c23
                                           by_cases c53 : 0 ≤ iv
                                           · rw [if_pos c53] at H
                                             have c53b0 : decide (0 ≤ iv) = true := decide_eq_true c53
                                             clear c53
                                             by_cases c54 : iv < (l0_0.length : Int)
                                             · rw [if_pos c54] at H
                                               have c54b0 : decide (iv < (l0_0.length : Int)) = true := decide_eq_true c54
                                               clear c54
                                               by_cases c55 : 0 ≤ dv
                                               · rw [if_pos c55] at H
                                                 have c55b0 : decide (0 ≤ dv) = true := decide_eq_true c55
                                                 clear c55
                                                 by_cases c56 : dv < ((rd_L1 l0_0 iv).length : Int)
                                                 · rw [if_pos c56] at H
                                                   have c56b0 : decide (dv < ((rd_L1 l0_0 iv).length : Int)) = true := decide_eq_true c56
                                                   clear c56
                                                   by_cases c57 : dv < (l0_1.length : Int)
                                                   · rw [if_pos c57] at H
                                                     have c57b0 : decide (dv < (l0_1.length : Int)) = true := decide_eq_true c57
                                                     clear c57
                                                     replace H := Option.bind_eq_some_iff.mp H
                                                     obtain ⟨t121, A580, H⟩ := H
                                                     replace H : (if t121 = true then (if 0 ≤ x11_1 then (if x11_1 < (x10_1.length : Int) then (spec_l11Switch.r0 k3 a1 x7o dv iv (l0_1.length : Int) (l0_0.length : Int) (x10_1.set (x11_1 : Int).toNat (wrap64 (x12_3 + 1))) (wrap64 (x11_1 + 1)) l0_0 l0_1) else (none)) else (none)) else (if 0 ≤ x11_1 then (if x11_1 < (x10_1.length : Int) then (spec_l11Switch.r0 k3 a1 x7o dv iv (l0_1.length : Int) (l0_0.length : Int) (x10_1.set (x11_1 : Int).toNat x12_3) (wrap64 (x11_1 + 1)) l0_0 l0_1) else (none)) else (none))) = some yq := H
                                                     have A58 := Aside0.mk A580
                                                     clear A580
                                                     by_cases c59 : t121 = true
                                                     · subst c59
                                                       have H1 : (if 0 ≤ x11_1 then (if x11_1 < (x10_1.length : Int) then (spec_l11Switch.r0 k3 a1 x7o dv iv (l0_1.length : Int) (l0_0.length : Int) (x10_1.set (x11_1 : Int).toNat (wrap64 (x12_3 + 1))) (wrap64 (x11_1 + 1)) l0_0 l0_1) else (none)) else (none)) = some yq := by rw [if_pos rfl] at H; exact H
                                                       clear H
                                                       have H := H1
                                                       clear H1
                                                       by_cases c60 : 0 ≤ x11_1
                                                       · rw [if_pos c60] at H
                                                         have c60b0 : decide (0 ≤ x11_1) = true := decide_eq_true c60
                                                         clear c60
                                                         by_cases c61 : x11_1 < (x10_1.length : Int)
                                                         · rw [if_pos c61] at H
                                                           have c61b0 : decide (x11_1 < (x10_1.length : Int)) = true := decide_eq_true c61
                                                           clear c61
                                                           obtain ⟨y122, hy122⟩ : ∃ y_ : List Int, y_ = (x10_1.set (x11_1 : Int).toNat (wrap64 (x12_3 + 1))) := ⟨_, rfl⟩
                                                           replace H : (spec_l11Switch.r0 k3 a1 x7o dv iv (l0_1.length : Int) (l0_0.length : Int) y122 (wrap64 (x11_1 + 1)) l0_0 l0_1) = some yq := by first | (rw [hy122]; with_reducible exact H) | (have H2_ := (Option.bind_some _ _).symm.trans H; rw [hy122]; with_reducible exact H2_) | (have H2_ := (Option.bind_some _ _).symm.trans H; with_reducible exact H2_) | with_reducible exact H | (rw [hy122]; exact H) | exact H
                                                           have Ny122 := Aside0.mk hy122
                                                           clear hy122
                                                           have H' := Aside0.mk H
                                                           clear H
                                                           have hcz63_0 : wr.cell? ⟨gb101, 0, none⟩ = some (.slice A0_0 l0_0.length c0_0) := (blk_cell BK101.out 0).trans rfl
                                                           have hcz63_1 : wr.cell? ⟨gb101, 1, none⟩ = some (.slice A0_1 l0_1.length c0_1) := (blk_cell BK101.out 1).trans rfl
                                                           have hfz63_0 := blk_frozen BK101.out 0
                                                           have hfz63_1 := blk_frozen BK101.out 1
                                                           have p118 : 0 ≤ (iv : Int) := of_decide_eq_true aS
                                                           have q118 : iv < (l0_0.length : Int) := of_decide_eq_true aS
                                                           obtain ⟨ad118, A118_0, c118_0, e118, hx118_0, hl118_0, hi118_0⟩ := at_L1 HR0_0.out iv p118 q118
                                                           cases e118
                                                           replace hx118_0 := (HB.out.cell (World.block_lt_of_cell? wq _ hx118_0)).trans hx118_0
                                                           have HR118_0 := Aside0.mk hi118_0
                                                           have HC118_0 := Aside0.mk hl118_0
                                                           clear hi118_0 hl118_0
                                                           replace p118 := eq_true p118
                                                           replace q118 := eq_true q118
                                                           have p119 : 0 ≤ (dv : Int) := of_decide_eq_true aS
                                                           have q119 : dv < ((rd_L1 l0_0 iv).length : Int) := of_decide_eq_true aS
                                                           obtain ⟨ad119, e119, hx119_0⟩ := Kd.at_int HR118_0.out dv p119 q119
                                                           cases e119
                                                           replace hx119_0 := (HB.out.cell (World.block_lt_of_cell? wq _ hx119_0)).trans hx119_0
                                                           replace p119 := eq_true p119
                                                           replace q119 := eq_true q119
                                                           have p120 : 0 ≤ (dv : Int) := of_decide_eq_true aS
                                                           have q120 : dv < (l0_1.length : Int) := of_decide_eq_true aS
                                                           obtain ⟨ad120, e120, hx120_0⟩ := Kd.at_int HR0_1.out dv p120 q120
                                                           cases e120
                                                           replace hx120_0 := (HB.out.cell (World.block_lt_of_cell? wq _ hx120_0)).trans hx120_0
                                                           replace p120 := eq_true p120
                                                           replace q120 := eq_true q120
                                                           have p62 : 0 ≤ (x11_1 : Int) := of_decide_eq_true aS; have q62 : (x11_1 : Int) < ((x10_1.length : Int) : Int) := of_decide_eq_true aS; obtain ⟨go62, co62, eo62, gb62, gl62, cl62, HG62⟩ := Kd.R_form HO_10.out (by omega); (first | cases eo62 | (injection eo62 with ea_ en_ ec_; (first | subst ea_ | (injection ea_ with ea_; subst ea_)); subst ec_; clear en_)); have GB62 := Aside0.mk gb62; have GG62 := Aside0.mk HG62; clear gb62 gl62 HG62; obtain ⟨hx62_0, hf62_0⟩ := Kd.R_celln 0 HO_10.out (x11_1 : Int) p62 q62; replace p62 := eq_true p62; replace q62 := eq_true q62; obtain ⟨hy64_, hz64_⟩ := Kd.R_celln 0 HO_10.out (x11_1 : Int) (of_decide_eq_true aS) (of_decide_eq_true aS); have HP64 := Kd.R_putg HO_10.out (x11_1 : Int) (wrap64 (x12_3 + 1))
                                                           go_wp2_with (first | (go_at_call 102; (with_reducible refine (spec_l11Wrong.calls (rd (rd_L1 l0_0 iv) dv) (rd l0_1 dv) true _ A58.out).mono ?_); rintro e w' ⟨rfl, ⟨nd, rfl⟩⟩; (try first | exact ⟨rfl, _, World.drewN_drewN _ _ _⟩ | exact ⟨rfl, _, Eq.trans (World.drewN_drewN _ _ _) (congrArg (World.drewN _) (Nat.add_assoc _ _ _))⟩)) | ((with_reducible refine gate_store (t := 3) (p := 99) rfl ?_); (try (rw [drewN_self wr]; generalize hq_ : World.drewN wr _ = wr; have n0_ := Aside0.mk (Kd.R_at hq_ HO_10.out); have n1_ := Aside0.mk (blk_at hq_ BK101.out); have n2_ := Aside0.mk (below_at hq_ HB.out); clear hq_ HO_10 BK101 HB; have HO_10 := n0_; have BK101 := n1_; have HB := n2_; clear n0_ n1_ n2_; (try (obtain ⟨hy64_, hz64_⟩ := Kd.R_celln 0 HO_10.out (x11_1 : Int) (of_decide_eq_true aS) (of_decide_eq_true aS))); (try (have HP64 := Kd.R_putg HO_10.out (x11_1 : Int) (wrap64 (x12_3 + 1)))))); refine store_event (t := 3) (p := 99) (v := ?vo_w65) (w1 := (wr.setCell ⟨go62, (x11_1 : Int).toNat, none⟩ (.int .i64 (wrap64 (x12_3 + 1))))) ?hg ?ho ?hn ?hr ?_; (case ho => rfl); (case hg => rfl); (case hn => rfl); (case hr => first | (go_simp; done) | (go_simp; rfl)); intro w65 hw; have hg : wr.grownBy w65 (some go62) := (by rw [hw]; exact HP64.2); have hp_ : Kd.R (Kd.int .i64) 3 w65 wq.heap.size (fun _ => True) (.slice (some ⟨go62, 0, none⟩) x10_1.length co62) y122 := (by rw [hw, Ny122.out]; exact HP64.1); clear HP64; have n0_ := Aside0.mk (hp_); have n1_ := Aside0.mk (blk_grown (g := gb101) (o := .cells #[.slice (some ad118) l0_0.length c0_0, .slice (some ad120) l0_1.length c0_1] 33 (0, 0)) (pB BK101) hg (Kd.R_ne HO_10.out BK101.out (by decide))); have n2_ := Aside0.mk ((by rw [hw]; exact below_set (HB.out) GB62.out : Below wq.heap.size wq w65)); clear HO_10; clear BK101; clear HB; have HO_10 := n0_; have BK101 := n1_; have HB := n2_; clear n0_ n1_ n2_; clear hg hw hp_))
                                                           repeat (go_quiet (first | (go_at_call 102; (with_reducible refine (spec_l11Wrong.calls (rd (rd_L1 l0_0 iv) dv) (rd l0_1 dv) true _ A58.out).mono ?_); rintro e w' ⟨rfl, ⟨nd, rfl⟩⟩; (try first | exact ⟨rfl, _, World.drewN_drewN _ _ _⟩ | exact ⟨rfl, _, Eq.trans (World.drewN_drewN _ _ _) (congrArg (World.drewN _) (Nat.add_assoc _ _ _))⟩)) | ((with_reducible refine gate_store (t := 3) (p := 99) rfl ?_); (try (rw [drewN_self wr]; generalize hq_ : World.drewN wr _ = wr; have n0_ := Aside0.mk (Kd.R_at hq_ HO_10.out); have n1_ := Aside0.mk (blk_at hq_ BK101.out); have n2_ := Aside0.mk (below_at hq_ HB.out); clear hq_ HO_10 BK101 HB; have HO_10 := n0_; have BK101 := n1_; have HB := n2_; clear n0_ n1_ n2_; (try (obtain ⟨hy64_, hz64_⟩ := Kd.R_celln 0 HO_10.out (x11_1 : Int) (of_decide_eq_true aS) (of_decide_eq_true aS))); (try (have HP64 := Kd.R_putg HO_10.out (x11_1 : Int) (wrap64 (x12_3 + 1)))))); refine store_event (t := 3) (p := 99) (v := ?vo_w65) (w1 := (wr.setCell ⟨go62, (x11_1 : Int).toNat, none⟩ (.int .i64 (wrap64 (x12_3 + 1))))) ?hg ?ho ?hn ?hr ?_; (case ho => rfl); (case hg => rfl); (case hn => rfl); (case hr => first | (go_simp; done) | (go_simp; rfl)); intro w65 hw; have hg : wr.grownBy w65 (some go62) := (by rw [hw]; exact HP64.2); have hp_ : Kd.R (Kd.int .i64) 3 w65 wq.heap.size (fun _ => True) (.slice (some ⟨go62, 0, none⟩) x10_1.length co62) y122 := (by rw [hw, Ny122.out]; exact HP64.1); clear HP64; have n0_ := Aside0.mk (hp_); have n1_ := Aside0.mk (blk_grown (g := gb101) (o := .cells #[.slice (some ad118) l0_0.length c0_0, .slice (some ad120) l0_1.length c0_1] 33 (0, 0)) (pB BK101) hg (Kd.R_ne HO_10.out BK101.out (by decide))); have n2_ := Aside0.mk ((by rw [hw]; exact below_set (HB.out) GB62.out : Below wq.heap.size wq w65)); clear HO_10; clear BK101; clear HB; have HO_10 := n0_; have BK101 := n1_; have HB := n2_; clear n0_ n1_ n2_; clear hg hw hp_)); try go_wp2_with (first | (go_at_call 102; (with_reducible refine (spec_l11Wrong.calls (rd (rd_L1 l0_0 iv) dv) (rd l0_1 dv) true _ A58.out).mono ?_); rintro e w' ⟨rfl, ⟨nd, rfl⟩⟩; (try first | exact ⟨rfl, _, World.drewN_drewN _ _ _⟩ | exact ⟨rfl, _, Eq.trans (World.drewN_drewN _ _ _) (congrArg (World.drewN _) (Nat.add_assoc _ _ _))⟩); have p62 : 0 ≤ (x11_1 : Int) := of_decide_eq_true aS; have q62 : (x11_1 : Int) < ((x10_1.length : Int) : Int) := of_decide_eq_true aS; obtain ⟨go62, co62, eo62, gb62, gl62, cl62, HG62⟩ := Kd.R_form HO_10.out (by omega); (first | cases eo62 | (injection eo62 with ea_ en_ ec_; (first | subst ea_ | (injection ea_ with ea_; subst ea_)); subst ec_; clear en_)); have GB62 := Aside0.mk gb62; have GG62 := Aside0.mk HG62; clear gb62 gl62 HG62; obtain ⟨hx62_0, hf62_0⟩ := Kd.R_celln 0 HO_10.out (x11_1 : Int) p62 q62; replace p62 := eq_true p62; replace q62 := eq_true q62; obtain ⟨hy64_, hz64_⟩ := Kd.R_celln 0 HO_10.out (x11_1 : Int) (of_decide_eq_true aS) (of_decide_eq_true aS); have HP64 := Kd.R_putg HO_10.out (x11_1 : Int) (wrap64 (x12_3 + 1))) | ((with_reducible refine gate_store (t := 3) (p := 99) rfl ?_); (try (rw [drewN_self wr]; generalize hq_ : World.drewN wr _ = wr; have n0_ := Aside0.mk (Kd.R_at hq_ HO_10.out); have n1_ := Aside0.mk (blk_at hq_ BK101.out); have n2_ := Aside0.mk (below_at hq_ HB.out); clear hq_ HO_10 BK101 HB; have HO_10 := n0_; have BK101 := n1_; have HB := n2_; clear n0_ n1_ n2_; (try (obtain ⟨hy64_, hz64_⟩ := Kd.R_celln 0 HO_10.out (x11_1 : Int) (of_decide_eq_true aS) (of_decide_eq_true aS))); (try (have HP64 := Kd.R_putg HO_10.out (x11_1 : Int) (wrap64 (x12_3 + 1)))))); refine store_event (t := 3) (p := 99) (v := ?vo_w65) (w1 := (wr.setCell ⟨go62, (x11_1 : Int).toNat, none⟩ (.int .i64 (wrap64 (x12_3 + 1))))) ?hg ?ho ?hn ?hr ?_; (case ho => rfl); (case hg => rfl); (case hn => rfl); (case hr => first | (go_simp; done) | (go_simp; rfl)); intro w65 hw; have hg : wr.grownBy w65 (some go62) := (by rw [hw]; exact HP64.2); have hp_ : Kd.R (Kd.int .i64) 3 w65 wq.heap.size (fun _ => True) (.slice (some ⟨go62, 0, none⟩) x10_1.length co62) y122 := (by rw [hw, Ny122.out]; exact HP64.1); clear HP64; have n0_ := Aside0.mk (hp_); have n1_ := Aside0.mk (blk_grown (g := gb101) (o := .cells #[.slice (some ad118) l0_0.length c0_0, .slice (some ad120) l0_1.length c0_1] 33 (0, 0)) (pB BK101) hg (Kd.R_ne HO_10.out BK101.out (by decide))); have n2_ := Aside0.mk ((by rw [hw]; exact below_set (HB.out) GB62.out : Below wq.heap.size wq w65)); clear HO_10; clear BK101; clear HB; have HO_10 := n0_; have BK101 := n1_; have HB := n2_; clear n0_ n1_ n2_; clear hg hw hp_)))
                                                           go_roundg k3
                                                           case measure => have := HK1.out; have := HJ12.out; have := HK3.out; omega
                                                           case rel => exact ⟨(y122), (wrap64 (x11_1 + 1)), rD, H', ⟨by have := HK1.out; have := HJ12.out; have := HK3.out; omega⟩, ⟨pR HO_10⟩, ⟨pB BK101⟩, ⟨bB HB⟩⟩
                                                         · rw [if_neg c61] at H
                                                           exact absurd H (by simp)
                                                       · rw [if_neg c60] at H
                                                         exact absurd H (by simp)
                                                     · replace c59 := Bool.eq_false_iff.mpr c59
                                                       subst c59
                                                       have H1 : (if 0 ≤ x11_1 then (if x11_1 < (x10_1.length : Int) then (spec_l11Switch.r0 k3 a1 x7o dv iv (l0_1.length : Int) (l0_0.length : Int) (x10_1.set (x11_1 : Int).toNat x12_3) (wrap64 (x11_1 + 1)) l0_0 l0_1) else (none)) else (none)) = some yq := by rw [if_neg (show ¬ (false = true) by decide)] at H; exact H
                                                       clear H
                                                       have H := H1
                                                       clear H1
                                                       by_cases c66 : 0 ≤ x11_1
                                                       · rw [if_pos c66] at H
                                                         have c66b0 : decide (0 ≤ x11_1) = true := decide_eq_true c66
                                                         clear c66
                                                         by_cases c67 : x11_1 < (x10_1.length : Int)
                                                         · rw [if_pos c67] at H
                                                           have c67b0 : decide (x11_1 < (x10_1.length : Int)) = true := decide_eq_true c67
                                                           clear c67
                                                           obtain ⟨y123, hy123⟩ : ∃ y_ : List Int, y_ = (x10_1.set (x11_1 : Int).toNat x12_3) := ⟨_, rfl⟩
                                                           replace H : (spec_l11Switch.r0 k3 a1 x7o dv iv (l0_1.length : Int) (l0_0.length : Int) y123 (wrap64 (x11_1 + 1)) l0_0 l0_1) = some yq := by first | (rw [hy123]; with_reducible exact H) | (have H2_ := (Option.bind_some _ _).symm.trans H; rw [hy123]; with_reducible exact H2_) | (have H2_ := (Option.bind_some _ _).symm.trans H; with_reducible exact H2_) | with_reducible exact H | (rw [hy123]; exact H) | exact H
                                                           have Ny123 := Aside0.mk hy123
                                                           clear hy123
                                                           have H' := Aside0.mk H
                                                           clear H
                                                           have hcz69_0 : wr.cell? ⟨gb101, 0, none⟩ = some (.slice A0_0 l0_0.length c0_0) := (blk_cell BK101.out 0).trans rfl
                                                           have hcz69_1 : wr.cell? ⟨gb101, 1, none⟩ = some (.slice A0_1 l0_1.length c0_1) := (blk_cell BK101.out 1).trans rfl
                                                           have hfz69_0 := blk_frozen BK101.out 0
                                                           have hfz69_1 := blk_frozen BK101.out 1
                                                           have p118 : 0 ≤ (iv : Int) := of_decide_eq_true aS
                                                           have q118 : iv < (l0_0.length : Int) := of_decide_eq_true aS
                                                           obtain ⟨ad118, A118_0, c118_0, e118, hx118_0, hl118_0, hi118_0⟩ := at_L1 HR0_0.out iv p118 q118
                                                           cases e118
                                                           replace hx118_0 := (HB.out.cell (World.block_lt_of_cell? wq _ hx118_0)).trans hx118_0
                                                           have HR118_0 := Aside0.mk hi118_0
                                                           have HC118_0 := Aside0.mk hl118_0
                                                           clear hi118_0 hl118_0
                                                           replace p118 := eq_true p118
                                                           replace q118 := eq_true q118
                                                           have p119 : 0 ≤ (dv : Int) := of_decide_eq_true aS
                                                           have q119 : dv < ((rd_L1 l0_0 iv).length : Int) := of_decide_eq_true aS
                                                           obtain ⟨ad119, e119, hx119_0⟩ := Kd.at_int HR118_0.out dv p119 q119
                                                           cases e119
                                                           replace hx119_0 := (HB.out.cell (World.block_lt_of_cell? wq _ hx119_0)).trans hx119_0
                                                           replace p119 := eq_true p119
                                                           replace q119 := eq_true q119
                                                           have p120 : 0 ≤ (dv : Int) := of_decide_eq_true aS
                                                           have q120 : dv < (l0_1.length : Int) := of_decide_eq_true aS
                                                           obtain ⟨ad120, e120, hx120_0⟩ := Kd.at_int HR0_1.out dv p120 q120
                                                           cases e120
                                                           replace hx120_0 := (HB.out.cell (World.block_lt_of_cell? wq _ hx120_0)).trans hx120_0
                                                           replace p120 := eq_true p120
                                                           replace q120 := eq_true q120
                                                           have p68 : 0 ≤ (x11_1 : Int) := of_decide_eq_true aS; have q68 : (x11_1 : Int) < ((x10_1.length : Int) : Int) := of_decide_eq_true aS; obtain ⟨go68, co68, eo68, gb68, gl68, cl68, HG68⟩ := Kd.R_form HO_10.out (by omega); (first | cases eo68 | (injection eo68 with ea_ en_ ec_; (first | subst ea_ | (injection ea_ with ea_; subst ea_)); subst ec_; clear en_)); have GB68 := Aside0.mk gb68; have GG68 := Aside0.mk HG68; clear gb68 gl68 HG68; obtain ⟨hx68_0, hf68_0⟩ := Kd.R_celln 0 HO_10.out (x11_1 : Int) p68 q68; replace p68 := eq_true p68; replace q68 := eq_true q68; obtain ⟨hy70_, hz70_⟩ := Kd.R_celln 0 HO_10.out (x11_1 : Int) (of_decide_eq_true aS) (of_decide_eq_true aS); have HP70 := Kd.R_putg HO_10.out (x11_1 : Int) x12_3
                                                           go_wp2_with (first | (go_at_call 102; (with_reducible refine (spec_l11Wrong.calls (rd (rd_L1 l0_0 iv) dv) (rd l0_1 dv) false _ A58.out).mono ?_); rintro e w' ⟨rfl, ⟨nd, rfl⟩⟩; (try first | exact ⟨rfl, _, World.drewN_drewN _ _ _⟩ | exact ⟨rfl, _, Eq.trans (World.drewN_drewN _ _ _) (congrArg (World.drewN _) (Nat.add_assoc _ _ _))⟩)) | ((with_reducible refine gate_store (t := 3) (p := 99) rfl ?_); (try (rw [drewN_self wr]; generalize hq_ : World.drewN wr _ = wr; have n0_ := Aside0.mk (Kd.R_at hq_ HO_10.out); have n1_ := Aside0.mk (blk_at hq_ BK101.out); have n2_ := Aside0.mk (below_at hq_ HB.out); clear hq_ HO_10 BK101 HB; have HO_10 := n0_; have BK101 := n1_; have HB := n2_; clear n0_ n1_ n2_; (try (obtain ⟨hy70_, hz70_⟩ := Kd.R_celln 0 HO_10.out (x11_1 : Int) (of_decide_eq_true aS) (of_decide_eq_true aS))); (try (have HP70 := Kd.R_putg HO_10.out (x11_1 : Int) x12_3)))); refine store_event (t := 3) (p := 99) (v := ?vo_w71) (w1 := (wr.setCell ⟨go68, (x11_1 : Int).toNat, none⟩ (.int .i64 x12_3))) ?hg ?ho ?hn ?hr ?_; (case ho => rfl); (case hg => rfl); (case hn => rfl); (case hr => first | (go_simp; done) | (go_simp; rfl)); intro w71 hw; have hg : wr.grownBy w71 (some go68) := (by rw [hw]; exact HP70.2); have hp_ : Kd.R (Kd.int .i64) 3 w71 wq.heap.size (fun _ => True) (.slice (some ⟨go68, 0, none⟩) x10_1.length co68) y123 := (by rw [hw, Ny123.out]; exact HP70.1); clear HP70; have n0_ := Aside0.mk (hp_); have n1_ := Aside0.mk (blk_grown (g := gb101) (o := .cells #[.slice (some ad118) l0_0.length c0_0, .slice (some ad120) l0_1.length c0_1] 33 (0, 0)) (pB BK101) hg (Kd.R_ne HO_10.out BK101.out (by decide))); have n2_ := Aside0.mk ((by rw [hw]; exact below_set (HB.out) GB68.out : Below wq.heap.size wq w71)); clear HO_10; clear BK101; clear HB; have HO_10 := n0_; have BK101 := n1_; have HB := n2_; clear n0_ n1_ n2_; clear hg hw hp_))
                                                           repeat (go_quiet (first | (go_at_call 102; (with_reducible refine (spec_l11Wrong.calls (rd (rd_L1 l0_0 iv) dv) (rd l0_1 dv) false _ A58.out).mono ?_); rintro e w' ⟨rfl, ⟨nd, rfl⟩⟩; (try first | exact ⟨rfl, _, World.drewN_drewN _ _ _⟩ | exact ⟨rfl, _, Eq.trans (World.drewN_drewN _ _ _) (congrArg (World.drewN _) (Nat.add_assoc _ _ _))⟩)) | ((with_reducible refine gate_store (t := 3) (p := 99) rfl ?_); (try (rw [drewN_self wr]; generalize hq_ : World.drewN wr _ = wr; have n0_ := Aside0.mk (Kd.R_at hq_ HO_10.out); have n1_ := Aside0.mk (blk_at hq_ BK101.out); have n2_ := Aside0.mk (below_at hq_ HB.out); clear hq_ HO_10 BK101 HB; have HO_10 := n0_; have BK101 := n1_; have HB := n2_; clear n0_ n1_ n2_; (try (obtain ⟨hy70_, hz70_⟩ := Kd.R_celln 0 HO_10.out (x11_1 : Int) (of_decide_eq_true aS) (of_decide_eq_true aS))); (try (have HP70 := Kd.R_putg HO_10.out (x11_1 : Int) x12_3)))); refine store_event (t := 3) (p := 99) (v := ?vo_w71) (w1 := (wr.setCell ⟨go68, (x11_1 : Int).toNat, none⟩ (.int .i64 x12_3))) ?hg ?ho ?hn ?hr ?_; (case ho => rfl); (case hg => rfl); (case hn => rfl); (case hr => first | (go_simp; done) | (go_simp; rfl)); intro w71 hw; have hg : wr.grownBy w71 (some go68) := (by rw [hw]; exact HP70.2); have hp_ : Kd.R (Kd.int .i64) 3 w71 wq.heap.size (fun _ => True) (.slice (some ⟨go68, 0, none⟩) x10_1.length co68) y123 := (by rw [hw, Ny123.out]; exact HP70.1); clear HP70; have n0_ := Aside0.mk (hp_); have n1_ := Aside0.mk (blk_grown (g := gb101) (o := .cells #[.slice (some ad118) l0_0.length c0_0, .slice (some ad120) l0_1.length c0_1] 33 (0, 0)) (pB BK101) hg (Kd.R_ne HO_10.out BK101.out (by decide))); have n2_ := Aside0.mk ((by rw [hw]; exact below_set (HB.out) GB68.out : Below wq.heap.size wq w71)); clear HO_10; clear BK101; clear HB; have HO_10 := n0_; have BK101 := n1_; have HB := n2_; clear n0_ n1_ n2_; clear hg hw hp_)); try go_wp2_with (first | (go_at_call 102; (with_reducible refine (spec_l11Wrong.calls (rd (rd_L1 l0_0 iv) dv) (rd l0_1 dv) false _ A58.out).mono ?_); rintro e w' ⟨rfl, ⟨nd, rfl⟩⟩; (try first | exact ⟨rfl, _, World.drewN_drewN _ _ _⟩ | exact ⟨rfl, _, Eq.trans (World.drewN_drewN _ _ _) (congrArg (World.drewN _) (Nat.add_assoc _ _ _))⟩); have p68 : 0 ≤ (x11_1 : Int) := of_decide_eq_true aS; have q68 : (x11_1 : Int) < ((x10_1.length : Int) : Int) := of_decide_eq_true aS; obtain ⟨go68, co68, eo68, gb68, gl68, cl68, HG68⟩ := Kd.R_form HO_10.out (by omega); (first | cases eo68 | (injection eo68 with ea_ en_ ec_; (first | subst ea_ | (injection ea_ with ea_; subst ea_)); subst ec_; clear en_)); have GB68 := Aside0.mk gb68; have GG68 := Aside0.mk HG68; clear gb68 gl68 HG68; obtain ⟨hx68_0, hf68_0⟩ := Kd.R_celln 0 HO_10.out (x11_1 : Int) p68 q68; replace p68 := eq_true p68; replace q68 := eq_true q68; obtain ⟨hy70_, hz70_⟩ := Kd.R_celln 0 HO_10.out (x11_1 : Int) (of_decide_eq_true aS) (of_decide_eq_true aS); have HP70 := Kd.R_putg HO_10.out (x11_1 : Int) x12_3) | ((with_reducible refine gate_store (t := 3) (p := 99) rfl ?_); (try (rw [drewN_self wr]; generalize hq_ : World.drewN wr _ = wr; have n0_ := Aside0.mk (Kd.R_at hq_ HO_10.out); have n1_ := Aside0.mk (blk_at hq_ BK101.out); have n2_ := Aside0.mk (below_at hq_ HB.out); clear hq_ HO_10 BK101 HB; have HO_10 := n0_; have BK101 := n1_; have HB := n2_; clear n0_ n1_ n2_; (try (obtain ⟨hy70_, hz70_⟩ := Kd.R_celln 0 HO_10.out (x11_1 : Int) (of_decide_eq_true aS) (of_decide_eq_true aS))); (try (have HP70 := Kd.R_putg HO_10.out (x11_1 : Int) x12_3)))); refine store_event (t := 3) (p := 99) (v := ?vo_w71) (w1 := (wr.setCell ⟨go68, (x11_1 : Int).toNat, none⟩ (.int .i64 x12_3))) ?hg ?ho ?hn ?hr ?_; (case ho => rfl); (case hg => rfl); (case hn => rfl); (case hr => first | (go_simp; done) | (go_simp; rfl)); intro w71 hw; have hg : wr.grownBy w71 (some go68) := (by rw [hw]; exact HP70.2); have hp_ : Kd.R (Kd.int .i64) 3 w71 wq.heap.size (fun _ => True) (.slice (some ⟨go68, 0, none⟩) x10_1.length co68) y123 := (by rw [hw, Ny123.out]; exact HP70.1); clear HP70; have n0_ := Aside0.mk (hp_); have n1_ := Aside0.mk (blk_grown (g := gb101) (o := .cells #[.slice (some ad118) l0_0.length c0_0, .slice (some ad120) l0_1.length c0_1] 33 (0, 0)) (pB BK101) hg (Kd.R_ne HO_10.out BK101.out (by decide))); have n2_ := Aside0.mk ((by rw [hw]; exact below_set (HB.out) GB68.out : Below wq.heap.size wq w71)); clear HO_10; clear BK101; clear HB; have HO_10 := n0_; have BK101 := n1_; have HB := n2_; clear n0_ n1_ n2_; clear hg hw hp_)))
                                                           go_roundg k3
                                                           case measure => have := HK1.out; have := HJ12.out; have := HK3.out; omega
                                                           case rel => exact ⟨(y123), (wrap64 (x11_1 + 1)), rD, H', ⟨by have := HK1.out; have := HJ12.out; have := HK3.out; omega⟩, ⟨pR HO_10⟩, ⟨pB BK101⟩, ⟨bB HB⟩⟩
                                                         · rw [if_neg c67] at H
                                                           exact absurd H (by simp)
                                                       · rw [if_neg c66] at H
                                                         exact absurd H (by simp)
                                                   · rw [if_neg c57] at H
                                                     exact absurd H (by simp)
                                                 · rw [if_neg c56] at H
                                                   exact absurd H (by simp)
                                               · rw [if_neg c55] at H
                                                 exact absurd H (by simp)
                                             · rw [if_neg c54] at H
                                               exact absurd H (by simp)
                                           · rw [if_neg c53] at H
                                             exact absurd H (by simp)
                                     · rw [if_neg c22] at H
                                       exact absurd H (by simp)
                                   · rw [if_neg c21] at H
                                     exact absurd H (by simp)
                                 · rw [if_neg c20] at H
                                   exact absurd H (by simp)
                               · rw [if_neg c19] at H
                                 exact absurd H (by simp)
                             · rw [if_neg c18] at H
                               exact absurd H (by simp)
                           · rw [if_neg c17] at H
                             exact absurd H (by simp)
                         · replace c15 := Bool.eq_false_iff.mpr c15
                           subst c15
                           have H1 : (some x10_1) = some yq := by rw [if_neg (show ¬ (false = true) by decide)] at H; exact H
                           clear H
                           have H := H1
                           clear H1
                           obtain rfl := Option.some.inj H
                           have hS_ := HS.out
                           rw [HAD.out] at hS_
                           have hO_ := Kd.S_old hS_ HB.out
                           obtain ⟨oki, cE, hcl_, hM_, hcc_, hfr_, hoki_, hH_⟩ := Kd.S_elem hO_ ([] : List (List Int)) dv D0.out D1.out
                           obtain ⟨El, hEl⟩ : ∃ z, z = x7o.getD dv.toNat [] := ⟨_, rfl⟩
                           rw [← hEl] at hM_
                           have CL2 := Aside0.mk (show El.length < 1000000 by rw [hEl]; exact CL.out)
                           have HEL := Aside0.mk hEl
                           clear hEl
                           obtain ⟨uE, rfl, hu_⟩ := hM_
                           have hcell_ := hcc_ 0 uE rfl
                           have hfrz_ := hfr_ 0
                           obtain ⟨AE, cE, eE_⟩ := Kd.R_slice hu_
                           have HU := Aside0.mk hu_
                           have HH := Aside0.mk hH_
                           have HOK := Aside0.mk hoki_
                           clear hu_ hH_ hoki_ hcl_
                           rw [show (Kd.slice 22 (Kd.slice 3 (Kd.int .i64))).sz = 1 from rfl, Nat.mul_one, Nat.add_zero] at hcell_ hfrz_
                           have hx_ := hcell_
                           rw [show (⟨gT, dv.toNat, none⟩ : Addr) = adT.add (dv).toNat from by rw [HAD.out, add_at, Nat.zero_add]] at hx_
                           clear hcc_ hfr_ hcell_
                           have d0_ := eq_true D0.out
                           have d1_ := eq_true D1.out
                           have d1x_ := eq_true (show dv < (x7o.length : Int) by rw [← EN.out]; exact D1.out)
                           subst eE_
                           have hrow_ := HO_10.out
                           obtain ⟨Ar_, cr_, eR_⟩ := Kd.R_slice hrow_
                           rw [eR_] at hrow_
                           first | subst eR_ | (injection eR_ with e1_ e2_ e3_; subst e1_; subst e3_)
                           have HRW := Aside0.mk hrow_
                           clear hrow_
                           have HNE := Aside0.mk (show some gb101 ≠ some gT from by have := Kd.S_ne hO_ BK101.out (by decide); simpa [Value.ownBlock] using this)
                           clear hO_ hS_
                           go_wp2_with (first | ((with_reducible refine gate_dst (N := 108) rfl ?_); refine Kd.R_append (Kd.slice 3 (Kd.int .i64)) (w0 := w) w.heap.size rfl (.tmp 105) (.tmp 107) 28 22 (.slice none 0 0) 24 rfl Try.underlying28 spec_l11Switch.info22 rfl (by decide) (by omega) (.slice AE El.length cE) El _ [_] (fun k_ => oki k_ ∨ wq.heap.size ≤ k_) (fun k_ => wq.heap.size ≤ k_) rfl rfl ⟨_, rfl, Kd.R_lower (Kd.R_mono (Kd.R_bound HRW.out) (fun k_ h_ => h_.2.1)) (below_size HBo.out)⟩ (fun k_ h_ => ⟨.inr h_, fun e_ => by have := (HOK.out k_ (HU.out.1 k_ e_.symm)).1.2; omega⟩) (fun k_ h_ => .inr (Nat.le_trans (below_size HB.out) h_)) (Kd.R_mono HU.out (fun k_ h_ => .inl h_)) (below_step HBo.out HB.out) (below_size (below_step HBo.out HB.out)) (by have := CL2.out; omega) ?_; intro v1_ w1_ ho1_ hb1_ hg1_ hat1_; have hH1_ := Kd.H_grown (Kd.H_mono HH.out (ok' := fun k_ => True ∧ ¬ wq.heap.size ≤ k_) (fun k_ h_ => ⟨trivial, by have := h_.2; omega⟩)) hg1_ (fun k_ h_ => HU.out.1 k_ h_); have HH1 := Aside0.mk (Kd.H_more hH1_ (fun _ _ => trivial)); have HO1 := Aside0.mk ho1_; have n1_ := Aside0.mk (blk_grown BK101.out hg1_ (Kd.R_ne HU.out BK101.out (by decide))); have n2_ := Aside0.mk hb1_; clear BK101 HB; have BK101 := n1_; have HB1 := n2_; clear n1_ n2_ hH1_ ho1_ hb1_ hg1_ hat1_ hx_ hfrz_) | ((with_reducible refine gate_store (t := 28) (p := 109) rfl ?_); refine Kd.H_store (Kd.slice 22 (Kd.slice 3 (Kd.int .i64))) (w0 := w) w.heap.size rfl rfl 28 (.tmp 109) (.tmp 108) rfl 28 (o' := 0 + dv.toNat) dv 0 x7o _ v1_ [v1_] [.slice AE El.length cE] (fun _ => True) _ _ (by show Value.pointer (some (adT.add _)) = _; rw [HAD.out, add_at]) (by show 0 + dv.toNat = dv.toNat * 1 + 0; omega) rfl (Kd.R_val HO1.out).1 spec_l11Switch.size28 (fun q hq => by rw [List.mem_singleton.1 hq]; exact (Kd.R_val HO1.out).2) HH1.out D0.out D1.out (show 0 + 1 ≤ 1 from by decide) ⟨_, rfl, HO1.out⟩ (fun _ h_ => h_) HB1.out ?_; intro w2_ hs2_ hb2_ hg2_; have HS2 := Aside0.mk (by rw [HAD.out]; exact hs2_ : Kd.S (Kd.slice 22 (Kd.slice 3 (Kd.int .i64))) 28 w2_ w.heap.size (fun _ => True) (.slice (some adT) nT capT) _); have n1_ := Aside0.mk (blk_grown BK101.out hg2_ HNE.out); have HB2 := Aside0.mk hb2_; clear BK101; have BK101 := n1_; clear n1_ hs2_ hb2_ hg2_))
                           (try simp only [← EN.out])
                           go_roundg ki
                           case measure => have := HKi.out; omega
                           case rel => exact ⟨_, wrap64 (iv + 1), rD, ⟨by rw [HEL.out]; exact HN.out⟩, ⟨by have := HKi.out; omega⟩, HS2, BK101, HB2⟩
                   · rw [if_neg c8] at H
                     exact absurd H (by simp)
                 · rw [if_neg c7] at H
                   exact absurd H (by simp)
               · rw [if_neg cd3] at H; exact absurd H (by simp)
             · rw [if_neg cd2] at H; exact absurd H (by simp)
           · rw [if_neg cd1] at H; exact absurd H (by simp)
         · rw [if_neg ci] at H
           obtain rfl := Option.some.inj H
           have cib : decide (iv < (l0_0.length : Int)) = false := decide_eq_false ci
           clear ci
           go_wp2
           go_roundg ko
           case measure => have := HKo.out; omega
           case rel => exact ⟨x7o, wrap64 (dv - 1), rD, HN0, ⟨by have := HKo.out; omega⟩, HS, BK101, HBo⟩
     · rw [if_neg co] at H
       obtain rfl := Option.some.inj H
       have cob : decide (dv ≥ 0) = false := decide_eq_false co
       clear co
       go_wp2
       go_ret
       exact ⟨_, eW, Kd.S_R HS.out, HBo.out⟩
 · rw [if_neg cT] at h; exact absurd h (by simp)

end Go.Proofs.Ytihhedemdkifhaa.PFnExactSwitchWrong
