-- Printed by wip/tools/myprint.py (the printer of the kit, patched by that program; roots chosen by it)
import Derived.Test.YtihhedemdkifhaaWMore
import Derived.Test.YtihhedemdkifhaaWApart
import Derived.Test.YtihhedemdkifhaaPFnExactSwitchWrongx0
import Derived.Test.YtihhedemdkifhaaPFnExactSwitchWrongx5
import Derived.Test.YtihhedemdkifhaaSh
namespace Go.Proofs.Ytihhedemdkifhaa.PFnExactSwitchWrong
open Go.RowKit Go.Proofs.Ytihhedemdkifhaa.Sh Go.Proofs.YtihhedemdkifhaaW.PrintWords Go.Proofs.YtihhedemdkifhaaW.PrintLast Go.Proofs.YtihhedemdkifhaaW.PrintMore
attribute [local go_sem] max2_int min2_int max_two min_two max_three min_three max_four min_four   -- for this text's walks alone
set_option linter.unusedVariables false
set_option linter.unusedSimpArgs false

/-! ### impl_Panel_switches: function 60 -/
def impl_Panel_switches.r0 : Nat → List (List (List Int)) → Int → Int → Int → List Int → Int → Int → List (List Int) → List Int → Option (List Int)
 | 0, _, _, _, _, _, _, _, _, _ => none
 | k + 1, x2, x3, x5, x9, x10, x34, x35, x108000, x108001 => if x35 < x34 then (if x3 = x5 then (impl_Panel_switches.r0 k x2 x3 x5 x9 x10 x34 (wrap64 (x35 + 1)) x108000 x108001) else (if 0 ≤ (wrap64 (x3 + 1)) then (if (wrap64 (x3 + 1)) < (x2.length : Int) then (if 0 ≤ x9 then (if x9 < ((rd_L2 x2 (wrap64 (x3 + 1))).length : Int) then (if 0 ≤ x35 then (if x35 < ((rd_L1 (rd_L2 x2 (wrap64 (x3 + 1))) x9).length : Int) then (if x35 < (x10.length : Int) then ((some (x10.set (x35 : Int).toNat (rd (rd_L1 (rd_L2 x2 (wrap64 (x3 + 1))) x9) x35) : List Int)).bind fun y114 => (if x9 > 0 then (if 0 ≤ (wrap64 (x9 - 1)) then (if (wrap64 (x9 - 1)) < ((rd_L2 x2 (wrap64 (x3 + 1))).length : Int) then ((slices_Min_int_int.f k (rd_L1 (rd_L2 x2 (wrap64 (x3 + 1))) (wrap64 (x9 - 1)))).bind fun t118 => ((some (y114.set (x35 : Int).toNat (mn (rd y114 x35) t118) : List Int)).bind fun y119 => ((impl_Panel_wrong.f x108000 x108001 x35 x3).bind fun t120 => (if t120 = true then (impl_Panel_switches.r0 k x2 x3 x5 x9 (y119.set (x35 : Int).toNat (wrap64 ((rd y119 x35) + 1))) x34 (wrap64 (x35 + 1)) x108000 x108001) else (impl_Panel_switches.r0 k x2 x3 x5 x9 y119 x34 (wrap64 (x35 + 1)) x108000 x108001))))) else (none)) else (none)) else ((impl_Panel_wrong.f x108000 x108001 x35 x3).bind fun t123 => (if t123 = true then (impl_Panel_switches.r0 k x2 x3 x5 x9 (y114.set (x35 : Int).toNat (wrap64 ((rd y114 x35) + 1))) x34 (wrap64 (x35 + 1)) x108000 x108001) else (impl_Panel_switches.r0 k x2 x3 x5 x9 y114 x34 (wrap64 (x35 + 1)) x108000 x108001))))) else (none)) else (none)) else (none)) else (none)) else (none)) else (none)) else (none))) else (some x10)
def impl_Panel_switches.row (k : Nat) (l0_0 : List (List Int)) (l0_1 : List Int) (a1 : Int) (l2 : List (List (List Int))) (a3 : Int) (a4 : Int) : Option (List Int) := if 0 ≤ (l0_0.length : Int) then (if ((l0_0.length : Int) : Int).toNat ≤ 35184372088832 then ((some (List.replicate ((l0_0.length : Int) : Int).toNat 0 : List Int)).bind fun y108 => (impl_Panel_switches.r0 k l2 a3 (l0_1.length : Int) a4 y108 (y108.length : Int) 0 l0_0 l0_1)) else (none)) else (none)
def impl_Panel_switches.T1 : Bool × List (List Nat × List Nat) := (true, [([], []), ([0], [0]), ([1], [1]), ([], []), ([3], [3]), ([4], [4]), ([2, 0, 1, 2], [2]), ([5, 6, 0, 1, 2, 3, 4, 5, 6], [5])])
def impl_Panel_switches.B1 : List Nat := [0, 1, 3, 0, 8, 24, 7, 127]
theorem impl_Panel_switches.tab1 : rtab .any (opsOf Try.f60 1) = impl_Panel_switches.T1 := by kernel_rfl
theorem impl_Panel_switches.bits1 : waitsOk impl_Panel_switches.T1.2 impl_Panel_switches.B1 = true := by kernel_rfl
def impl_Panel_switches.T16 : Bool × List (List Nat × List Nat) := (true, [([], []), ([], []), ([], []), ([], []), ([2, 3], [2, 3]), ([4], [4]), ([], []), ([], []), ([7], [7]), ([6, 8], [6, 8]), ([9], [9]), ([], []), ([11], [11]), ([10, 12], [10, 12]), ([13], [13]), ([14], [14]), ([5, 15], [5, 15]), ([0, 1, 0, 1, 2, 3, 4, 5, 6, 7, 8, 9, 10, 11, 12, 13, 14, 15, 16], [0, 1]), ([17, 16, 15, 0, 1, 2, 3, 4, 5, 6, 7, 8, 9, 10, 11, 12, 13, 14, 15, 16], [16, 17])])
def impl_Panel_switches.B16 : List Nat := [0, 0, 0, 0, 12, 28, 0, 0, 128, 448, 960, 0, 2048, 8128, 16320, 32704, 65532, 131071, 262143]
theorem impl_Panel_switches.tab16 : rtab .any (opsOf Try.f60 16) = impl_Panel_switches.T16 := by kernel_rfl
theorem impl_Panel_switches.bits16 : waitsOk impl_Panel_switches.T16.2 impl_Panel_switches.B16 = true := by kernel_rfl
def impl_Panel_switches.o1 : Nat → List (List Int) → List Int → Int → List (List (List Int)) → Int → Int → Option (List (List (List Int)))
 | 0, _, _, _, _, _, _ => none
 | k + 1, S, T, kk, out, d, i => if i < (wrap64 (kk + 1)) then ((impl_Panel_switches.row k S T kk out d i).bind fun y => if 0 ≤ d then (if d < (out.length : Int) then (if (out.getD d.toNat []).length < 1000000 then impl_Panel_switches.o1 k S T kk (out.set d.toNat (out.getD d.toNat [] ++ [y])) d (wrap64 (i + 1)) else none) else none) else none) else some out
def impl_Panel_switches.o0 : Nat → List (List Int) → List Int → Int → List (List (List Int)) → Int → Option (List (List (List Int)))
 | 0, _, _, _, _, _ => none
 | k + 1, S, T, kk, out, d => if d ≥ 0 then ((impl_Panel_switches.o1 k S T kk out d 0).bind fun y => impl_Panel_switches.o0 k S T kk y (wrap64 (d - 1))) else some out
def impl_Panel_switches.f (k : Nat) (l0_0 : List (List Int)) (l0_1 : List Int) (a1 : Int) : Option (List (List (List Int))) := if l0_1.length < 1000000 then impl_Panel_switches.o0 k l0_0 l0_1 a1 (List.replicate (l0_1.length + 1) []) (l0_1.length : Int) else none
theorem impl_Panel_switches.info28 : (Try.prog.info? 28).map (fun i => (i.zero, i.size, i.bytes)) = some (some (.slice none 0 0), 1, 24) := by kernel_rfl
theorem impl_Panel_switches.info22 : (Try.prog.info? 22).map (fun i => (i.zero, i.size, i.bytes)) = some (some (.slice none 0 0), 1, 24) := by kernel_rfl
theorem impl_Panel_switches.size28 : (Try.prog.info? 28).map (·.size) = some 1 := by kernel_rfl
set_option maxHeartbeats 8000000 in
set_option maxRecDepth 100000 in
theorem impl_Panel_switches.calls (k : Nat) (A0_0 : Option Addr) (c0_0 : Nat) (l0_0 : List (List Int)) (A0_1 : Option Addr) (c0_1 : Nat) (l0_1 : List Int) (a1 : Int) (r : List (List (List Int))) (w : World) (hr0_0 : Kd.C (Kd.slice 3 (Kd.int .i64)) w A0_0 l0_0.length l0_0) (hc0_0 : l0_0.length ≤ c0_0) (hr0_1 : Kd.C (Kd.int .i64) w A0_1 l0_1.length l0_1) (hc0_1 : l0_1.length ≤ c0_1) (h : impl_Panel_switches.f k l0_0 l0_1 a1 = some r) :
 Calls Try.prog 60 #[.agg #[.slice A0_0 l0_0.length c0_0, .slice A0_1 l0_1.length c0_1], .int .i64 a1] w fun e w' => ∃ v0_ : Value, e = .returned (v0_) ∧ Kd.R (Kd.slice 22 (Kd.slice 3 (Kd.int .i64))) 28 w' w.heap.size (fun _ => True) v0_ r ∧ Below w.heap.size w w' := by
 have hu33 := Try.underlying33
 have HR0_0 := Aside0.mk hr0_0
 have HC0_0 := Aside0.mk hc0_0
 have HR0_1 := Aside0.mk hr0_1
 have HC0_1 := Aside0.mk hc0_1
 clear hr0_0 hc0_0 hr0_1 hc0_1
 have HB := Aside0.mk (Below.refl w.heap.size w)
 unfold impl_Panel_switches.f at h
 by_cases cT : l0_1.length < 1000000
 · rw [if_pos cT] at h
   have H' := Aside0.mk h
   clear h
   obtain ⟨jn, hjn⟩ : ∃ j : Int, wrap64 ((l0_1.length : Int) + 1) = j := ⟨_, rfl⟩
   have hjnw : (IntKind.i64.wrap ((l0_1.length : Int) + 1)) = jn := (i64_w _).trans hjn
   have JN := Aside0.mk (show jn = ((l0_1.length + 1 : Nat) : Int) by rw [← hjn]; unfold wrap64; omega)
   clear hjn
   have HL := Aside0.mk cT
   clear cT
   obtain ⟨jk, hjk⟩ : ∃ j : Int, wrap64 (a1 + 1) = j := ⟨_, rfl⟩
   have hjkw : (IntKind.i64.wrap (a1 + 1)) = jk := (i64_w _).trans hjk
   go_enter Try.func60, Try.ntmps60
   try go_wp2_with (first | ((with_reducible refine gate_dst (N := 2) rfl ?_); refine box_event ?hg (N := 2) ?hd (cs := #[.slice A0_0 l0_0.length c0_0, .slice A0_1 l0_1.length c0_1]) (t := 33) ?hr ?_; (case hd => rfl); (case hg => rfl); (case hr => first | (go_simp; done) | (go_simp; rfl)); intro gb107 hg w8 hbox hb; have n0_ := Aside0.mk (below_step (bB HB) hb); have n1_ := Aside0.mk (hbox); have n2_ := Aside0.mk ((by rw [hg]; exact (below_size (bB HB)) : w.heap.size ≤ gb107)); have n3_ := Aside0.mk ((by rw [hg]; exact (below_size (bB HB)) : w.heap.size ≤ gb107)); clear HB; have HB := n0_; have BK107 := n1_; have GW107 := n2_; have GE107 := n3_; clear n0_ n1_ n2_ n3_; clear hb hbox hg))
   have n0_ := Aside0.mk (blk_drew BK107.out)
   have n1_ := Aside0.mk (below_drew1 HB.out)
   clear BK107
   clear HB
   have BK107 := n0_
   have HB := n1_
   clear n0_ n1_
   refine start_ (n := 8) (S := fun w' => w'.cell? ⟨gb107, 0, none⟩ = some (.slice A0_0 l0_0.length c0_0) ∧ w'.cell? ⟨gb107, 1, none⟩ = some (.slice A0_1 l0_1.length c0_1)) (ds := []) #[false, false, false, false, false, false, false, false] (by kernel_rfl) rfl rfl ⟨(blk_cell BK107.out 0).trans rfl, (blk_cell BK107.out 1).trans rfl⟩ (fun hHeld => ?_); refine with_tabW impl_Panel_switches.tab1 impl_Panel_switches.bits1 (fun HT_ HW_ => ?_)
   generalize w8.drew = w9 at BK107 HB hHeld ⊢
   refine pure_ (i := 0) (N := some 12) (v := ?_) (a' := ?_) #[true, false, false, false, false, false, false, false] rfl rfl (any_of HT_.out (by kernel_rfl)) (fun _ _ _ h => h) (Or.inl ⟨by rfl, ?_⟩) ?_ ?_
   rotate_left
   · intro w'
     go_simp
     with_reducible rfl
   rotate_left
   · exact aP
   refine pure_ (i := 3) (N := some 15) (v := ?_) (a' := ?_) #[true, false, false, true, false, false, false, false] rfl rfl (any_of HT_.out (by kernel_rfl)) (fun _ _ _ h => h) (Or.inl ⟨by rfl, ?_⟩) ?_ ?_
   rotate_left
   · intro w'
     go_simp
     with_reducible rfl
   rotate_left
   · exact aP
   refine take_ (i := 1) (N := some 13) (v := ?_) (a' := ?_) #[true, true, false, true, false, false, false, false] rfl rfl (take_ofW HT_.out HW_.out (by kernel_rfl)) (fun _ _ _ h => h) (Or.inl ⟨by rfl, ?_⟩) hHeld ?_ ?_
   rotate_left
   · rintro w' ⟨s0, s1⟩
     go_simp
     with_reducible rfl
   rotate_left
   · exact aP
   refine pure_ (i := 2) (N := some 14) (v := ?_) (a' := ?_) #[true, true, true, true, false, false, false, false] rfl rfl (any_of HT_.out (by kernel_rfl)) (fun _ _ _ h => h) (Or.inl ⟨by rfl, ?_⟩) ?_ ?_
   rotate_left
   · intro w'
     go_simp
     with_reducible rfl
   rotate_left
   · exact aP
   refine pure_ (i := 6) (N := some 5) (v := ?_) (a' := ?_) #[true, true, true, true, false, false, true, false] rfl rfl (any_of HT_.out (by kernel_rfl)) (fun _ _ _ h => h) (Or.inl ⟨by rfl, ?_⟩) ?_ ?_
   rotate_left
   · intro w'
     go_simp
     with_reducible rfl
   rotate_left
   · exact aP
   refine take_ (i := 4) (N := some 16) (v := ?_) (a' := ?_) #[true, true, true, true, true, false, true, false] rfl rfl (take_ofW HT_.out HW_.out (by kernel_rfl)) (fun _ _ _ h => h) (Or.inl ⟨by rfl, ?_⟩) hHeld ?_ ?_
   rotate_left
   · rintro w' ⟨s0, s1⟩
     go_simp
     with_reducible rfl
   rotate_left
   · exact aP
   refine pure_ (i := 5) (N := some 17) (v := ?_) (a' := ?_) #[true, true, true, true, true, true, true, false] rfl rfl (any_of HT_.out (by kernel_rfl)) (fun _ _ _ h => h) (Or.inl ⟨by rfl, ?_⟩) ?_ ?_
   rotate_left
   · intro w'
     go_simp
     with_reducible rfl
   rotate_left
   · exact aP
   refine pure_ (i := 7) (N := some 6) (v := ?_) (a' := ?_) #[true, true, true, true, true, true, true, true] rfl rfl (any_of HT_.out (by kernel_rfl)) (fun _ _ _ h => h) (Or.inl ⟨by rfl, ?_⟩) ?_ ?_
   rotate_left
   · intro w'
     go_simp
     with_reducible rfl
   rotate_left
   · exact aP
   refine done_ (done_of HT_.out (by kernel_rfl)) ?_
   go_wp2_with (first | ((with_reducible refine gate_dst (N := 20) rfl ?_); refine Kd.S_make (Kd.slice 22 (Kd.slice 3 (Kd.int .i64))) _ 28 rfl (N := 20) rfl 75 _ _ rfl jn rfl rfl Try.underlying75 (.slice none 0 0) 24 impl_Panel_switches.info28 rfl (by decide) (by omega) ([] : List (List Int)) (ok := fun _ => True) (okp := fun _ => True) ⟨_, rfl, Kd.R_nil _ _ _ _ _⟩ (fun _ hk => hk) trivial (by rw [JN.out]; omega) (by rw [JN.out]; have := HL.out; omega) (Below.refl _ _) (Nat.le_refl _) ?_; intro vT wT hoT hb hg_ hnew_; clear hg_ hnew_; have n0_ := Aside0.mk (Kd.S_lower hoT (below_size (bC HB GE107))); have n1_ := Aside0.mk (bW BK107 hb); have n2_ := Aside0.mk (below_step (bC HB GE107) hb); clear BK107; clear HB; have HS := n0_; have BK107 := n1_; have HB := n2_; clear n0_ n1_ n2_; clear hb hoT))
   obtain ⟨gT, capT, eT_, _, _, _⟩ := Kd.S_form HS.out (by rw [List.length_replicate, JN.out, Int.toNat_natCast]; omega)
   obtain ⟨adT, hadT⟩ : ∃ z : Addr, z = ⟨gT, 0, none⟩ := ⟨_, rfl⟩
   rw [← hadT] at eT_
   have HAD := Aside0.mk hadT
   obtain ⟨nT, hnT⟩ : ∃ z : Nat, z = (List.replicate jn.toNat ([] : List (List Int))).length := ⟨_, rfl⟩
   rw [← hnT] at eT_
   subst eT_
   have e_ : jn.toNat = l0_1.length + 1 := by rw [JN.out, Int.toNat_natCast]
   have H2_ := Aside0.mk (by rw [e_]; exact H'.out : impl_Panel_switches.o0 k l0_0 l0_1 a1 (List.replicate jn.toNat []) (l0_1.length : Int) = some r)
   clear e_
   clear H' hadT hnT
   go_loopg [8] k (fun kq v8 w' => ∃ (xT : List (List (List Int))) (dv : Int), v8 = .int .i64 dv ∧ Aside0 (impl_Panel_switches.o0 kq l0_0 l0_1 a1 xT dv = some r) ∧ Aside0 (kq ≤ k) ∧ Aside0 (Kd.S (Kd.slice 22 (Kd.slice 3 (Kd.int .i64))) 28 w' w.heap.size (fun _ => True) (.slice (some adT) nT capT) xT) ∧ Aside0 (w'.heap[gb107]? = some (.cells #[.slice A0_0 l0_0.length c0_0, .slice A0_1 l0_1.length c0_1] 33 (0, 0))) ∧ Aside0 (Below w.heap.size w w'))
   case atStart => exact ⟨_, _, rD, H2_, ⟨Nat.le_refl _⟩, HS, BK107, ⟨bC HB GE107⟩⟩
   case round =>
    clear H2_ HS BK107 HB
    obtain ⟨xT, dv, rfl, HA, HKo, HS, BK107, HBo⟩ := hrel
    cases gk with
    | zero => exact absurd HA.out (by simp [impl_Panel_switches.o0])
    | succ ko =>
     have H := HA.out
     clear HA
     simp only [impl_Panel_switches.o0] at H
     by_cases co : dv ≥ 0
     · rw [if_pos co] at H
       obtain ⟨yT, hyT, H⟩ := Option.bind_eq_some_iff.mp H
       have HN0 := Aside0.mk H
       have H2_ := Aside0.mk hyT
       clear H hyT
       have D0 := Aside0.mk (show (0 : Int) ≤ dv from co)
       have cob : decide (dv ≥ 0) = true := decide_eq_true co
       clear co
       go_wp2
       go_loopg [28] ko (fun kq v28 w' => ∃ (x7o : List (List (List Int))) (iv : Int), v28 = .int .i64 iv ∧ Aside0 (impl_Panel_switches.o1 kq l0_0 l0_1 a1 x7o dv iv = some yT) ∧ Aside0 (kq ≤ ko) ∧ Aside0 (Kd.S (Kd.slice 22 (Kd.slice 3 (Kd.int .i64))) 28 w' w.heap.size (fun _ => True) (.slice (some adT) nT capT) x7o) ∧ Aside0 (w'.heap[gb107]? = some (.cells #[.slice A0_0 l0_0.length c0_0, .slice A0_1 l0_1.length c0_1] 33 (0, 0))) ∧ Aside0 (Below w.heap.size w w'))
       case atStart => exact ⟨xT, 0, rD, H2_, ⟨Nat.le_refl _⟩, HS, BK107, HBo⟩
       case round =>
        clear H2_ HS BK107 HBo
        obtain ⟨x7o, iv, rfl, HA, HKi, HS, BK107, HBo⟩ := hrel
        cases gk with
        | zero => exact absurd HA.out (by simp [impl_Panel_switches.o1])
        | succ ki =>
         have H := HA.out
         clear HA
         simp only [impl_Panel_switches.o1] at H
         rw [hjk] at H
         by_cases ci : iv < jk
         · rw [if_pos ci] at H
           obtain ⟨yq, hyq, H⟩ := Option.bind_eq_some_iff.mp H
           by_cases cd1 : 0 ≤ dv
           · rw [if_pos cd1] at H
             by_cases cd2 : dv < (x7o.length : Int)
             · rw [if_pos cd2] at H
               by_cases cd3 : (x7o.getD dv.toNat []).length < 1000000
               · rw [if_pos cd3] at H
                 have HN := Aside0.mk H
                 have CL := Aside0.mk cd3
                 clear cd1 cd3 H
                 obtain ⟨en_, hcap_, hread_⟩ := Kd.S_reads' HS.out
                 have EN := Aside0.mk en_
                 have D1 := Aside0.mk (show dv < (nT : Int) by rw [en_]; exact cd2)
                 obtain ⟨wq, rfl⟩ : ∃ z, z = wr := ⟨wr, rfl⟩
                 replace HR0_0 := Aside0.mk (Kd.C_below HR0_0.out HBo.out)
                 replace HR0_1 := Aside0.mk (Kd.C_below HR0_1.out HBo.out)
                 have HRq := Aside0.mk hread_
                 have HCq := Aside0.mk (show x7o.length ≤ capT by omega)
                 have HB := Aside0.mk (Below.refl wq.heap.size wq)
                 have cib : decide (iv < jk) = true := decide_eq_true ci
                 clear ci cd2 hread_ hcap_
                 have H : impl_Panel_switches.row ki l0_0 l0_1 a1 x7o dv iv = some yq := hyq
                 unfold impl_Panel_switches.row at H
                 clear hyq
                 by_cases c6 : 0 ≤ (l0_0.length : Int)
                 · rw [if_pos c6] at H
                   have c6b0 := eq_true c6
                   have c6b1 : decide (0 ≤ (l0_0.length : Int)) = true := decide_eq_true c6
                   clear c6
                   by_cases c7 : ((l0_0.length : Int) : Int).toNat ≤ 35184372088832
                   · rw [if_pos c7] at H
                     have c7b0 := eq_true c7
                     have c7b1 : decide (((l0_0.length : Int) : Int).toNat ≤ 35184372088832) = true := decide_eq_true c7
                     clear c7
                     obtain ⟨y108, hy108⟩ : ∃ y_ : List Int, y_ = (List.replicate ((l0_0.length : Int) : Int).toNat 0) := ⟨_, rfl⟩
                     replace H : (impl_Panel_switches.r0 ki x7o dv (l0_1.length : Int) iv y108 (y108.length : Int) 0 l0_0 l0_1) = some yq := by first | (rw [hy108]; with_reducible exact H) | (have H2_ := (Option.bind_some _ _).symm.trans H; rw [hy108]; with_reducible exact H2_) | (have H2_ := (Option.bind_some _ _).symm.trans H; with_reducible exact H2_) | with_reducible exact H | (rw [hy108]; exact H) | exact H
                     have Ny108 := Aside0.mk hy108
                     clear hy108
                     have H' := Aside0.mk H
                     clear H
                     go_wp2_with (first | ((with_reducible refine gate_dst (N := 32) rfl ?_); refine Kd.R_make (Kd.int .i64) _ 3 rfl (N := 32) rfl 22 _ _ rfl (l0_0.length : Int) rfl rfl Try.underlying22 (.int .i64 0) 8 info3 rfl (by decide) (by omega) 0 (ok := fun _ => True) (okp := fun _ => True) rfl (fun _ hk => hk) trivial (of_decide_eq_true aS) (Nat.le_trans (Nat.mul_le_mul_right _ (of_decide_eq_true aS : (l0_0.length : Int).toNat ≤ 35184372088832)) (by omega)) (Below.refl _ _) (Nat.le_refl _) ?_; intro v109 w10 ho11 hb hg_ hnew_; clear hg_ hnew_; (first | rw [← Ny108.out] at ho11 | (simp only [Int.reduceToNat] at ho11; rw [← Ny108.out] at ho11)); have n0_ := Aside0.mk (Kd.R_lower ho11 (below_size (bB HB))); have n1_ := Aside0.mk (bW BK107 hb); have n2_ := Aside0.mk (below_step (bB HB) hb); clear BK107; clear HB; have HO110 := n0_; have BK107 := n1_; have HB := n2_; clear n0_ n1_ n2_; clear hb ho11; obtain ⟨Ao12, co12, eo12⟩ := Kd.R_slice HO110.out; subst eo12))
                     go_loopg [35] ki (fun kq v35 w' => ∃ (x10_1 : List Int) (x35_1 : Int), v35 = .int .i64 x35_1 ∧ Aside0 (impl_Panel_switches.r0 kq x7o dv (l0_1.length : Int) iv x10_1 (y108.length : Int) x35_1 l0_0 l0_1 = some yq) ∧ Aside0 (kq ≤ ki) ∧ Aside0 (Kd.R (Kd.int .i64) 3 w' wq.heap.size (fun _ => True) (.slice Ao12 y108.length co12) x10_1) ∧ Aside0 (w'.heap[gb107]? = some (.cells #[(.slice A0_0 l0_0.length c0_0), (.slice A0_1 l0_1.length c0_1)] 33 (0, 0))) ∧ Aside0 (Below wq.heap.size wq w'))
                     case atStart => exact ⟨(y108), (0), rD, H', ⟨Nat.le_refl _⟩, ⟨pR HO110⟩, ⟨pB BK107⟩, ⟨bB HB⟩⟩
                     case round =>
                      clear H'
                      try clear c6
                      try clear c6b0
                      try clear c6b1
                      try clear c7
                      try clear c7b0
                      try clear c7b1
                      obtain ⟨x10_1, x35_1, rfl, HA, HK1, HO_10, BK107, HB⟩ := hrel
                      have hl10_1 := (Kd.R_reads' HO_10.out).1
                      rw [hl10_1] at HO_10
                      (try simp only [hl10_1])
                      (try simp only [hl10_1] at BK107)
                      cases gk with
                      | zero => exact absurd HA.out (by simp [impl_Panel_switches.r0])
                      | succ k1 =>
                       have H := HA.out
                       clear HA
                       simp only [impl_Panel_switches.r0] at H
                       by_cases c13 : x35_1 < (y108.length : Int)
                       · rw [if_pos c13] at H
                         have c13b0 : decide (x35_1 < (y108.length : Int)) = true := decide_eq_true c13
                         (try simp only [hl10_1] at c13b0)
                         (try simp only [hl10_1] at c13b0)
                         clear c13
                         by_cases c14 : dv = (l0_1.length : Int)
                         · rw [if_pos c14] at H
                           have c14b0 : (dv == (l0_1.length : Int)) = true := beq_iff_eq.mpr c14
                           have c14b1 : (dv != (l0_1.length : Int)) = false := bne_eq_false_iff_eq.mpr c14
                           clear c14
                           have H' := Aside0.mk H
                           clear H
                           go_wp2
                           (try simp only [← hl10_1])
                           go_roundg k1
                           case measure => have := HK1.out; omega
                           case rel => exact ⟨(x10_1), (wrap64 (x35_1 + 1)), rD, H', ⟨by have := HK1.out; omega⟩, ⟨by (try simp only [hl10_1]); (with_reducible repeat (first | apply Kd.R_alloc | apply Kd.R_drewN | apply Kd.R_drew)); exact HO_10.out⟩, ⟨by (try simp only [hl10_1]); (with_reducible repeat (first | refine blk_drewN ?_ _ | refine blk_drew ?_ | refine blk_alloc ?_ _)); exact BK107.out⟩, ⟨bB HB⟩⟩
                         · rw [if_neg c14] at H
                           have c14b0 : (dv == (l0_1.length : Int)) = false := beq_eq_false_iff_ne.mpr c14
                           have c14b1 : (dv != (l0_1.length : Int)) = true := bne_iff_ne.mpr c14
                           obtain ⟨ji15, hji15⟩ : ∃ j_ : Int, (wrap64 (dv + 1)) = j_ := ⟨_, rfl⟩
                           replace H : (if 0 ≤ (ji15) then (if (ji15) < (x7o.length : Int) then (if 0 ≤ iv then (if iv < ((rd_L2 x7o (ji15)).length : Int) then (if 0 ≤ x35_1 then (if x35_1 < ((rd_L1 (rd_L2 x7o (ji15)) iv).length : Int) then (if x35_1 < (x10_1.length : Int) then ((some (x10_1.set (x35_1 : Int).toNat (rd (rd_L1 (rd_L2 x7o (ji15)) iv) x35_1) : List Int)).bind fun y114 => (if iv > 0 then (if 0 ≤ (wrap64 (iv - 1)) then (if (wrap64 (iv - 1)) < ((rd_L2 x7o (ji15)).length : Int) then ((slices_Min_int_int.f k1 (rd_L1 (rd_L2 x7o (ji15)) (wrap64 (iv - 1)))).bind fun t118 => ((some (y114.set (x35_1 : Int).toNat (mn (rd y114 x35_1) t118) : List Int)).bind fun y119 => ((impl_Panel_wrong.f l0_0 l0_1 x35_1 dv).bind fun t120 => (if t120 = true then (impl_Panel_switches.r0 k1 x7o dv (l0_1.length : Int) iv (y119.set (x35_1 : Int).toNat (wrap64 ((rd y119 x35_1) + 1))) (y108.length : Int) (wrap64 (x35_1 + 1)) l0_0 l0_1) else (impl_Panel_switches.r0 k1 x7o dv (l0_1.length : Int) iv y119 (y108.length : Int) (wrap64 (x35_1 + 1)) l0_0 l0_1))))) else (none)) else (none)) else ((impl_Panel_wrong.f l0_0 l0_1 x35_1 dv).bind fun t123 => (if t123 = true then (impl_Panel_switches.r0 k1 x7o dv (l0_1.length : Int) iv (y114.set (x35_1 : Int).toNat (wrap64 ((rd y114 x35_1) + 1))) (y108.length : Int) (wrap64 (x35_1 + 1)) l0_0 l0_1) else (impl_Panel_switches.r0 k1 x7o dv (l0_1.length : Int) iv y114 (y108.length : Int) (wrap64 (x35_1 + 1)) l0_0 l0_1))))) else (none)) else (none)) else (none)) else (none)) else (none)) else (none)) else (none)) = some yq := by first | (rw [hji15] at H; exact H) | (simp only [hji15] at H ⊢; exact H)
                           have hji15w : (IntKind.i64.wrap (dv + 1)) = ji15 := (i64_w _).trans hji15
                           by_cases c16 : 0 ≤ (ji15)
                           · rw [if_pos c16] at H
                             have c16b0 : decide (0 ≤ (ji15)) = true := decide_eq_true c16
                             clear c16
                             by_cases c17 : (ji15) < (x7o.length : Int)
                             · rw [if_pos c17] at H
                               have c17b0 : decide ((ji15) < (x7o.length : Int)) = true := decide_eq_true c17
                               clear c17
                               by_cases c18 : 0 ≤ iv
                               · rw [if_pos c18] at H
                                 have c18b0 : decide (0 ≤ iv) = true := decide_eq_true c18
                                 clear c18
                                 by_cases c19 : iv < ((rd_L2 x7o (ji15)).length : Int)
                                 · rw [if_pos c19] at H
                                   have c19b0 : decide (iv < ((rd_L2 x7o (ji15)).length : Int)) = true := decide_eq_true c19
                                   clear c19
                                   by_cases c20 : 0 ≤ x35_1
                                   · rw [if_pos c20] at H
                                     have c20b0 : decide (0 ≤ x35_1) = true := decide_eq_true c20
                                     clear c20
                                     by_cases c21 : x35_1 < ((rd_L1 (rd_L2 x7o (ji15)) iv).length : Int)
                                     · rw [if_pos c21] at H
                                       have c21b0 : decide (x35_1 < ((rd_L1 (rd_L2 x7o (ji15)) iv).length : Int)) = true := decide_eq_true c21
                                       clear c21
                                       by_cases c22 : x35_1 < (x10_1.length : Int)
                                       · rw [if_pos c22] at H
                                         have c22b0 : decide (x35_1 < (x10_1.length : Int)) = true := decide_eq_true c22
                                         (try simp only [hl10_1] at c22b0)
                                         (try simp only [hl10_1] at c22b0)
                                         clear c22
                                         obtain ⟨y114, hy114⟩ : ∃ y_ : List Int, y_ = (x10_1.set (x35_1 : Int).toNat (rd (rd_L1 (rd_L2 x7o (ji15)) iv) x35_1)) := ⟨_, rfl⟩
                                         replace H : (if iv > 0 then (if 0 ≤ (wrap64 (iv - 1)) then (if (wrap64 (iv - 1)) < ((rd_L2 x7o (ji15)).length : Int) then ((slices_Min_int_int.f k1 (rd_L1 (rd_L2 x7o (ji15)) (wrap64 (iv - 1)))).bind fun t118 => ((some (y114.set (x35_1 : Int).toNat (mn (rd y114 x35_1) t118) : List Int)).bind fun y119 => ((impl_Panel_wrong.f l0_0 l0_1 x35_1 dv).bind fun t120 => (if t120 = true then (impl_Panel_switches.r0 k1 x7o dv (l0_1.length : Int) iv (y119.set (x35_1 : Int).toNat (wrap64 ((rd y119 x35_1) + 1))) (y108.length : Int) (wrap64 (x35_1 + 1)) l0_0 l0_1) else (impl_Panel_switches.r0 k1 x7o dv (l0_1.length : Int) iv y119 (y108.length : Int) (wrap64 (x35_1 + 1)) l0_0 l0_1))))) else (none)) else (none)) else ((impl_Panel_wrong.f l0_0 l0_1 x35_1 dv).bind fun t123 => (if t123 = true then (impl_Panel_switches.r0 k1 x7o dv (l0_1.length : Int) iv (y114.set (x35_1 : Int).toNat (wrap64 ((rd y114 x35_1) + 1))) (y108.length : Int) (wrap64 (x35_1 + 1)) l0_0 l0_1) else (impl_Panel_switches.r0 k1 x7o dv (l0_1.length : Int) iv y114 (y108.length : Int) (wrap64 (x35_1 + 1)) l0_0 l0_1)))) = some yq := by first | (rw [hy114]; with_reducible exact H) | (have H2_ := (Option.bind_some _ _).symm.trans H; rw [hy114]; with_reducible exact H2_) | (have H2_ := (Option.bind_some _ _).symm.trans H; with_reducible exact H2_) | with_reducible exact H | (rw [hy114]; exact H) | exact H
                                         have Ny114 := Aside0.mk hy114
                                         clear hy114
                                         by_cases c24 : iv > 0
                                         · rw [if_pos c24] at H
                                           have c24b0 : decide (0 < iv) = true := decide_eq_true c24
                                           clear c24
                                           obtain ⟨ji25, hji25⟩ : ∃ j_ : Int, (wrap64 (iv - 1)) = j_ := ⟨_, rfl⟩
                                           replace H : (if 0 ≤ (ji25) then (if (ji25) < ((rd_L2 x7o (ji15)).length : Int) then ((slices_Min_int_int.f k1 (rd_L1 (rd_L2 x7o (ji15)) (ji25))).bind fun t118 => ((some (y114.set (x35_1 : Int).toNat (mn (rd y114 x35_1) t118) : List Int)).bind fun y119 => ((impl_Panel_wrong.f l0_0 l0_1 x35_1 dv).bind fun t120 => (if t120 = true then (impl_Panel_switches.r0 k1 x7o dv (l0_1.length : Int) iv (y119.set (x35_1 : Int).toNat (wrap64 ((rd y119 x35_1) + 1))) (y108.length : Int) (wrap64 (x35_1 + 1)) l0_0 l0_1) else (impl_Panel_switches.r0 k1 x7o dv (l0_1.length : Int) iv y119 (y108.length : Int) (wrap64 (x35_1 + 1)) l0_0 l0_1))))) else (none)) else (none)) = some yq := by first | (rw [hji25] at H; exact H) | (simp only [hji25] at H ⊢; exact H)
                                           have hji25w : (IntKind.i64.wrap (iv - 1)) = ji25 := (i64_w _).trans hji25
                                           by_cases c26 : 0 ≤ (ji25)
                                           · rw [if_pos c26] at H
                                             have c26b0 : decide (0 ≤ (ji25)) = true := decide_eq_true c26
                                             clear c26
                                             by_cases c27 : (ji25) < ((rd_L2 x7o (ji15)).length : Int)
                                             · rw [if_pos c27] at H
                                               have c27b0 : decide ((ji25) < ((rd_L2 x7o (ji15)).length : Int)) = true := decide_eq_true c27
                                               clear c27
                                               replace H := Option.bind_eq_some_iff.mp H
                                               obtain ⟨t118, A280, H⟩ := H
                                               replace H : ((some (y114.set (x35_1 : Int).toNat (mn (rd y114 x35_1) t118) : List Int)).bind fun y119 => ((impl_Panel_wrong.f l0_0 l0_1 x35_1 dv).bind fun t120 => (if t120 = true then (impl_Panel_switches.r0 k1 x7o dv (l0_1.length : Int) iv (y119.set (x35_1 : Int).toNat (wrap64 ((rd y119 x35_1) + 1))) (y108.length : Int) (wrap64 (x35_1 + 1)) l0_0 l0_1) else (impl_Panel_switches.r0 k1 x7o dv (l0_1.length : Int) iv y119 (y108.length : Int) (wrap64 (x35_1 + 1)) l0_0 l0_1)))) = some yq := H
                                               have A28 := Aside0.mk A280
                                               clear A280
                                               obtain ⟨ji29, hji29⟩ : ∃ j_ : Int, (mn (rd y114 x35_1) t118) = j_ := ⟨_, rfl⟩
                                               replace H : ((some (y114.set (x35_1 : Int).toNat (ji29) : List Int)).bind fun y119 => ((impl_Panel_wrong.f l0_0 l0_1 x35_1 dv).bind fun t120 => (if t120 = true then (impl_Panel_switches.r0 k1 x7o dv (l0_1.length : Int) iv (y119.set (x35_1 : Int).toNat (wrap64 ((rd y119 x35_1) + 1))) (y108.length : Int) (wrap64 (x35_1 + 1)) l0_0 l0_1) else (impl_Panel_switches.r0 k1 x7o dv (l0_1.length : Int) iv y119 (y108.length : Int) (wrap64 (x35_1 + 1)) l0_0 l0_1)))) = some yq := by first | (rw [hji29] at H; exact H) | (simp only [hji29] at H ⊢; exact H)
                                               (try rw [hji29] at A28)
                                               have hji29_ : (if t118 < (rd y114 x35_1) then t118 else (rd y114 x35_1)) = ji29 := hji29
                                               obtain ⟨y119, hy119⟩ : ∃ y_ : List Int, y_ = (y114.set (x35_1 : Int).toNat (ji29)) := ⟨_, rfl⟩
                                               replace H : ((impl_Panel_wrong.f l0_0 l0_1 x35_1 dv).bind fun t120 => (if t120 = true then (impl_Panel_switches.r0 k1 x7o dv (l0_1.length : Int) iv (y119.set (x35_1 : Int).toNat (wrap64 ((rd y119 x35_1) + 1))) (y108.length : Int) (wrap64 (x35_1 + 1)) l0_0 l0_1) else (impl_Panel_switches.r0 k1 x7o dv (l0_1.length : Int) iv y119 (y108.length : Int) (wrap64 (x35_1 + 1)) l0_0 l0_1))) = some yq := by first | (rw [hy119]; with_reducible exact H) | (have H2_ := (Option.bind_some _ _).symm.trans H; rw [hy119]; with_reducible exact H2_) | (have H2_ := (Option.bind_some _ _).symm.trans H; with_reducible exact H2_) | with_reducible exact H | (rw [hy119]; exact H) | exact H
                                               have Ny119 := Aside0.mk hy119
                                               clear hy119
                                               replace H := Option.bind_eq_some_iff.mp H
                                               obtain ⟨t120, A310, H⟩ := H
                                               replace H : (if t120 = true then (impl_Panel_switches.r0 k1 x7o dv (l0_1.length : Int) iv (y119.set (x35_1 : Int).toNat (wrap64 ((rd y119 x35_1) + 1))) (y108.length : Int) (wrap64 (x35_1 + 1)) l0_0 l0_1) else (impl_Panel_switches.r0 k1 x7o dv (l0_1.length : Int) iv y119 (y108.length : Int) (wrap64 (x35_1 + 1)) l0_0 l0_1)) = some yq := H
                                               have A31 := Aside0.mk A310
                                               clear A310
                                               by_cases c32 : t120 = true
                                               · subst c32
                                                 have H1 : (impl_Panel_switches.r0 k1 x7o dv (l0_1.length : Int) iv (y119.set (x35_1 : Int).toNat (wrap64 ((rd y119 x35_1) + 1))) (y108.length : Int) (wrap64 (x35_1 + 1)) l0_0 l0_1) = some yq := by rw [if_pos rfl] at H; exact H
                                                 clear H
                                                 have H := H1
                                                 clear H1
                                                 obtain ⟨y122, hy122⟩ : ∃ y_ : List Int, y_ = (y119.set (x35_1 : Int).toNat (wrap64 ((rd y119 x35_1) + 1))) := ⟨_, rfl⟩
                                                 replace H : (impl_Panel_switches.r0 k1 x7o dv (l0_1.length : Int) iv y122 (y108.length : Int) (wrap64 (x35_1 + 1)) l0_0 l0_1) = some yq := by first | (rw [hy122]; with_reducible exact H) | (have H2_ := (Option.bind_some _ _).symm.trans H; rw [hy122]; with_reducible exact H2_) | (have H2_ := (Option.bind_some _ _).symm.trans H; with_reducible exact H2_) | with_reducible exact H | (rw [hy122]; exact H) | exact H
                                                 have Ny122 := Aside0.mk hy122
                                                 clear hy122
                                                 have H' := Aside0.mk H
                                                 clear H
                                                 have p111 : 0 ≤ ((ji15) : Int) := of_decide_eq_true aS
                                                 have q111 : (ji15) < (x7o.length : Int) := of_decide_eq_true aS
                                                 obtain ⟨ad111, A111_0, c111_0, e111, hx111_0, hl111_0, hi111_0⟩ := at_L2 HRq.out (ji15) p111 q111
                                                 cases e111
                                                 replace hx111_0 := (HB.out.cell (World.block_lt_of_cell? wq _ hx111_0)).trans hx111_0
                                                 have HR111_0 := Aside0.mk hi111_0
                                                 have HC111_0 := Aside0.mk hl111_0
                                                 clear hi111_0 hl111_0
                                                 replace p111 := eq_true p111
                                                 replace q111 := eq_true q111
                                                 have p112 : 0 ≤ (iv : Int) := of_decide_eq_true aS
                                                 have q112 : iv < ((rd_L2 x7o (ji15)).length : Int) := of_decide_eq_true aS
                                                 obtain ⟨ad112, A112_0, c112_0, e112, hx112_0, hl112_0, hi112_0⟩ := at_L1 HR111_0.out iv p112 q112
                                                 cases e112
                                                 replace hx112_0 := (HB.out.cell (World.block_lt_of_cell? wq _ hx112_0)).trans hx112_0
                                                 have HR112_0 := Aside0.mk hi112_0
                                                 have HC112_0 := Aside0.mk hl112_0
                                                 clear hi112_0 hl112_0
                                                 replace p112 := eq_true p112
                                                 replace q112 := eq_true q112
                                                 have p113 : 0 ≤ (x35_1 : Int) := of_decide_eq_true aS
                                                 have q113 : x35_1 < ((rd_L1 (rd_L2 x7o (ji15)) iv).length : Int) := of_decide_eq_true aS
                                                 obtain ⟨ad113, e113, hx113_0⟩ := Kd.at_int HR112_0.out x35_1 p113 q113
                                                 cases e113
                                                 replace hx113_0 := (HB.out.cell (World.block_lt_of_cell? wq _ hx113_0)).trans hx113_0
                                                 replace p113 := eq_true p113
                                                 replace q113 := eq_true q113
                                                 have p23 : 0 ≤ (x35_1 : Int) := of_decide_eq_true aS
                                                 have q23 : (x35_1 : Int) < ((x10_1.length : Int) : Int) := of_decide_eq_true aS
                                                 obtain ⟨go23, co23, eo23, gb23, gl23, cl23, HG23⟩ := Kd.R_form HO_10.out (by omega)
                                                 (first | cases eo23 | (injection eo23 with ea_ en_ ec_; (first | subst ea_ | (injection ea_ with ea_; subst ea_)); subst ec_; clear en_))
                                                 have GB23 := Aside0.mk gb23
                                                 have GG23 := Aside0.mk HG23
                                                 clear gb23 gl23 HG23
                                                 obtain ⟨hx23_0, hf23_0⟩ := Kd.R_celln 0 HO_10.out (x35_1 : Int) p23 q23
                                                 replace p23 := eq_true p23
                                                 replace q23 := eq_true q23
                                                 have HP34 := Kd.R_putg HO_10.out (x35_1 : Int) (rd (rd_L1 (rd_L2 x7o (ji15)) iv) x35_1)
                                                 try go_wp2_with (first | ((with_reducible refine gate_store (t := 3) (p := 54) rfl ?_); refine store_event (t := 3) (p := 54) (v := ?vo_w35) (w1 := (wr.setCell ⟨go23, (x35_1 : Int).toNat, none⟩ (.int .i64 (rd (rd_L1 (rd_L2 x7o (ji15)) iv) x35_1)))) ?hg ?ho ?hn ?hr ?_; (case ho => rfl); (case hg => rfl); (case hn => rfl); (case hr => first | (go_simp; done) | (go_simp; rfl)); intro w35 hw; have hg : wr.grownBy w35 (some go23) := (by rw [hw]; exact HP34.2); have hp_ : Kd.R (Kd.int .i64) 3 w35 wq.heap.size (fun _ => True) (.slice (some ⟨go23, 0, none⟩) x10_1.length co12) y114 := (by rw [hw, Ny114.out]; exact HP34.1); clear HP34; have n0_ := Aside0.mk (hp_); have n1_ := Aside0.mk (blk_grown (g := gb107) (o := .cells #[.slice A0_0 l0_0.length c0_0, .slice A0_1 l0_1.length c0_1] 33 (0, 0)) (pB BK107) hg (Kd.R_ne HO_10.out BK107.out (by decide))); have n2_ := Aside0.mk ((by rw [hw]; exact below_set (HB.out) GB23.out : Below wq.heap.size wq w35)); clear HO_10; clear BK107; clear HB; have HO_10 := n0_; have BK107 := n1_; have HB := n2_; clear n0_ n1_ n2_; clear hg hw hp_))
                                                 have n0_ := Aside0.mk (Kd.R_drew HO_10.out)
                                                 have n1_ := Aside0.mk (blk_drew BK107.out)
                                                 have n2_ := Aside0.mk (below_drew1 HB.out)
                                                 clear HO_10
                                                 clear BK107
                                                 clear HB
                                                 have HO_10 := n0_
                                                 have BK107 := n1_
                                                 have HB := n2_
                                                 clear n0_ n1_ n2_
                                                 have p115 : 0 ≤ (x35_1 : Int) := of_decide_eq_true aS
                                                 have q115 : x35_1 < (y114.length : Int) := (by have h_ : (x35_1 : Int) < ((x10_1.length : Int) : Int) := of_decide_eq_true aS; first | (have e_ := (Kd.R_reads' HO_10.out).1; omega) | simpa only [Ny114.out, List.length_set] using h_)
                                                 have ql115 : ((x35_1 : Int) < ((x10_1.length : Int) : Int)) = True := eq_true (of_decide_eq_true aS)
                                                 obtain ⟨ad115, e115, hx115_0⟩ := Kd.at_int (Kd.R_reads' HO_10.out).2.2 x35_1 p115 q115
                                                 obtain rfl : (⟨go23, 0, none⟩ : Addr) = ad115 := (by injection e115)
                                                 (first | simp only [add_plain] at hx115_0 | simp only [add_at] at hx115_0 | simp only [Addr.add, Nat.zero_add] at hx115_0 | skip)
                                                 replace p115 := eq_true p115
                                                 replace q115 := eq_true q115
                                                 have p116 : 0 ≤ ((ji15) : Int) := of_decide_eq_true aS
                                                 have q116 : (ji15) < (x7o.length : Int) := of_decide_eq_true aS
                                                 obtain ⟨ad116, A116_0, c116_0, e116, hx116_0, hl116_0, hi116_0⟩ := at_L2 HRq.out (ji15) p116 q116
                                                 have hw116_0 := hx116_0
                                                 obtain rfl : adT = ad116 := (by injection e116)
                                                 replace hx116_0 := (HB.out.cell (World.block_lt_of_cell? wq _ hx116_0)).trans hx116_0
                                                 have HR116_0 := Aside0.mk hi116_0
                                                 have HC116_0 := Aside0.mk hl116_0
                                                 clear hi116_0 hl116_0
                                                 replace p116 := eq_true p116
                                                 replace q116 := eq_true q116
                                                 have p117 : 0 ≤ ((ji25) : Int) := of_decide_eq_true aS
                                                 have q117 : (ji25) < ((rd_L2 x7o (ji15)).length : Int) := of_decide_eq_true aS
                                                 obtain ⟨ad117, A117_0, c117_0, e117, hx117_0, hl117_0, hi117_0⟩ := at_L1 HR116_0.out (ji25) p117 q117
                                                 have hw117_0 := hx117_0
                                                 cases e117
                                                 replace hx117_0 := (HB.out.cell (World.block_lt_of_cell? wq _ hx117_0)).trans hx117_0
                                                 have HR117_0 := Aside0.mk hi117_0
                                                 have HC117_0 := Aside0.mk hl117_0
                                                 clear hi117_0 hl117_0
                                                 replace p117 := eq_true p117
                                                 replace q117 := eq_true q117
                                                 refine start_ (n := 19) (S := fun w' => w'.cell? ⟨go23, (x35_1).toNat, none⟩ = some (.int .i64 (rd y114 x35_1)) ∧ w'.cell? (adT.add ((ji15)).toNat) = some (.slice (some ad117) (rd_L2 x7o (ji15)).length c116_0) ∧ w'.cell? (ad117.add ((ji25)).toNat) = some (.slice A117_0 (rd_L1 (rd_L2 x7o (ji15)) (ji25)).length c117_0)) (ds := [18]) #[false, false, false, false, false, false, false, false, false, false, false, false, false, false, false, false, false, false, false] (by kernel_rfl) rfl rfl ⟨hx115_0, ((HB.out.cell (World.block_lt_of_cell? wq _ hw116_0)).trans hw116_0), ((HB.out.cell (World.block_lt_of_cell? wq _ hw117_0)).trans hw117_0)⟩ (fun hHeld => ?_); refine with_tabW impl_Panel_switches.tab16 impl_Panel_switches.bits16 (fun HT_ HW_ => ?_)
                                                 generalize w35.drew = w36 at HO_10 BK107 HB HR116_0 HR117_0 hx115_0 hx116_0 hx117_0 hHeld ⊢
                                                 refine pure_ (i := 0) (N := some 57) (v := ?_) (a' := ?_) #[true, false, false, false, false, false, false, false, false, false, false, false, false, false, false, false, false, false, false] rfl rfl (any_of HT_.out (by kernel_rfl)) (fun _ _ _ h => h) (Or.inl ⟨by rfl, ?_⟩) ?_ ?_
                                                 rotate_left
                                                 · intro w'
                                                   go_simp
                                                   with_reducible rfl
                                                 rotate_left
                                                 · exact aP
                                                 refine pure_ (i := 1) (N := some 58) (v := ?_) (a' := ?_) #[true, true, false, false, false, false, false, false, false, false, false, false, false, false, false, false, false, false, false] rfl rfl (any_of HT_.out (by kernel_rfl)) (fun _ _ _ h => h) (Or.inl ⟨by rfl, ?_⟩) ?_ ?_
                                                 rotate_left
                                                 · intro w'
                                                   go_simp
                                                   with_reducible rfl
                                                 rotate_left
                                                 · exact aP
                                                 refine pure_ (i := 2) (N := some 59) (v := ?_) (a' := ?_) #[true, true, true, false, false, false, false, false, false, false, false, false, false, false, false, false, false, false, false] rfl rfl (any_of HT_.out (by kernel_rfl)) (fun _ _ _ h => h) (Or.inl ⟨by rfl, ?_⟩) ?_ ?_
                                                 rotate_left
                                                 · intro w'
                                                   go_simp
                                                   with_reducible rfl
                                                 rotate_left
                                                 · exact aP
                                                 refine pure_ (i := 3) (N := some 60) (v := ?_) (a' := ?_) #[true, true, true, true, false, false, false, false, false, false, false, false, false, false, false, false, false, false, false] rfl rfl (any_of HT_.out (by kernel_rfl)) (fun _ _ _ h => h) (Or.inl ⟨by rfl, ?_⟩) ?_ ?_
                                                 rotate_left
                                                 · intro w'
                                                   go_simp
                                                   with_reducible rfl
                                                 rotate_left
                                                 · exact aP
                                                 refine pure_ (i := 4) (N := some 61) (v := ?_) (a' := ?_) #[true, true, true, true, true, false, false, false, false, false, false, false, false, false, false, false, false, false, false] rfl rfl (any_of HT_.out (by kernel_rfl)) (fun _ _ _ h => h) (Or.inl ⟨by rfl, ?_⟩) ?_ ?_
                                                 rotate_left
                                                 · intro w'
                                                   go_simp
                                                   with_reducible rfl
                                                 rotate_left
                                                 · exact aP
                                                 refine pure_ (i := 6) (N := some 63) (v := ?_) (a' := ?_) #[true, true, true, true, true, false, true, false, false, false, false, false, false, false, false, false, false, false, false] rfl rfl (any_of HT_.out (by kernel_rfl)) (fun _ _ _ h => h) (Or.inl ⟨by rfl, ?_⟩) ?_ ?_
                                                 rotate_left
                                                 · intro w'
                                                   go_simp
                                                   with_reducible rfl
                                                 rotate_left
                                                 · exact aP
                                                 refine pure_ (i := 7) (N := some 64) (v := ?_) (a' := ?_) #[true, true, true, true, true, false, true, true, false, false, false, false, false, false, false, false, false, false, false] rfl rfl (any_of HT_.out (by kernel_rfl)) (fun _ _ _ h => h) (Or.inl ⟨by rfl, ?_⟩) ?_ ?_
                                                 rotate_left
                                                 · intro w'
                                                   go_simp
                                                   with_reducible rfl
                                                 rotate_left
                                                 · exact aP
                                                 refine pure_ (i := 8) (N := some 65) (v := ?_) (a' := ?_) #[true, true, true, true, true, false, true, true, true, false, false, false, false, false, false, false, false, false, false] rfl rfl (any_of HT_.out (by kernel_rfl)) (fun _ _ _ h => h) (Or.inl ⟨by rfl, ?_⟩) ?_ ?_
                                                 rotate_left
                                                 · intro w'
                                                   go_simp
                                                   with_reducible rfl
                                                 rotate_left
                                                 · exact aP
                                                 refine pure_ (i := 9) (N := some 66) (v := ?_) (a' := ?_) #[true, true, true, true, true, false, true, true, true, true, false, false, false, false, false, false, false, false, false] rfl rfl (any_of HT_.out (by kernel_rfl)) (fun _ _ _ h => h) (Or.inl ⟨by rfl, ?_⟩) ?_ ?_
                                                 rotate_left
                                                 · intro w'
                                                   go_simp
                                                   with_reducible rfl
                                                 rotate_left
                                                 · exact aP
                                                 refine pure_ (i := 11) (N := some 68) (v := ?_) (a' := ?_) #[true, true, true, true, true, false, true, true, true, true, false, true, false, false, false, false, false, false, false] rfl rfl (any_of HT_.out (by kernel_rfl)) (fun _ _ _ h => h) (Or.inl ⟨by rfl, ?_⟩) ?_ ?_
                                                 rotate_left
                                                 · intro w'
                                                   go_simp
                                                   with_reducible rfl
                                                 rotate_left
                                                 · exact aP
                                                 refine pure_ (i := 12) (N := some 69) (v := ?_) (a' := ?_) #[true, true, true, true, true, false, true, true, true, true, false, true, true, false, false, false, false, false, false] rfl rfl (any_of HT_.out (by kernel_rfl)) (fun _ _ _ h => h) (Or.inl ⟨by rfl, ?_⟩) ?_ ?_
                                                 rotate_left
                                                 · intro w'
                                                   go_simp
                                                   with_reducible rfl
                                                 rotate_left
                                                 · exact aP
                                                 refine take_ (i := 5) (N := some 62) (v := ?_) (a' := ?_) #[true, true, true, true, true, true, true, true, true, true, false, true, true, false, false, false, false, false, false] rfl rfl (take_ofW HT_.out HW_.out (by kernel_rfl)) (fun _ _ _ h => h) (Or.inl ⟨by rfl, ?_⟩) hHeld ?_ ?_
                                                 rotate_left
                                                 · rintro w' ⟨s0, s1, s2⟩
                                                   go_simp
                                                   with_reducible rfl
                                                 rotate_left
                                                 · exact aP
                                                 refine take_ (i := 10) (N := some 67) (v := ?_) (a' := ?_) #[true, true, true, true, true, true, true, true, true, true, true, true, true, false, false, false, false, false, false] rfl rfl (take_ofW HT_.out HW_.out (by kernel_rfl)) (fun _ _ _ h => h) (Or.inl ⟨by rfl, ?_⟩) hHeld ?_ ?_
                                                 rotate_left
                                                 · rintro w' ⟨s0, s1, s2⟩
                                                   go_simp
                                                   with_reducible rfl
                                                 rotate_left
                                                 · exact aP
                                                 refine pure_ (i := 13) (N := some 70) (v := ?_) (a' := ?_) #[true, true, true, true, true, true, true, true, true, true, true, true, true, true, false, false, false, false, false] rfl rfl (any_of HT_.out (by kernel_rfl)) (fun _ _ _ h => h) (Or.inl ⟨by rfl, ?_⟩) ?_ ?_
                                                 rotate_left
                                                 · intro w'
                                                   go_simp
                                                   with_reducible rfl
                                                 rotate_left
                                                 · exact aP
                                                 refine take_ (i := 14) (N := some 71) (v := ?_) (a' := ?_) #[true, true, true, true, true, true, true, true, true, true, true, true, true, true, true, false, false, false, false] rfl rfl (take_ofW HT_.out HW_.out (by kernel_rfl)) (fun _ _ _ h => h) (Or.inl ⟨by rfl, ?_⟩) hHeld ?_ ?_
                                                 rotate_left
                                                 · rintro w' ⟨s0, s1, s2⟩
                                                   go_simp
                                                   with_reducible rfl
                                                 rotate_left
                                                 · exact aP
                                                 refine one_ (i := 15) (N := some 72) #[true, true, true, true, true, true, true, true, true, true, true, true, true, true, true, true, false, false, false] rfl rfl (one_of HT_.out (by kernel_rfl)) (by decide) (fun K hK => ?_)
                                                 refine goes_ Try.func59 (by kernel_rfl) rfl #[.slice A117_0 (rd_L1 (rd_L2 x7o (ji15)) (ji25)).length c117_0] (by rfl) rfl rfl (by (try simp only [List.map_toArray, List.map_cons, List.map_nil]); first | done | (simp only [hji15, hji25]; rfl) | rfl | (simp only [List.length_drop, List.length_take]; rfl)) ?_
                                                 with_reducible refine (slices_Min_int_int.calls k1 _ _ (rd_L1 (rd_L2 x7o (ji15)) (ji25)) t118 _ ?side1 ?side2 A28.out).mono ?_
                                                 (case side1 => exact cB HR117_0 HB)
                                                 (case side2 => exact HC117_0.out)
                                                 rintro e w37 ⟨rfl, hb⟩
                                                 have HS0_ := (hb.cell (World.block_lt_of_cell? _ _ (hHeld.1))).trans (hHeld.1)
                                                 refine ⟨_, rfl, ?_⟩
                                                 have n0_ := Aside0.mk (Kd.R_below (pR HO_10) hb)
                                                 have n1_ := Aside0.mk (bW BK107 hb)
                                                 have n2_ := Aside0.mk (below_step (bB HB) hb)
                                                 clear HO_10
                                                 clear BK107
                                                 clear HB
                                                 have HO_10 := n0_
                                                 have BK107 := n1_
                                                 have HB := n2_
                                                 clear n0_ n1_ n2_
                                                 (try clear hb)
                                                 (try clear hb2)
                                                 (try clear hk)
                                                 (try clear hi)
                                                 have p30 : 0 ≤ (x35_1 : Int) := of_decide_eq_true aS
                                                 have q30 : (x35_1 : Int) < ((x10_1.length : Int) : Int) := of_decide_eq_true aS
                                                 obtain ⟨hx30_0, hf30_0⟩ := Kd.R_celln 0 HO_10.out (x35_1 : Int) p30 q30
                                                 replace p30 := eq_true p30
                                                 replace q30 := eq_true q30
                                                 have HP38 := Kd.R_putn HO_10.out (x35_1 : Int) ji29
                                                 rw [← Ny119.out] at HP38
                                                 have HQ38 := Aside0.mk HP38
                                                 clear HP38
                                                 refine hK.out _ _ ⟨HS0_, ((HB.out.cell (World.block_lt_of_cell? wq _ hw116_0)).trans hw116_0), ((HB.out.cell (World.block_lt_of_cell? wq _ hw117_0)).trans hw117_0)⟩ (fun hHeld => ?_)
                                                 clear hK K
                                                 refine norm_ (a' := ?_) ?_ ?_
                                                 rotate_left
                                                 · show Act.put _ (some 72) _ = _
                                                   simp only [Act.put, List.setIfInBounds_toArray, List.set_cons_zero, List.set_cons_succ, i64_w, i32_w]
                                                   rfl
                                                 refine pure_ (i := 16) (N := some 73) (v := ?_) (a' := ?_) #[true, true, true, true, true, true, true, true, true, true, true, true, true, true, true, true, true, false, false] rfl rfl (any_of HT_.out (by kernel_rfl)) (fun _ _ _ h => h) (Or.inl ⟨by rfl, ?_⟩) ?_ ?_
                                                 rotate_left
                                                 · intro w'
                                                   go_simp
                                                   with_reducible rfl
                                                 rotate_left
                                                 · exact aP
                                                 refine pure_ (i := 17) (N := some 74) (v := ?_) (a' := ?_) #[true, true, true, true, true, true, true, true, true, true, true, true, true, true, true, true, true, true, false] rfl rfl (any_of HT_.out (by kernel_rfl)) (fun _ _ _ h => h) (Or.inl ⟨by rfl, ?_⟩) ?_ ?_
                                                 rotate_left
                                                 · intro w'
                                                   go_simp
                                                   with_reducible rfl
                                                 rotate_left
                                                 · exact aP
                                                 refine last_ (i := 18) (N := none) #[true, true, true, true, true, true, true, true, true, true, true, true, true, true, true, true, true, true, true] rfl rfl (one_of HT_.out (by kernel_rfl)) (by decide) (fun K hK => ?_)
                                                 refine skip_ (w1 := ?_) (by rfl) rfl ?_ ?_
                                                 rotate_left
                                                 · go_simp
                                                   rfl
                                                 refine hK.out _ _ ?_
                                                 clear hK K
                                                 refine done_ (done_of HT_.out (by kernel_rfl)) ?_
                                                 have BKs_ : (w37.setCell ⟨go23, (x35_1 : Int).toNat, none⟩ (.int .i64 ji29)).heap[gb107]? = some (.cells #[.slice A0_0 l0_0.length c0_0, .slice A0_1 l0_1.length c0_1] 33 (0, 0)) := (Below.heap_setCell _ _ _ _ (by have := Kd.R_ne HO_10.out BK107.out (by decide); simpa [Value.ownBlock] using this)).trans BK107.out
                                                 have hcz39_0 : (w37.setCell ⟨go23, (x35_1 : Int).toNat, none⟩ (.int .i64 ji29)).cell? ⟨gb107, 0, none⟩ = some (.slice A0_0 l0_0.length c0_0) := (blk_cell BKs_ 0).trans rfl
                                                 have hcz39_1 : (w37.setCell ⟨go23, (x35_1 : Int).toNat, none⟩ (.int .i64 ji29)).cell? ⟨gb107, 1, none⟩ = some (.slice A0_1 l0_1.length c0_1) := (blk_cell BKs_ 1).trans rfl
                                                 have hfz39_0 := blk_frozen BKs_ 0
                                                 have hfz39_1 := blk_frozen BKs_ 1
                                                 try go_wp2_with (first | ((with_reducible refine gate_callee (f := 104) rfl ?_); refine goesL_ (some 78) rfl rfl Try.func104 (by kernel_rfl) rfl #[.agg #[.slice A0_0 l0_0.length c0_0, .slice A0_1 l0_1.length c0_1], .int .i64 x35_1, .int .i64 dv] rfl aT ?_; (with_reducible refine (impl_Panel_wrong.calls _ _ l0_0 _ _ l0_1 x35_1 dv true _ ?side1 ?side2 ?side3 ?side4 A31.out).mono ?_); (case side1 => exact Kd.C_below HR0_0.out (bD HB GB23 GE107)); (case side2 => exact HC0_0.out); (case side3 => exact Kd.C_below HR0_1.out (bD HB GB23 GE107)); (case side4 => exact HC0_1.out); rintro e w40 ⟨rfl, hb⟩; refine ⟨_, rfl, ?_⟩; have n0_ := Aside0.mk (Kd.R_below (pR HQ38) hb); have n1_ := Aside0.mk (blk_below (g := gb107) (o := .cells #[.slice A0_0 l0_0.length c0_0, .slice A0_1 l0_1.length c0_1] 33 (0, 0)) (by (with_reducible repeat (first | refine blk_drewN ?_ _ | refine blk_drew ?_ | refine blk_alloc ?_ _)); refine blk_far ?_ (by have h_ := Kd.R_ne HO_10.out BK107.out (by decide); intro e_; exact h_ (by rw [e_]; rfl)) _; (with_reducible repeat (first | refine blk_drewN ?_ _ | refine blk_drew ?_ | refine blk_alloc ?_ _)); exact BK107.out) hb); have n2_ := Aside0.mk (below_step (bD HB GB23 GE107) hb); clear HO_10; clear BK107; clear HB; have HO_10 := n0_; have BK107 := n1_; have HB := n2_; clear n0_ n1_ n2_; (try clear hb); (try clear hb2); (try clear hk); (try clear hi); have p121 : 0 ≤ (x35_1 : Int) := of_decide_eq_true aS; have q121 : x35_1 < (y119.length : Int) := (by have h_ : (x35_1 : Int) < ((x10_1.length : Int) : Int) := of_decide_eq_true aS; first | (have e_ := (Kd.R_reads' HO_10.out).1; omega) | simpa only [Ny114.out, Ny119.out, List.length_set] using h_); have ql121 : ((x35_1 : Int) < ((x10_1.length : Int) : Int)) = True := eq_true (of_decide_eq_true aS); obtain ⟨ad121, e121, hx121_0⟩ := Kd.at_int (Kd.R_reads' HO_10.out).2.2 x35_1 p121 q121; obtain rfl : (⟨go23, 0, none⟩ : Addr) = ad121 := (by injection e121); (first | simp only [add_plain] at hx121_0 | simp only [add_at] at hx121_0 | simp only [Addr.add, Nat.zero_add] at hx121_0 | skip); replace p121 := eq_true p121; replace q121 := eq_true q121; have p33 : 0 ≤ (x35_1 : Int) := of_decide_eq_true aS; have q33 : (x35_1 : Int) < ((x10_1.length : Int) : Int) := of_decide_eq_true aS; obtain ⟨hx33_0, hf33_0⟩ := Kd.R_celln 0 HO_10.out (x35_1 : Int) p33 q33; replace p33 := eq_true p33; replace q33 := eq_true q33; obtain ⟨hy41_, hz41_⟩ := Kd.R_celln 0 HO_10.out (x35_1 : Int) (of_decide_eq_true aS) (of_decide_eq_true aS); have HP41 := Kd.R_putg HO_10.out (x35_1 : Int) (wrap64 ((rd y119 x35_1) + 1))) | ((with_reducible refine gate_store (t := 3) (p := 84) rfl ?_); refine store_event (t := 3) (p := 84) (v := ?vo_w42) (w1 := (w40.setCell ⟨go23, (x35_1 : Int).toNat, none⟩ (.int .i64 (wrap64 ((rd y119 x35_1) + 1))))) ?hg ?ho ?hn ?hr ?_; (case ho => rfl); (case hg => rfl); (case hn => rfl); (case hr => first | (go_simp; done) | (go_simp; rfl)); intro w42 hw; have hg : w40.grownBy w42 (some go23) := (by rw [hw]; exact HP41.2); have hp_ : Kd.R (Kd.int .i64) 3 w42 wq.heap.size (fun _ => True) (.slice (some ⟨go23, 0, none⟩) x10_1.length co12) y122 := (by rw [hw, Ny122.out]; exact HP41.1); clear HP41; have n0_ := Aside0.mk (hp_); have n1_ := Aside0.mk (blk_grown (g := gb107) (o := .cells #[.slice A0_0 l0_0.length c0_0, .slice A0_1 l0_1.length c0_1] 33 (0, 0)) (pB BK107) hg (Kd.R_ne HO_10.out BK107.out (by decide))); have n2_ := Aside0.mk ((by rw [hw]; exact below_set (HB.out) GB23.out : Below wq.heap.size wq w42)); clear HO_10; clear BK107; clear HB; have HO_10 := n0_; have BK107 := n1_; have HB := n2_; clear n0_ n1_ n2_; clear hg hw hp_))
                                                 (try simp only [← hl10_1])
                                                 go_roundg k1
                                                 case measure => have := HK1.out; omega
                                                 case rel => exact ⟨(y122), (wrap64 (x35_1 + 1)), rD, H', ⟨by have := HK1.out; omega⟩, ⟨by (try simp only [hl10_1]); (with_reducible repeat (first | apply Kd.R_alloc | apply Kd.R_drewN | apply Kd.R_drew)); exact HO_10.out⟩, ⟨by (try simp only [hl10_1]); (with_reducible repeat (first | refine blk_drewN ?_ _ | refine blk_drew ?_ | refine blk_alloc ?_ _)); exact BK107.out⟩, ⟨bB HB⟩⟩
                                               · replace c32 := Bool.eq_false_iff.mpr c32
                                                 subst c32
                                                 have H1 : (impl_Panel_switches.r0 k1 x7o dv (l0_1.length : Int) iv y119 (y108.length : Int) (wrap64 (x35_1 + 1)) l0_0 l0_1) = some yq := by rw [if_neg (show ¬ (false = true) by decide)] at H; exact H
                                                 clear H
                                                 have H := H1
                                                 clear H1
                                                 have H' := Aside0.mk H
                                                 clear H
                                                 have p111 : 0 ≤ ((ji15) : Int) := of_decide_eq_true aS
                                                 have q111 : (ji15) < (x7o.length : Int) := of_decide_eq_true aS
                                                 obtain ⟨ad111, A111_0, c111_0, e111, hx111_0, hl111_0, hi111_0⟩ := at_L2 HRq.out (ji15) p111 q111
                                                 cases e111
                                                 replace hx111_0 := (HB.out.cell (World.block_lt_of_cell? wq _ hx111_0)).trans hx111_0
                                                 have HR111_0 := Aside0.mk hi111_0
                                                 have HC111_0 := Aside0.mk hl111_0
                                                 clear hi111_0 hl111_0
                                                 replace p111 := eq_true p111
                                                 replace q111 := eq_true q111
                                                 have p112 : 0 ≤ (iv : Int) := of_decide_eq_true aS
                                                 have q112 : iv < ((rd_L2 x7o (ji15)).length : Int) := of_decide_eq_true aS
                                                 obtain ⟨ad112, A112_0, c112_0, e112, hx112_0, hl112_0, hi112_0⟩ := at_L1 HR111_0.out iv p112 q112
                                                 cases e112
                                                 replace hx112_0 := (HB.out.cell (World.block_lt_of_cell? wq _ hx112_0)).trans hx112_0
                                                 have HR112_0 := Aside0.mk hi112_0
                                                 have HC112_0 := Aside0.mk hl112_0
                                                 clear hi112_0 hl112_0
                                                 replace p112 := eq_true p112
                                                 replace q112 := eq_true q112
                                                 have p113 : 0 ≤ (x35_1 : Int) := of_decide_eq_true aS
                                                 have q113 : x35_1 < ((rd_L1 (rd_L2 x7o (ji15)) iv).length : Int) := of_decide_eq_true aS
                                                 obtain ⟨ad113, e113, hx113_0⟩ := Kd.at_int HR112_0.out x35_1 p113 q113
                                                 cases e113
                                                 replace hx113_0 := (HB.out.cell (World.block_lt_of_cell? wq _ hx113_0)).trans hx113_0
                                                 replace p113 := eq_true p113
                                                 replace q113 := eq_true q113
                                                 have p23 : 0 ≤ (x35_1 : Int) := of_decide_eq_true aS
                                                 have q23 : (x35_1 : Int) < ((x10_1.length : Int) : Int) := of_decide_eq_true aS
                                                 obtain ⟨go23, co23, eo23, gb23, gl23, cl23, HG23⟩ := Kd.R_form HO_10.out (by omega)
                                                 (first | cases eo23 | (injection eo23 with ea_ en_ ec_; (first | subst ea_ | (injection ea_ with ea_; subst ea_)); subst ec_; clear en_))
                                                 have GB23 := Aside0.mk gb23
                                                 have GG23 := Aside0.mk HG23
                                                 clear gb23 gl23 HG23
                                                 obtain ⟨hx23_0, hf23_0⟩ := Kd.R_celln 0 HO_10.out (x35_1 : Int) p23 q23
                                                 replace p23 := eq_true p23
                                                 replace q23 := eq_true q23
                                                 have HP43 := Kd.R_putg HO_10.out (x35_1 : Int) (rd (rd_L1 (rd_L2 x7o (ji15)) iv) x35_1)
                                                 try go_wp2_with (first | ((with_reducible refine gate_store (t := 3) (p := 54) rfl ?_); refine store_event (t := 3) (p := 54) (v := ?vo_w44) (w1 := (wr.setCell ⟨go23, (x35_1 : Int).toNat, none⟩ (.int .i64 (rd (rd_L1 (rd_L2 x7o (ji15)) iv) x35_1)))) ?hg ?ho ?hn ?hr ?_; (case ho => rfl); (case hg => rfl); (case hn => rfl); (case hr => first | (go_simp; done) | (go_simp; rfl)); intro w44 hw; have hg : wr.grownBy w44 (some go23) := (by rw [hw]; exact HP43.2); have hp_ : Kd.R (Kd.int .i64) 3 w44 wq.heap.size (fun _ => True) (.slice (some ⟨go23, 0, none⟩) x10_1.length co12) y114 := (by rw [hw, Ny114.out]; exact HP43.1); clear HP43; have n0_ := Aside0.mk (hp_); have n1_ := Aside0.mk (blk_grown (g := gb107) (o := .cells #[.slice A0_0 l0_0.length c0_0, .slice A0_1 l0_1.length c0_1] 33 (0, 0)) (pB BK107) hg (Kd.R_ne HO_10.out BK107.out (by decide))); have n2_ := Aside0.mk ((by rw [hw]; exact below_set (HB.out) GB23.out : Below wq.heap.size wq w44)); clear HO_10; clear BK107; clear HB; have HO_10 := n0_; have BK107 := n1_; have HB := n2_; clear n0_ n1_ n2_; clear hg hw hp_))
                                                 have n0_ := Aside0.mk (Kd.R_drew HO_10.out)
                                                 have n1_ := Aside0.mk (blk_drew BK107.out)
                                                 have n2_ := Aside0.mk (below_drew1 HB.out)
                                                 clear HO_10
                                                 clear BK107
                                                 clear HB
                                                 have HO_10 := n0_
                                                 have BK107 := n1_
                                                 have HB := n2_
                                                 clear n0_ n1_ n2_
                                                 have p115 : 0 ≤ (x35_1 : Int) := of_decide_eq_true aS
                                                 have q115 : x35_1 < (y114.length : Int) := (by have h_ : (x35_1 : Int) < ((x10_1.length : Int) : Int) := of_decide_eq_true aS; first | (have e_ := (Kd.R_reads' HO_10.out).1; omega) | simpa only [Ny114.out, List.length_set] using h_)
                                                 have ql115 : ((x35_1 : Int) < ((x10_1.length : Int) : Int)) = True := eq_true (of_decide_eq_true aS)
                                                 obtain ⟨ad115, e115, hx115_0⟩ := Kd.at_int (Kd.R_reads' HO_10.out).2.2 x35_1 p115 q115
                                                 obtain rfl : (⟨go23, 0, none⟩ : Addr) = ad115 := (by injection e115)
                                                 (first | simp only [add_plain] at hx115_0 | simp only [add_at] at hx115_0 | simp only [Addr.add, Nat.zero_add] at hx115_0 | skip)
                                                 replace p115 := eq_true p115
                                                 replace q115 := eq_true q115
                                                 have p116 : 0 ≤ ((ji15) : Int) := of_decide_eq_true aS
                                                 have q116 : (ji15) < (x7o.length : Int) := of_decide_eq_true aS
                                                 obtain ⟨ad116, A116_0, c116_0, e116, hx116_0, hl116_0, hi116_0⟩ := at_L2 HRq.out (ji15) p116 q116
                                                 have hw116_0 := hx116_0
                                                 obtain rfl : adT = ad116 := (by injection e116)
                                                 replace hx116_0 := (HB.out.cell (World.block_lt_of_cell? wq _ hx116_0)).trans hx116_0
                                                 have HR116_0 := Aside0.mk hi116_0
                                                 have HC116_0 := Aside0.mk hl116_0
                                                 clear hi116_0 hl116_0
                                                 replace p116 := eq_true p116
                                                 replace q116 := eq_true q116
                                                 have p117 : 0 ≤ ((ji25) : Int) := of_decide_eq_true aS
                                                 have q117 : (ji25) < ((rd_L2 x7o (ji15)).length : Int) := of_decide_eq_true aS
                                                 obtain ⟨ad117, A117_0, c117_0, e117, hx117_0, hl117_0, hi117_0⟩ := at_L1 HR116_0.out (ji25) p117 q117
                                                 have hw117_0 := hx117_0
                                                 cases e117
                                                 replace hx117_0 := (HB.out.cell (World.block_lt_of_cell? wq _ hx117_0)).trans hx117_0
                                                 have HR117_0 := Aside0.mk hi117_0
                                                 have HC117_0 := Aside0.mk hl117_0
                                                 clear hi117_0 hl117_0
                                                 replace p117 := eq_true p117
                                                 replace q117 := eq_true q117
                                                 refine start_ (n := 19) (S := fun w' => w'.cell? ⟨go23, (x35_1).toNat, none⟩ = some (.int .i64 (rd y114 x35_1)) ∧ w'.cell? (adT.add ((ji15)).toNat) = some (.slice (some ad117) (rd_L2 x7o (ji15)).length c116_0) ∧ w'.cell? (ad117.add ((ji25)).toNat) = some (.slice A117_0 (rd_L1 (rd_L2 x7o (ji15)) (ji25)).length c117_0)) (ds := [18]) #[false, false, false, false, false, false, false, false, false, false, false, false, false, false, false, false, false, false, false] (by kernel_rfl) rfl rfl ⟨hx115_0, ((HB.out.cell (World.block_lt_of_cell? wq _ hw116_0)).trans hw116_0), ((HB.out.cell (World.block_lt_of_cell? wq _ hw117_0)).trans hw117_0)⟩ (fun hHeld => ?_); refine with_tabW impl_Panel_switches.tab16 impl_Panel_switches.bits16 (fun HT_ HW_ => ?_)
                                                 generalize w44.drew = w45 at HO_10 BK107 HB HR116_0 HR117_0 hx115_0 hx116_0 hx117_0 hHeld ⊢
                                                 refine pure_ (i := 0) (N := some 57) (v := ?_) (a' := ?_) #[true, false, false, false, false, false, false, false, false, false, false, false, false, false, false, false, false, false, false] rfl rfl (any_of HT_.out (by kernel_rfl)) (fun _ _ _ h => h) (Or.inl ⟨by rfl, ?_⟩) ?_ ?_
                                                 rotate_left
                                                 · intro w'
                                                   go_simp
                                                   with_reducible rfl
                                                 rotate_left
                                                 · exact aP
                                                 refine pure_ (i := 1) (N := some 58) (v := ?_) (a' := ?_) #[true, true, false, false, false, false, false, false, false, false, false, false, false, false, false, false, false, false, false] rfl rfl (any_of HT_.out (by kernel_rfl)) (fun _ _ _ h => h) (Or.inl ⟨by rfl, ?_⟩) ?_ ?_
                                                 rotate_left
                                                 · intro w'
                                                   go_simp
                                                   with_reducible rfl
                                                 rotate_left
                                                 · exact aP
                                                 refine pure_ (i := 2) (N := some 59) (v := ?_) (a' := ?_) #[true, true, true, false, false, false, false, false, false, false, false, false, false, false, false, false, false, false, false] rfl rfl (any_of HT_.out (by kernel_rfl)) (fun _ _ _ h => h) (Or.inl ⟨by rfl, ?_⟩) ?_ ?_
                                                 rotate_left
                                                 · intro w'
                                                   go_simp
                                                   with_reducible rfl
                                                 rotate_left
                                                 · exact aP
                                                 refine pure_ (i := 3) (N := some 60) (v := ?_) (a' := ?_) #[true, true, true, true, false, false, false, false, false, false, false, false, false, false, false, false, false, false, false] rfl rfl (any_of HT_.out (by kernel_rfl)) (fun _ _ _ h => h) (Or.inl ⟨by rfl, ?_⟩) ?_ ?_
                                                 rotate_left
                                                 · intro w'
                                                   go_simp
                                                   with_reducible rfl
                                                 rotate_left
                                                 · exact aP
                                                 refine pure_ (i := 4) (N := some 61) (v := ?_) (a' := ?_) #[true, true, true, true, true, false, false, false, false, false, false, false, false, false, false, false, false, false, false] rfl rfl (any_of HT_.out (by kernel_rfl)) (fun _ _ _ h => h) (Or.inl ⟨by rfl, ?_⟩) ?_ ?_
                                                 rotate_left
                                                 · intro w'
                                                   go_simp
                                                   with_reducible rfl
                                                 rotate_left
                                                 · exact aP
                                                 refine pure_ (i := 6) (N := some 63) (v := ?_) (a' := ?_) #[true, true, true, true, true, false, true, false, false, false, false, false, false, false, false, false, false, false, false] rfl rfl (any_of HT_.out (by kernel_rfl)) (fun _ _ _ h => h) (Or.inl ⟨by rfl, ?_⟩) ?_ ?_
                                                 rotate_left
                                                 · intro w'
                                                   go_simp
                                                   with_reducible rfl
                                                 rotate_left
                                                 · exact aP
                                                 refine pure_ (i := 7) (N := some 64) (v := ?_) (a' := ?_) #[true, true, true, true, true, false, true, true, false, false, false, false, false, false, false, false, false, false, false] rfl rfl (any_of HT_.out (by kernel_rfl)) (fun _ _ _ h => h) (Or.inl ⟨by rfl, ?_⟩) ?_ ?_
                                                 rotate_left
                                                 · intro w'
                                                   go_simp
                                                   with_reducible rfl
                                                 rotate_left
                                                 · exact aP
                                                 refine pure_ (i := 8) (N := some 65) (v := ?_) (a' := ?_) #[true, true, true, true, true, false, true, true, true, false, false, false, false, false, false, false, false, false, false] rfl rfl (any_of HT_.out (by kernel_rfl)) (fun _ _ _ h => h) (Or.inl ⟨by rfl, ?_⟩) ?_ ?_
                                                 rotate_left
                                                 · intro w'
                                                   go_simp
                                                   with_reducible rfl
                                                 rotate_left
                                                 · exact aP
                                                 refine pure_ (i := 9) (N := some 66) (v := ?_) (a' := ?_) #[true, true, true, true, true, false, true, true, true, true, false, false, false, false, false, false, false, false, false] rfl rfl (any_of HT_.out (by kernel_rfl)) (fun _ _ _ h => h) (Or.inl ⟨by rfl, ?_⟩) ?_ ?_
                                                 rotate_left
                                                 · intro w'
                                                   go_simp
                                                   with_reducible rfl
                                                 rotate_left
                                                 · exact aP
                                                 refine pure_ (i := 11) (N := some 68) (v := ?_) (a' := ?_) #[true, true, true, true, true, false, true, true, true, true, false, true, false, false, false, false, false, false, false] rfl rfl (any_of HT_.out (by kernel_rfl)) (fun _ _ _ h => h) (Or.inl ⟨by rfl, ?_⟩) ?_ ?_
                                                 rotate_left
                                                 · intro w'
                                                   go_simp
                                                   with_reducible rfl
                                                 rotate_left
                                                 · exact aP
                                                 refine pure_ (i := 12) (N := some 69) (v := ?_) (a' := ?_) #[true, true, true, true, true, false, true, true, true, true, false, true, true, false, false, false, false, false, false] rfl rfl (any_of HT_.out (by kernel_rfl)) (fun _ _ _ h => h) (Or.inl ⟨by rfl, ?_⟩) ?_ ?_
                                                 rotate_left
                                                 · intro w'
                                                   go_simp
                                                   with_reducible rfl
                                                 rotate_left
                                                 · exact aP
                                                 refine take_ (i := 5) (N := some 62) (v := ?_) (a' := ?_) #[true, true, true, true, true, true, true, true, true, true, false, true, true, false, false, false, false, false, false] rfl rfl (take_ofW HT_.out HW_.out (by kernel_rfl)) (fun _ _ _ h => h) (Or.inl ⟨by rfl, ?_⟩) hHeld ?_ ?_
                                                 rotate_left
                                                 · rintro w' ⟨s0, s1, s2⟩
                                                   go_simp
                                                   with_reducible rfl
                                                 rotate_left
                                                 · exact aP
                                                 refine take_ (i := 10) (N := some 67) (v := ?_) (a' := ?_) #[true, true, true, true, true, true, true, true, true, true, true, true, true, false, false, false, false, false, false] rfl rfl (take_ofW HT_.out HW_.out (by kernel_rfl)) (fun _ _ _ h => h) (Or.inl ⟨by rfl, ?_⟩) hHeld ?_ ?_
                                                 rotate_left
                                                 · rintro w' ⟨s0, s1, s2⟩
                                                   go_simp
                                                   with_reducible rfl
                                                 rotate_left
                                                 · exact aP
                                                 refine pure_ (i := 13) (N := some 70) (v := ?_) (a' := ?_) #[true, true, true, true, true, true, true, true, true, true, true, true, true, true, false, false, false, false, false] rfl rfl (any_of HT_.out (by kernel_rfl)) (fun _ _ _ h => h) (Or.inl ⟨by rfl, ?_⟩) ?_ ?_
                                                 rotate_left
                                                 · intro w'
                                                   go_simp
                                                   with_reducible rfl
                                                 rotate_left
                                                 · exact aP
                                                 refine take_ (i := 14) (N := some 71) (v := ?_) (a' := ?_) #[true, true, true, true, true, true, true, true, true, true, true, true, true, true, true, false, false, false, false] rfl rfl (take_ofW HT_.out HW_.out (by kernel_rfl)) (fun _ _ _ h => h) (Or.inl ⟨by rfl, ?_⟩) hHeld ?_ ?_
                                                 rotate_left
                                                 · rintro w' ⟨s0, s1, s2⟩
                                                   go_simp
                                                   with_reducible rfl
                                                 rotate_left
                                                 · exact aP
                                                 refine one_ (i := 15) (N := some 72) #[true, true, true, true, true, true, true, true, true, true, true, true, true, true, true, true, false, false, false] rfl rfl (one_of HT_.out (by kernel_rfl)) (by decide) (fun K hK => ?_)
                                                 refine goes_ Try.func59 (by kernel_rfl) rfl #[.slice A117_0 (rd_L1 (rd_L2 x7o (ji15)) (ji25)).length c117_0] (by rfl) rfl rfl (by (try simp only [List.map_toArray, List.map_cons, List.map_nil]); first | done | (simp only [hji15, hji25]; rfl) | rfl | (simp only [List.length_drop, List.length_take]; rfl)) ?_
                                                 with_reducible refine (slices_Min_int_int.calls k1 _ _ (rd_L1 (rd_L2 x7o (ji15)) (ji25)) t118 _ ?side1 ?side2 A28.out).mono ?_
                                                 (case side1 => exact cB HR117_0 HB)
                                                 (case side2 => exact HC117_0.out)
                                                 rintro e w46 ⟨rfl, hb⟩
                                                 have HS0_ := (hb.cell (World.block_lt_of_cell? _ _ (hHeld.1))).trans (hHeld.1)
                                                 refine ⟨_, rfl, ?_⟩
                                                 have n0_ := Aside0.mk (Kd.R_below (pR HO_10) hb)
                                                 have n1_ := Aside0.mk (bW BK107 hb)
                                                 have n2_ := Aside0.mk (below_step (bB HB) hb)
                                                 clear HO_10
                                                 clear BK107
                                                 clear HB
                                                 have HO_10 := n0_
                                                 have BK107 := n1_
                                                 have HB := n2_
                                                 clear n0_ n1_ n2_
                                                 (try clear hb)
                                                 (try clear hb2)
                                                 (try clear hk)
                                                 (try clear hi)
                                                 have p30 : 0 ≤ (x35_1 : Int) := of_decide_eq_true aS
                                                 have q30 : (x35_1 : Int) < ((x10_1.length : Int) : Int) := of_decide_eq_true aS
                                                 obtain ⟨hx30_0, hf30_0⟩ := Kd.R_celln 0 HO_10.out (x35_1 : Int) p30 q30
                                                 replace p30 := eq_true p30
                                                 replace q30 := eq_true q30
                                                 have HP47 := Kd.R_putn HO_10.out (x35_1 : Int) ji29
                                                 rw [← Ny119.out] at HP47
                                                 have HQ47 := Aside0.mk HP47
                                                 clear HP47
                                                 refine hK.out _ _ ⟨HS0_, ((HB.out.cell (World.block_lt_of_cell? wq _ hw116_0)).trans hw116_0), ((HB.out.cell (World.block_lt_of_cell? wq _ hw117_0)).trans hw117_0)⟩ (fun hHeld => ?_)
                                                 clear hK K
                                                 refine norm_ (a' := ?_) ?_ ?_
                                                 rotate_left
                                                 · show Act.put _ (some 72) _ = _
                                                   simp only [Act.put, List.setIfInBounds_toArray, List.set_cons_zero, List.set_cons_succ, i64_w, i32_w]
                                                   rfl
                                                 refine pure_ (i := 16) (N := some 73) (v := ?_) (a' := ?_) #[true, true, true, true, true, true, true, true, true, true, true, true, true, true, true, true, true, false, false] rfl rfl (any_of HT_.out (by kernel_rfl)) (fun _ _ _ h => h) (Or.inl ⟨by rfl, ?_⟩) ?_ ?_
                                                 rotate_left
                                                 · intro w'
                                                   go_simp
                                                   with_reducible rfl
                                                 rotate_left
                                                 · exact aP
                                                 refine pure_ (i := 17) (N := some 74) (v := ?_) (a' := ?_) #[true, true, true, true, true, true, true, true, true, true, true, true, true, true, true, true, true, true, false] rfl rfl (any_of HT_.out (by kernel_rfl)) (fun _ _ _ h => h) (Or.inl ⟨by rfl, ?_⟩) ?_ ?_
                                                 rotate_left
                                                 · intro w'
                                                   go_simp
                                                   with_reducible rfl
                                                 rotate_left
                                                 · exact aP
                                                 refine last_ (i := 18) (N := none) #[true, true, true, true, true, true, true, true, true, true, true, true, true, true, true, true, true, true, true] rfl rfl (one_of HT_.out (by kernel_rfl)) (by decide) (fun K hK => ?_)
                                                 refine skip_ (w1 := ?_) (by rfl) rfl ?_ ?_
                                                 rotate_left
                                                 · go_simp
                                                   rfl
                                                 refine hK.out _ _ ?_
                                                 clear hK K
                                                 refine done_ (done_of HT_.out (by kernel_rfl)) ?_
                                                 have BKs_ : (w46.setCell ⟨go23, (x35_1 : Int).toNat, none⟩ (.int .i64 ji29)).heap[gb107]? = some (.cells #[.slice A0_0 l0_0.length c0_0, .slice A0_1 l0_1.length c0_1] 33 (0, 0)) := (Below.heap_setCell _ _ _ _ (by have := Kd.R_ne HO_10.out BK107.out (by decide); simpa [Value.ownBlock] using this)).trans BK107.out
                                                 have hcz48_0 : (w46.setCell ⟨go23, (x35_1 : Int).toNat, none⟩ (.int .i64 ji29)).cell? ⟨gb107, 0, none⟩ = some (.slice A0_0 l0_0.length c0_0) := (blk_cell BKs_ 0).trans rfl
                                                 have hcz48_1 : (w46.setCell ⟨go23, (x35_1 : Int).toNat, none⟩ (.int .i64 ji29)).cell? ⟨gb107, 1, none⟩ = some (.slice A0_1 l0_1.length c0_1) := (blk_cell BKs_ 1).trans rfl
                                                 have hfz48_0 := blk_frozen BKs_ 0
                                                 have hfz48_1 := blk_frozen BKs_ 1
                                                 try go_wp2_with (first | ((with_reducible refine gate_callee (f := 104) rfl ?_); refine goesL_ (some 78) rfl rfl Try.func104 (by kernel_rfl) rfl #[.agg #[.slice A0_0 l0_0.length c0_0, .slice A0_1 l0_1.length c0_1], .int .i64 x35_1, .int .i64 dv] rfl aT ?_; (with_reducible refine (impl_Panel_wrong.calls _ _ l0_0 _ _ l0_1 x35_1 dv false _ ?side1 ?side2 ?side3 ?side4 A31.out).mono ?_); (case side1 => exact Kd.C_below HR0_0.out (bD HB GB23 GE107)); (case side2 => exact HC0_0.out); (case side3 => exact Kd.C_below HR0_1.out (bD HB GB23 GE107)); (case side4 => exact HC0_1.out); rintro e w49 ⟨rfl, hb⟩; refine ⟨_, rfl, ?_⟩; have n0_ := Aside0.mk (Kd.R_below (pR HQ47) hb); have n1_ := Aside0.mk (blk_below (g := gb107) (o := .cells #[.slice A0_0 l0_0.length c0_0, .slice A0_1 l0_1.length c0_1] 33 (0, 0)) (by (with_reducible repeat (first | refine blk_drewN ?_ _ | refine blk_drew ?_ | refine blk_alloc ?_ _)); refine blk_far ?_ (by have h_ := Kd.R_ne HO_10.out BK107.out (by decide); intro e_; exact h_ (by rw [e_]; rfl)) _; (with_reducible repeat (first | refine blk_drewN ?_ _ | refine blk_drew ?_ | refine blk_alloc ?_ _)); exact BK107.out) hb); have n2_ := Aside0.mk (below_step (bD HB GB23 GE107) hb); clear HO_10; clear BK107; clear HB; have HO_10 := n0_; have BK107 := n1_; have HB := n2_; clear n0_ n1_ n2_; (try clear hb); (try clear hb2); (try clear hk); (try clear hi)))
                                                 (try simp only [← hl10_1])
                                                 go_roundg k1
                                                 case measure => have := HK1.out; omega
                                                 case rel => exact ⟨(y119), (wrap64 (x35_1 + 1)), rD, H', ⟨by have := HK1.out; omega⟩, ⟨by (try simp only [hl10_1]); (with_reducible repeat (first | apply Kd.R_alloc | apply Kd.R_drewN | apply Kd.R_drew)); exact HO_10.out⟩, ⟨by (try simp only [hl10_1]); (with_reducible repeat (first | refine blk_drewN ?_ _ | refine blk_drew ?_ | refine blk_alloc ?_ _)); exact BK107.out⟩, ⟨bB HB⟩⟩
                                             · rw [if_neg c27] at H
                                               exact absurd H (by simp)
                                           · rw [if_neg c26] at H
                                             exact absurd H (by simp)
                                         · rw [if_neg c24] at H
                                           have c24b0 : decide (0 < iv) = false := decide_eq_false c24
                                           clear c24
                                           replace H := Option.bind_eq_some_iff.mp H
                                           obtain ⟨t123, A500, H⟩ := H
                                           replace H : (if t123 = true then (impl_Panel_switches.r0 k1 x7o dv (l0_1.length : Int) iv (y114.set (x35_1 : Int).toNat (wrap64 ((rd y114 x35_1) + 1))) (y108.length : Int) (wrap64 (x35_1 + 1)) l0_0 l0_1) else (impl_Panel_switches.r0 k1 x7o dv (l0_1.length : Int) iv y114 (y108.length : Int) (wrap64 (x35_1 + 1)) l0_0 l0_1)) = some yq := H
                                           have A50 := Aside0.mk A500
                                           clear A500
                                           by_cases c51 : t123 = true
                                           · subst c51
                                             have H1 : (impl_Panel_switches.r0 k1 x7o dv (l0_1.length : Int) iv (y114.set (x35_1 : Int).toNat (wrap64 ((rd y114 x35_1) + 1))) (y108.length : Int) (wrap64 (x35_1 + 1)) l0_0 l0_1) = some yq := by rw [if_pos rfl] at H; exact H
                                             clear H
                                             have H := H1
                                             clear H1
                                             obtain ⟨y125, hy125⟩ : ∃ y_ : List Int, y_ = (y114.set (x35_1 : Int).toNat (wrap64 ((rd y114 x35_1) + 1))) := ⟨_, rfl⟩
                                             replace H : (impl_Panel_switches.r0 k1 x7o dv (l0_1.length : Int) iv y125 (y108.length : Int) (wrap64 (x35_1 + 1)) l0_0 l0_1) = some yq := by first | (rw [hy125]; with_reducible exact H) | (have H2_ := (Option.bind_some _ _).symm.trans H; rw [hy125]; with_reducible exact H2_) | (have H2_ := (Option.bind_some _ _).symm.trans H; with_reducible exact H2_) | with_reducible exact H | (rw [hy125]; exact H) | exact H
                                             have Ny125 := Aside0.mk hy125
                                             clear hy125
                                             have H' := Aside0.mk H
                                             clear H
                                             have p111 : 0 ≤ ((ji15) : Int) := of_decide_eq_true aS
                                             have q111 : (ji15) < (x7o.length : Int) := of_decide_eq_true aS
                                             obtain ⟨ad111, A111_0, c111_0, e111, hx111_0, hl111_0, hi111_0⟩ := at_L2 HRq.out (ji15) p111 q111
                                             cases e111
                                             replace hx111_0 := (HB.out.cell (World.block_lt_of_cell? wq _ hx111_0)).trans hx111_0
                                             have HR111_0 := Aside0.mk hi111_0
                                             have HC111_0 := Aside0.mk hl111_0
                                             clear hi111_0 hl111_0
                                             replace p111 := eq_true p111
                                             replace q111 := eq_true q111
                                             have p112 : 0 ≤ (iv : Int) := of_decide_eq_true aS
                                             have q112 : iv < ((rd_L2 x7o (ji15)).length : Int) := of_decide_eq_true aS
                                             obtain ⟨ad112, A112_0, c112_0, e112, hx112_0, hl112_0, hi112_0⟩ := at_L1 HR111_0.out iv p112 q112
                                             cases e112
                                             replace hx112_0 := (HB.out.cell (World.block_lt_of_cell? wq _ hx112_0)).trans hx112_0
                                             have HR112_0 := Aside0.mk hi112_0
                                             have HC112_0 := Aside0.mk hl112_0
                                             clear hi112_0 hl112_0
                                             replace p112 := eq_true p112
                                             replace q112 := eq_true q112
                                             have p113 : 0 ≤ (x35_1 : Int) := of_decide_eq_true aS
                                             have q113 : x35_1 < ((rd_L1 (rd_L2 x7o (ji15)) iv).length : Int) := of_decide_eq_true aS
                                             obtain ⟨ad113, e113, hx113_0⟩ := Kd.at_int HR112_0.out x35_1 p113 q113
                                             cases e113
                                             replace hx113_0 := (HB.out.cell (World.block_lt_of_cell? wq _ hx113_0)).trans hx113_0
                                             replace p113 := eq_true p113
                                             replace q113 := eq_true q113
                                             have p23 : 0 ≤ (x35_1 : Int) := of_decide_eq_true aS
                                             have q23 : (x35_1 : Int) < ((x10_1.length : Int) : Int) := of_decide_eq_true aS
                                             obtain ⟨go23, co23, eo23, gb23, gl23, cl23, HG23⟩ := Kd.R_form HO_10.out (by omega)
                                             (first | cases eo23 | (injection eo23 with ea_ en_ ec_; (first | subst ea_ | (injection ea_ with ea_; subst ea_)); subst ec_; clear en_))
                                             have GB23 := Aside0.mk gb23
                                             have GG23 := Aside0.mk HG23
                                             clear gb23 gl23 HG23
                                             obtain ⟨hx23_0, hf23_0⟩ := Kd.R_celln 0 HO_10.out (x35_1 : Int) p23 q23
                                             replace p23 := eq_true p23
                                             replace q23 := eq_true q23
                                             have HP53 := Kd.R_putg HO_10.out (x35_1 : Int) (rd (rd_L1 (rd_L2 x7o (ji15)) iv) x35_1)
                                             go_wp2_with (first | ((with_reducible refine gate_store (t := 3) (p := 54) rfl ?_); refine store_event (t := 3) (p := 54) (v := ?vo_w54) (w1 := (wr.setCell ⟨go23, (x35_1 : Int).toNat, none⟩ (.int .i64 (rd (rd_L1 (rd_L2 x7o (ji15)) iv) x35_1)))) ?hg ?ho ?hn ?hr ?_; (case ho => rfl); (case hg => rfl); (case hn => rfl); (case hr => first | (go_simp; done) | (go_simp; rfl)); intro w54 hw; have hg : wr.grownBy w54 (some go23) := (by rw [hw]; exact HP53.2); have hp_ : Kd.R (Kd.int .i64) 3 w54 wq.heap.size (fun _ => True) (.slice (some ⟨go23, 0, none⟩) x10_1.length co12) y114 := (by rw [hw, Ny114.out]; exact HP53.1); clear HP53; have n0_ := Aside0.mk (hp_); have n1_ := Aside0.mk (blk_grown (g := gb107) (o := .cells #[.slice A0_0 l0_0.length c0_0, .slice A0_1 l0_1.length c0_1] 33 (0, 0)) (pB BK107) hg (Kd.R_ne HO_10.out BK107.out (by decide))); have n2_ := Aside0.mk ((by rw [hw]; exact below_set (HB.out) GB23.out : Below wq.heap.size wq w54)); clear HO_10; clear BK107; clear HB; have HO_10 := n0_; have BK107 := n1_; have HB := n2_; clear n0_ n1_ n2_; clear hg hw hp_; have hcz55_0 : w54.cell? ⟨gb107, 0, none⟩ = some (.slice A0_0 l0_0.length c0_0) := (blk_cell BK107.out 0).trans rfl; have hcz55_1 : w54.cell? ⟨gb107, 1, none⟩ = some (.slice A0_1 l0_1.length c0_1) := (blk_cell BK107.out 1).trans rfl; have hfz55_0 := blk_frozen BK107.out 0; have hfz55_1 := blk_frozen BK107.out 1) | ((with_reducible refine gate_callee (f := 104) rfl ?_); refine goesL_ (some 78) rfl rfl Try.func104 (by kernel_rfl) rfl #[.agg #[.slice A0_0 l0_0.length c0_0, .slice A0_1 l0_1.length c0_1], .int .i64 x35_1, .int .i64 dv] rfl aT ?_; (with_reducible refine (impl_Panel_wrong.calls _ _ l0_0 _ _ l0_1 x35_1 dv true _ ?side1 ?side2 ?side3 ?side4 A50.out).mono ?_); (case side1 => exact cB HR0_0 HB); (case side2 => exact HC0_0.out); (case side3 => exact cB HR0_1 HB); (case side4 => exact HC0_1.out); rintro e w56 ⟨rfl, hb⟩; refine ⟨_, rfl, ?_⟩; have n0_ := Aside0.mk (Kd.R_below (pR HO_10) hb); have n1_ := Aside0.mk (bW BK107 hb); have n2_ := Aside0.mk (below_step (bB HB) hb); clear HO_10; clear BK107; clear HB; have HO_10 := n0_; have BK107 := n1_; have HB := n2_; clear n0_ n1_ n2_; (try clear hb); (try clear hb2); (try clear hk); (try clear hi); have p124 : 0 ≤ (x35_1 : Int) := of_decide_eq_true aS; have q124 : x35_1 < (y114.length : Int) := (by have h_ : (x35_1 : Int) < ((x10_1.length : Int) : Int) := of_decide_eq_true aS; first | (have e_ := (Kd.R_reads' HO_10.out).1; omega) | simpa only [Ny114.out, List.length_set] using h_); have ql124 : ((x35_1 : Int) < ((x10_1.length : Int) : Int)) = True := eq_true (of_decide_eq_true aS); obtain ⟨ad124, e124, hx124_0⟩ := Kd.at_int (Kd.R_reads' HO_10.out).2.2 x35_1 p124 q124; obtain rfl : (⟨go23, 0, none⟩ : Addr) = ad124 := (by injection e124); (first | simp only [add_plain] at hx124_0 | simp only [add_at] at hx124_0 | simp only [Addr.add, Nat.zero_add] at hx124_0 | skip); replace p124 := eq_true p124; replace q124 := eq_true q124; have p52 : 0 ≤ (x35_1 : Int) := of_decide_eq_true aS; have q52 : (x35_1 : Int) < ((x10_1.length : Int) : Int) := of_decide_eq_true aS; obtain ⟨hx52_0, hf52_0⟩ := Kd.R_celln 0 HO_10.out (x35_1 : Int) p52 q52; replace p52 := eq_true p52; replace q52 := eq_true q52; obtain ⟨hy57_, hz57_⟩ := Kd.R_celln 0 HO_10.out (x35_1 : Int) (of_decide_eq_true aS) (of_decide_eq_true aS); have HP57 := Kd.R_putg HO_10.out (x35_1 : Int) (wrap64 ((rd y114 x35_1) + 1))) | ((with_reducible refine gate_store (t := 3) (p := 84) rfl ?_); refine store_event (t := 3) (p := 84) (v := ?vo_w58) (w1 := (w56.setCell ⟨go23, (x35_1 : Int).toNat, none⟩ (.int .i64 (wrap64 ((rd y114 x35_1) + 1))))) ?hg ?ho ?hn ?hr ?_; (case ho => rfl); (case hg => rfl); (case hn => rfl); (case hr => first | (go_simp; done) | (go_simp; rfl)); intro w58 hw; have hg : w56.grownBy w58 (some go23) := (by rw [hw]; exact HP57.2); have hp_ : Kd.R (Kd.int .i64) 3 w58 wq.heap.size (fun _ => True) (.slice (some ⟨go23, 0, none⟩) x10_1.length co12) y125 := (by rw [hw, Ny125.out]; exact HP57.1); clear HP57; have n0_ := Aside0.mk (hp_); have n1_ := Aside0.mk (blk_grown (g := gb107) (o := .cells #[.slice A0_0 l0_0.length c0_0, .slice A0_1 l0_1.length c0_1] 33 (0, 0)) (pB BK107) hg (Kd.R_ne HO_10.out BK107.out (by decide))); have n2_ := Aside0.mk ((by rw [hw]; exact below_set (HB.out) GB23.out : Below wq.heap.size wq w58)); clear HO_10; clear BK107; clear HB; have HO_10 := n0_; have BK107 := n1_; have HB := n2_; clear n0_ n1_ n2_; clear hg hw hp_))
                                             (try simp only [← hl10_1])
                                             go_roundg k1
                                             case measure => have := HK1.out; omega
                                             case rel => exact ⟨(y125), (wrap64 (x35_1 + 1)), rD, H', ⟨by have := HK1.out; omega⟩, ⟨by (try simp only [hl10_1]); (with_reducible repeat (first | apply Kd.R_alloc | apply Kd.R_drewN | apply Kd.R_drew)); exact HO_10.out⟩, ⟨by (try simp only [hl10_1]); (with_reducible repeat (first | refine blk_drewN ?_ _ | refine blk_drew ?_ | refine blk_alloc ?_ _)); exact BK107.out⟩, ⟨bB HB⟩⟩
                                           · replace c51 := Bool.eq_false_iff.mpr c51
                                             subst c51
                                             have H1 : (impl_Panel_switches.r0 k1 x7o dv (l0_1.length : Int) iv y114 (y108.length : Int) (wrap64 (x35_1 + 1)) l0_0 l0_1) = some yq := by rw [if_neg (show ¬ (false = true) by decide)] at H; exact H
                                             clear H
                                             have H := H1
                                             clear H1
                                             have H' := Aside0.mk H
                                             clear H
                                             have p111 : 0 ≤ ((ji15) : Int) := of_decide_eq_true aS
                                             have q111 : (ji15) < (x7o.length : Int) := of_decide_eq_true aS
                                             obtain ⟨ad111, A111_0, c111_0, e111, hx111_0, hl111_0, hi111_0⟩ := at_L2 HRq.out (ji15) p111 q111
                                             cases e111
                                             replace hx111_0 := (HB.out.cell (World.block_lt_of_cell? wq _ hx111_0)).trans hx111_0
                                             have HR111_0 := Aside0.mk hi111_0
                                             have HC111_0 := Aside0.mk hl111_0
                                             clear hi111_0 hl111_0
                                             replace p111 := eq_true p111
                                             replace q111 := eq_true q111
                                             have p112 : 0 ≤ (iv : Int) := of_decide_eq_true aS
                                             have q112 : iv < ((rd_L2 x7o (ji15)).length : Int) := of_decide_eq_true aS
                                             obtain ⟨ad112, A112_0, c112_0, e112, hx112_0, hl112_0, hi112_0⟩ := at_L1 HR111_0.out iv p112 q112
                                             cases e112
                                             replace hx112_0 := (HB.out.cell (World.block_lt_of_cell? wq _ hx112_0)).trans hx112_0
                                             have HR112_0 := Aside0.mk hi112_0
                                             have HC112_0 := Aside0.mk hl112_0
                                             clear hi112_0 hl112_0
                                             replace p112 := eq_true p112
                                             replace q112 := eq_true q112
                                             have p113 : 0 ≤ (x35_1 : Int) := of_decide_eq_true aS
                                             have q113 : x35_1 < ((rd_L1 (rd_L2 x7o (ji15)) iv).length : Int) := of_decide_eq_true aS
                                             obtain ⟨ad113, e113, hx113_0⟩ := Kd.at_int HR112_0.out x35_1 p113 q113
                                             cases e113
                                             replace hx113_0 := (HB.out.cell (World.block_lt_of_cell? wq _ hx113_0)).trans hx113_0
                                             replace p113 := eq_true p113
                                             replace q113 := eq_true q113
                                             have p23 : 0 ≤ (x35_1 : Int) := of_decide_eq_true aS
                                             have q23 : (x35_1 : Int) < ((x10_1.length : Int) : Int) := of_decide_eq_true aS
                                             obtain ⟨go23, co23, eo23, gb23, gl23, cl23, HG23⟩ := Kd.R_form HO_10.out (by omega)
                                             (first | cases eo23 | (injection eo23 with ea_ en_ ec_; (first | subst ea_ | (injection ea_ with ea_; subst ea_)); subst ec_; clear en_))
                                             have GB23 := Aside0.mk gb23
                                             have GG23 := Aside0.mk HG23
                                             clear gb23 gl23 HG23
                                             obtain ⟨hx23_0, hf23_0⟩ := Kd.R_celln 0 HO_10.out (x35_1 : Int) p23 q23
                                             replace p23 := eq_true p23
                                             replace q23 := eq_true q23
                                             have HP59 := Kd.R_putg HO_10.out (x35_1 : Int) (rd (rd_L1 (rd_L2 x7o (ji15)) iv) x35_1)
                                             go_wp2_with (first | ((with_reducible refine gate_store (t := 3) (p := 54) rfl ?_); refine store_event (t := 3) (p := 54) (v := ?vo_w60) (w1 := (wr.setCell ⟨go23, (x35_1 : Int).toNat, none⟩ (.int .i64 (rd (rd_L1 (rd_L2 x7o (ji15)) iv) x35_1)))) ?hg ?ho ?hn ?hr ?_; (case ho => rfl); (case hg => rfl); (case hn => rfl); (case hr => first | (go_simp; done) | (go_simp; rfl)); intro w60 hw; have hg : wr.grownBy w60 (some go23) := (by rw [hw]; exact HP59.2); have hp_ : Kd.R (Kd.int .i64) 3 w60 wq.heap.size (fun _ => True) (.slice (some ⟨go23, 0, none⟩) x10_1.length co12) y114 := (by rw [hw, Ny114.out]; exact HP59.1); clear HP59; have n0_ := Aside0.mk (hp_); have n1_ := Aside0.mk (blk_grown (g := gb107) (o := .cells #[.slice A0_0 l0_0.length c0_0, .slice A0_1 l0_1.length c0_1] 33 (0, 0)) (pB BK107) hg (Kd.R_ne HO_10.out BK107.out (by decide))); have n2_ := Aside0.mk ((by rw [hw]; exact below_set (HB.out) GB23.out : Below wq.heap.size wq w60)); clear HO_10; clear BK107; clear HB; have HO_10 := n0_; have BK107 := n1_; have HB := n2_; clear n0_ n1_ n2_; clear hg hw hp_; have hcz61_0 : w60.cell? ⟨gb107, 0, none⟩ = some (.slice A0_0 l0_0.length c0_0) := (blk_cell BK107.out 0).trans rfl; have hcz61_1 : w60.cell? ⟨gb107, 1, none⟩ = some (.slice A0_1 l0_1.length c0_1) := (blk_cell BK107.out 1).trans rfl; have hfz61_0 := blk_frozen BK107.out 0; have hfz61_1 := blk_frozen BK107.out 1) | ((with_reducible refine gate_callee (f := 104) rfl ?_); refine goesL_ (some 78) rfl rfl Try.func104 (by kernel_rfl) rfl #[.agg #[.slice A0_0 l0_0.length c0_0, .slice A0_1 l0_1.length c0_1], .int .i64 x35_1, .int .i64 dv] rfl aT ?_; (with_reducible refine (impl_Panel_wrong.calls _ _ l0_0 _ _ l0_1 x35_1 dv false _ ?side1 ?side2 ?side3 ?side4 A50.out).mono ?_); (case side1 => exact cB HR0_0 HB); (case side2 => exact HC0_0.out); (case side3 => exact cB HR0_1 HB); (case side4 => exact HC0_1.out); rintro e w62 ⟨rfl, hb⟩; refine ⟨_, rfl, ?_⟩; have n0_ := Aside0.mk (Kd.R_below (pR HO_10) hb); have n1_ := Aside0.mk (bW BK107 hb); have n2_ := Aside0.mk (below_step (bB HB) hb); clear HO_10; clear BK107; clear HB; have HO_10 := n0_; have BK107 := n1_; have HB := n2_; clear n0_ n1_ n2_; (try clear hb); (try clear hb2); (try clear hk); (try clear hi)))
                                             (try simp only [← hl10_1])
                                             go_roundg k1
                                             case measure => have := HK1.out; omega
                                             case rel => exact ⟨(y114), (wrap64 (x35_1 + 1)), rD, H', ⟨by have := HK1.out; omega⟩, ⟨by (try simp only [hl10_1]); (with_reducible repeat (first | apply Kd.R_alloc | apply Kd.R_drewN | apply Kd.R_drew)); exact HO_10.out⟩, ⟨by (try simp only [hl10_1]); (with_reducible repeat (first | refine blk_drewN ?_ _ | refine blk_drew ?_ | refine blk_alloc ?_ _)); exact BK107.out⟩, ⟨bB HB⟩⟩
                                       · rw [if_neg c22] at H
                                         exact absurd H (by simp)
                                     · rw [if_neg c21] at H
                                       exact absurd H (by simp)
                                   · rw [if_neg c20] at H
                                     exact absurd H (by simp)
                                 · rw [if_neg c19] at H
                                   exact absurd H (by simp)
                               · rw [if_neg c18] at H
                                 exact absurd H (by simp)
                             · rw [if_neg c17] at H
                               exact absurd H (by simp)
                           · rw [if_neg c16] at H
                             exact absurd H (by simp)
                       · rw [if_neg c13] at H
                         have c13b0 : decide (x35_1 < (y108.length : Int)) = false := decide_eq_false c13
                         (try simp only [hl10_1] at c13b0)
                         (try simp only [hl10_1] at c13b0)
                         clear c13
                         obtain rfl := Option.some.inj H
                         have hS_ := HS.out
                         rw [HAD.out] at hS_
                         have hO_ := Kd.S_old hS_ HB.out
                         obtain ⟨oki, cE, hcl_, hM_, hcc_, hfr_, hoki_, hH_⟩ := Kd.S_elem hO_ ([] : List (List Int)) dv D0.out D1.out
                         obtain ⟨El, hEl⟩ : ∃ z, z = x7o.getD dv.toNat [] := ⟨_, rfl⟩
                         rw [← hEl] at hM_
                         have CL2 := Aside0.mk (show El.length < 1000000 by rw [hEl]; exact CL.out)
                         have HEL := Aside0.mk hEl
                         clear hEl
                         obtain ⟨uE, rfl, hu_⟩ := hM_
                         have hcell_ := hcc_ 0 uE rfl
                         have hfrz_ := hfr_ 0
                         obtain ⟨AE, cE, eE_⟩ := Kd.R_slice hu_
                         have HU := Aside0.mk hu_
                         have HH := Aside0.mk hH_
                         have HOK := Aside0.mk hoki_
                         clear hu_ hH_ hoki_ hcl_
                         rw [show (Kd.slice 22 (Kd.slice 3 (Kd.int .i64))).sz = 1 from rfl, Nat.mul_one, Nat.add_zero] at hcell_ hfrz_
                         have hx_ := hcell_
                         rw [show (⟨gT, dv.toNat, none⟩ : Addr) = adT.add (dv).toNat from by rw [HAD.out, add_at, Nat.zero_add]] at hx_
                         clear hcc_ hfr_ hcell_
                         have d0_ := eq_true D0.out
                         have d1_ := eq_true D1.out
                         have d1x_ := eq_true (show dv < (x7o.length : Int) by rw [← EN.out]; exact D1.out)
                         subst eE_
                         have hrow_ := HO_10.out
                         obtain ⟨Ar_, cr_, eR_⟩ := Kd.R_slice hrow_
                         rw [eR_] at hrow_
                         first | subst eR_ | (injection eR_ with e1_ e2_ e3_; subst e1_; subst e3_)
                         have HRW := Aside0.mk hrow_
                         clear hrow_
                         have HNE := Aside0.mk (show some gb107 ≠ some gT from by have := Kd.S_ne hO_ BK107.out (by decide); simpa [Value.ownBlock] using this)
                         clear hO_ hS_
                         go_wp2_with (first | ((with_reducible refine gate_dst (N := 94) rfl ?_); refine Kd.R_append (Kd.slice 3 (Kd.int .i64)) (w0 := w) w.heap.size rfl (.tmp 91) (.tmp 93) 28 22 (.slice none 0 0) 24 rfl Try.underlying28 impl_Panel_switches.info22 rfl (by decide) (by omega) (.slice AE El.length cE) El _ [_] (fun k_ => oki k_ ∨ wq.heap.size ≤ k_) (fun k_ => wq.heap.size ≤ k_) rfl rfl ⟨_, rfl, Kd.R_lower (Kd.R_mono (Kd.R_bound HRW.out) (fun k_ h_ => h_.2.1)) (below_size HBo.out)⟩ (fun k_ h_ => ⟨.inr h_, fun e_ => by have := (HOK.out k_ (HU.out.1 k_ e_.symm)).1.2; omega⟩) (fun k_ h_ => .inr (Nat.le_trans (below_size HB.out) h_)) (Kd.R_mono HU.out (fun k_ h_ => .inl h_)) (below_step HBo.out HB.out) (below_size (below_step HBo.out HB.out)) (by have := CL2.out; omega) ?_; intro v1_ w1_ ho1_ hb1_ hg1_ hat1_; have hH1_ := Kd.H_grown (Kd.H_mono HH.out (ok' := fun k_ => True ∧ ¬ wq.heap.size ≤ k_) (fun k_ h_ => ⟨trivial, by have := h_.2; omega⟩)) hg1_ (fun k_ h_ => HU.out.1 k_ h_); have HH1 := Aside0.mk (Kd.H_more hH1_ (fun _ _ => trivial)); have HO1 := Aside0.mk ho1_; have n1_ := Aside0.mk (blk_grown BK107.out hg1_ (Kd.R_ne HU.out BK107.out (by decide))); have n2_ := Aside0.mk hb1_; clear BK107 HB; have BK107 := n1_; have HB1 := n2_; clear n1_ n2_ hH1_ ho1_ hb1_ hg1_ hat1_ hx_ hfrz_) | ((with_reducible refine gate_store (t := 28) (p := 95) rfl ?_); refine Kd.H_store (Kd.slice 22 (Kd.slice 3 (Kd.int .i64))) (w0 := w) w.heap.size rfl rfl 28 (.tmp 95) (.tmp 94) rfl 28 (o' := 0 + dv.toNat) dv 0 x7o _ v1_ [v1_] [.slice AE El.length cE] (fun _ => True) _ _ (by show Value.pointer (some (adT.add _)) = _; rw [HAD.out, add_at]) (by show 0 + dv.toNat = dv.toNat * 1 + 0; omega) rfl (Kd.R_val HO1.out).1 impl_Panel_switches.size28 (fun q hq => by rw [List.mem_singleton.1 hq]; exact (Kd.R_val HO1.out).2) HH1.out D0.out D1.out (show 0 + 1 ≤ 1 from by decide) ⟨_, rfl, HO1.out⟩ (fun _ h_ => h_) HB1.out ?_; intro w2_ hs2_ hb2_ hg2_; have HS2 := Aside0.mk (by rw [HAD.out]; exact hs2_ : Kd.S (Kd.slice 22 (Kd.slice 3 (Kd.int .i64))) 28 w2_ w.heap.size (fun _ => True) (.slice (some adT) nT capT) _); have n1_ := Aside0.mk (blk_grown BK107.out hg2_ HNE.out); have HB2 := Aside0.mk hb2_; clear BK107; have BK107 := n1_; clear n1_ hs2_ hb2_ hg2_))
                         (try simp only [← EN.out])
                         go_roundg ki
                         case measure => have := HKi.out; omega
                         case rel => exact ⟨_, wrap64 (iv + 1), rD, ⟨by rw [HEL.out]; exact HN.out⟩, ⟨by have := HKi.out; omega⟩, HS2, BK107, HB2⟩
                   · rw [if_neg c7] at H
                     exact absurd H (by simp)
                 · rw [if_neg c6] at H
                   exact absurd H (by simp)
               · rw [if_neg cd3] at H; exact absurd H (by simp)
             · rw [if_neg cd2] at H; exact absurd H (by simp)
           · rw [if_neg cd1] at H; exact absurd H (by simp)
         · rw [if_neg ci] at H
           obtain rfl := Option.some.inj H
           have cib : decide (iv < jk) = false := decide_eq_false ci
           clear ci
           go_wp2
           go_roundg ko
           case measure => have := HKo.out; omega
           case rel => exact ⟨x7o, wrap64 (dv - 1), rD, HN0, ⟨by have := HKo.out; omega⟩, HS, BK107, HBo⟩
     · rw [if_neg co] at H
       obtain rfl := Option.some.inj H
       have cob : decide (dv ≥ 0) = false := decide_eq_false co
       clear co
       go_wp2
       go_ret
       exact ⟨_, eW, Kd.S_R HS.out, HBo.out⟩
 · rw [if_neg cT] at h; exact absurd h (by simp)

end Go.Proofs.Ytihhedemdkifhaa.PFnExactSwitchWrong
