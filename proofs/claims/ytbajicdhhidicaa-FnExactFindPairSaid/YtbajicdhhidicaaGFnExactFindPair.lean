import Derived.Test.YtbajicdhhidicaaPFnExactFindPairx
import Derived.Test.YtbajicdhhidicaaKFnExactFindPair
import Derived.Test.YtbajicdhhidicaaMc
import Derived.Test.YtbajicdhhidicaaSh
namespace Go.Proofs.Ytbajicdhhidicaa.GFnExactFindPair
open Go.RowKit Go.Proofs.Ytbajicdhhidicaa.Sh Go.Proofs.Ytbajicdhhidicaa.KFnExactFindPair Go.Proofs.Ytbajicdhhidicaa.Mc Go.Proofs.Ytbajicdhhidicaa.PFnExactFindPair Go.Proofs.YtbajicdhhidicaaW.PrintWords Go.Proofs.YtbajicdhhidicaaW.PrintLast Go.Proofs.YtbajicdhhidicaaW.PrintMore
set_option linter.unusedVariables false
set_option linter.unusedSimpArgs false
set_option maxHeartbeats 8000000 in
set_option maxRecDepth 100000 in
theorem big0 (k : Nat) (a0 : Int) (A1 : Option Addr) (c1 : Nat) (l1 : List Int)  (w : World) (hr1 : Kd.C (Kd.int .i64) w A1 l1.length l1) (hc1 : l1.length ≤ c1)  (q0 : 1048576 < l1.length) :
 Calls Try.prog 4 #[.int .i64 a0, .slice A1 l1.length c1] w fun e w' => e = .returned (.bool true) ∧ Below w.heap.size w w' := by
 have HR1 := Aside0.mk hr1
 have HC1 := Aside0.mk hc1
 clear hr1 hc1
 have HB := Aside0.mk (Below.refl w.heap.size w)
 have d0 : decide (1048576 < l1.length) = true := decide_eq_true (by omega)
 have e0 : decide ((l1.length : Int) > 1048576) = true := decide_eq_true (by omega)
 clear q0
 go_enter Try.func4, Try.ntmps4
 go_wp2_with (fail)
 go_ret
 exact ⟨rfl, (bB HB)⟩


set_option maxHeartbeats 8000000 in
set_option maxRecDepth 100000 in
theorem good (k : Nat) (a0 : Int) (A1 : Option Addr) (c1 : Nat) (l1 : List Int) (r1 : List Int) (r3 : List (List Int)) (r4 : Bool) (r9 : Int) (r10 : List Int) (r11 : Int) (r12 : List (List Int)) (w : World) (hr1 : Kd.C (Kd.int .i64) w A1 l1.length l1) (hc1 : l1.length ≤ c1) (h1 : laws_toIntS.f k l1 = some r1) (h2 : spec_FindPair.f k a0 r1 = some (r3, r4)) (h3 : impl_FindPair.f k a0 r1 = some (r3, r4)) (h4 : laws_eqIntSS.f k r3 r3 = some true) (h5 : laws_eqIntS.f k r1 r1 = some true) (h6 : laws_markIntS.f k r1 1 = some (r9, r10)) (h7 : laws_markIntSS.f k r3 1 = some (r11, r12)) (h8 : laws_heldIntSS.f k r12 1 = some r11) (q0 : l1.length ≤ 1048576) (q1 : 0 ≤ r9) (q2 : 0 ≤ r11) :
 Calls Try.prog 4 #[.int .i64 a0, .slice A1 l1.length c1] w fun e w' => e = .returned (.bool true) ∧ Below w.heap.size w w' := by
 have HR1 := Aside0.mk hr1
 have HC1 := Aside0.mk hc1
 clear hr1 hc1
 have HB := Aside0.mk (Below.refl w.heap.size w)
 replace h1 := Aside0.mk h1
 replace h2 := Aside0.mk h2
 replace h3 := Aside0.mk h3
 replace h4 := Aside0.mk h4
 replace h5 := Aside0.mk h5
 replace h6 := Aside0.mk h6
 replace h7 := Aside0.mk h7
 replace h8 := Aside0.mk h8
 have d0 : decide (1048576 < l1.length) = false := decide_eq_false (by omega)
 have e0 : decide ((l1.length : Int) > 1048576) = false := decide_eq_false (by omega)
 have d1 : decide (r9 < 0) = false := decide_eq_false (by omega)
 have d2 : decide (r11 < 0) = false := decide_eq_false (by omega)
 clear q0 q1 q2
 go_enter Try.func4, Try.ntmps4
 go_wp2_with (fail)
 (with_reducible refine (laws_toIntS.calls k _ _ l1 r1 _ ?side1 ?side2 h1.out).mono ?_)
 (case side1 => exact cB HR1 HB); (case side2 => exact HC1.out)
 rintro e w1 ⟨v2, rfl, ho0, hb⟩
 have N1 := Aside0.mk (show w.heap.size + 0 ≤ w1.heap.size from Nat.le_trans nL hb.size)
 replace HB := Aside0.mk (below_step (bB HB) hb)
 have HO2 := Aside0.mk (R_ivl (b0 := w.heap.size) (Kd.R_tight rfl ho0) nL)
 clear hb ho0
 obtain ⟨Ao2, co2, eo2⟩ := Kd.R_slice HO2.out
 subst eo2
 go_wp2_with (fail)
 (with_reducible refine (spec_FindPair.calls k a0 _ _ r1 r3 r4 _ ?side1 ?side2 h2.out).mono ?_)
 (case side1 => exact cR HO2); (case side2 => exact (Kd.R_reads' HO2.out).2.1)
 rintro e w2 ⟨v5, rfl, ho0, hb⟩
 replace HO2 := Aside0.mk (Kd.R_below (pR HO2) hb)
 have N2 := Aside0.mk (show w1.heap.size + 0 ≤ w2.heap.size from Nat.le_trans nL hb.size)
 replace HB := Aside0.mk (below_step (bB HB) hb)
 have HO5 := Aside0.mk (N_ivl (b0 := w1.heap.size) ho0 nL)
 clear hb ho0
 obtain ⟨Ao5, co5, eo5⟩ := Kd.N_slice HO5.out
 subst eo5
 go_wp2_with (fail)
 (with_reducible refine (laws_toIntS.calls k _ _ l1 r1 _ ?side1 ?side2 h1.out).mono ?_)
 (case side1 => exact cB HR1 HB); (case side2 => exact HC1.out)
 rintro e w3 ⟨v6, rfl, ho0, hb⟩
 replace HO5 := Aside0.mk (Kd.N_below (pN HO5) hb)
 have N3 := Aside0.mk (show w2.heap.size + 0 ≤ w3.heap.size from Nat.le_trans nL hb.size)
 replace HB := Aside0.mk (below_step (bB HB) hb)
 have HO6 := Aside0.mk (R_ivl (b0 := w2.heap.size) (Kd.R_tight rfl ho0) nL)
 clear hb ho0
 obtain ⟨Ao6, co6, eo6⟩ := Kd.R_slice HO6.out
 subst eo6
 go_wp2_with (fail)
 (with_reducible refine (impl_FindPair.calls k a0 _ _ r1 r3 r4 _ ?side1 ?side2 h3.out).mono ?_)
 (case side1 => exact cR HO6); (case side2 => exact (Kd.R_reads' HO6.out).2.1)
 rintro e w4 ⟨v7, rfl, ho0, hb⟩
 replace HO5 := Aside0.mk (Kd.N_below (pN HO5) hb)
 replace HO6 := Aside0.mk (Kd.R_below (pR HO6) hb)
 have N4 := Aside0.mk (show w3.heap.size + 0 ≤ w4.heap.size from Nat.le_trans nL hb.size)
 replace HB := Aside0.mk (below_step (bB HB) hb)
 have HO7 := Aside0.mk (S_ivl (b0 := w3.heap.size) ho0 nL)
 clear hb ho0
 obtain ⟨Ao7, co7, eo7⟩ := Kd.S_slice HO7.out
 subst eo7
 go_wp2_with (fail)
 (with_reducible refine (laws_eqIntSS.calls k _ _ r3 _ _ r3 true _ ?side1 ?side2 ?side3 ?side4 h4.out).mono ?_)
 (case side1 => exact cS HO7); (case side2 => exact (Kd.S_reads' HO7.out).2.1); (case side3 => exact cN HO5); (case side4 => exact (Kd.N_reads' HO5.out).2.1)
 rintro e w5 ⟨rfl, hd⟩
 have hb := hd.below
 replace HO5 := Aside0.mk (Kd.N_below (pN HO5) hb)
 replace HO6 := Aside0.mk (Kd.R_below (pR HO6) hb)
 replace HO7 := Aside0.mk (Kd.S_below (pS HO7) hb)
 have N5 := Aside0.mk (show w4.heap.size + 0 ≤ w5.heap.size from Nat.le_trans nL hb.size)
 replace HB := Aside0.mk (below_step (bB HB) hb)
 clear hd hb
 go_wp2_with (fail)
 (with_reducible refine (laws_toIntS.calls k _ _ l1 r1 _ ?side1 ?side2 h1.out).mono ?_)
 (case side1 => exact cB HR1 HB); (case side2 => exact HC1.out)
 rintro e w6 ⟨v8, rfl, ho0, hb⟩
 replace HO5 := Aside0.mk (Kd.N_below (pN HO5) hb)
 replace HO6 := Aside0.mk (Kd.R_below (pR HO6) hb)
 replace HO7 := Aside0.mk (Kd.S_below (pS HO7) hb)
 have N6 := Aside0.mk (show w5.heap.size + 0 ≤ w6.heap.size from Nat.le_trans nL hb.size)
 replace HB := Aside0.mk (below_step (bB HB) hb)
 have HO8 := Aside0.mk (R_ivl (b0 := w5.heap.size) (Kd.R_tight rfl ho0) nL)
 clear hb ho0
 obtain ⟨Ao8, co8, eo8⟩ := Kd.R_slice HO8.out
 subst eo8
 go_wp2_with (fail)
 (with_reducible refine (laws_eqIntS.calls k _ _ r1 _ _ r1 true _ ?side1 ?side2 ?side3 ?side4 h5.out).mono ?_)
 (case side1 => exact cR HO6); (case side2 => exact (Kd.R_reads' HO6.out).2.1); (case side3 => exact cR HO8); (case side4 => exact (Kd.R_reads' HO8.out).2.1)
 rintro e w7 ⟨rfl, hd⟩
 have hb := hd.below
 replace HO5 := Aside0.mk (Kd.N_below (pN HO5) hb)
 replace HO6 := Aside0.mk (Kd.R_below (pR HO6) hb)
 replace HO7 := Aside0.mk (Kd.S_below (pS HO7) hb)
 replace HO8 := Aside0.mk (Kd.R_below (pR HO8) hb)
 have N7 := Aside0.mk (show w6.heap.size + 0 ≤ w7.heap.size from Nat.le_trans nL hb.size)
 replace HB := Aside0.mk (below_step (bB HB) hb)
 clear hd hb
 go_wp2_with (fail)
 (with_reducible refine (laws_markIntS.calls k (fun k_ => some k_ = (.slice Ao6 r1.length co6 : Value).ownBlock ∧ w2.heap.size ≤ k_ ∧ k_ < w3.heap.size) (.slice Ao6 r1.length co6) r1 1 r9 r10 w _ ?side1 ?side2 h6.out).mono ?_)
 (case side1 => exact bB HB); (case side2 => refine Kd.R_lower (pR HO6) ?_; have := N1.out; have := N2.out; omega)
 rintro e w8 ⟨rfl, ho0, hB1, hK1⟩
 replace HO5 := Aside0.mk (Kd.N_step (pN HO5) (fun k_ (ho_ : True ∧ w1.heap.size ≤ k_ ∧ k_ < w2.heap.size) hl_ => hK1.2 k_ hl_ (fun (hs_ : (some k_ = (.slice Ao6 r1.length co6 : Value).ownBlock ∧ w2.heap.size ≤ k_ ∧ k_ < w3.heap.size)) => by have ha_ := ho_.2; have hb_ := hs_.2; have := N1.out; have := N2.out; have := N3.out; have := N4.out; have := N5.out; have := N6.out; have := N7.out; first | omega | exact hs_.1 ho_.1 | exact ho_.1 hs_.1 | (rcases ho_ with h1_ | h1_ <;> first | exact h1_.1 hs_.1 | exact hs_.1 h1_.1 | omega) | (rcases hs_ with h2_ | h2_ <;> first | exact h2_.1 ho_.1 | exact ho_.1 h2_.1 | omega) | (rcases ho_ with h1_ | h1_ <;> rcases hs_ with h2_ | h2_ <;> first | exact h1_.1 h2_.1 | exact h2_.1 h1_.1 | omega))))
 replace HO7 := Aside0.mk (Kd.S_step (pS HO7) (fun k_ (ho_ : True ∧ w3.heap.size ≤ k_ ∧ k_ < w4.heap.size) hl_ => hK1.2 k_ hl_ (fun (hs_ : (some k_ = (.slice Ao6 r1.length co6 : Value).ownBlock ∧ w2.heap.size ≤ k_ ∧ k_ < w3.heap.size)) => by have ha_ := ho_.2; have hb_ := hs_.2; have := N1.out; have := N2.out; have := N3.out; have := N4.out; have := N5.out; have := N6.out; have := N7.out; first | omega | exact hs_.1 ho_.1 | exact ho_.1 hs_.1 | (rcases ho_ with h1_ | h1_ <;> first | exact h1_.1 hs_.1 | exact hs_.1 h1_.1 | omega) | (rcases hs_ with h2_ | h2_ <;> first | exact h2_.1 ho_.1 | exact ho_.1 h2_.1 | omega) | (rcases ho_ with h1_ | h1_ <;> rcases hs_ with h2_ | h2_ <;> first | exact h1_.1 h2_.1 | exact h2_.1 h1_.1 | omega))))
 have N8 := Aside0.mk (show w7.heap.size ≤ w8.heap.size from Nat.le_trans nL hK1.1)
 replace HB := Aside0.mk hB1
 replace HO6 := Aside0.mk (Kd.R_mono (ok' := fun k_ => (some k_ = (.slice Ao6 r1.length co6 : Value).ownBlock ∧ w2.heap.size ≤ k_ ∧ k_ < w3.heap.size) ∨ w7.heap.size ≤ k_) ho0 (fun k_ h_ => h_.imp id (fun z_ => Nat.le_trans nL z_)))
 clear hK1 ho0 hB1
 go_wp2_with (fail)
 (with_reducible refine (laws_eqIntSS.calls k _ _ r3 _ _ r3 true _ ?side1 ?side2 ?side3 ?side4 h4.out).mono ?_)
 (case side1 => exact cS HO7); (case side2 => exact (Kd.S_reads' HO7.out).2.1); (case side3 => exact cN HO5); (case side4 => exact (Kd.N_reads' HO5.out).2.1)
 rintro e w9 ⟨rfl, hd⟩
 have hb := hd.below
 replace HO5 := Aside0.mk (Kd.N_below (pN HO5) hb)
 replace HO7 := Aside0.mk (Kd.S_below (pS HO7) hb)
 have N9 := Aside0.mk (show w8.heap.size + 0 ≤ w9.heap.size from Nat.le_trans nL hb.size)
 replace HB := Aside0.mk (below_step (bB HB) hb)
 clear hd hb
 go_wp2_with (fail)
 (with_reducible refine (laws_markIntSS.calls k (fun k_ => True ∧ w3.heap.size ≤ k_ ∧ k_ < w4.heap.size) (.slice Ao7 r3.length co7) r3 1 r11 r12 w _ ?side1 ?side2 h7.out).mono ?_)
 (case side1 => exact bB HB); (case side2 => refine Kd.S_lower (pS HO7) ?_; have := N1.out; have := N2.out; have := N3.out; omega)
 rintro e w10 ⟨rfl, ho0, hB1, hK1⟩
 replace HO5 := Aside0.mk (Kd.N_step (pN HO5) (fun k_ (ho_ : True ∧ w1.heap.size ≤ k_ ∧ k_ < w2.heap.size) hl_ => hK1.2 k_ hl_ (fun (hs_ : (True ∧ w3.heap.size ≤ k_ ∧ k_ < w4.heap.size)) => by have ha_ := ho_.2; have hb_ := hs_.2; have := N1.out; have := N2.out; have := N3.out; have := N4.out; have := N5.out; have := N6.out; have := N7.out; have := N8.out; have := N9.out; first | omega | exact hs_.1 ho_.1 | exact ho_.1 hs_.1 | (rcases ho_ with h1_ | h1_ <;> first | exact h1_.1 hs_.1 | exact hs_.1 h1_.1 | omega) | (rcases hs_ with h2_ | h2_ <;> first | exact h2_.1 ho_.1 | exact ho_.1 h2_.1 | omega) | (rcases ho_ with h1_ | h1_ <;> rcases hs_ with h2_ | h2_ <;> first | exact h1_.1 h2_.1 | exact h2_.1 h1_.1 | omega))))
 have N10 := Aside0.mk (show w9.heap.size ≤ w10.heap.size from Nat.le_trans nL hK1.1)
 replace HB := Aside0.mk hB1
 replace HO7 := Aside0.mk (Kd.S_mono (ok' := fun k_ => (True ∧ w3.heap.size ≤ k_ ∧ k_ < w4.heap.size) ∨ w9.heap.size ≤ k_) ho0 (fun k_ h_ => h_.imp id (fun z_ => Nat.le_trans nL z_)))
 clear hK1 ho0 hB1
 go_wp2_with (fail)
 refine calls_of_args (args' := #[.slice Ao7 r12.length co7, .int .i64 1]) (by rw [(Kd.S_reads' HO7.out).1]) ?_
 (with_reducible refine (laws_heldIntSS.calls k _ _ r12 1 r11 _ ?side1 ?side2 h8.out).mono ?_)
 (case side1 => exact cS HO7); (case side2 => have e_ := Kd.S_reads' HO7.out; rw [← e_.1]; exact e_.2.1)
 rintro e w11 ⟨rfl, hd⟩
 have hb := hd.below
 replace HO5 := Aside0.mk (Kd.N_below (pN HO5) hb)
 replace HO7 := Aside0.mk (Kd.S_below (pS HO7) hb)
 have N11 := Aside0.mk (show w10.heap.size + 0 ≤ w11.heap.size from Nat.le_trans nL hb.size)
 replace HB := Aside0.mk (below_step (bB HB) hb)
 clear hd hb
 go_wp2_with (fail)
 (with_reducible refine (laws_toIntS.calls k _ _ l1 r1 _ ?side1 ?side2 h1.out).mono ?_)
 (case side1 => exact cB HR1 HB); (case side2 => exact HC1.out)
 rintro e w12 ⟨v13, rfl, ho0, hb⟩
 replace HO5 := Aside0.mk (Kd.N_below (pN HO5) hb)
 replace HO7 := Aside0.mk (Kd.S_below (pS HO7) hb)
 have N12 := Aside0.mk (show w11.heap.size + 0 ≤ w12.heap.size from Nat.le_trans nL hb.size)
 replace HB := Aside0.mk (below_step (bB HB) hb)
 have HO13 := Aside0.mk (R_ivl (b0 := w11.heap.size) (Kd.R_tight rfl ho0) nL)
 clear hb ho0
 obtain ⟨Ao13, co13, eo13⟩ := Kd.R_slice HO13.out
 subst eo13
 go_wp2_with (fail)
 (with_reducible refine (impl_FindPair.calls k a0 _ _ r1 r3 r4 _ ?side1 ?side2 h3.out).mono ?_)
 (case side1 => exact cR HO13); (case side2 => exact (Kd.R_reads' HO13.out).2.1)
 rintro e w13 ⟨v14, rfl, ho0, hb⟩
 replace HO5 := Aside0.mk (Kd.N_below (pN HO5) hb)
 replace HO7 := Aside0.mk (Kd.S_below (pS HO7) hb)
 replace HO13 := Aside0.mk (Kd.R_below (pR HO13) hb)
 have N13 := Aside0.mk (show w12.heap.size + 0 ≤ w13.heap.size from Nat.le_trans nL hb.size)
 replace HB := Aside0.mk (below_step (bB HB) hb)
 have HO14 := Aside0.mk (S_ivl (b0 := w12.heap.size) ho0 nL)
 clear hb ho0
 obtain ⟨Ao14, co14, eo14⟩ := Kd.S_slice HO14.out
 subst eo14
 go_wp2_with (fail)
 (with_reducible refine (laws_eqIntSS.calls k _ _ r3 _ _ r3 true _ ?side1 ?side2 ?side3 ?side4 h4.out).mono ?_)
 (case side1 => exact cS HO14); (case side2 => exact (Kd.S_reads' HO14.out).2.1); (case side3 => exact cN HO5); (case side4 => exact (Kd.N_reads' HO5.out).2.1)
 rintro e w14 ⟨rfl, hd⟩
 have hb := hd.below
 replace HO5 := Aside0.mk (Kd.N_below (pN HO5) hb)
 replace HO7 := Aside0.mk (Kd.S_below (pS HO7) hb)
 replace HO14 := Aside0.mk (Kd.S_below (pS HO14) hb)
 have N14 := Aside0.mk (show w13.heap.size + 0 ≤ w14.heap.size from Nat.le_trans nL hb.size)
 replace HB := Aside0.mk (below_step (bB HB) hb)
 clear hd hb
 go_wp2_with (fail)
 refine calls_of_args (args' := #[.slice Ao7 r12.length co7, .int .i64 1]) (by rw [(Kd.S_reads' HO7.out).1]) ?_
 (with_reducible refine (laws_heldIntSS.calls k _ _ r12 1 r11 _ ?side1 ?side2 h8.out).mono ?_)
 (case side1 => exact cS HO7); (case side2 => have e_ := Kd.S_reads' HO7.out; rw [← e_.1]; exact e_.2.1)
 rintro e w15 ⟨rfl, hd⟩
 have hb := hd.below
 replace HO7 := Aside0.mk (Kd.S_below (pS HO7) hb)
 have N15 := Aside0.mk (show w14.heap.size + 0 ≤ w15.heap.size from Nat.le_trans nL hb.size)
 replace HB := Aside0.mk (below_step (bB HB) hb)
 clear hd hb
 go_wp2_with (fail)
 go_ret
 exact ⟨rfl, (bB HB)⟩

end Go.Proofs.Ytbajicdhhidicaa.GFnExactFindPair
