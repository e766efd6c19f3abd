import Derived.Test.YtihnijfgdffhjaaPFnExactParityNetx
import Derived.Test.YtihnijfgdffhjaaKFnExactParityNet
import Derived.Test.YtihnijfgdffhjaaMc
import Derived.Test.YtihnijfgdffhjaaSh
namespace Go.Proofs.Ytihnijfgdffhjaa.GFnExactParityNet
open Go.RowKit Go.Proofs.Ytihnijfgdffhjaa.Sh Go.Proofs.Ytihnijfgdffhjaa.KFnExactParityNet Go.Proofs.Ytihnijfgdffhjaa.Mc Go.Proofs.Ytihnijfgdffhjaa.PFnExactParityNet Go.Proofs.YtihnijfgdffhjaaW.PrintWords Go.Proofs.YtihnijfgdffhjaaW.PrintLast Go.Proofs.YtihnijfgdffhjaaW.PrintMore
set_option linter.unusedVariables false
set_option linter.unusedSimpArgs false
set_option maxHeartbeats 8000000 in
set_option maxRecDepth 100000 in
theorem good (k : Nat) (a0 : Int) (r1 : Int) (r2 : List (List (S33))) (r3 : Bool) (r13 : Int) (r14 : List (List S33)) (w : World)  (h1 : spec_ParityNet.f k a0 = some (r1, r2, r3)) (h2 : impl_ParityNet.f k a0 = some (r1, r2, r3)) (h3 : laws_eqNet.f k r1 r2 r1 r2 = some true) (h4 : laws_markNet.f k r1 r2 1 = some (r13, r14)) (h5 : laws_heldNet.f k r1 r14 1 = some r13) (q0 : 0 ≤ r13) :
 Calls Try.prog 11 #[.int .i64 a0] w fun e w' => e = .returned (.bool true) ∧ Below w.heap.size w w' := by
 have HB := Aside0.mk (Below.refl w.heap.size w)
 replace h1 := Aside0.mk h1
 replace h2 := Aside0.mk h2
 replace h3 := Aside0.mk h3
 replace h4 := Aside0.mk h4
 replace h5 := Aside0.mk h5
 have d0 : decide (r13 < 0) = false := decide_eq_false (by omega)
 clear q0
 go_enter Try.func11, Try.ntmps11
 go_wp2_with (fail)
 (with_reducible refine (spec_ParityNet.calls k a0 r1 r2 r3 _ h1.out).mono ?_)
 rintro e w1 ⟨v4, rfl, ho0, hb⟩
 have N1 := Aside0.mk (show w.heap.size + 0 ≤ w1.heap.size from Nat.le_trans nL hb.size)
 replace HB := Aside0.mk (below_step (bB HB) hb)
 have HO4 := Aside0.mk (N_ivl (b0 := w.heap.size) ho0 nL)
 clear hb ho0
 obtain ⟨Ao4, co4, eo4⟩ := Kd.N_slice HO4.out
 subst eo4
 go_wp2_with (fail)
 (with_reducible refine (impl_ParityNet.callsS k a0 r1 r2 r3 _ h2.out).mono ?_)
 rintro e w2 ⟨v5, rfl, ho0, hb⟩
 replace HO4 := Aside0.mk (Kd.N_below (by (with_reducible repeat (first | apply Kd.N_alloc | apply Kd.N_drewN | apply Kd.N_drew)); exact HO4.out) hb)
 have BK6 := Aside0.mk (blk_below (g := w1.heap.size) (o := .cells #[.int .i64 r1, .slice Ao4 r2.length co4] 39 (0, 0)) (by repeat (first | exact blk_at _ (by first | rfl | (simp; done)) | refine blk_alloc ?_ _ | refine blk_drew ?_ | refine blk_drewN ?_ _)) hb)
 have N2 := Aside0.mk (show w1.heap.size + 1 ≤ w2.heap.size from Nat.le_trans nL hb.size)
 replace HB := Aside0.mk (below_step (bB HB) hb)
 have HO5 := Aside0.mk (S_ivl (b0 := (w1.heap.size + 1)) ho0 nL)
 clear hb ho0
 obtain ⟨Ao5, co5, eo5⟩ := Kd.S_slice HO5.out
 subst eo5
 have hne7 := blk_lt BK6.out
 have hcz8 : w2.cell? ⟨w1.heap.size, 0, none⟩ = some (.int .i64 r1) := (blk_cell BK6.out 0).trans rfl
 have hcz9 : w2.cell? ⟨w1.heap.size, 1, none⟩ = some (.slice Ao4 r2.length co4) := (blk_cell BK6.out 1).trans rfl
 go_wp2_with (fail)
 (with_reducible refine (laws_eqNet.calls k r1 _ _ r2 r1 _ _ r2 true _ ?side1 ?side2 ?side3 ?side4 h3.out).mono ?_)
 (case side1 => exact cS HO5); (case side2 => exact (Kd.S_reads' HO5.out).2.1); (case side3 => repeat (first | exact (Kd.N_reads' HO4.out).2.2 | (with_reducible refine Kd.C_alloc ?_ _) | (with_reducible refine Kd.C_drewN ?_ _) | (with_reducible refine Kd.C_drew ?_))); (case side4 => exact (Kd.N_reads' HO4.out).2.1)
 rintro e w3 ⟨rfl, hb⟩
 replace HO4 := Aside0.mk (Kd.N_below (by (with_reducible repeat (first | apply Kd.N_alloc | apply Kd.N_drewN | apply Kd.N_drew)); exact HO4.out) hb)
 replace HO5 := Aside0.mk (Kd.S_below (pS HO5) hb)
 replace BK6 := Aside0.mk (blk_below (g := w1.heap.size) (o := .cells #[.int .i64 r1, .slice Ao4 r2.length co4] 39 (0, 0)) (pB BK6) hb)
 have BK10 := Aside0.mk (blk_below (g := w2.heap.size) (o := .cells #[.int .i64 r1, .slice Ao5 r2.length co5] 39 (0, 0)) (by repeat (first | exact blk_at _ (by first | rfl | (simp; done)) | refine blk_alloc ?_ _ | refine blk_drew ?_ | refine blk_drewN ?_ _)) hb)
 have N3 := Aside0.mk (show w2.heap.size + 1 ≤ w3.heap.size from Nat.le_trans nL hb.size)
 replace HB := Aside0.mk (below_step (bB HB) hb)
 clear hb
 clear hne7 hcz8 hcz9
 have hcz11 : w3.cell? ⟨w2.heap.size, 0, none⟩ = some (.int .i64 r1) := (blk_cell BK10.out 0).trans rfl
 have hcz12 : w3.cell? ⟨w2.heap.size, 1, none⟩ = some (.slice Ao5 r2.length co5) := (blk_cell BK10.out 1).trans rfl
 go_wp2_with (fail)
 (with_reducible refine (laws_markNet.calls k r1 (fun k_ => True ∧ (w1.heap.size + 1) ≤ k_ ∧ k_ < w2.heap.size) (.slice Ao5 r2.length co5) r2 1 r13 r14 w _ ?side1 ?side2 h4.out).mono ?_)
 (case side1 => exact bB HB); (case side2 => refine Kd.S_lower (pS HO5) ?_; have := N1.out; omega)
 rintro e w4 ⟨rfl, ho0, hB1, hK1⟩
 replace HO4 := Aside0.mk (Kd.N_step (by (with_reducible repeat (first | apply Kd.N_alloc | apply Kd.N_drewN | apply Kd.N_drew)); exact HO4.out) (fun k_ (ho_ : True ∧ w.heap.size ≤ k_ ∧ k_ < w1.heap.size) hl_ => hK1.2 k_ hl_ (fun (hs_ : (True ∧ (w1.heap.size + 1) ≤ k_ ∧ k_ < w2.heap.size)) => by have ha_ := ho_.2; have hb_ := hs_.2; have := N1.out; have := N2.out; have := N3.out; omega)))
 replace BK6 := Aside0.mk (blk_kept (pB BK6) hK1 (fun hs_ => by have hs2_ : (True ∧ (w1.heap.size + 1) ≤ (w1.heap.size) ∧ (w1.heap.size) < w2.heap.size) := hs_; have hb_ := hs2_.2; have := N1.out; have := N2.out; have := N3.out; omega))
 replace BK10 := Aside0.mk (blk_kept (pB BK10) hK1 (fun hs_ => by have hs2_ : (True ∧ (w1.heap.size + 1) ≤ (w2.heap.size) ∧ (w2.heap.size) < w2.heap.size) := hs_; have hb_ := hs2_.2; have := N1.out; have := N2.out; have := N3.out; omega))
 have N4 := Aside0.mk (show w3.heap.size ≤ w4.heap.size from Nat.le_trans nL hK1.1)
 replace HB := Aside0.mk hB1
 replace HO5 := Aside0.mk (Kd.S_mono (ok' := fun k_ => (True ∧ (w1.heap.size + 1) ≤ k_ ∧ k_ < w2.heap.size) ∨ w3.heap.size ≤ k_) ho0 (fun k_ h_ => h_.imp id (fun z_ => Nat.le_trans nL z_)))
 clear hK1 ho0 hB1
 clear hcz11 hcz12
 have hcz15 : w4.cell? ⟨w2.heap.size, 0, none⟩ = some (.int .i64 r1) := (blk_cell BK10.out 0).trans rfl
 have hcz16 : w4.cell? ⟨w2.heap.size, 1, none⟩ = some (.slice Ao5 r2.length co5) := (blk_cell BK10.out 1).trans rfl
 go_wp2_with (fail)
 refine calls_of_args (args' := #[.agg #[.int .i64 r1, .slice Ao5 r14.length co5], .int .i64 1]) (by rw [(Kd.S_reads' HO5.out).1]) ?_
 (with_reducible refine (laws_heldNet.calls k r1 _ _ r14 1 r13 _ ?side1 ?side2 h5.out).mono ?_)
 (case side1 => exact cS HO5); (case side2 => have e_ := Kd.S_reads' HO5.out; rw [← e_.1]; exact e_.2.1)
 rintro e w5 ⟨rfl, hb⟩
 replace HO4 := Aside0.mk (Kd.N_below (by (with_reducible repeat (first | apply Kd.N_alloc | apply Kd.N_drewN | apply Kd.N_drew)); exact HO4.out) hb)
 replace HO5 := Aside0.mk (Kd.S_below (pS HO5) hb)
 replace BK6 := Aside0.mk (blk_below (g := w1.heap.size) (o := .cells #[.int .i64 r1, .slice Ao4 r2.length co4] 39 (0, 0)) (pB BK6) hb)
 replace BK10 := Aside0.mk (blk_below (g := w2.heap.size) (o := .cells #[.int .i64 r1, .slice Ao5 r2.length co5] 39 (0, 0)) (pB BK10) hb)
 have N5 := Aside0.mk (show w4.heap.size + 0 ≤ w5.heap.size from Nat.le_trans nL hb.size)
 replace HB := Aside0.mk (below_step (bB HB) hb)
 clear hb
 clear hcz15 hcz16
 go_wp2_with (fail)
 (with_reducible refine (impl_ParityNet.callsS k a0 r1 r2 r3 _ h2.out).mono ?_)
 rintro e w6 ⟨v17, rfl, ho0, hb⟩
 replace HO4 := Aside0.mk (Kd.N_below (by (with_reducible repeat (first | apply Kd.N_alloc | apply Kd.N_drewN | apply Kd.N_drew)); exact HO4.out) hb)
 replace HO5 := Aside0.mk (Kd.S_below (pS HO5) hb)
 replace BK6 := Aside0.mk (blk_below (g := w1.heap.size) (o := .cells #[.int .i64 r1, .slice Ao4 r2.length co4] 39 (0, 0)) (pB BK6) hb)
 replace BK10 := Aside0.mk (blk_below (g := w2.heap.size) (o := .cells #[.int .i64 r1, .slice Ao5 r2.length co5] 39 (0, 0)) (pB BK10) hb)
 have N6 := Aside0.mk (show w5.heap.size + 0 ≤ w6.heap.size from Nat.le_trans nL hb.size)
 replace HB := Aside0.mk (below_step (bB HB) hb)
 have HO17 := Aside0.mk (S_ivl (b0 := w5.heap.size) ho0 nL)
 clear hb ho0
 obtain ⟨Ao17, co17, eo17⟩ := Kd.S_slice HO17.out
 subst eo17
 have hne18 := blk_lt BK6.out
 have hcz19 : w6.cell? ⟨w1.heap.size, 0, none⟩ = some (.int .i64 r1) := (blk_cell BK6.out 0).trans rfl
 have hcz20 : w6.cell? ⟨w1.heap.size, 1, none⟩ = some (.slice Ao4 r2.length co4) := (blk_cell BK6.out 1).trans rfl
 go_wp2_with (fail)
 (with_reducible refine (laws_eqNet.calls k r1 _ _ r2 r1 _ _ r2 true _ ?side1 ?side2 ?side3 ?side4 h3.out).mono ?_)
 (case side1 => exact cS HO17); (case side2 => exact (Kd.S_reads' HO17.out).2.1); (case side3 => repeat (first | exact (Kd.N_reads' HO4.out).2.2 | (with_reducible refine Kd.C_alloc ?_ _) | (with_reducible refine Kd.C_drewN ?_ _) | (with_reducible refine Kd.C_drew ?_))); (case side4 => exact (Kd.N_reads' HO4.out).2.1)
 rintro e w7 ⟨rfl, hb⟩
 replace HO4 := Aside0.mk (Kd.N_below (by (with_reducible repeat (first | apply Kd.N_alloc | apply Kd.N_drewN | apply Kd.N_drew)); exact HO4.out) hb)
 replace HO5 := Aside0.mk (Kd.S_below (pS HO5) hb)
 replace HO17 := Aside0.mk (Kd.S_below (pS HO17) hb)
 replace BK6 := Aside0.mk (blk_below (g := w1.heap.size) (o := .cells #[.int .i64 r1, .slice Ao4 r2.length co4] 39 (0, 0)) (pB BK6) hb)
 replace BK10 := Aside0.mk (blk_below (g := w2.heap.size) (o := .cells #[.int .i64 r1, .slice Ao5 r2.length co5] 39 (0, 0)) (pB BK10) hb)
 have BK21 := Aside0.mk (blk_below (g := w6.heap.size) (o := .cells #[.int .i64 r1, .slice Ao17 r2.length co17] 39 (0, 0)) (by repeat (first | exact blk_at _ (by first | rfl | (simp; done)) | refine blk_alloc ?_ _ | refine blk_drew ?_ | refine blk_drewN ?_ _)) hb)
 have N7 := Aside0.mk (show w6.heap.size + 1 ≤ w7.heap.size from Nat.le_trans nL hb.size)
 replace HB := Aside0.mk (below_step (bB HB) hb)
 clear hb
 clear hne18 hcz19 hcz20
 have hcz22 : w7.cell? ⟨w2.heap.size, 0, none⟩ = some (.int .i64 r1) := (blk_cell BK10.out 0).trans rfl
 have hcz23 : w7.cell? ⟨w2.heap.size, 1, none⟩ = some (.slice Ao5 r2.length co5) := (blk_cell BK10.out 1).trans rfl
 go_wp2_with (fail)
 refine calls_of_args (args' := #[.agg #[.int .i64 r1, .slice Ao5 r14.length co5], .int .i64 1]) (by rw [(Kd.S_reads' HO5.out).1]) ?_
 (with_reducible refine (laws_heldNet.calls k r1 _ _ r14 1 r13 _ ?side1 ?side2 h5.out).mono ?_)
 (case side1 => exact cS HO5); (case side2 => have e_ := Kd.S_reads' HO5.out; rw [← e_.1]; exact e_.2.1)
 rintro e w8 ⟨rfl, hb⟩
 replace HO5 := Aside0.mk (Kd.S_below (pS HO5) hb)
 replace BK6 := Aside0.mk (blk_below (g := w1.heap.size) (o := .cells #[.int .i64 r1, .slice Ao4 r2.length co4] 39 (0, 0)) (pB BK6) hb)
 replace BK10 := Aside0.mk (blk_below (g := w2.heap.size) (o := .cells #[.int .i64 r1, .slice Ao5 r2.length co5] 39 (0, 0)) (pB BK10) hb)
 replace BK21 := Aside0.mk (blk_below (g := w6.heap.size) (o := .cells #[.int .i64 r1, .slice Ao17 r2.length co17] 39 (0, 0)) (pB BK21) hb)
 have N8 := Aside0.mk (show w7.heap.size + 0 ≤ w8.heap.size from Nat.le_trans nL hb.size)
 replace HB := Aside0.mk (below_step (bB HB) hb)
 clear hb
 clear hcz22 hcz23
 go_wp2_with (fail)
 go_ret
 exact ⟨rfl, (bB HB)⟩

end Go.Proofs.Ytihnijfgdffhjaa.GFnExactParityNet
