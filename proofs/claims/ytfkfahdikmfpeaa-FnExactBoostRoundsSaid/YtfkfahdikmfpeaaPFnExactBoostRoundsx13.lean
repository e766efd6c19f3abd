-- Printed by wip/tools/myprint.py (the printer of the kit, patched by that program; roots chosen by it)
import Derived.Test.YtfkfahdikmfpeaaPFnExactBoostRoundsx0
import Derived.Test.YtfkfahdikmfpeaaPFnExactBoostRoundsx11
import Derived.Test.YtfkfahdikmfpeaaPFnExactBoostRoundsx12
import Derived.Test.YtfkfahdikmfpeaaSh
namespace Go.Proofs.Ytfkfahdikmfpeaa.PFnExactBoostRounds
open Go.RowKit Go.Proofs.Ytfkfahdikmfpeaa.Sh Go.Proofs.YtfkfahdikmfpeaaW.PrintWords Go.Proofs.YtfkfahdikmfpeaaW.PrintLast Go.Proofs.YtfkfahdikmfpeaaW.PrintMore
attribute [local go_sem] max2_int min2_int max_two min_two max_three min_three max_four min_four   -- for this text's walks alone
set_option linter.unusedVariables false
set_option linter.unusedSimpArgs false

/-! ### impl_Sample_bestStump: function 105 -/
def impl_Sample_bestStump.l0 : Nat → List (List Int) → List Int → List Int → List S39 → Int → Int → Option Int
 | 0, _, _, _, _, _, _ => none
 | k + 1, P, L, H, st, b, i => if i < (st.length : Int) then (if 0 ≤ i then ((impl_Sample_weighted.f k P L H (rd_T39 st i).f0 (rd_T39 st i).f1).bind fun t => (impl_Sample_weighted.f k P L H (rd_T39 st b).f0 (rd_T39 st b).f1).bind fun u => if t < u then impl_Sample_bestStump.l0 k P L H st i (wrap64 (i + 1)) else impl_Sample_bestStump.l0 k P L H st b (wrap64 (i + 1))) else none) else some b
def impl_Sample_bestStump.f (k : Nat) (l0_0 : List (List Int)) (l0_1 : List Int) (l1 : List Int) : Option (List Int × Int) := (impl_Sample_stumps.f k l0_0 l0_1).bind fun st => if 0 < st.length then (impl_Sample_bestStump.l0 k l0_0 l0_1 l1 st 0 0).bind fun b => some ((rd_T39 st b).f0, (rd_T39 st b).f1) else none
theorem impl_Sample_bestStump.cell_keep {w w1 : World} {ad : Addr} {u : Value} (h : w.cell? ad = some u) (hb : Below w.heap.size w w1) : w1.cell? ad = some u := (hb.cell (World.block_lt_of_cell? w _ h)).trans h
theorem impl_Sample_bestStump.add_blk (a : Addr) (j : Nat) : (a.add j).block = a.block := by simp only [Addr.add]; split <;> rfl
theorem impl_Sample_bestStump.cell_far {w : World} {ad p : Addr} {u : Value} (h : w.cell? ad = some u) (hp : ad.block ≠ p.block) (v : Value) : (w.setCell p v).cell? ad = some u := (World.cell?_of_block (w := w) (Below.heap_setCell w p v ad.block hp)).trans h
theorem impl_Sample_bestStump.add_far {a : Addr} {j g : Nat} (h : a.block ≠ g) : (a.add j).block ≠ g := by rw [impl_Sample_bestStump.add_blk]; exact h
set_option maxHeartbeats 8000000 in
set_option maxRecDepth 100000 in
theorem impl_Sample_bestStump.calls (k : Nat) (A0_0 : Option Addr) (c0_0 : Nat) (l0_0 : List (List Int)) (A0_1 : Option Addr) (c0_1 : Nat) (l0_1 : List Int) (A1 : Option Addr) (c1 : Nat) (l1 : List Int) (r1 : List Int) (r2 : Int) (w : World) (hr0_0 : Kd.C (Kd.slice 3 (Kd.int .i64)) w A0_0 l0_0.length l0_0) (hc0_0 : l0_0.length ≤ c0_0) (hr0_1 : Kd.C (Kd.int .i64) w A0_1 l0_1.length l0_1) (hc0_1 : l0_1.length ≤ c0_1) (hr1 : Kd.C (Kd.int .i64) w A1 l1.length l1) (hc1 : l1.length ≤ c1) (h : impl_Sample_bestStump.f k l0_0 l0_1 l1 = some (r1, r2)) :
 Calls Try.prog 105 #[.agg #[.slice A0_0 l0_0.length c0_0, .slice A0_1 l0_1.length c0_1], .slice A1 l1.length c1] w fun e w' => ∃ v0_ : Value, e = .returned (.agg #[v0_, .int .i64 r2]) ∧ Kd.R (Kd.int .i64) 3 w' w.heap.size (fun _ => True) v0_ r1 ∧ Below w.heap.size w w' := by
 have hu52 := Try.underlying52
 have hu39 := Try.underlying39
 have HR0_0 := Aside0.mk hr0_0
 have HC0_0 := Aside0.mk hc0_0
 have HR0_1 := Aside0.mk hr0_1
 have HC0_1 := Aside0.mk hc0_1
 have HR1 := Aside0.mk hr1
 have HC1 := Aside0.mk hc1
 clear hr0_0 hc0_0 hr0_1 hc0_1 hr1 hc1
 have HB := Aside0.mk (Below.refl w.heap.size w)
 obtain ⟨st, hst, H⟩ := Option.bind_eq_some_iff.mp h
 by_cases hp : 0 < st.length
 · rw [if_pos hp] at H
   obtain ⟨rb, hrb, H⟩ := Option.bind_eq_some_iff.mp H
   simp only [Option.some.injEq, Prod.mk.injEq] at H
   obtain ⟨rfl, rfl⟩ := H
   have HST := Aside0.mk hst
   have H' := Aside0.mk hrb
   have HP := Aside0.mk hp
   clear hst hrb hp h
   go_enter Try.func105, Try.ntmps105
   go_wp2_with (first | ((with_reducible refine gate_dst (N := 2) rfl ?_); refine box_event ?hg (N := 2) ?hd (cs := #[.slice A0_0 l0_0.length c0_0, .slice A0_1 l0_1.length c0_1]) (t := 52) ?hr ?_; (case hd => rfl); (case hg => rfl); (case hr => first | (go_simp; done) | (go_simp; rfl)); intro gb2 hg w2 hbox hb; have n0_ := Aside0.mk (below_step (bB HB) hb); have n1_ := Aside0.mk (hbox); have n2_ := Aside0.mk ((by rw [hg]; exact (below_size (bB HB)) : w.heap.size ≤ gb2)); clear HB; have HB := n0_; have BK2 := n1_; have GE2 := n2_; clear n0_ n1_ n2_; clear hb hbox hg) | ((with_reducible refine gate_dst (N := 4) rfl ?_); refine box_event ?hg (N := 4) ?hd (cs := #[.slice none 0 0, .int .i64 0]) (t := 39) ?hr ?_; (case hd => rfl); (case hg => rfl); (case hr => first | (go_simp; done) | (go_simp; rfl)); intro gb4 hg w4 hbox hb; have n0_ := Aside0.mk (bW BK2 hb); have n1_ := Aside0.mk (below_step (bC HB GE2) hb); have n2_ := Aside0.mk (hbox); have n3_ := Aside0.mk ((by rw [hg]; exact (below_size (bC HB GE2)) : w.heap.size ≤ gb4)); clear BK2 HB; have BK2 := n0_; have HB := n1_; have BK4 := n2_; have GE4 := n3_; clear n0_ n1_ n2_ n3_; clear hb hbox hg; have hcz2_0 : w4.cell? ⟨gb2, 0, none⟩ = some (.slice A0_0 l0_0.length c0_0) := (blk_cell BK2.out 0).trans rfl; have hcz2_1 : w4.cell? ⟨gb2, 1, none⟩ = some (.slice A0_1 l0_1.length c0_1) := (blk_cell BK2.out 1).trans rfl))
   refine calls_of_args (args' := #[.agg #[.slice A0_0 l0_0.length c0_0, .slice A0_1 l0_1.length c0_1]]) (by rfl) ?_
   (with_reducible refine (impl_Sample_stumps.calls k _ _ l0_0 _ _ l0_1 st _ ?side1 ?side2 ?side3 ?side4 HST.out).mono ?_)
   (case side1 => exact cB HR0_0 HB)
   (case side2 => exact HC0_0.out)
   (case side3 => exact cB HR0_1 HB)
   (case side4 => exact HC0_1.out)
   rintro e w9 ⟨v9, rfl, ho, hb⟩
   have n0_ := Aside0.mk (Kd.S_lower (Kd.S_mono (ok' := fun k_ => k_ ≠ gb4 ∧ k_ < w9.heap.size) (Kd.S_bound ho) (fun k_ hk => ⟨by have := hk.2.1; have := blk_lt BK4.out; omega, hk.2.2.1⟩)) (below_size (bD HB GE2 GE4)))
   have n1_ := Aside0.mk (bW BK2 hb)
   have n2_ := Aside0.mk (bW BK4 hb)
   have n3_ := Aside0.mk (below_step (bD HB GE2 GE4) hb)
   clear BK2 BK4 HB
   have HO := n0_
   have BK2 := n1_
   have BK4 := n2_
   have HB := n3_
   clear n0_ n1_ n2_ n3_ ho hb hcz2_0 hcz2_1
   obtain ⟨A5, c5, e5⟩ := Kd.S_slice HO.out
   subst e5
   have p0 : (0 : Int) ≤ 0 := by omega
   have q0 : (0 : Int) < (st.length : Int) := by have := HP.out; omega
   obtain ⟨ad5, A6, c6, e5, hx0, hx1, hl6, hi6⟩ := at_T39 (Kd.S_reads' HO.out).2.2 0 p0 q0
   cases e5
   have LK := Aside0.mk hx0
   (try rw [show ((0 : Int)).toNat * 2 = 0 from rfl] at hx0 hx1)
   (try rw [Addr.add_zero'] at hx0 hx1)
   have qi : (0 < st.length) = True := eq_true HP.out
   replace p0 := eq_true p0
   replace q0 := eq_true q0
   clear hl6 hi6
   go_wp2_with (first | ((with_reducible refine gate_dst (N := 6) rfl ?_); refine box_event ?hg (N := 6) ?hd (cs := #[.slice none 0 0, .int .i64 0]) (t := 39) ?hr ?_; (case hd => rfl); (case hg => rfl); (case hr => first | (go_simp; done) | (go_simp; rfl)); intro gb6 hg w6 hbox hb; have n0_ := Aside0.mk (bW BK2 hb); have n1_ := Aside0.mk (bW BK4 hb); have n2_ := Aside0.mk (below_step (bD HB GE2 GE4) hb); have n3_ := Aside0.mk (hbox); have n4_ := Aside0.mk ((by rw [hg]; exact (below_size (bD HB GE2 GE4)) : w.heap.size ≤ gb6)); have n5_ := Aside0.mk ((by rw [hg]; exact Nat.ne_of_lt (blk_lt BK2.out) : gb2 ≠ gb6)); have n6_ := Aside0.mk ((by rw [hg]; exact Nat.ne_of_lt (blk_lt BK4.out) : gb4 ≠ gb6)); have n7_ := Aside0.mk (Kd.S_mono (ok' := fun k_ => k_ ≠ gb4 ∧ k_ ≠ gb6) (Kd.S_below HO.out hb) (fun k_ hk => ⟨hk.1, by rw [hg]; exact Nat.ne_of_lt hk.2⟩)); have n8_ := Aside0.mk (impl_Sample_bestStump.cell_keep LK.out hb); have n9_ := Aside0.mk ((by rw [hg]; exact Nat.ne_of_lt (by have h_ := World.block_lt_of_cell? _ _ LK.out; rwa [impl_Sample_bestStump.add_blk] at h_) : ad5.block ≠ gb6)); clear BK2 BK4 HB HO LK; have BK2 := n0_; have BK4 := n1_; have HB := n2_; have BK6 := n3_; have GE6 := n4_; have NB26 := n5_; have NB46 := n6_; have HO := n7_; have LK := n8_; have NB56 := n9_; clear n0_ n1_ n2_ n3_ n4_ n5_ n6_ n7_ n8_ n9_; clear hb hbox hg; have hcz6_0 : w6.cell? ⟨gb6, 0, none⟩ = some (.slice none 0 0) := (blk_cell BK6.out 0).trans rfl; have hcz6_1 : w6.cell? ⟨gb6, 1, none⟩ = some (.int .i64 0) := (blk_cell BK6.out 1).trans rfl; have hfz6_0 := blk_frozen BK6.out 0; have hfz6_1 := blk_frozen BK6.out 1))
   go_loopg [16] k (fun kq v16 w' => ∃ (b i : Int) (Ab : Option Addr) (cb : Nat), v16 = .int .i64 i ∧ Aside0 (impl_Sample_bestStump.l0 kq l0_0 l0_1 l1 st b i = some rb) ∧ Aside0 (kq ≤ k) ∧ Aside0 (0 ≤ b ∧ b < (st.length : Int)) ∧ Aside0 (w'.heap[gb2]? = some (.cells #[.slice A0_0 l0_0.length c0_0, .slice A0_1 l0_1.length c0_1] 52 (0, 0))) ∧ Aside0 (w'.heap[gb4]? = some (.cells #[.slice none 0 0, .int .i64 0] 39 (0, 0))) ∧ Aside0 (w'.heap[gb6]? = some (.cells #[.slice Ab (rd_T39 st b).f0.length cb, .int .i64 (rd_T39 st b).f1] 39 (0, 0))) ∧ Aside0 (Kd.S k39 39 w' w.heap.size (fun k_ => k_ ≠ gb4 ∧ k_ ≠ gb6) (.slice (some ad5) st.length c5) st) ∧ Aside0 (w'.cell? (ad5.add (b.toNat * 2)) = some (.slice Ab (rd_T39 st b).f0.length cb)) ∧ Aside0 (Below w.heap.size w w'))
   case atStart => exact ⟨0, 0, A6, c6, rfl, H', ⟨Nat.le_refl _⟩, ⟨by have := HP.out; omega⟩, ⟨(blk_far (p := ⟨gb6, 1, none⟩) (blk_far (p := ⟨gb6, 0, none⟩) BK2.out NB26.out _) NB26.out _)⟩, ⟨(blk_far (p := ⟨gb6, 1, none⟩) (blk_far (p := ⟨gb6, 0, none⟩) BK4.out NB46.out _) NB46.out _)⟩, ⟨(blk_put (cs := #[.slice A6 (rd_T39 st 0).f0.length c6, .int .i64 0]) (blk_put (cs := #[.slice none 0 0, .int .i64 0]) BK6.out 0 _ rfl) 1 _ rfl)⟩, ⟨Kd.S_far (p := ⟨gb6, 1, none⟩) (Kd.S_far (p := ⟨gb6, 0, none⟩) HO.out (fun _ hk => hk.2) _) (fun _ hk => hk.2) _⟩, ⟨impl_Sample_bestStump.cell_far (p := ⟨gb6, 1, none⟩) (impl_Sample_bestStump.cell_far (p := ⟨gb6, 0, none⟩) LK.out (impl_Sample_bestStump.add_far NB56.out) _) (impl_Sample_bestStump.add_far NB56.out) _⟩, ⟨bD HB GE2 GE6⟩⟩
   case round =>
    clear H' BK2 BK4 BK6 HB HO LK hcz6_0 hcz6_1 hfz6_0 hfz6_1 hx0 hx1 p0 q0
    obtain ⟨b, i, Ab, cb, rfl, HA, HK1, HBB, BK2, BK4, BK6, HO, LK, HB⟩ := hrel
    cases gk with
    | zero => exact absurd HA.out (by simp [impl_Sample_bestStump.l0])
    | succ k1 =>
     have H := HA.out
     clear HA
     simp only [impl_Sample_bestStump.l0] at H
     by_cases c3 : i < (st.length : Int)
     · rw [if_pos c3] at H
       by_cases c4 : 0 ≤ i
       · rw [if_pos c4] at H
         obtain ⟨t, ht, H⟩ := Option.bind_eq_some_iff.mp H
         obtain ⟨u, hu_, H⟩ := Option.bind_eq_some_iff.mp H
         have HT := Aside0.mk ht
         have HU := Aside0.mk hu_
         clear ht hu_
         by_cases c5 : t < u
         · rw [if_pos c5] at H
           have c5b0 : decide (t < u) = true := decide_eq_true c5
           have H' := Aside0.mk H
           clear H c5
           obtain ⟨adi, Ai, ci, ei, hx0, hx1, hli, hi⟩ := at_T39 (Kd.S_reads' HO.out).2.2 i c4 c3
           obtain rfl : ad5 = adi := by injection ei
           clear ei
           have p5 := eq_true c4
           have q5 := eq_true c3
           have c3b0 : decide (i < (st.length : Int)) = true := decide_eq_true c3
           have HX0 := Aside0.mk hx0
           have HX1 := Aside0.mk hx1
           clear hi hli
           go_wp2_with (first | ((with_reducible refine gate_dst (N := 8) rfl ?_); refine box_event ?hg (N := 8) ?hd (cs := #[.slice none 0 0, .int .i64 0]) (t := 39) ?hr ?_; (case hd => rfl); (case hg => rfl); (case hr => first | (go_simp; done) | (go_simp; rfl)); intro gb8 hg w8 hbox hb; have n0_ := Aside0.mk (bW BK2 hb); have n1_ := Aside0.mk (bW BK4 hb); have n2_ := Aside0.mk (bW BK6 hb); have n3_ := Aside0.mk (hbox); have n4_ := Aside0.mk ((by rw [hg]; exact (below_size (bD HB GE2 GE4)) : w.heap.size ≤ gb8)); have n5_ := Aside0.mk ((by rw [hg]; exact Nat.ne_of_lt (blk_lt BK2.out) : gb2 ≠ gb8)); have n6_ := Aside0.mk ((by rw [hg]; exact Nat.ne_of_lt (blk_lt BK4.out) : gb4 ≠ gb8)); have n7_ := Aside0.mk ((by rw [hg]; exact Nat.ne_of_lt (blk_lt BK6.out) : gb6 ≠ gb8)); have n8_ := Aside0.mk ((by rw [hg]; exact Nat.ne_of_lt (by have h_ := World.block_lt_of_cell? _ _ LK.out; rwa [impl_Sample_bestStump.add_blk] at h_) : ad5.block ≠ gb8)); have n9_ := Aside0.mk (Kd.S_mono (ok' := fun k_ => (k_ ≠ gb4 ∧ k_ ≠ gb6) ∧ k_ ≠ gb8) (Kd.S_below (Kd.S_bound HO.out) hb) (fun k_ hk => ⟨hk.1, by rw [hg]; exact Nat.ne_of_lt hk.2.2.1⟩)); have n10_ := Aside0.mk (impl_Sample_bestStump.cell_keep LK.out hb); have n11_ := Aside0.mk (impl_Sample_bestStump.cell_keep HX0.out hb); have n12_ := Aside0.mk (impl_Sample_bestStump.cell_keep HX1.out hb); have n13_ := Aside0.mk (below_step (bD HB GE2 GE4) hb); clear BK2 BK4 BK6 HO LK HX0 HX1 HB; have BK2 := n0_; have BK4 := n1_; have BK6 := n2_; have BK8 := n3_; have GE8 := n4_; have NB28 := n5_; have NB48 := n6_; have NB68 := n7_; have NB58 := n8_; have HO := n9_; have LK := n10_; have HX0 := n11_; have HX1 := n12_; have HB := n13_; clear n0_ n1_ n2_ n3_ n4_ n5_ n6_ n7_ n8_ n9_ n10_ n11_ n12_ n13_; clear hb hbox hg; clear hx0 hx1; have hx0 := HX0.out; have hx1 := HX1.out; have hcz8_0 : w8.cell? ⟨gb8, 0, none⟩ = some (.slice none 0 0) := (blk_cell BK8.out 0).trans rfl; have hcz8_1 : w8.cell? ⟨gb8, 1, none⟩ = some (.int .i64 0) := (blk_cell BK8.out 1).trans rfl; have hfz8_0 := blk_frozen BK8.out 0; have hfz8_1 := blk_frozen BK8.out 1))
           have n0_ : Aside0 _ := Aside0.mk ((blk_far (p := ⟨gb8, 1, none⟩) (blk_far (p := ⟨gb8, 0, none⟩) BK2.out NB28.out (.slice Ai (rd_T39 st i).f0.length ci)) NB28.out (.int .i64 (rd_T39 st i).f1)))
           have n1_ : Aside0 _ := Aside0.mk ((blk_far (p := ⟨gb8, 1, none⟩) (blk_far (p := ⟨gb8, 0, none⟩) BK4.out NB48.out (.slice Ai (rd_T39 st i).f0.length ci)) NB48.out (.int .i64 (rd_T39 st i).f1)))
           have n2_ : Aside0 _ := Aside0.mk ((blk_far (p := ⟨gb8, 1, none⟩) (blk_far (p := ⟨gb8, 0, none⟩) BK6.out NB68.out (.slice Ai (rd_T39 st i).f0.length ci)) NB68.out (.int .i64 (rd_T39 st i).f1)))
           have n3_ : Aside0 _ := Aside0.mk (blk_put (cs := #[.slice Ai (rd_T39 st i).f0.length ci, .int .i64 0]) (blk_put (cs := #[.slice none 0 0, .int .i64 0]) BK8.out 0 (.slice Ai (rd_T39 st i).f0.length ci) rfl) 1 (.int .i64 (rd_T39 st i).f1) rfl)
           have n4_ : Aside0 _ := Aside0.mk (Kd.S_mono (Kd.S_far (p := ⟨gb8, 1, none⟩) (Kd.S_far (p := ⟨gb8, 0, none⟩) HO.out (fun _ hk => hk.2) (.slice Ai (rd_T39 st i).f0.length ci)) (fun _ hk => hk.2) (.int .i64 (rd_T39 st i).f1)) (fun _ hk => hk.1))
           have n5_ : Aside0 _ := Aside0.mk (impl_Sample_bestStump.cell_far (p := ⟨gb8, 1, none⟩) (impl_Sample_bestStump.cell_far (p := ⟨gb8, 0, none⟩) LK.out (impl_Sample_bestStump.add_far NB58.out) (.slice Ai (rd_T39 st i).f0.length ci)) (impl_Sample_bestStump.add_far NB58.out) (.int .i64 (rd_T39 st i).f1))
           have n6_ : Aside0 _ := Aside0.mk (impl_Sample_bestStump.cell_far (p := ⟨gb8, 1, none⟩) (impl_Sample_bestStump.cell_far (p := ⟨gb8, 0, none⟩) HX0.out (impl_Sample_bestStump.add_far NB58.out) (.slice Ai (rd_T39 st i).f0.length ci)) (impl_Sample_bestStump.add_far NB58.out) (.int .i64 (rd_T39 st i).f1))
           have n7_ : Aside0 _ := Aside0.mk (impl_Sample_bestStump.cell_far (p := ⟨gb8, 1, none⟩) (impl_Sample_bestStump.cell_far (p := ⟨gb8, 0, none⟩) HX1.out (by show (ad5.add (i.toNat * 2)).block ≠ gb8; exact impl_Sample_bestStump.add_far NB58.out) (.slice Ai (rd_T39 st i).f0.length ci)) (by show (ad5.add (i.toNat * 2)).block ≠ gb8; exact impl_Sample_bestStump.add_far NB58.out) (.int .i64 (rd_T39 st i).f1))
           have n8_ : Aside0 _ := Aside0.mk (below_set (j := 1) (v := (.int .i64 (rd_T39 st i).f1)) (below_set (j := 0) (v := (.slice Ai (rd_T39 st i).f0.length ci)) HB.out GE8.out) GE8.out)
           clear BK2 BK4 BK6 BK8 HO LK HX0 HX1 HB hx0 hx1 hcz8_0 hcz8_1 hfz8_0 hfz8_1
           have BK2 := n0_
           have BK4 := n1_
           have BK6 := n2_
           have BK8 := n3_
           have HO := n4_
           have LK := n5_
           have HX0 := n6_
           have HX1 := n7_
           have HB := n8_
           clear n0_ n1_ n2_ n3_ n4_ n5_ n6_ n7_ n8_
           generalize ((w8.setCell ⟨gb8, 0, none⟩ (.slice Ai (rd_T39 st i).f0.length ci)).setCell ⟨gb8, 1, none⟩ (.int .i64 (rd_T39 st i).f1)) = wS at BK2 BK4 BK6 BK8 HO LK HX0 HX1 HB ⊢
           obtain ⟨adi, Ai2, ci2, ei, hx0, hx1, hli, hi⟩ := at_T39 (Kd.S_reads' HO.out).2.2 i c4 c3
           obtain rfl : ad5 = adi := by injection ei
           have ei2 := hx0.symm.trans HX0.out
           simp only [Option.some.injEq, Value.slice.injEq] at ei2
           obtain ⟨rfl, -, rfl⟩ := ei2
           clear hx0 hx1 ei
           obtain ⟨adb, Ab', cb', eb, hb0, _, hlb, hbr⟩ := at_T39 (Kd.S_reads' HO.out).2.2 b HBB.out.1 HBB.out.2
           obtain rfl : ad5 = adb := by injection eb
           have eb2 := hb0.symm.trans LK.out
           simp only [Option.some.injEq, Value.slice.injEq] at eb2
           obtain ⟨rfl, -, rfl⟩ := eb2
           clear hb0 eb
           have HRI := Aside0.mk hi
           have HCI := Aside0.mk hli
           have HRB := Aside0.mk hbr
           have HCB := Aside0.mk hlb
           clear hi hli hbr hlb
           have hd := below_drew (Below.refl wS.heap.size wS)
           have n0_ := Aside0.mk (bW BK2 hd)
           have n1_ := Aside0.mk (bW BK4 hd)
           have n2_ := Aside0.mk (bW BK6 hd)
           have n3_ := Aside0.mk (Kd.S_below HO.out hd)
           have n4_ := Aside0.mk (impl_Sample_bestStump.cell_keep LK.out hd)
           have n5_ := Aside0.mk (impl_Sample_bestStump.cell_keep HX0.out hd)
           have n6_ := Aside0.mk (impl_Sample_bestStump.cell_keep HX1.out hd)
           have n7_ := Aside0.mk (Kd.C_below HRI.out hd)
           have n8_ := Aside0.mk (Kd.C_below HRB.out hd)
           have n9_ := Aside0.mk (below_step HB.out hd)
           have n10_ := Aside0.mk (bW BK8 hd)
           clear BK2 BK4 BK6 HO LK HX0 HX1 HRI HRB HB BK8
           have BK2 := n0_
           have BK4 := n1_
           have BK6 := n2_
           have HO := n3_
           have LK := n4_
           have HX0 := n5_
           have HX1 := n6_
           have HRI := n7_
           have HRB := n8_
           have HB := n9_
           have BK8 := n10_
           clear n0_ n1_ n2_ n3_ n4_ n5_ n6_ n7_ n8_ n9_ n10_
           clear hd
           refine start_ (n := 9) (S := fun w' => w'.cell? ⟨gb2, 0, none⟩ = some (.slice A0_0 l0_0.length c0_0) ∧ w'.cell? ⟨gb2, 1, none⟩ = some (.slice A0_1 l0_1.length c0_1) ∧ w'.cell? ⟨gb8, 0, none⟩ = some (.slice Ai2 (rd_T39 st i).f0.length ci2) ∧ w'.cell? ⟨gb8, 1, none⟩ = some (.int .i64 (rd_T39 st i).f1) ∧ w'.cell? ⟨gb6, 0, none⟩ = some (.slice Ab' (rd_T39 st b).f0.length cb') ∧ w'.cell? ⟨gb6, 1, none⟩ = some (.int .i64 (rd_T39 st b).f1)) (ds := []) #[false, false, false, false, false, false, false, false, false] (by kernel_rfl) rfl rfl ⟨(blk_cell BK2.out 0).trans rfl, (blk_cell BK2.out 1).trans rfl, (blk_cell BK8.out 0).trans rfl, (blk_cell BK8.out 1).trans rfl, (blk_cell BK6.out 0).trans rfl, (blk_cell BK6.out 1).trans rfl⟩ (fun hHeld => ?_)
           generalize wS.drew = w13 at BK2 BK4 BK6 BK8 HO LK HX0 HX1 HRI HRB HB hHeld ⊢
           refine pure_ (i := 1) (N := some 21) (v := ?_) (a' := ?_) #[false, true, false, false, false, false, false, false, false] rfl rfl (by kernel_rfl) (fun _ _ _ h => h) (Or.inl ⟨by rfl, ?_⟩) ?_ ?_
           rotate_left
           · intro w'
             go_simp
             with_reducible rfl
           rotate_left
           · exact aP
           refine pure_ (i := 5) (N := some 25) (v := ?_) (a' := ?_) #[false, true, false, false, false, true, false, false, false] rfl rfl (by kernel_rfl) (fun _ _ _ h => h) (Or.inl ⟨by rfl, ?_⟩) ?_ ?_
           rotate_left
           · intro w'
             go_simp
             with_reducible rfl
           rotate_left
           · exact aP
           refine take_ (i := 0) (N := some 20) (v := ?_) (a' := ?_) #[true, true, false, false, false, true, false, false, false] rfl rfl (by kernel_rfl) (fun _ _ _ h => h) (Or.inl ⟨by rfl, ?_⟩) hHeld ?_ ?_
           rotate_left
           · rintro w' ⟨s0, s1, s2, s3, s4, s5⟩
             go_simp
             with_reducible rfl
           rotate_left
           · exact aP
           refine take_ (i := 2) (N := some 22) (v := ?_) (a' := ?_) #[true, true, true, false, false, true, false, false, false] rfl rfl (by kernel_rfl) (fun _ _ _ h => h) (Or.inl ⟨by rfl, ?_⟩) hHeld ?_ ?_
           rotate_left
           · rintro w' ⟨s0, s1, s2, s3, s4, s5⟩
             go_simp
             with_reducible rfl
           rotate_left
           · exact aP
           refine take_ (i := 4) (N := some 24) (v := ?_) (a' := ?_) #[true, true, true, false, true, true, false, false, false] rfl rfl (by kernel_rfl) (fun _ _ _ h => h) (Or.inl ⟨by rfl, ?_⟩) hHeld ?_ ?_
           rotate_left
           · rintro w' ⟨s0, s1, s2, s3, s4, s5⟩
             go_simp
             with_reducible rfl
           rotate_left
           · exact aP
           refine take_ (i := 6) (N := some 26) (v := ?_) (a' := ?_) #[true, true, true, false, true, true, true, false, false] rfl rfl (by kernel_rfl) (fun _ _ _ h => h) (Or.inl ⟨by rfl, ?_⟩) hHeld ?_ ?_
           rotate_left
           · rintro w' ⟨s0, s1, s2, s3, s4, s5⟩
             go_simp
             with_reducible rfl
           rotate_left
           · exact aP
           refine one_ (i := 3) (N := some 23) #[true, true, true, true, true, true, true, false, false] rfl rfl (by kernel_rfl) (by decide) (fun K hK => ?_)
           refine goes_ Try.func159 (by kernel_rfl) rfl #[.agg #[.slice A0_0 l0_0.length c0_0, .slice A0_1 l0_1.length c0_1], .slice A1 l1.length c1, .agg #[.slice Ai2 (rd_T39 st i).f0.length ci2, .int .i64 (rd_T39 st i).f1]] (by rfl) rfl rfl aT ?_
           with_reducible refine (impl_Sample_weighted.calls k1 _ _ l0_0 _ _ l0_1 _ _ l1 _ _ (rd_T39 st i).f0 (rd_T39 st i).f1 _ _ ?side1 ?side2 ?side3 ?side4 ?side5 ?side6 ?side7 ?side8 HT.out).mono ?_
           (case side1 => exact cB HR0_0 HB)
           (case side2 => exact HC0_0.out)
           (case side3 => exact cB HR0_1 HB)
           (case side4 => exact HC0_1.out)
           (case side5 => exact cB HR1 HB)
           (case side6 => exact HC1.out)
           (case side7 => exact HRI.out)
           (case side8 => exact HCI.out)
           rintro e w14 ⟨rfl, hb⟩
           refine ⟨_, rfl, ?_⟩
           have n0_ := Aside0.mk (bW BK2 hb)
           have n1_ := Aside0.mk (bW BK4 hb)
           have n2_ := Aside0.mk (bW BK6 hb)
           have n3_ := Aside0.mk (Kd.S_below HO.out hb)
           have n4_ := Aside0.mk (impl_Sample_bestStump.cell_keep LK.out hb)
           have n5_ := Aside0.mk (impl_Sample_bestStump.cell_keep HX0.out hb)
           have n6_ := Aside0.mk (impl_Sample_bestStump.cell_keep HX1.out hb)
           have n7_ := Aside0.mk (Kd.C_below HRI.out hb)
           have n8_ := Aside0.mk (Kd.C_below HRB.out hb)
           have n9_ := Aside0.mk (below_step HB.out hb)
           have n10_ := Aside0.mk (bW BK8 hb)
           clear BK2 BK4 BK6 HO LK HX0 HX1 HRI HRB HB BK8
           have BK2 := n0_
           have BK4 := n1_
           have BK6 := n2_
           have HO := n3_
           have LK := n4_
           have HX0 := n5_
           have HX1 := n6_
           have HRI := n7_
           have HRB := n8_
           have HB := n9_
           have BK8 := n10_
           clear n0_ n1_ n2_ n3_ n4_ n5_ n6_ n7_ n8_ n9_ n10_
           clear hb
           refine hK.out _ _ ⟨(blk_cell BK2.out 0).trans rfl, (blk_cell BK2.out 1).trans rfl, (blk_cell BK8.out 0).trans rfl, (blk_cell BK8.out 1).trans rfl, (blk_cell BK6.out 0).trans rfl, (blk_cell BK6.out 1).trans rfl⟩ (fun hHeld => ?_)
           clear hK K
           refine norm_ (a' := ?_) ?_ ?_
           rotate_left
           · show Act.put _ (some 23) _ = _
             simp only [Act.put, List.setIfInBounds_toArray, List.set_cons_zero, List.set_cons_succ, i64_w, i32_w]
             rfl
           refine one_ (i := 7) (N := some 27) #[true, true, true, true, true, true, true, true, false] rfl rfl (by kernel_rfl) (by decide) (fun K hK => ?_)
           refine goes_ Try.func159 (by kernel_rfl) rfl #[.agg #[.slice A0_0 l0_0.length c0_0, .slice A0_1 l0_1.length c0_1], .slice A1 l1.length c1, .agg #[.slice Ab' (rd_T39 st b).f0.length cb', .int .i64 (rd_T39 st b).f1]] (by rfl) rfl rfl aT ?_
           with_reducible refine (impl_Sample_weighted.calls k1 _ _ l0_0 _ _ l0_1 _ _ l1 _ _ (rd_T39 st b).f0 (rd_T39 st b).f1 _ _ ?side1 ?side2 ?side3 ?side4 ?side5 ?side6 ?side7 ?side8 HU.out).mono ?_
           (case side1 => exact cB HR0_0 HB)
           (case side2 => exact HC0_0.out)
           (case side3 => exact cB HR0_1 HB)
           (case side4 => exact HC0_1.out)
           (case side5 => exact cB HR1 HB)
           (case side6 => exact HC1.out)
           (case side7 => exact HRB.out)
           (case side8 => exact HCB.out)
           rintro e w15 ⟨rfl, hb⟩
           refine ⟨_, rfl, ?_⟩
           have n0_ := Aside0.mk (bW BK2 hb)
           have n1_ := Aside0.mk (bW BK4 hb)
           have n2_ := Aside0.mk (bW BK6 hb)
           have n3_ := Aside0.mk (Kd.S_below HO.out hb)
           have n4_ := Aside0.mk (impl_Sample_bestStump.cell_keep LK.out hb)
           have n5_ := Aside0.mk (impl_Sample_bestStump.cell_keep HX0.out hb)
           have n6_ := Aside0.mk (impl_Sample_bestStump.cell_keep HX1.out hb)
           have n7_ := Aside0.mk (Kd.C_below HRI.out hb)
           have n8_ := Aside0.mk (Kd.C_below HRB.out hb)
           have n9_ := Aside0.mk (below_step HB.out hb)
           have n10_ := Aside0.mk (bW BK8 hb)
           clear BK2 BK4 BK6 HO LK HX0 HX1 HRI HRB HB BK8
           have BK2 := n0_
           have BK4 := n1_
           have BK6 := n2_
           have HO := n3_
           have LK := n4_
           have HX0 := n5_
           have HX1 := n6_
           have HRI := n7_
           have HRB := n8_
           have HB := n9_
           have BK8 := n10_
           clear n0_ n1_ n2_ n3_ n4_ n5_ n6_ n7_ n8_ n9_ n10_
           clear hb
           refine hK.out _ _ ⟨(blk_cell BK2.out 0).trans rfl, (blk_cell BK2.out 1).trans rfl, (blk_cell BK8.out 0).trans rfl, (blk_cell BK8.out 1).trans rfl, (blk_cell BK6.out 0).trans rfl, (blk_cell BK6.out 1).trans rfl⟩ (fun hHeld => ?_)
           clear hK K
           refine norm_ (a' := ?_) ?_ ?_
           rotate_left
           · show Act.put _ (some 27) _ = _
             simp only [Act.put, List.setIfInBounds_toArray, List.set_cons_zero, List.set_cons_succ, i64_w, i32_w]
             rfl
           refine pure_ (i := 8) (N := some 28) (v := ?_) (a' := ?_) #[true, true, true, true, true, true, true, true, true] rfl rfl (by kernel_rfl) (fun _ _ _ h => h) (Or.inl ⟨by rfl, ?_⟩) ?_ ?_
           rotate_left
           · intro w'
             go_simp
             with_reducible rfl
           rotate_left
           · exact aP
           refine done_ (by kernel_rfl) ?_
           have hcz8_0 := (blk_cell BK8.out 0).trans rfl
           have hcz8_1 := (blk_cell BK8.out 1).trans rfl
           have hcz6_0 := (blk_cell BK6.out 0).trans rfl
           have hcz6_1 := (blk_cell BK6.out 1).trans rfl
           have hfz6_0 := blk_frozen BK6.out 0
           have hfz6_1 := blk_frozen BK6.out 1
           clear LK
           have LK := HX0
           try go_wp2
           go_roundg k1
           case measure => have := HK1.out; omega
           case rel => exact ⟨i, wrap64 (i + 1), Ai2, ci2, rD, H', ⟨by have := HK1.out; omega⟩, ⟨c4, c3⟩, ⟨(blk_far (p := ⟨gb6, 1, none⟩) (blk_far (p := ⟨gb6, 0, none⟩) BK2.out NB26.out _) NB26.out _)⟩, ⟨(blk_far (p := ⟨gb6, 1, none⟩) (blk_far (p := ⟨gb6, 0, none⟩) BK4.out NB46.out _) NB46.out _)⟩, ⟨(blk_put (cs := #[.slice Ai2 (rd_T39 st i).f0.length ci2, .int .i64 (rd_T39 st b).f1]) (blk_put (cs := #[.slice Ab' (rd_T39 st b).f0.length cb', .int .i64 (rd_T39 st b).f1]) BK6.out 0 _ rfl) 1 _ rfl)⟩, ⟨Kd.S_far (p := ⟨gb6, 1, none⟩) (Kd.S_far (p := ⟨gb6, 0, none⟩) HO.out (fun _ hk => hk.2) _) (fun _ hk => hk.2) _⟩, ⟨impl_Sample_bestStump.cell_far (p := ⟨gb6, 1, none⟩) (impl_Sample_bestStump.cell_far (p := ⟨gb6, 0, none⟩) LK.out (impl_Sample_bestStump.add_far NB56.out) _) (impl_Sample_bestStump.add_far NB56.out) _⟩, ⟨bD HB GE2 GE6⟩⟩
         · rw [if_neg c5] at H
           have c5b0 : decide (t < u) = false := decide_eq_false c5
           have H' := Aside0.mk H
           clear H c5
           obtain ⟨adi, Ai, ci, ei, hx0, hx1, hli, hi⟩ := at_T39 (Kd.S_reads' HO.out).2.2 i c4 c3
           obtain rfl : ad5 = adi := by injection ei
           clear ei
           have p5 := eq_true c4
           have q5 := eq_true c3
           have c3b0 : decide (i < (st.length : Int)) = true := decide_eq_true c3
           have HX0 := Aside0.mk hx0
           have HX1 := Aside0.mk hx1
           clear hi hli
           go_wp2_with (first | ((with_reducible refine gate_dst (N := 8) rfl ?_); refine box_event ?hg (N := 8) ?hd (cs := #[.slice none 0 0, .int .i64 0]) (t := 39) ?hr ?_; (case hd => rfl); (case hg => rfl); (case hr => first | (go_simp; done) | (go_simp; rfl)); intro gb8 hg w8 hbox hb; have n0_ := Aside0.mk (bW BK2 hb); have n1_ := Aside0.mk (bW BK4 hb); have n2_ := Aside0.mk (bW BK6 hb); have n3_ := Aside0.mk (hbox); have n4_ := Aside0.mk ((by rw [hg]; exact (below_size (bD HB GE2 GE4)) : w.heap.size ≤ gb8)); have n5_ := Aside0.mk ((by rw [hg]; exact Nat.ne_of_lt (blk_lt BK2.out) : gb2 ≠ gb8)); have n6_ := Aside0.mk ((by rw [hg]; exact Nat.ne_of_lt (blk_lt BK4.out) : gb4 ≠ gb8)); have n7_ := Aside0.mk ((by rw [hg]; exact Nat.ne_of_lt (blk_lt BK6.out) : gb6 ≠ gb8)); have n8_ := Aside0.mk ((by rw [hg]; exact Nat.ne_of_lt (by have h_ := World.block_lt_of_cell? _ _ LK.out; rwa [impl_Sample_bestStump.add_blk] at h_) : ad5.block ≠ gb8)); have n9_ := Aside0.mk (Kd.S_mono (ok' := fun k_ => (k_ ≠ gb4 ∧ k_ ≠ gb6) ∧ k_ ≠ gb8) (Kd.S_below (Kd.S_bound HO.out) hb) (fun k_ hk => ⟨hk.1, by rw [hg]; exact Nat.ne_of_lt hk.2.2.1⟩)); have n10_ := Aside0.mk (impl_Sample_bestStump.cell_keep LK.out hb); have n11_ := Aside0.mk (impl_Sample_bestStump.cell_keep HX0.out hb); have n12_ := Aside0.mk (impl_Sample_bestStump.cell_keep HX1.out hb); have n13_ := Aside0.mk (below_step (bD HB GE2 GE4) hb); clear BK2 BK4 BK6 HO LK HX0 HX1 HB; have BK2 := n0_; have BK4 := n1_; have BK6 := n2_; have BK8 := n3_; have GE8 := n4_; have NB28 := n5_; have NB48 := n6_; have NB68 := n7_; have NB58 := n8_; have HO := n9_; have LK := n10_; have HX0 := n11_; have HX1 := n12_; have HB := n13_; clear n0_ n1_ n2_ n3_ n4_ n5_ n6_ n7_ n8_ n9_ n10_ n11_ n12_ n13_; clear hb hbox hg; clear hx0 hx1; have hx0 := HX0.out; have hx1 := HX1.out; have hcz8_0 : w8.cell? ⟨gb8, 0, none⟩ = some (.slice none 0 0) := (blk_cell BK8.out 0).trans rfl; have hcz8_1 : w8.cell? ⟨gb8, 1, none⟩ = some (.int .i64 0) := (blk_cell BK8.out 1).trans rfl; have hfz8_0 := blk_frozen BK8.out 0; have hfz8_1 := blk_frozen BK8.out 1))
           have n0_ : Aside0 _ := Aside0.mk ((blk_far (p := ⟨gb8, 1, none⟩) (blk_far (p := ⟨gb8, 0, none⟩) BK2.out NB28.out (.slice Ai (rd_T39 st i).f0.length ci)) NB28.out (.int .i64 (rd_T39 st i).f1)))
           have n1_ : Aside0 _ := Aside0.mk ((blk_far (p := ⟨gb8, 1, none⟩) (blk_far (p := ⟨gb8, 0, none⟩) BK4.out NB48.out (.slice Ai (rd_T39 st i).f0.length ci)) NB48.out (.int .i64 (rd_T39 st i).f1)))
           have n2_ : Aside0 _ := Aside0.mk ((blk_far (p := ⟨gb8, 1, none⟩) (blk_far (p := ⟨gb8, 0, none⟩) BK6.out NB68.out (.slice Ai (rd_T39 st i).f0.length ci)) NB68.out (.int .i64 (rd_T39 st i).f1)))
           have n3_ : Aside0 _ := Aside0.mk (blk_put (cs := #[.slice Ai (rd_T39 st i).f0.length ci, .int .i64 0]) (blk_put (cs := #[.slice none 0 0, .int .i64 0]) BK8.out 0 (.slice Ai (rd_T39 st i).f0.length ci) rfl) 1 (.int .i64 (rd_T39 st i).f1) rfl)
           have n4_ : Aside0 _ := Aside0.mk (Kd.S_mono (Kd.S_far (p := ⟨gb8, 1, none⟩) (Kd.S_far (p := ⟨gb8, 0, none⟩) HO.out (fun _ hk => hk.2) (.slice Ai (rd_T39 st i).f0.length ci)) (fun _ hk => hk.2) (.int .i64 (rd_T39 st i).f1)) (fun _ hk => hk.1))
           have n5_ : Aside0 _ := Aside0.mk (impl_Sample_bestStump.cell_far (p := ⟨gb8, 1, none⟩) (impl_Sample_bestStump.cell_far (p := ⟨gb8, 0, none⟩) LK.out (impl_Sample_bestStump.add_far NB58.out) (.slice Ai (rd_T39 st i).f0.length ci)) (impl_Sample_bestStump.add_far NB58.out) (.int .i64 (rd_T39 st i).f1))
           have n6_ : Aside0 _ := Aside0.mk (impl_Sample_bestStump.cell_far (p := ⟨gb8, 1, none⟩) (impl_Sample_bestStump.cell_far (p := ⟨gb8, 0, none⟩) HX0.out (impl_Sample_bestStump.add_far NB58.out) (.slice Ai (rd_T39 st i).f0.length ci)) (impl_Sample_bestStump.add_far NB58.out) (.int .i64 (rd_T39 st i).f1))
           have n7_ : Aside0 _ := Aside0.mk (impl_Sample_bestStump.cell_far (p := ⟨gb8, 1, none⟩) (impl_Sample_bestStump.cell_far (p := ⟨gb8, 0, none⟩) HX1.out (by show (ad5.add (i.toNat * 2)).block ≠ gb8; exact impl_Sample_bestStump.add_far NB58.out) (.slice Ai (rd_T39 st i).f0.length ci)) (by show (ad5.add (i.toNat * 2)).block ≠ gb8; exact impl_Sample_bestStump.add_far NB58.out) (.int .i64 (rd_T39 st i).f1))
           have n8_ : Aside0 _ := Aside0.mk (below_set (j := 1) (v := (.int .i64 (rd_T39 st i).f1)) (below_set (j := 0) (v := (.slice Ai (rd_T39 st i).f0.length ci)) HB.out GE8.out) GE8.out)
           clear BK2 BK4 BK6 BK8 HO LK HX0 HX1 HB hx0 hx1 hcz8_0 hcz8_1 hfz8_0 hfz8_1
           have BK2 := n0_
           have BK4 := n1_
           have BK6 := n2_
           have BK8 := n3_
           have HO := n4_
           have LK := n5_
           have HX0 := n6_
           have HX1 := n7_
           have HB := n8_
           clear n0_ n1_ n2_ n3_ n4_ n5_ n6_ n7_ n8_
           generalize ((w8.setCell ⟨gb8, 0, none⟩ (.slice Ai (rd_T39 st i).f0.length ci)).setCell ⟨gb8, 1, none⟩ (.int .i64 (rd_T39 st i).f1)) = wS at BK2 BK4 BK6 BK8 HO LK HX0 HX1 HB ⊢
           obtain ⟨adi, Ai2, ci2, ei, hx0, hx1, hli, hi⟩ := at_T39 (Kd.S_reads' HO.out).2.2 i c4 c3
           obtain rfl : ad5 = adi := by injection ei
           have ei2 := hx0.symm.trans HX0.out
           simp only [Option.some.injEq, Value.slice.injEq] at ei2
           obtain ⟨rfl, -, rfl⟩ := ei2
           clear hx0 hx1 ei
           obtain ⟨adb, Ab', cb', eb, hb0, _, hlb, hbr⟩ := at_T39 (Kd.S_reads' HO.out).2.2 b HBB.out.1 HBB.out.2
           obtain rfl : ad5 = adb := by injection eb
           have eb2 := hb0.symm.trans LK.out
           simp only [Option.some.injEq, Value.slice.injEq] at eb2
           obtain ⟨rfl, -, rfl⟩ := eb2
           clear hb0 eb
           have HRI := Aside0.mk hi
           have HCI := Aside0.mk hli
           have HRB := Aside0.mk hbr
           have HCB := Aside0.mk hlb
           clear hi hli hbr hlb
           have hd := below_drew (Below.refl wS.heap.size wS)
           have n0_ := Aside0.mk (bW BK2 hd)
           have n1_ := Aside0.mk (bW BK4 hd)
           have n2_ := Aside0.mk (bW BK6 hd)
           have n3_ := Aside0.mk (Kd.S_below HO.out hd)
           have n4_ := Aside0.mk (impl_Sample_bestStump.cell_keep LK.out hd)
           have n5_ := Aside0.mk (impl_Sample_bestStump.cell_keep HX0.out hd)
           have n6_ := Aside0.mk (impl_Sample_bestStump.cell_keep HX1.out hd)
           have n7_ := Aside0.mk (Kd.C_below HRI.out hd)
           have n8_ := Aside0.mk (Kd.C_below HRB.out hd)
           have n9_ := Aside0.mk (below_step HB.out hd)
           have n10_ := Aside0.mk (bW BK8 hd)
           clear BK2 BK4 BK6 HO LK HX0 HX1 HRI HRB HB BK8
           have BK2 := n0_
           have BK4 := n1_
           have BK6 := n2_
           have HO := n3_
           have LK := n4_
           have HX0 := n5_
           have HX1 := n6_
           have HRI := n7_
           have HRB := n8_
           have HB := n9_
           have BK8 := n10_
           clear n0_ n1_ n2_ n3_ n4_ n5_ n6_ n7_ n8_ n9_ n10_
           clear hd
           refine start_ (n := 9) (S := fun w' => w'.cell? ⟨gb2, 0, none⟩ = some (.slice A0_0 l0_0.length c0_0) ∧ w'.cell? ⟨gb2, 1, none⟩ = some (.slice A0_1 l0_1.length c0_1) ∧ w'.cell? ⟨gb8, 0, none⟩ = some (.slice Ai2 (rd_T39 st i).f0.length ci2) ∧ w'.cell? ⟨gb8, 1, none⟩ = some (.int .i64 (rd_T39 st i).f1) ∧ w'.cell? ⟨gb6, 0, none⟩ = some (.slice Ab' (rd_T39 st b).f0.length cb') ∧ w'.cell? ⟨gb6, 1, none⟩ = some (.int .i64 (rd_T39 st b).f1)) (ds := []) #[false, false, false, false, false, false, false, false, false] (by kernel_rfl) rfl rfl ⟨(blk_cell BK2.out 0).trans rfl, (blk_cell BK2.out 1).trans rfl, (blk_cell BK8.out 0).trans rfl, (blk_cell BK8.out 1).trans rfl, (blk_cell BK6.out 0).trans rfl, (blk_cell BK6.out 1).trans rfl⟩ (fun hHeld => ?_)
           generalize wS.drew = w13 at BK2 BK4 BK6 BK8 HO LK HX0 HX1 HRI HRB HB hHeld ⊢
           refine pure_ (i := 1) (N := some 21) (v := ?_) (a' := ?_) #[false, true, false, false, false, false, false, false, false] rfl rfl (by kernel_rfl) (fun _ _ _ h => h) (Or.inl ⟨by rfl, ?_⟩) ?_ ?_
           rotate_left
           · intro w'
             go_simp
             with_reducible rfl
           rotate_left
           · exact aP
           refine pure_ (i := 5) (N := some 25) (v := ?_) (a' := ?_) #[false, true, false, false, false, true, false, false, false] rfl rfl (by kernel_rfl) (fun _ _ _ h => h) (Or.inl ⟨by rfl, ?_⟩) ?_ ?_
           rotate_left
           · intro w'
             go_simp
             with_reducible rfl
           rotate_left
           · exact aP
           refine take_ (i := 0) (N := some 20) (v := ?_) (a' := ?_) #[true, true, false, false, false, true, false, false, false] rfl rfl (by kernel_rfl) (fun _ _ _ h => h) (Or.inl ⟨by rfl, ?_⟩) hHeld ?_ ?_
           rotate_left
           · rintro w' ⟨s0, s1, s2, s3, s4, s5⟩
             go_simp
             with_reducible rfl
           rotate_left
           · exact aP
           refine take_ (i := 2) (N := some 22) (v := ?_) (a' := ?_) #[true, true, true, false, false, true, false, false, false] rfl rfl (by kernel_rfl) (fun _ _ _ h => h) (Or.inl ⟨by rfl, ?_⟩) hHeld ?_ ?_
           rotate_left
           · rintro w' ⟨s0, s1, s2, s3, s4, s5⟩
             go_simp
             with_reducible rfl
           rotate_left
           · exact aP
           refine take_ (i := 4) (N := some 24) (v := ?_) (a' := ?_) #[true, true, true, false, true, true, false, false, false] rfl rfl (by kernel_rfl) (fun _ _ _ h => h) (Or.inl ⟨by rfl, ?_⟩) hHeld ?_ ?_
           rotate_left
           · rintro w' ⟨s0, s1, s2, s3, s4, s5⟩
             go_simp
             with_reducible rfl
           rotate_left
           · exact aP
           refine take_ (i := 6) (N := some 26) (v := ?_) (a' := ?_) #[true, true, true, false, true, true, true, false, false] rfl rfl (by kernel_rfl) (fun _ _ _ h => h) (Or.inl ⟨by rfl, ?_⟩) hHeld ?_ ?_
           rotate_left
           · rintro w' ⟨s0, s1, s2, s3, s4, s5⟩
             go_simp
             with_reducible rfl
           rotate_left
           · exact aP
           refine one_ (i := 3) (N := some 23) #[true, true, true, true, true, true, true, false, false] rfl rfl (by kernel_rfl) (by decide) (fun K hK => ?_)
           refine goes_ Try.func159 (by kernel_rfl) rfl #[.agg #[.slice A0_0 l0_0.length c0_0, .slice A0_1 l0_1.length c0_1], .slice A1 l1.length c1, .agg #[.slice Ai2 (rd_T39 st i).f0.length ci2, .int .i64 (rd_T39 st i).f1]] (by rfl) rfl rfl aT ?_
           with_reducible refine (impl_Sample_weighted.calls k1 _ _ l0_0 _ _ l0_1 _ _ l1 _ _ (rd_T39 st i).f0 (rd_T39 st i).f1 _ _ ?side1 ?side2 ?side3 ?side4 ?side5 ?side6 ?side7 ?side8 HT.out).mono ?_
           (case side1 => exact cB HR0_0 HB)
           (case side2 => exact HC0_0.out)
           (case side3 => exact cB HR0_1 HB)
           (case side4 => exact HC0_1.out)
           (case side5 => exact cB HR1 HB)
           (case side6 => exact HC1.out)
           (case side7 => exact HRI.out)
           (case side8 => exact HCI.out)
           rintro e w14 ⟨rfl, hb⟩
           refine ⟨_, rfl, ?_⟩
           have n0_ := Aside0.mk (bW BK2 hb)
           have n1_ := Aside0.mk (bW BK4 hb)
           have n2_ := Aside0.mk (bW BK6 hb)
           have n3_ := Aside0.mk (Kd.S_below HO.out hb)
           have n4_ := Aside0.mk (impl_Sample_bestStump.cell_keep LK.out hb)
           have n5_ := Aside0.mk (impl_Sample_bestStump.cell_keep HX0.out hb)
           have n6_ := Aside0.mk (impl_Sample_bestStump.cell_keep HX1.out hb)
           have n7_ := Aside0.mk (Kd.C_below HRI.out hb)
           have n8_ := Aside0.mk (Kd.C_below HRB.out hb)
           have n9_ := Aside0.mk (below_step HB.out hb)
           have n10_ := Aside0.mk (bW BK8 hb)
           clear BK2 BK4 BK6 HO LK HX0 HX1 HRI HRB HB BK8
           have BK2 := n0_
           have BK4 := n1_
           have BK6 := n2_
           have HO := n3_
           have LK := n4_
           have HX0 := n5_
           have HX1 := n6_
           have HRI := n7_
           have HRB := n8_
           have HB := n9_
           have BK8 := n10_
           clear n0_ n1_ n2_ n3_ n4_ n5_ n6_ n7_ n8_ n9_ n10_
           clear hb
           refine hK.out _ _ ⟨(blk_cell BK2.out 0).trans rfl, (blk_cell BK2.out 1).trans rfl, (blk_cell BK8.out 0).trans rfl, (blk_cell BK8.out 1).trans rfl, (blk_cell BK6.out 0).trans rfl, (blk_cell BK6.out 1).trans rfl⟩ (fun hHeld => ?_)
           clear hK K
           refine norm_ (a' := ?_) ?_ ?_
           rotate_left
           · show Act.put _ (some 23) _ = _
             simp only [Act.put, List.setIfInBounds_toArray, List.set_cons_zero, List.set_cons_succ, i64_w, i32_w]
             rfl
           refine one_ (i := 7) (N := some 27) #[true, true, true, true, true, true, true, true, false] rfl rfl (by kernel_rfl) (by decide) (fun K hK => ?_)
           refine goes_ Try.func159 (by kernel_rfl) rfl #[.agg #[.slice A0_0 l0_0.length c0_0, .slice A0_1 l0_1.length c0_1], .slice A1 l1.length c1, .agg #[.slice Ab' (rd_T39 st b).f0.length cb', .int .i64 (rd_T39 st b).f1]] (by rfl) rfl rfl aT ?_
           with_reducible refine (impl_Sample_weighted.calls k1 _ _ l0_0 _ _ l0_1 _ _ l1 _ _ (rd_T39 st b).f0 (rd_T39 st b).f1 _ _ ?side1 ?side2 ?side3 ?side4 ?side5 ?side6 ?side7 ?side8 HU.out).mono ?_
           (case side1 => exact cB HR0_0 HB)
           (case side2 => exact HC0_0.out)
           (case side3 => exact cB HR0_1 HB)
           (case side4 => exact HC0_1.out)
           (case side5 => exact cB HR1 HB)
           (case side6 => exact HC1.out)
           (case side7 => exact HRB.out)
           (case side8 => exact HCB.out)
           rintro e w15 ⟨rfl, hb⟩
           refine ⟨_, rfl, ?_⟩
           have n0_ := Aside0.mk (bW BK2 hb)
           have n1_ := Aside0.mk (bW BK4 hb)
           have n2_ := Aside0.mk (bW BK6 hb)
           have n3_ := Aside0.mk (Kd.S_below HO.out hb)
           have n4_ := Aside0.mk (impl_Sample_bestStump.cell_keep LK.out hb)
           have n5_ := Aside0.mk (impl_Sample_bestStump.cell_keep HX0.out hb)
           have n6_ := Aside0.mk (impl_Sample_bestStump.cell_keep HX1.out hb)
           have n7_ := Aside0.mk (Kd.C_below HRI.out hb)
           have n8_ := Aside0.mk (Kd.C_below HRB.out hb)
           have n9_ := Aside0.mk (below_step HB.out hb)
           have n10_ := Aside0.mk (bW BK8 hb)
           clear BK2 BK4 BK6 HO LK HX0 HX1 HRI HRB HB BK8
           have BK2 := n0_
           have BK4 := n1_
           have BK6 := n2_
           have HO := n3_
           have LK := n4_
           have HX0 := n5_
           have HX1 := n6_
           have HRI := n7_
           have HRB := n8_
           have HB := n9_
           have BK8 := n10_
           clear n0_ n1_ n2_ n3_ n4_ n5_ n6_ n7_ n8_ n9_ n10_
           clear hb
           refine hK.out _ _ ⟨(blk_cell BK2.out 0).trans rfl, (blk_cell BK2.out 1).trans rfl, (blk_cell BK8.out 0).trans rfl, (blk_cell BK8.out 1).trans rfl, (blk_cell BK6.out 0).trans rfl, (blk_cell BK6.out 1).trans rfl⟩ (fun hHeld => ?_)
           clear hK K
           refine norm_ (a' := ?_) ?_ ?_
           rotate_left
           · show Act.put _ (some 27) _ = _
             simp only [Act.put, List.setIfInBounds_toArray, List.set_cons_zero, List.set_cons_succ, i64_w, i32_w]
             rfl
           refine pure_ (i := 8) (N := some 28) (v := ?_) (a' := ?_) #[true, true, true, true, true, true, true, true, true] rfl rfl (by kernel_rfl) (fun _ _ _ h => h) (Or.inl ⟨by rfl, ?_⟩) ?_ ?_
           rotate_left
           · intro w'
             go_simp
             with_reducible rfl
           rotate_left
           · exact aP
           refine done_ (by kernel_rfl) ?_
           try go_wp2
           go_roundg k1
           case measure => have := HK1.out; omega
           case rel => exact ⟨b, wrap64 (i + 1), Ab', cb', rD, H', ⟨by have := HK1.out; omega⟩, HBB, BK2, BK4, BK6, HO, LK, HB⟩
       · rw [if_neg c4] at H
         exact absurd H (by simp)
     · rw [if_neg c3] at H
       obtain rfl := Option.some.inj H
       have c3b0 : decide (i < (st.length : Int)) = false := decide_eq_false c3
       have hcz6_0 : wr.cell? ⟨gb6, 0, none⟩ = some (.slice Ab (rd_T39 st b).f0.length cb) := (blk_cell BK6.out 0).trans rfl
       have hcz6_1 : wr.cell? ⟨gb6, 1, none⟩ = some (.int .i64 (rd_T39 st b).f1) := (blk_cell BK6.out 1).trans rfl
       have hcz4_0 : wr.cell? ⟨gb4, 0, none⟩ = some (.slice none 0 0) := (blk_cell BK4.out 0).trans rfl
       have hcz4_1 : wr.cell? ⟨gb4, 1, none⟩ = some (.int .i64 0) := (blk_cell BK4.out 1).trans rfl
       have hfz4_0 := blk_frozen BK4.out 0
       have hfz4_1 := blk_frozen BK4.out 1
       go_wp2
       refine bodyPost_ret (results_cell_row rfl _ _ gb4 39 #[.slice Ab (rd_T39 st b).f0.length cb, .int .i64 (rd_T39 st b).f1] (0, 0) _ rfl (blk_put (cs := #[.slice Ab (rd_T39 st b).f0.length cb, .int .i64 0]) (blk_put (cs := #[.slice none 0 0, .int .i64 0]) BK4.out 0 _ rfl) 1 _ rfl) Try.underlying39 rfl (by kernel_rfl)) rfl ?_
       obtain ⟨g, cap, eg, _, _, _⟩ := Kd.S_form HO.out HP.out
       obtain rfl : ad5 = ⟨g, 0, none⟩ := by injection eg with e_; injection e_
       obtain ⟨oki, c, hcl, hM, hcc, _, hoki, _⟩ := Kd.S_elem HO.out z39 b HBB.out.1 HBB.out.2
       obtain ⟨v0, rfl, hR⟩ := k39_openM hM
       have hv : v0 = .slice Ab (rd_T39 st b).f0.length cb := by
        have h0_ := hcc 0 v0 rfl
        have h1_ : wr.cell? ⟨g, b.toNat * 2, none⟩ = some (.slice Ab (rd_T39 st b).f0.length cb) := by have h2_ := LK.out; rwa [show (⟨g, 0, none⟩ : Addr).add (b.toNat * 2) = ⟨g, b.toNat * 2, none⟩ from by simp only [Addr.add]; split <;> simp_all] at h2_
        exact Option.some.inj (h0_.symm.trans h1_)
       subst hv
       exact ⟨_, eW, Kd.R_mono (Kd.R_far (p := ⟨gb4, 1, none⟩) (Kd.R_far (p := ⟨gb4, 0, none⟩) hR (fun k_ hk => (hoki k_ hk).1.1) _) (fun k_ hk => (hoki k_ hk).1.1) _) (fun _ _ => trivial), bD HB GE4 GE4⟩
 · rw [if_neg hp] at H
   exact absurd H (by simp)

/-! ### impl_Sample_even: function 110 -/
def impl_Sample_even.l0 : Nat → Int → List Int → Int → Int → Option (List Int)
 | 0, _, _, _, _ => none
 | k + 1, x1, x5, x9, x10 => if x10 < x9 then (if x5.length < 17592186044416 then (impl_Sample_even.l0 k x1 (x5 ++ [x1]) x9 (wrap64 (x10 + 1))) else (none)) else (some x5)
def impl_Sample_even.f (k : Nat) (l0_0 : List (List Int)) (l0_1 : List Int) (a1 : Int) : Option (List Int) := impl_Sample_even.l0 k a1 (([] : List Int)) (l0_0.length : Int) 0
set_option maxHeartbeats 8000000 in
set_option maxRecDepth 100000 in
theorem impl_Sample_even.calls (k : Nat) (A0_0 : Option Addr) (c0_0 : Nat) (l0_0 : List (List Int)) (A0_1 : Option Addr) (c0_1 : Nat) (l0_1 : List Int) (a1 : Int) (r : List Int) (w : World) (hr0_0 : Kd.C (Kd.slice 3 (Kd.int .i64)) w A0_0 l0_0.length l0_0) (hc0_0 : l0_0.length ≤ c0_0) (hr0_1 : Kd.C (Kd.int .i64) w A0_1 l0_1.length l0_1) (hc0_1 : l0_1.length ≤ c0_1) (h : impl_Sample_even.f k l0_0 l0_1 a1 = some r) :
 Calls Try.prog 110 #[.agg #[.slice A0_0 l0_0.length c0_0, .slice A0_1 l0_1.length c0_1], .int .i64 a1] w fun e w' => ∃ v0_ : Value, e = .returned (v0_) ∧ Kd.R (Kd.int .i64) 3 w' w.heap.size (fun _ => True) v0_ r ∧ Below w.heap.size w w' := by
 have hu52 := Try.underlying52
 have HR0_0 := Aside0.mk hr0_0
 have HC0_0 := Aside0.mk hc0_0
 clear hr0_0 hc0_0
 have HR0_1 := Aside0.mk hr0_1
 have HC0_1 := Aside0.mk hc0_1
 clear hr0_1 hc0_1
 have HB := Aside0.mk (Below.refl w.heap.size w)
 have H : (impl_Sample_even.l0 k a1 (([] : List Int)) (l0_0.length : Int) 0) = some r := h
 clear h
 obtain ⟨y343, hy343⟩ : ∃ y_ : List Int, y_ = (([] : List Int)) := ⟨_, rfl⟩
 replace H : (impl_Sample_even.l0 k a1 y343 (l0_0.length : Int) 0) = some r := by first | (rw [hy343]; with_reducible exact H) | (have H2_ := (Option.bind_some _ _).symm.trans H; rw [hy343]; with_reducible exact H2_) | (have H2_ := (Option.bind_some _ _).symm.trans H; with_reducible exact H2_) | with_reducible exact H | (rw [hy343]; exact H) | exact H
 have Ny343 := Aside0.mk hy343
 clear hy343
 have H' := Aside0.mk H
 clear H
 go_enter Try.func110, Try.ntmps110
 go_wp2_with (first | ((with_reducible refine gate_dst (N := 2) rfl ?_); refine box_event ?hg (N := 2) ?hd (cs := #[.slice A0_0 l0_0.length c0_0, .slice A0_1 l0_1.length c0_1]) (t := 52) ?hr ?_; (case hd => rfl); (case hg => rfl); (case hr => first | (go_simp; done) | (go_simp; rfl)); intro gb342 hg w3 hbox hb; have n0_ := Aside0.mk (below_step (bB HB) hb); have n1_ := Aside0.mk (hbox); have n2_ := Aside0.mk ((by rw [hg]; exact (below_size (bB HB)) : w.heap.size ≤ gb342)); have n3_ := Aside0.mk ((by rw [hg]; exact (below_size (bB HB)) : w.heap.size ≤ gb342)); clear HB; have HB := n0_; have BK342 := n1_; have GW342 := n2_; have GE342 := n3_; clear n0_ n1_ n2_ n3_; clear hb hbox hg) | ((with_reducible refine gate_dst (N := 6) rfl ?_); refine Kd.R_lit (Kd.int .i64) _ 3 ?hg (N := 6) ?hd (xs := ([] : List Int)) (inner := []) (ok := fun _ => True) (okp := fun _ => True) ?hr ?hp (fun _ hk => hk) trivial (Below.refl _ _) (Nat.le_refl _) (by simp) ?_; (case hd => rfl); (case hg => rfl); (case hr => first | (go_simp; done) | (go_simp; rfl)); (case hp => exact (Reps.none _ _)); intro v344 w4 ho5 hb hg_ hnew_; clear hg_ hnew_; (first | rw [← Ny343.out] at ho5 | (simp only [Int.reduceToNat] at ho5; rw [← Ny343.out] at ho5)); have n0_ := Aside0.mk (Kd.R_lower ho5 (below_size (bC HB GE342))); have n1_ := Aside0.mk (bW BK342 hb); have n2_ := Aside0.mk (below_step (bC HB GE342) hb); clear BK342; clear HB; have HO345 := n0_; have BK342 := n1_; have HB := n2_; clear n0_ n1_ n2_; clear hb ho5; have hcz6_0 : w4.cell? ⟨gb342, 0, none⟩ = some (.slice A0_0 l0_0.length c0_0) := (blk_cell BK342.out 0).trans rfl; have hcz6_1 : w4.cell? ⟨gb342, 1, none⟩ = some (.slice A0_1 l0_1.length c0_1) := (blk_cell BK342.out 1).trans rfl; have hfz6_0 := blk_frozen BK342.out 0; have hfz6_1 := blk_frozen BK342.out 1))
 go_loopg [5, 10] k (fun kq v5 v10 w' => ∃ (x5_1 : List Int) (x10_1 : Int), v10 = .int .i64 x10_1 ∧ Aside0 (impl_Sample_even.l0 kq a1 x5_1 (l0_0.length : Int) x10_1 = some r) ∧ Aside0 (kq ≤ k) ∧ Aside0 (Kd.R (Kd.int .i64) 3 w' w.heap.size (fun _ => True) v5 x5_1) ∧ Aside0 (w'.heap[gb342]? = some (.cells #[(.slice A0_0 l0_0.length c0_0), (.slice A0_1 l0_1.length c0_1)] 52 (0, 0))) ∧ Aside0 (Below w.heap.size w w'))
 case atStart => exact ⟨(y343), (0), rD, H', ⟨Nat.le_refl _⟩, ⟨pR HO345⟩, ⟨pB BK342⟩, ⟨bC HB GE342⟩⟩
 case round =>
  clear H'
  try clear c1
  try clear hcz6_0
  try clear hcz6_1
  try clear hfz6_0
  try clear hfz6_1
  obtain ⟨x5_1, x10_1, rfl, HA, HK1, HO_5, BK342, HB⟩ := hrel
  cases gk with
  | zero => exact absurd HA.out (by simp [impl_Sample_even.l0])
  | succ k1 =>
   have H := HA.out
   clear HA
   simp only [impl_Sample_even.l0] at H
   by_cases c7 : x10_1 < (l0_0.length : Int)
   · rw [if_pos c7] at H
     have c7b0 : decide (x10_1 < (l0_0.length : Int)) = true := decide_eq_true c7
     clear c7
     by_cases c8 : x5_1.length < 17592186044416
     · rw [if_pos c8] at H
       have LMc8 := Aside0.mk c8
       clear c8
       obtain ⟨y346, hy346⟩ : ∃ y_ : List Int, y_ = (x5_1 ++ [a1]) := ⟨_, rfl⟩
       replace H : (impl_Sample_even.l0 k1 a1 y346 (l0_0.length : Int) (wrap64 (x10_1 + 1))) = some r := by first | (rw [hy346]; with_reducible exact H) | (have H2_ := (Option.bind_some _ _).symm.trans H; rw [hy346]; with_reducible exact H2_) | (have H2_ := (Option.bind_some _ _).symm.trans H; with_reducible exact H2_) | with_reducible exact H | (rw [hy346]; exact H) | exact H
       have Ny346 := Aside0.mk hy346
       clear hy346
       have H' := Aside0.mk H
       clear H
       go_wp2_with (first | ((with_reducible refine gate_builtin (b := .append) (xs := #[.tmp 12, .tmp 14]) rfl ?_); at_builtin; refine Kd.R_append (Kd.int .i64) (w0 := w) w.heap.size rfl (.tmp 12) (.tmp 14) 22 3 (.int .i64 0) 8 rfl Try.underlying22 info3 rfl (by decide) (by omega) u5 x5_1 a1 [.int .i64 a1] (fun _ => True) (fun _ => False) rfl rfl ?aP (fun _ hk => hk.elim) ?aF ?aO ?aB ?aS ?aL ?_; (case aP => exact rfl); (case aB => exact (bC HB GE342)); (case aF => exact (fun _ _ => trivial)); (case aO => exact (pR HO_5)); (case aS => exact (below_size (bC HB GE342))); (case aL => have := LMc8.out; omega); intro v347 w9 ho hb hg hat; rw [← Ny346.out] at ho; have n0_ := Aside0.mk (blk_grown (g := gb342) (o := .cells #[.slice A0_0 l0_0.length c0_0, .slice A0_1 l0_1.length c0_1] 52 (0, 0)) (pB BK342) hg (Kd.R_ne HO_5.out BK342.out (by decide))); have n1_ := Aside0.mk (hb); have n2_ := Aside0.mk (ho); clear BK342; clear HB; clear HO_5; have BK342 := n0_; have HB := n1_; have HO348 := n2_; clear n0_ n1_ n2_; clear ho hb hg hat))
       go_roundg k1
       case measure => have := HK1.out; omega
       case rel => exact ⟨(y346), (wrap64 (x10_1 + 1)), rD, H', ⟨by have := HK1.out; omega⟩, ⟨pR HO348⟩, ⟨pB BK342⟩, ⟨bC HB GE342⟩⟩
     · rw [if_neg c8] at H
       exact absurd H (by simp)
   · rw [if_neg c7] at H
     have c7b0 : decide (x10_1 < (l0_0.length : Int)) = false := decide_eq_false c7
     clear c7
     obtain rfl := Option.some.inj H
     go_wp2
     go_ret
     exact ⟨_, eW, by (with_reducible repeat (first | apply Kd.R_alloc | apply Kd.R_drewN | apply Kd.R_drew)); exact HO_5.out, bC HB GE342⟩

end Go.Proofs.Ytfkfahdikmfpeaa.PFnExactBoostRounds
