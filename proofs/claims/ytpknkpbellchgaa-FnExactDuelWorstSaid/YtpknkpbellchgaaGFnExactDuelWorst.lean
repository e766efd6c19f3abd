import Derived.Test.YtpknkpbellchgaaPFnExactDuelWorstx
import Derived.Test.YtpknkpbellchgaaKFnExactDuelWorst
import Derived.Test.YtpknkpbellchgaaMc
import Derived.Test.YtpknkpbellchgaaSh
namespace Go.Proofs.Ytpknkpbellchgaa.GFnExactDuelWorst
open Go.RowKit Go.Proofs.Ytpknkpbellchgaa.Sh Go.Proofs.Ytpknkpbellchgaa.KFnExactDuelWorst Go.Proofs.Ytpknkpbellchgaa.Mc Go.Proofs.Ytpknkpbellchgaa.PFnExactDuelWorst Go.Proofs.YtpknkpbellchgaaW.PrintWords Go.Proofs.YtpknkpbellchgaaW.PrintLast Go.Proofs.YtpknkpbellchgaaW.PrintMore
set_option linter.unusedVariables false
set_option linter.unusedSimpArgs false
set_option maxHeartbeats 8000000 in
set_option maxRecDepth 100000 in
theorem big0 (k : Nat) (A0 : Option Addr) (c0 : Nat) (l0 : List Int)  (w : World) (hr0 : Kd.C (Kd.int .i64) w A0 l0.length l0) (hc0 : l0.length ≤ c0)  (q0 : 1048576 < l0.length) :
 Calls Try.prog 3 #[.slice A0 l0.length c0] w fun e w' => e = .returned (.bool true) ∧ Below w.heap.size w w' := by
 have HR0 := Aside0.mk hr0
 have HC0 := Aside0.mk hc0
 clear hr0 hc0
 have HB := Aside0.mk (Below.refl w.heap.size w)
 have d0 : decide (1048576 < l0.length) = true := decide_eq_true (by omega)
 have e0 : decide ((l0.length : Int) > 1048576) = true := decide_eq_true (by omega)
 clear q0
 go_enter Try.func3, Try.ntmps3
 go_wp2_with (fail)
 go_ret
 exact ⟨rfl, (bB HB)⟩


set_option maxHeartbeats 8000000 in
set_option maxRecDepth 100000 in
theorem good (k : Nat) (A0 : Option Addr) (c0 : Nat) (l0 : List Int) (r1 : List Int) (r3 : Int) (r4 : Bool) (w : World) (hr0 : Kd.C (Kd.int .i64) w A0 l0.length l0) (hc0 : l0.length ≤ c0) (h1 : laws_toIntS.f k l0 = some r1) (h2 : spec_DuelWorst.f k r1 = some (r3, r4)) (h3 : impl_DuelWorst.f k r1 = some (r3, r4)) (h4 : laws_eqIntS.f k r1 r1 = some true) (q0 : l0.length ≤ 1048576) :
 Calls Try.prog 3 #[.slice A0 l0.length c0] w fun e w' => e = .returned (.bool true) ∧ Below w.heap.size w w' := by
 have HR0 := Aside0.mk hr0
 have HC0 := Aside0.mk hc0
 clear hr0 hc0
 have HB := Aside0.mk (Below.refl w.heap.size w)
 replace h1 := Aside0.mk h1
 replace h2 := Aside0.mk h2
 replace h3 := Aside0.mk h3
 replace h4 := Aside0.mk h4
 have d0 : decide (1048576 < l0.length) = false := decide_eq_false (by omega)
 have e0 : decide ((l0.length : Int) > 1048576) = false := decide_eq_false (by omega)
 clear q0
 go_enter Try.func3, Try.ntmps3
 go_wp2_with (fail)
 (with_reducible refine (laws_toIntS.calls k _ _ l0 r1 _ ?side1 ?side2 h1.out).mono ?_)
 (case side1 => exact cB HR0 HB); (case side2 => exact HC0.out)
 rintro e w1 ⟨v2, rfl, ho0, hb⟩
 replace HB := Aside0.mk (below_step (bB HB) hb)
 have HO2 := Aside0.mk ho0
 clear hb ho0
 obtain ⟨Ao2, co2, eo2⟩ := Kd.R_slice HO2.out
 subst eo2
 go_wp2_with (fail)
 (with_reducible refine (spec_DuelWorst.calls k _ _ r1 r3 r4 _ ?side1 ?side2 h2.out).mono ?_)
 (case side1 => exact cR HO2); (case side2 => exact (Kd.R_reads' HO2.out).2.1)
 rintro e w2 ⟨rfl, hb⟩
 replace HO2 := Aside0.mk (Kd.R_below (pR HO2) hb)
 replace HB := Aside0.mk (below_step (bB HB) hb)
 clear hb
 go_wp2_with (fail)
 (with_reducible refine (laws_toIntS.calls k _ _ l0 r1 _ ?side1 ?side2 h1.out).mono ?_)
 (case side1 => exact cB HR0 HB); (case side2 => exact HC0.out)
 rintro e w3 ⟨v5, rfl, ho0, hb⟩
 replace HB := Aside0.mk (below_step (bB HB) hb)
 have HO5 := Aside0.mk ho0
 clear hb ho0
 obtain ⟨Ao5, co5, eo5⟩ := Kd.R_slice HO5.out
 subst eo5
 go_wp2_with (fail)
 (with_reducible refine (impl_DuelWorst.calls k _ _ r1 r3 r4 _ ?side1 ?side2 h3.out).mono ?_)
 (case side1 => exact cR HO5); (case side2 => exact (Kd.R_reads' HO5.out).2.1)
 rintro e w4 ⟨rfl, hb⟩
 replace HO5 := Aside0.mk (Kd.R_below (pR HO5) hb)
 replace HB := Aside0.mk (below_step (bB HB) hb)
 clear hb
 go_wp2_with (fail)
 (with_reducible refine (laws_toIntS.calls k _ _ l0 r1 _ ?side1 ?side2 h1.out).mono ?_)
 (case side1 => exact cB HR0 HB); (case side2 => exact HC0.out)
 rintro e w5 ⟨v6, rfl, ho0, hb⟩
 replace HO5 := Aside0.mk (Kd.R_below (pR HO5) hb)
 replace HB := Aside0.mk (below_step (bB HB) hb)
 have HO6 := Aside0.mk ho0
 clear hb ho0
 obtain ⟨Ao6, co6, eo6⟩ := Kd.R_slice HO6.out
 subst eo6
 go_wp2_with (fail)
 (with_reducible refine (laws_eqIntS.calls k _ _ r1 _ _ r1 true _ ?side1 ?side2 ?side3 ?side4 h4.out).mono ?_)
 (case side1 => exact cR HO5); (case side2 => exact (Kd.R_reads' HO5.out).2.1); (case side3 => exact cR HO6); (case side4 => exact (Kd.R_reads' HO6.out).2.1)
 rintro e w6 ⟨rfl, hd⟩
 have hb := hd.below
 replace HO5 := Aside0.mk (Kd.R_below (pR HO5) hb)
 replace HO6 := Aside0.mk (Kd.R_below (pR HO6) hb)
 replace HB := Aside0.mk (below_step (bB HB) hb)
 clear hd hb
 go_wp2_with (fail)
 go_ret
 exact ⟨rfl, (bB HB)⟩

end Go.Proofs.Ytpknkpbellchgaa.GFnExactDuelWorst
