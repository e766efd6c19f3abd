import Derived.Test.YtfkfahdikmfpeaaDoorPFnExactVapnikNumberx
import Derived.Test.YtfkfahdikmfpeaaDoorKFnExactVapnikNumber
import Derived.Test.YtfkfahdikmfpeaaDoorMc
import Derived.Test.YtfkfahdikmfpeaaDoorSh
namespace Go.Proofs.YtfkfahdikmfpeaaDoor.GFnExactVapnikNumber
open Go.RowKit Go.Proofs.YtfkfahdikmfpeaaDoor.Sh Go.Proofs.YtfkfahdikmfpeaaDoor.KFnExactVapnikNumber Go.Proofs.YtfkfahdikmfpeaaDoor.Mc Go.Proofs.YtfkfahdikmfpeaaDoor.PFnExactVapnikNumber Go.Proofs.YtfkfahdikmfpeaaDoorW.PrintWords Go.Proofs.YtfkfahdikmfpeaaDoorW.PrintLast Go.Proofs.YtfkfahdikmfpeaaDoorW.PrintMore
set_option linter.unusedVariables false
set_option linter.unusedSimpArgs false
set_option maxHeartbeats 8000000 in
set_option maxRecDepth 100000 in
theorem big0 (k : Nat) (A0 : Option Addr) (c0 : Nat) (l0 : List (List Int)) (r1 : Int) (w : World) (hr0 : Kd.C (Kd.slice 3 (Kd.int .i64)) w A0 l0.length l0) (hc0 : l0.length ≤ c0) (HTab : Aside0 (TabAt 1 Go.Lib.deBruijn64tab w)) (h1 : laws_szIntSS.f k l0 1048576 = some r1) (q0 : r1 < 0) :
 Calls Tryd.prog 3 #[.slice A0 l0.length c0] w fun e w' => e = .returned (.bool true) ∧ Below w.heap.size w w' := by
 have HR0 := Aside0.mk hr0; have HC0 := Aside0.mk hc0; clear hr0 hc0; have HB := Aside0.mk (Below.refl w.heap.size w); replace h1 := Aside0.mk h1; have d0 : decide (r1 < 0) = true := decide_eq_true (by omega); clear q0; go_enter Tryd.func3, Tryd.ntmps3; go_wp2_with (fail)
 (with_reducible refine (laws_szIntSS.calls k _ _ l0 1048576 r1 _ ?side1 ?side2 h1.out).mono ?_); (case side1 => exact cB HR0 HB); (case side2 => exact HC0.out); rintro e w1 ⟨rfl, hd⟩; have hb := hd.below; replace HB := Aside0.mk (below_step (bB HB) hb); clear hd hb; go_wp2_with (fail)
 go_ret
 exact ⟨rfl, (bB HB)⟩


set_option maxHeartbeats 8000000 in
set_option maxRecDepth 100000 in
theorem good (k : Nat) (A0 : Option Addr) (c0 : Nat) (l0 : List (List Int)) (r1 : Int) (r2 : List (List Int)) (r4 : Int) (r5 : Bool) (w : World) (hr0 : Kd.C (Kd.slice 3 (Kd.int .i64)) w A0 l0.length l0) (hc0 : l0.length ≤ c0) (HTab : Aside0 (TabAt 1 Go.Lib.deBruijn64tab w)) (h1 : laws_szIntSS.f k l0 1048576 = some r1) (h2 : laws_toIntSS.f k l0 = some r2) (h3 : spec_VapnikNumber.f k r2 = some (r4, r5)) (h4 : impl_VapnikNumber.f k r2 = some (r4, r5)) (h5 : laws_eqIntSS.f k r2 r2 = some true) (q0 : 0 ≤ r1) :
 Calls Tryd.prog 3 #[.slice A0 l0.length c0] w fun e w' => e = .returned (.bool true) ∧ Below w.heap.size w w' := by
 have HR0 := Aside0.mk hr0; have HC0 := Aside0.mk hc0; clear hr0 hc0; have HB := Aside0.mk (Below.refl w.heap.size w); replace h1 := Aside0.mk h1; replace h2 := Aside0.mk h2; replace h3 := Aside0.mk h3; replace h4 := Aside0.mk h4; replace h5 := Aside0.mk h5; have d0 : decide (r1 < 0) = false := decide_eq_false (by omega); clear q0; go_enter Tryd.func3, Tryd.ntmps3; go_wp2_with (fail)
 (with_reducible refine (laws_szIntSS.calls k _ _ l0 1048576 r1 _ ?side1 ?side2 h1.out).mono ?_); (case side1 => exact cB HR0 HB); (case side2 => exact HC0.out); rintro e w1 ⟨rfl, hd⟩; have hb := hd.below; replace HB := Aside0.mk (below_step (bB HB) hb); clear hd hb; go_wp2_with (fail)
 (with_reducible refine (laws_toIntSS.calls k _ _ l0 r2 _ ?side1 ?side2 h2.out).mono ?_); (case side1 => exact cB HR0 HB); (case side2 => exact HC0.out); rintro e w2 ⟨v3, rfl, ho0, hb⟩; replace HB := Aside0.mk (below_step (bB HB) hb); have HO3 := Aside0.mk ho0; clear hb ho0; obtain ⟨Ao3, co3, eo3⟩ := Kd.S_slice HO3.out; subst eo3; go_wp2_with (fail)
 (with_reducible refine (spec_VapnikNumber.calls k _ _ r2 r4 r5 _ ?side1 ?side2 h3.out).mono ?_); (case side1 => exact cS HO3); (case side2 => exact (Kd.S_reads' HO3.out).2.1); rintro e w3 ⟨rfl, hb⟩; replace HO3 := Aside0.mk (Kd.S_below (pS HO3) hb); replace HB := Aside0.mk (below_step (bB HB) hb); clear hb; go_wp2_with (fail)
 (with_reducible refine (laws_toIntSS.calls k _ _ l0 r2 _ ?side1 ?side2 h2.out).mono ?_); (case side1 => exact cB HR0 HB); (case side2 => exact HC0.out); rintro e w4 ⟨v6, rfl, ho0, hb⟩; replace HB := Aside0.mk (below_step (bB HB) hb); have HO6 := Aside0.mk ho0; clear hb ho0; obtain ⟨Ao6, co6, eo6⟩ := Kd.S_slice HO6.out; subst eo6; go_wp2_with (fail)
 (with_reducible refine (impl_VapnikNumber.calls k _ _ r2 r4 r5 _ ?side1 ?side2 h4.out (Tb.tabB HTab ⟨bB HB⟩)).mono ?_); (case side1 => exact cS HO6); (case side2 => exact (Kd.S_reads' HO6.out).2.1); rintro e w5 ⟨rfl, hb⟩; replace HO6 := Aside0.mk (Kd.S_below (pS HO6) hb); replace HB := Aside0.mk (below_step (bB HB) hb); clear hb; go_wp2_with (fail)
 (with_reducible refine (laws_toIntSS.calls k _ _ l0 r2 _ ?side1 ?side2 h2.out).mono ?_); (case side1 => exact cB HR0 HB); (case side2 => exact HC0.out); rintro e w6 ⟨v7, rfl, ho0, hb⟩; replace HO6 := Aside0.mk (Kd.S_below (pS HO6) hb); replace HB := Aside0.mk (below_step (bB HB) hb); have HO7 := Aside0.mk ho0; clear hb ho0; obtain ⟨Ao7, co7, eo7⟩ := Kd.S_slice HO7.out; subst eo7; go_wp2_with (fail)
 (with_reducible refine (laws_eqIntSS.calls k _ _ r2 _ _ r2 true _ ?side1 ?side2 ?side3 ?side4 h5.out).mono ?_); (case side1 => exact cS HO6); (case side2 => exact (Kd.S_reads' HO6.out).2.1); (case side3 => exact cS HO7); (case side4 => exact (Kd.S_reads' HO7.out).2.1); rintro e w7 ⟨rfl, hd⟩; have hb := hd.below; replace HO6 := Aside0.mk (Kd.S_below (pS HO6) hb); replace HO7 := Aside0.mk (Kd.S_below (pS HO7) hb); replace HB := Aside0.mk (below_step (bB HB) hb); clear hd hb; go_wp2_with (fail)
 go_ret
 exact ⟨rfl, (bB HB)⟩

end Go.Proofs.YtfkfahdikmfpeaaDoor.GFnExactVapnikNumber
