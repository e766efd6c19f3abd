-- Printed by wip/tools/myprint.py (the printer of the kit, patched by that program; roots chosen by it)
import Derived.Test.YtfbncebnngldmaaPFnFamiliesx0
import Derived.Test.YtfbncebnngldmaaPFnFamiliesx1
import Derived.Test.YtfbncebnngldmaaPFnFamiliesx2
import Derived.Test.YtfbncebnngldmaaPFnFamiliesx3
import Derived.Test.YtfbncebnngldmaaPFnFamiliesx5
import Derived.Test.YtfbncebnngldmaaSh
namespace Go.Proofs.Ytfbncebnngldmaa.PFnFamilies
open Go.RowKit Go.Proofs.Ytfbncebnngldmaa.Sh Go.Proofs.YtfbncebnngldmaaW.PrintWords Go.Proofs.YtfbncebnngldmaaW.PrintLast Go.Proofs.YtfbncebnngldmaaW.PrintMore
attribute [local go_sem] max2_int min2_int max_two min_two max_three min_three max_four min_four   -- for this text's walks alone
set_option linter.unusedVariables false
set_option linter.unusedSimpArgs false

/-! ### laws_FnFamilies: function 3 -/
mutual
def laws_FnFamilies.j0 : Nat → Int → Bool → Bool → Bool → Int → List (List (S45)) → Int → List (List (S45)) → Int → List (List (S45)) → Option (Bool)
 | 0, _, _, _, _, _, _, _, _, _, _ => none
 | k + 1, x3, x5, x14, x101, x347000, x347001, x359000, x359001, x375000, x375001 => if x101 = true then (some false) else (if x14 = true then ((impl_NetTables.f k x375000 x375001).bind fun bt384 => (laws_FnFamilies.l0 k x3 x5 bt384.1 bt384.2 0 x347000 x347001 x359000 x359001)) else (laws_FnFamilies.j3 k x3 x5 x347000 x347001 x359000 x359001))
def laws_FnFamilies.j3 : Nat → Int → Bool → Int → List (List (S45)) → Int → List (List (S45)) → Option (Bool)
 | 0, _, _, _, _, _, _ => none
 | k + 1, x3, x5, x347000, x347001, x359000, x359001 => if x5 = true then ((impl_NetTables.f k x347000 x347001).bind fun bt391 => ((impl_NetTables.f k x359000 x359001).bind fun bt395 => (laws_FnFamilies.l1 k x3 bt391.1 bt391.2 bt395.1 bt395.2 0))) else (some true)
def laws_FnFamilies.l1 : Nat → Int → List (List Int) → Bool → List (List Int) → Bool → Int → Option (Bool)
 | 0, _, _, _, _, _, _ => none
 | k + 1, x3, x22, x23, x24, x25, x26 => if x23 = true then (if x25 = true then (if 0 ≤ x3 then (laws_FnFamilies.j5 k x3 x22 x23 x24 x25 x26 (decide (x26 < (shl .i64 1 x3)))) else (none)) else (laws_FnFamilies.j5 k x3 x22 x23 x24 x25 x26 false)) else (laws_FnFamilies.j5 k x3 x22 x23 x24 x25 x26 false)
def laws_FnFamilies.j5 : Nat → Int → List (List Int) → Bool → List (List Int) → Bool → Int → Bool → Option (Bool)
 | 0, _, _, _, _, _, _, _ => none
 | k + 1, x3, x22, x23, x24, x25, x26, x168 => if x168 = true then (laws_FnFamilies.l2 k x3 x22 x23 x24 x25 x26 0 0) else (if x23 = true then (some x25) else (some false))
def laws_FnFamilies.l2 : Nat → Int → List (List Int) → Bool → List (List Int) → Bool → Int → Int → Int → Option (Bool)
 | 0, _, _, _, _, _, _, _, _ => none
 | k + 1, x3, x22, x23, x24, x25, x26, x27, x28 => if x28 < x3 then (if 0 ≤ x28 then (laws_FnFamilies.l2 k x3 x22 x23 x24 x25 x26 (wrap64 (x27 + (Go.bits .and .i64 (shr .i64 x26 x28) 1))) (wrap64 (x28 + 1))) else (none)) else (if 0 < (x22.length : Int) then (if 0 ≤ x26 then (if x26 < ((rd_L3 x22 0).length : Int) then (if (rd (rd_L3 x22 0) x26) = (Int.tmod x27 2) then (if 0 < (x24.length : Int) then (if x26 < ((rd_L3 x24 0).length : Int) then (if (((rd (rd_L3 x24 0) x26) == 1) != (decide ((wrap64 (2 * x27)) > x3))) = true then (some false) else (laws_FnFamilies.l1 k x3 x22 x23 x24 x25 (wrap64 (x26 + 1)))) else (none)) else (none)) else (some false)) else (none)) else (none)) else (none))
def laws_FnFamilies.l0 : Nat → Int → Bool → List (List Int) → Bool → Int → Int → List (List (S45)) → Int → List (List (S45)) → Option (Bool)
 | 0, _, _, _, _, _, _, _, _, _ => none
 | k + 1, x3, x5, x17, x18, x19, x347000, x347001, x359000, x359001 => if x18 = true then (if 0 < (x17.length : Int) then (laws_FnFamilies.j2 k x3 x5 x17 x18 x19 (decide (x19 < ((rd_L3 x17 0).length : Int))) x347000 x347001 x359000 x359001) else (none)) else (laws_FnFamilies.j2 k x3 x5 x17 x18 x19 false x347000 x347001 x359000 x359001)
def laws_FnFamilies.j2 : Nat → Int → Bool → List (List Int) → Bool → Int → Bool → Int → List (List (S45)) → Int → List (List (S45)) → Option (Bool)
 | 0, _, _, _, _, _, _, _, _, _, _ => none
 | k + 1, x3, x5, x17, x18, x19, x116, x347000, x347001, x359000, x359001 => if x116 = true then (if 0 < (x17.length : Int) then (if 0 ≤ x19 then (if x19 < ((rd_L3 x17 0).length : Int) then (if (((rd (rd_L3 x17 0) x19) == 1) != (decide ((wrap64 ((Go.bits .and .i64 x19 1) + (wrap64 ((Go.bits .and .i64 (x19 / 4) 1) * 2)))) ≥ (wrap64 ((Go.bits .and .i64 (x19 / 2) 1) + (wrap64 ((Go.bits .and .i64 (x19 / 8) 1) * 2))))))) = true then (some false) else (laws_FnFamilies.l0 k x3 x5 x17 x18 (wrap64 (x19 + 1)) x347000 x347001 x359000 x359001)) else (none)) else (none)) else (none)) else (if x18 = true then (laws_FnFamilies.j3 k x3 x5 x347000 x347001 x359000 x359001) else (some false))
end
def laws_FnFamilies.f (k : Nat) (l0 : List Int) : Option (Bool) := (laws_vBig.f l0).bind fun t339 => (if t339 = true then (some true) else ((spec_DrawParityNet.f l0).bind fun t340 => ((impl_ParityNet.f k t340).bind fun bt341 => ((spec_ParityNet.f k t340).bind fun bt347 => ((impl_MajorityNet.f k t340).bind fun bt353 => ((spec_MajorityNet.f k t340).bind fun bt359 => ((laws_vCut.f l0 1).bind fun t365 => ((spec_DrawCompareNet.f t365).bind fun t368 => ((impl_CompareNet.f t368).bind fun bt369 => ((spec_CompareNet.f t368).bind fun bt375 => (if (bt341.2.2 != bt347.2.2) = true then (laws_FnFamilies.j0 k t340 bt341.2.2 bt369.2.2 true bt341.1 bt341.2.1 bt353.1 bt353.2.1 bt369.1 bt369.2.1) else ((laws_vNet.f k bt341.1 bt341.2.1 bt347.1 bt347.2.1).bind fun t381 => (if t381 = true then (if (bt353.2.2 != bt359.2.2) = true then (laws_FnFamilies.j0 k t340 bt341.2.2 bt369.2.2 true bt341.1 bt341.2.1 bt353.1 bt353.2.1 bt369.1 bt369.2.1) else ((laws_vNet.f k bt353.1 bt353.2.1 bt359.1 bt359.2.1).bind fun t382 => (if t382 = true then (if (bt369.2.2 != bt375.2.2) = true then (laws_FnFamilies.j0 k t340 bt341.2.2 bt369.2.2 true bt341.1 bt341.2.1 bt353.1 bt353.2.1 bt369.1 bt369.2.1) else ((laws_vNet.f k bt369.1 bt369.2.1 bt375.1 bt375.2.1).bind fun t383 => (if t383 = true then (laws_FnFamilies.j0 k t340 bt341.2.2 bt369.2.2 (bt341.2.2 != bt353.2.2) bt341.1 bt341.2.1 bt353.1 bt353.2.1 bt369.1 bt369.2.1) else (laws_FnFamilies.j0 k t340 bt341.2.2 bt369.2.2 true bt341.1 bt341.2.1 bt353.1 bt353.2.1 bt369.1 bt369.2.1)))) else (laws_FnFamilies.j0 k t340 bt341.2.2 bt369.2.2 true bt341.1 bt341.2.1 bt353.1 bt353.2.1 bt369.1 bt369.2.1)))) else (laws_FnFamilies.j0 k t340 bt341.2.2 bt369.2.2 true bt341.1 bt341.2.1 bt353.1 bt353.2.1 bt369.1 bt369.2.1))))))))))))))
set_option maxHeartbeats 8000000 in
set_option maxRecDepth 100000 in
theorem laws_FnFamilies.calls (k : Nat) (A0 : Option Addr) (c0 : Nat) (l0 : List Int) (r : Bool) (w : World) (hr0 : Kd.C (Kd.int .u8) w A0 l0.length l0) (hc0 : l0.length ≤ c0) (h : laws_FnFamilies.f k l0 = some r) :
 Calls Try.prog 3 #[.slice A0 l0.length c0] w fun e w' => e = .returned (.bool r) ∧ Below w.heap.size w w' := by
 have hu27 := Try.underlying27
 have HR0 := Aside0.mk hr0
 have HC0 := Aside0.mk hc0
 clear hr0 hc0
 have HB := Aside0.mk (Below.refl w.heap.size w)
 have H : ((laws_vBig.f l0).bind fun t339 => (if t339 = true then (some true) else ((spec_DrawParityNet.f l0).bind fun t340 => ((impl_ParityNet.f k t340).bind fun bt341 => ((spec_ParityNet.f k t340).bind fun bt347 => ((impl_MajorityNet.f k t340).bind fun bt353 => ((spec_MajorityNet.f k t340).bind fun bt359 => ((laws_vCut.f l0 1).bind fun t365 => ((spec_DrawCompareNet.f t365).bind fun t368 => ((impl_CompareNet.f t368).bind fun bt369 => ((spec_CompareNet.f t368).bind fun bt375 => (if (bt341.2.2 != bt347.2.2) = true then (laws_FnFamilies.j0 k t340 bt341.2.2 bt369.2.2 true bt341.1 bt341.2.1 bt353.1 bt353.2.1 bt369.1 bt369.2.1) else ((laws_vNet.f k bt341.1 bt341.2.1 bt347.1 bt347.2.1).bind fun t381 => (if t381 = true then (if (bt353.2.2 != bt359.2.2) = true then (laws_FnFamilies.j0 k t340 bt341.2.2 bt369.2.2 true bt341.1 bt341.2.1 bt353.1 bt353.2.1 bt369.1 bt369.2.1) else ((laws_vNet.f k bt353.1 bt353.2.1 bt359.1 bt359.2.1).bind fun t382 => (if t382 = true then (if (bt369.2.2 != bt375.2.2) = true then (laws_FnFamilies.j0 k t340 bt341.2.2 bt369.2.2 true bt341.1 bt341.2.1 bt353.1 bt353.2.1 bt369.1 bt369.2.1) else ((laws_vNet.f k bt369.1 bt369.2.1 bt375.1 bt375.2.1).bind fun t383 => (if t383 = true then (laws_FnFamilies.j0 k t340 bt341.2.2 bt369.2.2 (bt341.2.2 != bt353.2.2) bt341.1 bt341.2.1 bt353.1 bt353.2.1 bt369.1 bt369.2.1) else (laws_FnFamilies.j0 k t340 bt341.2.2 bt369.2.2 true bt341.1 bt341.2.1 bt353.1 bt353.2.1 bt369.1 bt369.2.1)))) else (laws_FnFamilies.j0 k t340 bt341.2.2 bt369.2.2 true bt341.1 bt341.2.1 bt353.1 bt353.2.1 bt369.1 bt369.2.1)))) else (laws_FnFamilies.j0 k t340 bt341.2.2 bt369.2.2 true bt341.1 bt341.2.1 bt353.1 bt353.2.1 bt369.1 bt369.2.1))))))))))))))) = some r := h
 clear h
 replace H := Option.bind_eq_some_iff.mp H
 obtain ⟨t339, A20, H⟩ := H
 replace H : (if t339 = true then (some true) else ((spec_DrawParityNet.f l0).bind fun t340 => ((impl_ParityNet.f k t340).bind fun bt341 => ((spec_ParityNet.f k t340).bind fun bt347 => ((impl_MajorityNet.f k t340).bind fun bt353 => ((spec_MajorityNet.f k t340).bind fun bt359 => ((laws_vCut.f l0 1).bind fun t365 => ((spec_DrawCompareNet.f t365).bind fun t368 => ((impl_CompareNet.f t368).bind fun bt369 => ((spec_CompareNet.f t368).bind fun bt375 => (if (bt341.2.2 != bt347.2.2) = true then (laws_FnFamilies.j0 k t340 bt341.2.2 bt369.2.2 true bt341.1 bt341.2.1 bt353.1 bt353.2.1 bt369.1 bt369.2.1) else ((laws_vNet.f k bt341.1 bt341.2.1 bt347.1 bt347.2.1).bind fun t381 => (if t381 = true then (if (bt353.2.2 != bt359.2.2) = true then (laws_FnFamilies.j0 k t340 bt341.2.2 bt369.2.2 true bt341.1 bt341.2.1 bt353.1 bt353.2.1 bt369.1 bt369.2.1) else ((laws_vNet.f k bt353.1 bt353.2.1 bt359.1 bt359.2.1).bind fun t382 => (if t382 = true then (if (bt369.2.2 != bt375.2.2) = true then (laws_FnFamilies.j0 k t340 bt341.2.2 bt369.2.2 true bt341.1 bt341.2.1 bt353.1 bt353.2.1 bt369.1 bt369.2.1) else ((laws_vNet.f k bt369.1 bt369.2.1 bt375.1 bt375.2.1).bind fun t383 => (if t383 = true then (laws_FnFamilies.j0 k t340 bt341.2.2 bt369.2.2 (bt341.2.2 != bt353.2.2) bt341.1 bt341.2.1 bt353.1 bt353.2.1 bt369.1 bt369.2.1) else (laws_FnFamilies.j0 k t340 bt341.2.2 bt369.2.2 true bt341.1 bt341.2.1 bt353.1 bt353.2.1 bt369.1 bt369.2.1)))) else (laws_FnFamilies.j0 k t340 bt341.2.2 bt369.2.2 true bt341.1 bt341.2.1 bt353.1 bt353.2.1 bt369.1 bt369.2.1)))) else (laws_FnFamilies.j0 k t340 bt341.2.2 bt369.2.2 true bt341.1 bt341.2.1 bt353.1 bt353.2.1 bt369.1 bt369.2.1)))))))))))))) = some r := H
 have A2 := Aside0.mk A20
 clear A20
 by_cases c3 : t339 = true
 · subst c3
   have H1 : (some true) = some r := by rw [if_pos rfl] at H; exact H
   clear H
   have H := H1
   clear H1
   obtain rfl := Option.some.inj H
   go_enter Try.func3, Try.ntmps3
   go_wp2_with (first | ((with_reducible refine gate_callee (f := 4) rfl ?_); refine goesL_ (some 30) rfl rfl Try.func4 (by kernel_rfl) rfl #[.slice A0 l0.length c0] rfl aT ?_; (with_reducible refine (laws_vBig.calls _ _ l0 true _ ?side1 ?side2 A2.out).mono ?_); (case side1 => exact cC HR0); (case side2 => exact HC0.out); rintro e w' ⟨rfl, ⟨nd, rfl⟩⟩; refine ⟨_, rfl, ?_⟩))
   go_ret
   exact ⟨eW, bB HB⟩
 · replace c3 := Bool.eq_false_iff.mpr c3
   subst c3
   have H1 : ((spec_DrawParityNet.f l0).bind fun t340 => ((impl_ParityNet.f k t340).bind fun bt341 => ((spec_ParityNet.f k t340).bind fun bt347 => ((impl_MajorityNet.f k t340).bind fun bt353 => ((spec_MajorityNet.f k t340).bind fun bt359 => ((laws_vCut.f l0 1).bind fun t365 => ((spec_DrawCompareNet.f t365).bind fun t368 => ((impl_CompareNet.f t368).bind fun bt369 => ((spec_CompareNet.f t368).bind fun bt375 => (if (bt341.2.2 != bt347.2.2) = true then (laws_FnFamilies.j0 k t340 bt341.2.2 bt369.2.2 true bt341.1 bt341.2.1 bt353.1 bt353.2.1 bt369.1 bt369.2.1) else ((laws_vNet.f k bt341.1 bt341.2.1 bt347.1 bt347.2.1).bind fun t381 => (if t381 = true then (if (bt353.2.2 != bt359.2.2) = true then (laws_FnFamilies.j0 k t340 bt341.2.2 bt369.2.2 true bt341.1 bt341.2.1 bt353.1 bt353.2.1 bt369.1 bt369.2.1) else ((laws_vNet.f k bt353.1 bt353.2.1 bt359.1 bt359.2.1).bind fun t382 => (if t382 = true then (if (bt369.2.2 != bt375.2.2) = true then (laws_FnFamilies.j0 k t340 bt341.2.2 bt369.2.2 true bt341.1 bt341.2.1 bt353.1 bt353.2.1 bt369.1 bt369.2.1) else ((laws_vNet.f k bt369.1 bt369.2.1 bt375.1 bt375.2.1).bind fun t383 => (if t383 = true then (laws_FnFamilies.j0 k t340 bt341.2.2 bt369.2.2 (bt341.2.2 != bt353.2.2) bt341.1 bt341.2.1 bt353.1 bt353.2.1 bt369.1 bt369.2.1) else (laws_FnFamilies.j0 k t340 bt341.2.2 bt369.2.2 true bt341.1 bt341.2.1 bt353.1 bt353.2.1 bt369.1 bt369.2.1)))) else (laws_FnFamilies.j0 k t340 bt341.2.2 bt369.2.2 true bt341.1 bt341.2.1 bt353.1 bt353.2.1 bt369.1 bt369.2.1)))) else (laws_FnFamilies.j0 k t340 bt341.2.2 bt369.2.2 true bt341.1 bt341.2.1 bt353.1 bt353.2.1 bt369.1 bt369.2.1))))))))))))) = some r := by rw [if_neg (show ¬ (false = true) by decide)] at H; exact H
   clear H
   have H := H1
   clear H1
   replace H := Option.bind_eq_some_iff.mp H
   obtain ⟨t340, A40, H⟩ := H
   replace H : ((impl_ParityNet.f k t340).bind fun bt341 => ((spec_ParityNet.f k t340).bind fun bt347 => ((impl_MajorityNet.f k t340).bind fun bt353 => ((spec_MajorityNet.f k t340).bind fun bt359 => ((laws_vCut.f l0 1).bind fun t365 => ((spec_DrawCompareNet.f t365).bind fun t368 => ((impl_CompareNet.f t368).bind fun bt369 => ((spec_CompareNet.f t368).bind fun bt375 => (if (bt341.2.2 != bt347.2.2) = true then (laws_FnFamilies.j0 k t340 bt341.2.2 bt369.2.2 true bt341.1 bt341.2.1 bt353.1 bt353.2.1 bt369.1 bt369.2.1) else ((laws_vNet.f k bt341.1 bt341.2.1 bt347.1 bt347.2.1).bind fun t381 => (if t381 = true then (if (bt353.2.2 != bt359.2.2) = true then (laws_FnFamilies.j0 k t340 bt341.2.2 bt369.2.2 true bt341.1 bt341.2.1 bt353.1 bt353.2.1 bt369.1 bt369.2.1) else ((laws_vNet.f k bt353.1 bt353.2.1 bt359.1 bt359.2.1).bind fun t382 => (if t382 = true then (if (bt369.2.2 != bt375.2.2) = true then (laws_FnFamilies.j0 k t340 bt341.2.2 bt369.2.2 true bt341.1 bt341.2.1 bt353.1 bt353.2.1 bt369.1 bt369.2.1) else ((laws_vNet.f k bt369.1 bt369.2.1 bt375.1 bt375.2.1).bind fun t383 => (if t383 = true then (laws_FnFamilies.j0 k t340 bt341.2.2 bt369.2.2 (bt341.2.2 != bt353.2.2) bt341.1 bt341.2.1 bt353.1 bt353.2.1 bt369.1 bt369.2.1) else (laws_FnFamilies.j0 k t340 bt341.2.2 bt369.2.2 true bt341.1 bt341.2.1 bt353.1 bt353.2.1 bt369.1 bt369.2.1)))) else (laws_FnFamilies.j0 k t340 bt341.2.2 bt369.2.2 true bt341.1 bt341.2.1 bt353.1 bt353.2.1 bt369.1 bt369.2.1)))) else (laws_FnFamilies.j0 k t340 bt341.2.2 bt369.2.2 true bt341.1 bt341.2.1 bt353.1 bt353.2.1 bt369.1 bt369.2.1)))))))))))) = some r := H
   have A4 := Aside0.mk A40
   clear A40
   replace H := Option.bind_eq_some_iff.mp H
   obtain ⟨⟨t341, t342, t345⟩, A50, H⟩ := H
   replace H : ((spec_ParityNet.f k t340).bind fun bt347 => ((impl_MajorityNet.f k t340).bind fun bt353 => ((spec_MajorityNet.f k t340).bind fun bt359 => ((laws_vCut.f l0 1).bind fun t365 => ((spec_DrawCompareNet.f t365).bind fun t368 => ((impl_CompareNet.f t368).bind fun bt369 => ((spec_CompareNet.f t368).bind fun bt375 => (if (t345 != bt347.2.2) = true then (laws_FnFamilies.j0 k t340 t345 bt369.2.2 true t341 t342 bt353.1 bt353.2.1 bt369.1 bt369.2.1) else ((laws_vNet.f k t341 t342 bt347.1 bt347.2.1).bind fun t381 => (if t381 = true then (if (bt353.2.2 != bt359.2.2) = true then (laws_FnFamilies.j0 k t340 t345 bt369.2.2 true t341 t342 bt353.1 bt353.2.1 bt369.1 bt369.2.1) else ((laws_vNet.f k bt353.1 bt353.2.1 bt359.1 bt359.2.1).bind fun t382 => (if t382 = true then (if (bt369.2.2 != bt375.2.2) = true then (laws_FnFamilies.j0 k t340 t345 bt369.2.2 true t341 t342 bt353.1 bt353.2.1 bt369.1 bt369.2.1) else ((laws_vNet.f k bt369.1 bt369.2.1 bt375.1 bt375.2.1).bind fun t383 => (if t383 = true then (laws_FnFamilies.j0 k t340 t345 bt369.2.2 (t345 != bt353.2.2) t341 t342 bt353.1 bt353.2.1 bt369.1 bt369.2.1) else (laws_FnFamilies.j0 k t340 t345 bt369.2.2 true t341 t342 bt353.1 bt353.2.1 bt369.1 bt369.2.1)))) else (laws_FnFamilies.j0 k t340 t345 bt369.2.2 true t341 t342 bt353.1 bt353.2.1 bt369.1 bt369.2.1)))) else (laws_FnFamilies.j0 k t340 t345 bt369.2.2 true t341 t342 bt353.1 bt353.2.1 bt369.1 bt369.2.1))))))))))) = some r := H
   have A5 := Aside0.mk A50
   clear A50
   replace H := Option.bind_eq_some_iff.mp H
   obtain ⟨⟨t347, t348, t351⟩, A60, H⟩ := H
   replace H : ((impl_MajorityNet.f k t340).bind fun bt353 => ((spec_MajorityNet.f k t340).bind fun bt359 => ((laws_vCut.f l0 1).bind fun t365 => ((spec_DrawCompareNet.f t365).bind fun t368 => ((impl_CompareNet.f t368).bind fun bt369 => ((spec_CompareNet.f t368).bind fun bt375 => (if (t345 != t351) = true then (laws_FnFamilies.j0 k t340 t345 bt369.2.2 true t341 t342 bt353.1 bt353.2.1 bt369.1 bt369.2.1) else ((laws_vNet.f k t341 t342 t347 t348).bind fun t381 => (if t381 = true then (if (bt353.2.2 != bt359.2.2) = true then (laws_FnFamilies.j0 k t340 t345 bt369.2.2 true t341 t342 bt353.1 bt353.2.1 bt369.1 bt369.2.1) else ((laws_vNet.f k bt353.1 bt353.2.1 bt359.1 bt359.2.1).bind fun t382 => (if t382 = true then (if (bt369.2.2 != bt375.2.2) = true then (laws_FnFamilies.j0 k t340 t345 bt369.2.2 true t341 t342 bt353.1 bt353.2.1 bt369.1 bt369.2.1) else ((laws_vNet.f k bt369.1 bt369.2.1 bt375.1 bt375.2.1).bind fun t383 => (if t383 = true then (laws_FnFamilies.j0 k t340 t345 bt369.2.2 (t345 != bt353.2.2) t341 t342 bt353.1 bt353.2.1 bt369.1 bt369.2.1) else (laws_FnFamilies.j0 k t340 t345 bt369.2.2 true t341 t342 bt353.1 bt353.2.1 bt369.1 bt369.2.1)))) else (laws_FnFamilies.j0 k t340 t345 bt369.2.2 true t341 t342 bt353.1 bt353.2.1 bt369.1 bt369.2.1)))) else (laws_FnFamilies.j0 k t340 t345 bt369.2.2 true t341 t342 bt353.1 bt353.2.1 bt369.1 bt369.2.1)))))))))) = some r := H
   have A6 := Aside0.mk A60
   clear A60
   replace H := Option.bind_eq_some_iff.mp H
   obtain ⟨⟨t353, t354, t357⟩, A70, H⟩ := H
   replace H : ((spec_MajorityNet.f k t340).bind fun bt359 => ((laws_vCut.f l0 1).bind fun t365 => ((spec_DrawCompareNet.f t365).bind fun t368 => ((impl_CompareNet.f t368).bind fun bt369 => ((spec_CompareNet.f t368).bind fun bt375 => (if (t345 != t351) = true then (laws_FnFamilies.j0 k t340 t345 bt369.2.2 true t341 t342 t353 t354 bt369.1 bt369.2.1) else ((laws_vNet.f k t341 t342 t347 t348).bind fun t381 => (if t381 = true then (if (t357 != bt359.2.2) = true then (laws_FnFamilies.j0 k t340 t345 bt369.2.2 true t341 t342 t353 t354 bt369.1 bt369.2.1) else ((laws_vNet.f k t353 t354 bt359.1 bt359.2.1).bind fun t382 => (if t382 = true then (if (bt369.2.2 != bt375.2.2) = true then (laws_FnFamilies.j0 k t340 t345 bt369.2.2 true t341 t342 t353 t354 bt369.1 bt369.2.1) else ((laws_vNet.f k bt369.1 bt369.2.1 bt375.1 bt375.2.1).bind fun t383 => (if t383 = true then (laws_FnFamilies.j0 k t340 t345 bt369.2.2 (t345 != t357) t341 t342 t353 t354 bt369.1 bt369.2.1) else (laws_FnFamilies.j0 k t340 t345 bt369.2.2 true t341 t342 t353 t354 bt369.1 bt369.2.1)))) else (laws_FnFamilies.j0 k t340 t345 bt369.2.2 true t341 t342 t353 t354 bt369.1 bt369.2.1)))) else (laws_FnFamilies.j0 k t340 t345 bt369.2.2 true t341 t342 t353 t354 bt369.1 bt369.2.1))))))))) = some r := H
   have A7 := Aside0.mk A70
   clear A70
   replace H := Option.bind_eq_some_iff.mp H
   obtain ⟨⟨t359, t360, t363⟩, A80, H⟩ := H
   replace H : ((laws_vCut.f l0 1).bind fun t365 => ((spec_DrawCompareNet.f t365).bind fun t368 => ((impl_CompareNet.f t368).bind fun bt369 => ((spec_CompareNet.f t368).bind fun bt375 => (if (t345 != t351) = true then (laws_FnFamilies.j0 k t340 t345 bt369.2.2 true t341 t342 t353 t354 bt369.1 bt369.2.1) else ((laws_vNet.f k t341 t342 t347 t348).bind fun t381 => (if t381 = true then (if (t357 != t363) = true then (laws_FnFamilies.j0 k t340 t345 bt369.2.2 true t341 t342 t353 t354 bt369.1 bt369.2.1) else ((laws_vNet.f k t353 t354 t359 t360).bind fun t382 => (if t382 = true then (if (bt369.2.2 != bt375.2.2) = true then (laws_FnFamilies.j0 k t340 t345 bt369.2.2 true t341 t342 t353 t354 bt369.1 bt369.2.1) else ((laws_vNet.f k bt369.1 bt369.2.1 bt375.1 bt375.2.1).bind fun t383 => (if t383 = true then (laws_FnFamilies.j0 k t340 t345 bt369.2.2 (t345 != t357) t341 t342 t353 t354 bt369.1 bt369.2.1) else (laws_FnFamilies.j0 k t340 t345 bt369.2.2 true t341 t342 t353 t354 bt369.1 bt369.2.1)))) else (laws_FnFamilies.j0 k t340 t345 bt369.2.2 true t341 t342 t353 t354 bt369.1 bt369.2.1)))) else (laws_FnFamilies.j0 k t340 t345 bt369.2.2 true t341 t342 t353 t354 bt369.1 bt369.2.1)))))))) = some r := H
   have A8 := Aside0.mk A80
   clear A80
   replace H := Option.bind_eq_some_iff.mp H
   obtain ⟨t365, A90, H⟩ := H
   replace H : ((spec_DrawCompareNet.f t365).bind fun t368 => ((impl_CompareNet.f t368).bind fun bt369 => ((spec_CompareNet.f t368).bind fun bt375 => (if (t345 != t351) = true then (laws_FnFamilies.j0 k t340 t345 bt369.2.2 true t341 t342 t353 t354 bt369.1 bt369.2.1) else ((laws_vNet.f k t341 t342 t347 t348).bind fun t381 => (if t381 = true then (if (t357 != t363) = true then (laws_FnFamilies.j0 k t340 t345 bt369.2.2 true t341 t342 t353 t354 bt369.1 bt369.2.1) else ((laws_vNet.f k t353 t354 t359 t360).bind fun t382 => (if t382 = true then (if (bt369.2.2 != bt375.2.2) = true then (laws_FnFamilies.j0 k t340 t345 bt369.2.2 true t341 t342 t353 t354 bt369.1 bt369.2.1) else ((laws_vNet.f k bt369.1 bt369.2.1 bt375.1 bt375.2.1).bind fun t383 => (if t383 = true then (laws_FnFamilies.j0 k t340 t345 bt369.2.2 (t345 != t357) t341 t342 t353 t354 bt369.1 bt369.2.1) else (laws_FnFamilies.j0 k t340 t345 bt369.2.2 true t341 t342 t353 t354 bt369.1 bt369.2.1)))) else (laws_FnFamilies.j0 k t340 t345 bt369.2.2 true t341 t342 t353 t354 bt369.1 bt369.2.1)))) else (laws_FnFamilies.j0 k t340 t345 bt369.2.2 true t341 t342 t353 t354 bt369.1 bt369.2.1))))))) = some r := H
   have A9 := Aside0.mk A90
   clear A90
   replace H := Option.bind_eq_some_iff.mp H
   obtain ⟨t368, A100, H⟩ := H
   replace H : ((impl_CompareNet.f t368).bind fun bt369 => ((spec_CompareNet.f t368).bind fun bt375 => (if (t345 != t351) = true then (laws_FnFamilies.j0 k t340 t345 bt369.2.2 true t341 t342 t353 t354 bt369.1 bt369.2.1) else ((laws_vNet.f k t341 t342 t347 t348).bind fun t381 => (if t381 = true then (if (t357 != t363) = true then (laws_FnFamilies.j0 k t340 t345 bt369.2.2 true t341 t342 t353 t354 bt369.1 bt369.2.1) else ((laws_vNet.f k t353 t354 t359 t360).bind fun t382 => (if t382 = true then (if (bt369.2.2 != bt375.2.2) = true then (laws_FnFamilies.j0 k t340 t345 bt369.2.2 true t341 t342 t353 t354 bt369.1 bt369.2.1) else ((laws_vNet.f k bt369.1 bt369.2.1 bt375.1 bt375.2.1).bind fun t383 => (if t383 = true then (laws_FnFamilies.j0 k t340 t345 bt369.2.2 (t345 != t357) t341 t342 t353 t354 bt369.1 bt369.2.1) else (laws_FnFamilies.j0 k t340 t345 bt369.2.2 true t341 t342 t353 t354 bt369.1 bt369.2.1)))) else (laws_FnFamilies.j0 k t340 t345 bt369.2.2 true t341 t342 t353 t354 bt369.1 bt369.2.1)))) else (laws_FnFamilies.j0 k t340 t345 bt369.2.2 true t341 t342 t353 t354 bt369.1 bt369.2.1)))))) = some r := H
   have A10 := Aside0.mk A100
   clear A100
   replace H := Option.bind_eq_some_iff.mp H
   obtain ⟨⟨t369, t370, t373⟩, A110, H⟩ := H
   replace H : ((spec_CompareNet.f t368).bind fun bt375 => (if (t345 != t351) = true then (laws_FnFamilies.j0 k t340 t345 t373 true t341 t342 t353 t354 t369 t370) else ((laws_vNet.f k t341 t342 t347 t348).bind fun t381 => (if t381 = true then (if (t357 != t363) = true then (laws_FnFamilies.j0 k t340 t345 t373 true t341 t342 t353 t354 t369 t370) else ((laws_vNet.f k t353 t354 t359 t360).bind fun t382 => (if t382 = true then (if (t373 != bt375.2.2) = true then (laws_FnFamilies.j0 k t340 t345 t373 true t341 t342 t353 t354 t369 t370) else ((laws_vNet.f k t369 t370 bt375.1 bt375.2.1).bind fun t383 => (if t383 = true then (laws_FnFamilies.j0 k t340 t345 t373 (t345 != t357) t341 t342 t353 t354 t369 t370) else (laws_FnFamilies.j0 k t340 t345 t373 true t341 t342 t353 t354 t369 t370)))) else (laws_FnFamilies.j0 k t340 t345 t373 true t341 t342 t353 t354 t369 t370)))) else (laws_FnFamilies.j0 k t340 t345 t373 true t341 t342 t353 t354 t369 t370))))) = some r := H
   have A11 := Aside0.mk A110
   clear A110
   replace H := Option.bind_eq_some_iff.mp H
   obtain ⟨⟨t375, t376, t379⟩, A120, H⟩ := H
   replace H : (if (t345 != t351) = true then (laws_FnFamilies.j0 k t340 t345 t373 true t341 t342 t353 t354 t369 t370) else ((laws_vNet.f k t341 t342 t347 t348).bind fun t381 => (if t381 = true then (if (t357 != t363) = true then (laws_FnFamilies.j0 k t340 t345 t373 true t341 t342 t353 t354 t369 t370) else ((laws_vNet.f k t353 t354 t359 t360).bind fun t382 => (if t382 = true then (if (t373 != t379) = true then (laws_FnFamilies.j0 k t340 t345 t373 true t341 t342 t353 t354 t369 t370) else ((laws_vNet.f k t369 t370 t375 t376).bind fun t383 => (if t383 = true then (laws_FnFamilies.j0 k t340 t345 t373 (t345 != t357) t341 t342 t353 t354 t369 t370) else (laws_FnFamilies.j0 k t340 t345 t373 true t341 t342 t353 t354 t369 t370)))) else (laws_FnFamilies.j0 k t340 t345 t373 true t341 t342 t353 t354 t369 t370)))) else (laws_FnFamilies.j0 k t340 t345 t373 true t341 t342 t353 t354 t369 t370)))) = some r := H
   have A12 := Aside0.mk A120
   clear A120
   have HC13 := Aside0.mk H
   clear H
   go_enter Try.func3, Try.ntmps3
   go_upto_region 11 with (first | ((with_reducible refine gate_callee (f := 4) rfl ?_); refine goesL_ (some 30) rfl rfl Try.func4 (by kernel_rfl) rfl #[.slice A0 l0.length c0] rfl aT ?_; (with_reducible refine (laws_vBig.calls _ _ l0 false _ ?side1 ?side2 A2.out).mono ?_); (case side1 => exact cC HR0); (case side2 => exact HC0.out); rintro e w' ⟨rfl, ⟨nd, rfl⟩⟩; refine ⟨_, rfl, ?_⟩) | ((with_reducible refine gate_callee (f := 5) rfl ?_); refine goesL_ (some 32) rfl rfl Try.func5 (by kernel_rfl) rfl #[.slice A0 l0.length c0] rfl aT ?_; (with_reducible refine (spec_DrawParityNet.calls _ _ l0 t340 _ ?side1 ?side2 A4.out).mono ?_); (case side1 => exact cC HR0); (case side2 => exact HC0.out); rintro e w14 ⟨rfl, hb⟩; refine ⟨_, rfl, ?_⟩; have n0_ := Aside0.mk (below_step (bB HB) hb); clear HB; have HB := n0_; clear n0_; (try clear hb); (try clear hb2); (try clear hk); (try clear hi)) | ((with_reducible refine gate_callee (f := 6) rfl ?_); refine goesL_ (some 35) rfl rfl Try.func6 (by kernel_rfl) rfl #[.int .i64 t340] rfl aT ?_; (with_reducible refine (impl_ParityNet.calls k t340 t341 t342 t345 _ A5.out).mono ?_); rintro e w15 ⟨v343, rfl, ho0, hb⟩; refine ⟨_, rfl, ?_⟩; have n0_ := Aside0.mk (Kd.N_lower (Kd.N_mono (ok' := fun k_ => True) ho0 (fun k_ hk_ => trivial)) (below_size (bB HB))); have n1_ := Aside0.mk (below_step (bB HB) hb); clear HB; have HO344 := n0_; have HB := n1_; clear n0_ n1_; (try clear hb); (try clear hb2); (try clear hk); (try clear hi); (try clear ho0)) | ((with_reducible refine gate_dst (N := 4) rfl ?_); refine box_event ?hg (N := 4) ?hd (cs := #[.int .i64 0, .slice none 0 0]) (t := 27) ?hr ?_; (case hd => rfl); (case hg => rfl); (case hr => first | (go_simp; done) | (go_simp; rfl)); intro gb346 hg w16 hbox hb; have n0_ := Aside0.mk (Kd.N_below (Kd.N_elderB (pN HO344) gb346 (Nat.le_of_eq hg.symm)) hb); have n1_ := Aside0.mk (below_step (bB HB) hb); have n2_ := Aside0.mk (hbox); have n3_ := Aside0.mk ((by rw [hg]; exact (below_size (bB HB)) : w.heap.size ≤ gb346)); have n4_ := Aside0.mk ((by rw [hg]; exact (below_size (bB HB)) : w.heap.size ≤ gb346)); clear HO344; clear HB; have HO344 := n0_; have HB := n1_; have BK346 := n2_; have GW346 := n3_; have GE346 := n4_; clear n0_ n1_ n2_ n3_ n4_; clear hb hbox hg; have hcz17_0 : w16.cell? ⟨gb346, 0, none⟩ = some (.int .i64 0) := (blk_cell BK346.out 0).trans rfl; have hcz17_1 : w16.cell? ⟨gb346, 1, none⟩ = some (.slice none 0 0) := (blk_cell BK346.out 1).trans rfl; have hfz17_0 := blk_frozen BK346.out 0; have hfz17_1 := blk_frozen BK346.out 1; obtain ⟨Ao18, co18, eo18⟩ := Kd.N_slice HO344.out; subst eo18) | ((with_reducible refine gate_callee (f := 7) rfl ?_); refine goesL_ (some 40) rfl rfl Try.func7 (by kernel_rfl) rfl #[.int .i64 t340] rfl aT ?_; (with_reducible refine (spec_ParityNet.calls k t340 t347 t348 t351 _ A6.out).mono ?_); rintro e w19 ⟨v349, rfl, ho0, hb⟩; refine ⟨_, rfl, ?_⟩; have n0_ := Aside0.mk (Kd.N_elder' (vN HO344 gb346 (.int .i64 t341) (.slice Ao18 t342.length co18)) (Kd.N_base ho0) hb); have n1_ := Aside0.mk (Kd.N_lower (Kd.N_mono (ok' := fun k_ => some k_ ≠ (.slice Ao18 t342.length co18 : Value).ownBlock ∧ k_ ≠ gb346) ho0 (fun k_ hk_ => ⟨(Kd.fresh' (Kd.N_lt (vN HO344 gb346 (.int .i64 t341) (.slice Ao18 t342.length co18))) k_ hk_), (Kd.freshB (g := gb346) (o := .cells #[.int .i64 t341, .slice Ao18 t342.length co18] 27 (0, 0)) (by (with_reducible repeat (first | refine blk_drewN ?_ _ | refine blk_drew ?_ | refine blk_alloc ?_ _)); refine blk_put (cs := #[.int .i64 t341, .slice none 0 0]) ?_ 1 _ rfl; (with_reducible repeat (first | refine blk_drewN ?_ _ | refine blk_drew ?_ | refine blk_alloc ?_ _)); refine blk_put (cs := #[.int .i64 0, .slice none 0 0]) ?_ 0 _ rfl; (with_reducible repeat (first | refine blk_drewN ?_ _ | refine blk_drew ?_ | refine blk_alloc ?_ _)); exact BK346.out) k_ hk_)⟩)) (below_size (bC HB GE346))); have n2_ := Aside0.mk (blk_below (g := gb346) (o := .cells #[.int .i64 t341, .slice Ao18 t342.length co18] 27 (0, 0)) (by (with_reducible repeat (first | refine blk_drewN ?_ _ | refine blk_drew ?_ | refine blk_alloc ?_ _)); refine blk_put (cs := #[.int .i64 t341, .slice none 0 0]) ?_ 1 _ rfl; (with_reducible repeat (first | refine blk_drewN ?_ _ | refine blk_drew ?_ | refine blk_alloc ?_ _)); refine blk_put (cs := #[.int .i64 0, .slice none 0 0]) ?_ 0 _ rfl; (with_reducible repeat (first | refine blk_drewN ?_ _ | refine blk_drew ?_ | refine blk_alloc ?_ _)); exact BK346.out) hb); have n3_ := Aside0.mk (below_step (bC HB GE346) hb); clear HO344; clear BK346; clear HB; have HO344 := n0_; have HO350 := n1_; have BK346 := n2_; have HB := n3_; clear n0_ n1_ n2_ n3_; (try clear hb); (try clear hb2); (try clear hk); (try clear hi); (try clear ho0)) | ((with_reducible refine gate_dst (N := 6) rfl ?_); refine box_event ?hg (N := 6) ?hd (cs := #[.int .i64 0, .slice none 0 0]) (t := 27) ?hr ?_; (case hd => rfl); (case hg => rfl); (case hr => first | (go_simp; done) | (go_simp; rfl)); intro gb352 hg w20 hbox hb; have n0_ := Aside0.mk (Kd.N_below (Kd.N_elderB (pN HO344) gb352 (Nat.le_of_eq hg.symm)) hb); have n1_ := Aside0.mk (Kd.N_below (Kd.N_elderB (pN HO350) gb352 (Nat.le_of_eq hg.symm)) hb); have n2_ := Aside0.mk (bW BK346 hb); have n3_ := Aside0.mk (below_step (bC HB GE346) hb); have n4_ := Aside0.mk (hbox); have n5_ := Aside0.mk ((by rw [hg]; exact (below_size (bC HB GE346)) : w.heap.size ≤ gb352)); have n6_ := Aside0.mk ((by rw [hg]; exact (below_size (bC HB GE346)) : w.heap.size ≤ gb352)); have n7_ := Aside0.mk ((by rw [hg]; exact Nat.ne_of_lt (blk_lt (g := gb346) (o := .cells #[.int .i64 t341, .slice Ao18 t342.length co18] 27 (0, 0)) (pB BK346)) : gb346 ≠ gb352)); have n8_ := Aside0.mk ((by rw [hg]; exact Nat.ne_of_gt (blk_lt (g := gb346) (o := .cells #[.int .i64 t341, .slice Ao18 t342.length co18] 27 (0, 0)) (pB BK346)) : gb352 ≠ gb346)); clear HO344; clear HO350; clear BK346; clear HB; have HO344 := n0_; have HO350 := n1_; have BK346 := n2_; have HB := n3_; have BK352 := n4_; have GW352 := n5_; have GE352 := n6_; have NB346_352 := n7_; have NB352_346 := n8_; clear n0_ n1_ n2_ n3_ n4_ n5_ n6_ n7_ n8_; clear hb hbox hg; have hnb21 := NB352_346.out; have hnc21 := NB346_352.out; have hcz22_0 : w20.cell? ⟨gb352, 0, none⟩ = some (.int .i64 0) := (blk_cell BK352.out 0).trans rfl; have hcz22_1 : w20.cell? ⟨gb352, 1, none⟩ = some (.slice none 0 0) := (blk_cell BK352.out 1).trans rfl; have hfz22_0 := blk_frozen BK352.out 0; have hfz22_1 := blk_frozen BK352.out 1; obtain ⟨Ao23, co23, eo23⟩ := Kd.N_slice HO350.out; subst eo23) | ((with_reducible refine gate_callee (f := 8) rfl ?_); refine goesL_ (some 45) rfl rfl Try.func8 (by kernel_rfl) rfl #[.int .i64 t340] rfl aT ?_; (with_reducible refine (impl_MajorityNet.calls k t340 t353 t354 t357 _ A7.out).mono ?_); rintro e w24 ⟨v355, rfl, ho0, hb⟩; refine ⟨_, rfl, ?_⟩; have n0_ := Aside0.mk (Kd.N_elder' (vN HO344 gb352 (.int .i64 t347) (.slice Ao23 t348.length co23)) (Kd.N_base ho0) hb); have n1_ := Aside0.mk (Kd.N_elder' (vN HO350 gb352 (.int .i64 t347) (.slice Ao23 t348.length co23)) (Kd.N_base ho0) hb); have n2_ := Aside0.mk (Kd.N_lower (Kd.N_mono (ok' := fun k_ => some k_ ≠ (.slice Ao18 t342.length co18 : Value).ownBlock ∧ some k_ ≠ (.slice Ao23 t348.length co23 : Value).ownBlock ∧ k_ ≠ gb346 ∧ k_ ≠ gb352) ho0 (fun k_ hk_ => ⟨(Kd.fresh' (Kd.N_lt (vN HO344 gb352 (.int .i64 t347) (.slice Ao23 t348.length co23))) k_ hk_), (Kd.fresh' (Kd.N_lt (vN HO350 gb352 (.int .i64 t347) (.slice Ao23 t348.length co23))) k_ hk_), (Kd.freshB (g := gb346) (o := .cells #[.int .i64 t341, .slice Ao18 t342.length co18] 27 (0, 0)) (f2 BK346 NB346_352 NB346_352) k_ hk_), (Kd.freshB (g := gb352) (o := .cells #[.int .i64 t347, .slice Ao23 t348.length co23] 27 (0, 0)) (by (with_reducible repeat (first | refine blk_drewN ?_ _ | refine blk_drew ?_ | refine blk_alloc ?_ _)); refine blk_put (cs := #[.int .i64 t347, .slice none 0 0]) ?_ 1 _ rfl; (with_reducible repeat (first | refine blk_drewN ?_ _ | refine blk_drew ?_ | refine blk_alloc ?_ _)); refine blk_put (cs := #[.int .i64 0, .slice none 0 0]) ?_ 0 _ rfl; (with_reducible repeat (first | refine blk_drewN ?_ _ | refine blk_drew ?_ | refine blk_alloc ?_ _)); exact BK352.out) k_ hk_)⟩)) (below_size (bD HB GE346 GE352))); have n3_ := Aside0.mk (g2 BK346 NB346_352 NB346_352 hb); have n4_ := Aside0.mk (blk_below (g := gb352) (o := .cells #[.int .i64 t347, .slice Ao23 t348.length co23] 27 (0, 0)) (by (with_reducible repeat (first | refine blk_drewN ?_ _ | refine blk_drew ?_ | refine blk_alloc ?_ _)); refine blk_put (cs := #[.int .i64 t347, .slice none 0 0]) ?_ 1 _ rfl; (with_reducible repeat (first | refine blk_drewN ?_ _ | refine blk_drew ?_ | refine blk_alloc ?_ _)); refine blk_put (cs := #[.int .i64 0, .slice none 0 0]) ?_ 0 _ rfl; (with_reducible repeat (first | refine blk_drewN ?_ _ | refine blk_drew ?_ | refine blk_alloc ?_ _)); exact BK352.out) hb); have n5_ := Aside0.mk (below_step (bD HB GE346 GE352) hb); clear HO344; clear HO350; clear BK346; clear BK352; clear HB; have HO344 := n0_; have HO350 := n1_; have HO356 := n2_; have BK346 := n3_; have BK352 := n4_; have HB := n5_; clear n0_ n1_ n2_ n3_ n4_ n5_; (try clear hb); (try clear hb2); (try clear hk); (try clear hi); (try clear ho0)) | ((with_reducible refine gate_dst (N := 8) rfl ?_); refine box_event ?hg (N := 8) ?hd (cs := #[.int .i64 0, .slice none 0 0]) (t := 27) ?hr ?_; (case hd => rfl); (case hg => rfl); (case hr => first | (go_simp; done) | (go_simp; rfl)); intro gb358 hg w25 hbox hb; have n0_ := Aside0.mk (Kd.N_below (Kd.N_elderB (pN HO344) gb358 (Nat.le_of_eq hg.symm)) hb); have n1_ := Aside0.mk (Kd.N_below (Kd.N_elderB (pN HO350) gb358 (Nat.le_of_eq hg.symm)) hb); have n2_ := Aside0.mk (Kd.N_below (Kd.N_elderB (pN HO356) gb358 (Nat.le_of_eq hg.symm)) hb); have n3_ := Aside0.mk (bW BK346 hb); have n4_ := Aside0.mk (bW BK352 hb); have n5_ := Aside0.mk (below_step (bD HB GE346 GE352) hb); have n6_ := Aside0.mk (hbox); have n7_ := Aside0.mk ((by rw [hg]; exact (below_size (bD HB GE346 GE352)) : w.heap.size ≤ gb358)); have n8_ := Aside0.mk ((by rw [hg]; exact (below_size (bD HB GE346 GE352)) : w.heap.size ≤ gb358)); have n9_ := Aside0.mk ((by rw [hg]; exact Nat.ne_of_lt (blk_lt (g := gb346) (o := .cells #[.int .i64 t341, .slice Ao18 t342.length co18] 27 (0, 0)) (pB BK346)) : gb346 ≠ gb358)); have n10_ := Aside0.mk ((by rw [hg]; exact Nat.ne_of_gt (blk_lt (g := gb346) (o := .cells #[.int .i64 t341, .slice Ao18 t342.length co18] 27 (0, 0)) (pB BK346)) : gb358 ≠ gb346)); have n11_ := Aside0.mk ((by rw [hg]; exact Nat.ne_of_lt (blk_lt (g := gb352) (o := .cells #[.int .i64 t347, .slice Ao23 t348.length co23] 27 (0, 0)) (pB BK352)) : gb352 ≠ gb358)); have n12_ := Aside0.mk ((by rw [hg]; exact Nat.ne_of_gt (blk_lt (g := gb352) (o := .cells #[.int .i64 t347, .slice Ao23 t348.length co23] 27 (0, 0)) (pB BK352)) : gb358 ≠ gb352)); clear HO344; clear HO350; clear HO356; clear BK346; clear BK352; clear HB; have HO344 := n0_; have HO350 := n1_; have HO356 := n2_; have BK346 := n3_; have BK352 := n4_; have HB := n5_; have BK358 := n6_; have GW358 := n7_; have GE358 := n8_; have NB346_358 := n9_; have NB358_346 := n10_; have NB352_358 := n11_; have NB358_352 := n12_; clear n0_ n1_ n2_ n3_ n4_ n5_ n6_ n7_ n8_ n9_ n10_ n11_ n12_; clear hb hbox hg; have hnb26 := NB358_346.out; have hnc26 := NB346_358.out; have hnb27 := NB358_352.out; have hnc27 := NB352_358.out; have hcz28_0 : w25.cell? ⟨gb358, 0, none⟩ = some (.int .i64 0) := (blk_cell BK358.out 0).trans rfl; have hcz28_1 : w25.cell? ⟨gb358, 1, none⟩ = some (.slice none 0 0) := (blk_cell BK358.out 1).trans rfl; have hfz28_0 := blk_frozen BK358.out 0; have hfz28_1 := blk_frozen BK358.out 1; obtain ⟨Ao29, co29, eo29⟩ := Kd.N_slice HO356.out; subst eo29) | ((with_reducible refine gate_callee (f := 9) rfl ?_); refine goesL_ (some 50) rfl rfl Try.func9 (by kernel_rfl) rfl #[.int .i64 t340] rfl aT ?_; (with_reducible refine (spec_MajorityNet.calls k t340 t359 t360 t363 _ A8.out).mono ?_); rintro e w30 ⟨v361, rfl, ho0, hb⟩; refine ⟨_, rfl, ?_⟩; have n0_ := Aside0.mk (Kd.N_elder' (vN HO344 gb358 (.int .i64 t353) (.slice Ao29 t354.length co29)) (Kd.N_base ho0) hb); have n1_ := Aside0.mk (Kd.N_elder' (vN HO350 gb358 (.int .i64 t353) (.slice Ao29 t354.length co29)) (Kd.N_base ho0) hb); have n2_ := Aside0.mk (Kd.N_elder' (vN HO356 gb358 (.int .i64 t353) (.slice Ao29 t354.length co29)) (Kd.N_base ho0) hb); have n3_ := Aside0.mk (Kd.N_lower (Kd.N_mono (ok' := fun k_ => some k_ ≠ (.slice Ao18 t342.length co18 : Value).ownBlock ∧ some k_ ≠ (.slice Ao23 t348.length co23 : Value).ownBlock ∧ some k_ ≠ (.slice Ao29 t354.length co29 : Value).ownBlock ∧ k_ ≠ gb346 ∧ k_ ≠ gb352 ∧ k_ ≠ gb358) ho0 (fun k_ hk_ => ⟨(Kd.fresh' (Kd.N_lt (vN HO344 gb358 (.int .i64 t353) (.slice Ao29 t354.length co29))) k_ hk_), (Kd.fresh' (Kd.N_lt (vN HO350 gb358 (.int .i64 t353) (.slice Ao29 t354.length co29))) k_ hk_), (Kd.fresh' (Kd.N_lt (vN HO356 gb358 (.int .i64 t353) (.slice Ao29 t354.length co29))) k_ hk_), (Kd.freshB (g := gb346) (o := .cells #[.int .i64 t341, .slice Ao18 t342.length co18] 27 (0, 0)) (f2 BK346 NB346_358 NB346_358) k_ hk_), (Kd.freshB (g := gb352) (o := .cells #[.int .i64 t347, .slice Ao23 t348.length co23] 27 (0, 0)) (f2 BK352 NB352_358 NB352_358) k_ hk_), (Kd.freshB (g := gb358) (o := .cells #[.int .i64 t353, .slice Ao29 t354.length co29] 27 (0, 0)) (by (with_reducible repeat (first | refine blk_drewN ?_ _ | refine blk_drew ?_ | refine blk_alloc ?_ _)); refine blk_put (cs := #[.int .i64 t353, .slice none 0 0]) ?_ 1 _ rfl; (with_reducible repeat (first | refine blk_drewN ?_ _ | refine blk_drew ?_ | refine blk_alloc ?_ _)); refine blk_put (cs := #[.int .i64 0, .slice none 0 0]) ?_ 0 _ rfl; (with_reducible repeat (first | refine blk_drewN ?_ _ | refine blk_drew ?_ | refine blk_alloc ?_ _)); exact BK358.out) k_ hk_)⟩)) (below_size (bE HB GE346 GE352 GE358))); have n4_ := Aside0.mk (g2 BK346 NB346_358 NB346_358 hb); have n5_ := Aside0.mk (g2 BK352 NB352_358 NB352_358 hb); have n6_ := Aside0.mk (blk_below (g := gb358) (o := .cells #[.int .i64 t353, .slice Ao29 t354.length co29] 27 (0, 0)) (by (with_reducible repeat (first | refine blk_drewN ?_ _ | refine blk_drew ?_ | refine blk_alloc ?_ _)); refine blk_put (cs := #[.int .i64 t353, .slice none 0 0]) ?_ 1 _ rfl; (with_reducible repeat (first | refine blk_drewN ?_ _ | refine blk_drew ?_ | refine blk_alloc ?_ _)); refine blk_put (cs := #[.int .i64 0, .slice none 0 0]) ?_ 0 _ rfl; (with_reducible repeat (first | refine blk_drewN ?_ _ | refine blk_drew ?_ | refine blk_alloc ?_ _)); exact BK358.out) hb); have n7_ := Aside0.mk (below_step (bE HB GE346 GE352 GE358) hb); clear HO344; clear HO350; clear HO356; clear BK346; clear BK352; clear BK358; clear HB; have HO344 := n0_; have HO350 := n1_; have HO356 := n2_; have HO362 := n3_; have BK346 := n4_; have BK352 := n5_; have BK358 := n6_; have HB := n7_; clear n0_ n1_ n2_ n3_ n4_ n5_ n6_ n7_; (try clear hb); (try clear hb2); (try clear hk); (try clear hi); (try clear ho0)) | ((with_reducible refine gate_dst (N := 10) rfl ?_); refine box_event ?hg (N := 10) ?hd (cs := #[.int .i64 0, .slice none 0 0]) (t := 27) ?hr ?_; (case hd => rfl); (case hg => rfl); (case hr => first | (go_simp; done) | (go_simp; rfl)); intro gb364 hg w31 hbox hb; have n0_ := Aside0.mk (Kd.N_below (Kd.N_elderB (pN HO344) gb364 (Nat.le_of_eq hg.symm)) hb); have n1_ := Aside0.mk (Kd.N_below (Kd.N_elderB (pN HO350) gb364 (Nat.le_of_eq hg.symm)) hb); have n2_ := Aside0.mk (Kd.N_below (Kd.N_elderB (pN HO356) gb364 (Nat.le_of_eq hg.symm)) hb); have n3_ := Aside0.mk (Kd.N_below (Kd.N_elderB (pN HO362) gb364 (Nat.le_of_eq hg.symm)) hb); have n4_ := Aside0.mk (bW BK346 hb); have n5_ := Aside0.mk (bW BK352 hb); have n6_ := Aside0.mk (bW BK358 hb); have n7_ := Aside0.mk (below_step (bE HB GE346 GE352 GE358) hb); have n8_ := Aside0.mk (hbox); have n9_ := Aside0.mk ((by rw [hg]; exact (below_size (bE HB GE346 GE352 GE358)) : w.heap.size ≤ gb364)); have n10_ := Aside0.mk ((by rw [hg]; exact (below_size (bE HB GE346 GE352 GE358)) : w.heap.size ≤ gb364)); have n11_ := Aside0.mk ((by rw [hg]; exact Nat.ne_of_lt (blk_lt (g := gb346) (o := .cells #[.int .i64 t341, .slice Ao18 t342.length co18] 27 (0, 0)) (pB BK346)) : gb346 ≠ gb364)); have n12_ := Aside0.mk ((by rw [hg]; exact Nat.ne_of_gt (blk_lt (g := gb346) (o := .cells #[.int .i64 t341, .slice Ao18 t342.length co18] 27 (0, 0)) (pB BK346)) : gb364 ≠ gb346)); have n13_ := Aside0.mk ((by rw [hg]; exact Nat.ne_of_lt (blk_lt (g := gb352) (o := .cells #[.int .i64 t347, .slice Ao23 t348.length co23] 27 (0, 0)) (pB BK352)) : gb352 ≠ gb364)); have n14_ := Aside0.mk ((by rw [hg]; exact Nat.ne_of_gt (blk_lt (g := gb352) (o := .cells #[.int .i64 t347, .slice Ao23 t348.length co23] 27 (0, 0)) (pB BK352)) : gb364 ≠ gb352)); have n15_ := Aside0.mk ((by rw [hg]; exact Nat.ne_of_lt (blk_lt (g := gb358) (o := .cells #[.int .i64 t353, .slice Ao29 t354.length co29] 27 (0, 0)) (pB BK358)) : gb358 ≠ gb364)); have n16_ := Aside0.mk ((by rw [hg]; exact Nat.ne_of_gt (blk_lt (g := gb358) (o := .cells #[.int .i64 t353, .slice Ao29 t354.length co29] 27 (0, 0)) (pB BK358)) : gb364 ≠ gb358)); clear HO344; clear HO350; clear HO356; clear HO362; clear BK346; clear BK352; clear BK358; clear HB; have HO344 := n0_; have HO350 := n1_; have HO356 := n2_; have HO362 := n3_; have BK346 := n4_; have BK352 := n5_; have BK358 := n6_; have HB := n7_; have BK364 := n8_; have GW364 := n9_; have GE364 := n10_; have NB346_364 := n11_; have NB364_346 := n12_; have NB352_364 := n13_; have NB364_352 := n14_; have NB358_364 := n15_; have NB364_358 := n16_; clear n0_ n1_ n2_ n3_ n4_ n5_ n6_ n7_ n8_ n9_ n10_ n11_ n12_ n13_ n14_ n15_ n16_; clear hb hbox hg; have hnb32 := NB364_346.out; have hnc32 := NB346_364.out; have hnb33 := NB364_352.out; have hnc33 := NB352_364.out; have hnb34 := NB364_358.out; have hnc34 := NB358_364.out; have hcz35_0 : w31.cell? ⟨gb364, 0, none⟩ = some (.int .i64 0) := (blk_cell BK364.out 0).trans rfl; have hcz35_1 : w31.cell? ⟨gb364, 1, none⟩ = some (.slice none 0 0) := (blk_cell BK364.out 1).trans rfl; have hfz35_0 := blk_frozen BK364.out 0; have hfz35_1 := blk_frozen BK364.out 1; obtain ⟨Ao36, co36, eo36⟩ := Kd.N_slice HO362.out; subst eo36) | ((with_reducible refine gate_callee (f := 11) rfl ?_); refine goesL_ (some 54) rfl rfl Try.func11 (by kernel_rfl) rfl #[.slice A0 l0.length c0, .int .i64 1] rfl aT ?_; (with_reducible refine (laws_vCut.calls _ _ l0 1 t365 _ ?side1 ?side2 A9.out).mono ?_); (case side1 => exact Kd.C_below HR0.out (b4 HB GE346 GE352 GE358 GE364)); (case side2 => exact HC0.out); rintro e w37 ⟨v366, rfl, ho0, hb⟩; refine ⟨_, rfl, ?_⟩; have n0_ := Aside0.mk (Kd.N_elder' (vN HO344 gb364 (.int .i64 t359) (.slice Ao36 t360.length co36)) (Kd.R_base ho0) hb); have n1_ := Aside0.mk (Kd.N_elder' (vN HO350 gb364 (.int .i64 t359) (.slice Ao36 t360.length co36)) (Kd.R_base ho0) hb); have n2_ := Aside0.mk (Kd.N_elder' (vN HO356 gb364 (.int .i64 t359) (.slice Ao36 t360.length co36)) (Kd.R_base ho0) hb); have n3_ := Aside0.mk (Kd.N_elder' (vN HO362 gb364 (.int .i64 t359) (.slice Ao36 t360.length co36)) (Kd.R_base ho0) hb); have n4_ := Aside0.mk (Kd.R_lower ho0 (below_size (b4 HB GE346 GE352 GE358 GE364))); have n5_ := Aside0.mk (g2 BK346 NB346_364 NB346_364 hb); have n6_ := Aside0.mk (g2 BK352 NB352_364 NB352_364 hb); have n7_ := Aside0.mk (g2 BK358 NB358_364 NB358_364 hb); have n8_ := Aside0.mk (blk_below (g := gb364) (o := .cells #[.int .i64 t359, .slice Ao36 t360.length co36] 27 (0, 0)) (by (with_reducible repeat (first | refine blk_drewN ?_ _ | refine blk_drew ?_ | refine blk_alloc ?_ _)); refine blk_put (cs := #[.int .i64 t359, .slice none 0 0]) ?_ 1 _ rfl; (with_reducible repeat (first | refine blk_drewN ?_ _ | refine blk_drew ?_ | refine blk_alloc ?_ _)); refine blk_put (cs := #[.int .i64 0, .slice none 0 0]) ?_ 0 _ rfl; (with_reducible repeat (first | refine blk_drewN ?_ _ | refine blk_drew ?_ | refine blk_alloc ?_ _)); exact BK364.out) hb); have n9_ := Aside0.mk (below_step (b4 HB GE346 GE352 GE358 GE364) hb); clear HO344; clear HO350; clear HO356; clear HO362; clear BK346; clear BK352; clear BK358; clear BK364; clear HB; have HO344 := n0_; have HO350 := n1_; have HO356 := n2_; have HO362 := n3_; have HO367 := n4_; have BK346 := n5_; have BK352 := n6_; have BK358 := n7_; have BK364 := n8_; have HB := n9_; clear n0_ n1_ n2_ n3_ n4_ n5_ n6_ n7_ n8_ n9_; (try clear hb); (try clear hb2); (try clear hk); (try clear hi); (try clear ho0); obtain ⟨Ao38, co38, eo38⟩ := Kd.R_slice HO367.out; subst eo38) | ((with_reducible refine gate_callee (f := 10) rfl ?_); refine goesL_ (some 55) rfl rfl Try.func10 (by kernel_rfl) rfl #[.slice Ao38 t365.length co38] rfl aT ?_; (with_reducible refine (spec_DrawCompareNet.calls _ _ t365 t368 _ ?side1 ?side2 A10.out).mono ?_); (case side1 => exact cR HO367); (case side2 => exact (Kd.R_reads' HO367.out).2.1); rintro e w39 ⟨rfl, hb⟩; refine ⟨_, rfl, ?_⟩; have n0_ := Aside0.mk (Kd.N_below (pN HO344) hb); have n1_ := Aside0.mk (Kd.N_below (pN HO350) hb); have n2_ := Aside0.mk (Kd.N_below (pN HO356) hb); have n3_ := Aside0.mk (Kd.N_below (pN HO362) hb); have n4_ := Aside0.mk (Kd.R_below (pR HO367) hb); have n5_ := Aside0.mk (bW BK346 hb); have n6_ := Aside0.mk (bW BK352 hb); have n7_ := Aside0.mk (bW BK358 hb); have n8_ := Aside0.mk (bW BK364 hb); have n9_ := Aside0.mk (below_step (b4 HB GE346 GE352 GE358 GE364) hb); clear HO344; clear HO350; clear HO356; clear HO362; clear HO367; clear BK346; clear BK352; clear BK358; clear BK364; clear HB; have HO344 := n0_; have HO350 := n1_; have HO356 := n2_; have HO362 := n3_; have HO367 := n4_; have BK346 := n5_; have BK352 := n6_; have BK358 := n7_; have BK364 := n8_; have HB := n9_; clear n0_ n1_ n2_ n3_ n4_ n5_ n6_ n7_ n8_ n9_; (try clear hb); (try clear hb2); (try clear hk); (try clear hi)) | ((with_reducible refine gate_callee (f := 12) rfl ?_); refine goesL_ (some 58) rfl rfl Try.func12 (by kernel_rfl) rfl #[.int .i64 t368] rfl aT ?_; (with_reducible refine (impl_CompareNet.calls t368 t369 t370 t373 _ A11.out).mono ?_); rintro e w40 ⟨v371, rfl, ho0, hb⟩; refine ⟨_, rfl, ?_⟩; have n0_ := Aside0.mk (Kd.N_elder' (pN HO344) (Kd.N_base ho0) hb); have n1_ := Aside0.mk (Kd.N_elder' (pN HO350) (Kd.N_base ho0) hb); have n2_ := Aside0.mk (Kd.N_elder' (pN HO356) (Kd.N_base ho0) hb); have n3_ := Aside0.mk (Kd.N_elder' (pN HO362) (Kd.N_base ho0) hb); have n4_ := Aside0.mk (Kd.R_below (pR HO367) hb); have n5_ := Aside0.mk (Kd.N_lower (Kd.N_mono (ok' := fun k_ => some k_ ≠ (.slice Ao18 t342.length co18 : Value).ownBlock ∧ some k_ ≠ (.slice Ao23 t348.length co23 : Value).ownBlock ∧ some k_ ≠ (.slice Ao29 t354.length co29 : Value).ownBlock ∧ some k_ ≠ (.slice Ao36 t360.length co36 : Value).ownBlock ∧ some k_ ≠ (.slice Ao38 t365.length co38 : Value).ownBlock ∧ k_ ≠ gb346 ∧ k_ ≠ gb352 ∧ k_ ≠ gb358 ∧ k_ ≠ gb364) ho0 (fun k_ hk_ => ⟨(Kd.fresh' (Kd.N_lt (pN HO344)) k_ hk_), (Kd.fresh' (Kd.N_lt (pN HO350)) k_ hk_), (Kd.fresh' (Kd.N_lt (pN HO356)) k_ hk_), (Kd.fresh' (Kd.N_lt (pN HO362)) k_ hk_), (Kd.fresh' (Kd.R_lt (pR HO367)) k_ hk_), (Kd.freshB (g := gb346) (o := .cells #[.int .i64 t341, .slice Ao18 t342.length co18] 27 (0, 0)) (pB BK346) k_ hk_), (Kd.freshB (g := gb352) (o := .cells #[.int .i64 t347, .slice Ao23 t348.length co23] 27 (0, 0)) (pB BK352) k_ hk_), (Kd.freshB (g := gb358) (o := .cells #[.int .i64 t353, .slice Ao29 t354.length co29] 27 (0, 0)) (pB BK358) k_ hk_), (Kd.freshB (g := gb364) (o := .cells #[.int .i64 t359, .slice Ao36 t360.length co36] 27 (0, 0)) (pB BK364) k_ hk_)⟩)) (below_size (b4 HB GE346 GE352 GE358 GE364))); have n6_ := Aside0.mk (bW BK346 hb); have n7_ := Aside0.mk (bW BK352 hb); have n8_ := Aside0.mk (bW BK358 hb); have n9_ := Aside0.mk (bW BK364 hb); have n10_ := Aside0.mk (below_step (b4 HB GE346 GE352 GE358 GE364) hb); clear HO344; clear HO350; clear HO356; clear HO362; clear HO367; clear BK346; clear BK352; clear BK358; clear BK364; clear HB; have HO344 := n0_; have HO350 := n1_; have HO356 := n2_; have HO362 := n3_; have HO367 := n4_; have HO372 := n5_; have BK346 := n6_; have BK352 := n7_; have BK358 := n8_; have BK364 := n9_; have HB := n10_; clear n0_ n1_ n2_ n3_ n4_ n5_ n6_ n7_ n8_ n9_ n10_; (try clear hb); (try clear hb2); (try clear hk); (try clear hi); (try clear ho0)) | ((with_reducible refine gate_dst (N := 13) rfl ?_); refine box_event ?hg (N := 13) ?hd (cs := #[.int .i64 0, .slice none 0 0]) (t := 27) ?hr ?_; (case hd => rfl); (case hg => rfl); (case hr => first | (go_simp; done) | (go_simp; rfl)); intro gb374 hg w41 hbox hb; have n0_ := Aside0.mk (Kd.N_below (Kd.N_elderB (pN HO344) gb374 (Nat.le_of_eq hg.symm)) hb); have n1_ := Aside0.mk (Kd.N_below (Kd.N_elderB (pN HO350) gb374 (Nat.le_of_eq hg.symm)) hb); have n2_ := Aside0.mk (Kd.N_below (Kd.N_elderB (pN HO356) gb374 (Nat.le_of_eq hg.symm)) hb); have n3_ := Aside0.mk (Kd.N_below (Kd.N_elderB (pN HO362) gb374 (Nat.le_of_eq hg.symm)) hb); have n4_ := Aside0.mk (Kd.R_below (pR HO367) hb); have n5_ := Aside0.mk (Kd.N_below (Kd.N_elderB (pN HO372) gb374 (Nat.le_of_eq hg.symm)) hb); have n6_ := Aside0.mk (bW BK346 hb); have n7_ := Aside0.mk (bW BK352 hb); have n8_ := Aside0.mk (bW BK358 hb); have n9_ := Aside0.mk (bW BK364 hb); have n10_ := Aside0.mk (below_step (b4 HB GE346 GE352 GE358 GE364) hb); have n11_ := Aside0.mk (hbox); have n12_ := Aside0.mk ((by rw [hg]; exact (below_size (b4 HB GE346 GE352 GE358 GE364)) : w.heap.size ≤ gb374)); have n13_ := Aside0.mk ((by rw [hg]; exact (below_size (b4 HB GE346 GE352 GE358 GE364)) : w.heap.size ≤ gb374)); have n14_ := Aside0.mk ((by rw [hg]; exact Nat.ne_of_lt (blk_lt (g := gb346) (o := .cells #[.int .i64 t341, .slice Ao18 t342.length co18] 27 (0, 0)) (pB BK346)) : gb346 ≠ gb374)); have n15_ := Aside0.mk ((by rw [hg]; exact Nat.ne_of_gt (blk_lt (g := gb346) (o := .cells #[.int .i64 t341, .slice Ao18 t342.length co18] 27 (0, 0)) (pB BK346)) : gb374 ≠ gb346)); have n16_ := Aside0.mk ((by rw [hg]; exact Nat.ne_of_lt (blk_lt (g := gb352) (o := .cells #[.int .i64 t347, .slice Ao23 t348.length co23] 27 (0, 0)) (pB BK352)) : gb352 ≠ gb374)); have n17_ := Aside0.mk ((by rw [hg]; exact Nat.ne_of_gt (blk_lt (g := gb352) (o := .cells #[.int .i64 t347, .slice Ao23 t348.length co23] 27 (0, 0)) (pB BK352)) : gb374 ≠ gb352)); have n18_ := Aside0.mk ((by rw [hg]; exact Nat.ne_of_lt (blk_lt (g := gb358) (o := .cells #[.int .i64 t353, .slice Ao29 t354.length co29] 27 (0, 0)) (pB BK358)) : gb358 ≠ gb374)); have n19_ := Aside0.mk ((by rw [hg]; exact Nat.ne_of_gt (blk_lt (g := gb358) (o := .cells #[.int .i64 t353, .slice Ao29 t354.length co29] 27 (0, 0)) (pB BK358)) : gb374 ≠ gb358)); have n20_ := Aside0.mk ((by rw [hg]; exact Nat.ne_of_lt (blk_lt (g := gb364) (o := .cells #[.int .i64 t359, .slice Ao36 t360.length co36] 27 (0, 0)) (pB BK364)) : gb364 ≠ gb374)); have n21_ := Aside0.mk ((by rw [hg]; exact Nat.ne_of_gt (blk_lt (g := gb364) (o := .cells #[.int .i64 t359, .slice Ao36 t360.length co36] 27 (0, 0)) (pB BK364)) : gb374 ≠ gb364)); clear HO344; clear HO350; clear HO356; clear HO362; clear HO367; clear HO372; clear BK346; clear BK352; clear BK358; clear BK364; clear HB; have HO344 := n0_; have HO350 := n1_; have HO356 := n2_; have HO362 := n3_; have HO367 := n4_; have HO372 := n5_; have BK346 := n6_; have BK352 := n7_; have BK358 := n8_; have BK364 := n9_; have HB := n10_; have BK374 := n11_; have GW374 := n12_; have GE374 := n13_; have NB346_374 := n14_; have NB374_346 := n15_; have NB352_374 := n16_; have NB374_352 := n17_; have NB358_374 := n18_; have NB374_358 := n19_; have NB364_374 := n20_; have NB374_364 := n21_; clear n0_ n1_ n2_ n3_ n4_ n5_ n6_ n7_ n8_ n9_ n10_ n11_ n12_ n13_ n14_ n15_ n16_ n17_ n18_ n19_ n20_ n21_; clear hb hbox hg; have hnb42 := NB374_346.out; have hnc42 := NB346_374.out; have hnb43 := NB374_352.out; have hnc43 := NB352_374.out; have hnb44 := NB374_358.out; have hnc44 := NB358_374.out; have hnb45 := NB374_364.out; have hnc45 := NB364_374.out; have hcz46_0 : w41.cell? ⟨gb374, 0, none⟩ = some (.int .i64 0) := (blk_cell BK374.out 0).trans rfl; have hcz46_1 : w41.cell? ⟨gb374, 1, none⟩ = some (.slice none 0 0) := (blk_cell BK374.out 1).trans rfl; have hfz46_0 := blk_frozen BK374.out 0; have hfz46_1 := blk_frozen BK374.out 1; obtain ⟨Ao47, co47, eo47⟩ := Kd.N_slice HO372.out; subst eo47) | ((with_reducible refine gate_callee (f := 13) rfl ?_); refine goesL_ (some 63) rfl rfl Try.func13 (by kernel_rfl) rfl #[.int .i64 t368] rfl aT ?_; (with_reducible refine (spec_CompareNet.calls t368 t375 t376 t379 _ A12.out).mono ?_); rintro e w48 ⟨v377, rfl, ho0, hb⟩; refine ⟨_, rfl, ?_⟩; have n0_ := Aside0.mk (Kd.N_elder' (vN HO344 gb374 (.int .i64 t369) (.slice Ao47 t370.length co47)) (Kd.N_base ho0) hb); have n1_ := Aside0.mk (Kd.N_elder' (vN HO350 gb374 (.int .i64 t369) (.slice Ao47 t370.length co47)) (Kd.N_base ho0) hb); have n2_ := Aside0.mk (Kd.N_elder' (vN HO356 gb374 (.int .i64 t369) (.slice Ao47 t370.length co47)) (Kd.N_base ho0) hb); have n3_ := Aside0.mk (Kd.N_elder' (vN HO362 gb374 (.int .i64 t369) (.slice Ao47 t370.length co47)) (Kd.N_base ho0) hb); have n4_ := Aside0.mk (Kd.R_below (sR HO367 BK374 gb374 (.int .i64 t369) (.slice Ao47 t370.length co47)) hb); have n5_ := Aside0.mk (Kd.N_elder' (vN HO372 gb374 (.int .i64 t369) (.slice Ao47 t370.length co47)) (Kd.N_base ho0) hb); have n6_ := Aside0.mk (Kd.N_lower (Kd.N_mono (ok' := fun k_ => some k_ ≠ (.slice Ao18 t342.length co18 : Value).ownBlock ∧ some k_ ≠ (.slice Ao23 t348.length co23 : Value).ownBlock ∧ some k_ ≠ (.slice Ao29 t354.length co29 : Value).ownBlock ∧ some k_ ≠ (.slice Ao36 t360.length co36 : Value).ownBlock ∧ some k_ ≠ (.slice Ao38 t365.length co38 : Value).ownBlock ∧ some k_ ≠ (.slice Ao47 t370.length co47 : Value).ownBlock ∧ k_ ≠ gb346 ∧ k_ ≠ gb352 ∧ k_ ≠ gb358 ∧ k_ ≠ gb364 ∧ k_ ≠ gb374) ho0 (fun k_ hk_ => ⟨(Kd.fresh' (Kd.N_lt (vN HO344 gb374 (.int .i64 t369) (.slice Ao47 t370.length co47))) k_ hk_), (Kd.fresh' (Kd.N_lt (vN HO350 gb374 (.int .i64 t369) (.slice Ao47 t370.length co47))) k_ hk_), (Kd.fresh' (Kd.N_lt (vN HO356 gb374 (.int .i64 t369) (.slice Ao47 t370.length co47))) k_ hk_), (Kd.fresh' (Kd.N_lt (vN HO362 gb374 (.int .i64 t369) (.slice Ao47 t370.length co47))) k_ hk_), (Kd.fresh' (Kd.R_lt (sR HO367 BK374 gb374 (.int .i64 t369) (.slice Ao47 t370.length co47))) k_ hk_), (Kd.fresh' (Kd.N_lt (vN HO372 gb374 (.int .i64 t369) (.slice Ao47 t370.length co47))) k_ hk_), (Kd.freshB (g := gb346) (o := .cells #[.int .i64 t341, .slice Ao18 t342.length co18] 27 (0, 0)) (f2 BK346 NB346_374 NB346_374) k_ hk_), (Kd.freshB (g := gb352) (o := .cells #[.int .i64 t347, .slice Ao23 t348.length co23] 27 (0, 0)) (f2 BK352 NB352_374 NB352_374) k_ hk_), (Kd.freshB (g := gb358) (o := .cells #[.int .i64 t353, .slice Ao29 t354.length co29] 27 (0, 0)) (f2 BK358 NB358_374 NB358_374) k_ hk_), (Kd.freshB (g := gb364) (o := .cells #[.int .i64 t359, .slice Ao36 t360.length co36] 27 (0, 0)) (f2 BK364 NB364_374 NB364_374) k_ hk_), (Kd.freshB (g := gb374) (o := .cells #[.int .i64 t369, .slice Ao47 t370.length co47] 27 (0, 0)) (by (with_reducible repeat (first | refine blk_drewN ?_ _ | refine blk_drew ?_ | refine blk_alloc ?_ _)); refine blk_put (cs := #[.int .i64 t369, .slice none 0 0]) ?_ 1 _ rfl; (with_reducible repeat (first | refine blk_drewN ?_ _ | refine blk_drew ?_ | refine blk_alloc ?_ _)); refine blk_put (cs := #[.int .i64 0, .slice none 0 0]) ?_ 0 _ rfl; (with_reducible repeat (first | refine blk_drewN ?_ _ | refine blk_drew ?_ | refine blk_alloc ?_ _)); exact BK374.out) k_ hk_)⟩)) (below_size (b5 HB GE346 GE352 GE358 GE364 GE374))); have n7_ := Aside0.mk (g2 BK346 NB346_374 NB346_374 hb); have n8_ := Aside0.mk (g2 BK352 NB352_374 NB352_374 hb); have n9_ := Aside0.mk (g2 BK358 NB358_374 NB358_374 hb); have n10_ := Aside0.mk (g2 BK364 NB364_374 NB364_374 hb); have n11_ := Aside0.mk (blk_below (g := gb374) (o := .cells #[.int .i64 t369, .slice Ao47 t370.length co47] 27 (0, 0)) (by (with_reducible repeat (first | refine blk_drewN ?_ _ | refine blk_drew ?_ | refine blk_alloc ?_ _)); refine blk_put (cs := #[.int .i64 t369, .slice none 0 0]) ?_ 1 _ rfl; (with_reducible repeat (first | refine blk_drewN ?_ _ | refine blk_drew ?_ | refine blk_alloc ?_ _)); refine blk_put (cs := #[.int .i64 0, .slice none 0 0]) ?_ 0 _ rfl; (with_reducible repeat (first | refine blk_drewN ?_ _ | refine blk_drew ?_ | refine blk_alloc ?_ _)); exact BK374.out) hb); have n12_ := Aside0.mk (below_step (b5 HB GE346 GE352 GE358 GE364 GE374) hb); clear HO344; clear HO350; clear HO356; clear HO362; clear HO367; clear HO372; clear BK346; clear BK352; clear BK358; clear BK364; clear BK374; clear HB; have HO344 := n0_; have HO350 := n1_; have HO356 := n2_; have HO362 := n3_; have HO367 := n4_; have HO372 := n5_; have HO378 := n6_; have BK346 := n7_; have BK352 := n8_; have BK358 := n9_; have BK364 := n10_; have BK374 := n11_; have HB := n12_; clear n0_ n1_ n2_ n3_ n4_ n5_ n6_ n7_ n8_ n9_ n10_ n11_ n12_; (try clear hb); (try clear hb2); (try clear hk); (try clear hi); (try clear ho0)) | ((with_reducible refine gate_dst (N := 15) rfl ?_); refine box_event ?hg (N := 15) ?hd (cs := #[.int .i64 0, .slice none 0 0]) (t := 27) ?hr ?_; (case hd => rfl); (case hg => rfl); (case hr => first | (go_simp; done) | (go_simp; rfl)); intro gb380 hg w49 hbox hb; have n0_ := Aside0.mk (Kd.N_below (Kd.N_elderB (pN HO344) gb380 (Nat.le_of_eq hg.symm)) hb); have n1_ := Aside0.mk (Kd.N_below (Kd.N_elderB (pN HO350) gb380 (Nat.le_of_eq hg.symm)) hb); have n2_ := Aside0.mk (Kd.N_below (Kd.N_elderB (pN HO356) gb380 (Nat.le_of_eq hg.symm)) hb); have n3_ := Aside0.mk (Kd.N_below (Kd.N_elderB (pN HO362) gb380 (Nat.le_of_eq hg.symm)) hb); have n4_ := Aside0.mk (Kd.R_below (pR HO367) hb); have n5_ := Aside0.mk (Kd.N_below (Kd.N_elderB (pN HO372) gb380 (Nat.le_of_eq hg.symm)) hb); have n6_ := Aside0.mk (Kd.N_below (Kd.N_elderB (pN HO378) gb380 (Nat.le_of_eq hg.symm)) hb); have n7_ := Aside0.mk (bW BK346 hb); have n8_ := Aside0.mk (bW BK352 hb); have n9_ := Aside0.mk (bW BK358 hb); have n10_ := Aside0.mk (bW BK364 hb); have n11_ := Aside0.mk (bW BK374 hb); have n12_ := Aside0.mk (below_step (b5 HB GE346 GE352 GE358 GE364 GE374) hb); have n13_ := Aside0.mk (hbox); have n14_ := Aside0.mk ((by rw [hg]; exact (below_size (b5 HB GE346 GE352 GE358 GE364 GE374)) : w.heap.size ≤ gb380)); have n15_ := Aside0.mk ((by rw [hg]; exact (below_size (b5 HB GE346 GE352 GE358 GE364 GE374)) : w.heap.size ≤ gb380)); have n16_ := Aside0.mk ((by rw [hg]; exact Nat.ne_of_lt (blk_lt (g := gb346) (o := .cells #[.int .i64 t341, .slice Ao18 t342.length co18] 27 (0, 0)) (pB BK346)) : gb346 ≠ gb380)); have n17_ := Aside0.mk ((by rw [hg]; exact Nat.ne_of_gt (blk_lt (g := gb346) (o := .cells #[.int .i64 t341, .slice Ao18 t342.length co18] 27 (0, 0)) (pB BK346)) : gb380 ≠ gb346)); have n18_ := Aside0.mk ((by rw [hg]; exact Nat.ne_of_lt (blk_lt (g := gb352) (o := .cells #[.int .i64 t347, .slice Ao23 t348.length co23] 27 (0, 0)) (pB BK352)) : gb352 ≠ gb380)); have n19_ := Aside0.mk ((by rw [hg]; exact Nat.ne_of_gt (blk_lt (g := gb352) (o := .cells #[.int .i64 t347, .slice Ao23 t348.length co23] 27 (0, 0)) (pB BK352)) : gb380 ≠ gb352)); have n20_ := Aside0.mk ((by rw [hg]; exact Nat.ne_of_lt (blk_lt (g := gb358) (o := .cells #[.int .i64 t353, .slice Ao29 t354.length co29] 27 (0, 0)) (pB BK358)) : gb358 ≠ gb380)); have n21_ := Aside0.mk ((by rw [hg]; exact Nat.ne_of_gt (blk_lt (g := gb358) (o := .cells #[.int .i64 t353, .slice Ao29 t354.length co29] 27 (0, 0)) (pB BK358)) : gb380 ≠ gb358)); have n22_ := Aside0.mk ((by rw [hg]; exact Nat.ne_of_lt (blk_lt (g := gb364) (o := .cells #[.int .i64 t359, .slice Ao36 t360.length co36] 27 (0, 0)) (pB BK364)) : gb364 ≠ gb380)); have n23_ := Aside0.mk ((by rw [hg]; exact Nat.ne_of_gt (blk_lt (g := gb364) (o := .cells #[.int .i64 t359, .slice Ao36 t360.length co36] 27 (0, 0)) (pB BK364)) : gb380 ≠ gb364)); have n24_ := Aside0.mk ((by rw [hg]; exact Nat.ne_of_lt (blk_lt (g := gb374) (o := .cells #[.int .i64 t369, .slice Ao47 t370.length co47] 27 (0, 0)) (pB BK374)) : gb374 ≠ gb380)); have n25_ := Aside0.mk ((by rw [hg]; exact Nat.ne_of_gt (blk_lt (g := gb374) (o := .cells #[.int .i64 t369, .slice Ao47 t370.length co47] 27 (0, 0)) (pB BK374)) : gb380 ≠ gb374)); clear HO344; clear HO350; clear HO356; clear HO362; clear HO367; clear HO372; clear HO378; clear BK346; clear BK352; clear BK358; clear BK364; clear BK374; clear HB; have HO344 := n0_; have HO350 := n1_; have HO356 := n2_; have HO362 := n3_; have HO367 := n4_; have HO372 := n5_; have HO378 := n6_; have BK346 := n7_; have BK352 := n8_; have BK358 := n9_; have BK364 := n10_; have BK374 := n11_; have HB := n12_; have BK380 := n13_; have GW380 := n14_; have GE380 := n15_; have NB346_380 := n16_; have NB380_346 := n17_; have NB352_380 := n18_; have NB380_352 := n19_; have NB358_380 := n20_; have NB380_358 := n21_; have NB364_380 := n22_; have NB380_364 := n23_; have NB374_380 := n24_; have NB380_374 := n25_; clear n0_ n1_ n2_ n3_ n4_ n5_ n6_ n7_ n8_ n9_ n10_ n11_ n12_ n13_ n14_ n15_ n16_ n17_ n18_ n19_ n20_ n21_ n22_ n23_ n24_ n25_; clear hb hbox hg; have hnb50 := NB380_346.out; have hnc50 := NB346_380.out; have hnb51 := NB380_352.out; have hnc51 := NB352_380.out; have hnb52 := NB380_358.out; have hnc52 := NB358_380.out; have hnb53 := NB380_364.out; have hnc53 := NB364_380.out; have hnb54 := NB380_374.out; have hnc54 := NB374_380.out; have hcz55_0 : w49.cell? ⟨gb380, 0, none⟩ = some (.int .i64 0) := (blk_cell BK380.out 0).trans rfl; have hcz55_1 : w49.cell? ⟨gb380, 1, none⟩ = some (.slice none 0 0) := (blk_cell BK380.out 1).trans rfl; have hfz55_0 := blk_frozen BK380.out 0; have hfz55_1 := blk_frozen BK380.out 1; obtain ⟨Ao56, co56, eo56⟩ := Kd.N_slice HO378.out; subst eo56))
   (try simp only [Act.put, List.setIfInBounds_toArray, List.set_cons_zero, List.set_cons_succ])
   go_cut [101] (fun v101 wc => ∃ (kq : Nat) (x101_12 : Bool), v101 = .bool x101_12 ∧ Aside0 (laws_FnFamilies.j0 kq t340 t345 t373 x101_12 t341 t342 t353 t354 t369 t370 = some r) ∧ Aside0 (kq ≤ k) ∧ Aside0 (Kd.N (Kd.slice 45 k45) 43 wc w.heap.size (fun k_ => some k_ ≠ ((.slice Ao23 t348.length co23) : Value).ownBlock ∧ some k_ ≠ ((.slice Ao29 t354.length co29) : Value).ownBlock ∧ some k_ ≠ ((.slice Ao36 t360.length co36) : Value).ownBlock ∧ some k_ ≠ ((.slice Ao47 t370.length co47) : Value).ownBlock ∧ some k_ ≠ ((.slice Ao56 t376.length co56) : Value).ownBlock ∧ k_ ≠ gb346 ∧ k_ ≠ gb352 ∧ k_ ≠ gb358 ∧ k_ ≠ gb364 ∧ k_ ≠ gb374 ∧ k_ ≠ gb380) (.slice Ao18 t342.length co18) t342) ∧ Aside0 (Kd.N (Kd.slice 45 k45) 43 wc w.heap.size (fun k_ => some k_ ≠ ((.slice Ao18 t342.length co18) : Value).ownBlock ∧ some k_ ≠ ((.slice Ao29 t354.length co29) : Value).ownBlock ∧ some k_ ≠ ((.slice Ao36 t360.length co36) : Value).ownBlock ∧ some k_ ≠ ((.slice Ao47 t370.length co47) : Value).ownBlock ∧ some k_ ≠ ((.slice Ao56 t376.length co56) : Value).ownBlock ∧ k_ ≠ gb346 ∧ k_ ≠ gb352 ∧ k_ ≠ gb358 ∧ k_ ≠ gb364 ∧ k_ ≠ gb374 ∧ k_ ≠ gb380) (.slice Ao23 t348.length co23) t348) ∧ Aside0 (Kd.N (Kd.slice 45 k45) 43 wc w.heap.size (fun k_ => some k_ ≠ ((.slice Ao18 t342.length co18) : Value).ownBlock ∧ some k_ ≠ ((.slice Ao23 t348.length co23) : Value).ownBlock ∧ some k_ ≠ ((.slice Ao36 t360.length co36) : Value).ownBlock ∧ some k_ ≠ ((.slice Ao47 t370.length co47) : Value).ownBlock ∧ some k_ ≠ ((.slice Ao56 t376.length co56) : Value).ownBlock ∧ k_ ≠ gb346 ∧ k_ ≠ gb352 ∧ k_ ≠ gb358 ∧ k_ ≠ gb364 ∧ k_ ≠ gb374 ∧ k_ ≠ gb380) (.slice Ao29 t354.length co29) t354) ∧ Aside0 (Kd.N (Kd.slice 45 k45) 43 wc w.heap.size (fun k_ => some k_ ≠ ((.slice Ao18 t342.length co18) : Value).ownBlock ∧ some k_ ≠ ((.slice Ao23 t348.length co23) : Value).ownBlock ∧ some k_ ≠ ((.slice Ao29 t354.length co29) : Value).ownBlock ∧ some k_ ≠ ((.slice Ao47 t370.length co47) : Value).ownBlock ∧ some k_ ≠ ((.slice Ao56 t376.length co56) : Value).ownBlock ∧ k_ ≠ gb346 ∧ k_ ≠ gb352 ∧ k_ ≠ gb358 ∧ k_ ≠ gb364 ∧ k_ ≠ gb374 ∧ k_ ≠ gb380) (.slice Ao36 t360.length co36) t360) ∧ Aside0 (Kd.N (Kd.slice 45 k45) 43 wc w.heap.size (fun k_ => some k_ ≠ ((.slice Ao18 t342.length co18) : Value).ownBlock ∧ some k_ ≠ ((.slice Ao23 t348.length co23) : Value).ownBlock ∧ some k_ ≠ ((.slice Ao29 t354.length co29) : Value).ownBlock ∧ some k_ ≠ ((.slice Ao36 t360.length co36) : Value).ownBlock ∧ some k_ ≠ ((.slice Ao56 t376.length co56) : Value).ownBlock ∧ k_ ≠ gb346 ∧ k_ ≠ gb352 ∧ k_ ≠ gb358 ∧ k_ ≠ gb364 ∧ k_ ≠ gb374 ∧ k_ ≠ gb380) (.slice Ao47 t370.length co47) t370) ∧ Aside0 (Kd.N (Kd.slice 45 k45) 43 wc w.heap.size (fun k_ => some k_ ≠ ((.slice Ao18 t342.length co18) : Value).ownBlock ∧ some k_ ≠ ((.slice Ao23 t348.length co23) : Value).ownBlock ∧ some k_ ≠ ((.slice Ao29 t354.length co29) : Value).ownBlock ∧ some k_ ≠ ((.slice Ao36 t360.length co36) : Value).ownBlock ∧ some k_ ≠ ((.slice Ao47 t370.length co47) : Value).ownBlock ∧ k_ ≠ gb346 ∧ k_ ≠ gb352 ∧ k_ ≠ gb358 ∧ k_ ≠ gb364 ∧ k_ ≠ gb374 ∧ k_ ≠ gb380) (.slice Ao56 t376.length co56) t376) ∧ Aside0 (wc.heap[gb346]? = some (.cells #[.int .i64 t341, (.slice Ao18 t342.length co18)] 27 (0, 0))) ∧ Aside0 (wc.heap[gb352]? = some (.cells #[.int .i64 t347, (.slice Ao23 t348.length co23)] 27 (0, 0))) ∧ Aside0 (wc.heap[gb358]? = some (.cells #[.int .i64 t353, (.slice Ao29 t354.length co29)] 27 (0, 0))) ∧ Aside0 (wc.heap[gb364]? = some (.cells #[.int .i64 t359, (.slice Ao36 t360.length co36)] 27 (0, 0))) ∧ Aside0 (wc.heap[gb374]? = some (.cells #[.int .i64 t369, (.slice Ao47 t370.length co47)] 27 (0, 0))) ∧ Aside0 (wc.heap[gb380]? = some (.cells #[.int .i64 t375, (.slice Ao56 t376.length co56)] 27 (0, 0))) ∧ Aside0 (Below w.heap.size w wc))
   case first =>
    have H := HC13.out
    clear HC13
    by_cases c57 : (t345 != t351) = true
    · rw [if_pos c57] at H
      have c57b0 : (t345 != t351) = true := c57
      (try (have c57b1 : decide (t345 = t351) = false := by simpa using c57))
      (try (have c57b2 : (t345 == t351) = false := by simpa using c57))
      (try (have c57b3 : ¬ (t345 = t351) := by simpa using c57))
      clear c57
      (first | rw [c57b0] | (simp only [i64_w, i32_w]; rw [c57b0]) | skip)
      have H' := Aside0.mk H
      clear H
      go_wp2
      go_meet
      case rel => exact ⟨_, (true), rD, H', ⟨by first | omega | exact Nat.le_refl _⟩, ⟨by (with_reducible repeat (first | apply Kd.N_alloc | apply Kd.N_drewN | apply Kd.N_drew)); exact Kd.N_mono (Kd.N_far (p := ⟨gb380, 1, none⟩) (Kd.N_far (p := ⟨gb380, 0, none⟩) (Kd.N_mono HO344.out (fun k_ hk => (⟨hk, hk.2⟩ : _ ∧ k_ ≠ gb380))) (fun _ hk => hk.2) (.int .i64 t375)) (fun _ hk => hk.2) (.slice Ao56 t376.length co56)) (fun _ hk => ⟨hk.1.1.1.1.1.1.1.1.1.1.1.2, ⟨hk.1.1.1.1.1.1.1.1.1.2, ⟨hk.1.1.1.1.1.1.1.2, ⟨hk.1.1.1.1.2, ⟨hk.1.1.2, ⟨hk.1.1.1.1.1.1.1.1.1.1.1.1.2, ⟨hk.1.1.1.1.1.1.1.1.1.1.2, ⟨hk.1.1.1.1.1.1.1.1.2, ⟨hk.1.1.1.1.1.1.2, ⟨hk.1.1.1.2, hk.1.2⟩⟩⟩⟩⟩⟩⟩⟩⟩⟩)⟩, ⟨by (with_reducible repeat (first | apply Kd.N_alloc | apply Kd.N_drewN | apply Kd.N_drew)); exact Kd.N_mono (Kd.N_far (p := ⟨gb380, 1, none⟩) (Kd.N_far (p := ⟨gb380, 0, none⟩) (Kd.N_mono HO350.out (fun k_ hk => (⟨hk, hk.2⟩ : _ ∧ k_ ≠ gb380))) (fun _ hk => hk.2) (.int .i64 t375)) (fun _ hk => hk.2) (.slice Ao56 t376.length co56)) (fun _ hk => ⟨hk.1.1.1.1.1.1.1.1.1.1.1.1, ⟨hk.1.1.1.1.1.1.1.1.1.2, ⟨hk.1.1.1.1.1.1.1.2, ⟨hk.1.1.1.1.2, ⟨hk.1.1.2, ⟨hk.1.1.1.1.1.1.1.1.1.1.1.2, ⟨hk.1.1.1.1.1.1.1.1.1.1.2, ⟨hk.1.1.1.1.1.1.1.1.2, ⟨hk.1.1.1.1.1.1.2, ⟨hk.1.1.1.2, hk.1.2⟩⟩⟩⟩⟩⟩⟩⟩⟩⟩)⟩, ⟨by (with_reducible repeat (first | apply Kd.N_alloc | apply Kd.N_drewN | apply Kd.N_drew)); exact Kd.N_mono (Kd.N_far (p := ⟨gb380, 1, none⟩) (Kd.N_far (p := ⟨gb380, 0, none⟩) (Kd.N_mono HO356.out (fun k_ hk => (⟨hk, hk.2⟩ : _ ∧ k_ ≠ gb380))) (fun _ hk => hk.2) (.int .i64 t375)) (fun _ hk => hk.2) (.slice Ao56 t376.length co56)) (fun _ hk => ⟨hk.1.1.1.1.1.1.1.1.1.1, ⟨hk.1.1.1.1.1.1.1.1.1.2.1, ⟨hk.1.1.1.1.1.1.1.2, ⟨hk.1.1.1.1.2, ⟨hk.1.1.2, ⟨hk.1.1.1.1.1.1.1.1.1.2.2.1, ⟨hk.1.1.1.1.1.1.1.1.1.2.2.2, ⟨hk.1.1.1.1.1.1.1.1.2, ⟨hk.1.1.1.1.1.1.2, ⟨hk.1.1.1.2, hk.1.2⟩⟩⟩⟩⟩⟩⟩⟩⟩⟩)⟩, ⟨by (with_reducible repeat (first | apply Kd.N_alloc | apply Kd.N_drewN | apply Kd.N_drew)); exact Kd.N_mono (Kd.N_far (p := ⟨gb380, 1, none⟩) (Kd.N_far (p := ⟨gb380, 0, none⟩) (Kd.N_mono HO362.out (fun k_ hk => (⟨hk, hk.2⟩ : _ ∧ k_ ≠ gb380))) (fun _ hk => hk.2) (.int .i64 t375)) (fun _ hk => hk.2) (.slice Ao56 t376.length co56)) (fun _ hk => ⟨hk.1.1.1.1.1.1.1.1, ⟨hk.1.1.1.1.1.1.1.2.1, ⟨hk.1.1.1.1.1.1.1.2.2.1, ⟨hk.1.1.1.1.2, ⟨hk.1.1.2, ⟨hk.1.1.1.1.1.1.1.2.2.2.1, ⟨hk.1.1.1.1.1.1.1.2.2.2.2.1, ⟨hk.1.1.1.1.1.1.1.2.2.2.2.2, ⟨hk.1.1.1.1.1.1.2, ⟨hk.1.1.1.2, hk.1.2⟩⟩⟩⟩⟩⟩⟩⟩⟩⟩)⟩, ⟨by (with_reducible repeat (first | apply Kd.N_alloc | apply Kd.N_drewN | apply Kd.N_drew)); exact Kd.N_mono (Kd.N_far (p := ⟨gb380, 1, none⟩) (Kd.N_far (p := ⟨gb380, 0, none⟩) (Kd.N_mono HO372.out (fun k_ hk => (⟨hk, hk.2⟩ : _ ∧ k_ ≠ gb380))) (fun _ hk => hk.2) (.int .i64 t375)) (fun _ hk => hk.2) (.slice Ao56 t376.length co56)) (fun _ hk => ⟨hk.1.1.1.1.1, ⟨hk.1.1.1.1.2.1, ⟨hk.1.1.1.1.2.2.1, ⟨hk.1.1.1.1.2.2.2.1, ⟨hk.1.1.2, ⟨hk.1.1.1.1.2.2.2.2.2.1, ⟨hk.1.1.1.1.2.2.2.2.2.2.1, ⟨hk.1.1.1.1.2.2.2.2.2.2.2.1, ⟨hk.1.1.1.1.2.2.2.2.2.2.2.2, ⟨hk.1.1.1.2, hk.1.2⟩⟩⟩⟩⟩⟩⟩⟩⟩⟩)⟩, ⟨by (with_reducible repeat (first | apply Kd.N_alloc | apply Kd.N_drewN | apply Kd.N_drew)); exact Kd.N_mono (Kd.N_far (p := ⟨gb380, 1, none⟩) (Kd.N_far (p := ⟨gb380, 0, none⟩) (Kd.N_mono HO378.out (fun k_ hk => (⟨hk, hk.2⟩ : _ ∧ k_ ≠ gb380))) (fun _ hk => hk.2) (.int .i64 t375)) (fun _ hk => hk.2) (.slice Ao56 t376.length co56)) (fun _ hk => ⟨hk.1.1.1, ⟨hk.1.1.2.1, ⟨hk.1.1.2.2.1, ⟨hk.1.1.2.2.2.1, ⟨hk.1.1.2.2.2.2.2.1, ⟨hk.1.1.2.2.2.2.2.2.1, ⟨hk.1.1.2.2.2.2.2.2.2.1, ⟨hk.1.1.2.2.2.2.2.2.2.2.1, ⟨hk.1.1.2.2.2.2.2.2.2.2.2.1, ⟨hk.1.1.2.2.2.2.2.2.2.2.2.2, hk.1.2⟩⟩⟩⟩⟩⟩⟩⟩⟩⟩)⟩, ⟨by (with_reducible repeat (first | refine blk_drewN ?_ _ | refine blk_drew ?_ | refine blk_alloc ?_ _)); refine blk_far ?_ NB346_380.out _; (with_reducible repeat (first | refine blk_drewN ?_ _ | refine blk_drew ?_ | refine blk_alloc ?_ _)); refine blk_far ?_ NB346_380.out _; (with_reducible repeat (first | refine blk_drewN ?_ _ | refine blk_drew ?_ | refine blk_alloc ?_ _)); exact BK346.out⟩, ⟨by (with_reducible repeat (first | refine blk_drewN ?_ _ | refine blk_drew ?_ | refine blk_alloc ?_ _)); refine blk_far ?_ NB352_380.out _; (with_reducible repeat (first | refine blk_drewN ?_ _ | refine blk_drew ?_ | refine blk_alloc ?_ _)); refine blk_far ?_ NB352_380.out _; (with_reducible repeat (first | refine blk_drewN ?_ _ | refine blk_drew ?_ | refine blk_alloc ?_ _)); exact BK352.out⟩, ⟨by (with_reducible repeat (first | refine blk_drewN ?_ _ | refine blk_drew ?_ | refine blk_alloc ?_ _)); refine blk_far ?_ NB358_380.out _; (with_reducible repeat (first | refine blk_drewN ?_ _ | refine blk_drew ?_ | refine blk_alloc ?_ _)); refine blk_far ?_ NB358_380.out _; (with_reducible repeat (first | refine blk_drewN ?_ _ | refine blk_drew ?_ | refine blk_alloc ?_ _)); exact BK358.out⟩, ⟨by (with_reducible repeat (first | refine blk_drewN ?_ _ | refine blk_drew ?_ | refine blk_alloc ?_ _)); refine blk_far ?_ NB364_380.out _; (with_reducible repeat (first | refine blk_drewN ?_ _ | refine blk_drew ?_ | refine blk_alloc ?_ _)); refine blk_far ?_ NB364_380.out _; (with_reducible repeat (first | refine blk_drewN ?_ _ | refine blk_drew ?_ | refine blk_alloc ?_ _)); exact BK364.out⟩, ⟨by (with_reducible repeat (first | refine blk_drewN ?_ _ | refine blk_drew ?_ | refine blk_alloc ?_ _)); refine blk_far ?_ NB374_380.out _; (with_reducible repeat (first | refine blk_drewN ?_ _ | refine blk_drew ?_ | refine blk_alloc ?_ _)); refine blk_far ?_ NB374_380.out _; (with_reducible repeat (first | refine blk_drewN ?_ _ | refine blk_drew ?_ | refine blk_alloc ?_ _)); exact BK374.out⟩, ⟨by (with_reducible repeat (first | refine blk_drewN ?_ _ | refine blk_drew ?_ | refine blk_alloc ?_ _)); refine blk_put (cs := #[.int .i64 t375, .slice none 0 0]) ?_ 1 _ rfl; (with_reducible repeat (first | refine blk_drewN ?_ _ | refine blk_drew ?_ | refine blk_alloc ?_ _)); refine blk_put (cs := #[.int .i64 0, .slice none 0 0]) ?_ 0 _ rfl; (with_reducible repeat (first | refine blk_drewN ?_ _ | refine blk_drew ?_ | refine blk_alloc ?_ _)); exact BK380.out⟩, ⟨b6 HB GE346 GE352 GE358 GE364 GE374 GE380⟩⟩
    · rw [if_neg c57] at H
      have c57b0 : (t345 != t351) = false := by simpa using c57
      (try (have c57b1 : decide (t345 = t351) = true := by simpa using c57))
      (try (have c57b2 : (t345 == t351) = true := by simpa using c57))
      clear c57
      (first | rw [c57b0] | (simp only [i64_w, i32_w]; rw [c57b0]) | skip)
      replace H := Option.bind_eq_some_iff.mp H
      obtain ⟨t381, A580, H⟩ := H
      replace H : (if t381 = true then (if (t357 != t363) = true then (laws_FnFamilies.j0 k t340 t345 t373 true t341 t342 t353 t354 t369 t370) else ((laws_vNet.f k t353 t354 t359 t360).bind fun t382 => (if t382 = true then (if (t373 != t379) = true then (laws_FnFamilies.j0 k t340 t345 t373 true t341 t342 t353 t354 t369 t370) else ((laws_vNet.f k t369 t370 t375 t376).bind fun t383 => (if t383 = true then (laws_FnFamilies.j0 k t340 t345 t373 (t345 != t357) t341 t342 t353 t354 t369 t370) else (laws_FnFamilies.j0 k t340 t345 t373 true t341 t342 t353 t354 t369 t370)))) else (laws_FnFamilies.j0 k t340 t345 t373 true t341 t342 t353 t354 t369 t370)))) else (laws_FnFamilies.j0 k t340 t345 t373 true t341 t342 t353 t354 t369 t370)) = some r := H
      have A58 := Aside0.mk A580
      clear A580
      by_cases c59 : t381 = true
      · subst c59
        have H1 : (if (t357 != t363) = true then (laws_FnFamilies.j0 k t340 t345 t373 true t341 t342 t353 t354 t369 t370) else ((laws_vNet.f k t353 t354 t359 t360).bind fun t382 => (if t382 = true then (if (t373 != t379) = true then (laws_FnFamilies.j0 k t340 t345 t373 true t341 t342 t353 t354 t369 t370) else ((laws_vNet.f k t369 t370 t375 t376).bind fun t383 => (if t383 = true then (laws_FnFamilies.j0 k t340 t345 t373 (t345 != t357) t341 t342 t353 t354 t369 t370) else (laws_FnFamilies.j0 k t340 t345 t373 true t341 t342 t353 t354 t369 t370)))) else (laws_FnFamilies.j0 k t340 t345 t373 true t341 t342 t353 t354 t369 t370)))) = some r := by rw [if_pos rfl] at H; exact H
        clear H
        have H := H1
        clear H1
        by_cases c60 : (t357 != t363) = true
        · rw [if_pos c60] at H
          have c60b0 : (t357 != t363) = true := c60
          (try (have c60b1 : decide (t357 = t363) = false := by simpa using c60))
          (try (have c60b2 : (t357 == t363) = false := by simpa using c60))
          (try (have c60b3 : ¬ (t357 = t363) := by simpa using c60))
          clear c60
          have H' := Aside0.mk H
          clear H
          have hnb61 := NB346_352.out
          have hnc61 := NB352_346.out
          have hnb62 := NB346_358.out
          have hnc62 := NB358_346.out
          have hnb63 := NB346_364.out
          have hnc63 := NB364_346.out
          have hnb64 := NB346_374.out
          have hnc64 := NB374_346.out
          have hnb65 := NB346_380.out
          have hnc65 := NB380_346.out
          have hcz66_0 : w49.cell? ⟨gb346, 0, none⟩ = some (.int .i64 t341) := (blk_cell BK346.out 0).trans rfl
          have hcz66_1 : w49.cell? ⟨gb346, 1, none⟩ = some (.slice Ao18 t342.length co18) := (blk_cell BK346.out 1).trans rfl
          have hfz66_0 := blk_frozen BK346.out 0
          have hfz66_1 := blk_frozen BK346.out 1
          have hnb67 := NB352_358.out
          have hnc67 := NB358_352.out
          have hnb68 := NB352_364.out
          have hnc68 := NB364_352.out
          have hnb69 := NB352_374.out
          have hnc69 := NB374_352.out
          have hnb70 := NB352_380.out
          have hnc70 := NB380_352.out
          have hcz71_0 : w49.cell? ⟨gb352, 0, none⟩ = some (.int .i64 t347) := (blk_cell BK352.out 0).trans rfl
          have hcz71_1 : w49.cell? ⟨gb352, 1, none⟩ = some (.slice Ao23 t348.length co23) := (blk_cell BK352.out 1).trans rfl
          have hfz71_0 := blk_frozen BK352.out 0
          have hfz71_1 := blk_frozen BK352.out 1
          go_wp2_with (first | (go_at_call 14; (with_reducible refine (laws_vNet.calls k t341 _ _ t342 t347 _ _ t348 true _ ?side1 ?side2 ?side3 ?side4 A58.out).mono ?_); (case side1 => refine (Kd.N_reads' (e := 43) (base := w.heap.size) (ok := fun k_ => ((((((((((((True ∧ k_ ≠ gb346) ∧ some k_ ≠ (.slice Ao23 t348.length co23 : Value).ownBlock) ∧ k_ ≠ gb352) ∧ some k_ ≠ (.slice Ao29 t354.length co29 : Value).ownBlock) ∧ k_ ≠ gb358) ∧ some k_ ≠ (.slice Ao36 t360.length co36 : Value).ownBlock) ∧ k_ ≠ gb364) ∧ some k_ ≠ (.slice Ao38 t365.length co38 : Value).ownBlock) ∧ some k_ ≠ (.slice Ao47 t370.length co47 : Value).ownBlock) ∧ k_ ≠ gb374) ∧ some k_ ≠ (.slice Ao56 t376.length co56 : Value).ownBlock) ∧ k_ ≠ gb380)) (n := t342.length) (c := co18) ?_).2.2; exact (vN HO344 gb380 (.int .i64 t375) (.slice Ao56 t376.length co56))); (case side2 => exact (Kd.N_reads' HO344.out).2.1); (case side3 => refine (Kd.N_reads' (e := 43) (base := w.heap.size) (ok := fun k_ => (((((((((((some k_ ≠ (.slice Ao18 t342.length co18 : Value).ownBlock ∧ k_ ≠ gb346) ∧ k_ ≠ gb352) ∧ some k_ ≠ (.slice Ao29 t354.length co29 : Value).ownBlock) ∧ k_ ≠ gb358) ∧ some k_ ≠ (.slice Ao36 t360.length co36 : Value).ownBlock) ∧ k_ ≠ gb364) ∧ some k_ ≠ (.slice Ao38 t365.length co38 : Value).ownBlock) ∧ some k_ ≠ (.slice Ao47 t370.length co47 : Value).ownBlock) ∧ k_ ≠ gb374) ∧ some k_ ≠ (.slice Ao56 t376.length co56 : Value).ownBlock) ∧ k_ ≠ gb380)) (n := t348.length) (c := co23) ?_).2.2; exact (vN HO350 gb380 (.int .i64 t375) (.slice Ao56 t376.length co56))); (case side4 => exact (Kd.N_reads' HO350.out).2.1); rintro e w72 ⟨rfl, hb⟩; have n0_ := Aside0.mk (Kd.N_below (vN HO344 gb380 (.int .i64 t375) (.slice Ao56 t376.length co56)) hb); have n1_ := Aside0.mk (Kd.N_below (vN HO350 gb380 (.int .i64 t375) (.slice Ao56 t376.length co56)) hb); have n2_ := Aside0.mk (Kd.N_below (vN HO356 gb380 (.int .i64 t375) (.slice Ao56 t376.length co56)) hb); have n3_ := Aside0.mk (Kd.N_below (vN HO362 gb380 (.int .i64 t375) (.slice Ao56 t376.length co56)) hb); have n4_ := Aside0.mk (Kd.R_below (sR HO367 BK380 gb380 (.int .i64 t375) (.slice Ao56 t376.length co56)) hb); have n5_ := Aside0.mk (Kd.N_below (vN HO372 gb380 (.int .i64 t375) (.slice Ao56 t376.length co56)) hb); have n6_ := Aside0.mk (Kd.N_below (vN HO378 gb380 (.int .i64 t375) (.slice Ao56 t376.length co56)) hb); have n7_ := Aside0.mk (g2 BK346 NB346_380 NB346_380 hb); have n8_ := Aside0.mk (g2 BK352 NB352_380 NB352_380 hb); have n9_ := Aside0.mk (g2 BK358 NB358_380 NB358_380 hb); have n10_ := Aside0.mk (g2 BK364 NB364_380 NB364_380 hb); have n11_ := Aside0.mk (g2 BK374 NB374_380 NB374_380 hb); have n12_ := Aside0.mk (blk_below (g := gb380) (o := .cells #[.int .i64 t375, .slice Ao56 t376.length co56] 27 (0, 0)) (by (with_reducible repeat (first | refine blk_drewN ?_ _ | refine blk_drew ?_ | refine blk_alloc ?_ _)); refine blk_put (cs := #[.int .i64 t375, .slice none 0 0]) ?_ 1 _ rfl; (with_reducible repeat (first | refine blk_drewN ?_ _ | refine blk_drew ?_ | refine blk_alloc ?_ _)); refine blk_put (cs := #[.int .i64 0, .slice none 0 0]) ?_ 0 _ rfl; (with_reducible repeat (first | refine blk_drewN ?_ _ | refine blk_drew ?_ | refine blk_alloc ?_ _)); exact BK380.out) hb); have n13_ := Aside0.mk (below_step (b6 HB GE346 GE352 GE358 GE364 GE374 GE380) hb); clear HO344; clear HO350; clear HO356; clear HO362; clear HO367; clear HO372; clear HO378; clear BK346; clear BK352; clear BK358; clear BK364; clear BK374; clear BK380; clear HB; have HO344 := n0_; have HO350 := n1_; have HO356 := n2_; have HO362 := n3_; have HO367 := n4_; have HO372 := n5_; have HO378 := n6_; have BK346 := n7_; have BK352 := n8_; have BK358 := n9_; have BK364 := n10_; have BK374 := n11_; have BK380 := n12_; have HB := n13_; clear n0_ n1_ n2_ n3_ n4_ n5_ n6_ n7_ n8_ n9_ n10_ n11_ n12_ n13_; (try clear hb); (try clear hb2); (try clear hk); (try clear hi)))
          go_meet
          case rel => exact ⟨_, (true), rD, H', ⟨by first | omega | exact Nat.le_refl _⟩, ⟨by (with_reducible repeat (first | apply Kd.N_alloc | apply Kd.N_drewN | apply Kd.N_drew)); exact Kd.N_mono HO344.out (fun _ hk => ⟨hk.1.1.1.1.1.1.1.1.1.1.2, ⟨hk.1.1.1.1.1.1.1.1.2, ⟨hk.1.1.1.1.1.1.2, ⟨hk.1.1.1.2, ⟨hk.1.2, ⟨hk.1.1.1.1.1.1.1.1.1.1.1.2, ⟨hk.1.1.1.1.1.1.1.1.1.2, ⟨hk.1.1.1.1.1.1.1.2, ⟨hk.1.1.1.1.1.2, ⟨hk.1.1.2, hk.2⟩⟩⟩⟩⟩⟩⟩⟩⟩⟩)⟩, ⟨by (with_reducible repeat (first | apply Kd.N_alloc | apply Kd.N_drewN | apply Kd.N_drew)); exact Kd.N_mono HO350.out (fun _ hk => ⟨hk.1.1.1.1.1.1.1.1.1.1.1, ⟨hk.1.1.1.1.1.1.1.1.2, ⟨hk.1.1.1.1.1.1.2, ⟨hk.1.1.1.2, ⟨hk.1.2, ⟨hk.1.1.1.1.1.1.1.1.1.1.2, ⟨hk.1.1.1.1.1.1.1.1.1.2, ⟨hk.1.1.1.1.1.1.1.2, ⟨hk.1.1.1.1.1.2, ⟨hk.1.1.2, hk.2⟩⟩⟩⟩⟩⟩⟩⟩⟩⟩)⟩, ⟨by (with_reducible repeat (first | apply Kd.N_alloc | apply Kd.N_drewN | apply Kd.N_drew)); exact Kd.N_mono HO356.out (fun _ hk => ⟨hk.1.1.1.1.1.1.1.1.1, ⟨hk.1.1.1.1.1.1.1.1.2.1, ⟨hk.1.1.1.1.1.1.2, ⟨hk.1.1.1.2, ⟨hk.1.2, ⟨hk.1.1.1.1.1.1.1.1.2.2.1, ⟨hk.1.1.1.1.1.1.1.1.2.2.2, ⟨hk.1.1.1.1.1.1.1.2, ⟨hk.1.1.1.1.1.2, ⟨hk.1.1.2, hk.2⟩⟩⟩⟩⟩⟩⟩⟩⟩⟩)⟩, ⟨by (with_reducible repeat (first | apply Kd.N_alloc | apply Kd.N_drewN | apply Kd.N_drew)); exact Kd.N_mono HO362.out (fun _ hk => ⟨hk.1.1.1.1.1.1.1, ⟨hk.1.1.1.1.1.1.2.1, ⟨hk.1.1.1.1.1.1.2.2.1, ⟨hk.1.1.1.2, ⟨hk.1.2, ⟨hk.1.1.1.1.1.1.2.2.2.1, ⟨hk.1.1.1.1.1.1.2.2.2.2.1, ⟨hk.1.1.1.1.1.1.2.2.2.2.2, ⟨hk.1.1.1.1.1.2, ⟨hk.1.1.2, hk.2⟩⟩⟩⟩⟩⟩⟩⟩⟩⟩)⟩, ⟨by (with_reducible repeat (first | apply Kd.N_alloc | apply Kd.N_drewN | apply Kd.N_drew)); exact Kd.N_mono HO372.out (fun _ hk => ⟨hk.1.1.1.1, ⟨hk.1.1.1.2.1, ⟨hk.1.1.1.2.2.1, ⟨hk.1.1.1.2.2.2.1, ⟨hk.1.2, ⟨hk.1.1.1.2.2.2.2.2.1, ⟨hk.1.1.1.2.2.2.2.2.2.1, ⟨hk.1.1.1.2.2.2.2.2.2.2.1, ⟨hk.1.1.1.2.2.2.2.2.2.2.2, ⟨hk.1.1.2, hk.2⟩⟩⟩⟩⟩⟩⟩⟩⟩⟩)⟩, ⟨by (with_reducible repeat (first | apply Kd.N_alloc | apply Kd.N_drewN | apply Kd.N_drew)); exact Kd.N_mono HO378.out (fun _ hk => ⟨hk.1.1, ⟨hk.1.2.1, ⟨hk.1.2.2.1, ⟨hk.1.2.2.2.1, ⟨hk.1.2.2.2.2.2.1, ⟨hk.1.2.2.2.2.2.2.1, ⟨hk.1.2.2.2.2.2.2.2.1, ⟨hk.1.2.2.2.2.2.2.2.2.1, ⟨hk.1.2.2.2.2.2.2.2.2.2.1, ⟨hk.1.2.2.2.2.2.2.2.2.2.2, hk.2⟩⟩⟩⟩⟩⟩⟩⟩⟩⟩)⟩, ⟨pB BK346⟩, ⟨pB BK352⟩, ⟨pB BK358⟩, ⟨pB BK364⟩, ⟨pB BK374⟩, ⟨pB BK380⟩, ⟨b6 HB GE346 GE352 GE358 GE364 GE374 GE380⟩⟩
        · rw [if_neg c60] at H
          have c60b0 : (t357 != t363) = false := by simpa using c60
          (try (have c60b1 : decide (t357 = t363) = true := by simpa using c60))
          (try (have c60b2 : (t357 == t363) = true := by simpa using c60))
          clear c60
          replace H := Option.bind_eq_some_iff.mp H
          obtain ⟨t382, A730, H⟩ := H
          replace H : (if t382 = true then (if (t373 != t379) = true then (laws_FnFamilies.j0 k t340 t345 t373 true t341 t342 t353 t354 t369 t370) else ((laws_vNet.f k t369 t370 t375 t376).bind fun t383 => (if t383 = true then (laws_FnFamilies.j0 k t340 t345 t373 (t345 != t357) t341 t342 t353 t354 t369 t370) else (laws_FnFamilies.j0 k t340 t345 t373 true t341 t342 t353 t354 t369 t370)))) else (laws_FnFamilies.j0 k t340 t345 t373 true t341 t342 t353 t354 t369 t370)) = some r := H
          have A73 := Aside0.mk A730
          clear A730
          by_cases c74 : t382 = true
          · subst c74
            have H1 : (if (t373 != t379) = true then (laws_FnFamilies.j0 k t340 t345 t373 true t341 t342 t353 t354 t369 t370) else ((laws_vNet.f k t369 t370 t375 t376).bind fun t383 => (if t383 = true then (laws_FnFamilies.j0 k t340 t345 t373 (t345 != t357) t341 t342 t353 t354 t369 t370) else (laws_FnFamilies.j0 k t340 t345 t373 true t341 t342 t353 t354 t369 t370)))) = some r := by rw [if_pos rfl] at H; exact H
            clear H
            have H := H1
            clear H1
            by_cases c75 : (t373 != t379) = true
            · rw [if_pos c75] at H
              have c75b0 : (t373 != t379) = true := c75
              (try (have c75b1 : decide (t373 = t379) = false := by simpa using c75))
              (try (have c75b2 : (t373 == t379) = false := by simpa using c75))
              (try (have c75b3 : ¬ (t373 = t379) := by simpa using c75))
              clear c75
              have H' := Aside0.mk H
              clear H
              have hnb76 := NB346_352.out
              have hnc76 := NB352_346.out
              have hnb77 := NB346_358.out
              have hnc77 := NB358_346.out
              have hnb78 := NB346_364.out
              have hnc78 := NB364_346.out
              have hnb79 := NB346_374.out
              have hnc79 := NB374_346.out
              have hnb80 := NB346_380.out
              have hnc80 := NB380_346.out
              have hcz81_0 : w49.cell? ⟨gb346, 0, none⟩ = some (.int .i64 t341) := (blk_cell BK346.out 0).trans rfl
              have hcz81_1 : w49.cell? ⟨gb346, 1, none⟩ = some (.slice Ao18 t342.length co18) := (blk_cell BK346.out 1).trans rfl
              have hfz81_0 := blk_frozen BK346.out 0
              have hfz81_1 := blk_frozen BK346.out 1
              have hnb82 := NB352_358.out
              have hnc82 := NB358_352.out
              have hnb83 := NB352_364.out
              have hnc83 := NB364_352.out
              have hnb84 := NB352_374.out
              have hnc84 := NB374_352.out
              have hnb85 := NB352_380.out
              have hnc85 := NB380_352.out
              have hcz86_0 : w49.cell? ⟨gb352, 0, none⟩ = some (.int .i64 t347) := (blk_cell BK352.out 0).trans rfl
              have hcz86_1 : w49.cell? ⟨gb352, 1, none⟩ = some (.slice Ao23 t348.length co23) := (blk_cell BK352.out 1).trans rfl
              have hfz86_0 := blk_frozen BK352.out 0
              have hfz86_1 := blk_frozen BK352.out 1
              go_wp2_with (first | (go_at_call 14; (with_reducible refine (laws_vNet.calls k t341 _ _ t342 t347 _ _ t348 true _ ?side1 ?side2 ?side3 ?side4 A58.out).mono ?_); (case side1 => refine (Kd.N_reads' (e := 43) (base := w.heap.size) (ok := fun k_ => ((((((((((((True ∧ k_ ≠ gb346) ∧ some k_ ≠ (.slice Ao23 t348.length co23 : Value).ownBlock) ∧ k_ ≠ gb352) ∧ some k_ ≠ (.slice Ao29 t354.length co29 : Value).ownBlock) ∧ k_ ≠ gb358) ∧ some k_ ≠ (.slice Ao36 t360.length co36 : Value).ownBlock) ∧ k_ ≠ gb364) ∧ some k_ ≠ (.slice Ao38 t365.length co38 : Value).ownBlock) ∧ some k_ ≠ (.slice Ao47 t370.length co47 : Value).ownBlock) ∧ k_ ≠ gb374) ∧ some k_ ≠ (.slice Ao56 t376.length co56 : Value).ownBlock) ∧ k_ ≠ gb380)) (n := t342.length) (c := co18) ?_).2.2; exact (vN HO344 gb380 (.int .i64 t375) (.slice Ao56 t376.length co56))); (case side2 => exact (Kd.N_reads' HO344.out).2.1); (case side3 => refine (Kd.N_reads' (e := 43) (base := w.heap.size) (ok := fun k_ => (((((((((((some k_ ≠ (.slice Ao18 t342.length co18 : Value).ownBlock ∧ k_ ≠ gb346) ∧ k_ ≠ gb352) ∧ some k_ ≠ (.slice Ao29 t354.length co29 : Value).ownBlock) ∧ k_ ≠ gb358) ∧ some k_ ≠ (.slice Ao36 t360.length co36 : Value).ownBlock) ∧ k_ ≠ gb364) ∧ some k_ ≠ (.slice Ao38 t365.length co38 : Value).ownBlock) ∧ some k_ ≠ (.slice Ao47 t370.length co47 : Value).ownBlock) ∧ k_ ≠ gb374) ∧ some k_ ≠ (.slice Ao56 t376.length co56 : Value).ownBlock) ∧ k_ ≠ gb380)) (n := t348.length) (c := co23) ?_).2.2; exact (vN HO350 gb380 (.int .i64 t375) (.slice Ao56 t376.length co56))); (case side4 => exact (Kd.N_reads' HO350.out).2.1); rintro e w87 ⟨rfl, hb⟩; have n0_ := Aside0.mk (Kd.N_below (vN HO344 gb380 (.int .i64 t375) (.slice Ao56 t376.length co56)) hb); have n1_ := Aside0.mk (Kd.N_below (vN HO350 gb380 (.int .i64 t375) (.slice Ao56 t376.length co56)) hb); have n2_ := Aside0.mk (Kd.N_below (vN HO356 gb380 (.int .i64 t375) (.slice Ao56 t376.length co56)) hb); have n3_ := Aside0.mk (Kd.N_below (vN HO362 gb380 (.int .i64 t375) (.slice Ao56 t376.length co56)) hb); have n4_ := Aside0.mk (Kd.R_below (sR HO367 BK380 gb380 (.int .i64 t375) (.slice Ao56 t376.length co56)) hb); have n5_ := Aside0.mk (Kd.N_below (vN HO372 gb380 (.int .i64 t375) (.slice Ao56 t376.length co56)) hb); have n6_ := Aside0.mk (Kd.N_below (vN HO378 gb380 (.int .i64 t375) (.slice Ao56 t376.length co56)) hb); have n7_ := Aside0.mk (g2 BK346 NB346_380 NB346_380 hb); have n8_ := Aside0.mk (g2 BK352 NB352_380 NB352_380 hb); have n9_ := Aside0.mk (g2 BK358 NB358_380 NB358_380 hb); have n10_ := Aside0.mk (g2 BK364 NB364_380 NB364_380 hb); have n11_ := Aside0.mk (g2 BK374 NB374_380 NB374_380 hb); have n12_ := Aside0.mk (blk_below (g := gb380) (o := .cells #[.int .i64 t375, .slice Ao56 t376.length co56] 27 (0, 0)) (by (with_reducible repeat (first | refine blk_drewN ?_ _ | refine blk_drew ?_ | refine blk_alloc ?_ _)); refine blk_put (cs := #[.int .i64 t375, .slice none 0 0]) ?_ 1 _ rfl; (with_reducible repeat (first | refine blk_drewN ?_ _ | refine blk_drew ?_ | refine blk_alloc ?_ _)); refine blk_put (cs := #[.int .i64 0, .slice none 0 0]) ?_ 0 _ rfl; (with_reducible repeat (first | refine blk_drewN ?_ _ | refine blk_drew ?_ | refine blk_alloc ?_ _)); exact BK380.out) hb); have n13_ := Aside0.mk (below_step (b6 HB GE346 GE352 GE358 GE364 GE374 GE380) hb); clear HO344; clear HO350; clear HO356; clear HO362; clear HO367; clear HO372; clear HO378; clear BK346; clear BK352; clear BK358; clear BK364; clear BK374; clear BK380; clear HB; have HO344 := n0_; have HO350 := n1_; have HO356 := n2_; have HO362 := n3_; have HO367 := n4_; have HO372 := n5_; have HO378 := n6_; have BK346 := n7_; have BK352 := n8_; have BK358 := n9_; have BK364 := n10_; have BK374 := n11_; have BK380 := n12_; have HB := n13_; clear n0_ n1_ n2_ n3_ n4_ n5_ n6_ n7_ n8_ n9_ n10_ n11_ n12_ n13_; (try clear hb); (try clear hb2); (try clear hk); (try clear hi); have hnb88 := NB358_364.out; have hnc88 := NB364_358.out; have hnb89 := NB358_374.out; have hnc89 := NB374_358.out; have hnb90 := NB358_380.out; have hnc90 := NB380_358.out; have hcz91_0 : w87.cell? ⟨gb358, 0, none⟩ = some (.int .i64 t353) := (blk_cell BK358.out 0).trans rfl; have hcz91_1 : w87.cell? ⟨gb358, 1, none⟩ = some (.slice Ao29 t354.length co29) := (blk_cell BK358.out 1).trans rfl; have hfz91_0 := blk_frozen BK358.out 0; have hfz91_1 := blk_frozen BK358.out 1; have hnb92 := NB364_374.out; have hnc92 := NB374_364.out; have hnb93 := NB364_380.out; have hnc93 := NB380_364.out; have hcz94_0 : w87.cell? ⟨gb364, 0, none⟩ = some (.int .i64 t359) := (blk_cell BK364.out 0).trans rfl; have hcz94_1 : w87.cell? ⟨gb364, 1, none⟩ = some (.slice Ao36 t360.length co36) := (blk_cell BK364.out 1).trans rfl; have hfz94_0 := blk_frozen BK364.out 0; have hfz94_1 := blk_frozen BK364.out 1) | (go_at_call 14; (with_reducible refine (laws_vNet.calls k t353 _ _ t354 t359 _ _ t360 true _ ?side1 ?side2 ?side3 ?side4 A73.out).mono ?_); (case side1 => exact cN HO356); (case side2 => exact (Kd.N_reads' HO356.out).2.1); (case side3 => exact cN HO362); (case side4 => exact (Kd.N_reads' HO362.out).2.1); rintro e w95 ⟨rfl, hb⟩; have n0_ := Aside0.mk (Kd.N_below (pN HO344) hb); have n1_ := Aside0.mk (Kd.N_below (pN HO350) hb); have n2_ := Aside0.mk (Kd.N_below (pN HO356) hb); have n3_ := Aside0.mk (Kd.N_below (pN HO362) hb); have n4_ := Aside0.mk (Kd.R_below (pR HO367) hb); have n5_ := Aside0.mk (Kd.N_below (pN HO372) hb); have n6_ := Aside0.mk (Kd.N_below (pN HO378) hb); have n7_ := Aside0.mk (bW BK346 hb); have n8_ := Aside0.mk (bW BK352 hb); have n9_ := Aside0.mk (bW BK358 hb); have n10_ := Aside0.mk (bW BK364 hb); have n11_ := Aside0.mk (bW BK374 hb); have n12_ := Aside0.mk (bW BK380 hb); have n13_ := Aside0.mk (below_step (b6 HB GE346 GE352 GE358 GE364 GE374 GE380) hb); clear HO344; clear HO350; clear HO356; clear HO362; clear HO367; clear HO372; clear HO378; clear BK346; clear BK352; clear BK358; clear BK364; clear BK374; clear BK380; clear HB; have HO344 := n0_; have HO350 := n1_; have HO356 := n2_; have HO362 := n3_; have HO367 := n4_; have HO372 := n5_; have HO378 := n6_; have BK346 := n7_; have BK352 := n8_; have BK358 := n9_; have BK364 := n10_; have BK374 := n11_; have BK380 := n12_; have HB := n13_; clear n0_ n1_ n2_ n3_ n4_ n5_ n6_ n7_ n8_ n9_ n10_ n11_ n12_ n13_; (try clear hb); (try clear hb2); (try clear hk); (try clear hi)))
              go_meet
              case rel => exact ⟨_, (true), rD, H', ⟨by first | omega | exact Nat.le_refl _⟩, ⟨by (with_reducible repeat (first | apply Kd.N_alloc | apply Kd.N_drewN | apply Kd.N_drew)); exact Kd.N_mono HO344.out (fun _ hk => ⟨hk.1.1.1.1.1.1.1.1.1.1.2, ⟨hk.1.1.1.1.1.1.1.1.2, ⟨hk.1.1.1.1.1.1.2, ⟨hk.1.1.1.2, ⟨hk.1.2, ⟨hk.1.1.1.1.1.1.1.1.1.1.1.2, ⟨hk.1.1.1.1.1.1.1.1.1.2, ⟨hk.1.1.1.1.1.1.1.2, ⟨hk.1.1.1.1.1.2, ⟨hk.1.1.2, hk.2⟩⟩⟩⟩⟩⟩⟩⟩⟩⟩)⟩, ⟨by (with_reducible repeat (first | apply Kd.N_alloc | apply Kd.N_drewN | apply Kd.N_drew)); exact Kd.N_mono HO350.out (fun _ hk => ⟨hk.1.1.1.1.1.1.1.1.1.1.1, ⟨hk.1.1.1.1.1.1.1.1.2, ⟨hk.1.1.1.1.1.1.2, ⟨hk.1.1.1.2, ⟨hk.1.2, ⟨hk.1.1.1.1.1.1.1.1.1.1.2, ⟨hk.1.1.1.1.1.1.1.1.1.2, ⟨hk.1.1.1.1.1.1.1.2, ⟨hk.1.1.1.1.1.2, ⟨hk.1.1.2, hk.2⟩⟩⟩⟩⟩⟩⟩⟩⟩⟩)⟩, ⟨by (with_reducible repeat (first | apply Kd.N_alloc | apply Kd.N_drewN | apply Kd.N_drew)); exact Kd.N_mono HO356.out (fun _ hk => ⟨hk.1.1.1.1.1.1.1.1.1, ⟨hk.1.1.1.1.1.1.1.1.2.1, ⟨hk.1.1.1.1.1.1.2, ⟨hk.1.1.1.2, ⟨hk.1.2, ⟨hk.1.1.1.1.1.1.1.1.2.2.1, ⟨hk.1.1.1.1.1.1.1.1.2.2.2, ⟨hk.1.1.1.1.1.1.1.2, ⟨hk.1.1.1.1.1.2, ⟨hk.1.1.2, hk.2⟩⟩⟩⟩⟩⟩⟩⟩⟩⟩)⟩, ⟨by (with_reducible repeat (first | apply Kd.N_alloc | apply Kd.N_drewN | apply Kd.N_drew)); exact Kd.N_mono HO362.out (fun _ hk => ⟨hk.1.1.1.1.1.1.1, ⟨hk.1.1.1.1.1.1.2.1, ⟨hk.1.1.1.1.1.1.2.2.1, ⟨hk.1.1.1.2, ⟨hk.1.2, ⟨hk.1.1.1.1.1.1.2.2.2.1, ⟨hk.1.1.1.1.1.1.2.2.2.2.1, ⟨hk.1.1.1.1.1.1.2.2.2.2.2, ⟨hk.1.1.1.1.1.2, ⟨hk.1.1.2, hk.2⟩⟩⟩⟩⟩⟩⟩⟩⟩⟩)⟩, ⟨by (with_reducible repeat (first | apply Kd.N_alloc | apply Kd.N_drewN | apply Kd.N_drew)); exact Kd.N_mono HO372.out (fun _ hk => ⟨hk.1.1.1.1, ⟨hk.1.1.1.2.1, ⟨hk.1.1.1.2.2.1, ⟨hk.1.1.1.2.2.2.1, ⟨hk.1.2, ⟨hk.1.1.1.2.2.2.2.2.1, ⟨hk.1.1.1.2.2.2.2.2.2.1, ⟨hk.1.1.1.2.2.2.2.2.2.2.1, ⟨hk.1.1.1.2.2.2.2.2.2.2.2, ⟨hk.1.1.2, hk.2⟩⟩⟩⟩⟩⟩⟩⟩⟩⟩)⟩, ⟨by (with_reducible repeat (first | apply Kd.N_alloc | apply Kd.N_drewN | apply Kd.N_drew)); exact Kd.N_mono HO378.out (fun _ hk => ⟨hk.1.1, ⟨hk.1.2.1, ⟨hk.1.2.2.1, ⟨hk.1.2.2.2.1, ⟨hk.1.2.2.2.2.2.1, ⟨hk.1.2.2.2.2.2.2.1, ⟨hk.1.2.2.2.2.2.2.2.1, ⟨hk.1.2.2.2.2.2.2.2.2.1, ⟨hk.1.2.2.2.2.2.2.2.2.2.1, ⟨hk.1.2.2.2.2.2.2.2.2.2.2, hk.2⟩⟩⟩⟩⟩⟩⟩⟩⟩⟩)⟩, ⟨pB BK346⟩, ⟨pB BK352⟩, ⟨pB BK358⟩, ⟨pB BK364⟩, ⟨pB BK374⟩, ⟨pB BK380⟩, ⟨b6 HB GE346 GE352 GE358 GE364 GE374 GE380⟩⟩
            · rw [if_neg c75] at H
              have c75b0 : (t373 != t379) = false := by simpa using c75
              (try (have c75b1 : decide (t373 = t379) = true := by simpa using c75))
              (try (have c75b2 : (t373 == t379) = true := by simpa using c75))
              clear c75
              replace H := Option.bind_eq_some_iff.mp H
              obtain ⟨t383, A960, H⟩ := H
              replace H : (if t383 = true then (laws_FnFamilies.j0 k t340 t345 t373 (t345 != t357) t341 t342 t353 t354 t369 t370) else (laws_FnFamilies.j0 k t340 t345 t373 true t341 t342 t353 t354 t369 t370)) = some r := H
              have A96 := Aside0.mk A960
              clear A960
              by_cases c97 : t383 = true
              · subst c97
                have H1 : (laws_FnFamilies.j0 k t340 t345 t373 (t345 != t357) t341 t342 t353 t354 t369 t370) = some r := by rw [if_pos rfl] at H; exact H
                clear H
                have H := H1
                clear H1
                have H' := Aside0.mk H
                clear H
                have hnb98 := NB346_352.out
                have hnc98 := NB352_346.out
                have hnb99 := NB346_358.out
                have hnc99 := NB358_346.out
                have hnb100 := NB346_364.out
                have hnc100 := NB364_346.out
                have hnb101 := NB346_374.out
                have hnc101 := NB374_346.out
                have hnb102 := NB346_380.out
                have hnc102 := NB380_346.out
                have hcz103_0 : w49.cell? ⟨gb346, 0, none⟩ = some (.int .i64 t341) := (blk_cell BK346.out 0).trans rfl
                have hcz103_1 : w49.cell? ⟨gb346, 1, none⟩ = some (.slice Ao18 t342.length co18) := (blk_cell BK346.out 1).trans rfl
                have hfz103_0 := blk_frozen BK346.out 0
                have hfz103_1 := blk_frozen BK346.out 1
                have hnb104 := NB352_358.out
                have hnc104 := NB358_352.out
                have hnb105 := NB352_364.out
                have hnc105 := NB364_352.out
                have hnb106 := NB352_374.out
                have hnc106 := NB374_352.out
                have hnb107 := NB352_380.out
                have hnc107 := NB380_352.out
                have hcz108_0 : w49.cell? ⟨gb352, 0, none⟩ = some (.int .i64 t347) := (blk_cell BK352.out 0).trans rfl
                have hcz108_1 : w49.cell? ⟨gb352, 1, none⟩ = some (.slice Ao23 t348.length co23) := (blk_cell BK352.out 1).trans rfl
                have hfz108_0 := blk_frozen BK352.out 0
                have hfz108_1 := blk_frozen BK352.out 1
                go_wp2_with (first | (go_at_call 14; (with_reducible refine (laws_vNet.calls k t341 _ _ t342 t347 _ _ t348 true _ ?side1 ?side2 ?side3 ?side4 A58.out).mono ?_); (case side1 => refine (Kd.N_reads' (e := 43) (base := w.heap.size) (ok := fun k_ => ((((((((((((True ∧ k_ ≠ gb346) ∧ some k_ ≠ (.slice Ao23 t348.length co23 : Value).ownBlock) ∧ k_ ≠ gb352) ∧ some k_ ≠ (.slice Ao29 t354.length co29 : Value).ownBlock) ∧ k_ ≠ gb358) ∧ some k_ ≠ (.slice Ao36 t360.length co36 : Value).ownBlock) ∧ k_ ≠ gb364) ∧ some k_ ≠ (.slice Ao38 t365.length co38 : Value).ownBlock) ∧ some k_ ≠ (.slice Ao47 t370.length co47 : Value).ownBlock) ∧ k_ ≠ gb374) ∧ some k_ ≠ (.slice Ao56 t376.length co56 : Value).ownBlock) ∧ k_ ≠ gb380)) (n := t342.length) (c := co18) ?_).2.2; exact (vN HO344 gb380 (.int .i64 t375) (.slice Ao56 t376.length co56))); (case side2 => exact (Kd.N_reads' HO344.out).2.1); (case side3 => refine (Kd.N_reads' (e := 43) (base := w.heap.size) (ok := fun k_ => (((((((((((some k_ ≠ (.slice Ao18 t342.length co18 : Value).ownBlock ∧ k_ ≠ gb346) ∧ k_ ≠ gb352) ∧ some k_ ≠ (.slice Ao29 t354.length co29 : Value).ownBlock) ∧ k_ ≠ gb358) ∧ some k_ ≠ (.slice Ao36 t360.length co36 : Value).ownBlock) ∧ k_ ≠ gb364) ∧ some k_ ≠ (.slice Ao38 t365.length co38 : Value).ownBlock) ∧ some k_ ≠ (.slice Ao47 t370.length co47 : Value).ownBlock) ∧ k_ ≠ gb374) ∧ some k_ ≠ (.slice Ao56 t376.length co56 : Value).ownBlock) ∧ k_ ≠ gb380)) (n := t348.length) (c := co23) ?_).2.2; exact (vN HO350 gb380 (.int .i64 t375) (.slice Ao56 t376.length co56))); (case side4 => exact (Kd.N_reads' HO350.out).2.1); rintro e w109 ⟨rfl, hb⟩; have n0_ := Aside0.mk (Kd.N_below (vN HO344 gb380 (.int .i64 t375) (.slice Ao56 t376.length co56)) hb); have n1_ := Aside0.mk (Kd.N_below (vN HO350 gb380 (.int .i64 t375) (.slice Ao56 t376.length co56)) hb); have n2_ := Aside0.mk (Kd.N_below (vN HO356 gb380 (.int .i64 t375) (.slice Ao56 t376.length co56)) hb); have n3_ := Aside0.mk (Kd.N_below (vN HO362 gb380 (.int .i64 t375) (.slice Ao56 t376.length co56)) hb); have n4_ := Aside0.mk (Kd.R_below (sR HO367 BK380 gb380 (.int .i64 t375) (.slice Ao56 t376.length co56)) hb); have n5_ := Aside0.mk (Kd.N_below (vN HO372 gb380 (.int .i64 t375) (.slice Ao56 t376.length co56)) hb); have n6_ := Aside0.mk (Kd.N_below (vN HO378 gb380 (.int .i64 t375) (.slice Ao56 t376.length co56)) hb); have n7_ := Aside0.mk (g2 BK346 NB346_380 NB346_380 hb); have n8_ := Aside0.mk (g2 BK352 NB352_380 NB352_380 hb); have n9_ := Aside0.mk (g2 BK358 NB358_380 NB358_380 hb); have n10_ := Aside0.mk (g2 BK364 NB364_380 NB364_380 hb); have n11_ := Aside0.mk (g2 BK374 NB374_380 NB374_380 hb); have n12_ := Aside0.mk (blk_below (g := gb380) (o := .cells #[.int .i64 t375, .slice Ao56 t376.length co56] 27 (0, 0)) (by (with_reducible repeat (first | refine blk_drewN ?_ _ | refine blk_drew ?_ | refine blk_alloc ?_ _)); refine blk_put (cs := #[.int .i64 t375, .slice none 0 0]) ?_ 1 _ rfl; (with_reducible repeat (first | refine blk_drewN ?_ _ | refine blk_drew ?_ | refine blk_alloc ?_ _)); refine blk_put (cs := #[.int .i64 0, .slice none 0 0]) ?_ 0 _ rfl; (with_reducible repeat (first | refine blk_drewN ?_ _ | refine blk_drew ?_ | refine blk_alloc ?_ _)); exact BK380.out) hb); have n13_ := Aside0.mk (below_step (b6 HB GE346 GE352 GE358 GE364 GE374 GE380) hb); clear HO344; clear HO350; clear HO356; clear HO362; clear HO367; clear HO372; clear HO378; clear BK346; clear BK352; clear BK358; clear BK364; clear BK374; clear BK380; clear HB; have HO344 := n0_; have HO350 := n1_; have HO356 := n2_; have HO362 := n3_; have HO367 := n4_; have HO372 := n5_; have HO378 := n6_; have BK346 := n7_; have BK352 := n8_; have BK358 := n9_; have BK364 := n10_; have BK374 := n11_; have BK380 := n12_; have HB := n13_; clear n0_ n1_ n2_ n3_ n4_ n5_ n6_ n7_ n8_ n9_ n10_ n11_ n12_ n13_; (try clear hb); (try clear hb2); (try clear hk); (try clear hi); have hnb110 := NB358_364.out; have hnc110 := NB364_358.out; have hnb111 := NB358_374.out; have hnc111 := NB374_358.out; have hnb112 := NB358_380.out; have hnc112 := NB380_358.out; have hcz113_0 : w109.cell? ⟨gb358, 0, none⟩ = some (.int .i64 t353) := (blk_cell BK358.out 0).trans rfl; have hcz113_1 : w109.cell? ⟨gb358, 1, none⟩ = some (.slice Ao29 t354.length co29) := (blk_cell BK358.out 1).trans rfl; have hfz113_0 := blk_frozen BK358.out 0; have hfz113_1 := blk_frozen BK358.out 1; have hnb114 := NB364_374.out; have hnc114 := NB374_364.out; have hnb115 := NB364_380.out; have hnc115 := NB380_364.out; have hcz116_0 : w109.cell? ⟨gb364, 0, none⟩ = some (.int .i64 t359) := (blk_cell BK364.out 0).trans rfl; have hcz116_1 : w109.cell? ⟨gb364, 1, none⟩ = some (.slice Ao36 t360.length co36) := (blk_cell BK364.out 1).trans rfl; have hfz116_0 := blk_frozen BK364.out 0; have hfz116_1 := blk_frozen BK364.out 1) | (go_at_call 14; (with_reducible refine (laws_vNet.calls k t353 _ _ t354 t359 _ _ t360 true _ ?side1 ?side2 ?side3 ?side4 A73.out).mono ?_); (case side1 => exact cN HO356); (case side2 => exact (Kd.N_reads' HO356.out).2.1); (case side3 => exact cN HO362); (case side4 => exact (Kd.N_reads' HO362.out).2.1); rintro e w117 ⟨rfl, hb⟩; have n0_ := Aside0.mk (Kd.N_below (pN HO344) hb); have n1_ := Aside0.mk (Kd.N_below (pN HO350) hb); have n2_ := Aside0.mk (Kd.N_below (pN HO356) hb); have n3_ := Aside0.mk (Kd.N_below (pN HO362) hb); have n4_ := Aside0.mk (Kd.R_below (pR HO367) hb); have n5_ := Aside0.mk (Kd.N_below (pN HO372) hb); have n6_ := Aside0.mk (Kd.N_below (pN HO378) hb); have n7_ := Aside0.mk (bW BK346 hb); have n8_ := Aside0.mk (bW BK352 hb); have n9_ := Aside0.mk (bW BK358 hb); have n10_ := Aside0.mk (bW BK364 hb); have n11_ := Aside0.mk (bW BK374 hb); have n12_ := Aside0.mk (bW BK380 hb); have n13_ := Aside0.mk (below_step (b6 HB GE346 GE352 GE358 GE364 GE374 GE380) hb); clear HO344; clear HO350; clear HO356; clear HO362; clear HO367; clear HO372; clear HO378; clear BK346; clear BK352; clear BK358; clear BK364; clear BK374; clear BK380; clear HB; have HO344 := n0_; have HO350 := n1_; have HO356 := n2_; have HO362 := n3_; have HO367 := n4_; have HO372 := n5_; have HO378 := n6_; have BK346 := n7_; have BK352 := n8_; have BK358 := n9_; have BK364 := n10_; have BK374 := n11_; have BK380 := n12_; have HB := n13_; clear n0_ n1_ n2_ n3_ n4_ n5_ n6_ n7_ n8_ n9_ n10_ n11_ n12_ n13_; (try clear hb); (try clear hb2); (try clear hk); (try clear hi); have hnb118 := NB374_380.out; have hnc118 := NB380_374.out; have hcz119_0 : w117.cell? ⟨gb374, 0, none⟩ = some (.int .i64 t369) := (blk_cell BK374.out 0).trans rfl; have hcz119_1 : w117.cell? ⟨gb374, 1, none⟩ = some (.slice Ao47 t370.length co47) := (blk_cell BK374.out 1).trans rfl; have hfz119_0 := blk_frozen BK374.out 0; have hfz119_1 := blk_frozen BK374.out 1; have hcz120_0 : w117.cell? ⟨gb380, 0, none⟩ = some (.int .i64 t375) := (blk_cell BK380.out 0).trans rfl; have hcz120_1 : w117.cell? ⟨gb380, 1, none⟩ = some (.slice Ao56 t376.length co56) := (blk_cell BK380.out 1).trans rfl; have hfz120_0 := blk_frozen BK380.out 0; have hfz120_1 := blk_frozen BK380.out 1) | (go_at_call 14; (with_reducible refine (laws_vNet.calls k t369 _ _ t370 t375 _ _ t376 true _ ?side1 ?side2 ?side3 ?side4 A96.out).mono ?_); (case side1 => exact cN HO372); (case side2 => exact (Kd.N_reads' HO372.out).2.1); (case side3 => exact cN HO378); (case side4 => exact (Kd.N_reads' HO378.out).2.1); rintro e w121 ⟨rfl, hb⟩; have n0_ := Aside0.mk (Kd.N_below (pN HO344) hb); have n1_ := Aside0.mk (Kd.N_below (pN HO350) hb); have n2_ := Aside0.mk (Kd.N_below (pN HO356) hb); have n3_ := Aside0.mk (Kd.N_below (pN HO362) hb); have n4_ := Aside0.mk (Kd.R_below (pR HO367) hb); have n5_ := Aside0.mk (Kd.N_below (pN HO372) hb); have n6_ := Aside0.mk (Kd.N_below (pN HO378) hb); have n7_ := Aside0.mk (bW BK346 hb); have n8_ := Aside0.mk (bW BK352 hb); have n9_ := Aside0.mk (bW BK358 hb); have n10_ := Aside0.mk (bW BK364 hb); have n11_ := Aside0.mk (bW BK374 hb); have n12_ := Aside0.mk (bW BK380 hb); have n13_ := Aside0.mk (below_step (b6 HB GE346 GE352 GE358 GE364 GE374 GE380) hb); clear HO344; clear HO350; clear HO356; clear HO362; clear HO367; clear HO372; clear HO378; clear BK346; clear BK352; clear BK358; clear BK364; clear BK374; clear BK380; clear HB; have HO344 := n0_; have HO350 := n1_; have HO356 := n2_; have HO362 := n3_; have HO367 := n4_; have HO372 := n5_; have HO378 := n6_; have BK346 := n7_; have BK352 := n8_; have BK358 := n9_; have BK364 := n10_; have BK374 := n11_; have BK380 := n12_; have HB := n13_; clear n0_ n1_ n2_ n3_ n4_ n5_ n6_ n7_ n8_ n9_ n10_ n11_ n12_ n13_; (try clear hb); (try clear hb2); (try clear hk); (try clear hi)))
                go_meet
                case rel => exact ⟨_, ((t345 != t357)), rD, H', ⟨by first | omega | exact Nat.le_refl _⟩, ⟨by (with_reducible repeat (first | apply Kd.N_alloc | apply Kd.N_drewN | apply Kd.N_drew)); exact Kd.N_mono HO344.out (fun _ hk => ⟨hk.1.1.1.1.1.1.1.1.1.1.2, ⟨hk.1.1.1.1.1.1.1.1.2, ⟨hk.1.1.1.1.1.1.2, ⟨hk.1.1.1.2, ⟨hk.1.2, ⟨hk.1.1.1.1.1.1.1.1.1.1.1.2, ⟨hk.1.1.1.1.1.1.1.1.1.2, ⟨hk.1.1.1.1.1.1.1.2, ⟨hk.1.1.1.1.1.2, ⟨hk.1.1.2, hk.2⟩⟩⟩⟩⟩⟩⟩⟩⟩⟩)⟩, ⟨by (with_reducible repeat (first | apply Kd.N_alloc | apply Kd.N_drewN | apply Kd.N_drew)); exact Kd.N_mono HO350.out (fun _ hk => ⟨hk.1.1.1.1.1.1.1.1.1.1.1, ⟨hk.1.1.1.1.1.1.1.1.2, ⟨hk.1.1.1.1.1.1.2, ⟨hk.1.1.1.2, ⟨hk.1.2, ⟨hk.1.1.1.1.1.1.1.1.1.1.2, ⟨hk.1.1.1.1.1.1.1.1.1.2, ⟨hk.1.1.1.1.1.1.1.2, ⟨hk.1.1.1.1.1.2, ⟨hk.1.1.2, hk.2⟩⟩⟩⟩⟩⟩⟩⟩⟩⟩)⟩, ⟨by (with_reducible repeat (first | apply Kd.N_alloc | apply Kd.N_drewN | apply Kd.N_drew)); exact Kd.N_mono HO356.out (fun _ hk => ⟨hk.1.1.1.1.1.1.1.1.1, ⟨hk.1.1.1.1.1.1.1.1.2.1, ⟨hk.1.1.1.1.1.1.2, ⟨hk.1.1.1.2, ⟨hk.1.2, ⟨hk.1.1.1.1.1.1.1.1.2.2.1, ⟨hk.1.1.1.1.1.1.1.1.2.2.2, ⟨hk.1.1.1.1.1.1.1.2, ⟨hk.1.1.1.1.1.2, ⟨hk.1.1.2, hk.2⟩⟩⟩⟩⟩⟩⟩⟩⟩⟩)⟩, ⟨by (with_reducible repeat (first | apply Kd.N_alloc | apply Kd.N_drewN | apply Kd.N_drew)); exact Kd.N_mono HO362.out (fun _ hk => ⟨hk.1.1.1.1.1.1.1, ⟨hk.1.1.1.1.1.1.2.1, ⟨hk.1.1.1.1.1.1.2.2.1, ⟨hk.1.1.1.2, ⟨hk.1.2, ⟨hk.1.1.1.1.1.1.2.2.2.1, ⟨hk.1.1.1.1.1.1.2.2.2.2.1, ⟨hk.1.1.1.1.1.1.2.2.2.2.2, ⟨hk.1.1.1.1.1.2, ⟨hk.1.1.2, hk.2⟩⟩⟩⟩⟩⟩⟩⟩⟩⟩)⟩, ⟨by (with_reducible repeat (first | apply Kd.N_alloc | apply Kd.N_drewN | apply Kd.N_drew)); exact Kd.N_mono HO372.out (fun _ hk => ⟨hk.1.1.1.1, ⟨hk.1.1.1.2.1, ⟨hk.1.1.1.2.2.1, ⟨hk.1.1.1.2.2.2.1, ⟨hk.1.2, ⟨hk.1.1.1.2.2.2.2.2.1, ⟨hk.1.1.1.2.2.2.2.2.2.1, ⟨hk.1.1.1.2.2.2.2.2.2.2.1, ⟨hk.1.1.1.2.2.2.2.2.2.2.2, ⟨hk.1.1.2, hk.2⟩⟩⟩⟩⟩⟩⟩⟩⟩⟩)⟩, ⟨by (with_reducible repeat (first | apply Kd.N_alloc | apply Kd.N_drewN | apply Kd.N_drew)); exact Kd.N_mono HO378.out (fun _ hk => ⟨hk.1.1, ⟨hk.1.2.1, ⟨hk.1.2.2.1, ⟨hk.1.2.2.2.1, ⟨hk.1.2.2.2.2.2.1, ⟨hk.1.2.2.2.2.2.2.1, ⟨hk.1.2.2.2.2.2.2.2.1, ⟨hk.1.2.2.2.2.2.2.2.2.1, ⟨hk.1.2.2.2.2.2.2.2.2.2.1, ⟨hk.1.2.2.2.2.2.2.2.2.2.2, hk.2⟩⟩⟩⟩⟩⟩⟩⟩⟩⟩)⟩, ⟨pB BK346⟩, ⟨pB BK352⟩, ⟨pB BK358⟩, ⟨pB BK364⟩, ⟨pB BK374⟩, ⟨pB BK380⟩, ⟨b6 HB GE346 GE352 GE358 GE364 GE374 GE380⟩⟩
              · replace c97 := Bool.eq_false_iff.mpr c97
                subst c97
                have H1 : (laws_FnFamilies.j0 k t340 t345 t373 true t341 t342 t353 t354 t369 t370) = some r := by rw [if_neg (show ¬ (false = true) by decide)] at H; exact H
                clear H
                have H := H1
                clear H1
                have H' := Aside0.mk H
                clear H
                have hnb122 := NB346_352.out
                have hnc122 := NB352_346.out
                have hnb123 := NB346_358.out
                have hnc123 := NB358_346.out
                have hnb124 := NB346_364.out
                have hnc124 := NB364_346.out
                have hnb125 := NB346_374.out
                have hnc125 := NB374_346.out
                have hnb126 := NB346_380.out
                have hnc126 := NB380_346.out
                have hcz127_0 : w49.cell? ⟨gb346, 0, none⟩ = some (.int .i64 t341) := (blk_cell BK346.out 0).trans rfl
                have hcz127_1 : w49.cell? ⟨gb346, 1, none⟩ = some (.slice Ao18 t342.length co18) := (blk_cell BK346.out 1).trans rfl
                have hfz127_0 := blk_frozen BK346.out 0
                have hfz127_1 := blk_frozen BK346.out 1
                have hnb128 := NB352_358.out
                have hnc128 := NB358_352.out
                have hnb129 := NB352_364.out
                have hnc129 := NB364_352.out
                have hnb130 := NB352_374.out
                have hnc130 := NB374_352.out
                have hnb131 := NB352_380.out
                have hnc131 := NB380_352.out
                have hcz132_0 : w49.cell? ⟨gb352, 0, none⟩ = some (.int .i64 t347) := (blk_cell BK352.out 0).trans rfl
                have hcz132_1 : w49.cell? ⟨gb352, 1, none⟩ = some (.slice Ao23 t348.length co23) := (blk_cell BK352.out 1).trans rfl
                have hfz132_0 := blk_frozen BK352.out 0
                have hfz132_1 := blk_frozen BK352.out 1
                go_wp2_with (first | (go_at_call 14; (with_reducible refine (laws_vNet.calls k t341 _ _ t342 t347 _ _ t348 true _ ?side1 ?side2 ?side3 ?side4 A58.out).mono ?_); (case side1 => refine (Kd.N_reads' (e := 43) (base := w.heap.size) (ok := fun k_ => ((((((((((((True ∧ k_ ≠ gb346) ∧ some k_ ≠ (.slice Ao23 t348.length co23 : Value).ownBlock) ∧ k_ ≠ gb352) ∧ some k_ ≠ (.slice Ao29 t354.length co29 : Value).ownBlock) ∧ k_ ≠ gb358) ∧ some k_ ≠ (.slice Ao36 t360.length co36 : Value).ownBlock) ∧ k_ ≠ gb364) ∧ some k_ ≠ (.slice Ao38 t365.length co38 : Value).ownBlock) ∧ some k_ ≠ (.slice Ao47 t370.length co47 : Value).ownBlock) ∧ k_ ≠ gb374) ∧ some k_ ≠ (.slice Ao56 t376.length co56 : Value).ownBlock) ∧ k_ ≠ gb380)) (n := t342.length) (c := co18) ?_).2.2; exact (vN HO344 gb380 (.int .i64 t375) (.slice Ao56 t376.length co56))); (case side2 => exact (Kd.N_reads' HO344.out).2.1); (case side3 => refine (Kd.N_reads' (e := 43) (base := w.heap.size) (ok := fun k_ => (((((((((((some k_ ≠ (.slice Ao18 t342.length co18 : Value).ownBlock ∧ k_ ≠ gb346) ∧ k_ ≠ gb352) ∧ some k_ ≠ (.slice Ao29 t354.length co29 : Value).ownBlock) ∧ k_ ≠ gb358) ∧ some k_ ≠ (.slice Ao36 t360.length co36 : Value).ownBlock) ∧ k_ ≠ gb364) ∧ some k_ ≠ (.slice Ao38 t365.length co38 : Value).ownBlock) ∧ some k_ ≠ (.slice Ao47 t370.length co47 : Value).ownBlock) ∧ k_ ≠ gb374) ∧ some k_ ≠ (.slice Ao56 t376.length co56 : Value).ownBlock) ∧ k_ ≠ gb380)) (n := t348.length) (c := co23) ?_).2.2; exact (vN HO350 gb380 (.int .i64 t375) (.slice Ao56 t376.length co56))); (case side4 => exact (Kd.N_reads' HO350.out).2.1); rintro e w133 ⟨rfl, hb⟩; have n0_ := Aside0.mk (Kd.N_below (vN HO344 gb380 (.int .i64 t375) (.slice Ao56 t376.length co56)) hb); have n1_ := Aside0.mk (Kd.N_below (vN HO350 gb380 (.int .i64 t375) (.slice Ao56 t376.length co56)) hb); have n2_ := Aside0.mk (Kd.N_below (vN HO356 gb380 (.int .i64 t375) (.slice Ao56 t376.length co56)) hb); have n3_ := Aside0.mk (Kd.N_below (vN HO362 gb380 (.int .i64 t375) (.slice Ao56 t376.length co56)) hb); have n4_ := Aside0.mk (Kd.R_below (sR HO367 BK380 gb380 (.int .i64 t375) (.slice Ao56 t376.length co56)) hb); have n5_ := Aside0.mk (Kd.N_below (vN HO372 gb380 (.int .i64 t375) (.slice Ao56 t376.length co56)) hb); have n6_ := Aside0.mk (Kd.N_below (vN HO378 gb380 (.int .i64 t375) (.slice Ao56 t376.length co56)) hb); have n7_ := Aside0.mk (g2 BK346 NB346_380 NB346_380 hb); have n8_ := Aside0.mk (g2 BK352 NB352_380 NB352_380 hb); have n9_ := Aside0.mk (g2 BK358 NB358_380 NB358_380 hb); have n10_ := Aside0.mk (g2 BK364 NB364_380 NB364_380 hb); have n11_ := Aside0.mk (g2 BK374 NB374_380 NB374_380 hb); have n12_ := Aside0.mk (blk_below (g := gb380) (o := .cells #[.int .i64 t375, .slice Ao56 t376.length co56] 27 (0, 0)) (by (with_reducible repeat (first | refine blk_drewN ?_ _ | refine blk_drew ?_ | refine blk_alloc ?_ _)); refine blk_put (cs := #[.int .i64 t375, .slice none 0 0]) ?_ 1 _ rfl; (with_reducible repeat (first | refine blk_drewN ?_ _ | refine blk_drew ?_ | refine blk_alloc ?_ _)); refine blk_put (cs := #[.int .i64 0, .slice none 0 0]) ?_ 0 _ rfl; (with_reducible repeat (first | refine blk_drewN ?_ _ | refine blk_drew ?_ | refine blk_alloc ?_ _)); exact BK380.out) hb); have n13_ := Aside0.mk (below_step (b6 HB GE346 GE352 GE358 GE364 GE374 GE380) hb); clear HO344; clear HO350; clear HO356; clear HO362; clear HO367; clear HO372; clear HO378; clear BK346; clear BK352; clear BK358; clear BK364; clear BK374; clear BK380; clear HB; have HO344 := n0_; have HO350 := n1_; have HO356 := n2_; have HO362 := n3_; have HO367 := n4_; have HO372 := n5_; have HO378 := n6_; have BK346 := n7_; have BK352 := n8_; have BK358 := n9_; have BK364 := n10_; have BK374 := n11_; have BK380 := n12_; have HB := n13_; clear n0_ n1_ n2_ n3_ n4_ n5_ n6_ n7_ n8_ n9_ n10_ n11_ n12_ n13_; (try clear hb); (try clear hb2); (try clear hk); (try clear hi); have hnb134 := NB358_364.out; have hnc134 := NB364_358.out; have hnb135 := NB358_374.out; have hnc135 := NB374_358.out; have hnb136 := NB358_380.out; have hnc136 := NB380_358.out; have hcz137_0 : w133.cell? ⟨gb358, 0, none⟩ = some (.int .i64 t353) := (blk_cell BK358.out 0).trans rfl; have hcz137_1 : w133.cell? ⟨gb358, 1, none⟩ = some (.slice Ao29 t354.length co29) := (blk_cell BK358.out 1).trans rfl; have hfz137_0 := blk_frozen BK358.out 0; have hfz137_1 := blk_frozen BK358.out 1; have hnb138 := NB364_374.out; have hnc138 := NB374_364.out; have hnb139 := NB364_380.out; have hnc139 := NB380_364.out; have hcz140_0 : w133.cell? ⟨gb364, 0, none⟩ = some (.int .i64 t359) := (blk_cell BK364.out 0).trans rfl; have hcz140_1 : w133.cell? ⟨gb364, 1, none⟩ = some (.slice Ao36 t360.length co36) := (blk_cell BK364.out 1).trans rfl; have hfz140_0 := blk_frozen BK364.out 0; have hfz140_1 := blk_frozen BK364.out 1) | (go_at_call 14; (with_reducible refine (laws_vNet.calls k t353 _ _ t354 t359 _ _ t360 true _ ?side1 ?side2 ?side3 ?side4 A73.out).mono ?_); (case side1 => exact cN HO356); (case side2 => exact (Kd.N_reads' HO356.out).2.1); (case side3 => exact cN HO362); (case side4 => exact (Kd.N_reads' HO362.out).2.1); rintro e w141 ⟨rfl, hb⟩; have n0_ := Aside0.mk (Kd.N_below (pN HO344) hb); have n1_ := Aside0.mk (Kd.N_below (pN HO350) hb); have n2_ := Aside0.mk (Kd.N_below (pN HO356) hb); have n3_ := Aside0.mk (Kd.N_below (pN HO362) hb); have n4_ := Aside0.mk (Kd.R_below (pR HO367) hb); have n5_ := Aside0.mk (Kd.N_below (pN HO372) hb); have n6_ := Aside0.mk (Kd.N_below (pN HO378) hb); have n7_ := Aside0.mk (bW BK346 hb); have n8_ := Aside0.mk (bW BK352 hb); have n9_ := Aside0.mk (bW BK358 hb); have n10_ := Aside0.mk (bW BK364 hb); have n11_ := Aside0.mk (bW BK374 hb); have n12_ := Aside0.mk (bW BK380 hb); have n13_ := Aside0.mk (below_step (b6 HB GE346 GE352 GE358 GE364 GE374 GE380) hb); clear HO344; clear HO350; clear HO356; clear HO362; clear HO367; clear HO372; clear HO378; clear BK346; clear BK352; clear BK358; clear BK364; clear BK374; clear BK380; clear HB; have HO344 := n0_; have HO350 := n1_; have HO356 := n2_; have HO362 := n3_; have HO367 := n4_; have HO372 := n5_; have HO378 := n6_; have BK346 := n7_; have BK352 := n8_; have BK358 := n9_; have BK364 := n10_; have BK374 := n11_; have BK380 := n12_; have HB := n13_; clear n0_ n1_ n2_ n3_ n4_ n5_ n6_ n7_ n8_ n9_ n10_ n11_ n12_ n13_; (try clear hb); (try clear hb2); (try clear hk); (try clear hi); have hnb142 := NB374_380.out; have hnc142 := NB380_374.out; have hcz143_0 : w141.cell? ⟨gb374, 0, none⟩ = some (.int .i64 t369) := (blk_cell BK374.out 0).trans rfl; have hcz143_1 : w141.cell? ⟨gb374, 1, none⟩ = some (.slice Ao47 t370.length co47) := (blk_cell BK374.out 1).trans rfl; have hfz143_0 := blk_frozen BK374.out 0; have hfz143_1 := blk_frozen BK374.out 1; have hcz144_0 : w141.cell? ⟨gb380, 0, none⟩ = some (.int .i64 t375) := (blk_cell BK380.out 0).trans rfl; have hcz144_1 : w141.cell? ⟨gb380, 1, none⟩ = some (.slice Ao56 t376.length co56) := (blk_cell BK380.out 1).trans rfl; have hfz144_0 := blk_frozen BK380.out 0; have hfz144_1 := blk_frozen BK380.out 1) | (go_at_call 14; (with_reducible refine (laws_vNet.calls k t369 _ _ t370 t375 _ _ t376 false _ ?side1 ?side2 ?side3 ?side4 A96.out).mono ?_); (case side1 => exact cN HO372); (case side2 => exact (Kd.N_reads' HO372.out).2.1); (case side3 => exact cN HO378); (case side4 => exact (Kd.N_reads' HO378.out).2.1); rintro e w145 ⟨rfl, hb⟩; have n0_ := Aside0.mk (Kd.N_below (pN HO344) hb); have n1_ := Aside0.mk (Kd.N_below (pN HO350) hb); have n2_ := Aside0.mk (Kd.N_below (pN HO356) hb); have n3_ := Aside0.mk (Kd.N_below (pN HO362) hb); have n4_ := Aside0.mk (Kd.R_below (pR HO367) hb); have n5_ := Aside0.mk (Kd.N_below (pN HO372) hb); have n6_ := Aside0.mk (Kd.N_below (pN HO378) hb); have n7_ := Aside0.mk (bW BK346 hb); have n8_ := Aside0.mk (bW BK352 hb); have n9_ := Aside0.mk (bW BK358 hb); have n10_ := Aside0.mk (bW BK364 hb); have n11_ := Aside0.mk (bW BK374 hb); have n12_ := Aside0.mk (bW BK380 hb); have n13_ := Aside0.mk (below_step (b6 HB GE346 GE352 GE358 GE364 GE374 GE380) hb); clear HO344; clear HO350; clear HO356; clear HO362; clear HO367; clear HO372; clear HO378; clear BK346; clear BK352; clear BK358; clear BK364; clear BK374; clear BK380; clear HB; have HO344 := n0_; have HO350 := n1_; have HO356 := n2_; have HO362 := n3_; have HO367 := n4_; have HO372 := n5_; have HO378 := n6_; have BK346 := n7_; have BK352 := n8_; have BK358 := n9_; have BK364 := n10_; have BK374 := n11_; have BK380 := n12_; have HB := n13_; clear n0_ n1_ n2_ n3_ n4_ n5_ n6_ n7_ n8_ n9_ n10_ n11_ n12_ n13_; (try clear hb); (try clear hb2); (try clear hk); (try clear hi)))
                go_meet
                case rel => exact ⟨_, (true), rD, H', ⟨by first | omega | exact Nat.le_refl _⟩, ⟨by (with_reducible repeat (first | apply Kd.N_alloc | apply Kd.N_drewN | apply Kd.N_drew)); exact Kd.N_mono HO344.out (fun _ hk => ⟨hk.1.1.1.1.1.1.1.1.1.1.2, ⟨hk.1.1.1.1.1.1.1.1.2, ⟨hk.1.1.1.1.1.1.2, ⟨hk.1.1.1.2, ⟨hk.1.2, ⟨hk.1.1.1.1.1.1.1.1.1.1.1.2, ⟨hk.1.1.1.1.1.1.1.1.1.2, ⟨hk.1.1.1.1.1.1.1.2, ⟨hk.1.1.1.1.1.2, ⟨hk.1.1.2, hk.2⟩⟩⟩⟩⟩⟩⟩⟩⟩⟩)⟩, ⟨by (with_reducible repeat (first | apply Kd.N_alloc | apply Kd.N_drewN | apply Kd.N_drew)); exact Kd.N_mono HO350.out (fun _ hk => ⟨hk.1.1.1.1.1.1.1.1.1.1.1, ⟨hk.1.1.1.1.1.1.1.1.2, ⟨hk.1.1.1.1.1.1.2, ⟨hk.1.1.1.2, ⟨hk.1.2, ⟨hk.1.1.1.1.1.1.1.1.1.1.2, ⟨hk.1.1.1.1.1.1.1.1.1.2, ⟨hk.1.1.1.1.1.1.1.2, ⟨hk.1.1.1.1.1.2, ⟨hk.1.1.2, hk.2⟩⟩⟩⟩⟩⟩⟩⟩⟩⟩)⟩, ⟨by (with_reducible repeat (first | apply Kd.N_alloc | apply Kd.N_drewN | apply Kd.N_drew)); exact Kd.N_mono HO356.out (fun _ hk => ⟨hk.1.1.1.1.1.1.1.1.1, ⟨hk.1.1.1.1.1.1.1.1.2.1, ⟨hk.1.1.1.1.1.1.2, ⟨hk.1.1.1.2, ⟨hk.1.2, ⟨hk.1.1.1.1.1.1.1.1.2.2.1, ⟨hk.1.1.1.1.1.1.1.1.2.2.2, ⟨hk.1.1.1.1.1.1.1.2, ⟨hk.1.1.1.1.1.2, ⟨hk.1.1.2, hk.2⟩⟩⟩⟩⟩⟩⟩⟩⟩⟩)⟩, ⟨by (with_reducible repeat (first | apply Kd.N_alloc | apply Kd.N_drewN | apply Kd.N_drew)); exact Kd.N_mono HO362.out (fun _ hk => ⟨hk.1.1.1.1.1.1.1, ⟨hk.1.1.1.1.1.1.2.1, ⟨hk.1.1.1.1.1.1.2.2.1, ⟨hk.1.1.1.2, ⟨hk.1.2, ⟨hk.1.1.1.1.1.1.2.2.2.1, ⟨hk.1.1.1.1.1.1.2.2.2.2.1, ⟨hk.1.1.1.1.1.1.2.2.2.2.2, ⟨hk.1.1.1.1.1.2, ⟨hk.1.1.2, hk.2⟩⟩⟩⟩⟩⟩⟩⟩⟩⟩)⟩, ⟨by (with_reducible repeat (first | apply Kd.N_alloc | apply Kd.N_drewN | apply Kd.N_drew)); exact Kd.N_mono HO372.out (fun _ hk => ⟨hk.1.1.1.1, ⟨hk.1.1.1.2.1, ⟨hk.1.1.1.2.2.1, ⟨hk.1.1.1.2.2.2.1, ⟨hk.1.2, ⟨hk.1.1.1.2.2.2.2.2.1, ⟨hk.1.1.1.2.2.2.2.2.2.1, ⟨hk.1.1.1.2.2.2.2.2.2.2.1, ⟨hk.1.1.1.2.2.2.2.2.2.2.2, ⟨hk.1.1.2, hk.2⟩⟩⟩⟩⟩⟩⟩⟩⟩⟩)⟩, ⟨by (with_reducible repeat (first | apply Kd.N_alloc | apply Kd.N_drewN | apply Kd.N_drew)); exact Kd.N_mono HO378.out (fun _ hk => ⟨hk.1.1, ⟨hk.1.2.1, ⟨hk.1.2.2.1, ⟨hk.1.2.2.2.1, ⟨hk.1.2.2.2.2.2.1, ⟨hk.1.2.2.2.2.2.2.1, ⟨hk.1.2.2.2.2.2.2.2.1, ⟨hk.1.2.2.2.2.2.2.2.2.1, ⟨hk.1.2.2.2.2.2.2.2.2.2.1, ⟨hk.1.2.2.2.2.2.2.2.2.2.2, hk.2⟩⟩⟩⟩⟩⟩⟩⟩⟩⟩)⟩, ⟨pB BK346⟩, ⟨pB BK352⟩, ⟨pB BK358⟩, ⟨pB BK364⟩, ⟨pB BK374⟩, ⟨pB BK380⟩, ⟨b6 HB GE346 GE352 GE358 GE364 GE374 GE380⟩⟩
          · replace c74 := Bool.eq_false_iff.mpr c74
            subst c74
            have H1 : (laws_FnFamilies.j0 k t340 t345 t373 true t341 t342 t353 t354 t369 t370) = some r := by rw [if_neg (show ¬ (false = true) by decide)] at H; exact H
            clear H
            have H := H1
            clear H1
            have H' := Aside0.mk H
            clear H
            have hnb146 := NB346_352.out
            have hnc146 := NB352_346.out
            have hnb147 := NB346_358.out
            have hnc147 := NB358_346.out
            have hnb148 := NB346_364.out
            have hnc148 := NB364_346.out
            have hnb149 := NB346_374.out
            have hnc149 := NB374_346.out
            have hnb150 := NB346_380.out
            have hnc150 := NB380_346.out
            have hcz151_0 : w49.cell? ⟨gb346, 0, none⟩ = some (.int .i64 t341) := (blk_cell BK346.out 0).trans rfl
            have hcz151_1 : w49.cell? ⟨gb346, 1, none⟩ = some (.slice Ao18 t342.length co18) := (blk_cell BK346.out 1).trans rfl
            have hfz151_0 := blk_frozen BK346.out 0
            have hfz151_1 := blk_frozen BK346.out 1
            have hnb152 := NB352_358.out
            have hnc152 := NB358_352.out
            have hnb153 := NB352_364.out
            have hnc153 := NB364_352.out
            have hnb154 := NB352_374.out
            have hnc154 := NB374_352.out
            have hnb155 := NB352_380.out
            have hnc155 := NB380_352.out
            have hcz156_0 : w49.cell? ⟨gb352, 0, none⟩ = some (.int .i64 t347) := (blk_cell BK352.out 0).trans rfl
            have hcz156_1 : w49.cell? ⟨gb352, 1, none⟩ = some (.slice Ao23 t348.length co23) := (blk_cell BK352.out 1).trans rfl
            have hfz156_0 := blk_frozen BK352.out 0
            have hfz156_1 := blk_frozen BK352.out 1
            go_wp2_with (first | (go_at_call 14; (with_reducible refine (laws_vNet.calls k t341 _ _ t342 t347 _ _ t348 true _ ?side1 ?side2 ?side3 ?side4 A58.out).mono ?_); (case side1 => refine (Kd.N_reads' (e := 43) (base := w.heap.size) (ok := fun k_ => ((((((((((((True ∧ k_ ≠ gb346) ∧ some k_ ≠ (.slice Ao23 t348.length co23 : Value).ownBlock) ∧ k_ ≠ gb352) ∧ some k_ ≠ (.slice Ao29 t354.length co29 : Value).ownBlock) ∧ k_ ≠ gb358) ∧ some k_ ≠ (.slice Ao36 t360.length co36 : Value).ownBlock) ∧ k_ ≠ gb364) ∧ some k_ ≠ (.slice Ao38 t365.length co38 : Value).ownBlock) ∧ some k_ ≠ (.slice Ao47 t370.length co47 : Value).ownBlock) ∧ k_ ≠ gb374) ∧ some k_ ≠ (.slice Ao56 t376.length co56 : Value).ownBlock) ∧ k_ ≠ gb380)) (n := t342.length) (c := co18) ?_).2.2; exact (vN HO344 gb380 (.int .i64 t375) (.slice Ao56 t376.length co56))); (case side2 => exact (Kd.N_reads' HO344.out).2.1); (case side3 => refine (Kd.N_reads' (e := 43) (base := w.heap.size) (ok := fun k_ => (((((((((((some k_ ≠ (.slice Ao18 t342.length co18 : Value).ownBlock ∧ k_ ≠ gb346) ∧ k_ ≠ gb352) ∧ some k_ ≠ (.slice Ao29 t354.length co29 : Value).ownBlock) ∧ k_ ≠ gb358) ∧ some k_ ≠ (.slice Ao36 t360.length co36 : Value).ownBlock) ∧ k_ ≠ gb364) ∧ some k_ ≠ (.slice Ao38 t365.length co38 : Value).ownBlock) ∧ some k_ ≠ (.slice Ao47 t370.length co47 : Value).ownBlock) ∧ k_ ≠ gb374) ∧ some k_ ≠ (.slice Ao56 t376.length co56 : Value).ownBlock) ∧ k_ ≠ gb380)) (n := t348.length) (c := co23) ?_).2.2; exact (vN HO350 gb380 (.int .i64 t375) (.slice Ao56 t376.length co56))); (case side4 => exact (Kd.N_reads' HO350.out).2.1); rintro e w157 ⟨rfl, hb⟩; have n0_ := Aside0.mk (Kd.N_below (vN HO344 gb380 (.int .i64 t375) (.slice Ao56 t376.length co56)) hb); have n1_ := Aside0.mk (Kd.N_below (vN HO350 gb380 (.int .i64 t375) (.slice Ao56 t376.length co56)) hb); have n2_ := Aside0.mk (Kd.N_below (vN HO356 gb380 (.int .i64 t375) (.slice Ao56 t376.length co56)) hb); have n3_ := Aside0.mk (Kd.N_below (vN HO362 gb380 (.int .i64 t375) (.slice Ao56 t376.length co56)) hb); have n4_ := Aside0.mk (Kd.R_below (sR HO367 BK380 gb380 (.int .i64 t375) (.slice Ao56 t376.length co56)) hb); have n5_ := Aside0.mk (Kd.N_below (vN HO372 gb380 (.int .i64 t375) (.slice Ao56 t376.length co56)) hb); have n6_ := Aside0.mk (Kd.N_below (vN HO378 gb380 (.int .i64 t375) (.slice Ao56 t376.length co56)) hb); have n7_ := Aside0.mk (g2 BK346 NB346_380 NB346_380 hb); have n8_ := Aside0.mk (g2 BK352 NB352_380 NB352_380 hb); have n9_ := Aside0.mk (g2 BK358 NB358_380 NB358_380 hb); have n10_ := Aside0.mk (g2 BK364 NB364_380 NB364_380 hb); have n11_ := Aside0.mk (g2 BK374 NB374_380 NB374_380 hb); have n12_ := Aside0.mk (blk_below (g := gb380) (o := .cells #[.int .i64 t375, .slice Ao56 t376.length co56] 27 (0, 0)) (by (with_reducible repeat (first | refine blk_drewN ?_ _ | refine blk_drew ?_ | refine blk_alloc ?_ _)); refine blk_put (cs := #[.int .i64 t375, .slice none 0 0]) ?_ 1 _ rfl; (with_reducible repeat (first | refine blk_drewN ?_ _ | refine blk_drew ?_ | refine blk_alloc ?_ _)); refine blk_put (cs := #[.int .i64 0, .slice none 0 0]) ?_ 0 _ rfl; (with_reducible repeat (first | refine blk_drewN ?_ _ | refine blk_drew ?_ | refine blk_alloc ?_ _)); exact BK380.out) hb); have n13_ := Aside0.mk (below_step (b6 HB GE346 GE352 GE358 GE364 GE374 GE380) hb); clear HO344; clear HO350; clear HO356; clear HO362; clear HO367; clear HO372; clear HO378; clear BK346; clear BK352; clear BK358; clear BK364; clear BK374; clear BK380; clear HB; have HO344 := n0_; have HO350 := n1_; have HO356 := n2_; have HO362 := n3_; have HO367 := n4_; have HO372 := n5_; have HO378 := n6_; have BK346 := n7_; have BK352 := n8_; have BK358 := n9_; have BK364 := n10_; have BK374 := n11_; have BK380 := n12_; have HB := n13_; clear n0_ n1_ n2_ n3_ n4_ n5_ n6_ n7_ n8_ n9_ n10_ n11_ n12_ n13_; (try clear hb); (try clear hb2); (try clear hk); (try clear hi); have hnb158 := NB358_364.out; have hnc158 := NB364_358.out; have hnb159 := NB358_374.out; have hnc159 := NB374_358.out; have hnb160 := NB358_380.out; have hnc160 := NB380_358.out; have hcz161_0 : w157.cell? ⟨gb358, 0, none⟩ = some (.int .i64 t353) := (blk_cell BK358.out 0).trans rfl; have hcz161_1 : w157.cell? ⟨gb358, 1, none⟩ = some (.slice Ao29 t354.length co29) := (blk_cell BK358.out 1).trans rfl; have hfz161_0 := blk_frozen BK358.out 0; have hfz161_1 := blk_frozen BK358.out 1; have hnb162 := NB364_374.out; have hnc162 := NB374_364.out; have hnb163 := NB364_380.out; have hnc163 := NB380_364.out; have hcz164_0 : w157.cell? ⟨gb364, 0, none⟩ = some (.int .i64 t359) := (blk_cell BK364.out 0).trans rfl; have hcz164_1 : w157.cell? ⟨gb364, 1, none⟩ = some (.slice Ao36 t360.length co36) := (blk_cell BK364.out 1).trans rfl; have hfz164_0 := blk_frozen BK364.out 0; have hfz164_1 := blk_frozen BK364.out 1) | (go_at_call 14; (with_reducible refine (laws_vNet.calls k t353 _ _ t354 t359 _ _ t360 false _ ?side1 ?side2 ?side3 ?side4 A73.out).mono ?_); (case side1 => exact cN HO356); (case side2 => exact (Kd.N_reads' HO356.out).2.1); (case side3 => exact cN HO362); (case side4 => exact (Kd.N_reads' HO362.out).2.1); rintro e w165 ⟨rfl, hb⟩; have n0_ := Aside0.mk (Kd.N_below (pN HO344) hb); have n1_ := Aside0.mk (Kd.N_below (pN HO350) hb); have n2_ := Aside0.mk (Kd.N_below (pN HO356) hb); have n3_ := Aside0.mk (Kd.N_below (pN HO362) hb); have n4_ := Aside0.mk (Kd.R_below (pR HO367) hb); have n5_ := Aside0.mk (Kd.N_below (pN HO372) hb); have n6_ := Aside0.mk (Kd.N_below (pN HO378) hb); have n7_ := Aside0.mk (bW BK346 hb); have n8_ := Aside0.mk (bW BK352 hb); have n9_ := Aside0.mk (bW BK358 hb); have n10_ := Aside0.mk (bW BK364 hb); have n11_ := Aside0.mk (bW BK374 hb); have n12_ := Aside0.mk (bW BK380 hb); have n13_ := Aside0.mk (below_step (b6 HB GE346 GE352 GE358 GE364 GE374 GE380) hb); clear HO344; clear HO350; clear HO356; clear HO362; clear HO367; clear HO372; clear HO378; clear BK346; clear BK352; clear BK358; clear BK364; clear BK374; clear BK380; clear HB; have HO344 := n0_; have HO350 := n1_; have HO356 := n2_; have HO362 := n3_; have HO367 := n4_; have HO372 := n5_; have HO378 := n6_; have BK346 := n7_; have BK352 := n8_; have BK358 := n9_; have BK364 := n10_; have BK374 := n11_; have BK380 := n12_; have HB := n13_; clear n0_ n1_ n2_ n3_ n4_ n5_ n6_ n7_ n8_ n9_ n10_ n11_ n12_ n13_; (try clear hb); (try clear hb2); (try clear hk); (try clear hi)))
            go_meet
            case rel => exact ⟨_, (true), rD, H', ⟨by first | omega | exact Nat.le_refl _⟩, ⟨by (with_reducible repeat (first | apply Kd.N_alloc | apply Kd.N_drewN | apply Kd.N_drew)); exact Kd.N_mono HO344.out (fun _ hk => ⟨hk.1.1.1.1.1.1.1.1.1.1.2, ⟨hk.1.1.1.1.1.1.1.1.2, ⟨hk.1.1.1.1.1.1.2, ⟨hk.1.1.1.2, ⟨hk.1.2, ⟨hk.1.1.1.1.1.1.1.1.1.1.1.2, ⟨hk.1.1.1.1.1.1.1.1.1.2, ⟨hk.1.1.1.1.1.1.1.2, ⟨hk.1.1.1.1.1.2, ⟨hk.1.1.2, hk.2⟩⟩⟩⟩⟩⟩⟩⟩⟩⟩)⟩, ⟨by (with_reducible repeat (first | apply Kd.N_alloc | apply Kd.N_drewN | apply Kd.N_drew)); exact Kd.N_mono HO350.out (fun _ hk => ⟨hk.1.1.1.1.1.1.1.1.1.1.1, ⟨hk.1.1.1.1.1.1.1.1.2, ⟨hk.1.1.1.1.1.1.2, ⟨hk.1.1.1.2, ⟨hk.1.2, ⟨hk.1.1.1.1.1.1.1.1.1.1.2, ⟨hk.1.1.1.1.1.1.1.1.1.2, ⟨hk.1.1.1.1.1.1.1.2, ⟨hk.1.1.1.1.1.2, ⟨hk.1.1.2, hk.2⟩⟩⟩⟩⟩⟩⟩⟩⟩⟩)⟩, ⟨by (with_reducible repeat (first | apply Kd.N_alloc | apply Kd.N_drewN | apply Kd.N_drew)); exact Kd.N_mono HO356.out (fun _ hk => ⟨hk.1.1.1.1.1.1.1.1.1, ⟨hk.1.1.1.1.1.1.1.1.2.1, ⟨hk.1.1.1.1.1.1.2, ⟨hk.1.1.1.2, ⟨hk.1.2, ⟨hk.1.1.1.1.1.1.1.1.2.2.1, ⟨hk.1.1.1.1.1.1.1.1.2.2.2, ⟨hk.1.1.1.1.1.1.1.2, ⟨hk.1.1.1.1.1.2, ⟨hk.1.1.2, hk.2⟩⟩⟩⟩⟩⟩⟩⟩⟩⟩)⟩, ⟨by (with_reducible repeat (first | apply Kd.N_alloc | apply Kd.N_drewN | apply Kd.N_drew)); exact Kd.N_mono HO362.out (fun _ hk => ⟨hk.1.1.1.1.1.1.1, ⟨hk.1.1.1.1.1.1.2.1, ⟨hk.1.1.1.1.1.1.2.2.1, ⟨hk.1.1.1.2, ⟨hk.1.2, ⟨hk.1.1.1.1.1.1.2.2.2.1, ⟨hk.1.1.1.1.1.1.2.2.2.2.1, ⟨hk.1.1.1.1.1.1.2.2.2.2.2, ⟨hk.1.1.1.1.1.2, ⟨hk.1.1.2, hk.2⟩⟩⟩⟩⟩⟩⟩⟩⟩⟩)⟩, ⟨by (with_reducible repeat (first | apply Kd.N_alloc | apply Kd.N_drewN | apply Kd.N_drew)); exact Kd.N_mono HO372.out (fun _ hk => ⟨hk.1.1.1.1, ⟨hk.1.1.1.2.1, ⟨hk.1.1.1.2.2.1, ⟨hk.1.1.1.2.2.2.1, ⟨hk.1.2, ⟨hk.1.1.1.2.2.2.2.2.1, ⟨hk.1.1.1.2.2.2.2.2.2.1, ⟨hk.1.1.1.2.2.2.2.2.2.2.1, ⟨hk.1.1.1.2.2.2.2.2.2.2.2, ⟨hk.1.1.2, hk.2⟩⟩⟩⟩⟩⟩⟩⟩⟩⟩)⟩, ⟨by (with_reducible repeat (first | apply Kd.N_alloc | apply Kd.N_drewN | apply Kd.N_drew)); exact Kd.N_mono HO378.out (fun _ hk => ⟨hk.1.1, ⟨hk.1.2.1, ⟨hk.1.2.2.1, ⟨hk.1.2.2.2.1, ⟨hk.1.2.2.2.2.2.1, ⟨hk.1.2.2.2.2.2.2.1, ⟨hk.1.2.2.2.2.2.2.2.1, ⟨hk.1.2.2.2.2.2.2.2.2.1, ⟨hk.1.2.2.2.2.2.2.2.2.2.1, ⟨hk.1.2.2.2.2.2.2.2.2.2.2, hk.2⟩⟩⟩⟩⟩⟩⟩⟩⟩⟩)⟩, ⟨pB BK346⟩, ⟨pB BK352⟩, ⟨pB BK358⟩, ⟨pB BK364⟩, ⟨pB BK374⟩, ⟨pB BK380⟩, ⟨b6 HB GE346 GE352 GE358 GE364 GE374 GE380⟩⟩
      · replace c59 := Bool.eq_false_iff.mpr c59
        subst c59
        have H1 : (laws_FnFamilies.j0 k t340 t345 t373 true t341 t342 t353 t354 t369 t370) = some r := by rw [if_neg (show ¬ (false = true) by decide)] at H; exact H
        clear H
        have H := H1
        clear H1
        have H' := Aside0.mk H
        clear H
        have hnb166 := NB346_352.out
        have hnc166 := NB352_346.out
        have hnb167 := NB346_358.out
        have hnc167 := NB358_346.out
        have hnb168 := NB346_364.out
        have hnc168 := NB364_346.out
        have hnb169 := NB346_374.out
        have hnc169 := NB374_346.out
        have hnb170 := NB346_380.out
        have hnc170 := NB380_346.out
        have hcz171_0 : w49.cell? ⟨gb346, 0, none⟩ = some (.int .i64 t341) := (blk_cell BK346.out 0).trans rfl
        have hcz171_1 : w49.cell? ⟨gb346, 1, none⟩ = some (.slice Ao18 t342.length co18) := (blk_cell BK346.out 1).trans rfl
        have hfz171_0 := blk_frozen BK346.out 0
        have hfz171_1 := blk_frozen BK346.out 1
        have hnb172 := NB352_358.out
        have hnc172 := NB358_352.out
        have hnb173 := NB352_364.out
        have hnc173 := NB364_352.out
        have hnb174 := NB352_374.out
        have hnc174 := NB374_352.out
        have hnb175 := NB352_380.out
        have hnc175 := NB380_352.out
        have hcz176_0 : w49.cell? ⟨gb352, 0, none⟩ = some (.int .i64 t347) := (blk_cell BK352.out 0).trans rfl
        have hcz176_1 : w49.cell? ⟨gb352, 1, none⟩ = some (.slice Ao23 t348.length co23) := (blk_cell BK352.out 1).trans rfl
        have hfz176_0 := blk_frozen BK352.out 0
        have hfz176_1 := blk_frozen BK352.out 1
        go_wp2_with (first | (go_at_call 14; (with_reducible refine (laws_vNet.calls k t341 _ _ t342 t347 _ _ t348 false _ ?side1 ?side2 ?side3 ?side4 A58.out).mono ?_); (case side1 => refine (Kd.N_reads' (e := 43) (base := w.heap.size) (ok := fun k_ => ((((((((((((True ∧ k_ ≠ gb346) ∧ some k_ ≠ (.slice Ao23 t348.length co23 : Value).ownBlock) ∧ k_ ≠ gb352) ∧ some k_ ≠ (.slice Ao29 t354.length co29 : Value).ownBlock) ∧ k_ ≠ gb358) ∧ some k_ ≠ (.slice Ao36 t360.length co36 : Value).ownBlock) ∧ k_ ≠ gb364) ∧ some k_ ≠ (.slice Ao38 t365.length co38 : Value).ownBlock) ∧ some k_ ≠ (.slice Ao47 t370.length co47 : Value).ownBlock) ∧ k_ ≠ gb374) ∧ some k_ ≠ (.slice Ao56 t376.length co56 : Value).ownBlock) ∧ k_ ≠ gb380)) (n := t342.length) (c := co18) ?_).2.2; exact (vN HO344 gb380 (.int .i64 t375) (.slice Ao56 t376.length co56))); (case side2 => exact (Kd.N_reads' HO344.out).2.1); (case side3 => refine (Kd.N_reads' (e := 43) (base := w.heap.size) (ok := fun k_ => (((((((((((some k_ ≠ (.slice Ao18 t342.length co18 : Value).ownBlock ∧ k_ ≠ gb346) ∧ k_ ≠ gb352) ∧ some k_ ≠ (.slice Ao29 t354.length co29 : Value).ownBlock) ∧ k_ ≠ gb358) ∧ some k_ ≠ (.slice Ao36 t360.length co36 : Value).ownBlock) ∧ k_ ≠ gb364) ∧ some k_ ≠ (.slice Ao38 t365.length co38 : Value).ownBlock) ∧ some k_ ≠ (.slice Ao47 t370.length co47 : Value).ownBlock) ∧ k_ ≠ gb374) ∧ some k_ ≠ (.slice Ao56 t376.length co56 : Value).ownBlock) ∧ k_ ≠ gb380)) (n := t348.length) (c := co23) ?_).2.2; exact (vN HO350 gb380 (.int .i64 t375) (.slice Ao56 t376.length co56))); (case side4 => exact (Kd.N_reads' HO350.out).2.1); rintro e w177 ⟨rfl, hb⟩; have n0_ := Aside0.mk (Kd.N_below (vN HO344 gb380 (.int .i64 t375) (.slice Ao56 t376.length co56)) hb); have n1_ := Aside0.mk (Kd.N_below (vN HO350 gb380 (.int .i64 t375) (.slice Ao56 t376.length co56)) hb); have n2_ := Aside0.mk (Kd.N_below (vN HO356 gb380 (.int .i64 t375) (.slice Ao56 t376.length co56)) hb); have n3_ := Aside0.mk (Kd.N_below (vN HO362 gb380 (.int .i64 t375) (.slice Ao56 t376.length co56)) hb); have n4_ := Aside0.mk (Kd.R_below (sR HO367 BK380 gb380 (.int .i64 t375) (.slice Ao56 t376.length co56)) hb); have n5_ := Aside0.mk (Kd.N_below (vN HO372 gb380 (.int .i64 t375) (.slice Ao56 t376.length co56)) hb); have n6_ := Aside0.mk (Kd.N_below (vN HO378 gb380 (.int .i64 t375) (.slice Ao56 t376.length co56)) hb); have n7_ := Aside0.mk (g2 BK346 NB346_380 NB346_380 hb); have n8_ := Aside0.mk (g2 BK352 NB352_380 NB352_380 hb); have n9_ := Aside0.mk (g2 BK358 NB358_380 NB358_380 hb); have n10_ := Aside0.mk (g2 BK364 NB364_380 NB364_380 hb); have n11_ := Aside0.mk (g2 BK374 NB374_380 NB374_380 hb); have n12_ := Aside0.mk (blk_below (g := gb380) (o := .cells #[.int .i64 t375, .slice Ao56 t376.length co56] 27 (0, 0)) (by (with_reducible repeat (first | refine blk_drewN ?_ _ | refine blk_drew ?_ | refine blk_alloc ?_ _)); refine blk_put (cs := #[.int .i64 t375, .slice none 0 0]) ?_ 1 _ rfl; (with_reducible repeat (first | refine blk_drewN ?_ _ | refine blk_drew ?_ | refine blk_alloc ?_ _)); refine blk_put (cs := #[.int .i64 0, .slice none 0 0]) ?_ 0 _ rfl; (with_reducible repeat (first | refine blk_drewN ?_ _ | refine blk_drew ?_ | refine blk_alloc ?_ _)); exact BK380.out) hb); have n13_ := Aside0.mk (below_step (b6 HB GE346 GE352 GE358 GE364 GE374 GE380) hb); clear HO344; clear HO350; clear HO356; clear HO362; clear HO367; clear HO372; clear HO378; clear BK346; clear BK352; clear BK358; clear BK364; clear BK374; clear BK380; clear HB; have HO344 := n0_; have HO350 := n1_; have HO356 := n2_; have HO362 := n3_; have HO367 := n4_; have HO372 := n5_; have HO378 := n6_; have BK346 := n7_; have BK352 := n8_; have BK358 := n9_; have BK364 := n10_; have BK374 := n11_; have BK380 := n12_; have HB := n13_; clear n0_ n1_ n2_ n3_ n4_ n5_ n6_ n7_ n8_ n9_ n10_ n11_ n12_ n13_; (try clear hb); (try clear hb2); (try clear hk); (try clear hi)))
        go_meet
        case rel => exact ⟨_, (true), rD, H', ⟨by first | omega | exact Nat.le_refl _⟩, ⟨by (with_reducible repeat (first | apply Kd.N_alloc | apply Kd.N_drewN | apply Kd.N_drew)); exact Kd.N_mono HO344.out (fun _ hk => ⟨hk.1.1.1.1.1.1.1.1.1.1.2, ⟨hk.1.1.1.1.1.1.1.1.2, ⟨hk.1.1.1.1.1.1.2, ⟨hk.1.1.1.2, ⟨hk.1.2, ⟨hk.1.1.1.1.1.1.1.1.1.1.1.2, ⟨hk.1.1.1.1.1.1.1.1.1.2, ⟨hk.1.1.1.1.1.1.1.2, ⟨hk.1.1.1.1.1.2, ⟨hk.1.1.2, hk.2⟩⟩⟩⟩⟩⟩⟩⟩⟩⟩)⟩, ⟨by (with_reducible repeat (first | apply Kd.N_alloc | apply Kd.N_drewN | apply Kd.N_drew)); exact Kd.N_mono HO350.out (fun _ hk => ⟨hk.1.1.1.1.1.1.1.1.1.1.1, ⟨hk.1.1.1.1.1.1.1.1.2, ⟨hk.1.1.1.1.1.1.2, ⟨hk.1.1.1.2, ⟨hk.1.2, ⟨hk.1.1.1.1.1.1.1.1.1.1.2, ⟨hk.1.1.1.1.1.1.1.1.1.2, ⟨hk.1.1.1.1.1.1.1.2, ⟨hk.1.1.1.1.1.2, ⟨hk.1.1.2, hk.2⟩⟩⟩⟩⟩⟩⟩⟩⟩⟩)⟩, ⟨by (with_reducible repeat (first | apply Kd.N_alloc | apply Kd.N_drewN | apply Kd.N_drew)); exact Kd.N_mono HO356.out (fun _ hk => ⟨hk.1.1.1.1.1.1.1.1.1, ⟨hk.1.1.1.1.1.1.1.1.2.1, ⟨hk.1.1.1.1.1.1.2, ⟨hk.1.1.1.2, ⟨hk.1.2, ⟨hk.1.1.1.1.1.1.1.1.2.2.1, ⟨hk.1.1.1.1.1.1.1.1.2.2.2, ⟨hk.1.1.1.1.1.1.1.2, ⟨hk.1.1.1.1.1.2, ⟨hk.1.1.2, hk.2⟩⟩⟩⟩⟩⟩⟩⟩⟩⟩)⟩, ⟨by (with_reducible repeat (first | apply Kd.N_alloc | apply Kd.N_drewN | apply Kd.N_drew)); exact Kd.N_mono HO362.out (fun _ hk => ⟨hk.1.1.1.1.1.1.1, ⟨hk.1.1.1.1.1.1.2.1, ⟨hk.1.1.1.1.1.1.2.2.1, ⟨hk.1.1.1.2, ⟨hk.1.2, ⟨hk.1.1.1.1.1.1.2.2.2.1, ⟨hk.1.1.1.1.1.1.2.2.2.2.1, ⟨hk.1.1.1.1.1.1.2.2.2.2.2, ⟨hk.1.1.1.1.1.2, ⟨hk.1.1.2, hk.2⟩⟩⟩⟩⟩⟩⟩⟩⟩⟩)⟩, ⟨by (with_reducible repeat (first | apply Kd.N_alloc | apply Kd.N_drewN | apply Kd.N_drew)); exact Kd.N_mono HO372.out (fun _ hk => ⟨hk.1.1.1.1, ⟨hk.1.1.1.2.1, ⟨hk.1.1.1.2.2.1, ⟨hk.1.1.1.2.2.2.1, ⟨hk.1.2, ⟨hk.1.1.1.2.2.2.2.2.1, ⟨hk.1.1.1.2.2.2.2.2.2.1, ⟨hk.1.1.1.2.2.2.2.2.2.2.1, ⟨hk.1.1.1.2.2.2.2.2.2.2.2, ⟨hk.1.1.2, hk.2⟩⟩⟩⟩⟩⟩⟩⟩⟩⟩)⟩, ⟨by (with_reducible repeat (first | apply Kd.N_alloc | apply Kd.N_drewN | apply Kd.N_drew)); exact Kd.N_mono HO378.out (fun _ hk => ⟨hk.1.1, ⟨hk.1.2.1, ⟨hk.1.2.2.1, ⟨hk.1.2.2.2.1, ⟨hk.1.2.2.2.2.2.1, ⟨hk.1.2.2.2.2.2.2.1, ⟨hk.1.2.2.2.2.2.2.2.1, ⟨hk.1.2.2.2.2.2.2.2.2.1, ⟨hk.1.2.2.2.2.2.2.2.2.2.1, ⟨hk.1.2.2.2.2.2.2.2.2.2.2, hk.2⟩⟩⟩⟩⟩⟩⟩⟩⟩⟩)⟩, ⟨pB BK346⟩, ⟨pB BK352⟩, ⟨pB BK358⟩, ⟨pB BK364⟩, ⟨pB BK374⟩, ⟨pB BK380⟩, ⟨b6 HB GE346 GE352 GE358 GE364 GE374 GE380⟩⟩
   case rest =>
    clear HC13
    try clear c3
    try clear hcz17_0
    try clear hcz17_1
    try clear hcz22_0
    try clear hcz22_1
    try clear hcz28_0
    try clear hcz28_1
    try clear hcz35_0
    try clear hcz35_1
    try clear hcz46_0
    try clear hcz46_1
    try clear hcz55_0
    try clear hcz55_1
    try clear hfz17_0
    try clear hfz17_1
    try clear hfz22_0
    try clear hfz22_1
    try clear hfz28_0
    try clear hfz28_1
    try clear hfz35_0
    try clear hfz35_1
    try clear hfz46_0
    try clear hfz46_1
    try clear hfz55_0
    try clear hfz55_1
    obtain ⟨kq, x101_12, rfl, HA, HJ12, HO_347001, HO_353001, HO_359001, HO_365001, HO_375001, HO_381001, BK346, BK352, BK358, BK364, BK374, BK380, HB⟩ := hcut
    cases kq with
    | zero => exact absurd HA.out (by simp [laws_FnFamilies.j0])
    | succ kj12 =>
     have H := HA.out
     clear HA
     simp only [laws_FnFamilies.j0] at H
     by_cases c178 : x101_12 = true
     · subst c178
       have H1 : (some false) = some r := by rw [if_pos rfl] at H; exact H
       clear H
       have H := H1
       clear H1
       obtain rfl := Option.some.inj H
       go_wp2
       go_ret
       exact ⟨eW, b6 HB GE346 GE352 GE358 GE364 GE374 GE380⟩
     · replace c178 := Bool.eq_false_iff.mpr c178
       subst c178
       have H1 : (if t373 = true then ((impl_NetTables.f kj12 t369 t370).bind fun bt384 => (laws_FnFamilies.l0 kj12 t340 t345 bt384.1 bt384.2 0 t341 t342 t353 t354)) else (laws_FnFamilies.j3 kj12 t340 t345 t341 t342 t353 t354)) = some r := by rw [if_neg (show ¬ (false = true) by decide)] at H; exact H
       clear H
       have H := H1
       clear H1
       have HC179 := Aside0.mk H
       clear H
       go_upto_if 102 with (fail)
       go_cut [] (fun wc => ∃ (kq : Nat), Aside0 (laws_FnFamilies.j3 kq t340 t345 t341 t342 t353 t354 = some r) ∧ Aside0 (kq ≤ kj12) ∧ Aside0 (Kd.N (Kd.slice 45 k45) 43 wc w.heap.size (fun k_ => some k_ ≠ ((.slice Ao23 t348.length co23) : Value).ownBlock ∧ some k_ ≠ ((.slice Ao29 t354.length co29) : Value).ownBlock ∧ some k_ ≠ ((.slice Ao36 t360.length co36) : Value).ownBlock ∧ some k_ ≠ ((.slice Ao47 t370.length co47) : Value).ownBlock ∧ some k_ ≠ ((.slice Ao56 t376.length co56) : Value).ownBlock ∧ k_ ≠ gb346 ∧ k_ ≠ gb352 ∧ k_ ≠ gb358 ∧ k_ ≠ gb364 ∧ k_ ≠ gb374 ∧ k_ ≠ gb380) (.slice Ao18 t342.length co18) t342) ∧ Aside0 (Kd.N (Kd.slice 45 k45) 43 wc w.heap.size (fun k_ => some k_ ≠ ((.slice Ao18 t342.length co18) : Value).ownBlock ∧ some k_ ≠ ((.slice Ao29 t354.length co29) : Value).ownBlock ∧ some k_ ≠ ((.slice Ao36 t360.length co36) : Value).ownBlock ∧ some k_ ≠ ((.slice Ao47 t370.length co47) : Value).ownBlock ∧ some k_ ≠ ((.slice Ao56 t376.length co56) : Value).ownBlock ∧ k_ ≠ gb346 ∧ k_ ≠ gb352 ∧ k_ ≠ gb358 ∧ k_ ≠ gb364 ∧ k_ ≠ gb374 ∧ k_ ≠ gb380) (.slice Ao23 t348.length co23) t348) ∧ Aside0 (Kd.N (Kd.slice 45 k45) 43 wc w.heap.size (fun k_ => some k_ ≠ ((.slice Ao18 t342.length co18) : Value).ownBlock ∧ some k_ ≠ ((.slice Ao23 t348.length co23) : Value).ownBlock ∧ some k_ ≠ ((.slice Ao36 t360.length co36) : Value).ownBlock ∧ some k_ ≠ ((.slice Ao47 t370.length co47) : Value).ownBlock ∧ some k_ ≠ ((.slice Ao56 t376.length co56) : Value).ownBlock ∧ k_ ≠ gb346 ∧ k_ ≠ gb352 ∧ k_ ≠ gb358 ∧ k_ ≠ gb364 ∧ k_ ≠ gb374 ∧ k_ ≠ gb380) (.slice Ao29 t354.length co29) t354) ∧ Aside0 (Kd.N (Kd.slice 45 k45) 43 wc w.heap.size (fun k_ => some k_ ≠ ((.slice Ao18 t342.length co18) : Value).ownBlock ∧ some k_ ≠ ((.slice Ao23 t348.length co23) : Value).ownBlock ∧ some k_ ≠ ((.slice Ao29 t354.length co29) : Value).ownBlock ∧ some k_ ≠ ((.slice Ao47 t370.length co47) : Value).ownBlock ∧ some k_ ≠ ((.slice Ao56 t376.length co56) : Value).ownBlock ∧ k_ ≠ gb346 ∧ k_ ≠ gb352 ∧ k_ ≠ gb358 ∧ k_ ≠ gb364 ∧ k_ ≠ gb374 ∧ k_ ≠ gb380) (.slice Ao36 t360.length co36) t360) ∧ Aside0 (Kd.N (Kd.slice 45 k45) 43 wc w.heap.size (fun k_ => some k_ ≠ ((.slice Ao18 t342.length co18) : Value).ownBlock ∧ some k_ ≠ ((.slice Ao23 t348.length co23) : Value).ownBlock ∧ some k_ ≠ ((.slice Ao29 t354.length co29) : Value).ownBlock ∧ some k_ ≠ ((.slice Ao36 t360.length co36) : Value).ownBlock ∧ some k_ ≠ ((.slice Ao56 t376.length co56) : Value).ownBlock ∧ k_ ≠ gb346 ∧ k_ ≠ gb352 ∧ k_ ≠ gb358 ∧ k_ ≠ gb364 ∧ k_ ≠ gb374 ∧ k_ ≠ gb380) (.slice Ao47 t370.length co47) t370) ∧ Aside0 (Kd.N (Kd.slice 45 k45) 43 wc w.heap.size (fun k_ => some k_ ≠ ((.slice Ao18 t342.length co18) : Value).ownBlock ∧ some k_ ≠ ((.slice Ao23 t348.length co23) : Value).ownBlock ∧ some k_ ≠ ((.slice Ao29 t354.length co29) : Value).ownBlock ∧ some k_ ≠ ((.slice Ao36 t360.length co36) : Value).ownBlock ∧ some k_ ≠ ((.slice Ao47 t370.length co47) : Value).ownBlock ∧ k_ ≠ gb346 ∧ k_ ≠ gb352 ∧ k_ ≠ gb358 ∧ k_ ≠ gb364 ∧ k_ ≠ gb374 ∧ k_ ≠ gb380) (.slice Ao56 t376.length co56) t376) ∧ Aside0 (wc.heap[gb346]? = some (.cells #[.int .i64 t341, (.slice Ao18 t342.length co18)] 27 (0, 0))) ∧ Aside0 (wc.heap[gb352]? = some (.cells #[.int .i64 t347, (.slice Ao23 t348.length co23)] 27 (0, 0))) ∧ Aside0 (wc.heap[gb358]? = some (.cells #[.int .i64 t353, (.slice Ao29 t354.length co29)] 27 (0, 0))) ∧ Aside0 (wc.heap[gb364]? = some (.cells #[.int .i64 t359, (.slice Ao36 t360.length co36)] 27 (0, 0))) ∧ Aside0 (wc.heap[gb374]? = some (.cells #[.int .i64 t369, (.slice Ao47 t370.length co47)] 27 (0, 0))) ∧ Aside0 (wc.heap[gb380]? = some (.cells #[.int .i64 t375, (.slice Ao56 t376.length co56)] 27 (0, 0))) ∧ Aside0 (Below w.heap.size w wc))
       case first =>
        have H := HC179.out
        clear HC179
        by_cases c180 : t373 = true
        · subst c180
          have H1 : ((impl_NetTables.f kj12 t369 t370).bind fun bt384 => (laws_FnFamilies.l0 kj12 t340 t345 bt384.1 bt384.2 0 t341 t342 t353 t354)) = some r := by rw [if_pos rfl] at H; exact H
          clear H
          have H := H1
          clear H1
          replace H := Option.bind_eq_some_iff.mp H
          obtain ⟨⟨t384, t387⟩, A1810, H⟩ := H
          replace H : (laws_FnFamilies.l0 kj12 t340 t345 t384 t387 0 t341 t342 t353 t354) = some r := H
          have A181 := Aside0.mk A1810
          clear A1810
          have H' := Aside0.mk H
          clear H
          have hnb182 := NB374_346.out
          have hnc182 := NB346_374.out
          have hnb183 := NB374_352.out
          have hnc183 := NB352_374.out
          have hnb184 := NB374_358.out
          have hnc184 := NB358_374.out
          have hnb185 := NB374_364.out
          have hnc185 := NB364_374.out
          have hnb186 := NB374_380.out
          have hnc186 := NB380_374.out
          have hcz187_0 : wc.cell? ⟨gb374, 0, none⟩ = some (.int .i64 t369) := (blk_cell BK374.out 0).trans rfl
          have hcz187_1 : wc.cell? ⟨gb374, 1, none⟩ = some (.slice Ao47 t370.length co47) := (blk_cell BK374.out 1).trans rfl
          have hfz187_0 := blk_frozen BK374.out 0
          have hfz187_1 := blk_frozen BK374.out 1
          go_wp2_with (first | ((with_reducible refine gate_callee (f := 15) rfl ?_); refine goesL_ (some 105) rfl rfl Try.func15 (by kernel_rfl) rfl #[.agg #[.int .i64 t369, .slice Ao47 t370.length co47]] rfl aT ?_; (with_reducible refine (impl_NetTables.calls kj12 t369 _ _ t370 t384 t387 _ ?side1 ?side2 A181.out).mono ?_); (case side1 => exact cN HO_375001); (case side2 => exact (Kd.N_reads' HO_375001.out).2.1); rintro e w188 ⟨v385, rfl, ho0, hb⟩; refine ⟨_, rfl, ?_⟩; have n0_ := Aside0.mk (Kd.N_elder' (pN HO_347001) (Kd.S_base ho0) hb); have n1_ := Aside0.mk (Kd.N_elder' (pN HO_353001) (Kd.S_base ho0) hb); have n2_ := Aside0.mk (Kd.N_elder' (pN HO_359001) (Kd.S_base ho0) hb); have n3_ := Aside0.mk (Kd.N_elder' (pN HO_365001) (Kd.S_base ho0) hb); have n4_ := Aside0.mk (Kd.N_elder' (pN HO_375001) (Kd.S_base ho0) hb); have n5_ := Aside0.mk (Kd.N_elder' (pN HO_381001) (Kd.S_base ho0) hb); have n6_ := Aside0.mk (Kd.N_lower (Kd.N_mono (ok' := fun k_ => some k_ ≠ (.slice Ao18 t342.length co18 : Value).ownBlock ∧ some k_ ≠ (.slice Ao23 t348.length co23 : Value).ownBlock ∧ some k_ ≠ (.slice Ao29 t354.length co29 : Value).ownBlock ∧ some k_ ≠ (.slice Ao36 t360.length co36 : Value).ownBlock ∧ some k_ ≠ (.slice Ao47 t370.length co47 : Value).ownBlock ∧ some k_ ≠ (.slice Ao56 t376.length co56 : Value).ownBlock ∧ k_ ≠ gb346 ∧ k_ ≠ gb352 ∧ k_ ≠ gb358 ∧ k_ ≠ gb364 ∧ k_ ≠ gb374 ∧ k_ ≠ gb380) (Kd.S_N (Kd.S_bound ho0)) (fun k_ hk_ => ⟨(Kd.fresh' (Kd.N_lt (pN HO_347001)) k_ hk_.2.1), (Kd.fresh' (Kd.N_lt (pN HO_353001)) k_ hk_.2.1), (Kd.fresh' (Kd.N_lt (pN HO_359001)) k_ hk_.2.1), (Kd.fresh' (Kd.N_lt (pN HO_365001)) k_ hk_.2.1), (Kd.fresh' (Kd.N_lt (pN HO_375001)) k_ hk_.2.1), (Kd.fresh' (Kd.N_lt (pN HO_381001)) k_ hk_.2.1), (Kd.freshB (g := gb346) (o := .cells #[.int .i64 t341, .slice Ao18 t342.length co18] 27 (0, 0)) (pB BK346) k_ hk_.2.1), (Kd.freshB (g := gb352) (o := .cells #[.int .i64 t347, .slice Ao23 t348.length co23] 27 (0, 0)) (pB BK352) k_ hk_.2.1), (Kd.freshB (g := gb358) (o := .cells #[.int .i64 t353, .slice Ao29 t354.length co29] 27 (0, 0)) (pB BK358) k_ hk_.2.1), (Kd.freshB (g := gb364) (o := .cells #[.int .i64 t359, .slice Ao36 t360.length co36] 27 (0, 0)) (pB BK364) k_ hk_.2.1), (Kd.freshB (g := gb374) (o := .cells #[.int .i64 t369, .slice Ao47 t370.length co47] 27 (0, 0)) (pB BK374) k_ hk_.2.1), (Kd.freshB (g := gb380) (o := .cells #[.int .i64 t375, .slice Ao56 t376.length co56] 27 (0, 0)) (pB BK380) k_ hk_.2.1)⟩)) (below_size (b6 HB GE346 GE352 GE358 GE364 GE374 GE380))); have n7_ := Aside0.mk (bW BK346 hb); have n8_ := Aside0.mk (bW BK352 hb); have n9_ := Aside0.mk (bW BK358 hb); have n10_ := Aside0.mk (bW BK364 hb); have n11_ := Aside0.mk (bW BK374 hb); have n12_ := Aside0.mk (bW BK380 hb); have n13_ := Aside0.mk (below_step (b6 HB GE346 GE352 GE358 GE364 GE374 GE380) hb); clear HO_347001; clear HO_353001; clear HO_359001; clear HO_365001; clear HO_375001; clear HO_381001; clear BK346; clear BK352; clear BK358; clear BK364; clear BK374; clear BK380; clear HB; have HO_347001 := n0_; have HO_353001 := n1_; have HO_359001 := n2_; have HO_365001 := n3_; have HO_375001 := n4_; have HO_381001 := n5_; have HO386 := n6_; have BK346 := n7_; have BK352 := n8_; have BK358 := n9_; have BK364 := n10_; have BK374 := n11_; have BK380 := n12_; have HB := n13_; clear n0_ n1_ n2_ n3_ n4_ n5_ n6_ n7_ n8_ n9_ n10_ n11_ n12_ n13_; (try clear hb); (try clear hb2); (try clear hk); (try clear hi); (try clear ho0)))
          go_loopg [19] kj12 (fun kq v19 w' => ∃ (x19_2 : Int), v19 = .int .i64 x19_2 ∧ Aside0 (laws_FnFamilies.l0 kq t340 t345 t384 t387 x19_2 t341 t342 t353 t354 = some r) ∧ Aside0 (kq ≤ kj12) ∧ Aside0 (Kd.N (Kd.slice 3 (Kd.int .i64)) 35 w' w.heap.size (fun k_ => some k_ ≠ ((.slice Ao18 t342.length co18) : Value).ownBlock ∧ some k_ ≠ ((.slice Ao23 t348.length co23) : Value).ownBlock ∧ some k_ ≠ ((.slice Ao29 t354.length co29) : Value).ownBlock ∧ some k_ ≠ ((.slice Ao36 t360.length co36) : Value).ownBlock ∧ some k_ ≠ ((.slice Ao47 t370.length co47) : Value).ownBlock ∧ some k_ ≠ ((.slice Ao56 t376.length co56) : Value).ownBlock ∧ k_ ≠ gb346 ∧ k_ ≠ gb352 ∧ k_ ≠ gb358 ∧ k_ ≠ gb364 ∧ k_ ≠ gb374 ∧ k_ ≠ gb380) v385 t384) ∧ Aside0 (Kd.N (Kd.slice 45 k45) 43 w' w.heap.size (fun k_ => some k_ ≠ (v385 : Value).ownBlock ∧ some k_ ≠ ((.slice Ao23 t348.length co23) : Value).ownBlock ∧ some k_ ≠ ((.slice Ao29 t354.length co29) : Value).ownBlock ∧ some k_ ≠ ((.slice Ao36 t360.length co36) : Value).ownBlock ∧ some k_ ≠ ((.slice Ao47 t370.length co47) : Value).ownBlock ∧ some k_ ≠ ((.slice Ao56 t376.length co56) : Value).ownBlock ∧ k_ ≠ gb346 ∧ k_ ≠ gb352 ∧ k_ ≠ gb358 ∧ k_ ≠ gb364 ∧ k_ ≠ gb374 ∧ k_ ≠ gb380) (.slice Ao18 t342.length co18) t342) ∧ Aside0 (Kd.N (Kd.slice 45 k45) 43 w' w.heap.size (fun k_ => some k_ ≠ (v385 : Value).ownBlock ∧ some k_ ≠ ((.slice Ao18 t342.length co18) : Value).ownBlock ∧ some k_ ≠ ((.slice Ao29 t354.length co29) : Value).ownBlock ∧ some k_ ≠ ((.slice Ao36 t360.length co36) : Value).ownBlock ∧ some k_ ≠ ((.slice Ao47 t370.length co47) : Value).ownBlock ∧ some k_ ≠ ((.slice Ao56 t376.length co56) : Value).ownBlock ∧ k_ ≠ gb346 ∧ k_ ≠ gb352 ∧ k_ ≠ gb358 ∧ k_ ≠ gb364 ∧ k_ ≠ gb374 ∧ k_ ≠ gb380) (.slice Ao23 t348.length co23) t348) ∧ Aside0 (Kd.N (Kd.slice 45 k45) 43 w' w.heap.size (fun k_ => some k_ ≠ (v385 : Value).ownBlock ∧ some k_ ≠ ((.slice Ao18 t342.length co18) : Value).ownBlock ∧ some k_ ≠ ((.slice Ao23 t348.length co23) : Value).ownBlock ∧ some k_ ≠ ((.slice Ao36 t360.length co36) : Value).ownBlock ∧ some k_ ≠ ((.slice Ao47 t370.length co47) : Value).ownBlock ∧ some k_ ≠ ((.slice Ao56 t376.length co56) : Value).ownBlock ∧ k_ ≠ gb346 ∧ k_ ≠ gb352 ∧ k_ ≠ gb358 ∧ k_ ≠ gb364 ∧ k_ ≠ gb374 ∧ k_ ≠ gb380) (.slice Ao29 t354.length co29) t354) ∧ Aside0 (Kd.N (Kd.slice 45 k45) 43 w' w.heap.size (fun k_ => some k_ ≠ (v385 : Value).ownBlock ∧ some k_ ≠ ((.slice Ao18 t342.length co18) : Value).ownBlock ∧ some k_ ≠ ((.slice Ao23 t348.length co23) : Value).ownBlock ∧ some k_ ≠ ((.slice Ao29 t354.length co29) : Value).ownBlock ∧ some k_ ≠ ((.slice Ao47 t370.length co47) : Value).ownBlock ∧ some k_ ≠ ((.slice Ao56 t376.length co56) : Value).ownBlock ∧ k_ ≠ gb346 ∧ k_ ≠ gb352 ∧ k_ ≠ gb358 ∧ k_ ≠ gb364 ∧ k_ ≠ gb374 ∧ k_ ≠ gb380) (.slice Ao36 t360.length co36) t360) ∧ Aside0 (Kd.N (Kd.slice 45 k45) 43 w' w.heap.size (fun k_ => some k_ ≠ (v385 : Value).ownBlock ∧ some k_ ≠ ((.slice Ao18 t342.length co18) : Value).ownBlock ∧ some k_ ≠ ((.slice Ao23 t348.length co23) : Value).ownBlock ∧ some k_ ≠ ((.slice Ao29 t354.length co29) : Value).ownBlock ∧ some k_ ≠ ((.slice Ao36 t360.length co36) : Value).ownBlock ∧ some k_ ≠ ((.slice Ao56 t376.length co56) : Value).ownBlock ∧ k_ ≠ gb346 ∧ k_ ≠ gb352 ∧ k_ ≠ gb358 ∧ k_ ≠ gb364 ∧ k_ ≠ gb374 ∧ k_ ≠ gb380) (.slice Ao47 t370.length co47) t370) ∧ Aside0 (Kd.N (Kd.slice 45 k45) 43 w' w.heap.size (fun k_ => some k_ ≠ (v385 : Value).ownBlock ∧ some k_ ≠ ((.slice Ao18 t342.length co18) : Value).ownBlock ∧ some k_ ≠ ((.slice Ao23 t348.length co23) : Value).ownBlock ∧ some k_ ≠ ((.slice Ao29 t354.length co29) : Value).ownBlock ∧ some k_ ≠ ((.slice Ao36 t360.length co36) : Value).ownBlock ∧ some k_ ≠ ((.slice Ao47 t370.length co47) : Value).ownBlock ∧ k_ ≠ gb346 ∧ k_ ≠ gb352 ∧ k_ ≠ gb358 ∧ k_ ≠ gb364 ∧ k_ ≠ gb374 ∧ k_ ≠ gb380) (.slice Ao56 t376.length co56) t376) ∧ Aside0 (w'.heap[gb346]? = some (.cells #[.int .i64 t341, (.slice Ao18 t342.length co18)] 27 (0, 0))) ∧ Aside0 (w'.heap[gb352]? = some (.cells #[.int .i64 t347, (.slice Ao23 t348.length co23)] 27 (0, 0))) ∧ Aside0 (w'.heap[gb358]? = some (.cells #[.int .i64 t353, (.slice Ao29 t354.length co29)] 27 (0, 0))) ∧ Aside0 (w'.heap[gb364]? = some (.cells #[.int .i64 t359, (.slice Ao36 t360.length co36)] 27 (0, 0))) ∧ Aside0 (w'.heap[gb374]? = some (.cells #[.int .i64 t369, (.slice Ao47 t370.length co47)] 27 (0, 0))) ∧ Aside0 (w'.heap[gb380]? = some (.cells #[.int .i64 t375, (.slice Ao56 t376.length co56)] 27 (0, 0))) ∧ Aside0 (Below w.heap.size w w'))
          case atStart => exact ⟨(0), rD, H', ⟨Nat.le_refl _⟩, ⟨pN HO386⟩, ⟨by (with_reducible repeat (first | apply Kd.N_alloc | apply Kd.N_drewN | apply Kd.N_drew)); exact Kd.N_mono HO_347001.out (fun _ hk => ⟨hk.2, ⟨hk.1.1, ⟨hk.1.2.1, ⟨hk.1.2.2.1, ⟨hk.1.2.2.2.1, ⟨hk.1.2.2.2.2.1, ⟨hk.1.2.2.2.2.2.1, ⟨hk.1.2.2.2.2.2.2.1, ⟨hk.1.2.2.2.2.2.2.2.1, ⟨hk.1.2.2.2.2.2.2.2.2.1, ⟨hk.1.2.2.2.2.2.2.2.2.2.1, hk.1.2.2.2.2.2.2.2.2.2.2⟩⟩⟩⟩⟩⟩⟩⟩⟩⟩⟩)⟩, ⟨by (with_reducible repeat (first | apply Kd.N_alloc | apply Kd.N_drewN | apply Kd.N_drew)); exact Kd.N_mono HO_353001.out (fun _ hk => ⟨hk.2, ⟨hk.1.1, ⟨hk.1.2.1, ⟨hk.1.2.2.1, ⟨hk.1.2.2.2.1, ⟨hk.1.2.2.2.2.1, ⟨hk.1.2.2.2.2.2.1, ⟨hk.1.2.2.2.2.2.2.1, ⟨hk.1.2.2.2.2.2.2.2.1, ⟨hk.1.2.2.2.2.2.2.2.2.1, ⟨hk.1.2.2.2.2.2.2.2.2.2.1, hk.1.2.2.2.2.2.2.2.2.2.2⟩⟩⟩⟩⟩⟩⟩⟩⟩⟩⟩)⟩, ⟨by (with_reducible repeat (first | apply Kd.N_alloc | apply Kd.N_drewN | apply Kd.N_drew)); exact Kd.N_mono HO_359001.out (fun _ hk => ⟨hk.2, ⟨hk.1.1, ⟨hk.1.2.1, ⟨hk.1.2.2.1, ⟨hk.1.2.2.2.1, ⟨hk.1.2.2.2.2.1, ⟨hk.1.2.2.2.2.2.1, ⟨hk.1.2.2.2.2.2.2.1, ⟨hk.1.2.2.2.2.2.2.2.1, ⟨hk.1.2.2.2.2.2.2.2.2.1, ⟨hk.1.2.2.2.2.2.2.2.2.2.1, hk.1.2.2.2.2.2.2.2.2.2.2⟩⟩⟩⟩⟩⟩⟩⟩⟩⟩⟩)⟩, ⟨by (with_reducible repeat (first | apply Kd.N_alloc | apply Kd.N_drewN | apply Kd.N_drew)); exact Kd.N_mono HO_365001.out (fun _ hk => ⟨hk.2, ⟨hk.1.1, ⟨hk.1.2.1, ⟨hk.1.2.2.1, ⟨hk.1.2.2.2.1, ⟨hk.1.2.2.2.2.1, ⟨hk.1.2.2.2.2.2.1, ⟨hk.1.2.2.2.2.2.2.1, ⟨hk.1.2.2.2.2.2.2.2.1, ⟨hk.1.2.2.2.2.2.2.2.2.1, ⟨hk.1.2.2.2.2.2.2.2.2.2.1, hk.1.2.2.2.2.2.2.2.2.2.2⟩⟩⟩⟩⟩⟩⟩⟩⟩⟩⟩)⟩, ⟨by (with_reducible repeat (first | apply Kd.N_alloc | apply Kd.N_drewN | apply Kd.N_drew)); exact Kd.N_mono HO_375001.out (fun _ hk => ⟨hk.2, ⟨hk.1.1, ⟨hk.1.2.1, ⟨hk.1.2.2.1, ⟨hk.1.2.2.2.1, ⟨hk.1.2.2.2.2.1, ⟨hk.1.2.2.2.2.2.1, ⟨hk.1.2.2.2.2.2.2.1, ⟨hk.1.2.2.2.2.2.2.2.1, ⟨hk.1.2.2.2.2.2.2.2.2.1, ⟨hk.1.2.2.2.2.2.2.2.2.2.1, hk.1.2.2.2.2.2.2.2.2.2.2⟩⟩⟩⟩⟩⟩⟩⟩⟩⟩⟩)⟩, ⟨by (with_reducible repeat (first | apply Kd.N_alloc | apply Kd.N_drewN | apply Kd.N_drew)); exact Kd.N_mono HO_381001.out (fun _ hk => ⟨hk.2, ⟨hk.1.1, ⟨hk.1.2.1, ⟨hk.1.2.2.1, ⟨hk.1.2.2.2.1, ⟨hk.1.2.2.2.2.1, ⟨hk.1.2.2.2.2.2.1, ⟨hk.1.2.2.2.2.2.2.1, ⟨hk.1.2.2.2.2.2.2.2.1, ⟨hk.1.2.2.2.2.2.2.2.2.1, ⟨hk.1.2.2.2.2.2.2.2.2.2.1, hk.1.2.2.2.2.2.2.2.2.2.2⟩⟩⟩⟩⟩⟩⟩⟩⟩⟩⟩)⟩, ⟨pB BK346⟩, ⟨pB BK352⟩, ⟨pB BK358⟩, ⟨pB BK364⟩, ⟨pB BK374⟩, ⟨pB BK380⟩, ⟨b6 HB GE346 GE352 GE358 GE364 GE374 GE380⟩⟩
          case round =>
           clear H'
           try clear c3
           try clear c178
           try clear c180
           try clear hcz17_0
           try clear hcz17_1
           try clear hcz187_0
           try clear hcz187_1
           try clear hcz22_0
           try clear hcz22_1
           try clear hcz28_0
           try clear hcz28_1
           try clear hcz35_0
           try clear hcz35_1
           try clear hcz46_0
           try clear hcz46_1
           try clear hcz55_0
           try clear hcz55_1
           try clear hfz17_0
           try clear hfz17_1
           try clear hfz187_0
           try clear hfz187_1
           try clear hfz22_0
           try clear hfz22_1
           try clear hfz28_0
           try clear hfz28_1
           try clear hfz35_0
           try clear hfz35_1
           try clear hfz46_0
           try clear hfz46_1
           try clear hfz55_0
           try clear hfz55_1
           obtain ⟨x19_2, rfl, HA, HK2, HO_17, HO_347001, HO_353001, HO_359001, HO_365001, HO_375001, HO_381001, BK346, BK352, BK358, BK364, BK374, BK380, HB⟩ := hrel
           cases gk with
           | zero => exact absurd HA.out (by simp [laws_FnFamilies.l0])
           | succ k2 =>
            have H := HA.out
            clear HA
            simp only [laws_FnFamilies.l0] at H
            have HC189 := Aside0.mk H
            clear H
            go_upto_region 16 with (fail)
            go_cut [116] (fun v116 wc => ∃ (kq : Nat) (x116_188 : Bool), v116 = .bool x116_188 ∧ Aside0 (laws_FnFamilies.j2 kq t340 t345 t384 t387 x19_2 x116_188 t341 t342 t353 t354 = some r) ∧ Aside0 (kq ≤ k2) ∧ Aside0 (Kd.N (Kd.slice 3 (Kd.int .i64)) 35 wc w.heap.size (fun k_ => some k_ ≠ ((.slice Ao18 t342.length co18) : Value).ownBlock ∧ some k_ ≠ ((.slice Ao23 t348.length co23) : Value).ownBlock ∧ some k_ ≠ ((.slice Ao29 t354.length co29) : Value).ownBlock ∧ some k_ ≠ ((.slice Ao36 t360.length co36) : Value).ownBlock ∧ some k_ ≠ ((.slice Ao47 t370.length co47) : Value).ownBlock ∧ some k_ ≠ ((.slice Ao56 t376.length co56) : Value).ownBlock ∧ k_ ≠ gb346 ∧ k_ ≠ gb352 ∧ k_ ≠ gb358 ∧ k_ ≠ gb364 ∧ k_ ≠ gb374 ∧ k_ ≠ gb380) v385 t384) ∧ Aside0 (Kd.N (Kd.slice 45 k45) 43 wc w.heap.size (fun k_ => some k_ ≠ (v385 : Value).ownBlock ∧ some k_ ≠ ((.slice Ao23 t348.length co23) : Value).ownBlock ∧ some k_ ≠ ((.slice Ao29 t354.length co29) : Value).ownBlock ∧ some k_ ≠ ((.slice Ao36 t360.length co36) : Value).ownBlock ∧ some k_ ≠ ((.slice Ao47 t370.length co47) : Value).ownBlock ∧ some k_ ≠ ((.slice Ao56 t376.length co56) : Value).ownBlock ∧ k_ ≠ gb346 ∧ k_ ≠ gb352 ∧ k_ ≠ gb358 ∧ k_ ≠ gb364 ∧ k_ ≠ gb374 ∧ k_ ≠ gb380) (.slice Ao18 t342.length co18) t342) ∧ Aside0 (Kd.N (Kd.slice 45 k45) 43 wc w.heap.size (fun k_ => some k_ ≠ (v385 : Value).ownBlock ∧ some k_ ≠ ((.slice Ao18 t342.length co18) : Value).ownBlock ∧ some k_ ≠ ((.slice Ao29 t354.length co29) : Value).ownBlock ∧ some k_ ≠ ((.slice Ao36 t360.length co36) : Value).ownBlock ∧ some k_ ≠ ((.slice Ao47 t370.length co47) : Value).ownBlock ∧ some k_ ≠ ((.slice Ao56 t376.length co56) : Value).ownBlock ∧ k_ ≠ gb346 ∧ k_ ≠ gb352 ∧ k_ ≠ gb358 ∧ k_ ≠ gb364 ∧ k_ ≠ gb374 ∧ k_ ≠ gb380) (.slice Ao23 t348.length co23) t348) ∧ Aside0 (Kd.N (Kd.slice 45 k45) 43 wc w.heap.size (fun k_ => some k_ ≠ (v385 : Value).ownBlock ∧ some k_ ≠ ((.slice Ao18 t342.length co18) : Value).ownBlock ∧ some k_ ≠ ((.slice Ao23 t348.length co23) : Value).ownBlock ∧ some k_ ≠ ((.slice Ao36 t360.length co36) : Value).ownBlock ∧ some k_ ≠ ((.slice Ao47 t370.length co47) : Value).ownBlock ∧ some k_ ≠ ((.slice Ao56 t376.length co56) : Value).ownBlock ∧ k_ ≠ gb346 ∧ k_ ≠ gb352 ∧ k_ ≠ gb358 ∧ k_ ≠ gb364 ∧ k_ ≠ gb374 ∧ k_ ≠ gb380) (.slice Ao29 t354.length co29) t354) ∧ Aside0 (Kd.N (Kd.slice 45 k45) 43 wc w.heap.size (fun k_ => some k_ ≠ (v385 : Value).ownBlock ∧ some k_ ≠ ((.slice Ao18 t342.length co18) : Value).ownBlock ∧ some k_ ≠ ((.slice Ao23 t348.length co23) : Value).ownBlock ∧ some k_ ≠ ((.slice Ao29 t354.length co29) : Value).ownBlock ∧ some k_ ≠ ((.slice Ao47 t370.length co47) : Value).ownBlock ∧ some k_ ≠ ((.slice Ao56 t376.length co56) : Value).ownBlock ∧ k_ ≠ gb346 ∧ k_ ≠ gb352 ∧ k_ ≠ gb358 ∧ k_ ≠ gb364 ∧ k_ ≠ gb374 ∧ k_ ≠ gb380) (.slice Ao36 t360.length co36) t360) ∧ Aside0 (Kd.N (Kd.slice 45 k45) 43 wc w.heap.size (fun k_ => some k_ ≠ (v385 : Value).ownBlock ∧ some k_ ≠ ((.slice Ao18 t342.length co18) : Value).ownBlock ∧ some k_ ≠ ((.slice Ao23 t348.length co23) : Value).ownBlock ∧ some k_ ≠ ((.slice Ao29 t354.length co29) : Value).ownBlock ∧ some k_ ≠ ((.slice Ao36 t360.length co36) : Value).ownBlock ∧ some k_ ≠ ((.slice Ao56 t376.length co56) : Value).ownBlock ∧ k_ ≠ gb346 ∧ k_ ≠ gb352 ∧ k_ ≠ gb358 ∧ k_ ≠ gb364 ∧ k_ ≠ gb374 ∧ k_ ≠ gb380) (.slice Ao47 t370.length co47) t370) ∧ Aside0 (Kd.N (Kd.slice 45 k45) 43 wc w.heap.size (fun k_ => some k_ ≠ (v385 : Value).ownBlock ∧ some k_ ≠ ((.slice Ao18 t342.length co18) : Value).ownBlock ∧ some k_ ≠ ((.slice Ao23 t348.length co23) : Value).ownBlock ∧ some k_ ≠ ((.slice Ao29 t354.length co29) : Value).ownBlock ∧ some k_ ≠ ((.slice Ao36 t360.length co36) : Value).ownBlock ∧ some k_ ≠ ((.slice Ao47 t370.length co47) : Value).ownBlock ∧ k_ ≠ gb346 ∧ k_ ≠ gb352 ∧ k_ ≠ gb358 ∧ k_ ≠ gb364 ∧ k_ ≠ gb374 ∧ k_ ≠ gb380) (.slice Ao56 t376.length co56) t376) ∧ Aside0 (wc.heap[gb346]? = some (.cells #[.int .i64 t341, (.slice Ao18 t342.length co18)] 27 (0, 0))) ∧ Aside0 (wc.heap[gb352]? = some (.cells #[.int .i64 t347, (.slice Ao23 t348.length co23)] 27 (0, 0))) ∧ Aside0 (wc.heap[gb358]? = some (.cells #[.int .i64 t353, (.slice Ao29 t354.length co29)] 27 (0, 0))) ∧ Aside0 (wc.heap[gb364]? = some (.cells #[.int .i64 t359, (.slice Ao36 t360.length co36)] 27 (0, 0))) ∧ Aside0 (wc.heap[gb374]? = some (.cells #[.int .i64 t369, (.slice Ao47 t370.length co47)] 27 (0, 0))) ∧ Aside0 (wc.heap[gb380]? = some (.cells #[.int .i64 t375, (.slice Ao56 t376.length co56)] 27 (0, 0))) ∧ Aside0 (Below w.heap.size w wc))
            case first =>
             have H := HC189.out
             clear HC189
             by_cases c190 : t387 = true
             · subst c190
               have H1 : (if 0 < (t384.length : Int) then (laws_FnFamilies.j2 k2 t340 t345 t384 true x19_2 (decide (x19_2 < ((rd_L3 t384 0).length : Int))) t341 t342 t353 t354) else (none)) = some r := by rw [if_pos rfl] at H; exact H
               clear H
               have H := H1
               clear H1
               by_cases c191 : 0 < (t384.length : Int)
               · rw [if_pos c191] at H
                 have c191b0 : decide (0 < (t384.length : Int)) = true := decide_eq_true c191
                 have c191b1 : decide (0 < t384.length) = true := decide_eq_true (by omega)
                 clear c191
                 (first | rw [c191b0] | (simp only [i64_w, i32_w]; rw [c191b0]) | skip)
                 have H' := Aside0.mk H
                 clear H
                 obtain ⟨Ao192, co192, eo192⟩ := Kd.N_slice HO_17.out
                 subst eo192
                 have p388 : 0 ≤ (0 : Int) := (by omega)
                 have q388 : 0 < (t384.length : Int) := of_decide_eq_true aS
                 obtain ⟨ad388, A388_0, c388_0, e388, hx388_0, hl388_0, hi388_0⟩ := at_L3 (Kd.N_reads' HO_17.out).2.2 0 p388 q388
                 cases e388
                 obtain ⟨ce388, hce388, hMe388, hcc388⟩ := Kd.N_get HO_17.out [] 0 p388 (by first | exact q388 | exact of_decide_eq_true aS | (have e_ := (Kd.N_reads' HO_17.out).1; omega))
                 obtain ⟨ua388_0, uc388_0, rfl, ul388_0, ge388_0⟩ := Kd.FK_slice_open hMe388
                 have hv388_0 := hcc388 0 _ rfl
                 rw [Nat.add_zero, show ((Kd.slice 3 (Kd.int .i64))).sz = 1 from rfl, Nat.mul_one] at hv388_0
                 replace hv388_0 := Option.some.inj (hv388_0.symm.trans hx388_0)
                 injection hv388_0 with hva_ hvn_ hvc_
                 rw [hva_] at ge388_0
                 rw [hvc_] at ul388_0
                 have HL388_0 := Aside0.mk (show Kd.V (Kd.int .i64) 3 _ w.heap.size _ _ (rd_L3 t384 0) from Kd.V_mk ul388_0 ge388_0)
                 clear hva_ hvn_ hvc_ ge388_0 ul388_0
                 clear hcc388 hce388
                 have qi388 : (0 < t384.length) = True := eq_true (by omega)
                 (try rw [show ((0 : Int)).toNat = 0 from rfl] at hx388_0)
                 (try rw [Addr.add_zero'] at hx388_0)
                 have HR388_0 := Aside0.mk hi388_0
                 have HC388_0 := Aside0.mk hl388_0
                 clear hi388_0 hl388_0
                 replace p388 := eq_true p388
                 replace q388 := eq_true q388
                 go_wp2
                 go_meet
                 case rel => exact ⟨_, (decide (x19_2 < ((rd_L3 t384 0).length : Int))), rD, H', ⟨by have := HJ12.out; have := HK2.out; first | omega | exact Nat.le_refl _⟩, ⟨pN HO_17⟩, ⟨pN HO_347001⟩, ⟨pN HO_353001⟩, ⟨pN HO_359001⟩, ⟨pN HO_365001⟩, ⟨pN HO_375001⟩, ⟨pN HO_381001⟩, ⟨pB BK346⟩, ⟨pB BK352⟩, ⟨pB BK358⟩, ⟨pB BK364⟩, ⟨pB BK374⟩, ⟨pB BK380⟩, ⟨b6 HB GE346 GE352 GE358 GE364 GE374 GE380⟩⟩
               · rw [if_neg c191] at H
                 exact absurd H (by simp)
             · replace c190 := Bool.eq_false_iff.mpr c190
               subst c190
               have H1 : (laws_FnFamilies.j2 k2 t340 t345 t384 false x19_2 false t341 t342 t353 t354) = some r := by rw [if_neg (show ¬ (false = true) by decide)] at H; exact H
               clear H
               have H := H1
               clear H1
               have H' := Aside0.mk H
               clear H
               go_wp2
               go_meet
               case rel => exact ⟨_, (false), rD, H', ⟨by have := HJ12.out; have := HK2.out; first | omega | exact Nat.le_refl _⟩, ⟨pN HO_17⟩, ⟨pN HO_347001⟩, ⟨pN HO_353001⟩, ⟨pN HO_359001⟩, ⟨pN HO_365001⟩, ⟨pN HO_375001⟩, ⟨pN HO_381001⟩, ⟨pB BK346⟩, ⟨pB BK352⟩, ⟨pB BK358⟩, ⟨pB BK364⟩, ⟨pB BK374⟩, ⟨pB BK380⟩, ⟨b6 HB GE346 GE352 GE358 GE364 GE374 GE380⟩⟩
            case rest =>
             clear HC189
             try clear c3
             try clear c178
             try clear c180
             try clear hcz17_0
             try clear hcz17_1
             try clear hcz187_0
             try clear hcz187_1
             try clear hcz22_0
             try clear hcz22_1
             try clear hcz28_0
             try clear hcz28_1
             try clear hcz35_0
             try clear hcz35_1
             try clear hcz46_0
             try clear hcz46_1
             try clear hcz55_0
             try clear hcz55_1
             try clear hfz17_0
             try clear hfz17_1
             try clear hfz187_0
             try clear hfz187_1
             try clear hfz22_0
             try clear hfz22_1
             try clear hfz28_0
             try clear hfz28_1
             try clear hfz35_0
             try clear hfz35_1
             try clear hfz46_0
             try clear hfz46_1
             try clear hfz55_0
             try clear hfz55_1
             obtain ⟨kq, x116_188, rfl, HA, HJ188, HO_17, HO_347001, HO_353001, HO_359001, HO_365001, HO_375001, HO_381001, BK346, BK352, BK358, BK364, BK374, BK380, HB⟩ := hcut
             cases kq with
             | zero => exact absurd HA.out (by simp [laws_FnFamilies.j2])
             | succ kj188 =>
              have H := HA.out
              clear HA
              simp only [laws_FnFamilies.j2] at H
              by_cases c193 : x116_188 = true
              · subst c193
                have H1 : (if 0 < (t384.length : Int) then (if 0 ≤ x19_2 then (if x19_2 < ((rd_L3 t384 0).length : Int) then (if (((rd (rd_L3 t384 0) x19_2) == 1) != (decide ((wrap64 ((Go.bits .and .i64 x19_2 1) + (wrap64 ((Go.bits .and .i64 (x19_2 / 4) 1) * 2)))) ≥ (wrap64 ((Go.bits .and .i64 (x19_2 / 2) 1) + (wrap64 ((Go.bits .and .i64 (x19_2 / 8) 1) * 2))))))) = true then (some false) else (laws_FnFamilies.l0 kj188 t340 t345 t384 t387 (wrap64 (x19_2 + 1)) t341 t342 t353 t354)) else (none)) else (none)) else (none)) = some r := by rw [if_pos rfl] at H; exact H
                clear H
                have H := H1
                clear H1
                by_cases c194 : 0 < (t384.length : Int)
                · rw [if_pos c194] at H
                  have c194b0 : decide (0 < (t384.length : Int)) = true := decide_eq_true c194
                  have c194b1 : decide (0 < t384.length) = true := decide_eq_true (by omega)
                  clear c194
                  by_cases c195 : 0 ≤ x19_2
                  · rw [if_pos c195] at H
                    have c195b0 : decide (0 ≤ x19_2) = true := decide_eq_true c195
                    clear c195
                    by_cases c196 : x19_2 < ((rd_L3 t384 0).length : Int)
                    · rw [if_pos c196] at H
                      have c196b0 : decide (x19_2 < ((rd_L3 t384 0).length : Int)) = true := decide_eq_true c196
                      clear c196
                      by_cases c197 : (((rd (rd_L3 t384 0) x19_2) == 1) != (decide ((wrap64 ((Go.bits .and .i64 x19_2 1) + (wrap64 ((Go.bits .and .i64 (x19_2 / 4) 1) * 2)))) ≥ (wrap64 ((Go.bits .and .i64 (x19_2 / 2) 1) + (wrap64 ((Go.bits .and .i64 (x19_2 / 8) 1) * 2))))))) = true
                      · rw [if_pos c197] at H
                        have c197b0 : (((rd (rd_L3 t384 0) x19_2) == 1) != (decide ((wrap64 ((Go.bits .and .i64 x19_2 1) + (wrap64 ((Go.bits .and .i64 (x19_2 / 4) 1) * 2)))) ≥ (wrap64 ((Go.bits .and .i64 (x19_2 / 2) 1) + (wrap64 ((Go.bits .and .i64 (x19_2 / 8) 1) * 2))))))) = true := c197
                        (try (have c197b1 : decide (((rd (rd_L3 t384 0) x19_2) == 1) = (decide ((wrap64 ((Go.bits .and .i64 x19_2 1) + (wrap64 ((Go.bits .and .i64 (x19_2 / 4) 1) * 2)))) ≥ (wrap64 ((Go.bits .and .i64 (x19_2 / 2) 1) + (wrap64 ((Go.bits .and .i64 (x19_2 / 8) 1) * 2))))))) = false := by simpa using c197))
                        (try (have c197b2 : (((rd (rd_L3 t384 0) x19_2) == 1) == (decide ((wrap64 ((Go.bits .and .i64 x19_2 1) + (wrap64 ((Go.bits .and .i64 (x19_2 / 4) 1) * 2)))) ≥ (wrap64 ((Go.bits .and .i64 (x19_2 / 2) 1) + (wrap64 ((Go.bits .and .i64 (x19_2 / 8) 1) * 2))))))) = false := by simpa using c197))
                        (try (have c197b3 : ¬ (((rd (rd_L3 t384 0) x19_2) == 1) = (decide ((wrap64 ((Go.bits .and .i64 x19_2 1) + (wrap64 ((Go.bits .and .i64 (x19_2 / 4) 1) * 2)))) ≥ (wrap64 ((Go.bits .and .i64 (x19_2 / 2) 1) + (wrap64 ((Go.bits .and .i64 (x19_2 / 8) 1) * 2))))))) := by simpa using c197))
                        clear c197
                        obtain rfl := Option.some.inj H
                        obtain ⟨Ao198, co198, eo198⟩ := Kd.N_slice HO_17.out
                        subst eo198
                        have p389 : 0 ≤ (0 : Int) := (by omega)
                        have q389 : 0 < (t384.length : Int) := of_decide_eq_true aS
                        obtain ⟨ad389, A389_0, c389_0, e389, hx389_0, hl389_0, hi389_0⟩ := at_L3 (Kd.N_reads' HO_17.out).2.2 0 p389 q389
                        cases e389
                        obtain ⟨ce389, hce389, hMe389, hcc389⟩ := Kd.N_get HO_17.out [] 0 p389 (by first | exact q389 | exact of_decide_eq_true aS | (have e_ := (Kd.N_reads' HO_17.out).1; omega))
                        obtain ⟨ua389_0, uc389_0, rfl, ul389_0, ge389_0⟩ := Kd.FK_slice_open hMe389
                        have hv389_0 := hcc389 0 _ rfl
                        rw [Nat.add_zero, show ((Kd.slice 3 (Kd.int .i64))).sz = 1 from rfl, Nat.mul_one] at hv389_0
                        replace hv389_0 := Option.some.inj (hv389_0.symm.trans hx389_0)
                        injection hv389_0 with hva_ hvn_ hvc_
                        rw [hva_] at ge389_0
                        rw [hvc_] at ul389_0
                        have HL389_0 := Aside0.mk (show Kd.V (Kd.int .i64) 3 _ w.heap.size _ _ (rd_L3 t384 0) from Kd.V_mk ul389_0 ge389_0)
                        clear hva_ hvn_ hvc_ ge389_0 ul389_0
                        clear hcc389 hce389
                        have qi389 : (0 < t384.length) = True := eq_true (by omega)
                        (try rw [show ((0 : Int)).toNat = 0 from rfl] at hx389_0)
                        (try rw [Addr.add_zero'] at hx389_0)
                        have HR389_0 := Aside0.mk hi389_0
                        have HC389_0 := Aside0.mk hl389_0
                        clear hi389_0 hl389_0
                        replace p389 := eq_true p389
                        replace q389 := eq_true q389
                        have p390 : 0 ≤ (x19_2 : Int) := of_decide_eq_true aS
                        have q390 : x19_2 < ((rd_L3 t384 0).length : Int) := of_decide_eq_true aS
                        obtain ⟨ad390, e390, hx390_0⟩ := Kd.at_int (by repeat (first | (with_reducible exact HR389_0.out) | (with_reducible refine Kd.C_alloc ?_ _) | (with_reducible refine Kd.C_drewN ?_ _) | (with_reducible refine Kd.C_drew ?_) | exact HR389_0.out)) x19_2 p390 q390
                        cases e390
                        replace p390 := eq_true p390
                        replace q390 := eq_true q390
                        go_wp2
                        go_ret
                        exact ⟨eW, b6 HB GE346 GE352 GE358 GE364 GE374 GE380⟩
                      · rw [if_neg c197] at H
                        have c197b0 : (((rd (rd_L3 t384 0) x19_2) == 1) != (decide ((wrap64 ((Go.bits .and .i64 x19_2 1) + (wrap64 ((Go.bits .and .i64 (x19_2 / 4) 1) * 2)))) ≥ (wrap64 ((Go.bits .and .i64 (x19_2 / 2) 1) + (wrap64 ((Go.bits .and .i64 (x19_2 / 8) 1) * 2))))))) = false := by simpa using c197
                        (try (have c197b1 : decide (((rd (rd_L3 t384 0) x19_2) == 1) = (decide ((wrap64 ((Go.bits .and .i64 x19_2 1) + (wrap64 ((Go.bits .and .i64 (x19_2 / 4) 1) * 2)))) ≥ (wrap64 ((Go.bits .and .i64 (x19_2 / 2) 1) + (wrap64 ((Go.bits .and .i64 (x19_2 / 8) 1) * 2))))))) = true := by simpa using c197))
                        (try (have c197b2 : (((rd (rd_L3 t384 0) x19_2) == 1) == (decide ((wrap64 ((Go.bits .and .i64 x19_2 1) + (wrap64 ((Go.bits .and .i64 (x19_2 / 4) 1) * 2)))) ≥ (wrap64 ((Go.bits .and .i64 (x19_2 / 2) 1) + (wrap64 ((Go.bits .and .i64 (x19_2 / 8) 1) * 2))))))) = true := by simpa using c197))
                        clear c197
                        have H' := Aside0.mk H
                        clear H
                        obtain ⟨Ao199, co199, eo199⟩ := Kd.N_slice HO_17.out
                        subst eo199
                        have p389 : 0 ≤ (0 : Int) := (by omega)
                        have q389 : 0 < (t384.length : Int) := of_decide_eq_true aS
                        obtain ⟨ad389, A389_0, c389_0, e389, hx389_0, hl389_0, hi389_0⟩ := at_L3 (Kd.N_reads' HO_17.out).2.2 0 p389 q389
                        cases e389
                        obtain ⟨ce389, hce389, hMe389, hcc389⟩ := Kd.N_get HO_17.out [] 0 p389 (by first | exact q389 | exact of_decide_eq_true aS | (have e_ := (Kd.N_reads' HO_17.out).1; omega))
                        obtain ⟨ua389_0, uc389_0, rfl, ul389_0, ge389_0⟩ := Kd.FK_slice_open hMe389
                        have hv389_0 := hcc389 0 _ rfl
                        rw [Nat.add_zero, show ((Kd.slice 3 (Kd.int .i64))).sz = 1 from rfl, Nat.mul_one] at hv389_0
                        replace hv389_0 := Option.some.inj (hv389_0.symm.trans hx389_0)
                        injection hv389_0 with hva_ hvn_ hvc_
                        rw [hva_] at ge389_0
                        rw [hvc_] at ul389_0
                        have HL389_0 := Aside0.mk (show Kd.V (Kd.int .i64) 3 _ w.heap.size _ _ (rd_L3 t384 0) from Kd.V_mk ul389_0 ge389_0)
                        clear hva_ hvn_ hvc_ ge389_0 ul389_0
                        clear hcc389 hce389
                        have qi389 : (0 < t384.length) = True := eq_true (by omega)
                        (try rw [show ((0 : Int)).toNat = 0 from rfl] at hx389_0)
                        (try rw [Addr.add_zero'] at hx389_0)
                        have HR389_0 := Aside0.mk hi389_0
                        have HC389_0 := Aside0.mk hl389_0
                        clear hi389_0 hl389_0
                        replace p389 := eq_true p389
                        replace q389 := eq_true q389
                        have p390 : 0 ≤ (x19_2 : Int) := of_decide_eq_true aS
                        have q390 : x19_2 < ((rd_L3 t384 0).length : Int) := of_decide_eq_true aS
                        obtain ⟨ad390, e390, hx390_0⟩ := Kd.at_int (by repeat (first | (with_reducible exact HR389_0.out) | (with_reducible refine Kd.C_alloc ?_ _) | (with_reducible refine Kd.C_drewN ?_ _) | (with_reducible refine Kd.C_drew ?_) | exact HR389_0.out)) x19_2 p390 q390
                        cases e390
                        replace p390 := eq_true p390
                        replace q390 := eq_true q390
                        go_wp2
                        go_roundg kj188
                        case measure => have := HJ12.out; have := HK2.out; have := HJ188.out; omega
                        case rel => exact ⟨(wrap64 (x19_2 + 1)), rD, H', ⟨by have := HJ12.out; have := HK2.out; have := HJ188.out; omega⟩, ⟨pN HO_17⟩, ⟨pN HO_347001⟩, ⟨pN HO_353001⟩, ⟨pN HO_359001⟩, ⟨pN HO_365001⟩, ⟨pN HO_375001⟩, ⟨pN HO_381001⟩, ⟨pB BK346⟩, ⟨pB BK352⟩, ⟨pB BK358⟩, ⟨pB BK364⟩, ⟨pB BK374⟩, ⟨pB BK380⟩, ⟨b6 HB GE346 GE352 GE358 GE364 GE374 GE380⟩⟩
                    · rw [if_neg c196] at H
                      exact absurd H (by simp)
                  · rw [if_neg c195] at H
                    exact absurd H (by simp)
                · rw [if_neg c194] at H
                  exact absurd H (by simp)
              · replace c193 := Bool.eq_false_iff.mpr c193
                subst c193
                have H1 : (if t387 = true then (laws_FnFamilies.j3 kj188 t340 t345 t341 t342 t353 t354) else (some false)) = some r := by rw [if_neg (show ¬ (false = true) by decide)] at H; exact H
                clear H
                have H := H1
                clear H1
                by_cases c200 : t387 = true
                · subst c200
                  have H1 : (laws_FnFamilies.j3 kj188 t340 t345 t341 t342 t353 t354) = some r := by rw [if_pos rfl] at H; exact H
                  clear H
                  have H := H1
                  clear H1
                  have H' := Aside0.mk H
                  clear H
                  go_wp2
                  go_meet
                  case rel => exact ⟨_, H', ⟨by have := HJ12.out; have := HK2.out; have := HJ188.out; first | omega | exact Nat.le_refl _⟩, ⟨by (with_reducible repeat (first | apply Kd.N_alloc | apply Kd.N_drewN | apply Kd.N_drew)); exact Kd.N_mono HO_347001.out (fun _ hk => ⟨hk.2.1, ⟨hk.2.2.1, ⟨hk.2.2.2.1, ⟨hk.2.2.2.2.1, ⟨hk.2.2.2.2.2.1, ⟨hk.2.2.2.2.2.2.1, ⟨hk.2.2.2.2.2.2.2.1, ⟨hk.2.2.2.2.2.2.2.2.1, ⟨hk.2.2.2.2.2.2.2.2.2.1, ⟨hk.2.2.2.2.2.2.2.2.2.2.1, hk.2.2.2.2.2.2.2.2.2.2.2⟩⟩⟩⟩⟩⟩⟩⟩⟩⟩)⟩, ⟨by (with_reducible repeat (first | apply Kd.N_alloc | apply Kd.N_drewN | apply Kd.N_drew)); exact Kd.N_mono HO_353001.out (fun _ hk => ⟨hk.2.1, ⟨hk.2.2.1, ⟨hk.2.2.2.1, ⟨hk.2.2.2.2.1, ⟨hk.2.2.2.2.2.1, ⟨hk.2.2.2.2.2.2.1, ⟨hk.2.2.2.2.2.2.2.1, ⟨hk.2.2.2.2.2.2.2.2.1, ⟨hk.2.2.2.2.2.2.2.2.2.1, ⟨hk.2.2.2.2.2.2.2.2.2.2.1, hk.2.2.2.2.2.2.2.2.2.2.2⟩⟩⟩⟩⟩⟩⟩⟩⟩⟩)⟩, ⟨by (with_reducible repeat (first | apply Kd.N_alloc | apply Kd.N_drewN | apply Kd.N_drew)); exact Kd.N_mono HO_359001.out (fun _ hk => ⟨hk.2.1, ⟨hk.2.2.1, ⟨hk.2.2.2.1, ⟨hk.2.2.2.2.1, ⟨hk.2.2.2.2.2.1, ⟨hk.2.2.2.2.2.2.1, ⟨hk.2.2.2.2.2.2.2.1, ⟨hk.2.2.2.2.2.2.2.2.1, ⟨hk.2.2.2.2.2.2.2.2.2.1, ⟨hk.2.2.2.2.2.2.2.2.2.2.1, hk.2.2.2.2.2.2.2.2.2.2.2⟩⟩⟩⟩⟩⟩⟩⟩⟩⟩)⟩, ⟨by (with_reducible repeat (first | apply Kd.N_alloc | apply Kd.N_drewN | apply Kd.N_drew)); exact Kd.N_mono HO_365001.out (fun _ hk => ⟨hk.2.1, ⟨hk.2.2.1, ⟨hk.2.2.2.1, ⟨hk.2.2.2.2.1, ⟨hk.2.2.2.2.2.1, ⟨hk.2.2.2.2.2.2.1, ⟨hk.2.2.2.2.2.2.2.1, ⟨hk.2.2.2.2.2.2.2.2.1, ⟨hk.2.2.2.2.2.2.2.2.2.1, ⟨hk.2.2.2.2.2.2.2.2.2.2.1, hk.2.2.2.2.2.2.2.2.2.2.2⟩⟩⟩⟩⟩⟩⟩⟩⟩⟩)⟩, ⟨by (with_reducible repeat (first | apply Kd.N_alloc | apply Kd.N_drewN | apply Kd.N_drew)); exact Kd.N_mono HO_375001.out (fun _ hk => ⟨hk.2.1, ⟨hk.2.2.1, ⟨hk.2.2.2.1, ⟨hk.2.2.2.2.1, ⟨hk.2.2.2.2.2.1, ⟨hk.2.2.2.2.2.2.1, ⟨hk.2.2.2.2.2.2.2.1, ⟨hk.2.2.2.2.2.2.2.2.1, ⟨hk.2.2.2.2.2.2.2.2.2.1, ⟨hk.2.2.2.2.2.2.2.2.2.2.1, hk.2.2.2.2.2.2.2.2.2.2.2⟩⟩⟩⟩⟩⟩⟩⟩⟩⟩)⟩, ⟨by (with_reducible repeat (first | apply Kd.N_alloc | apply Kd.N_drewN | apply Kd.N_drew)); exact Kd.N_mono HO_381001.out (fun _ hk => ⟨hk.2.1, ⟨hk.2.2.1, ⟨hk.2.2.2.1, ⟨hk.2.2.2.2.1, ⟨hk.2.2.2.2.2.1, ⟨hk.2.2.2.2.2.2.1, ⟨hk.2.2.2.2.2.2.2.1, ⟨hk.2.2.2.2.2.2.2.2.1, ⟨hk.2.2.2.2.2.2.2.2.2.1, ⟨hk.2.2.2.2.2.2.2.2.2.2.1, hk.2.2.2.2.2.2.2.2.2.2.2⟩⟩⟩⟩⟩⟩⟩⟩⟩⟩)⟩, ⟨pB BK346⟩, ⟨pB BK352⟩, ⟨pB BK358⟩, ⟨pB BK364⟩, ⟨pB BK374⟩, ⟨pB BK380⟩, ⟨b6 HB GE346 GE352 GE358 GE364 GE374 GE380⟩⟩
                · replace c200 := Bool.eq_false_iff.mpr c200
                  subst c200
                  have H1 : (some false) = some r := by rw [if_neg (show ¬ (false = true) by decide)] at H; exact H
                  clear H
                  have H := H1
                  clear H1
                  obtain rfl := Option.some.inj H
                  go_wp2
                  go_ret
                  exact ⟨eW, b6 HB GE346 GE352 GE358 GE364 GE374 GE380⟩
        · replace c180 := Bool.eq_false_iff.mpr c180
          subst c180
          have H1 : (laws_FnFamilies.j3 kj12 t340 t345 t341 t342 t353 t354) = some r := by rw [if_neg (show ¬ (false = true) by decide)] at H; exact H
          clear H
          have H := H1
          clear H1
          have H' := Aside0.mk H
          clear H
          go_wp2
          go_meet
          case rel => exact ⟨_, H', ⟨by have := HJ12.out; first | omega | exact Nat.le_refl _⟩, ⟨pN HO_347001⟩, ⟨pN HO_353001⟩, ⟨pN HO_359001⟩, ⟨pN HO_365001⟩, ⟨pN HO_375001⟩, ⟨pN HO_381001⟩, ⟨pB BK346⟩, ⟨pB BK352⟩, ⟨pB BK358⟩, ⟨pB BK364⟩, ⟨pB BK374⟩, ⟨pB BK380⟩, ⟨b6 HB GE346 GE352 GE358 GE364 GE374 GE380⟩⟩
       case rest =>
        clear HC179
        try clear c3
        try clear c178
        try clear hcz17_0
        try clear hcz17_1
        try clear hcz22_0
        try clear hcz22_1
        try clear hcz28_0
        try clear hcz28_1
        try clear hcz35_0
        try clear hcz35_1
        try clear hcz46_0
        try clear hcz46_1
        try clear hcz55_0
        try clear hcz55_1
        try clear hfz17_0
        try clear hfz17_1
        try clear hfz22_0
        try clear hfz22_1
        try clear hfz28_0
        try clear hfz28_1
        try clear hfz35_0
        try clear hfz35_1
        try clear hfz46_0
        try clear hfz46_1
        try clear hfz55_0
        try clear hfz55_1
        obtain ⟨kq, HA, HJ178, HO_347001, HO_353001, HO_359001, HO_365001, HO_375001, HO_381001, BK346, BK352, BK358, BK364, BK374, BK380, HB⟩ := hcut
        cases kq with
        | zero => exact absurd HA.out (by simp [laws_FnFamilies.j3])
        | succ kj178 =>
         have H := HA.out
         clear HA
         simp only [laws_FnFamilies.j3] at H
         by_cases c201 : t345 = true
         · subst c201
           have H1 : ((impl_NetTables.f kj178 t341 t342).bind fun bt391 => ((impl_NetTables.f kj178 t353 t354).bind fun bt395 => (laws_FnFamilies.l1 kj178 t340 bt391.1 bt391.2 bt395.1 bt395.2 0))) = some r := by rw [if_pos rfl] at H; exact H
           clear H
           have H := H1
           clear H1
           replace H := Option.bind_eq_some_iff.mp H
           obtain ⟨⟨t391, t394⟩, A2020, H⟩ := H
           replace H : ((impl_NetTables.f kj178 t353 t354).bind fun bt395 => (laws_FnFamilies.l1 kj178 t340 t391 t394 bt395.1 bt395.2 0)) = some r := H
           have A202 := Aside0.mk A2020
           clear A2020
           replace H := Option.bind_eq_some_iff.mp H
           obtain ⟨⟨t395, t398⟩, A2030, H⟩ := H
           replace H : (laws_FnFamilies.l1 kj178 t340 t391 t394 t395 t398 0) = some r := H
           have A203 := Aside0.mk A2030
           clear A2030
           have H' := Aside0.mk H
           clear H
           have hnb204 := NB346_352.out
           have hnc204 := NB352_346.out
           have hnb205 := NB346_358.out
           have hnc205 := NB358_346.out
           have hnb206 := NB346_364.out
           have hnc206 := NB364_346.out
           have hnb207 := NB346_374.out
           have hnc207 := NB374_346.out
           have hnb208 := NB346_380.out
           have hnc208 := NB380_346.out
           have hcz209_0 : wc.cell? ⟨gb346, 0, none⟩ = some (.int .i64 t341) := (blk_cell BK346.out 0).trans rfl
           have hcz209_1 : wc.cell? ⟨gb346, 1, none⟩ = some (.slice Ao18 t342.length co18) := (blk_cell BK346.out 1).trans rfl
           have hfz209_0 := blk_frozen BK346.out 0
           have hfz209_1 := blk_frozen BK346.out 1
           go_wp2_with (first | ((with_reducible refine gate_callee (f := 15) rfl ?_); refine goesL_ (some 151) rfl rfl Try.func15 (by kernel_rfl) rfl #[.agg #[.int .i64 t341, .slice Ao18 t342.length co18]] rfl aT ?_; (with_reducible refine (impl_NetTables.calls kj178 t341 _ _ t342 t391 t394 _ ?side1 ?side2 A202.out).mono ?_); (case side1 => exact cN HO_347001); (case side2 => exact (Kd.N_reads' HO_347001.out).2.1); rintro e w210 ⟨v392, rfl, ho0, hb⟩; refine ⟨_, rfl, ?_⟩; have n0_ := Aside0.mk (Kd.N_elder' (pN HO_347001) (Kd.S_base ho0) hb); have n1_ := Aside0.mk (Kd.N_elder' (pN HO_353001) (Kd.S_base ho0) hb); have n2_ := Aside0.mk (Kd.N_elder' (pN HO_359001) (Kd.S_base ho0) hb); have n3_ := Aside0.mk (Kd.N_elder' (pN HO_365001) (Kd.S_base ho0) hb); have n4_ := Aside0.mk (Kd.N_elder' (pN HO_375001) (Kd.S_base ho0) hb); have n5_ := Aside0.mk (Kd.N_elder' (pN HO_381001) (Kd.S_base ho0) hb); have n6_ := Aside0.mk (Kd.N_lower (Kd.N_mono (ok' := fun k_ => some k_ ≠ (.slice Ao18 t342.length co18 : Value).ownBlock ∧ some k_ ≠ (.slice Ao23 t348.length co23 : Value).ownBlock ∧ some k_ ≠ (.slice Ao29 t354.length co29 : Value).ownBlock ∧ some k_ ≠ (.slice Ao36 t360.length co36 : Value).ownBlock ∧ some k_ ≠ (.slice Ao47 t370.length co47 : Value).ownBlock ∧ some k_ ≠ (.slice Ao56 t376.length co56 : Value).ownBlock ∧ k_ ≠ gb346 ∧ k_ ≠ gb352 ∧ k_ ≠ gb358 ∧ k_ ≠ gb364 ∧ k_ ≠ gb374 ∧ k_ ≠ gb380) (Kd.S_N (Kd.S_bound ho0)) (fun k_ hk_ => ⟨(Kd.fresh' (Kd.N_lt (pN HO_347001)) k_ hk_.2.1), (Kd.fresh' (Kd.N_lt (pN HO_353001)) k_ hk_.2.1), (Kd.fresh' (Kd.N_lt (pN HO_359001)) k_ hk_.2.1), (Kd.fresh' (Kd.N_lt (pN HO_365001)) k_ hk_.2.1), (Kd.fresh' (Kd.N_lt (pN HO_375001)) k_ hk_.2.1), (Kd.fresh' (Kd.N_lt (pN HO_381001)) k_ hk_.2.1), (Kd.freshB (g := gb346) (o := .cells #[.int .i64 t341, .slice Ao18 t342.length co18] 27 (0, 0)) (pB BK346) k_ hk_.2.1), (Kd.freshB (g := gb352) (o := .cells #[.int .i64 t347, .slice Ao23 t348.length co23] 27 (0, 0)) (pB BK352) k_ hk_.2.1), (Kd.freshB (g := gb358) (o := .cells #[.int .i64 t353, .slice Ao29 t354.length co29] 27 (0, 0)) (pB BK358) k_ hk_.2.1), (Kd.freshB (g := gb364) (o := .cells #[.int .i64 t359, .slice Ao36 t360.length co36] 27 (0, 0)) (pB BK364) k_ hk_.2.1), (Kd.freshB (g := gb374) (o := .cells #[.int .i64 t369, .slice Ao47 t370.length co47] 27 (0, 0)) (pB BK374) k_ hk_.2.1), (Kd.freshB (g := gb380) (o := .cells #[.int .i64 t375, .slice Ao56 t376.length co56] 27 (0, 0)) (pB BK380) k_ hk_.2.1)⟩)) (below_size (b6 HB GE346 GE352 GE358 GE364 GE374 GE380))); have n7_ := Aside0.mk (bW BK346 hb); have n8_ := Aside0.mk (bW BK352 hb); have n9_ := Aside0.mk (bW BK358 hb); have n10_ := Aside0.mk (bW BK364 hb); have n11_ := Aside0.mk (bW BK374 hb); have n12_ := Aside0.mk (bW BK380 hb); have n13_ := Aside0.mk (below_step (b6 HB GE346 GE352 GE358 GE364 GE374 GE380) hb); clear HO_347001; clear HO_353001; clear HO_359001; clear HO_365001; clear HO_375001; clear HO_381001; clear BK346; clear BK352; clear BK358; clear BK364; clear BK374; clear BK380; clear HB; have HO_347001 := n0_; have HO_353001 := n1_; have HO_359001 := n2_; have HO_365001 := n3_; have HO_375001 := n4_; have HO_381001 := n5_; have HO393 := n6_; have BK346 := n7_; have BK352 := n8_; have BK358 := n9_; have BK364 := n10_; have BK374 := n11_; have BK380 := n12_; have HB := n13_; clear n0_ n1_ n2_ n3_ n4_ n5_ n6_ n7_ n8_ n9_ n10_ n11_ n12_ n13_; (try clear hb); (try clear hb2); (try clear hk); (try clear hi); (try clear ho0); have hnb211 := NB358_352.out; have hnc211 := NB352_358.out; have hnb212 := NB358_364.out; have hnc212 := NB364_358.out; have hnb213 := NB358_374.out; have hnc213 := NB374_358.out; have hnb214 := NB358_380.out; have hnc214 := NB380_358.out; have hcz215_0 : w210.cell? ⟨gb358, 0, none⟩ = some (.int .i64 t353) := (blk_cell BK358.out 0).trans rfl; have hcz215_1 : w210.cell? ⟨gb358, 1, none⟩ = some (.slice Ao29 t354.length co29) := (blk_cell BK358.out 1).trans rfl; have hfz215_0 := blk_frozen BK358.out 0; have hfz215_1 := blk_frozen BK358.out 1) | ((with_reducible refine gate_callee (f := 15) rfl ?_); refine goesL_ (some 156) rfl rfl Try.func15 (by kernel_rfl) rfl #[.agg #[.int .i64 t353, .slice Ao29 t354.length co29]] rfl aT ?_; (with_reducible refine (impl_NetTables.calls kj178 t353 _ _ t354 t395 t398 _ ?side1 ?side2 A203.out).mono ?_); (case side1 => exact cN HO_359001); (case side2 => exact (Kd.N_reads' HO_359001.out).2.1); rintro e w216 ⟨v396, rfl, ho0, hb⟩; refine ⟨_, rfl, ?_⟩; have n0_ := Aside0.mk (Kd.N_elder' (pN HO_347001) (Kd.S_base ho0) hb); have n1_ := Aside0.mk (Kd.N_elder' (pN HO_353001) (Kd.S_base ho0) hb); have n2_ := Aside0.mk (Kd.N_elder' (pN HO_359001) (Kd.S_base ho0) hb); have n3_ := Aside0.mk (Kd.N_elder' (pN HO_365001) (Kd.S_base ho0) hb); have n4_ := Aside0.mk (Kd.N_elder' (pN HO_375001) (Kd.S_base ho0) hb); have n5_ := Aside0.mk (Kd.N_elder' (pN HO_381001) (Kd.S_base ho0) hb); have n6_ := Aside0.mk (Kd.N_elder' (pN HO393) (Kd.S_base ho0) hb); have n7_ := Aside0.mk (Kd.N_lower (Kd.N_mono (ok' := fun k_ => some k_ ≠ (.slice Ao18 t342.length co18 : Value).ownBlock ∧ some k_ ≠ (.slice Ao23 t348.length co23 : Value).ownBlock ∧ some k_ ≠ (.slice Ao29 t354.length co29 : Value).ownBlock ∧ some k_ ≠ (.slice Ao36 t360.length co36 : Value).ownBlock ∧ some k_ ≠ (.slice Ao47 t370.length co47 : Value).ownBlock ∧ some k_ ≠ (.slice Ao56 t376.length co56 : Value).ownBlock ∧ some k_ ≠ (v392 : Value).ownBlock ∧ k_ ≠ gb346 ∧ k_ ≠ gb352 ∧ k_ ≠ gb358 ∧ k_ ≠ gb364 ∧ k_ ≠ gb374 ∧ k_ ≠ gb380) (Kd.S_N (Kd.S_bound ho0)) (fun k_ hk_ => ⟨(Kd.fresh' (Kd.N_lt (pN HO_347001)) k_ hk_.2.1), (Kd.fresh' (Kd.N_lt (pN HO_353001)) k_ hk_.2.1), (Kd.fresh' (Kd.N_lt (pN HO_359001)) k_ hk_.2.1), (Kd.fresh' (Kd.N_lt (pN HO_365001)) k_ hk_.2.1), (Kd.fresh' (Kd.N_lt (pN HO_375001)) k_ hk_.2.1), (Kd.fresh' (Kd.N_lt (pN HO_381001)) k_ hk_.2.1), (Kd.fresh' (Kd.N_lt (pN HO393)) k_ hk_.2.1), (Kd.freshB (g := gb346) (o := .cells #[.int .i64 t341, .slice Ao18 t342.length co18] 27 (0, 0)) (pB BK346) k_ hk_.2.1), (Kd.freshB (g := gb352) (o := .cells #[.int .i64 t347, .slice Ao23 t348.length co23] 27 (0, 0)) (pB BK352) k_ hk_.2.1), (Kd.freshB (g := gb358) (o := .cells #[.int .i64 t353, .slice Ao29 t354.length co29] 27 (0, 0)) (pB BK358) k_ hk_.2.1), (Kd.freshB (g := gb364) (o := .cells #[.int .i64 t359, .slice Ao36 t360.length co36] 27 (0, 0)) (pB BK364) k_ hk_.2.1), (Kd.freshB (g := gb374) (o := .cells #[.int .i64 t369, .slice Ao47 t370.length co47] 27 (0, 0)) (pB BK374) k_ hk_.2.1), (Kd.freshB (g := gb380) (o := .cells #[.int .i64 t375, .slice Ao56 t376.length co56] 27 (0, 0)) (pB BK380) k_ hk_.2.1)⟩)) (below_size (b6 HB GE346 GE352 GE358 GE364 GE374 GE380))); have n8_ := Aside0.mk (bW BK346 hb); have n9_ := Aside0.mk (bW BK352 hb); have n10_ := Aside0.mk (bW BK358 hb); have n11_ := Aside0.mk (bW BK364 hb); have n12_ := Aside0.mk (bW BK374 hb); have n13_ := Aside0.mk (bW BK380 hb); have n14_ := Aside0.mk (below_step (b6 HB GE346 GE352 GE358 GE364 GE374 GE380) hb); clear HO_347001; clear HO_353001; clear HO_359001; clear HO_365001; clear HO_375001; clear HO_381001; clear HO393; clear BK346; clear BK352; clear BK358; clear BK364; clear BK374; clear BK380; clear HB; have HO_347001 := n0_; have HO_353001 := n1_; have HO_359001 := n2_; have HO_365001 := n3_; have HO_375001 := n4_; have HO_381001 := n5_; have HO393 := n6_; have HO397 := n7_; have BK346 := n8_; have BK352 := n9_; have BK358 := n10_; have BK364 := n11_; have BK374 := n12_; have BK380 := n13_; have HB := n14_; clear n0_ n1_ n2_ n3_ n4_ n5_ n6_ n7_ n8_ n9_ n10_ n11_ n12_ n13_ n14_; (try clear hb); (try clear hb2); (try clear hk); (try clear hi); (try clear ho0)))
           go_loopg [26] kj178 (fun kq v26 w' => ∃ (x26_3 : Int), v26 = .int .i64 x26_3 ∧ Aside0 (laws_FnFamilies.l1 kq t340 t391 t394 t395 t398 x26_3 = some r) ∧ Aside0 (kq ≤ kj178) ∧ Aside0 (Kd.N (Kd.slice 3 (Kd.int .i64)) 35 w' w.heap.size (fun k_ => some k_ ≠ (v396 : Value).ownBlock ∧ some k_ ≠ ((.slice Ao18 t342.length co18) : Value).ownBlock ∧ some k_ ≠ ((.slice Ao23 t348.length co23) : Value).ownBlock ∧ some k_ ≠ ((.slice Ao29 t354.length co29) : Value).ownBlock ∧ some k_ ≠ ((.slice Ao36 t360.length co36) : Value).ownBlock ∧ some k_ ≠ ((.slice Ao47 t370.length co47) : Value).ownBlock ∧ some k_ ≠ ((.slice Ao56 t376.length co56) : Value).ownBlock ∧ k_ ≠ gb346 ∧ k_ ≠ gb352 ∧ k_ ≠ gb358 ∧ k_ ≠ gb364 ∧ k_ ≠ gb374 ∧ k_ ≠ gb380) v392 t391) ∧ Aside0 (Kd.N (Kd.slice 3 (Kd.int .i64)) 35 w' w.heap.size (fun k_ => some k_ ≠ (v392 : Value).ownBlock ∧ some k_ ≠ ((.slice Ao18 t342.length co18) : Value).ownBlock ∧ some k_ ≠ ((.slice Ao23 t348.length co23) : Value).ownBlock ∧ some k_ ≠ ((.slice Ao29 t354.length co29) : Value).ownBlock ∧ some k_ ≠ ((.slice Ao36 t360.length co36) : Value).ownBlock ∧ some k_ ≠ ((.slice Ao47 t370.length co47) : Value).ownBlock ∧ some k_ ≠ ((.slice Ao56 t376.length co56) : Value).ownBlock ∧ k_ ≠ gb346 ∧ k_ ≠ gb352 ∧ k_ ≠ gb358 ∧ k_ ≠ gb364 ∧ k_ ≠ gb374 ∧ k_ ≠ gb380) v396 t395) ∧ Aside0 (Kd.N (Kd.slice 45 k45) 43 w' w.heap.size (fun k_ => some k_ ≠ (v392 : Value).ownBlock ∧ some k_ ≠ (v396 : Value).ownBlock ∧ some k_ ≠ ((.slice Ao23 t348.length co23) : Value).ownBlock ∧ some k_ ≠ ((.slice Ao29 t354.length co29) : Value).ownBlock ∧ some k_ ≠ ((.slice Ao36 t360.length co36) : Value).ownBlock ∧ some k_ ≠ ((.slice Ao47 t370.length co47) : Value).ownBlock ∧ some k_ ≠ ((.slice Ao56 t376.length co56) : Value).ownBlock ∧ k_ ≠ gb346 ∧ k_ ≠ gb352 ∧ k_ ≠ gb358 ∧ k_ ≠ gb364 ∧ k_ ≠ gb374 ∧ k_ ≠ gb380) (.slice Ao18 t342.length co18) t342) ∧ Aside0 (Kd.N (Kd.slice 45 k45) 43 w' w.heap.size (fun k_ => some k_ ≠ (v392 : Value).ownBlock ∧ some k_ ≠ (v396 : Value).ownBlock ∧ some k_ ≠ ((.slice Ao18 t342.length co18) : Value).ownBlock ∧ some k_ ≠ ((.slice Ao29 t354.length co29) : Value).ownBlock ∧ some k_ ≠ ((.slice Ao36 t360.length co36) : Value).ownBlock ∧ some k_ ≠ ((.slice Ao47 t370.length co47) : Value).ownBlock ∧ some k_ ≠ ((.slice Ao56 t376.length co56) : Value).ownBlock ∧ k_ ≠ gb346 ∧ k_ ≠ gb352 ∧ k_ ≠ gb358 ∧ k_ ≠ gb364 ∧ k_ ≠ gb374 ∧ k_ ≠ gb380) (.slice Ao23 t348.length co23) t348) ∧ Aside0 (Kd.N (Kd.slice 45 k45) 43 w' w.heap.size (fun k_ => some k_ ≠ (v392 : Value).ownBlock ∧ some k_ ≠ (v396 : Value).ownBlock ∧ some k_ ≠ ((.slice Ao18 t342.length co18) : Value).ownBlock ∧ some k_ ≠ ((.slice Ao23 t348.length co23) : Value).ownBlock ∧ some k_ ≠ ((.slice Ao36 t360.length co36) : Value).ownBlock ∧ some k_ ≠ ((.slice Ao47 t370.length co47) : Value).ownBlock ∧ some k_ ≠ ((.slice Ao56 t376.length co56) : Value).ownBlock ∧ k_ ≠ gb346 ∧ k_ ≠ gb352 ∧ k_ ≠ gb358 ∧ k_ ≠ gb364 ∧ k_ ≠ gb374 ∧ k_ ≠ gb380) (.slice Ao29 t354.length co29) t354) ∧ Aside0 (Kd.N (Kd.slice 45 k45) 43 w' w.heap.size (fun k_ => some k_ ≠ (v392 : Value).ownBlock ∧ some k_ ≠ (v396 : Value).ownBlock ∧ some k_ ≠ ((.slice Ao18 t342.length co18) : Value).ownBlock ∧ some k_ ≠ ((.slice Ao23 t348.length co23) : Value).ownBlock ∧ some k_ ≠ ((.slice Ao29 t354.length co29) : Value).ownBlock ∧ some k_ ≠ ((.slice Ao47 t370.length co47) : Value).ownBlock ∧ some k_ ≠ ((.slice Ao56 t376.length co56) : Value).ownBlock ∧ k_ ≠ gb346 ∧ k_ ≠ gb352 ∧ k_ ≠ gb358 ∧ k_ ≠ gb364 ∧ k_ ≠ gb374 ∧ k_ ≠ gb380) (.slice Ao36 t360.length co36) t360) ∧ Aside0 (Kd.N (Kd.slice 45 k45) 43 w' w.heap.size (fun k_ => some k_ ≠ (v392 : Value).ownBlock ∧ some k_ ≠ (v396 : Value).ownBlock ∧ some k_ ≠ ((.slice Ao18 t342.length co18) : Value).ownBlock ∧ some k_ ≠ ((.slice Ao23 t348.length co23) : Value).ownBlock ∧ some k_ ≠ ((.slice Ao29 t354.length co29) : Value).ownBlock ∧ some k_ ≠ ((.slice Ao36 t360.length co36) : Value).ownBlock ∧ some k_ ≠ ((.slice Ao56 t376.length co56) : Value).ownBlock ∧ k_ ≠ gb346 ∧ k_ ≠ gb352 ∧ k_ ≠ gb358 ∧ k_ ≠ gb364 ∧ k_ ≠ gb374 ∧ k_ ≠ gb380) (.slice Ao47 t370.length co47) t370) ∧ Aside0 (Kd.N (Kd.slice 45 k45) 43 w' w.heap.size (fun k_ => some k_ ≠ (v392 : Value).ownBlock ∧ some k_ ≠ (v396 : Value).ownBlock ∧ some k_ ≠ ((.slice Ao18 t342.length co18) : Value).ownBlock ∧ some k_ ≠ ((.slice Ao23 t348.length co23) : Value).ownBlock ∧ some k_ ≠ ((.slice Ao29 t354.length co29) : Value).ownBlock ∧ some k_ ≠ ((.slice Ao36 t360.length co36) : Value).ownBlock ∧ some k_ ≠ ((.slice Ao47 t370.length co47) : Value).ownBlock ∧ k_ ≠ gb346 ∧ k_ ≠ gb352 ∧ k_ ≠ gb358 ∧ k_ ≠ gb364 ∧ k_ ≠ gb374 ∧ k_ ≠ gb380) (.slice Ao56 t376.length co56) t376) ∧ Aside0 (w'.heap[gb346]? = some (.cells #[.int .i64 t341, (.slice Ao18 t342.length co18)] 27 (0, 0))) ∧ Aside0 (w'.heap[gb352]? = some (.cells #[.int .i64 t347, (.slice Ao23 t348.length co23)] 27 (0, 0))) ∧ Aside0 (w'.heap[gb358]? = some (.cells #[.int .i64 t353, (.slice Ao29 t354.length co29)] 27 (0, 0))) ∧ Aside0 (w'.heap[gb364]? = some (.cells #[.int .i64 t359, (.slice Ao36 t360.length co36)] 27 (0, 0))) ∧ Aside0 (w'.heap[gb374]? = some (.cells #[.int .i64 t369, (.slice Ao47 t370.length co47)] 27 (0, 0))) ∧ Aside0 (w'.heap[gb380]? = some (.cells #[.int .i64 t375, (.slice Ao56 t376.length co56)] 27 (0, 0))) ∧ Aside0 (Below w.heap.size w w'))
           case atStart => exact ⟨(0), rD, H', ⟨Nat.le_refl _⟩, ⟨by (with_reducible repeat (first | apply Kd.N_alloc | apply Kd.N_drewN | apply Kd.N_drew)); exact Kd.N_mono HO393.out (fun _ hk => ⟨hk.2, ⟨hk.1.1, ⟨hk.1.2.1, ⟨hk.1.2.2.1, ⟨hk.1.2.2.2.1, ⟨hk.1.2.2.2.2.1, ⟨hk.1.2.2.2.2.2.1, ⟨hk.1.2.2.2.2.2.2.1, ⟨hk.1.2.2.2.2.2.2.2.1, ⟨hk.1.2.2.2.2.2.2.2.2.1, ⟨hk.1.2.2.2.2.2.2.2.2.2.1, ⟨hk.1.2.2.2.2.2.2.2.2.2.2.1, hk.1.2.2.2.2.2.2.2.2.2.2.2⟩⟩⟩⟩⟩⟩⟩⟩⟩⟩⟩⟩)⟩, ⟨by (with_reducible repeat (first | apply Kd.N_alloc | apply Kd.N_drewN | apply Kd.N_drew)); exact Kd.N_mono HO397.out (fun _ hk => ⟨hk.2.2.2.2.2.2.1, ⟨hk.1, ⟨hk.2.1, ⟨hk.2.2.1, ⟨hk.2.2.2.1, ⟨hk.2.2.2.2.1, ⟨hk.2.2.2.2.2.1, ⟨hk.2.2.2.2.2.2.2.1, ⟨hk.2.2.2.2.2.2.2.2.1, ⟨hk.2.2.2.2.2.2.2.2.2.1, ⟨hk.2.2.2.2.2.2.2.2.2.2.1, ⟨hk.2.2.2.2.2.2.2.2.2.2.2.1, hk.2.2.2.2.2.2.2.2.2.2.2.2⟩⟩⟩⟩⟩⟩⟩⟩⟩⟩⟩⟩)⟩, ⟨by (with_reducible repeat (first | apply Kd.N_alloc | apply Kd.N_drewN | apply Kd.N_drew)); exact Kd.N_mono HO_347001.out (fun _ hk => ⟨hk.1.2, ⟨hk.2, ⟨hk.1.1.1, ⟨hk.1.1.2.1, ⟨hk.1.1.2.2.1, ⟨hk.1.1.2.2.2.1, ⟨hk.1.1.2.2.2.2.1, ⟨hk.1.1.2.2.2.2.2.1, ⟨hk.1.1.2.2.2.2.2.2.1, ⟨hk.1.1.2.2.2.2.2.2.2.1, ⟨hk.1.1.2.2.2.2.2.2.2.2.1, ⟨hk.1.1.2.2.2.2.2.2.2.2.2.1, hk.1.1.2.2.2.2.2.2.2.2.2.2⟩⟩⟩⟩⟩⟩⟩⟩⟩⟩⟩⟩)⟩, ⟨by (with_reducible repeat (first | apply Kd.N_alloc | apply Kd.N_drewN | apply Kd.N_drew)); exact Kd.N_mono HO_353001.out (fun _ hk => ⟨hk.1.2, ⟨hk.2, ⟨hk.1.1.1, ⟨hk.1.1.2.1, ⟨hk.1.1.2.2.1, ⟨hk.1.1.2.2.2.1, ⟨hk.1.1.2.2.2.2.1, ⟨hk.1.1.2.2.2.2.2.1, ⟨hk.1.1.2.2.2.2.2.2.1, ⟨hk.1.1.2.2.2.2.2.2.2.1, ⟨hk.1.1.2.2.2.2.2.2.2.2.1, ⟨hk.1.1.2.2.2.2.2.2.2.2.2.1, hk.1.1.2.2.2.2.2.2.2.2.2.2⟩⟩⟩⟩⟩⟩⟩⟩⟩⟩⟩⟩)⟩, ⟨by (with_reducible repeat (first | apply Kd.N_alloc | apply Kd.N_drewN | apply Kd.N_drew)); exact Kd.N_mono HO_359001.out (fun _ hk => ⟨hk.1.2, ⟨hk.2, ⟨hk.1.1.1, ⟨hk.1.1.2.1, ⟨hk.1.1.2.2.1, ⟨hk.1.1.2.2.2.1, ⟨hk.1.1.2.2.2.2.1, ⟨hk.1.1.2.2.2.2.2.1, ⟨hk.1.1.2.2.2.2.2.2.1, ⟨hk.1.1.2.2.2.2.2.2.2.1, ⟨hk.1.1.2.2.2.2.2.2.2.2.1, ⟨hk.1.1.2.2.2.2.2.2.2.2.2.1, hk.1.1.2.2.2.2.2.2.2.2.2.2⟩⟩⟩⟩⟩⟩⟩⟩⟩⟩⟩⟩)⟩, ⟨by (with_reducible repeat (first | apply Kd.N_alloc | apply Kd.N_drewN | apply Kd.N_drew)); exact Kd.N_mono HO_365001.out (fun _ hk => ⟨hk.1.2, ⟨hk.2, ⟨hk.1.1.1, ⟨hk.1.1.2.1, ⟨hk.1.1.2.2.1, ⟨hk.1.1.2.2.2.1, ⟨hk.1.1.2.2.2.2.1, ⟨hk.1.1.2.2.2.2.2.1, ⟨hk.1.1.2.2.2.2.2.2.1, ⟨hk.1.1.2.2.2.2.2.2.2.1, ⟨hk.1.1.2.2.2.2.2.2.2.2.1, ⟨hk.1.1.2.2.2.2.2.2.2.2.2.1, hk.1.1.2.2.2.2.2.2.2.2.2.2⟩⟩⟩⟩⟩⟩⟩⟩⟩⟩⟩⟩)⟩, ⟨by (with_reducible repeat (first | apply Kd.N_alloc | apply Kd.N_drewN | apply Kd.N_drew)); exact Kd.N_mono HO_375001.out (fun _ hk => ⟨hk.1.2, ⟨hk.2, ⟨hk.1.1.1, ⟨hk.1.1.2.1, ⟨hk.1.1.2.2.1, ⟨hk.1.1.2.2.2.1, ⟨hk.1.1.2.2.2.2.1, ⟨hk.1.1.2.2.2.2.2.1, ⟨hk.1.1.2.2.2.2.2.2.1, ⟨hk.1.1.2.2.2.2.2.2.2.1, ⟨hk.1.1.2.2.2.2.2.2.2.2.1, ⟨hk.1.1.2.2.2.2.2.2.2.2.2.1, hk.1.1.2.2.2.2.2.2.2.2.2.2⟩⟩⟩⟩⟩⟩⟩⟩⟩⟩⟩⟩)⟩, ⟨by (with_reducible repeat (first | apply Kd.N_alloc | apply Kd.N_drewN | apply Kd.N_drew)); exact Kd.N_mono HO_381001.out (fun _ hk => ⟨hk.1.2, ⟨hk.2, ⟨hk.1.1.1, ⟨hk.1.1.2.1, ⟨hk.1.1.2.2.1, ⟨hk.1.1.2.2.2.1, ⟨hk.1.1.2.2.2.2.1, ⟨hk.1.1.2.2.2.2.2.1, ⟨hk.1.1.2.2.2.2.2.2.1, ⟨hk.1.1.2.2.2.2.2.2.2.1, ⟨hk.1.1.2.2.2.2.2.2.2.2.1, ⟨hk.1.1.2.2.2.2.2.2.2.2.2.1, hk.1.1.2.2.2.2.2.2.2.2.2.2⟩⟩⟩⟩⟩⟩⟩⟩⟩⟩⟩⟩)⟩, ⟨pB BK346⟩, ⟨pB BK352⟩, ⟨pB BK358⟩, ⟨pB BK364⟩, ⟨pB BK374⟩, ⟨pB BK380⟩, ⟨b6 HB GE346 GE352 GE358 GE364 GE374 GE380⟩⟩
           case round =>
            clear H'
            try clear c3
            try clear c178
            try clear c201
            try clear hcz17_0
            try clear hcz17_1
            try clear hcz209_0
            try clear hcz209_1
            try clear hcz215_0
            try clear hcz215_1
            try clear hcz22_0
            try clear hcz22_1
            try clear hcz28_0
            try clear hcz28_1
            try clear hcz35_0
            try clear hcz35_1
            try clear hcz46_0
            try clear hcz46_1
            try clear hcz55_0
            try clear hcz55_1
            try clear hfz17_0
            try clear hfz17_1
            try clear hfz209_0
            try clear hfz209_1
            try clear hfz215_0
            try clear hfz215_1
            try clear hfz22_0
            try clear hfz22_1
            try clear hfz28_0
            try clear hfz28_1
            try clear hfz35_0
            try clear hfz35_1
            try clear hfz46_0
            try clear hfz46_1
            try clear hfz55_0
            try clear hfz55_1
            obtain ⟨x26_3, rfl, HA, HK3, HO_22, HO_24, HO_347001, HO_353001, HO_359001, HO_365001, HO_375001, HO_381001, BK346, BK352, BK358, BK364, BK374, BK380, HB⟩ := hrel
            cases gk with
            | zero => exact absurd HA.out (by simp [laws_FnFamilies.l1])
            | succ k3 =>
             have H := HA.out
             clear HA
             simp only [laws_FnFamilies.l1] at H
             have HC217 := Aside0.mk H
             clear H
             go_upto_region 29 with (fail)
             go_cut [168] (fun v168 wc => ∃ (kq : Nat) (x168_216 : Bool), v168 = .bool x168_216 ∧ Aside0 (laws_FnFamilies.j5 kq t340 t391 t394 t395 t398 x26_3 x168_216 = some r) ∧ Aside0 (kq ≤ k3) ∧ Aside0 (Kd.N (Kd.slice 3 (Kd.int .i64)) 35 wc w.heap.size (fun k_ => some k_ ≠ (v396 : Value).ownBlock ∧ some k_ ≠ ((.slice Ao18 t342.length co18) : Value).ownBlock ∧ some k_ ≠ ((.slice Ao23 t348.length co23) : Value).ownBlock ∧ some k_ ≠ ((.slice Ao29 t354.length co29) : Value).ownBlock ∧ some k_ ≠ ((.slice Ao36 t360.length co36) : Value).ownBlock ∧ some k_ ≠ ((.slice Ao47 t370.length co47) : Value).ownBlock ∧ some k_ ≠ ((.slice Ao56 t376.length co56) : Value).ownBlock ∧ k_ ≠ gb346 ∧ k_ ≠ gb352 ∧ k_ ≠ gb358 ∧ k_ ≠ gb364 ∧ k_ ≠ gb374 ∧ k_ ≠ gb380) v392 t391) ∧ Aside0 (Kd.N (Kd.slice 3 (Kd.int .i64)) 35 wc w.heap.size (fun k_ => some k_ ≠ (v392 : Value).ownBlock ∧ some k_ ≠ ((.slice Ao18 t342.length co18) : Value).ownBlock ∧ some k_ ≠ ((.slice Ao23 t348.length co23) : Value).ownBlock ∧ some k_ ≠ ((.slice Ao29 t354.length co29) : Value).ownBlock ∧ some k_ ≠ ((.slice Ao36 t360.length co36) : Value).ownBlock ∧ some k_ ≠ ((.slice Ao47 t370.length co47) : Value).ownBlock ∧ some k_ ≠ ((.slice Ao56 t376.length co56) : Value).ownBlock ∧ k_ ≠ gb346 ∧ k_ ≠ gb352 ∧ k_ ≠ gb358 ∧ k_ ≠ gb364 ∧ k_ ≠ gb374 ∧ k_ ≠ gb380) v396 t395) ∧ Aside0 (Kd.N (Kd.slice 45 k45) 43 wc w.heap.size (fun k_ => some k_ ≠ (v392 : Value).ownBlock ∧ some k_ ≠ (v396 : Value).ownBlock ∧ some k_ ≠ ((.slice Ao23 t348.length co23) : Value).ownBlock ∧ some k_ ≠ ((.slice Ao29 t354.length co29) : Value).ownBlock ∧ some k_ ≠ ((.slice Ao36 t360.length co36) : Value).ownBlock ∧ some k_ ≠ ((.slice Ao47 t370.length co47) : Value).ownBlock ∧ some k_ ≠ ((.slice Ao56 t376.length co56) : Value).ownBlock ∧ k_ ≠ gb346 ∧ k_ ≠ gb352 ∧ k_ ≠ gb358 ∧ k_ ≠ gb364 ∧ k_ ≠ gb374 ∧ k_ ≠ gb380) (.slice Ao18 t342.length co18) t342) ∧ Aside0 (Kd.N (Kd.slice 45 k45) 43 wc w.heap.size (fun k_ => some k_ ≠ (v392 : Value).ownBlock ∧ some k_ ≠ (v396 : Value).ownBlock ∧ some k_ ≠ ((.slice Ao18 t342.length co18) : Value).ownBlock ∧ some k_ ≠ ((.slice Ao29 t354.length co29) : Value).ownBlock ∧ some k_ ≠ ((.slice Ao36 t360.length co36) : Value).ownBlock ∧ some k_ ≠ ((.slice Ao47 t370.length co47) : Value).ownBlock ∧ some k_ ≠ ((.slice Ao56 t376.length co56) : Value).ownBlock ∧ k_ ≠ gb346 ∧ k_ ≠ gb352 ∧ k_ ≠ gb358 ∧ k_ ≠ gb364 ∧ k_ ≠ gb374 ∧ k_ ≠ gb380) (.slice Ao23 t348.length co23) t348) ∧ Aside0 (Kd.N (Kd.slice 45 k45) 43 wc w.heap.size (fun k_ => some k_ ≠ (v392 : Value).ownBlock ∧ some k_ ≠ (v396 : Value).ownBlock ∧ some k_ ≠ ((.slice Ao18 t342.length co18) : Value).ownBlock ∧ some k_ ≠ ((.slice Ao23 t348.length co23) : Value).ownBlock ∧ some k_ ≠ ((.slice Ao36 t360.length co36) : Value).ownBlock ∧ some k_ ≠ ((.slice Ao47 t370.length co47) : Value).ownBlock ∧ some k_ ≠ ((.slice Ao56 t376.length co56) : Value).ownBlock ∧ k_ ≠ gb346 ∧ k_ ≠ gb352 ∧ k_ ≠ gb358 ∧ k_ ≠ gb364 ∧ k_ ≠ gb374 ∧ k_ ≠ gb380) (.slice Ao29 t354.length co29) t354) ∧ Aside0 (Kd.N (Kd.slice 45 k45) 43 wc w.heap.size (fun k_ => some k_ ≠ (v392 : Value).ownBlock ∧ some k_ ≠ (v396 : Value).ownBlock ∧ some k_ ≠ ((.slice Ao18 t342.length co18) : Value).ownBlock ∧ some k_ ≠ ((.slice Ao23 t348.length co23) : Value).ownBlock ∧ some k_ ≠ ((.slice Ao29 t354.length co29) : Value).ownBlock ∧ some k_ ≠ ((.slice Ao47 t370.length co47) : Value).ownBlock ∧ some k_ ≠ ((.slice Ao56 t376.length co56) : Value).ownBlock ∧ k_ ≠ gb346 ∧ k_ ≠ gb352 ∧ k_ ≠ gb358 ∧ k_ ≠ gb364 ∧ k_ ≠ gb374 ∧ k_ ≠ gb380) (.slice Ao36 t360.length co36) t360) ∧ Aside0 (Kd.N (Kd.slice 45 k45) 43 wc w.heap.size (fun k_ => some k_ ≠ (v392 : Value).ownBlock ∧ some k_ ≠ (v396 : Value).ownBlock ∧ some k_ ≠ ((.slice Ao18 t342.length co18) : Value).ownBlock ∧ some k_ ≠ ((.slice Ao23 t348.length co23) : Value).ownBlock ∧ some k_ ≠ ((.slice Ao29 t354.length co29) : Value).ownBlock ∧ some k_ ≠ ((.slice Ao36 t360.length co36) : Value).ownBlock ∧ some k_ ≠ ((.slice Ao56 t376.length co56) : Value).ownBlock ∧ k_ ≠ gb346 ∧ k_ ≠ gb352 ∧ k_ ≠ gb358 ∧ k_ ≠ gb364 ∧ k_ ≠ gb374 ∧ k_ ≠ gb380) (.slice Ao47 t370.length co47) t370) ∧ Aside0 (Kd.N (Kd.slice 45 k45) 43 wc w.heap.size (fun k_ => some k_ ≠ (v392 : Value).ownBlock ∧ some k_ ≠ (v396 : Value).ownBlock ∧ some k_ ≠ ((.slice Ao18 t342.length co18) : Value).ownBlock ∧ some k_ ≠ ((.slice Ao23 t348.length co23) : Value).ownBlock ∧ some k_ ≠ ((.slice Ao29 t354.length co29) : Value).ownBlock ∧ some k_ ≠ ((.slice Ao36 t360.length co36) : Value).ownBlock ∧ some k_ ≠ ((.slice Ao47 t370.length co47) : Value).ownBlock ∧ k_ ≠ gb346 ∧ k_ ≠ gb352 ∧ k_ ≠ gb358 ∧ k_ ≠ gb364 ∧ k_ ≠ gb374 ∧ k_ ≠ gb380) (.slice Ao56 t376.length co56) t376) ∧ Aside0 (wc.heap[gb346]? = some (.cells #[.int .i64 t341, (.slice Ao18 t342.length co18)] 27 (0, 0))) ∧ Aside0 (wc.heap[gb352]? = some (.cells #[.int .i64 t347, (.slice Ao23 t348.length co23)] 27 (0, 0))) ∧ Aside0 (wc.heap[gb358]? = some (.cells #[.int .i64 t353, (.slice Ao29 t354.length co29)] 27 (0, 0))) ∧ Aside0 (wc.heap[gb364]? = some (.cells #[.int .i64 t359, (.slice Ao36 t360.length co36)] 27 (0, 0))) ∧ Aside0 (wc.heap[gb374]? = some (.cells #[.int .i64 t369, (.slice Ao47 t370.length co47)] 27 (0, 0))) ∧ Aside0 (wc.heap[gb380]? = some (.cells #[.int .i64 t375, (.slice Ao56 t376.length co56)] 27 (0, 0))) ∧ Aside0 (Below w.heap.size w wc))
             case first =>
              have H := HC217.out
              clear HC217
              by_cases c218 : t394 = true
              · subst c218
                have H1 : (if t398 = true then (if 0 ≤ t340 then (laws_FnFamilies.j5 k3 t340 t391 true t395 t398 x26_3 (decide (x26_3 < (shl .i64 1 t340)))) else (none)) else (laws_FnFamilies.j5 k3 t340 t391 true t395 t398 x26_3 false)) = some r := by rw [if_pos rfl] at H; exact H
                clear H
                have H := H1
                clear H1
                by_cases c219 : t398 = true
                · subst c219
                  have H1 : (if 0 ≤ t340 then (laws_FnFamilies.j5 k3 t340 t391 true t395 true x26_3 (decide (x26_3 < (shl .i64 1 t340)))) else (none)) = some r := by rw [if_pos rfl] at H; exact H
                  clear H
                  have H := H1
                  clear H1
                  by_cases c220 : 0 ≤ t340
                  · rw [if_pos c220] at H
                    have c220b0 := eq_true c220
                    have c220b1 : decide (0 ≤ t340) = true := decide_eq_true c220
                    clear c220
                    obtain ⟨ji221, hji221⟩ : ∃ j_ : Int, (shl .i64 1 t340) = j_ := ⟨_, rfl⟩
                    replace H : (laws_FnFamilies.j5 k3 t340 t391 true t395 true x26_3 (decide (x26_3 < (ji221)))) = some r := by first | (rw [hji221] at H; exact H) | (simp only [hji221] at H ⊢; exact H)
                    have hji221_ : (IntKind.i64.wrap (1 * 2 ^ min t340.toNat 64)) = ji221 := hji221
                    have hji221z : t340 ≤ 64 → (IntKind.i64.wrap (1 * 2 ^ t340.toNat)) = ji221 := shl_small hji221
                    have hji221u : (IntKind.i64.wrap (2 ^ min t340.toNat 64)) = ji221 := by have h_ := hji221_; rw [Int.one_mul] at h_; exact h_
                    have hji221v : t340 ≤ 64 → (IntKind.i64.wrap (2 ^ t340.toNat)) = ji221 := fun hle_ => by have h_ := hji221z hle_; rw [Int.one_mul] at h_; exact h_
                    have hji221y : (wrap64 (1 * 2 ^ min t340.toNat 64)) = ji221 := (i64_w _).symm.trans hji221_
                    have hji221x : t340 ≤ 64 → (wrap64 (1 * 2 ^ t340.toNat)) = ji221 := fun h_ => (i64_w _).symm.trans (hji221z h_)
                    have H' := Aside0.mk H
                    clear H
                    go_wp2
                    go_meet
                    case rel => exact ⟨_, (decide (x26_3 < (ji221))), (by first | rfl | (simp; done) | (simp only [← hji221] <;> (first | rfl | simp)) | (simp [*]; done)), H', ⟨by have := HJ12.out; have := HJ178.out; have := HK3.out; first | omega | exact Nat.le_refl _⟩, ⟨pN HO_22⟩, ⟨pN HO_24⟩, ⟨pN HO_347001⟩, ⟨pN HO_353001⟩, ⟨pN HO_359001⟩, ⟨pN HO_365001⟩, ⟨pN HO_375001⟩, ⟨pN HO_381001⟩, ⟨pB BK346⟩, ⟨pB BK352⟩, ⟨pB BK358⟩, ⟨pB BK364⟩, ⟨pB BK374⟩, ⟨pB BK380⟩, ⟨b6 HB GE346 GE352 GE358 GE364 GE374 GE380⟩⟩
                  · rw [if_neg c220] at H
                    exact absurd H (by simp)
                · replace c219 := Bool.eq_false_iff.mpr c219
                  subst c219
                  have H1 : (laws_FnFamilies.j5 k3 t340 t391 true t395 false x26_3 false) = some r := by rw [if_neg (show ¬ (false = true) by decide)] at H; exact H
                  clear H
                  have H := H1
                  clear H1
                  have H' := Aside0.mk H
                  clear H
                  go_wp2
                  go_meet
                  case rel => exact ⟨_, (false), rD, H', ⟨by have := HJ12.out; have := HJ178.out; have := HK3.out; first | omega | exact Nat.le_refl _⟩, ⟨pN HO_22⟩, ⟨pN HO_24⟩, ⟨pN HO_347001⟩, ⟨pN HO_353001⟩, ⟨pN HO_359001⟩, ⟨pN HO_365001⟩, ⟨pN HO_375001⟩, ⟨pN HO_381001⟩, ⟨pB BK346⟩, ⟨pB BK352⟩, ⟨pB BK358⟩, ⟨pB BK364⟩, ⟨pB BK374⟩, ⟨pB BK380⟩, ⟨b6 HB GE346 GE352 GE358 GE364 GE374 GE380⟩⟩
              · replace c218 := Bool.eq_false_iff.mpr c218
                subst c218
                have H1 : (laws_FnFamilies.j5 k3 t340 t391 false t395 t398 x26_3 false) = some r := by rw [if_neg (show ¬ (false = true) by decide)] at H; exact H
                clear H
                have H := H1
                clear H1
                have H' := Aside0.mk H
                clear H
                go_wp2
                go_meet
                case rel => exact ⟨_, (false), rD, H', ⟨by have := HJ12.out; have := HJ178.out; have := HK3.out; first | omega | exact Nat.le_refl _⟩, ⟨pN HO_22⟩, ⟨pN HO_24⟩, ⟨pN HO_347001⟩, ⟨pN HO_353001⟩, ⟨pN HO_359001⟩, ⟨pN HO_365001⟩, ⟨pN HO_375001⟩, ⟨pN HO_381001⟩, ⟨pB BK346⟩, ⟨pB BK352⟩, ⟨pB BK358⟩, ⟨pB BK364⟩, ⟨pB BK374⟩, ⟨pB BK380⟩, ⟨b6 HB GE346 GE352 GE358 GE364 GE374 GE380⟩⟩
             case rest =>
              clear HC217
              try clear c3
              try clear c178
              try clear c201
              try clear hcz17_0
              try clear hcz17_1
              try clear hcz209_0
              try clear hcz209_1
              try clear hcz215_0
              try clear hcz215_1
              try clear hcz22_0
              try clear hcz22_1
              try clear hcz28_0
              try clear hcz28_1
              try clear hcz35_0
              try clear hcz35_1
              try clear hcz46_0
              try clear hcz46_1
              try clear hcz55_0
              try clear hcz55_1
              try clear hfz17_0
              try clear hfz17_1
              try clear hfz209_0
              try clear hfz209_1
              try clear hfz215_0
              try clear hfz215_1
              try clear hfz22_0
              try clear hfz22_1
              try clear hfz28_0
              try clear hfz28_1
              try clear hfz35_0
              try clear hfz35_1
              try clear hfz46_0
              try clear hfz46_1
              try clear hfz55_0
              try clear hfz55_1
              obtain ⟨kq, x168_216, rfl, HA, HJ216, HO_22, HO_24, HO_347001, HO_353001, HO_359001, HO_365001, HO_375001, HO_381001, BK346, BK352, BK358, BK364, BK374, BK380, HB⟩ := hcut
              cases kq with
              | zero => exact absurd HA.out (by simp [laws_FnFamilies.j5])
              | succ kj216 =>
               have H := HA.out
               clear HA
               simp only [laws_FnFamilies.j5] at H
               by_cases c222 : x168_216 = true
               · subst c222
                 have H1 : (laws_FnFamilies.l2 kj216 t340 t391 t394 t395 t398 x26_3 0 0) = some r := by rw [if_pos rfl] at H; exact H
                 clear H
                 have H := H1
                 clear H1
                 have H' := Aside0.mk H
                 clear H
                 go_wp2
                 go_loopg [27, 28] kj216 (fun kq v27 v28 w' => ∃ (x27_5 : Int) (x28_5 : Int), v27 = .int .i64 x27_5 ∧ v28 = .int .i64 x28_5 ∧ Aside0 (laws_FnFamilies.l2 kq t340 t391 t394 t395 t398 x26_3 x27_5 x28_5 = some r) ∧ Aside0 (kq ≤ kj216) ∧ Aside0 (Kd.N (Kd.slice 3 (Kd.int .i64)) 35 w' w.heap.size (fun k_ => some k_ ≠ (v396 : Value).ownBlock ∧ some k_ ≠ ((.slice Ao18 t342.length co18) : Value).ownBlock ∧ some k_ ≠ ((.slice Ao23 t348.length co23) : Value).ownBlock ∧ some k_ ≠ ((.slice Ao29 t354.length co29) : Value).ownBlock ∧ some k_ ≠ ((.slice Ao36 t360.length co36) : Value).ownBlock ∧ some k_ ≠ ((.slice Ao47 t370.length co47) : Value).ownBlock ∧ some k_ ≠ ((.slice Ao56 t376.length co56) : Value).ownBlock ∧ k_ ≠ gb346 ∧ k_ ≠ gb352 ∧ k_ ≠ gb358 ∧ k_ ≠ gb364 ∧ k_ ≠ gb374 ∧ k_ ≠ gb380) v392 t391) ∧ Aside0 (Kd.N (Kd.slice 3 (Kd.int .i64)) 35 w' w.heap.size (fun k_ => some k_ ≠ (v392 : Value).ownBlock ∧ some k_ ≠ ((.slice Ao18 t342.length co18) : Value).ownBlock ∧ some k_ ≠ ((.slice Ao23 t348.length co23) : Value).ownBlock ∧ some k_ ≠ ((.slice Ao29 t354.length co29) : Value).ownBlock ∧ some k_ ≠ ((.slice Ao36 t360.length co36) : Value).ownBlock ∧ some k_ ≠ ((.slice Ao47 t370.length co47) : Value).ownBlock ∧ some k_ ≠ ((.slice Ao56 t376.length co56) : Value).ownBlock ∧ k_ ≠ gb346 ∧ k_ ≠ gb352 ∧ k_ ≠ gb358 ∧ k_ ≠ gb364 ∧ k_ ≠ gb374 ∧ k_ ≠ gb380) v396 t395) ∧ Aside0 (Kd.N (Kd.slice 45 k45) 43 w' w.heap.size (fun k_ => some k_ ≠ (v392 : Value).ownBlock ∧ some k_ ≠ (v396 : Value).ownBlock ∧ some k_ ≠ ((.slice Ao23 t348.length co23) : Value).ownBlock ∧ some k_ ≠ ((.slice Ao29 t354.length co29) : Value).ownBlock ∧ some k_ ≠ ((.slice Ao36 t360.length co36) : Value).ownBlock ∧ some k_ ≠ ((.slice Ao47 t370.length co47) : Value).ownBlock ∧ some k_ ≠ ((.slice Ao56 t376.length co56) : Value).ownBlock ∧ k_ ≠ gb346 ∧ k_ ≠ gb352 ∧ k_ ≠ gb358 ∧ k_ ≠ gb364 ∧ k_ ≠ gb374 ∧ k_ ≠ gb380) (.slice Ao18 t342.length co18) t342) ∧ Aside0 (Kd.N (Kd.slice 45 k45) 43 w' w.heap.size (fun k_ => some k_ ≠ (v392 : Value).ownBlock ∧ some k_ ≠ (v396 : Value).ownBlock ∧ some k_ ≠ ((.slice Ao18 t342.length co18) : Value).ownBlock ∧ some k_ ≠ ((.slice Ao29 t354.length co29) : Value).ownBlock ∧ some k_ ≠ ((.slice Ao36 t360.length co36) : Value).ownBlock ∧ some k_ ≠ ((.slice Ao47 t370.length co47) : Value).ownBlock ∧ some k_ ≠ ((.slice Ao56 t376.length co56) : Value).ownBlock ∧ k_ ≠ gb346 ∧ k_ ≠ gb352 ∧ k_ ≠ gb358 ∧ k_ ≠ gb364 ∧ k_ ≠ gb374 ∧ k_ ≠ gb380) (.slice Ao23 t348.length co23) t348) ∧ Aside0 (Kd.N (Kd.slice 45 k45) 43 w' w.heap.size (fun k_ => some k_ ≠ (v392 : Value).ownBlock ∧ some k_ ≠ (v396 : Value).ownBlock ∧ some k_ ≠ ((.slice Ao18 t342.length co18) : Value).ownBlock ∧ some k_ ≠ ((.slice Ao23 t348.length co23) : Value).ownBlock ∧ some k_ ≠ ((.slice Ao36 t360.length co36) : Value).ownBlock ∧ some k_ ≠ ((.slice Ao47 t370.length co47) : Value).ownBlock ∧ some k_ ≠ ((.slice Ao56 t376.length co56) : Value).ownBlock ∧ k_ ≠ gb346 ∧ k_ ≠ gb352 ∧ k_ ≠ gb358 ∧ k_ ≠ gb364 ∧ k_ ≠ gb374 ∧ k_ ≠ gb380) (.slice Ao29 t354.length co29) t354) ∧ Aside0 (Kd.N (Kd.slice 45 k45) 43 w' w.heap.size (fun k_ => some k_ ≠ (v392 : Value).ownBlock ∧ some k_ ≠ (v396 : Value).ownBlock ∧ some k_ ≠ ((.slice Ao18 t342.length co18) : Value).ownBlock ∧ some k_ ≠ ((.slice Ao23 t348.length co23) : Value).ownBlock ∧ some k_ ≠ ((.slice Ao29 t354.length co29) : Value).ownBlock ∧ some k_ ≠ ((.slice Ao47 t370.length co47) : Value).ownBlock ∧ some k_ ≠ ((.slice Ao56 t376.length co56) : Value).ownBlock ∧ k_ ≠ gb346 ∧ k_ ≠ gb352 ∧ k_ ≠ gb358 ∧ k_ ≠ gb364 ∧ k_ ≠ gb374 ∧ k_ ≠ gb380) (.slice Ao36 t360.length co36) t360) ∧ Aside0 (Kd.N (Kd.slice 45 k45) 43 w' w.heap.size (fun k_ => some k_ ≠ (v392 : Value).ownBlock ∧ some k_ ≠ (v396 : Value).ownBlock ∧ some k_ ≠ ((.slice Ao18 t342.length co18) : Value).ownBlock ∧ some k_ ≠ ((.slice Ao23 t348.length co23) : Value).ownBlock ∧ some k_ ≠ ((.slice Ao29 t354.length co29) : Value).ownBlock ∧ some k_ ≠ ((.slice Ao36 t360.length co36) : Value).ownBlock ∧ some k_ ≠ ((.slice Ao56 t376.length co56) : Value).ownBlock ∧ k_ ≠ gb346 ∧ k_ ≠ gb352 ∧ k_ ≠ gb358 ∧ k_ ≠ gb364 ∧ k_ ≠ gb374 ∧ k_ ≠ gb380) (.slice Ao47 t370.length co47) t370) ∧ Aside0 (Kd.N (Kd.slice 45 k45) 43 w' w.heap.size (fun k_ => some k_ ≠ (v392 : Value).ownBlock ∧ some k_ ≠ (v396 : Value).ownBlock ∧ some k_ ≠ ((.slice Ao18 t342.length co18) : Value).ownBlock ∧ some k_ ≠ ((.slice Ao23 t348.length co23) : Value).ownBlock ∧ some k_ ≠ ((.slice Ao29 t354.length co29) : Value).ownBlock ∧ some k_ ≠ ((.slice Ao36 t360.length co36) : Value).ownBlock ∧ some k_ ≠ ((.slice Ao47 t370.length co47) : Value).ownBlock ∧ k_ ≠ gb346 ∧ k_ ≠ gb352 ∧ k_ ≠ gb358 ∧ k_ ≠ gb364 ∧ k_ ≠ gb374 ∧ k_ ≠ gb380) (.slice Ao56 t376.length co56) t376) ∧ Aside0 (w'.heap[gb346]? = some (.cells #[.int .i64 t341, (.slice Ao18 t342.length co18)] 27 (0, 0))) ∧ Aside0 (w'.heap[gb352]? = some (.cells #[.int .i64 t347, (.slice Ao23 t348.length co23)] 27 (0, 0))) ∧ Aside0 (w'.heap[gb358]? = some (.cells #[.int .i64 t353, (.slice Ao29 t354.length co29)] 27 (0, 0))) ∧ Aside0 (w'.heap[gb364]? = some (.cells #[.int .i64 t359, (.slice Ao36 t360.length co36)] 27 (0, 0))) ∧ Aside0 (w'.heap[gb374]? = some (.cells #[.int .i64 t369, (.slice Ao47 t370.length co47)] 27 (0, 0))) ∧ Aside0 (w'.heap[gb380]? = some (.cells #[.int .i64 t375, (.slice Ao56 t376.length co56)] 27 (0, 0))) ∧ Aside0 (Below w.heap.size w w'))
                 case atStart => exact ⟨(0), (0), rD, rD, H', ⟨Nat.le_refl _⟩, ⟨pN HO_22⟩, ⟨pN HO_24⟩, ⟨pN HO_347001⟩, ⟨pN HO_353001⟩, ⟨pN HO_359001⟩, ⟨pN HO_365001⟩, ⟨pN HO_375001⟩, ⟨pN HO_381001⟩, ⟨pB BK346⟩, ⟨pB BK352⟩, ⟨pB BK358⟩, ⟨pB BK364⟩, ⟨pB BK374⟩, ⟨pB BK380⟩, ⟨b6 HB GE346 GE352 GE358 GE364 GE374 GE380⟩⟩
                 case round =>
                  clear H'
                  try clear c3
                  try clear c178
                  try clear c201
                  try clear c222
                  try clear hcz17_0
                  try clear hcz17_1
                  try clear hcz209_0
                  try clear hcz209_1
                  try clear hcz215_0
                  try clear hcz215_1
                  try clear hcz22_0
                  try clear hcz22_1
                  try clear hcz28_0
                  try clear hcz28_1
                  try clear hcz35_0
                  try clear hcz35_1
                  try clear hcz46_0
                  try clear hcz46_1
                  try clear hcz55_0
                  try clear hcz55_1
                  try clear hfz17_0
                  try clear hfz17_1
                  try clear hfz209_0
                  try clear hfz209_1
                  try clear hfz215_0
                  try clear hfz215_1
                  try clear hfz22_0
                  try clear hfz22_1
                  try clear hfz28_0
                  try clear hfz28_1
                  try clear hfz35_0
                  try clear hfz35_1
                  try clear hfz46_0
                  try clear hfz46_1
                  try clear hfz55_0
                  try clear hfz55_1
                  obtain ⟨x27_5, x28_5, rfl, rfl, HA, HK5, HO_22, HO_24, HO_347001, HO_353001, HO_359001, HO_365001, HO_375001, HO_381001, BK346, BK352, BK358, BK364, BK374, BK380, HB⟩ := hrel
                  cases gk with
                  | zero => exact absurd HA.out (by simp [laws_FnFamilies.l2])
                  | succ k5 =>
                   have H := HA.out
                   clear HA
                   simp only [laws_FnFamilies.l2] at H
                   by_cases c223 : x28_5 < t340
                   · rw [if_pos c223] at H
                     have c223b0 : decide (x28_5 < t340) = true := decide_eq_true c223
                     clear c223
                     by_cases c224 : 0 ≤ x28_5
                     · rw [if_pos c224] at H
                       have c224b0 := eq_true c224
                       have c224b1 : decide (0 ≤ x28_5) = true := decide_eq_true c224
                       clear c224
                       obtain ⟨ji225, hji225⟩ : ∃ j_ : Int, (shr .i64 x26_3 x28_5) = j_ := ⟨_, rfl⟩
                       replace H : (laws_FnFamilies.l2 k5 t340 t391 t394 t395 t398 x26_3 (wrap64 (x27_5 + (Go.bits .and .i64 (ji225) 1))) (wrap64 (x28_5 + 1))) = some r := by first | (rw [hji225] at H; exact H) | (simp only [hji225] at H ⊢; exact H)
                       have hji225_ : (x26_3 / 2 ^ min x28_5.toNat 64) = ji225 := hji225
                       have hji225z : x28_5 ≤ 64 → (x26_3 / 2 ^ x28_5.toNat) = ji225 := shr_small hji225
                       have H' := Aside0.mk H
                       clear H
                       go_wp2
                       go_roundg k5
                       case measure => have := HJ12.out; have := HJ178.out; have := HK3.out; have := HJ216.out; have := HK5.out; omega
                       case rel => exact ⟨(wrap64 (x27_5 + (Go.bits .and .i64 (ji225) 1))), (wrap64 (x28_5 + 1)), (by first | rfl | (simp; done) | (simp only [← hji225] <;> (first | rfl | simp)) | (simp [*]; done)), rD, H', ⟨by have := HJ12.out; have := HJ178.out; have := HK3.out; have := HJ216.out; have := HK5.out; omega⟩, ⟨pN HO_22⟩, ⟨pN HO_24⟩, ⟨pN HO_347001⟩, ⟨pN HO_353001⟩, ⟨pN HO_359001⟩, ⟨pN HO_365001⟩, ⟨pN HO_375001⟩, ⟨pN HO_381001⟩, ⟨pB BK346⟩, ⟨pB BK352⟩, ⟨pB BK358⟩, ⟨pB BK364⟩, ⟨pB BK374⟩, ⟨pB BK380⟩, ⟨b6 HB GE346 GE352 GE358 GE364 GE374 GE380⟩⟩
                     · rw [if_neg c224] at H
                       exact absurd H (by simp)
                   · rw [if_neg c223] at H
                     have c223b0 : decide (x28_5 < t340) = false := decide_eq_false c223
                     clear c223
                     by_cases c226 : 0 < (t391.length : Int)
                     · rw [if_pos c226] at H
                       have c226b0 : decide (0 < (t391.length : Int)) = true := decide_eq_true c226
                       have c226b1 : decide (0 < t391.length) = true := decide_eq_true (by omega)
                       clear c226
                       by_cases c227 : 0 ≤ x26_3
                       · rw [if_pos c227] at H
                         have c227b0 : decide (0 ≤ x26_3) = true := decide_eq_true c227
                         clear c227
                         by_cases c228 : x26_3 < ((rd_L3 t391 0).length : Int)
                         · rw [if_pos c228] at H
                           have c228b0 : decide (x26_3 < ((rd_L3 t391 0).length : Int)) = true := decide_eq_true c228
                           clear c228
                           by_cases c229 : (rd (rd_L3 t391 0) x26_3) = (Int.tmod x27_5 2)
                           · rw [if_pos c229] at H
                             have c229b0 : ((rd (rd_L3 t391 0) x26_3) == (Int.tmod x27_5 2)) = true := beq_iff_eq.mpr c229
                             have c229b1 : ((rd (rd_L3 t391 0) x26_3) != (Int.tmod x27_5 2)) = false := bne_eq_false_iff_eq.mpr c229
                             clear c229
                             by_cases c230 : 0 < (t395.length : Int)
                             · rw [if_pos c230] at H
                               have c230b0 : decide (0 < (t395.length : Int)) = true := decide_eq_true c230
                               have c230b1 : decide (0 < t395.length) = true := decide_eq_true (by omega)
                               clear c230
                               by_cases c231 : x26_3 < ((rd_L3 t395 0).length : Int)
                               · rw [if_pos c231] at H
                                 have c231b0 : decide (x26_3 < ((rd_L3 t395 0).length : Int)) = true := decide_eq_true c231
                                 clear c231
                                 by_cases c232 : (((rd (rd_L3 t395 0) x26_3) == 1) != (decide ((wrap64 (2 * x27_5)) > t340))) = true
                                 · rw [if_pos c232] at H
                                   have c232b0 : (((rd (rd_L3 t395 0) x26_3) == 1) != (decide ((wrap64 (2 * x27_5)) > t340))) = true := c232
                                   (try (have c232b1 : decide (((rd (rd_L3 t395 0) x26_3) == 1) = (decide ((wrap64 (2 * x27_5)) > t340))) = false := by simpa using c232))
                                   (try (have c232b2 : (((rd (rd_L3 t395 0) x26_3) == 1) == (decide ((wrap64 (2 * x27_5)) > t340))) = false := by simpa using c232))
                                   (try (have c232b3 : ¬ (((rd (rd_L3 t395 0) x26_3) == 1) = (decide ((wrap64 (2 * x27_5)) > t340))) := by simpa using c232))
                                   clear c232
                                   obtain rfl := Option.some.inj H
                                   obtain ⟨Ao233, co233, eo233⟩ := Kd.N_slice HO_22.out
                                   subst eo233
                                   have p399 : 0 ≤ (0 : Int) := (by omega)
                                   have q399 : 0 < (t391.length : Int) := of_decide_eq_true aS
                                   obtain ⟨ad399, A399_0, c399_0, e399, hx399_0, hl399_0, hi399_0⟩ := at_L3 (Kd.N_reads' HO_22.out).2.2 0 p399 q399
                                   cases e399
                                   obtain ⟨ce399, hce399, hMe399, hcc399⟩ := Kd.N_get HO_22.out [] 0 p399 (by first | exact q399 | exact of_decide_eq_true aS | (have e_ := (Kd.N_reads' HO_22.out).1; omega))
                                   obtain ⟨ua399_0, uc399_0, rfl, ul399_0, ge399_0⟩ := Kd.FK_slice_open hMe399
                                   have hv399_0 := hcc399 0 _ rfl
                                   rw [Nat.add_zero, show ((Kd.slice 3 (Kd.int .i64))).sz = 1 from rfl, Nat.mul_one] at hv399_0
                                   replace hv399_0 := Option.some.inj (hv399_0.symm.trans hx399_0)
                                   injection hv399_0 with hva_ hvn_ hvc_
                                   rw [hva_] at ge399_0
                                   rw [hvc_] at ul399_0
                                   have HL399_0 := Aside0.mk (show Kd.V (Kd.int .i64) 3 _ w.heap.size _ _ (rd_L3 t391 0) from Kd.V_mk ul399_0 ge399_0)
                                   clear hva_ hvn_ hvc_ ge399_0 ul399_0
                                   clear hcc399 hce399
                                   have qi399 : (0 < t391.length) = True := eq_true (by omega)
                                   (try rw [show ((0 : Int)).toNat = 0 from rfl] at hx399_0)
                                   (try rw [Addr.add_zero'] at hx399_0)
                                   have HR399_0 := Aside0.mk hi399_0
                                   have HC399_0 := Aside0.mk hl399_0
                                   clear hi399_0 hl399_0
                                   replace p399 := eq_true p399
                                   replace q399 := eq_true q399
                                   have p400 : 0 ≤ (x26_3 : Int) := of_decide_eq_true aS
                                   have q400 : x26_3 < ((rd_L3 t391 0).length : Int) := of_decide_eq_true aS
                                   obtain ⟨ad400, e400, hx400_0⟩ := Kd.at_int (by repeat (first | (with_reducible exact HR399_0.out) | (with_reducible refine Kd.C_alloc ?_ _) | (with_reducible refine Kd.C_drewN ?_ _) | (with_reducible refine Kd.C_drew ?_) | exact HR399_0.out)) x26_3 p400 q400
                                   cases e400
                                   replace p400 := eq_true p400
                                   replace q400 := eq_true q400
                                   obtain ⟨Ao234, co234, eo234⟩ := Kd.N_slice HO_24.out
                                   subst eo234
                                   have p401 : 0 ≤ (0 : Int) := (by omega)
                                   have q401 : 0 < (t395.length : Int) := of_decide_eq_true aS
                                   obtain ⟨ad401, A401_0, c401_0, e401, hx401_0, hl401_0, hi401_0⟩ := at_L3 (Kd.N_reads' HO_24.out).2.2 0 p401 q401
                                   cases e401
                                   obtain ⟨ce401, hce401, hMe401, hcc401⟩ := Kd.N_get HO_24.out [] 0 p401 (by first | exact q401 | exact of_decide_eq_true aS | (have e_ := (Kd.N_reads' HO_24.out).1; omega))
                                   obtain ⟨ua401_0, uc401_0, rfl, ul401_0, ge401_0⟩ := Kd.FK_slice_open hMe401
                                   have hv401_0 := hcc401 0 _ rfl
                                   rw [Nat.add_zero, show ((Kd.slice 3 (Kd.int .i64))).sz = 1 from rfl, Nat.mul_one] at hv401_0
                                   replace hv401_0 := Option.some.inj (hv401_0.symm.trans hx401_0)
                                   injection hv401_0 with hva_ hvn_ hvc_
                                   rw [hva_] at ge401_0
                                   rw [hvc_] at ul401_0
                                   have HL401_0 := Aside0.mk (show Kd.V (Kd.int .i64) 3 _ w.heap.size _ _ (rd_L3 t395 0) from Kd.V_mk ul401_0 ge401_0)
                                   clear hva_ hvn_ hvc_ ge401_0 ul401_0
                                   clear hcc401 hce401
                                   have qi401 : (0 < t395.length) = True := eq_true (by omega)
                                   (try rw [show ((0 : Int)).toNat = 0 from rfl] at hx401_0)
                                   (try rw [Addr.add_zero'] at hx401_0)
                                   have HR401_0 := Aside0.mk hi401_0
                                   have HC401_0 := Aside0.mk hl401_0
                                   clear hi401_0 hl401_0
                                   replace p401 := eq_true p401
                                   replace q401 := eq_true q401
                                   have p402 : 0 ≤ (x26_3 : Int) := of_decide_eq_true aS
                                   have q402 : x26_3 < ((rd_L3 t395 0).length : Int) := of_decide_eq_true aS
                                   obtain ⟨ad402, e402, hx402_0⟩ := Kd.at_int (by repeat (first | (with_reducible exact HR401_0.out) | (with_reducible refine Kd.C_alloc ?_ _) | (with_reducible refine Kd.C_drewN ?_ _) | (with_reducible refine Kd.C_drew ?_) | exact HR401_0.out)) x26_3 p402 q402
                                   cases e402
                                   replace p402 := eq_true p402
                                   replace q402 := eq_true q402
                                   go_wp2
                                   go_ret
                                   exact ⟨eW, b6 HB GE346 GE352 GE358 GE364 GE374 GE380⟩
                                 · rw [if_neg c232] at H
                                   have c232b0 : (((rd (rd_L3 t395 0) x26_3) == 1) != (decide ((wrap64 (2 * x27_5)) > t340))) = false := by simpa using c232
                                   (try (have c232b1 : decide (((rd (rd_L3 t395 0) x26_3) == 1) = (decide ((wrap64 (2 * x27_5)) > t340))) = true := by simpa using c232))
                                   (try (have c232b2 : (((rd (rd_L3 t395 0) x26_3) == 1) == (decide ((wrap64 (2 * x27_5)) > t340))) = true := by simpa using c232))
                                   clear c232
                                   have H' := Aside0.mk H
                                   clear H
                                   obtain ⟨Ao235, co235, eo235⟩ := Kd.N_slice HO_22.out
                                   subst eo235
                                   have p399 : 0 ≤ (0 : Int) := (by omega)
                                   have q399 : 0 < (t391.length : Int) := of_decide_eq_true aS
                                   obtain ⟨ad399, A399_0, c399_0, e399, hx399_0, hl399_0, hi399_0⟩ := at_L3 (Kd.N_reads' HO_22.out).2.2 0 p399 q399
                                   cases e399
                                   obtain ⟨ce399, hce399, hMe399, hcc399⟩ := Kd.N_get HO_22.out [] 0 p399 (by first | exact q399 | exact of_decide_eq_true aS | (have e_ := (Kd.N_reads' HO_22.out).1; omega))
                                   obtain ⟨ua399_0, uc399_0, rfl, ul399_0, ge399_0⟩ := Kd.FK_slice_open hMe399
                                   have hv399_0 := hcc399 0 _ rfl
                                   rw [Nat.add_zero, show ((Kd.slice 3 (Kd.int .i64))).sz = 1 from rfl, Nat.mul_one] at hv399_0
                                   replace hv399_0 := Option.some.inj (hv399_0.symm.trans hx399_0)
                                   injection hv399_0 with hva_ hvn_ hvc_
                                   rw [hva_] at ge399_0
                                   rw [hvc_] at ul399_0
                                   have HL399_0 := Aside0.mk (show Kd.V (Kd.int .i64) 3 _ w.heap.size _ _ (rd_L3 t391 0) from Kd.V_mk ul399_0 ge399_0)
                                   clear hva_ hvn_ hvc_ ge399_0 ul399_0
                                   clear hcc399 hce399
                                   have qi399 : (0 < t391.length) = True := eq_true (by omega)
                                   (try rw [show ((0 : Int)).toNat = 0 from rfl] at hx399_0)
                                   (try rw [Addr.add_zero'] at hx399_0)
                                   have HR399_0 := Aside0.mk hi399_0
                                   have HC399_0 := Aside0.mk hl399_0
                                   clear hi399_0 hl399_0
                                   replace p399 := eq_true p399
                                   replace q399 := eq_true q399
                                   have p400 : 0 ≤ (x26_3 : Int) := of_decide_eq_true aS
                                   have q400 : x26_3 < ((rd_L3 t391 0).length : Int) := of_decide_eq_true aS
                                   obtain ⟨ad400, e400, hx400_0⟩ := Kd.at_int (by repeat (first | (with_reducible exact HR399_0.out) | (with_reducible refine Kd.C_alloc ?_ _) | (with_reducible refine Kd.C_drewN ?_ _) | (with_reducible refine Kd.C_drew ?_) | exact HR399_0.out)) x26_3 p400 q400
                                   cases e400
                                   replace p400 := eq_true p400
                                   replace q400 := eq_true q400
                                   obtain ⟨Ao236, co236, eo236⟩ := Kd.N_slice HO_24.out
                                   subst eo236
                                   have p401 : 0 ≤ (0 : Int) := (by omega)
                                   have q401 : 0 < (t395.length : Int) := of_decide_eq_true aS
                                   obtain ⟨ad401, A401_0, c401_0, e401, hx401_0, hl401_0, hi401_0⟩ := at_L3 (Kd.N_reads' HO_24.out).2.2 0 p401 q401
                                   cases e401
                                   obtain ⟨ce401, hce401, hMe401, hcc401⟩ := Kd.N_get HO_24.out [] 0 p401 (by first | exact q401 | exact of_decide_eq_true aS | (have e_ := (Kd.N_reads' HO_24.out).1; omega))
                                   obtain ⟨ua401_0, uc401_0, rfl, ul401_0, ge401_0⟩ := Kd.FK_slice_open hMe401
                                   have hv401_0 := hcc401 0 _ rfl
                                   rw [Nat.add_zero, show ((Kd.slice 3 (Kd.int .i64))).sz = 1 from rfl, Nat.mul_one] at hv401_0
                                   replace hv401_0 := Option.some.inj (hv401_0.symm.trans hx401_0)
                                   injection hv401_0 with hva_ hvn_ hvc_
                                   rw [hva_] at ge401_0
                                   rw [hvc_] at ul401_0
                                   have HL401_0 := Aside0.mk (show Kd.V (Kd.int .i64) 3 _ w.heap.size _ _ (rd_L3 t395 0) from Kd.V_mk ul401_0 ge401_0)
                                   clear hva_ hvn_ hvc_ ge401_0 ul401_0
                                   clear hcc401 hce401
                                   have qi401 : (0 < t395.length) = True := eq_true (by omega)
                                   (try rw [show ((0 : Int)).toNat = 0 from rfl] at hx401_0)
                                   (try rw [Addr.add_zero'] at hx401_0)
                                   have HR401_0 := Aside0.mk hi401_0
                                   have HC401_0 := Aside0.mk hl401_0
                                   clear hi401_0 hl401_0
                                   replace p401 := eq_true p401
                                   replace q401 := eq_true q401
                                   have p402 : 0 ≤ (x26_3 : Int) := of_decide_eq_true aS
                                   have q402 : x26_3 < ((rd_L3 t395 0).length : Int) := of_decide_eq_true aS
                                   obtain ⟨ad402, e402, hx402_0⟩ := Kd.at_int (by repeat (first | (with_reducible exact HR401_0.out) | (with_reducible refine Kd.C_alloc ?_ _) | (with_reducible refine Kd.C_drewN ?_ _) | (with_reducible refine Kd.C_drew ?_) | exact HR401_0.out)) x26_3 p402 q402
                                   cases e402
                                   replace p402 := eq_true p402
                                   replace q402 := eq_true q402
                                   go_wp2
                                   go_roundg k5
                                   case measure => have := HJ12.out; have := HJ178.out; have := HK3.out; have := HJ216.out; have := HK5.out; omega
                                   case rel => exact ⟨(wrap64 (x26_3 + 1)), rD, H', ⟨by have := HJ12.out; have := HJ178.out; have := HK3.out; have := HJ216.out; have := HK5.out; omega⟩, ⟨pN HO_22⟩, ⟨pN HO_24⟩, ⟨pN HO_347001⟩, ⟨pN HO_353001⟩, ⟨pN HO_359001⟩, ⟨pN HO_365001⟩, ⟨pN HO_375001⟩, ⟨pN HO_381001⟩, ⟨pB BK346⟩, ⟨pB BK352⟩, ⟨pB BK358⟩, ⟨pB BK364⟩, ⟨pB BK374⟩, ⟨pB BK380⟩, ⟨b6 HB GE346 GE352 GE358 GE364 GE374 GE380⟩⟩
                               · rw [if_neg c231] at H
                                 exact absurd H (by simp)
                             · rw [if_neg c230] at H
                               exact absurd H (by simp)
                           · rw [if_neg c229] at H
                             have c229b0 : ((rd (rd_L3 t391 0) x26_3) == (Int.tmod x27_5 2)) = false := beq_eq_false_iff_ne.mpr c229
                             have c229b1 : ((rd (rd_L3 t391 0) x26_3) != (Int.tmod x27_5 2)) = true := bne_iff_ne.mpr c229
                             obtain rfl := Option.some.inj H
                             obtain ⟨Ao237, co237, eo237⟩ := Kd.N_slice HO_22.out
                             subst eo237
                             have p399 : 0 ≤ (0 : Int) := (by omega)
                             have q399 : 0 < (t391.length : Int) := of_decide_eq_true aS
                             obtain ⟨ad399, A399_0, c399_0, e399, hx399_0, hl399_0, hi399_0⟩ := at_L3 (Kd.N_reads' HO_22.out).2.2 0 p399 q399
                             cases e399
                             obtain ⟨ce399, hce399, hMe399, hcc399⟩ := Kd.N_get HO_22.out [] 0 p399 (by first | exact q399 | exact of_decide_eq_true aS | (have e_ := (Kd.N_reads' HO_22.out).1; omega))
                             obtain ⟨ua399_0, uc399_0, rfl, ul399_0, ge399_0⟩ := Kd.FK_slice_open hMe399
                             have hv399_0 := hcc399 0 _ rfl
                             rw [Nat.add_zero, show ((Kd.slice 3 (Kd.int .i64))).sz = 1 from rfl, Nat.mul_one] at hv399_0
                             replace hv399_0 := Option.some.inj (hv399_0.symm.trans hx399_0)
                             injection hv399_0 with hva_ hvn_ hvc_
                             rw [hva_] at ge399_0
                             rw [hvc_] at ul399_0
                             have HL399_0 := Aside0.mk (show Kd.V (Kd.int .i64) 3 _ w.heap.size _ _ (rd_L3 t391 0) from Kd.V_mk ul399_0 ge399_0)
                             clear hva_ hvn_ hvc_ ge399_0 ul399_0
                             clear hcc399 hce399
                             have qi399 : (0 < t391.length) = True := eq_true (by omega)
                             (try rw [show ((0 : Int)).toNat = 0 from rfl] at hx399_0)
                             (try rw [Addr.add_zero'] at hx399_0)
                             have HR399_0 := Aside0.mk hi399_0
                             have HC399_0 := Aside0.mk hl399_0
                             clear hi399_0 hl399_0
                             replace p399 := eq_true p399
                             replace q399 := eq_true q399
                             have p400 : 0 ≤ (x26_3 : Int) := of_decide_eq_true aS
                             have q400 : x26_3 < ((rd_L3 t391 0).length : Int) := of_decide_eq_true aS
                             obtain ⟨ad400, e400, hx400_0⟩ := Kd.at_int (by repeat (first | (with_reducible exact HR399_0.out) | (with_reducible refine Kd.C_alloc ?_ _) | (with_reducible refine Kd.C_drewN ?_ _) | (with_reducible refine Kd.C_drew ?_) | exact HR399_0.out)) x26_3 p400 q400
                             cases e400
                             replace p400 := eq_true p400
                             replace q400 := eq_true q400
                             go_wp2
                             go_ret
                             exact ⟨eW, b6 HB GE346 GE352 GE358 GE364 GE374 GE380⟩
                         · rw [if_neg c228] at H
                           exact absurd H (by simp)
                       · rw [if_neg c227] at H
                         exact absurd H (by simp)
                     · rw [if_neg c226] at H
                       exact absurd H (by simp)
               · replace c222 := Bool.eq_false_iff.mpr c222
                 subst c222
                 have H1 : (if t394 = true then (some t398) else (some false)) = some r := by rw [if_neg (show ¬ (false = true) by decide)] at H; exact H
                 clear H
                 have H := H1
                 clear H1
                 by_cases c238 : t394 = true
                 · subst c238
                   have H1 : (some t398) = some r := by rw [if_pos rfl] at H; exact H
                   clear H
                   have H := H1
                   clear H1
                   obtain rfl := Option.some.inj H
                   go_wp2
                   go_ret
                   exact ⟨eW, b6 HB GE346 GE352 GE358 GE364 GE374 GE380⟩
                 · replace c238 := Bool.eq_false_iff.mpr c238
                   subst c238
                   have H1 : (some false) = some r := by rw [if_neg (show ¬ (false = true) by decide)] at H; exact H
                   clear H
                   have H := H1
                   clear H1
                   obtain rfl := Option.some.inj H
                   go_wp2
                   go_ret
                   exact ⟨eW, b6 HB GE346 GE352 GE358 GE364 GE374 GE380⟩
         · replace c201 := Bool.eq_false_iff.mpr c201
           subst c201
           have H1 : (some true) = some r := by rw [if_neg (show ¬ (false = true) by decide)] at H; exact H
           clear H
           have H := H1
           clear H1
           obtain rfl := Option.some.inj H
           go_wp2
           go_ret
           exact ⟨eW, b6 HB GE346 GE352 GE358 GE364 GE374 GE380⟩

/-- THE ONE PURE STATEMENT of laws_FnFamilies: yours. -/
def laws_FnFamilies.Pure : Prop := ∀ (l0 : List Int), l0.length ≤ maxLen → l0.length * 1 ≤ 140737488351232 → (∀ x ∈ l0, (Lit.int .u8 x).wf = true) → ∃ k, laws_FnFamilies.f k l0 = some true
theorem laws_FnFamilies.walk (P : laws_FnFamilies.Pure) (a0 : Option Addr) (len0 cap0 : Nat) (z0 : List Int) (w : World) (w0 : (a0 = none ∧ len0 = 0 ∧ cap0 = 0 ∧ z0 = []) ∨ ∃ x, a0 = some x ∧ len0 ≤ cap0 ∧ cap0 ≤ maxLen ∧ z0.length = cap0 ∧ (∀ i, i < z0.length → w.cell? (x.add i) = some (.int .u8 (z0.getD i 0))) ∧ ∀ n ∈ z0, (Lit.int .u8 n).wf = true) (y0 : len0 * 1 ≤ 140737488351232) :
 Calls Try.prog 3 #[.slice a0 len0 cap0] w fun e w' => e = .returned (.bool true) ∧ Below w.heap.size w w' := by
 obtain ⟨l0, rfl, hr0, hm0, hw0, hc0⟩ := ReadsInt.ofRowC w0
 obtain ⟨k, h⟩ := P l0 hm0 y0 hw0
 refine (laws_FnFamilies.calls k _ _ l0 true w (Kd.C_of_reads (d := (0 : Int)) (h1 := fun _ => rfl) hr0) hc0 h).mono ?_
 rintro e w' ⟨rfl, hd⟩
 exact ⟨rfl, hd⟩

end Go.Proofs.Ytfbncebnngldmaa.PFnFamilies
