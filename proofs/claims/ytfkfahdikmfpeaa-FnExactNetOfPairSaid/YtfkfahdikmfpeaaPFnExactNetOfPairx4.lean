import Derived.Test.YtfkfahdikmfpeaaPFnExactNetOfPairx0
import Derived.Test.YtfkfahdikmfpeaaSh
namespace Go.Proofs.Ytfkfahdikmfpeaa.PFnExactNetOfPair
open Go.RowKit Go.Proofs.Ytfkfahdikmfpeaa.Sh Go.Proofs.YtfkfahdikmfpeaaW.PrintWords Go.Proofs.YtfkfahdikmfpeaaW.PrintLast Go.Proofs.YtfkfahdikmfpeaaW.PrintMore
attribute [local go_sem] max2_int min2_int max_two min_two max_three min_three max_four min_four
set_option linter.unusedVariables false
set_option maxHeartbeats 8000000
set_option maxRecDepth 100000
set_option linter.unusedSimpArgs false

def spec_l9Joined.l0 : Nat → List Int → List Int → List Int → List Int → Int → Option (Bool)
 | 0, _, _, _, _, _ => none
 | k + 1, x0, x1, x2, x3, x9 => if x9 < (x0.length : Int) then (if 0 ≤ x9 then (if x9 < (x1.length : Int) then (if x9 < (x2.length : Int) then (if 0 ≤ (wrap64 ((rd x1 x9) + (wrap64 (2 * (rd x2 x9))))) then (if (wrap64 ((rd x1 x9) + (wrap64 (2 * (rd x2 x9))))) < (x3.length : Int) then (if (rd x3 (wrap64 ((rd x1 x9) + (wrap64 (2 * (rd x2 x9)))))) = (rd x0 x9) then (spec_l9Joined.l0 k x0 x1 x2 x3 (wrap64 (x9 + 1))) else (some false)) else (none)) else (none)) else (none)) else (none)) else (none)) else (some true)
def spec_l9Joined.f (k : Nat) (l0 : List Int) (l1 : List Int) (l2 : List Int) (l3 : List Int) : Option (Bool) := spec_l9Joined.l0 k l0 l1 l2 l3 0
theorem spec_l9Joined.calls (k : Nat) (A0 : Option Addr) (c0 : Nat) (l0 : List Int) (A1 : Option Addr) (c1 : Nat) (l1 : List Int) (A2 : Option Addr) (c2 : Nat) (l2 : List Int) (A3 : Option Addr) (c3 : Nat) (l3 : List Int) (r : Bool) (w : World) (hr0 : Kd.C (Kd.int .i64) w A0 l0.length l0) (hc0 : l0.length ≤ c0) (hr1 : Kd.C (Kd.int .i64) w A1 l1.length l1) (hc1 : l1.length ≤ c1) (hr2 : Kd.C (Kd.int .i64) w A2 l2.length l2) (hc2 : l2.length ≤ c2) (hr3 : Kd.C (Kd.int .i64) w A3 l3.length l3) (hc3 : l3.length ≤ c3) (h : spec_l9Joined.f k l0 l1 l2 l3 = some r) :
 Calls Try.prog 114 #[.slice A0 l0.length c0, .slice A1 l1.length c1, .slice A2 l2.length c2, .slice A3 l3.length c3] w fun e w' => e = .returned (.bool r) ∧ Drawn0 w w' := by
 have HR0 := Aside0.mk hr0; have HC0 := Aside0.mk hc0; clear hr0 hc0; have HR1 := Aside0.mk hr1; have HC1 := Aside0.mk hc1; clear hr1 hc1; have HR2 := Aside0.mk hr2; have HC2 := Aside0.mk hc2; clear hr2 hc2; have HR3 := Aside0.mk hr3; have HC3 := Aside0.mk hc3; clear hr3 hc3; have H : (spec_l9Joined.l0 k l0 l1 l2 l3 0) = some r := h; clear h; have H' := Aside0.mk H; clear H; go_enter Try.func114, Try.ntmps114; go_wp2; repeat (go_quiet (fail); try go_wp2)
 go_loopg [9] k (fun kq v9 w' => ∃ (x9_1 : Int), v9 = .int .i64 x9_1 ∧ Aside0 (spec_l9Joined.l0 kq l0 l1 l2 l3 x9_1 = some r) ∧ Aside0 (kq ≤ k) ∧ Drawn0 w w')
 case atStart => exact ⟨(0), rD, H', ⟨Nat.le_refl _⟩, by repeat (first | exact Drawn0.refl _ | apply Drawn0.step)⟩
 case round =>
  clear H'; try clear c1
  try clear c2
  try clear c3
  obtain ⟨x9_1, rfl, HA, HK1, ⟨m1, rfl⟩⟩ := hrel; cases gk with
  | zero => exact absurd HA.out (by simp [spec_l9Joined.l0])
  | succ k1 =>
   have H := HA.out; clear HA; simp only [spec_l9Joined.l0] at H; by_cases c5 : x9_1 < (l0.length : Int)
   · rw [if_pos c5] at H; have c5b0 : decide (x9_1 < (l0.length : Int)) = true := decide_eq_true c5; clear c5; by_cases c6 : 0 ≤ x9_1
     · rw [if_pos c6] at H; have c6b0 : decide (0 ≤ x9_1) = true := decide_eq_true c6; clear c6; by_cases c7 : x9_1 < (l1.length : Int)
       · rw [if_pos c7] at H; have c7b0 : decide (x9_1 < (l1.length : Int)) = true := decide_eq_true c7; clear c7; by_cases c8 : x9_1 < (l2.length : Int)
         · rw [if_pos c8] at H; have c8b0 : decide (x9_1 < (l2.length : Int)) = true := decide_eq_true c8; clear c8; obtain ⟨ji9, hji9⟩ : ∃ j_ : Int, (wrap64 ((rd l1 x9_1) + (wrap64 (2 * (rd l2 x9_1))))) = j_ := ⟨_, rfl⟩; replace H : (if 0 ≤ (ji9) then (if (ji9) < (l3.length : Int) then (if (rd l3 (ji9)) = (rd l0 x9_1) then (spec_l9Joined.l0 k1 l0 l1 l2 l3 (wrap64 (x9_1 + 1))) else (some false)) else (none)) else (none)) = some r := by first | (rw [hji9] at H; exact H) | (simp only [hji9] at H ⊢; exact H)
           have hji9w : (IntKind.i64.wrap ((rd l1 x9_1) + (wrap64 (2 * (rd l2 x9_1))))) = ji9 := (i64_w _).trans hji9; by_cases c10 : 0 ≤ (ji9)
           · rw [if_pos c10] at H; have c10b0 : decide (0 ≤ (ji9)) = true := decide_eq_true c10; clear c10; by_cases c11 : (ji9) < (l3.length : Int)
             · rw [if_pos c11] at H; have c11b0 : decide ((ji9) < (l3.length : Int)) = true := decide_eq_true c11; clear c11; by_cases c12 : (rd l3 (ji9)) = (rd l0 x9_1)
               · rw [if_pos c12] at H; have c12b0 : ((rd l3 (ji9)) == (rd l0 x9_1)) = true := beq_iff_eq.mpr c12; have c12b1 : ((rd l3 (ji9)) != (rd l0 x9_1)) = false := bne_eq_false_iff_eq.mpr c12; clear c12; have H' := Aside0.mk H; clear H; have p148 : 0 ≤ (x9_1 : Int) := of_decide_eq_true aS; have q148 : x9_1 < (l1.length : Int) := of_decide_eq_true aS; obtain ⟨ad148, e148, hx148_0⟩ := Kd.at_int HR1.out x9_1 p148 q148; cases e148
                 replace p148 := eq_true p148; replace q148 := eq_true q148; have p149 : 0 ≤ (x9_1 : Int) := of_decide_eq_true aS; have q149 : x9_1 < (l2.length : Int) := of_decide_eq_true aS; obtain ⟨ad149, e149, hx149_0⟩ := Kd.at_int HR2.out x9_1 p149 q149; cases e149
                 replace p149 := eq_true p149; replace q149 := eq_true q149; have p150 : 0 ≤ ((ji9) : Int) := of_decide_eq_true aS; have q150 : (ji9) < (l3.length : Int) := of_decide_eq_true aS; obtain ⟨ad150, e150, hx150_0⟩ := Kd.at_int HR3.out (ji9) p150 q150; cases e150
                 replace p150 := eq_true p150; replace q150 := eq_true q150; have p151 : 0 ≤ (x9_1 : Int) := of_decide_eq_true aS; have q151 : x9_1 < (l0.length : Int) := of_decide_eq_true aS; obtain ⟨ad151, e151, hx151_0⟩ := Kd.at_int HR0.out x9_1 p151 q151; cases e151
                 replace p151 := eq_true p151; replace q151 := eq_true q151; go_wp2; repeat (go_quiet (fail); try go_wp2)
                 go_roundg k1
                 case measure => have := HK1.out; omega
                 case rel => exact ⟨(wrap64 (x9_1 + 1)), rD, H', ⟨by have := HK1.out; omega⟩, by repeat (first | exact Drawn0.refl _ | apply Drawn0.step)⟩
               · rw [if_neg c12] at H; have c12b0 : ((rd l3 (ji9)) == (rd l0 x9_1)) = false := beq_eq_false_iff_ne.mpr c12; have c12b1 : ((rd l3 (ji9)) != (rd l0 x9_1)) = true := bne_iff_ne.mpr c12; obtain rfl := Option.some.inj H; have p148 : 0 ≤ (x9_1 : Int) := of_decide_eq_true aS; have q148 : x9_1 < (l1.length : Int) := of_decide_eq_true aS; obtain ⟨ad148, e148, hx148_0⟩ := Kd.at_int HR1.out x9_1 p148 q148; cases e148
                 replace p148 := eq_true p148; replace q148 := eq_true q148; have p149 : 0 ≤ (x9_1 : Int) := of_decide_eq_true aS; have q149 : x9_1 < (l2.length : Int) := of_decide_eq_true aS; obtain ⟨ad149, e149, hx149_0⟩ := Kd.at_int HR2.out x9_1 p149 q149; cases e149
                 replace p149 := eq_true p149; replace q149 := eq_true q149; have p150 : 0 ≤ ((ji9) : Int) := of_decide_eq_true aS; have q150 : (ji9) < (l3.length : Int) := of_decide_eq_true aS; obtain ⟨ad150, e150, hx150_0⟩ := Kd.at_int HR3.out (ji9) p150 q150; cases e150
                 replace p150 := eq_true p150; replace q150 := eq_true q150; have p151 : 0 ≤ (x9_1 : Int) := of_decide_eq_true aS; have q151 : x9_1 < (l0.length : Int) := of_decide_eq_true aS; obtain ⟨ad151, e151, hx151_0⟩ := Kd.at_int HR0.out x9_1 p151 q151; cases e151
                 replace p151 := eq_true p151; replace q151 := eq_true q151; go_wp2; repeat (go_quiet (fail); try go_wp2)
                 go_ret
                 exact ⟨by first | rfl | (simp; done) | (simp only [← hji9] <;> (first | rfl | simp)) | (simp [*]; done), by repeat (first | exact Drawn0.refl _ | apply Drawn0.step)⟩
             · rw [if_neg c11] at H; exact absurd H (by simp)
           · rw [if_neg c10] at H; exact absurd H (by simp)
         · rw [if_neg c8] at H; exact absurd H (by simp)
       · rw [if_neg c7] at H; exact absurd H (by simp)
     · rw [if_neg c6] at H; exact absurd H (by simp)
   · rw [if_neg c5] at H; have c5b0 : decide (x9_1 < (l0.length : Int)) = false := decide_eq_false c5; clear c5; obtain rfl := Option.some.inj H; go_wp2; repeat (go_quiet (fail); try go_wp2)
     go_ret
     exact ⟨rD, by repeat (first | exact Drawn0.refl _ | apply Drawn0.step)⟩

def spec_l1Own.f (l0 : List Int) : Option (List Int) := (some (([] : List Int) : List Int)).bind fun y152 => (if y152.length + l0.length < 17592186044416 then (some (y152 ++ l0)) else (none))
theorem spec_l1Own.calls (A0 : Option Addr) (c0 : Nat) (l0 : List Int) (r : List Int) (w : World) (hr0 : Kd.C (Kd.int .i64) w A0 l0.length l0) (hc0 : l0.length ≤ c0) (h : spec_l1Own.f l0 = some r) :
 Calls Try.prog 115 #[.slice A0 l0.length c0] w fun e w' => ∃ v0_ : Value, e = .returned (v0_) ∧ Kd.R (Kd.int .i64) 3 w' w.heap.size (fun _ => True) v0_ r ∧ Below w.heap.size w w' := by
 have HR0 := Aside0.mk hr0; have HC0 := Aside0.mk hc0; clear hr0 hc0; have HB := Aside0.mk (Below.refl w.heap.size w); have H : ((some (([] : List Int) : List Int)).bind fun y152 => (if y152.length + l0.length < 17592186044416 then (some (y152 ++ l0)) else (none))) = some r := h; clear h; obtain ⟨y152, hy152⟩ : ∃ y_ : List Int, y_ = (([] : List Int)) := ⟨_, rfl⟩; replace H : (if y152.length + l0.length < 17592186044416 then (some (y152 ++ l0)) else (none)) = some r := by first | (rw [hy152]; with_reducible exact H) | (have H2_ := (Option.bind_some _ _).symm.trans H; rw [hy152]; with_reducible exact H2_) | (have H2_ := (Option.bind_some _ _).symm.trans H; with_reducible exact H2_) | with_reducible exact H | (rw [hy152]; exact H) | exact H
 have Ny152 := Aside0.mk hy152; clear hy152; by_cases c2 : y152.length + l0.length < 17592186044416
 · rw [if_pos c2] at H; have LMc2 := Aside0.mk c2; clear c2; obtain ⟨y155, hy155⟩ : ∃ y_ : List Int, y_ = (y152 ++ l0) := ⟨_, rfl⟩; replace H : (some y155) = some r := by first | (rw [hy155]; with_reducible exact H) | (have H2_ := (Option.bind_some _ _).symm.trans H; rw [hy155]; with_reducible exact H2_) | (have H2_ := (Option.bind_some _ _).symm.trans H; with_reducible exact H2_) | with_reducible exact H | (rw [hy155]; exact H) | exact H
   have Ny155 := Aside0.mk hy155; clear hy155; obtain rfl := Option.some.inj H; go_enter Try.func115, Try.ntmps115; go_wp2_with (first | ((with_reducible refine gate_dst (N := 3) rfl ?_); refine Kd.R_lit (Kd.int .i64) _ 3 ?hg (N := 3) ?hd (xs := ([] : List Int)) (inner := []) (ok := fun _ => True) (okp := fun _ => True) ?hr ?hp (fun _ hk => hk) trivial (Below.refl _ _) (Nat.le_refl _) (by simp) ?_; (case hd => rfl); (case hg => rfl); (case hr => go_simp <;> rfl); (case hp => exact (Reps.none _ _)); intro v153 w3 ho4 hb hg_ hnew_; clear hg_ hnew_; (first | rw [← Ny152.out] at ho4 | (simp only [Int.reduceToNat] at ho4; rw [← Ny152.out] at ho4)); have HO154 := Aside0.mk (Kd.R_lower ho4 (below_size (bB HB))); replace HB := Aside0.mk (below_step (bB HB) hb); clear hb ho4) | ((with_reducible refine gate_builtin (b := .append) (xs := #[.tmp 3, .tmp 4]) rfl ?_); at_builtin; refine Kd.R_append_rows (Kd.int .i64) (w0 := w) w.heap.size rfl (.tmp 3) (.tmp 4) 22 3 (.int .i64 0) 8 rfl Try.underlying22 info3 rfl (by decide) (by omega) v153 y152 l0 _ _ _ (fun _ => True) (fun _ => False) rfl rfl ?aO ?aR (fun _ _ h => h) (fun _ h => h.elim) ?aF ?aB ?aS ?aL ?_; (case aR => exact cB HR0 HB); (case aB => exact (bB HB)); (case aF => exact (fun _ _ => trivial)); (case aO => exact (pR HO154)); (case aS => exact (below_size (bB HB))); (case aL => have := LMc2.out; omega); intro v156 w5 ho hb hg hat; rw [← Ny155.out] at ho; have HO157 := Aside0.mk (ho); replace HB := Aside0.mk (hb); clear HO154; clear ho hb hg hat))
   go_ret
   exact ⟨_, eW, by (with_reducible repeat (first | apply Kd.R_alloc | apply Kd.R_drewN | apply Kd.R_drew)); exact HO157.out, bB HB⟩
 · rw [if_neg c2] at H; exact absurd H (by simp)

end Go.Proofs.Ytfkfahdikmfpeaa.PFnExactNetOfPair
