import Derived.Test.YtfkfahdikmfpeaaDoorRs
import Derived.Test.YtfkfahdikmfpeaaDoorPFnExactShatteredSetsx0
import Derived.Test.YtfkfahdikmfpeaaDoorPFnExactShatteredSetsx5
import Derived.Test.YtfkfahdikmfpeaaDoorPFnExactShatteredSetsx6
import Derived.Test.YtfkfahdikmfpeaaDoorSh
import Derived.Test.YtfkfahdikmfpeaaDoorRs
namespace Go.Proofs.YtfkfahdikmfpeaaDoor.PFnExactShatteredSets
open Go.RowKit Go.Proofs.YtfkfahdikmfpeaaDoor.Sh Go.Proofs.YtfkfahdikmfpeaaDoorW.PrintWords Go.Proofs.YtfkfahdikmfpeaaDoorW.PrintLast Go.Proofs.YtfkfahdikmfpeaaDoorW.PrintMore
attribute [local go_sem] max2_int min2_int max_two min_two max_three min_three max_four min_four
set_option linter.unusedVariables false
set_option maxHeartbeats 8000000
set_option maxRecDepth 100000
set_option linter.unusedSimpArgs false

def impl_traces.cf (k : Nat) (x y : List Int) : Int := (slices_Compare_int_int.f k x y).getD 0
def impl_traces.eqf (k : Nat) (x y : List Int) : Bool := (slices_Equal_int_int.f k x y).getD false
def impl_traces.le (k : Nat) (x y : List Int) : Bool := !decide (impl_traces.cf k y x < 0)
def impl_traces.okP (k : Nat) (xs : List (List Int)) (x y : List Int) : Prop := (slices_Compare_int_int.f k x y).isSome = true ∧ (impl_traces.cf k x y < 0 ∨ impl_traces.cf k y x < 0 ∨ x = y) ∧ ¬ (impl_traces.cf k x y < 0 ∧ impl_traces.cf k y x < 0) ∧ ∀ z ∈ xs, (impl_traces.cf k x y < 0 → impl_traces.cf k y z < 0 → impl_traces.cf k x z < 0) ∧ (¬ impl_traces.cf k x y < 0 → ¬ impl_traces.cf k y z < 0 → ¬ impl_traces.cf k x z < 0)
def impl_traces.ok (k : Nat) (xs : List (List Int)) : Prop := 0 < xs.length ∧ xs.length < 4611686018427387904 ∧ (∀ x ∈ xs, ∀ y ∈ xs, impl_traces.okP k xs x y) ∧ ∀ x ∈ [] :: xs, ∀ y ∈ [] :: xs, (slices_Equal_int_int.f k x y).isSome = true
instance (k : Nat) (xs : List (List Int)) (x y : List Int) : Decidable (impl_traces.okP k xs x y) := by unfold impl_traces.okP; infer_instance
instance (k : Nat) (xs : List (List Int)) : Decidable (impl_traces.ok k xs) := by unfold impl_traces.ok; infer_instance
def impl_traces.res (k : Nat) (xs : List (List Int)) : Option (List (List Int)) := if impl_traces.ok k xs then some (Rs.compactBy (impl_traces.eqf k) (xs.mergeSort (impl_traces.le k))) else none
theorem impl_traces.res_ok {k : Nat} {xs r : List (List Int)} (h : impl_traces.res k xs = some r) : impl_traces.ok k xs ∧ r = Rs.compactBy (impl_traces.eqf k) (xs.mergeSort (impl_traces.le k)) := by
 unfold impl_traces.res at h; split at h
 · next hk => exact ⟨hk, (Option.some.inj h).symm⟩
 · cases h
theorem impl_traces.sorts {k : Nat} {xs ys : List (List Int)} (h : impl_traces.ok k xs) (hp : ys.Perm xs) (hs : ys.Pairwise (fun a b => ¬ impl_traces.cf k b a < 0)) : ys = xs.mergeSort (impl_traces.le k) := by
 have h3 := h.2.2.1; refine Rs.sort_unique _ xs ys (fun a ha b hb c hc h1 h2 => ?_) (fun a ha b hb => ?_) (fun a ha b hb h1 h2 => ?_) hp (hs.imp fun h1 => ?_)
 · simp only [impl_traces.le, Bool.not_eq_true', decide_eq_false_iff_not] at h1 h2 ⊢; exact ((h3 c hc b hb).2.2.2 a ha).2 h2 h1
 · simp only [impl_traces.le, Bool.or_eq_true, Bool.not_eq_true', decide_eq_false_iff_not]; have := (h3 a ha b hb).2.2.1; by_cases e : impl_traces.cf k b a < 0
   · exact .inr fun e2 => this ⟨e2, e⟩
   · exact .inl e
 · simp only [impl_traces.le, Bool.not_eq_true', decide_eq_false_iff_not] at h1 h2; rcases (h3 a ha b hb).2.1 with e | e | e
   · exact absurd e h2
   · exact absurd e h1
   · exact e
 · simp only [impl_traces.le, Bool.not_eq_true', decide_eq_false_iff_not]; exact h1
theorem impl_traces.compares (k : Nat) (xs : List (List Int)) (h : impl_traces.ok k xs) (W : World) (A : Option Addr) (c : Nat) (l : List Int) (A' : Option Addr) (c' : Nat) (l' : List Int) (hl : l ∈ xs) (hl' : l' ∈ xs) (h1 : Kd.C (Kd.int .i64) W A l.length l) (h2 : l.length ≤ c) (h3 : Kd.C (Kd.int .i64) W A' l'.length l') (h4 : l'.length ≤ c') : Calls Tryd.prog 33 #[.slice A l.length c, .slice A' l'.length c'] W fun e w' => e = .returned (.int .i64 (impl_traces.cf k l l')) ∧ Drawn0 W w' :=
 slices_Compare_int_int.calls k A c l A' c' l' _ W h1 h2 h3 h4 (by
  obtain ⟨v, hv⟩ := Option.isSome_iff_exists.1 (h.2.2.1 l hl l' hl').1; unfold impl_traces.cf; rw [hv]; rfl)
theorem impl_traces.equals (k : Nat) (xs : List (List Int)) (h : impl_traces.ok k xs) (W : World) (A : Option Addr) (c : Nat) (l : List Int) (A' : Option Addr) (c' : Nat) (l' : List Int) (hl : l ∈ [] :: xs) (hl' : l' ∈ [] :: xs) (h1 : Kd.C (Kd.int .i64) W A l.length l) (h2 : l.length ≤ c) (h3 : Kd.C (Kd.int .i64) W A' l'.length l') (h4 : l'.length ≤ c') : Calls Tryd.prog 45 #[.slice A l.length c, .slice A' l'.length c'] W fun e w' => e = .returned (.bool (impl_traces.eqf k l l')) ∧ Drawn0 W w' :=
 slices_Equal_int_int.calls k A c l A' c' l' _ W h1 h2 h3 h4 (by
  obtain ⟨v, hv⟩ := Option.isSome_iff_exists.1 (h.2.2.2 l hl l' hl'); unfold impl_traces.eqf; rw [hv]; rfl)
theorem impl_traces.sortCall (k : Nat) (xs : List (List Int)) (h : impl_traces.ok k xs) {w W : World} {v : Value} (hS : Kd.S (Kd.slice 3 (Kd.int .i64)) 32 W w.heap.size (fun _ => True) v xs) (hB : Below w.heap.size w W) : Calls Tryd.prog 22 #[v, .func (.func 33) #[] #[]] W fun e w' => e = .returned (.tuple #[]) ∧ Kd.S (Kd.slice 3 (Kd.int .i64)) 32 w' w.heap.size (fun _ => True) v (xs.mergeSort (impl_traces.le k)) ∧ Below w.heap.size w w' := by
 refine (Rs.sortS (impl_traces.cf k) (fun x => x ∈ xs) (fun x hx => ?_) (fun x y z hx hy hz => ((h.2.2.1 x hx y hy).2.2.2 z hz).1) (fun x y z hx hy hz => ((h.2.2.1 x hx y hy).2.2.2 z hz).2) 33 (enters_of Tryd.func33 (by kernel_rfl) rfl) (impl_traces.compares k xs h) hS (fun e => by have := h.1; rw [e] at this; exact absurd this (by decide)) (fun _ hx => hx) h.2.1).mono ?_
 · intro e; exact (h.2.2.1 x hx x hx).2.2.1 ⟨e, e⟩
 · rintro e w' ⟨rfl, ys, hp, hs, hS1, row, hrow, hg⟩; obtain rfl := impl_traces.sorts h hp hs; exact ⟨rfl, hS1, pw_below_grown hB _ hB.size hg (fun q e => by injection e with e; subst e; exact Kd.S_base hS row hrow)⟩
theorem impl_traces.compactCall (k : Nat) (xs : List (List Int)) (h : impl_traces.ok k xs) {w W : World} {v : Value} (hS : Kd.S (Kd.slice 3 (Kd.int .i64)) 32 W w.heap.size (fun _ => True) v (xs.mergeSort (impl_traces.le k))) (hB : Below w.heap.size w W) : Calls Tryd.prog 44 #[v, .func (.func 45) #[] #[]] W fun e w' => ∃ v1 : Value, e = .returned v1 ∧ Kd.S (Kd.slice 3 (Kd.int .i64)) 32 w' w.heap.size (fun _ => True) v1 (Rs.compactBy (impl_traces.eqf k) (xs.mergeSort (impl_traces.le k))) ∧ Below w.heap.size w w' := by
 have hm : ∀ x, x ∈ xs.mergeSort (impl_traces.le k) ↔ x ∈ xs := fun x => (List.mergeSort_perm xs _).mem_iff
 refine (Rs.compactS (impl_traces.eqf k) (fun x => x ∈ [] :: xs) List.mem_cons_self 45 (enters_of Tryd.func45 (by kernel_rfl) rfl) (impl_traces.equals k xs h) hS (fun e => by have h2 := (List.mergeSort_perm xs (impl_traces.le k)).length_eq; rw [e] at h2; have := h.1; rw [← h2] at this; exact absurd this (by decide)) (fun x hx => List.mem_cons_of_mem _ ((hm x).1 hx))).mono ?_; rintro e w' ⟨v1, rfl, ho, hS1, row, hrow, hg⟩; exact ⟨v1, rfl, hS1, pw_below_grown hB _ hB.size hg (fun q e => by injection e with e; subst e; exact Kd.S_base hS row hrow)⟩
def impl_traces.l0 : Nat → List Int → List (List Int) → List (List Int) → Int → Int → Option ((List (List Int)))
 | 0, _, _, _, _, _ => none
 | k + 1, x1, x5, x9, x10, x11 => if x11 < x10 then (if 0 ≤ x11 then (if x11 < (x9.length : Int) then ((impl_at.f k (rd_L1 x9 x11) x1).bind fun t329 => (if x5.length < 5864062014805 then (impl_traces.l0 k x1 (x5 ++ [t329]) x9 x10 (wrap64 (x11 + 1))) else (none))) else (none)) else (none)) else (impl_traces.res k x5)
def impl_traces.f (k : Nat) (l0 : List (List Int)) (l1 : List Int) : Option ((List (List Int))) := impl_traces.l0 k l1 (([] : List (List Int))) l0 (l0.length : Int) 0
theorem impl_traces.calls (k : Nat) (A0 : Option Addr) (c0 : Nat) (l0 : List (List Int)) (A1 : Option Addr) (c1 : Nat) (l1 : List Int) (r : List (List Int)) (w : World) (hr0 : Kd.C (Kd.slice 3 (Kd.int .i64)) w A0 l0.length l0) (hc0 : l0.length ≤ c0) (hr1 : Kd.C (Kd.int .i64) w A1 l1.length l1) (hc1 : l1.length ≤ c1) (h : impl_traces.f k l0 l1 = some r) :
 Calls Tryd.prog 35 #[.slice A0 l0.length c0, .slice A1 l1.length c1] w fun e w' => ∃ v0_ : Value, e = .returned (v0_) ∧ Kd.S (Kd.slice 3 (Kd.int .i64)) 32 w' w.heap.size (fun _ => True) v0_ r ∧ Below w.heap.size w w' := by
 have HR0 := Aside0.mk hr0; have HC0 := Aside0.mk hc0; clear hr0 hc0; have HR1 := Aside0.mk hr1; have HC1 := Aside0.mk hc1; clear hr1 hc1; have HB := Aside0.mk (Below.refl w.heap.size w); have H : (impl_traces.l0 k l1 (([] : List (List Int))) l0 (l0.length : Int) 0) = some r := h; clear h; obtain ⟨y325, hy325⟩ : ∃ y_ : List (List Int), y_ = (([] : List (List Int))) := ⟨_, rfl⟩; replace H : (impl_traces.l0 k l1 y325 l0 (l0.length : Int) 0) = some r := by first | (rw [hy325]; with_reducible exact H) | (have H2_ := (Option.bind_some _ _).symm.trans H; rw [hy325]; with_reducible exact H2_) | (have H2_ := (Option.bind_some _ _).symm.trans H; with_reducible exact H2_) | with_reducible exact H | (rw [hy325]; exact H) | exact H
 have Ny325 := Aside0.mk hy325; clear hy325; have H' := Aside0.mk H; clear H; go_enter Tryd.func35, Tryd.ntmps35; go_wp2_with (first | ((with_reducible refine gate_dst (N := 8) rfl ?_); refine Kd.S_lit (Kd.slice 3 (Kd.int .i64)) _ 32 ?hg (N := 8) ?hd (xs := ([] : List (List Int))) (inner := []) (ok := fun _ => True) (okp := fun _ => True) ?hr ?hp (fun _ hk => hk) trivial (Below.refl _ _) (Nat.le_refl _) (by simp) ?_; (case hd => rfl); (case hg => rfl); (case hr => go_simp <;> rfl); (case hp => exact (Reps.none _ _)); intro v326 w3 ho4 hb hg_ hnew_; clear hg_ hnew_; (first | rw [← Ny325.out] at ho4 | (simp only [Int.reduceToNat] at ho4; rw [← Ny325.out] at ho4)); have HO327 := Aside0.mk (Kd.S_lower ho4 (below_size (bB HB))); replace HB := Aside0.mk (below_step (bB HB) hb); clear hb ho4))
 go_loopg [5, 11] k (fun kq v5 v11 w' => ∃ (x5_1 : List (List Int)) (x11_1 : Int), v11 = .int .i64 x11_1 ∧ Aside0 (impl_traces.l0 kq l1 x5_1 l0 (l0.length : Int) x11_1 = some r) ∧ Aside0 (kq ≤ k) ∧ Aside0 (Kd.S (Kd.slice 3 (Kd.int .i64)) 32 w' w.heap.size (fun _ => True) v5 x5_1) ∧ Aside0 (Below w.heap.size w w'))
 case atStart => exact ⟨(y325), (0), rD, H', ⟨Nat.le_refl _⟩, ⟨pS HO327⟩, ⟨bB HB⟩⟩
 case round =>
  clear H'; try clear c1
  obtain ⟨x5_1, x11_1, rfl, HA, HK1, HO_5, HB⟩ := hrel; cases gk with
  | zero => exact absurd HA.out (by simp [impl_traces.l0])
  | succ k1 =>
   have H := HA.out; clear HA; simp only [impl_traces.l0] at H; by_cases c5 : x11_1 < (l0.length : Int)
   · rw [if_pos c5] at H; have c5b0 : decide (x11_1 < (l0.length : Int)) = true := decide_eq_true c5; clear c5; by_cases c6 : 0 ≤ x11_1
     · rw [if_pos c6] at H; have c6b0 : decide (0 ≤ x11_1) = true := decide_eq_true c6; clear c6; by_cases c7 : x11_1 < (l0.length : Int)
       · rw [if_pos c7] at H; have c7b0 : decide (x11_1 < (l0.length : Int)) = true := decide_eq_true c7; clear c7; replace H := Option.bind_eq_some_iff.mp H; obtain ⟨t329, A80, H⟩ := H; replace H : (if x5_1.length < 5864062014805 then (impl_traces.l0 k1 l1 (x5_1 ++ [t329]) l0 (l0.length : Int) (wrap64 (x11_1 + 1))) else (none)) = some r := H; have A8 := Aside0.mk A80; clear A80; by_cases c9 : x5_1.length < 5864062014805
         · rw [if_pos c9] at H; have LMc9 := Aside0.mk c9; clear c9; obtain ⟨y332, hy332⟩ : ∃ y_ : List (List Int), y_ = (x5_1 ++ [t329]) := ⟨_, rfl⟩; replace H : (impl_traces.l0 k1 l1 y332 l0 (l0.length : Int) (wrap64 (x11_1 + 1))) = some r := by first | (rw [hy332]; with_reducible exact H) | (have H2_ := (Option.bind_some _ _).symm.trans H; rw [hy332]; with_reducible exact H2_) | (have H2_ := (Option.bind_some _ _).symm.trans H; with_reducible exact H2_) | with_reducible exact H | (rw [hy332]; exact H) | exact H
           have Ny332 := Aside0.mk hy332; clear hy332; have H' := Aside0.mk H; clear H; have p328 : 0 ≤ (x11_1 : Int) := of_decide_eq_true aS; have q328 : x11_1 < (l0.length : Int) := of_decide_eq_true aS; obtain ⟨ad328, A328_0, c328_0, e328, hx328_0, hl328_0, hi328_0⟩ := at_L1 HR0.out x11_1 p328 q328; cases e328
           replace hx328_0 := (HB.out.cell (World.block_lt_of_cell? w _ hx328_0)).trans hx328_0; have HR328_0 := Aside0.mk hi328_0; have HC328_0 := Aside0.mk hl328_0; clear hi328_0 hl328_0; replace p328 := eq_true p328; replace q328 := eq_true q328; go_wp2_with (first | ((with_reducible refine gate_callee (f := 43) rfl ?_); refine goesL_ (some 18) rfl rfl Tryd.func43 (by kernel_rfl) rfl #[.slice A328_0 (rd_L1 l0 x11_1).length c328_0, .slice A1 l1.length c1] rfl aT ?_; (with_reducible refine (impl_at.calls k1 _ _ (rd_L1 l0 x11_1) _ _ l1 t329 _ ?side1 ?side2 ?side3 ?side4 A8.out).mono ?_); (case side1 => exact cB HR328_0 HB); (case side2 => exact HC328_0.out); (case side3 => exact cB HR1 HB); (case side4 => exact HC1.out); rintro e w10 ⟨v330, rfl, ho0, hb⟩; refine ⟨_, rfl, ?_⟩; have HO331 := Aside0.mk (Kd.R_lower ho0 (below_size (bB HB))); replace HO_5 := Aside0.mk (Kd.S_elder' (pS HO_5) (Kd.R_base ho0) hb); replace HB := Aside0.mk (below_step (bB HB) hb); (try clear hb); (try clear hb2); (try clear hk); (try clear hi); (try clear ho0); obtain ⟨Ao12, co12, eo12⟩ := Kd.R_slice HO331.out; subst eo12) | ((with_reducible refine gate_builtin (b := .append) (xs := #[.tmp 15, .tmp 19]) rfl ?_); at_builtin; refine Kd.S_append (Kd.slice 3 (Kd.int .i64)) (w0 := w) w.heap.size rfl (.tmp 15) (.tmp 19) 22 32 (.slice none 0 0) 24 rfl Tryd.underlying22 info32 rfl (by decide) (by omega) u5 x5_1 t329 [.slice Ao12 t329.length co12] (fun _ => True) (fun k_ => some k_ = (.slice Ao12 t329.length co12 : Value).ownBlock) rfl rfl ?aP (fun k_ hk_ => ((Kd.R_mono (ok' := fun k_ => ((fun _ => True)) k_ ∧ some k_ ≠ (u5 : Value).ownBlock) (Kd.R_apart' (HO331.out) (Kd.S_typed HO_5.out) (by decide)) (fun k_ hk => ⟨trivial, hk.2⟩))).1 k_ hk_.symm) ?aF ?aO ?aB ?aS ?aL ?_; (case aP => exact Kd.M_row (Kd.R_mono (Kd.R_tight rfl (Kd.R_mono (ok' := fun k_ => ((fun _ => True)) k_ ∧ some k_ ≠ (u5 : Value).ownBlock) (Kd.R_apart' (HO331.out) (Kd.S_typed HO_5.out) (by decide)) (fun k_ hk => ⟨trivial, hk.2⟩))) (fun _ h_ => h_))); (case aB => exact (bB HB)); (case aF => exact (fun _ _ => trivial)); (case aO => exact (by (with_reducible repeat (first | apply Kd.S_alloc | apply Kd.S_drewN | apply Kd.S_drew)); exact Kd.S_mono HO_5.out (fun k_ hk => ⟨trivial, fun e_ => hk.2 e_⟩))); (case aS => exact (below_size (bB HB))); (case aL => have := LMc9.out; omega); intro v333 w11 ho hb hg hat; rw [← Ny332.out] at ho; have HO334 := Aside0.mk (ho); replace HB := Aside0.mk (hb); clear HO_5 HO331; clear ho hb hg hat))
           go_roundg k1
           case measure => have := HK1.out; omega
           case rel => exact ⟨(y332), (wrap64 (x11_1 + 1)), rD, H', ⟨by have := HK1.out; omega⟩, ⟨pS HO334⟩, ⟨bB HB⟩⟩
         · rw [if_neg c9] at H; exact absurd H (by simp)
       · rw [if_neg c7] at H; exact absurd H (by simp)
     · rw [if_neg c6] at H; exact absurd H (by simp)
   · rw [if_neg c5] at H; have c5b0 : decide (x11_1 < (l0.length : Int)) = false := decide_eq_false c5; clear c5; obtain ⟨hok, rfl⟩ := impl_traces.res_ok H; clear H; have HOK := Aside0.mk hok; clear hok; go_wp2_with (fail)
     refine (impl_traces.sortCall k1 x5_1 HOK.out (pS HO_5) (bB HB)).mono ?_; rintro e w21 ⟨rfl, hs, hb⟩; clear HO_5 HB; have HO_5 := Aside0.mk hs; have HB := Aside0.mk hb; clear hs hb; go_wp2_with (fail)
     refine (impl_traces.compactCall k1 x5_1 HOK.out (pS HO_5) (bB HB)).mono ?_; rintro e w22 ⟨v22, rfl, hs, hb⟩; clear HO_5 HB; have HO_5 := Aside0.mk hs; have HB := Aside0.mk hb; clear hs hb; go_wp2; go_ret
     exact ⟨_, eW, pS HO_5, bB HB⟩


def impl_shatters.f (k : Nat) (l0 : List (List Int)) (l1 : List Int) : Option (Bool) := (impl_traces.f k l0 l1).bind fun t323 => (some ((t323.length : Int) == (shl .i64 1 (l1.length : Int))))
def impl_shatters.T1 : Bool × List (List Nat × List Nat) := (true, [([], []), ([], []), ([0, 1], [0, 1]), ([2], [2]), ([], []), ([4], [4]), ([5], [5]), ([3, 6], [3, 6]), ([7, 2, 0, 1, 2, 3, 4, 5, 6, 7], [7])])
def impl_shatters.B1 : List Nat := [0, 0, 3, 7, 0, 16, 48, 127, 255]
theorem impl_shatters.tab1 : rtab .any (opsOf Tryd.f21 1) = impl_shatters.T1 := by kernel_rfl
theorem impl_shatters.bits1 : waitsOk impl_shatters.T1.2 impl_shatters.B1 = true := by kernel_rfl
theorem impl_shatters.calls (k : Nat) (A0 : Option Addr) (c0 : Nat) (l0 : List (List Int)) (A1 : Option Addr) (c1 : Nat) (l1 : List Int) (r : Bool) (w : World) (hr0 : Kd.C (Kd.slice 3 (Kd.int .i64)) w A0 l0.length l0) (hc0 : l0.length ≤ c0) (hr1 : Kd.C (Kd.int .i64) w A1 l1.length l1) (hc1 : l1.length ≤ c1) (h : impl_shatters.f k l0 l1 = some r) :
 Calls Tryd.prog 21 #[.slice A0 l0.length c0, .slice A1 l1.length c1] w fun e w' => e = .returned (.bool r) ∧ Below w.heap.size w w' := by
 have HR0 := Aside0.mk hr0; have HC0 := Aside0.mk hc0; clear hr0 hc0; have HR1 := Aside0.mk hr1; have HC1 := Aside0.mk hc1; clear hr1 hc1; have HB := Aside0.mk (Below.refl w.heap.size w); have H : ((impl_traces.f k l0 l1).bind fun t323 => (some ((t323.length : Int) == (shl .i64 1 (l1.length : Int))))) = some r := h; clear h; replace H := Option.bind_eq_some_iff.mp H; obtain ⟨t323, A30, H⟩ := H; replace H : (some ((t323.length : Int) == (shl .i64 1 (l1.length : Int)))) = some r := H; have A3 := Aside0.mk A30; clear A30; obtain ⟨ji4, hji4⟩ : ∃ j_ : Int, (shl .i64 1 (l1.length : Int)) = j_ := ⟨_, rfl⟩; replace H : (some ((t323.length : Int) == (ji4))) = some r := by first | (rw [hji4] at H; exact H) | (simp only [hji4] at H ⊢; exact H)
 (try rw [hji4] at A3); have hji4_ : (IntKind.i64.wrap (1 * 2 ^ min (l1.length : Int).toNat 64)) = ji4 := hji4; have hji4z : (l1.length : Int) ≤ 64 → (IntKind.i64.wrap (1 * 2 ^ (l1.length : Int).toNat)) = ji4 := shl_small hji4; have hji4p : (IntKind.i64.wrap (1 * 2 ^ min l1.length 64)) = ji4 := hji4_; have hji4q : (l1.length : Int) ≤ 64 → (IntKind.i64.wrap (1 * 2 ^ l1.length)) = ji4 := hji4z; have hji4r : (IntKind.i64.wrap (2 ^ min l1.length 64)) = ji4 := by have h_ := hji4p; rw [Int.one_mul] at h_; exact h_
 have hji4s : (l1.length : Int) ≤ 64 → (IntKind.i64.wrap (2 ^ l1.length)) = ji4 := fun hle_ => by have h_ := hji4q hle_; rw [Int.one_mul] at h_; exact h_
 have hji4u : (IntKind.i64.wrap (2 ^ min (l1.length : Int).toNat 64)) = ji4 := by have h_ := hji4_; rw [Int.one_mul] at h_; exact h_
 have hji4v : (l1.length : Int) ≤ 64 → (IntKind.i64.wrap (2 ^ (l1.length : Int).toNat)) = ji4 := fun hle_ => by have h_ := hji4z hle_; rw [Int.one_mul] at h_; exact h_
 have hji4y : (wrap64 (1 * 2 ^ min (l1.length : Int).toNat 64)) = ji4 := (i64_w _).symm.trans hji4_; have hji4x : (l1.length : Int) ≤ 64 → (wrap64 (1 * 2 ^ (l1.length : Int).toNat)) = ji4 := fun h_ => (i64_w _).symm.trans (hji4z h_)
 obtain rfl := Option.some.inj H; go_enter Tryd.func21, Tryd.ntmps21; try go_wp2
 replace HB := Aside0.mk (below_drew1 HB.out); refine start_ (n := 9) (S := fun w' => True) (ds := []) #[false, false, false, false, false, false, false, false, false] (by kernel_rfl) rfl rfl trivial (fun hHeld => ?_); refine with_tabW impl_shatters.tab1 impl_shatters.bits1 (fun HT_ HW_ => ?_); generalize w.drew = w5 at HB hHeld ⊢; refine pure_ (i := 0) (N := some 5) (v := ?_) (a' := ?_) #[true, false, false, false, false, false, false, false, false] rfl rfl (any_of HT_.out (by kernel_rfl)) (fun _ _ _ h => h) (Or.inl ⟨by rfl, ?_⟩) ?_ ?_; rotate_left
 · intro w'; go_simp; with_reducible rfl
 rotate_left
 · exact aP
 refine pure_ (i := 1) (N := some 6) (v := ?_) (a' := ?_) #[true, true, false, false, false, false, false, false, false] rfl rfl (any_of HT_.out (by kernel_rfl)) (fun _ _ _ h => h) (Or.inl ⟨by rfl, ?_⟩) ?_ ?_; rotate_left
 · intro w'; go_simp; with_reducible rfl
 rotate_left
 · exact aP
 refine pure_ (i := 4) (N := some 9) (v := ?_) (a' := ?_) #[true, true, false, false, true, false, false, false, false] rfl rfl (any_of HT_.out (by kernel_rfl)) (fun _ _ _ h => h) (Or.inl ⟨by rfl, ?_⟩) ?_ ?_; rotate_left
 · intro w'; go_simp; with_reducible rfl
 rotate_left
 · exact aP
 refine pure_ (i := 5) (N := some 10) (v := ?_) (a' := ?_) #[true, true, false, false, true, true, false, false, false] rfl rfl (any_of HT_.out (by kernel_rfl)) (fun _ _ _ h => h) (Or.inl ⟨by rfl, ?_⟩) ?_ ?_; rotate_left
 · intro w'; go_simp; with_reducible rfl
 rotate_left
 · exact aP
 refine pure_ (i := 6) (N := some 11) (v := ?_) (a' := ?_) #[true, true, false, false, true, true, true, false, false] rfl rfl (any_of HT_.out (by kernel_rfl)) (fun _ _ _ h => h) (Or.inl ⟨by rfl, ?_⟩) ?_ ?_; rotate_left
 · intro w'; go_simp; with_reducible rfl
 rotate_left
 · exact aP
 refine one_ (i := 2) (N := some 7) #[true, true, true, false, true, true, true, false, false] rfl rfl (one_of HT_.out (by kernel_rfl)) (by decide) (fun K hK => ?_); refine goes_ Tryd.func35 (by kernel_rfl) rfl #[.slice A0 l0.length c0, .slice A1 l1.length c1] (by rfl) rfl rfl aT ?_; with_reducible refine (impl_traces.calls k _ _ l0 _ _ l1 t323 _ ?side1 ?side2 ?side3 ?side4 A3.out).mono ?_
 (case side1 => exact cB HR0 HB); (case side2 => exact HC0.out); (case side3 => exact cB HR1 HB); (case side4 => exact HC1.out); rintro e w6 ⟨v324, rfl, ho0, hb⟩; refine ⟨_, rfl, ?_⟩; have HO325 := Aside0.mk (Kd.S_lower ho0 (below_size (bB HB))); replace HB := Aside0.mk (below_step (bB HB) hb); (try clear hb); (try clear hb2); (try clear hk); (try clear hi); (try clear ho0); obtain ⟨Ao7, co7, eo7⟩ := Kd.S_slice HO325.out; (first | subst eo7 | (injection eo7 with f1_ f2_ f3_; have f4_ := f1_.symm; have f5_ := f3_.symm; clear f1_ f2_ f3_; subst f4_; subst f5_)); refine hK.out _ _ trivial (fun hHeld => ?_); clear hK K; refine norm_ (a' := ?_) ?_ ?_; rotate_left
 · show Act.put _ (some 7) _ = _
   simp only [Act.put, List.setIfInBounds_toArray, List.set_cons_zero, List.set_cons_succ, i64_w, i32_w]; rfl
 refine pure_ (i := 3) (N := some 8) (v := ?_) (a' := ?_) #[true, true, true, true, true, true, true, false, false] rfl rfl (any_of HT_.out (by kernel_rfl)) (fun _ _ _ h => h) (Or.inl ⟨by rfl, ?_⟩) ?_ ?_; rotate_left
 · intro w'; go_simp; with_reducible rfl
 rotate_left
 · exact aP
 refine pure_ (i := 7) (N := some 12) (v := ?_) (a' := ?_) #[true, true, true, true, true, true, true, true, false] rfl rfl (any_of HT_.out (by kernel_rfl)) (fun _ _ _ h => h) (Or.inl ⟨by rfl, ?_⟩) ?_ ?_; rotate_left
 · intro w'; go_simp; with_reducible rfl
 rotate_left
 · exact aP
 refine pure_ (i := 8) (N := some 4) (v := ?_) (a' := ?_) #[true, true, true, true, true, true, true, true, true] rfl rfl (any_of HT_.out (by kernel_rfl)) (fun _ _ _ h => h) (Or.inl ⟨by rfl, ?_⟩) ?_ ?_; rotate_left
 · intro w'; go_simp; with_reducible rfl
 rotate_left
 · exact aP
 refine done_ (done_of HT_.out (by kernel_rfl)) ?_; try go_wp2
 go_ret
 exact ⟨by first | rfl | (simp [errW_none, errW_some] <;> rfl) | (simp only [← hji4]; first | rfl | (simp [errW_none, errW_some] <;> rfl)) | (simp [*, errW_none, errW_some] <;> rfl), bB HB⟩

def impl_compareSets.f (k : Nat) (l0 : List Int) (l1 : List Int) : Option (Int) := if (l0.length : Int) = (l1.length : Int) then ((slices_Compare_int_int.f k l0 l1).bind fun t326 => (some t326)) else (some (wrap64 ((l0.length : Int) - (l1.length : Int))))
theorem impl_compareSets.calls (k : Nat) (A0 : Option Addr) (c0 : Nat) (l0 : List Int) (A1 : Option Addr) (c1 : Nat) (l1 : List Int) (r : Int) (w : World) (hr0 : Kd.C (Kd.int .i64) w A0 l0.length l0) (hc0 : l0.length ≤ c0) (hr1 : Kd.C (Kd.int .i64) w A1 l1.length l1) (hc1 : l1.length ≤ c1) (h : impl_compareSets.f k l0 l1 = some r) :
 Calls Tryd.prog 23 #[.slice A0 l0.length c0, .slice A1 l1.length c1] w fun e w' => e = .returned (.int .i64 r) ∧ Drawn0 w w' := by
 have HR0 := Aside0.mk hr0; have HC0 := Aside0.mk hc0; clear hr0 hc0; have HR1 := Aside0.mk hr1; have HC1 := Aside0.mk hc1; clear hr1 hc1; have H : (if (l0.length : Int) = (l1.length : Int) then ((slices_Compare_int_int.f k l0 l1).bind fun t326 => (some t326)) else (some (wrap64 ((l0.length : Int) - (l1.length : Int))))) = some r := h; clear h; by_cases c3 : (l0.length : Int) = (l1.length : Int)
 · rw [if_pos c3] at H; have c3b0 : ((l0.length : Int) == (l1.length : Int)) = true := beq_iff_eq.mpr c3; have c3b1 : ((l0.length : Int) != (l1.length : Int)) = false := bne_eq_false_iff_eq.mpr c3; have c3b2 : (l0.length == l1.length) = true := by first | simpa using c3 | (simp at c3 ⊢; omega)
   clear c3; replace H := Option.bind_eq_some_iff.mp H; obtain ⟨t326, A40, H⟩ := H; replace H : (some t326) = some r := H; have A4 := Aside0.mk A40; clear A40; obtain rfl := Option.some.inj H; go_enter Tryd.func23, Tryd.ntmps23; go_wp2_with (first | ((with_reducible refine gate_callee (f := 33) rfl ?_); refine goesL_ (some 17) rfl rfl Tryd.func33 (by kernel_rfl) rfl #[.slice A0 l0.length c0, .slice A1 l1.length c1] rfl aT ?_; (with_reducible refine (slices_Compare_int_int.calls k _ _ l0 _ _ l1 t326 _ ?side1 ?side2 ?side3 ?side4 A4.out).mono ?_); (case side1 => exact cC HR0); (case side2 => exact HC0.out); (case side3 => exact cC HR1); (case side4 => exact HC1.out); rintro e w' ⟨rfl, ⟨nd, rfl⟩⟩; refine ⟨_, rfl, ?_⟩))
   go_ret
   exact ⟨rD, by repeat (first | exact Drawn0.refl _ | apply Drawn0.step)⟩
 · rw [if_neg c3] at H; have c3b0 : ((l0.length : Int) == (l1.length : Int)) = false := beq_eq_false_iff_ne.mpr c3; have c3b1 : ((l0.length : Int) != (l1.length : Int)) = true := bne_iff_ne.mpr c3; have c3b2 : (l0.length == l1.length) = false := by first | simpa using c3 | (simp at c3 ⊢; omega)
   obtain rfl := Option.some.inj H; go_enter Tryd.func23, Tryd.ntmps23; go_wp2; go_ret
   exact ⟨rD, by repeat (first | exact Drawn0.refl _ | apply Drawn0.step)⟩

def impl_ShatteredSets.cf (k : Nat) (x y : List Int) : Int := (impl_compareSets.f k x y).getD 0
def impl_ShatteredSets.le (k : Nat) (x y : List Int) : Bool := !decide (impl_ShatteredSets.cf k y x < 0)
def impl_ShatteredSets.okP (k : Nat) (xs : List (List Int)) (x y : List Int) : Prop := (impl_compareSets.f k x y).isSome = true ∧ (impl_ShatteredSets.cf k x y < 0 ∨ impl_ShatteredSets.cf k y x < 0 ∨ x = y) ∧ ¬ (impl_ShatteredSets.cf k x y < 0 ∧ impl_ShatteredSets.cf k y x < 0) ∧ ∀ z ∈ xs, (impl_ShatteredSets.cf k x y < 0 → impl_ShatteredSets.cf k y z < 0 → impl_ShatteredSets.cf k x z < 0) ∧ (¬ impl_ShatteredSets.cf k x y < 0 → ¬ impl_ShatteredSets.cf k y z < 0 → ¬ impl_ShatteredSets.cf k x z < 0)
def impl_ShatteredSets.ok (k : Nat) (xs : List (List Int)) : Prop := 0 < xs.length ∧ xs.length < 4611686018427387904 ∧ (∀ x ∈ xs, ∀ y ∈ xs, impl_ShatteredSets.okP k xs x y)
instance (k : Nat) (xs : List (List Int)) (x y : List Int) : Decidable (impl_ShatteredSets.okP k xs x y) := by unfold impl_ShatteredSets.okP; infer_instance
instance (k : Nat) (xs : List (List Int)) : Decidable (impl_ShatteredSets.ok k xs) := by unfold impl_ShatteredSets.ok; infer_instance
def impl_ShatteredSets.res (k : Nat) (xs : List (List Int)) : Option (List (List Int)) := if impl_ShatteredSets.ok k xs then some (xs.mergeSort (impl_ShatteredSets.le k)) else none
theorem impl_ShatteredSets.res_ok {k : Nat} {xs r : List (List Int)} (h : impl_ShatteredSets.res k xs = some r) : impl_ShatteredSets.ok k xs ∧ r = xs.mergeSort (impl_ShatteredSets.le k) := by
  unfold impl_ShatteredSets.res at h; split at h
  · next hk => exact ⟨hk, (Option.some.inj h).symm⟩
  · cases h
theorem impl_ShatteredSets.sorts {k : Nat} {xs ys : List (List Int)} (h : impl_ShatteredSets.ok k xs) (hp : ys.Perm xs) (hs : ys.Pairwise (fun a b => ¬ impl_ShatteredSets.cf k b a < 0)) : ys = xs.mergeSort (impl_ShatteredSets.le k) := by
  have h3 := h.2.2; refine Rs.sort_unique _ xs ys (fun a ha b hb c hc h1 h2 => ?_) (fun a ha b hb => ?_) (fun a ha b hb h1 h2 => ?_) hp (hs.imp fun h1 => ?_)
  · simp only [impl_ShatteredSets.le, Bool.not_eq_true', decide_eq_false_iff_not] at h1 h2 ⊢; exact ((h3 c hc b hb).2.2.2 a ha).2 h2 h1
  · simp only [impl_ShatteredSets.le, Bool.or_eq_true, Bool.not_eq_true', decide_eq_false_iff_not]; have := (h3 a ha b hb).2.2.1; by_cases e : impl_ShatteredSets.cf k b a < 0
    · exact .inr fun e2 => this ⟨e2, e⟩
    · exact .inl e
  · simp only [impl_ShatteredSets.le, Bool.not_eq_true', decide_eq_false_iff_not] at h1 h2; rcases (h3 a ha b hb).2.1 with e | e | e
    · exact absurd e h2
    · exact absurd e h1
    · exact e
  · simp only [impl_ShatteredSets.le, Bool.not_eq_true', decide_eq_false_iff_not]; exact h1
theorem impl_ShatteredSets.compares (k : Nat) (xs : List (List Int)) (h : impl_ShatteredSets.ok k xs) (W : World) (A : Option Addr) (c : Nat) (l : List Int) (A' : Option Addr) (c' : Nat) (l' : List Int) (hl : l ∈ xs) (hl' : l' ∈ xs) (h1 : Kd.C (Kd.int .i64) W A l.length l) (h2 : l.length ≤ c) (h3 : Kd.C (Kd.int .i64) W A' l'.length l') (h4 : l'.length ≤ c') : Calls Tryd.prog 23 #[.slice A l.length c, .slice A' l'.length c'] W fun e w' => e = .returned (.int .i64 (impl_ShatteredSets.cf k l l')) ∧ Drawn0 W w' :=
  impl_compareSets.calls k A c l A' c' l' _ W h1 h2 h3 h4 (by
    obtain ⟨v, hv⟩ := Option.isSome_iff_exists.1 (h.2.2 l hl l' hl').1; unfold impl_ShatteredSets.cf; rw [hv]; rfl)
theorem impl_ShatteredSets.sortCall (k : Nat) (xs : List (List Int)) (h : impl_ShatteredSets.ok k xs) {w W : World} {v : Value} (hS : Kd.S (Kd.slice 3 (Kd.int .i64)) 32 W w.heap.size (fun _ => True) v xs) (hB : Below w.heap.size w W) : Calls Tryd.prog 22 #[v, .func (.func 23) #[] #[]] W fun e w' => e = .returned (.tuple #[]) ∧ Kd.S (Kd.slice 3 (Kd.int .i64)) 32 w' w.heap.size (fun _ => True) v (xs.mergeSort (impl_ShatteredSets.le k)) ∧ Below w.heap.size w w' := by
  refine (Rs.sortS (impl_ShatteredSets.cf k) (fun x => x ∈ xs) (fun x hx => ?_) (fun x y z hx hy hz => ((h.2.2 x hx y hy).2.2.2 z hz).1) (fun x y z hx hy hz => ((h.2.2 x hx y hy).2.2.2 z hz).2) 23 (enters_of Tryd.func23 (by kernel_rfl) rfl) (impl_ShatteredSets.compares k xs h) hS (fun e => by have := h.1; rw [e] at this; exact absurd this (by decide)) (fun _ hx => hx) h.2.1).mono ?_
  · intro e; exact (h.2.2 x hx x hx).2.2.1 ⟨e, e⟩
  · rintro e w' ⟨rfl, ys, hp, hs, hS1, row, hrow, hg⟩; obtain rfl := impl_ShatteredSets.sorts h hp hs; exact ⟨rfl, hS1, pw_below_grown hB _ hB.size hg (fun q e => by injection e with e; subst e; exact Kd.S_base hS row hrow)⟩
def impl_ShatteredSets.l0 : Nat → List (List Int) → List (List Int) → Int → Int → Option ((List (List Int)) × Bool)
 | 0, _, _, _, _ => none
 | k + 1, x0, x4, x15, x16 => if x16 < x15 then ((impl_members.f k x16).bind fun t332 => ((impl_shatters.f k x0 t332).bind fun t335 => (if t335 = true then (if x4.length < 5864062014805 then (impl_ShatteredSets.l0 k x0 (x4 ++ [t332]) x15 (wrap64 (x16 + 1))) else (none)) else (impl_ShatteredSets.l0 k x0 x4 x15 (wrap64 (x16 + 1)))))) else ((impl_ShatteredSets.res k x4).bind fun t_ => some (t_, true))
def impl_ShatteredSets.f (k : Nat) (l0 : List (List Int)) : Option ((List (List Int)) × Bool) := (impl_IsClass.f k l0).bind fun t327 => (if t327 = true then (if 0 < (l0.length : Int) then (impl_ShatteredSets.l0 k l0 (([] : List (List Int))) (shl .i64 1 ((rd_L1 l0 0).length : Int)) 0) else (none)) else (some (([] : List (List Int)), false)))
theorem impl_ShatteredSets.calls (k : Nat) (A0 : Option Addr) (c0 : Nat) (l0 : List (List Int)) (r1 : List (List Int)) (r2 : Bool) (w : World) (hr0 : Kd.C (Kd.slice 3 (Kd.int .i64)) w A0 l0.length l0) (hc0 : l0.length ≤ c0) (h : impl_ShatteredSets.f k l0 = some (r1, r2)) (HTab : Aside0 (TabAt 1 Go.Lib.deBruijn64tab w)) :
 Calls Tryd.prog 11 #[.slice A0 l0.length c0] w fun e w' => ∃ v0_ : Value, e = .returned (.tuple #[v0_, .bool r2]) ∧ Kd.S (Kd.slice 3 (Kd.int .i64)) 32 w' w.heap.size (fun _ => True) v0_ r1 ∧ Below w.heap.size w w' := by
 have HR0 := Aside0.mk hr0; have HC0 := Aside0.mk hc0; clear hr0 hc0; have HB := Aside0.mk (Below.refl w.heap.size w); have H : ((impl_IsClass.f k l0).bind fun t327 => (if t327 = true then (if 0 < (l0.length : Int) then (impl_ShatteredSets.l0 k l0 (([] : List (List Int))) (shl .i64 1 ((rd_L1 l0 0).length : Int)) 0) else (none)) else (some (([] : List (List Int)), false)))) = some (r1, r2) := h; clear h; replace H := Option.bind_eq_some_iff.mp H; obtain ⟨t327, A20, H⟩ := H; replace H : (if t327 = true then (if 0 < (l0.length : Int) then (impl_ShatteredSets.l0 k l0 (([] : List (List Int))) (shl .i64 1 ((rd_L1 l0 0).length : Int)) 0) else (none)) else (some (([] : List (List Int)), false))) = some (r1, r2) := H; have A2 := Aside0.mk A20; clear A20; by_cases c3 : t327 = true
 · subst c3; have H1 : (if 0 < (l0.length : Int) then (impl_ShatteredSets.l0 k l0 (([] : List (List Int))) (shl .i64 1 ((rd_L1 l0 0).length : Int)) 0) else (none)) = some (r1, r2) := by rw [if_pos rfl] at H; exact H
   clear H; have H := H1; clear H1; obtain ⟨y328, hy328⟩ : ∃ y_ : List (List Int), y_ = (([] : List (List Int))) := ⟨_, rfl⟩; replace H : (if 0 < (l0.length : Int) then (impl_ShatteredSets.l0 k l0 y328 (shl .i64 1 ((rd_L1 l0 0).length : Int)) 0) else (none)) = some (r1, r2) := by first | (rw [hy328]; with_reducible exact H) | (have H2_ := (Option.bind_some _ _).symm.trans H; rw [hy328]; with_reducible exact H2_) | (have H2_ := (Option.bind_some _ _).symm.trans H; with_reducible exact H2_) | with_reducible exact H | (rw [hy328]; exact H) | exact H
   have Ny328 := Aside0.mk hy328; clear hy328; by_cases c4 : 0 < (l0.length : Int)
   · rw [if_pos c4] at H; have c4b0 : decide (0 < (l0.length : Int)) = true := decide_eq_true c4; have c4b1 : decide (0 < l0.length) = true := decide_eq_true (by omega); clear c4; obtain ⟨ji5, hji5⟩ : ∃ j_ : Int, (shl .i64 1 ((rd_L1 l0 0).length : Int)) = j_ := ⟨_, rfl⟩; replace H : (impl_ShatteredSets.l0 k l0 y328 ji5 0) = some (r1, r2) := by first | (rw [hji5] at H; exact H) | (simp only [hji5] at H ⊢; exact H)
     (try rw [hji5] at A2); have hji5_ : (IntKind.i64.wrap (1 * 2 ^ min ((rd_L1 l0 0).length : Int).toNat 64)) = ji5 := hji5; have hji5z : ((rd_L1 l0 0).length : Int) ≤ 64 → (IntKind.i64.wrap (1 * 2 ^ ((rd_L1 l0 0).length : Int).toNat)) = ji5 := shl_small hji5; have hji5p : (IntKind.i64.wrap (1 * 2 ^ min (rd_L1 l0 0).length 64)) = ji5 := hji5_; have hji5q : ((rd_L1 l0 0).length : Int) ≤ 64 → (IntKind.i64.wrap (1 * 2 ^ (rd_L1 l0 0).length)) = ji5 := hji5z; have hji5r : (IntKind.i64.wrap (2 ^ min (rd_L1 l0 0).length 64)) = ji5 := by have h_ := hji5p; rw [Int.one_mul] at h_; exact h_
     have hji5s : ((rd_L1 l0 0).length : Int) ≤ 64 → (IntKind.i64.wrap (2 ^ (rd_L1 l0 0).length)) = ji5 := fun hle_ => by have h_ := hji5q hle_; rw [Int.one_mul] at h_; exact h_
     have hji5u : (IntKind.i64.wrap (2 ^ min ((rd_L1 l0 0).length : Int).toNat 64)) = ji5 := by have h_ := hji5_; rw [Int.one_mul] at h_; exact h_
     have hji5v : ((rd_L1 l0 0).length : Int) ≤ 64 → (IntKind.i64.wrap (2 ^ ((rd_L1 l0 0).length : Int).toNat)) = ji5 := fun hle_ => by have h_ := hji5z hle_; rw [Int.one_mul] at h_; exact h_
     have hji5y : (wrap64 (1 * 2 ^ min ((rd_L1 l0 0).length : Int).toNat 64)) = ji5 := (i64_w _).symm.trans hji5_; have hji5x : ((rd_L1 l0 0).length : Int) ≤ 64 → (wrap64 (1 * 2 ^ ((rd_L1 l0 0).length : Int).toNat)) = ji5 := fun h_ => (i64_w _).symm.trans (hji5z h_)
     have H' := Aside0.mk H; clear H; go_enter Tryd.func11, Tryd.ntmps11; go_wp2_with (first | ((with_reducible refine gate_callee (f := 19) rfl ?_); refine goesL_ (some 8) rfl rfl Tryd.func19 (by kernel_rfl) rfl #[.slice A0 l0.length c0] rfl aT ?_; (with_reducible refine (impl_IsClass.calls k _ _ l0 true _ ?side1 ?side2 A2.out).mono ?_); (case side1 => exact cC HR0); (case side2 => exact HC0.out); rintro e w' ⟨rfl, ⟨nd, rfl⟩⟩; refine ⟨_, rfl, ?_⟩) | ((with_reducible refine gate_dst (N := 10) rfl ?_); refine Kd.S_lit (Kd.slice 3 (Kd.int .i64)) _ 32 ?hg (N := 10) ?hd (xs := ([] : List (List Int))) (inner := []) (ok := fun _ => True) (okp := fun _ => True) ?hr ?hp (fun _ hk => hk) trivial (Below.refl _ _) (Nat.le_refl _) (by simp) ?_; (case hd => rfl); (case hg => rfl); (case hr => go_simp <;> rfl); (case hp => exact (Reps.none _ _)); intro v329 w6 ho7 hb hg_ hnew_; clear hg_ hnew_; (first | rw [← Ny328.out] at ho7 | (simp only [Int.reduceToNat] at ho7; rw [← Ny328.out] at ho7)); have HO330 := Aside0.mk (Kd.S_lower ho7 (below_size (bB HB))); replace HB := Aside0.mk (below_step (bB HB) hb); clear hb ho7; have p331 : 0 ≤ (0 : Int) := (by omega); have q331 : 0 < (l0.length : Int) := of_decide_eq_true aS; obtain ⟨ad331, A331_0, c331_0, e331, hx331_0, hl331_0, hi331_0⟩ := at_L1 HR0.out 0 p331 q331; cases e331; have qi331 : (0 < l0.length) = True := eq_true (by omega); (try rw [show ((0 : Int)).toNat = 0 from rfl] at hx331_0); (try rw [Addr.add_zero'] at hx331_0); replace hx331_0 := (HB.out.cell (World.block_lt_of_cell? w _ hx331_0)).trans hx331_0; have HR331_0 := Aside0.mk hi331_0; have HC331_0 := Aside0.mk hl331_0; clear hi331_0 hl331_0; replace p331 := eq_true p331; replace q331 := eq_true q331))
     go_loopg [4, 16] k (fun kq v4 v16 w' => ∃ (x4_1 : List (List Int)) (x16_1 : Int), v16 = .int .i64 x16_1 ∧ Aside0 (impl_ShatteredSets.l0 kq l0 x4_1 ji5 x16_1 = some (r1, r2)) ∧ Aside0 (kq ≤ k) ∧ Aside0 (Kd.S (Kd.slice 3 (Kd.int .i64)) 32 w' w.heap.size (fun _ => True) v4 x4_1) ∧ Aside0 (Below w.heap.size w w'))
     case atStart => exact ⟨(y328), (0), rD, H', ⟨Nat.le_refl _⟩, ⟨pS HO330⟩, ⟨bB HB⟩⟩
     case round =>
      clear H'; try clear c1
      try clear c3
      try clear c4
      try clear c4b0
      try clear c4b1
      try clear hx331_0
      try clear p331
      try clear q331
      obtain ⟨x4_1, x16_1, rfl, HA, HK1, HO_4, HB⟩ := hrel; cases gk with
      | zero => exact absurd HA.out (by simp [impl_ShatteredSets.l0])
      | succ k1 =>
       have H := HA.out; clear HA; simp only [impl_ShatteredSets.l0] at H; by_cases c8 : x16_1 < ji5
       · rw [if_pos c8] at H; have c8b0 : decide (x16_1 < ji5) = true := decide_eq_true c8; clear c8; replace H := Option.bind_eq_some_iff.mp H; obtain ⟨t332, A90, H⟩ := H; replace H : ((impl_shatters.f k1 l0 t332).bind fun t335 => (if t335 = true then (if x4_1.length < 5864062014805 then (impl_ShatteredSets.l0 k1 l0 (x4_1 ++ [t332]) ji5 (wrap64 (x16_1 + 1))) else (none)) else (impl_ShatteredSets.l0 k1 l0 x4_1 ji5 (wrap64 (x16_1 + 1))))) = some (r1, r2) := H; have A9 := Aside0.mk A90; clear A90; replace H := Option.bind_eq_some_iff.mp H; obtain ⟨t335, A100, H⟩ := H; replace H : (if t335 = true then (if x4_1.length < 5864062014805 then (impl_ShatteredSets.l0 k1 l0 (x4_1 ++ [t332]) ji5 (wrap64 (x16_1 + 1))) else (none)) else (impl_ShatteredSets.l0 k1 l0 x4_1 ji5 (wrap64 (x16_1 + 1)))) = some (r1, r2) := H; have A10 := Aside0.mk A100; clear A100; by_cases c11 : t335 = true
         · subst c11; have H1 : (if x4_1.length < 5864062014805 then (impl_ShatteredSets.l0 k1 l0 (x4_1 ++ [t332]) ji5 (wrap64 (x16_1 + 1))) else (none)) = some (r1, r2) := by rw [if_pos rfl] at H; exact H
           clear H; have H := H1; clear H1; by_cases c12 : x4_1.length < 5864062014805
           · rw [if_pos c12] at H; have LMc12 := Aside0.mk c12; clear c12; obtain ⟨y336, hy336⟩ : ∃ y_ : List (List Int), y_ = (x4_1 ++ [t332]) := ⟨_, rfl⟩; replace H : (impl_ShatteredSets.l0 k1 l0 y336 ji5 (wrap64 (x16_1 + 1))) = some (r1, r2) := by first | (rw [hy336]; with_reducible exact H) | (have H2_ := (Option.bind_some _ _).symm.trans H; rw [hy336]; with_reducible exact H2_) | (have H2_ := (Option.bind_some _ _).symm.trans H; with_reducible exact H2_) | with_reducible exact H | (rw [hy336]; exact H) | exact H
             have Ny336 := Aside0.mk hy336; clear hy336; have H' := Aside0.mk H; clear H; go_wp2_with (first | ((with_reducible refine gate_callee (f := 20) rfl ?_); refine goesL_ (some 20) rfl rfl Tryd.func20 (by kernel_rfl) rfl #[.int .i64 x16_1] rfl aT ?_; (with_reducible refine (impl_members.calls k1 x16_1 t332 _ A9.out (Tb.tabB HTab ⟨bB HB⟩)).mono ?_); rintro e w13 ⟨v333, rfl, ho0, hb⟩; refine ⟨_, rfl, ?_⟩; have HO334 := Aside0.mk (Kd.R_lower ho0 (below_size (bB HB))); replace HO_4 := Aside0.mk (Kd.S_elder' (pS HO_4) (Kd.R_base ho0) hb); replace HB := Aside0.mk (below_step (bB HB) hb); (try clear hb); (try clear hb2); (try clear hk); (try clear hi); (try clear ho0); obtain ⟨Ao14, co14, eo14⟩ := Kd.R_slice HO334.out; subst eo14) | ((with_reducible refine gate_callee (f := 21) rfl ?_); refine goesL_ (some 23) rfl rfl Tryd.func21 (by kernel_rfl) rfl #[.slice (some ad331) l0.length c0, .slice Ao14 t332.length co14] rfl aT ?_; (with_reducible refine (impl_shatters.calls k1 _ _ l0 _ _ t332 true _ ?side1 ?side2 ?side3 ?side4 A10.out).mono ?_); (case side1 => exact cB HR0 HB); (case side2 => exact HC0.out); (case side3 => exact cR HO334); (case side4 => exact (Kd.R_reads' HO334.out).2.1); rintro e w15 ⟨rfl, hb⟩; refine ⟨_, rfl, ?_⟩; replace HO_4 := Aside0.mk (Kd.S_below (pS HO_4) hb); replace HO334 := Aside0.mk (Kd.R_below (pR HO334) hb); replace HB := Aside0.mk (below_step (bB HB) hb); (try clear hb); (try clear hb2); (try clear hk); (try clear hi)) | ((with_reducible refine gate_builtin (b := .append) (xs := #[.tmp 24, .tmp 26]) rfl ?_); at_builtin; refine Kd.S_append (Kd.slice 3 (Kd.int .i64)) (w0 := w) w.heap.size rfl (.tmp 24) (.tmp 26) 22 32 (.slice none 0 0) 24 rfl Tryd.underlying22 info32 rfl (by decide) (by omega) u4 x4_1 t332 [.slice Ao14 t332.length co14] (fun _ => True) (fun k_ => some k_ = (.slice Ao14 t332.length co14 : Value).ownBlock) rfl rfl ?aP (fun k_ hk_ => ((Kd.R_mono (ok' := fun k_ => ((fun _ => True)) k_ ∧ some k_ ≠ (u4 : Value).ownBlock) (Kd.R_apart' (HO334.out) (Kd.S_typed HO_4.out) (by decide)) (fun k_ hk => ⟨trivial, hk.2⟩))).1 k_ hk_.symm) ?aF ?aO ?aB ?aS ?aL ?_; (case aP => exact Kd.M_row (Kd.R_mono (Kd.R_tight rfl (Kd.R_mono (ok' := fun k_ => ((fun _ => True)) k_ ∧ some k_ ≠ (u4 : Value).ownBlock) (Kd.R_apart' (HO334.out) (Kd.S_typed HO_4.out) (by decide)) (fun k_ hk => ⟨trivial, hk.2⟩))) (fun _ h_ => h_))); (case aB => exact (bB HB)); (case aF => exact (fun _ _ => trivial)); (case aO => exact (by (with_reducible repeat (first | apply Kd.S_alloc | apply Kd.S_drewN | apply Kd.S_drew)); exact Kd.S_mono HO_4.out (fun k_ hk => ⟨trivial, fun e_ => hk.2 e_⟩))); (case aS => exact (below_size (bB HB))); (case aL => have := LMc12.out; omega); intro v337 w16 ho hb hg hat; rw [← Ny336.out] at ho; have HO338 := Aside0.mk (ho); replace HB := Aside0.mk (hb); clear HO_4 HO334; clear ho hb hg hat))
             go_roundg k1
             case measure => have := HK1.out; omega
             case rel => exact ⟨(y336), (wrap64 (x16_1 + 1)), rD, H', ⟨by have := HK1.out; omega⟩, ⟨pS HO338⟩, ⟨bB HB⟩⟩
           · rw [if_neg c12] at H; exact absurd H (by simp)
         · replace c11 := Bool.eq_false_iff.mpr c11; subst c11; have H1 : (impl_ShatteredSets.l0 k1 l0 x4_1 ji5 (wrap64 (x16_1 + 1))) = some (r1, r2) := by rw [if_neg (show ¬ (false = true) by decide)] at H; exact H
           clear H; have H := H1; clear H1; have H' := Aside0.mk H; clear H; go_wp2_with (first | ((with_reducible refine gate_callee (f := 20) rfl ?_); refine goesL_ (some 20) rfl rfl Tryd.func20 (by kernel_rfl) rfl #[.int .i64 x16_1] rfl aT ?_; (with_reducible refine (impl_members.calls k1 x16_1 t332 _ A9.out (Tb.tabB HTab ⟨bB HB⟩)).mono ?_); rintro e w17 ⟨v333, rfl, ho0, hb⟩; refine ⟨_, rfl, ?_⟩; have HO334 := Aside0.mk (Kd.R_lower ho0 (below_size (bB HB))); replace HO_4 := Aside0.mk (Kd.S_elder' (pS HO_4) (Kd.R_base ho0) hb); replace HB := Aside0.mk (below_step (bB HB) hb); (try clear hb); (try clear hb2); (try clear hk); (try clear hi); (try clear ho0); obtain ⟨Ao18, co18, eo18⟩ := Kd.R_slice HO334.out; subst eo18) | ((with_reducible refine gate_callee (f := 21) rfl ?_); refine goesL_ (some 23) rfl rfl Tryd.func21 (by kernel_rfl) rfl #[.slice (some ad331) l0.length c0, .slice Ao18 t332.length co18] rfl aT ?_; (with_reducible refine (impl_shatters.calls k1 _ _ l0 _ _ t332 false _ ?side1 ?side2 ?side3 ?side4 A10.out).mono ?_); (case side1 => exact cB HR0 HB); (case side2 => exact HC0.out); (case side3 => exact cR HO334); (case side4 => exact (Kd.R_reads' HO334.out).2.1); rintro e w19 ⟨rfl, hb⟩; refine ⟨_, rfl, ?_⟩; replace HO_4 := Aside0.mk (Kd.S_below (pS HO_4) hb); replace HO334 := Aside0.mk (Kd.R_below (pR HO334) hb); replace HB := Aside0.mk (below_step (bB HB) hb); (try clear hb); (try clear hb2); (try clear hk); (try clear hi)))
           go_roundg k1
           case measure => have := HK1.out; omega
           case rel => exact ⟨(x4_1), (wrap64 (x16_1 + 1)), rD, H', ⟨by have := HK1.out; omega⟩, ⟨by (with_reducible repeat (first | apply Kd.S_alloc | apply Kd.S_drewN | apply Kd.S_drew)); exact Kd.S_mono HO_4.out (fun _ hk => trivial)⟩, ⟨bB HB⟩⟩
       · rw [if_neg c8] at H; have c8b0 : decide (x16_1 < ji5) = false := decide_eq_false c8; clear c8; obtain ⟨t_, hres, H⟩ := Option.bind_eq_some_iff.mp H; simp only [Option.some.injEq, Prod.mk.injEq] at H; obtain ⟨rfl, rfl⟩ := H; obtain ⟨hok, rfl⟩ := impl_ShatteredSets.res_ok hres; clear hres; have HOK := Aside0.mk hok; clear hok; go_wp2_with (fail)
         refine (impl_ShatteredSets.sortCall k1 x4_1 HOK.out (pS HO_4) (bB HB)).mono ?_; rintro e w91 ⟨rfl, hs, hb⟩; clear HO_4 HB; have HO_4 := Aside0.mk hs; have HB := Aside0.mk hb; clear hs hb; go_wp2; go_ret2
         exact ⟨_, eW, pS HO_4, bB HB⟩
   · rw [if_neg c4] at H; exact absurd H (by simp)
 · replace c3 := Bool.eq_false_iff.mpr c3; subst c3; have H1 : (some (([] : List (List Int)), false)) = some (r1, r2) := by rw [if_neg (show ¬ (false = true) by decide)] at H; exact H
   clear H; have H := H1; clear H1; simp only [Option.some.injEq, Prod.mk.injEq] at H; obtain ⟨rfl, rfl⟩ := H; go_enter Tryd.func11, Tryd.ntmps11; go_wp2_with (first | ((with_reducible refine gate_callee (f := 19) rfl ?_); refine goesL_ (some 8) rfl rfl Tryd.func19 (by kernel_rfl) rfl #[.slice A0 l0.length c0] rfl aT ?_; (with_reducible refine (impl_IsClass.calls k _ _ l0 false _ ?side1 ?side2 A2.out).mono ?_); (case side1 => exact cC HR0); (case side2 => exact HC0.out); rintro e w' ⟨rfl, ⟨nd, rfl⟩⟩; refine ⟨_, rfl, ?_⟩))
   go_ret2
   exact ⟨_, eW, by first | exact Kd.S_nil _ _ _ _ _ | exact Kd.N_nil _ _ _ _ _ | exact Kd.V_nil _ _ _ _ _ | exact Kd.Q_nil _ _ _ _ _ | exact Kd.R_nil _ _ _ _ _, bB HB⟩

def laws_markIntS.l0 : Nat → List Int → Int → Int → Option (Int × List Int)
 | 0, _, _, _ => none
 | k + 1, x0, x1, x5 => if x5 < (x0.length : Int) then (if 0 ≤ x5 then (laws_markIntS.l0 k (x0.set (x5 : Int).toNat x1) (wrap64 (x1 + 1)) (wrap64 (x5 + 1))) else (none)) else (some (x1, x0))
def laws_markIntS.f (k : Nat) (l0 : List Int) (a1 : Int) : Option (Int × List Int) := laws_markIntS.l0 k l0 a1 0
theorem laws_markIntS.calls (k : Nat) (P0_ : Nat → Prop) (u9000_ : Value) (l0 : List Int) (a1 : Int) (r1 : Int) (r2 : List Int) (w0 w : World) (hB : Below w0.heap.size w0 w) (ho0 : Kd.R (Kd.int .i64) 3 w w0.heap.size P0_ u9000_ l0) (h : laws_markIntS.f k l0 a1 = some (r1, r2)) :
 Calls Tryd.prog 24 #[u9000_, .int .i64 a1] w fun e w' => e = .returned (.int .i64 r1) ∧ Kd.R (Kd.int .i64) 3 w' w0.heap.size (fun k_ => (P0_ k_ ∨ w.heap.size ≤ k_)) u9000_ r2 ∧ Below w0.heap.size w0 w' ∧ Kept w w' (fun k_ => P0_ k_) := by
 have HO0 := Aside0.mk (show Kd.R (Kd.int .i64) 3 w w0.heap.size (fun k_ => (P0_ k_ ∨ w.heap.size ≤ k_)) u9000_ l0 from Kd.R_mono ho0 (fun k_ hk => (.inl hk))); have HK := Aside0.mk (Kept.refl w (fun k_ => P0_ k_)); have HW0 := Aside0.mk hB.size; have HB := Aside0.mk hB; clear hB; have H : (laws_markIntS.l0 k l0 a1 0) = some (r1, r2) := h; clear h; have H' := Aside0.mk H; clear H; go_enter Tryd.func24, Tryd.ntmps24; go_wp2; go_loopg [1, 5] k (fun kq v1 v5 w' => ∃ (x0_1 : List Int) (x1_1 : Int) (x5_1 : Int), v1 = .int .i64 x1_1 ∧ v5 = .int .i64 x5_1 ∧ Aside0 (laws_markIntS.l0 kq x0_1 x1_1 x5_1 = some (r1, r2)) ∧ Aside0 (kq ≤ k) ∧ Aside0 (Kd.R (Kd.int .i64) 3 w' w0.heap.size (fun k_ => (P0_ k_ ∨ w.heap.size ≤ k_)) u9000_ x0_1) ∧ Aside0 (Kept w w' (fun k_ => P0_ k_)) ∧ Aside0 (Below w0.heap.size w0 w'))
 case atStart => exact ⟨(l0), (a1), (0), rD, rD, H', ⟨Nat.le_refl _⟩, ⟨pR HO0⟩, ⟨by repeat (first | (with_reducible first | exact HK.out | apply Kept.alloc | apply Kept.drewN | apply Kept.drew) | exact HK.out)⟩, ⟨bB HB⟩⟩
 case round =>
  clear H'; obtain ⟨x0_1, x1_1, x5_1, rfl, rfl, HA, HK1, HO_0, HK, HB⟩ := hrel; cases gk with
  | zero => exact absurd HA.out (by simp [laws_markIntS.l0])
  | succ k1 =>
   have H := HA.out; clear HA; simp only [laws_markIntS.l0] at H; by_cases c3 : x5_1 < (x0_1.length : Int)
   · rw [if_pos c3] at H; have c3b0 : decide (x5_1 < (x0_1.length : Int)) = true := decide_eq_true c3; clear c3; by_cases c4 : 0 ≤ x5_1
     · rw [if_pos c4] at H; have c4b0 : decide (0 ≤ x5_1) = true := decide_eq_true c4; clear c4; obtain ⟨y339, hy339⟩ : ∃ y_ : List Int, y_ = (x0_1.set (x5_1 : Int).toNat x1_1) := ⟨_, rfl⟩; replace H : (laws_markIntS.l0 k1 y339 (wrap64 (x1_1 + 1)) (wrap64 (x5_1 + 1))) = some (r1, r2) := by first | (rw [hy339]; with_reducible exact H) | (have H2_ := (Option.bind_some _ _).symm.trans H; rw [hy339]; with_reducible exact H2_) | (have H2_ := (Option.bind_some _ _).symm.trans H; with_reducible exact H2_) | with_reducible exact H | (rw [hy339]; exact H) | exact H
       have Ny339 := Aside0.mk hy339; clear hy339; have H' := Aside0.mk H; clear H; obtain ⟨Ao6, co6, eo6⟩ := Kd.R_slice HO_0.out; subst eo6; have p5 : 0 ≤ (x5_1 : Int) := of_decide_eq_true aS; have q5 : (x5_1 : Int) < ((x0_1.length : Int) : Int) := of_decide_eq_true aS; obtain ⟨go5, co5, eo5, gb5, gl5, cl5, HG5⟩ := Kd.R_form HO_0.out (by omega); (first | cases eo5 | (injection eo5 with ea_ en_ ec_; (first | subst ea_ | (injection ea_ with ea_; subst ea_)); subst ec_; clear en_)); have GB5 := Aside0.mk gb5; have GG5 := Aside0.mk HG5; clear gb5 gl5 HG5; have HMgo5 := Aside0.mk (show (P0_ go5 ∨ w.heap.size ≤ go5) from (HO_0.out.1 _ rfl)); obtain ⟨hx5_0, hf5_0⟩ := Kd.R_celln 0 HO_0.out (x5_1 : Int) p5 q5; replace p5 := eq_true p5; replace q5 := eq_true q5; have HP7 := Kd.R_putg HO_0.out (x5_1 : Int) x1_1; go_wp2_with (first | ((with_reducible refine gate_store (t := 3) (p := 15) rfl ?_); refine store_event (t := 3) (p := 15) (v := ?vo_w8) (w1 := (wr.setCell ⟨go5, (x5_1 : Int).toNat, none⟩ (.int .i64 x1_1))) ?hg ?ho ?hn ?hr ?_; (case ho => rfl); (case hg => rfl); (case hn => rfl); (case hr => go_simp <;> rfl); intro w8 hw; have hg : wr.grownBy w8 (some go5) := (by rw [hw]; exact HP7.2); have hp_ : Kd.R (Kd.int .i64) 3 w8 w0.heap.size (fun k_ => (P0_ k_ ∨ w.heap.size ≤ k_)) (.slice (some ⟨go5, 0, none⟩) x0_1.length co6) y339 := (by rw [hw, Ny339.out]; exact HP7.1); clear HP7; replace HB := Aside0.mk ((by rw [hw]; exact below_set (HB.out) GB5.out : Below w0.heap.size w0 w8)); replace HK := Aside0.mk (Kept.of_grown (S := (fun k_ => P0_ k_)) hg (by repeat (first | (with_reducible first | exact HK.out | apply Kept.alloc | apply Kept.drewN | apply Kept.drew) | exact HK.out)) (fun k_ e_ => (HO_0.out.1 k_ e_))); replace HO_0 := Aside0.mk (hp_); clear hg hw hp_))
       go_roundg k1
       case measure => have := HK1.out; omega
       case rel => exact ⟨(y339), (wrap64 (x1_1 + 1)), (wrap64 (x5_1 + 1)), rD, rD, H', ⟨by have := HK1.out; omega⟩, ⟨pR HO_0⟩, ⟨by repeat (first | (with_reducible first | exact HK.out | apply Kept.alloc | apply Kept.drewN | apply Kept.drew) | exact HK.out)⟩, ⟨bB HB⟩⟩
     · rw [if_neg c4] at H; exact absurd H (by simp)
   · rw [if_neg c3] at H; have c3b0 : decide (x5_1 < (x0_1.length : Int)) = false := decide_eq_false c3; clear c3; simp only [Option.some.injEq, Prod.mk.injEq] at H; obtain ⟨rfl, rfl⟩ := H; obtain ⟨Ao9, co9, eo9⟩ := Kd.R_slice HO_0.out; subst eo9; go_wp2; go_ret
     exact ⟨eW, by (with_reducible repeat (first | apply Kd.R_alloc | apply Kd.R_drewN | apply Kd.R_drew)); exact HO_0.out, bB HB, by repeat (first | (with_reducible first | exact HK.out | apply Kept.alloc | apply Kept.drewN | apply Kept.drew) | exact HK.out)⟩

-- NOT PRINTED: function 12 (laws_markIntSS)

def laws_heldIntS.l0 : Nat → List Int → Int → Int → Option (Int)
 | 0, _, _, _ => none
 | k + 1, x0, x1, x5 => if x5 < (x0.length : Int) then (if 0 ≤ x5 then (if (rd x0 x5) = x1 then (laws_heldIntS.l0 k x0 (wrap64 (x1 + 1)) (wrap64 (x5 + 1))) else (some (-1))) else (none)) else (some x1)
def laws_heldIntS.f (k : Nat) (l0 : List Int) (a1 : Int) : Option (Int) := laws_heldIntS.l0 k l0 a1 0
theorem laws_heldIntS.calls (k : Nat) (A0 : Option Addr) (c0 : Nat) (l0 : List Int) (a1 : Int) (r : Int) (w : World) (hr0 : Kd.C (Kd.int .i64) w A0 l0.length l0) (hc0 : l0.length ≤ c0) (h : laws_heldIntS.f k l0 a1 = some r) :
 Calls Tryd.prog 25 #[.slice A0 l0.length c0, .int .i64 a1] w fun e w' => e = .returned (.int .i64 r) ∧ Drawn0 w w' := by
 have HR0 := Aside0.mk hr0; have HC0 := Aside0.mk hc0; clear hr0 hc0; have H : (laws_heldIntS.l0 k l0 a1 0) = some r := h; clear h; have H' := Aside0.mk H; clear H; go_enter Tryd.func25, Tryd.ntmps25; go_wp2; go_loopg [1, 5] k (fun kq v1 v5 w' => ∃ (x1_1 : Int) (x5_1 : Int), v1 = .int .i64 x1_1 ∧ v5 = .int .i64 x5_1 ∧ Aside0 (laws_heldIntS.l0 kq l0 x1_1 x5_1 = some r) ∧ Aside0 (kq ≤ k) ∧ Drawn0 w w')
 case atStart => exact ⟨(a1), (0), rD, rD, H', ⟨Nat.le_refl _⟩, by repeat (first | exact Drawn0.refl _ | apply Drawn0.step)⟩
 case round =>
  clear H'; obtain ⟨x1_1, x5_1, rfl, rfl, HA, HK1, ⟨m1, rfl⟩⟩ := hrel; cases gk with
  | zero => exact absurd HA.out (by simp [laws_heldIntS.l0])
  | succ k1 =>
   have H := HA.out; clear HA; simp only [laws_heldIntS.l0] at H; by_cases c3 : x5_1 < (l0.length : Int)
   · rw [if_pos c3] at H; have c3b0 : decide (x5_1 < (l0.length : Int)) = true := decide_eq_true c3; clear c3; by_cases c4 : 0 ≤ x5_1
     · rw [if_pos c4] at H; have c4b0 : decide (0 ≤ x5_1) = true := decide_eq_true c4; clear c4; by_cases c5 : (rd l0 x5_1) = x1_1
       · rw [if_pos c5] at H; have c5b0 : ((rd l0 x5_1) == x1_1) = true := beq_iff_eq.mpr c5; have c5b1 : ((rd l0 x5_1) != x1_1) = false := bne_eq_false_iff_eq.mpr c5; clear c5; have H' := Aside0.mk H; clear H; have p341 : 0 ≤ (x5_1 : Int) := of_decide_eq_true aS; have q341 : x5_1 < (l0.length : Int) := of_decide_eq_true aS; obtain ⟨ad341, e341, hx341_0⟩ := Kd.at_int HR0.out x5_1 p341 q341; cases e341
         replace p341 := eq_true p341; replace q341 := eq_true q341; go_wp2; go_roundg k1
         case measure => have := HK1.out; omega
         case rel => exact ⟨(wrap64 (x1_1 + 1)), (wrap64 (x5_1 + 1)), rD, rD, H', ⟨by have := HK1.out; omega⟩, by repeat (first | exact Drawn0.refl _ | apply Drawn0.step)⟩
       · rw [if_neg c5] at H; have c5b0 : ((rd l0 x5_1) == x1_1) = false := beq_eq_false_iff_ne.mpr c5; have c5b1 : ((rd l0 x5_1) != x1_1) = true := bne_iff_ne.mpr c5; obtain rfl := Option.some.inj H; have p341 : 0 ≤ (x5_1 : Int) := of_decide_eq_true aS; have q341 : x5_1 < (l0.length : Int) := of_decide_eq_true aS; obtain ⟨ad341, e341, hx341_0⟩ := Kd.at_int HR0.out x5_1 p341 q341; cases e341
         replace p341 := eq_true p341; replace q341 := eq_true q341; go_wp2; go_ret
         exact ⟨rD, by repeat (first | exact Drawn0.refl _ | apply Drawn0.step)⟩
     · rw [if_neg c4] at H; exact absurd H (by simp)
   · rw [if_neg c3] at H; have c3b0 : decide (x5_1 < (l0.length : Int)) = false := decide_eq_false c3; clear c3; obtain rfl := Option.some.inj H; go_wp2; go_ret
     exact ⟨rD, by repeat (first | exact Drawn0.refl _ | apply Drawn0.step)⟩

def laws_heldIntSS.l0 : Nat → List (List Int) → Int → Int → Option (Int)
 | 0, _, _, _ => none
 | k + 1, x0, x1, x5 => if x5 < (x0.length : Int) then (if 0 ≤ x5 then ((laws_heldIntS.f k (rd_L1 x0 x5) x1).bind fun t343 => (if t343 < 0 then (some (-1)) else (laws_heldIntSS.l0 k x0 t343 (wrap64 (x5 + 1))))) else (none)) else (some x1)
def laws_heldIntSS.f (k : Nat) (l0 : List (List Int)) (a1 : Int) : Option (Int) := laws_heldIntSS.l0 k l0 a1 0
theorem laws_heldIntSS.calls (k : Nat) (A0 : Option Addr) (c0 : Nat) (l0 : List (List Int)) (a1 : Int) (r : Int) (w : World) (hr0 : Kd.C (Kd.slice 3 (Kd.int .i64)) w A0 l0.length l0) (hc0 : l0.length ≤ c0) (h : laws_heldIntSS.f k l0 a1 = some r) :
 Calls Tryd.prog 13 #[.slice A0 l0.length c0, .int .i64 a1] w fun e w' => e = .returned (.int .i64 r) ∧ Drawn0 w w' := by
 have HR0 := Aside0.mk hr0; have HC0 := Aside0.mk hc0; clear hr0 hc0; have H : (laws_heldIntSS.l0 k l0 a1 0) = some r := h; clear h; have H' := Aside0.mk H; clear H; go_enter Tryd.func13, Tryd.ntmps13; go_wp2; go_loopg [1, 5] k (fun kq v1 v5 w' => ∃ (x1_1 : Int) (x5_1 : Int), v1 = .int .i64 x1_1 ∧ v5 = .int .i64 x5_1 ∧ Aside0 (laws_heldIntSS.l0 kq l0 x1_1 x5_1 = some r) ∧ Aside0 (kq ≤ k) ∧ Drawn0 w w')
 case atStart => exact ⟨(a1), (0), rD, rD, H', ⟨Nat.le_refl _⟩, by repeat (first | exact Drawn0.refl _ | apply Drawn0.step)⟩
 case round =>
  clear H'; try clear c1
  obtain ⟨x1_1, x5_1, rfl, rfl, HA, HK1, ⟨m1, rfl⟩⟩ := hrel; cases gk with
  | zero => exact absurd HA.out (by simp [laws_heldIntSS.l0])
  | succ k1 =>
   have H := HA.out; clear HA; simp only [laws_heldIntSS.l0] at H; by_cases c3 : x5_1 < (l0.length : Int)
   · rw [if_pos c3] at H; have c3b0 : decide (x5_1 < (l0.length : Int)) = true := decide_eq_true c3; clear c3; by_cases c4 : 0 ≤ x5_1
     · rw [if_pos c4] at H; have c4b0 : decide (0 ≤ x5_1) = true := decide_eq_true c4; clear c4; replace H := Option.bind_eq_some_iff.mp H; obtain ⟨t343, A50, H⟩ := H; replace H : (if t343 < 0 then (some (-1)) else (laws_heldIntSS.l0 k1 l0 t343 (wrap64 (x5_1 + 1)))) = some r := H; have A5 := Aside0.mk A50; clear A50; by_cases c6 : t343 < 0
       · rw [if_pos c6] at H; have c6b0 : decide (t343 < 0) = true := decide_eq_true c6; clear c6; obtain rfl := Option.some.inj H; have p342 : 0 ≤ (x5_1 : Int) := of_decide_eq_true aS; have q342 : x5_1 < (l0.length : Int) := of_decide_eq_true aS; obtain ⟨ad342, A342_0, c342_0, e342, hx342_0, hl342_0, hi342_0⟩ := at_L1 HR0.out x5_1 p342 q342; cases e342
         have HR342_0 := Aside0.mk hi342_0; have HC342_0 := Aside0.mk hl342_0; clear hi342_0 hl342_0; replace p342 := eq_true p342; replace q342 := eq_true q342; go_wp2_with (first | ((with_reducible refine gate_callee (f := 25) rfl ?_); refine goesL_ (some 17) rfl rfl Tryd.func25 (by kernel_rfl) rfl #[.slice A342_0 (rd_L1 l0 x5_1).length c342_0, .int .i64 x1_1] rfl aT ?_; (with_reducible refine (laws_heldIntS.calls k1 _ _ (rd_L1 l0 x5_1) x1_1 t343 _ ?side1 ?side2 A5.out).mono ?_); (case side1 => exact cC HR342_0); (case side2 => exact HC342_0.out); rintro e w' ⟨rfl, ⟨nd, rfl⟩⟩; refine ⟨_, rfl, ?_⟩))
         go_ret
         exact ⟨rD, by repeat (first | exact Drawn0.refl _ | apply Drawn0.step)⟩
       · rw [if_neg c6] at H; have c6b0 : decide (t343 < 0) = false := decide_eq_false c6; clear c6; have H' := Aside0.mk H; clear H; have p342 : 0 ≤ (x5_1 : Int) := of_decide_eq_true aS; have q342 : x5_1 < (l0.length : Int) := of_decide_eq_true aS; obtain ⟨ad342, A342_0, c342_0, e342, hx342_0, hl342_0, hi342_0⟩ := at_L1 HR0.out x5_1 p342 q342; cases e342
         have HR342_0 := Aside0.mk hi342_0; have HC342_0 := Aside0.mk hl342_0; clear hi342_0 hl342_0; replace p342 := eq_true p342; replace q342 := eq_true q342; go_wp2_with (first | ((with_reducible refine gate_callee (f := 25) rfl ?_); refine goesL_ (some 17) rfl rfl Tryd.func25 (by kernel_rfl) rfl #[.slice A342_0 (rd_L1 l0 x5_1).length c342_0, .int .i64 x1_1] rfl aT ?_; (with_reducible refine (laws_heldIntS.calls k1 _ _ (rd_L1 l0 x5_1) x1_1 t343 _ ?side1 ?side2 A5.out).mono ?_); (case side1 => exact cC HR342_0); (case side2 => exact HC342_0.out); rintro e w' ⟨rfl, ⟨nd, rfl⟩⟩; refine ⟨_, rfl, ?_⟩))
         go_roundg k1
         case measure => have := HK1.out; omega
         case rel => exact ⟨(t343), (wrap64 (x5_1 + 1)), rD, rD, H', ⟨by have := HK1.out; omega⟩, by repeat (first | exact Drawn0.refl _ | apply Drawn0.step)⟩
     · rw [if_neg c4] at H; exact absurd H (by simp)
   · rw [if_neg c3] at H; have c3b0 : decide (x5_1 < (l0.length : Int)) = false := decide_eq_false c3; clear c3; obtain rfl := Option.some.inj H; go_wp2; go_ret
     exact ⟨rD, by repeat (first | exact Drawn0.refl _ | apply Drawn0.step)⟩

-- NOT PRINTED: function 4 (laws_FnExactShatteredSets)

end Go.Proofs.YtfkfahdikmfpeaaDoor.PFnExactShatteredSets
