import Derived.Test.YtfkfahdikmfpeaaDoorPFnExactVapnikNumberx0
import Derived.Test.YtfkfahdikmfpeaaDoorPFnExactVapnikNumberx5
import Derived.Test.YtfkfahdikmfpeaaDoorPFnExactVapnikNumberx6
import Derived.Test.YtfkfahdikmfpeaaDoorSh
import Derived.Test.YtfkfahdikmfpeaaDoorRs
namespace Go.Proofs.YtfkfahdikmfpeaaDoor.PFnExactVapnikNumber
open Go.RowKit Go.Proofs.YtfkfahdikmfpeaaDoor.Sh Go.Proofs.YtfkfahdikmfpeaaDoorW.PrintWords Go.Proofs.YtfkfahdikmfpeaaDoorW.PrintLast Go.Proofs.YtfkfahdikmfpeaaDoorW.PrintMore
attribute [local go_sem] max2_int min2_int max_two min_two max_three min_three max_four min_four
set_option linter.unusedVariables false
set_option maxHeartbeats 8000000
set_option maxRecDepth 100000
set_option linter.unusedSimpArgs false

def impl_ShatteredSets.cf (k : Nat) (x y : List Int) : Int := (impl_compareSets.f k x y).getD 0
def impl_ShatteredSets.le (k : Nat) (x y : List Int) : Bool := !decide (impl_ShatteredSets.cf k y x < 0)
def impl_ShatteredSets.okP (k : Nat) (xs : List (List Int)) (x y : List Int) : Prop := (impl_compareSets.f k x y).isSome = true ∧ (impl_ShatteredSets.cf k x y < 0 ∨ impl_ShatteredSets.cf k y x < 0 ∨ x = y) ∧ ¬ (impl_ShatteredSets.cf k x y < 0 ∧ impl_ShatteredSets.cf k y x < 0) ∧ ∀ z ∈ xs, (impl_ShatteredSets.cf k x y < 0 → impl_ShatteredSets.cf k y z < 0 → impl_ShatteredSets.cf k x z < 0) ∧ (¬ impl_ShatteredSets.cf k x y < 0 → ¬ impl_ShatteredSets.cf k y z < 0 → ¬ impl_ShatteredSets.cf k x z < 0)
def impl_ShatteredSets.ok (k : Nat) (xs : List (List Int)) : Prop := 0 < xs.length ∧ xs.length < 4611686018427387904 ∧ (∀ x ∈ xs, ∀ y ∈ xs, impl_ShatteredSets.okP k xs x y)
instance (k : Nat) (xs : List (List Int)) (x y : List Int) : Decidable (impl_ShatteredSets.okP k xs x y) := by unfold impl_ShatteredSets.okP; infer_instance
instance (k : Nat) (xs : List (List Int)) : Decidable (impl_ShatteredSets.ok k xs) := by unfold impl_ShatteredSets.ok; infer_instance
def impl_ShatteredSets.res (k : Nat) (xs : List (List Int)) : Option (List (List Int)) := if impl_ShatteredSets.ok k xs then some (xs.mergeSort (impl_ShatteredSets.le k)) else none
theorem impl_ShatteredSets.res_ok {k : Nat} {xs r : List (List Int)} (h : impl_ShatteredSets.res k xs = some r) : impl_ShatteredSets.ok k xs ∧ r = xs.mergeSort (impl_ShatteredSets.le k) := by
  unfold impl_ShatteredSets.res at h; split at h
  · next hk => exact ⟨hk, (Option.some.inj h).symm⟩
  · cases h
theorem impl_ShatteredSets.sorts {k : Nat} {xs ys : List (List Int)} (h : impl_ShatteredSets.ok k xs) (hp : ys.Perm xs) (hs : ys.Pairwise (fun a b => ¬ impl_ShatteredSets.cf k b a < 0)) : ys = xs.mergeSort (impl_ShatteredSets.le k) := by
  have h3 := h.2.2; refine Rs.sort_unique _ xs ys (fun a ha b hb c hc h1 h2 => ?_) (fun a ha b hb => ?_) (fun a ha b hb h1 h2 => ?_) hp (hs.imp fun h1 => ?_)
  · simp only [impl_ShatteredSets.le, Bool.not_eq_true', decide_eq_false_iff_not] at h1 h2 ⊢; exact ((h3 c hc b hb).2.2.2 a ha).2 h2 h1
  · simp only [impl_ShatteredSets.le, Bool.or_eq_true, Bool.not_eq_true', decide_eq_false_iff_not]; have := (h3 a ha b hb).2.2.1; by_cases e : impl_ShatteredSets.cf k b a < 0
    · exact .inr fun e2 => this ⟨e2, e⟩
    · exact .inl e
  · simp only [impl_ShatteredSets.le, Bool.not_eq_true', decide_eq_false_iff_not] at h1 h2; rcases (h3 a ha b hb).2.1 with e | e | e
    · exact absurd e h2
    · exact absurd e h1
    · exact e
  · simp only [impl_ShatteredSets.le, Bool.not_eq_true', decide_eq_false_iff_not]; exact h1
theorem impl_ShatteredSets.compares (k : Nat) (xs : List (List Int)) (h : impl_ShatteredSets.ok k xs) (W : World) (A : Option Addr) (c : Nat) (l : List Int) (A' : Option Addr) (c' : Nat) (l' : List Int) (hl : l ∈ xs) (hl' : l' ∈ xs) (h1 : Kd.C (Kd.int .i64) W A l.length l) (h2 : l.length ≤ c) (h3 : Kd.C (Kd.int .i64) W A' l'.length l') (h4 : l'.length ≤ c') : Calls Tryd.prog 23 #[.slice A l.length c, .slice A' l'.length c'] W fun e w' => e = .returned (.int .i64 (impl_ShatteredSets.cf k l l')) ∧ Drawn0 W w' :=
  impl_compareSets.calls k A c l A' c' l' _ W h1 h2 h3 h4 (by
    obtain ⟨v, hv⟩ := Option.isSome_iff_exists.1 (h.2.2 l hl l' hl').1; unfold impl_ShatteredSets.cf; rw [hv]; rfl)
theorem impl_ShatteredSets.sortCall (k : Nat) (xs : List (List Int)) (h : impl_ShatteredSets.ok k xs) {w W : World} {v : Value} (hS : Kd.S (Kd.slice 3 (Kd.int .i64)) 32 W w.heap.size (fun _ => True) v xs) (hB : Below w.heap.size w W) : Calls Tryd.prog 22 #[v, .func (.func 23) #[] #[]] W fun e w' => e = .returned (.tuple #[]) ∧ Kd.S (Kd.slice 3 (Kd.int .i64)) 32 w' w.heap.size (fun _ => True) v (xs.mergeSort (impl_ShatteredSets.le k)) ∧ Below w.heap.size w w' := by
  refine (Rs.sortS (impl_ShatteredSets.cf k) (fun x => x ∈ xs) (fun x hx => ?_) (fun x y z hx hy hz => ((h.2.2 x hx y hy).2.2.2 z hz).1) (fun x y z hx hy hz => ((h.2.2 x hx y hy).2.2.2 z hz).2) 23 (enters_of Tryd.func23 (by kernel_rfl) rfl) (impl_ShatteredSets.compares k xs h) hS (fun e => by have := h.1; rw [e] at this; exact absurd this (by decide)) (fun _ hx => hx) h.2.1).mono ?_
  · intro e; exact (h.2.2 x hx x hx).2.2.1 ⟨e, e⟩
  · rintro e w' ⟨rfl, ys, hp, hs, hS1, row, hrow, hg⟩; obtain rfl := impl_ShatteredSets.sorts h hp hs; exact ⟨rfl, hS1, pw_below_grown hB _ hB.size hg (fun q e => by injection e with e; subst e; exact Kd.S_base hS row hrow)⟩
def impl_ShatteredSets.l0 : Nat → List (List Int) → List (List Int) → Int → Int → Option ((List (List Int)) × Bool)
 | 0, _, _, _, _ => none
 | k + 1, x0, x4, x15, x16 => if x16 < x15 then ((impl_members.f k x16).bind fun t325 => ((impl_shatters.f k x0 t325).bind fun t328 => (if t328 = true then (if x4.length < 5864062014805 then (impl_ShatteredSets.l0 k x0 (x4 ++ [t325]) x15 (wrap64 (x16 + 1))) else (none)) else (impl_ShatteredSets.l0 k x0 x4 x15 (wrap64 (x16 + 1)))))) else ((impl_ShatteredSets.res k x4).bind fun t_ => some (t_, true))
def impl_ShatteredSets.f (k : Nat) (l0 : List (List Int)) : Option ((List (List Int)) × Bool) := (impl_IsClass.f k l0).bind fun t320 => (if t320 = true then (if 0 < (l0.length : Int) then (impl_ShatteredSets.l0 k l0 (([] : List (List Int))) (shl .i64 1 ((rd_L1 l0 0).length : Int)) 0) else (none)) else (some (([] : List (List Int)), false)))
theorem impl_ShatteredSets.calls (k : Nat) (A0 : Option Addr) (c0 : Nat) (l0 : List (List Int)) (r1 : List (List Int)) (r2 : Bool) (w : World) (hr0 : Kd.C (Kd.slice 3 (Kd.int .i64)) w A0 l0.length l0) (hc0 : l0.length ≤ c0) (h : impl_ShatteredSets.f k l0 = some (r1, r2)) (HTab : Aside0 (TabAt 1 Go.Lib.deBruijn64tab w)) :
 Calls Tryd.prog 11 #[.slice A0 l0.length c0] w fun e w' => ∃ v0_ : Value, e = .returned (.tuple #[v0_, .bool r2]) ∧ Kd.S (Kd.slice 3 (Kd.int .i64)) 32 w' w.heap.size (fun _ => True) v0_ r1 ∧ Below w.heap.size w w' := by
 have HR0 := Aside0.mk hr0; have HC0 := Aside0.mk hc0; clear hr0 hc0; have HB := Aside0.mk (Below.refl w.heap.size w); have H : ((impl_IsClass.f k l0).bind fun t320 => (if t320 = true then (if 0 < (l0.length : Int) then (impl_ShatteredSets.l0 k l0 (([] : List (List Int))) (shl .i64 1 ((rd_L1 l0 0).length : Int)) 0) else (none)) else (some (([] : List (List Int)), false)))) = some (r1, r2) := h; clear h; replace H := Option.bind_eq_some_iff.mp H; obtain ⟨t320, A20, H⟩ := H; replace H : (if t320 = true then (if 0 < (l0.length : Int) then (impl_ShatteredSets.l0 k l0 (([] : List (List Int))) (shl .i64 1 ((rd_L1 l0 0).length : Int)) 0) else (none)) else (some (([] : List (List Int)), false))) = some (r1, r2) := H; have A2 := Aside0.mk A20; clear A20; by_cases c3 : t320 = true
 · subst c3; have H1 : (if 0 < (l0.length : Int) then (impl_ShatteredSets.l0 k l0 (([] : List (List Int))) (shl .i64 1 ((rd_L1 l0 0).length : Int)) 0) else (none)) = some (r1, r2) := by rw [if_pos rfl] at H; exact H
   clear H; have H := H1; clear H1; obtain ⟨y321, hy321⟩ : ∃ y_ : List (List Int), y_ = (([] : List (List Int))) := ⟨_, rfl⟩; replace H : (if 0 < (l0.length : Int) then (impl_ShatteredSets.l0 k l0 y321 (shl .i64 1 ((rd_L1 l0 0).length : Int)) 0) else (none)) = some (r1, r2) := by first | (rw [hy321]; with_reducible exact H) | (have H2_ := (Option.bind_some _ _).symm.trans H; rw [hy321]; with_reducible exact H2_) | (have H2_ := (Option.bind_some _ _).symm.trans H; with_reducible exact H2_) | with_reducible exact H | (rw [hy321]; exact H) | exact H
   have Ny321 := Aside0.mk hy321; clear hy321; by_cases c4 : 0 < (l0.length : Int)
   · rw [if_pos c4] at H; have c4b0 : decide (0 < (l0.length : Int)) = true := decide_eq_true c4; have c4b1 : decide (0 < l0.length) = true := decide_eq_true (by omega); clear c4; obtain ⟨ji5, hji5⟩ : ∃ j_ : Int, (shl .i64 1 ((rd_L1 l0 0).length : Int)) = j_ := ⟨_, rfl⟩; replace H : (impl_ShatteredSets.l0 k l0 y321 ji5 0) = some (r1, r2) := by first | (rw [hji5] at H; exact H) | (simp only [hji5] at H ⊢; exact H)
     (try rw [hji5] at A2); have hji5_ : (IntKind.i64.wrap (1 * 2 ^ min ((rd_L1 l0 0).length : Int).toNat 64)) = ji5 := hji5; have hji5z : ((rd_L1 l0 0).length : Int) ≤ 64 → (IntKind.i64.wrap (1 * 2 ^ ((rd_L1 l0 0).length : Int).toNat)) = ji5 := shl_small hji5; have hji5p : (IntKind.i64.wrap (1 * 2 ^ min (rd_L1 l0 0).length 64)) = ji5 := hji5_; have hji5q : ((rd_L1 l0 0).length : Int) ≤ 64 → (IntKind.i64.wrap (1 * 2 ^ (rd_L1 l0 0).length)) = ji5 := hji5z; have hji5r : (IntKind.i64.wrap (2 ^ min (rd_L1 l0 0).length 64)) = ji5 := by have h_ := hji5p; rw [Int.one_mul] at h_; exact h_
     have hji5s : ((rd_L1 l0 0).length : Int) ≤ 64 → (IntKind.i64.wrap (2 ^ (rd_L1 l0 0).length)) = ji5 := fun hle_ => by have h_ := hji5q hle_; rw [Int.one_mul] at h_; exact h_
     have hji5u : (IntKind.i64.wrap (2 ^ min ((rd_L1 l0 0).length : Int).toNat 64)) = ji5 := by have h_ := hji5_; rw [Int.one_mul] at h_; exact h_
     have hji5v : ((rd_L1 l0 0).length : Int) ≤ 64 → (IntKind.i64.wrap (2 ^ ((rd_L1 l0 0).length : Int).toNat)) = ji5 := fun hle_ => by have h_ := hji5z hle_; rw [Int.one_mul] at h_; exact h_
     have hji5y : (wrap64 (1 * 2 ^ min ((rd_L1 l0 0).length : Int).toNat 64)) = ji5 := (i64_w _).symm.trans hji5_; have hji5x : ((rd_L1 l0 0).length : Int) ≤ 64 → (wrap64 (1 * 2 ^ ((rd_L1 l0 0).length : Int).toNat)) = ji5 := fun h_ => (i64_w _).symm.trans (hji5z h_)
     have H' := Aside0.mk H; clear H; go_enter Tryd.func11, Tryd.ntmps11; go_wp2_with (first | ((with_reducible refine gate_callee (f := 19) rfl ?_); refine goesL_ (some 8) rfl rfl Tryd.func19 (by kernel_rfl) rfl #[.slice A0 l0.length c0] rfl aT ?_; (with_reducible refine (impl_IsClass.calls k _ _ l0 true _ ?side1 ?side2 A2.out).mono ?_); (case side1 => exact cC HR0); (case side2 => exact HC0.out); rintro e w' ⟨rfl, ⟨nd, rfl⟩⟩; refine ⟨_, rfl, ?_⟩) | ((with_reducible refine gate_dst (N := 10) rfl ?_); refine Kd.S_lit (Kd.slice 3 (Kd.int .i64)) _ 32 ?hg (N := 10) ?hd (xs := ([] : List (List Int))) (inner := []) (ok := fun _ => True) (okp := fun _ => True) ?hr ?hp (fun _ hk => hk) trivial (Below.refl _ _) (Nat.le_refl _) (by simp) ?_; (case hd => rfl); (case hg => rfl); (case hr => go_simp <;> rfl); (case hp => exact (Reps.none _ _)); intro v322 w6 ho7 hb hg_ hnew_; clear hg_ hnew_; (first | rw [← Ny321.out] at ho7 | (simp only [Int.reduceToNat] at ho7; rw [← Ny321.out] at ho7)); have HO323 := Aside0.mk (Kd.S_lower ho7 (below_size (bB HB))); replace HB := Aside0.mk (below_step (bB HB) hb); clear hb ho7; have p324 : 0 ≤ (0 : Int) := (by omega); have q324 : 0 < (l0.length : Int) := of_decide_eq_true aS; obtain ⟨ad324, A324_0, c324_0, e324, hx324_0, hl324_0, hi324_0⟩ := at_L1 HR0.out 0 p324 q324; cases e324; have qi324 : (0 < l0.length) = True := eq_true (by omega); (try rw [show ((0 : Int)).toNat = 0 from rfl] at hx324_0); (try rw [Addr.add_zero'] at hx324_0); replace hx324_0 := (HB.out.cell (World.block_lt_of_cell? w _ hx324_0)).trans hx324_0; have HR324_0 := Aside0.mk hi324_0; have HC324_0 := Aside0.mk hl324_0; clear hi324_0 hl324_0; replace p324 := eq_true p324; replace q324 := eq_true q324))
     go_loopg [4, 16] k (fun kq v4 v16 w' => ∃ (x4_1 : List (List Int)) (x16_1 : Int), v16 = .int .i64 x16_1 ∧ Aside0 (impl_ShatteredSets.l0 kq l0 x4_1 ji5 x16_1 = some (r1, r2)) ∧ Aside0 (kq ≤ k) ∧ Aside0 (Kd.S (Kd.slice 3 (Kd.int .i64)) 32 w' w.heap.size (fun _ => True) v4 x4_1) ∧ Aside0 (Below w.heap.size w w'))
     case atStart => exact ⟨(y321), (0), rD, H', ⟨Nat.le_refl _⟩, ⟨pS HO323⟩, ⟨bB HB⟩⟩
     case round =>
      clear H'; try clear c3
      try clear c4
      try clear c4b0
      try clear c4b1
      try clear hx324_0
      try clear p324
      try clear q324
      obtain ⟨x4_1, x16_1, rfl, HA, HK1, HO_4, HB⟩ := hrel; cases gk with
      | zero => exact absurd HA.out (by simp [impl_ShatteredSets.l0])
      | succ k1 =>
       have H := HA.out; clear HA; simp only [impl_ShatteredSets.l0] at H; by_cases c8 : x16_1 < ji5
       · rw [if_pos c8] at H; have c8b0 : decide (x16_1 < ji5) = true := decide_eq_true c8; clear c8; replace H := Option.bind_eq_some_iff.mp H; obtain ⟨t325, A90, H⟩ := H; replace H : ((impl_shatters.f k1 l0 t325).bind fun t328 => (if t328 = true then (if x4_1.length < 5864062014805 then (impl_ShatteredSets.l0 k1 l0 (x4_1 ++ [t325]) ji5 (wrap64 (x16_1 + 1))) else (none)) else (impl_ShatteredSets.l0 k1 l0 x4_1 ji5 (wrap64 (x16_1 + 1))))) = some (r1, r2) := H; have A9 := Aside0.mk A90; clear A90; replace H := Option.bind_eq_some_iff.mp H; obtain ⟨t328, A100, H⟩ := H; replace H : (if t328 = true then (if x4_1.length < 5864062014805 then (impl_ShatteredSets.l0 k1 l0 (x4_1 ++ [t325]) ji5 (wrap64 (x16_1 + 1))) else (none)) else (impl_ShatteredSets.l0 k1 l0 x4_1 ji5 (wrap64 (x16_1 + 1)))) = some (r1, r2) := H; have A10 := Aside0.mk A100; clear A100; by_cases c11 : t328 = true
         · subst c11; have H1 : (if x4_1.length < 5864062014805 then (impl_ShatteredSets.l0 k1 l0 (x4_1 ++ [t325]) ji5 (wrap64 (x16_1 + 1))) else (none)) = some (r1, r2) := by rw [if_pos rfl] at H; exact H
           clear H; have H := H1; clear H1; by_cases c12 : x4_1.length < 5864062014805
           · rw [if_pos c12] at H; have LMc12 := Aside0.mk c12; clear c12; obtain ⟨y329, hy329⟩ : ∃ y_ : List (List Int), y_ = (x4_1 ++ [t325]) := ⟨_, rfl⟩; replace H : (impl_ShatteredSets.l0 k1 l0 y329 ji5 (wrap64 (x16_1 + 1))) = some (r1, r2) := by first | (rw [hy329]; with_reducible exact H) | (have H2_ := (Option.bind_some _ _).symm.trans H; rw [hy329]; with_reducible exact H2_) | (have H2_ := (Option.bind_some _ _).symm.trans H; with_reducible exact H2_) | with_reducible exact H | (rw [hy329]; exact H) | exact H
             have Ny329 := Aside0.mk hy329; clear hy329; have H' := Aside0.mk H; clear H; go_wp2_with (first | ((with_reducible refine gate_callee (f := 20) rfl ?_); refine goesL_ (some 20) rfl rfl Tryd.func20 (by kernel_rfl) rfl #[.int .i64 x16_1] rfl aT ?_; (with_reducible refine (impl_members.calls k1 x16_1 t325 _ A9.out (Tb.tabB HTab ⟨bB HB⟩)).mono ?_); rintro e w13 ⟨v326, rfl, ho0, hb⟩; refine ⟨_, rfl, ?_⟩; have HO327 := Aside0.mk (Kd.R_lower ho0 (below_size (bB HB))); replace HO_4 := Aside0.mk (Kd.S_elder' (pS HO_4) (Kd.R_base ho0) hb); replace HB := Aside0.mk (below_step (bB HB) hb); (try clear hb); (try clear hb2); (try clear hk); (try clear hi); (try clear ho0); obtain ⟨Ao14, co14, eo14⟩ := Kd.R_slice HO327.out; subst eo14) | ((with_reducible refine gate_callee (f := 21) rfl ?_); refine goesL_ (some 23) rfl rfl Tryd.func21 (by kernel_rfl) rfl #[.slice (some ad324) l0.length c0, .slice Ao14 t325.length co14] rfl aT ?_; (with_reducible refine (impl_shatters.calls k1 _ _ l0 _ _ t325 true _ ?side1 ?side2 ?side3 ?side4 A10.out).mono ?_); (case side1 => exact cB HR0 HB); (case side2 => exact HC0.out); (case side3 => exact cR HO327); (case side4 => exact (Kd.R_reads' HO327.out).2.1); rintro e w15 ⟨rfl, hb⟩; refine ⟨_, rfl, ?_⟩; replace HO_4 := Aside0.mk (Kd.S_below (pS HO_4) hb); replace HO327 := Aside0.mk (Kd.R_below (pR HO327) hb); replace HB := Aside0.mk (below_step (bB HB) hb); (try clear hb); (try clear hb2); (try clear hk); (try clear hi)) | ((with_reducible refine gate_builtin (b := .append) (xs := #[.tmp 24, .tmp 26]) rfl ?_); at_builtin; refine Kd.S_append (Kd.slice 3 (Kd.int .i64)) (w0 := w) w.heap.size rfl (.tmp 24) (.tmp 26) 22 32 (.slice none 0 0) 24 rfl Tryd.underlying22 info32 rfl (by decide) (by omega) u4 x4_1 t325 [.slice Ao14 t325.length co14] (fun _ => True) (fun k_ => some k_ = (.slice Ao14 t325.length co14 : Value).ownBlock) rfl rfl ?aP (fun k_ hk_ => ((Kd.R_mono (ok' := fun k_ => ((fun _ => True)) k_ ∧ some k_ ≠ (u4 : Value).ownBlock) (Kd.R_apart' (HO327.out) (Kd.S_typed HO_4.out) (by decide)) (fun k_ hk => ⟨trivial, hk.2⟩))).1 k_ hk_.symm) ?aF ?aO ?aB ?aS ?aL ?_; (case aP => exact Kd.M_row (Kd.R_mono (Kd.R_tight rfl (Kd.R_mono (ok' := fun k_ => ((fun _ => True)) k_ ∧ some k_ ≠ (u4 : Value).ownBlock) (Kd.R_apart' (HO327.out) (Kd.S_typed HO_4.out) (by decide)) (fun k_ hk => ⟨trivial, hk.2⟩))) (fun _ h_ => h_))); (case aB => exact (bB HB)); (case aF => exact (fun _ _ => trivial)); (case aO => exact (by (with_reducible repeat (first | apply Kd.S_alloc | apply Kd.S_drewN | apply Kd.S_drew)); exact Kd.S_mono HO_4.out (fun k_ hk => ⟨trivial, fun e_ => hk.2 e_⟩))); (case aS => exact (below_size (bB HB))); (case aL => have := LMc12.out; omega); intro v330 w16 ho hb hg hat; rw [← Ny329.out] at ho; have HO331 := Aside0.mk (ho); replace HB := Aside0.mk (hb); clear HO_4 HO327; clear ho hb hg hat))
             go_roundg k1
             case measure => have := HK1.out; omega
             case rel => exact ⟨(y329), (wrap64 (x16_1 + 1)), rD, H', ⟨by have := HK1.out; omega⟩, ⟨pS HO331⟩, ⟨bB HB⟩⟩
           · rw [if_neg c12] at H; exact absurd H (by simp)
         · replace c11 := Bool.eq_false_iff.mpr c11; subst c11; have H1 : (impl_ShatteredSets.l0 k1 l0 x4_1 ji5 (wrap64 (x16_1 + 1))) = some (r1, r2) := by rw [if_neg (show ¬ (false = true) by decide)] at H; exact H
           clear H; have H := H1; clear H1; have H' := Aside0.mk H; clear H; go_wp2_with (first | ((with_reducible refine gate_callee (f := 20) rfl ?_); refine goesL_ (some 20) rfl rfl Tryd.func20 (by kernel_rfl) rfl #[.int .i64 x16_1] rfl aT ?_; (with_reducible refine (impl_members.calls k1 x16_1 t325 _ A9.out (Tb.tabB HTab ⟨bB HB⟩)).mono ?_); rintro e w17 ⟨v326, rfl, ho0, hb⟩; refine ⟨_, rfl, ?_⟩; have HO327 := Aside0.mk (Kd.R_lower ho0 (below_size (bB HB))); replace HO_4 := Aside0.mk (Kd.S_elder' (pS HO_4) (Kd.R_base ho0) hb); replace HB := Aside0.mk (below_step (bB HB) hb); (try clear hb); (try clear hb2); (try clear hk); (try clear hi); (try clear ho0); obtain ⟨Ao18, co18, eo18⟩ := Kd.R_slice HO327.out; subst eo18) | ((with_reducible refine gate_callee (f := 21) rfl ?_); refine goesL_ (some 23) rfl rfl Tryd.func21 (by kernel_rfl) rfl #[.slice (some ad324) l0.length c0, .slice Ao18 t325.length co18] rfl aT ?_; (with_reducible refine (impl_shatters.calls k1 _ _ l0 _ _ t325 false _ ?side1 ?side2 ?side3 ?side4 A10.out).mono ?_); (case side1 => exact cB HR0 HB); (case side2 => exact HC0.out); (case side3 => exact cR HO327); (case side4 => exact (Kd.R_reads' HO327.out).2.1); rintro e w19 ⟨rfl, hb⟩; refine ⟨_, rfl, ?_⟩; replace HO_4 := Aside0.mk (Kd.S_below (pS HO_4) hb); replace HO327 := Aside0.mk (Kd.R_below (pR HO327) hb); replace HB := Aside0.mk (below_step (bB HB) hb); (try clear hb); (try clear hb2); (try clear hk); (try clear hi)))
           go_roundg k1
           case measure => have := HK1.out; omega
           case rel => exact ⟨(x4_1), (wrap64 (x16_1 + 1)), rD, H', ⟨by have := HK1.out; omega⟩, ⟨by (with_reducible repeat (first | apply Kd.S_alloc | apply Kd.S_drewN | apply Kd.S_drew)); exact Kd.S_mono HO_4.out (fun _ hk => trivial)⟩, ⟨bB HB⟩⟩
       · rw [if_neg c8] at H; have c8b0 : decide (x16_1 < ji5) = false := decide_eq_false c8; clear c8; obtain ⟨t_, hres, H⟩ := Option.bind_eq_some_iff.mp H; simp only [Option.some.injEq, Prod.mk.injEq] at H; obtain ⟨rfl, rfl⟩ := H; obtain ⟨hok, rfl⟩ := impl_ShatteredSets.res_ok hres; clear hres; have HOK := Aside0.mk hok; clear hok; go_wp2_with (fail)
         refine (impl_ShatteredSets.sortCall k1 x4_1 HOK.out (pS HO_4) (bB HB)).mono ?_; rintro e w91 ⟨rfl, hs, hb⟩; clear HO_4 HB; have HO_4 := Aside0.mk hs; have HB := Aside0.mk hb; clear hs hb; go_wp2; go_ret2
         exact ⟨_, eW, pS HO_4, bB HB⟩
   · rw [if_neg c4] at H; exact absurd H (by simp)
 · replace c3 := Bool.eq_false_iff.mpr c3; subst c3; have H1 : (some (([] : List (List Int)), false)) = some (r1, r2) := by rw [if_neg (show ¬ (false = true) by decide)] at H; exact H
   clear H; have H := H1; clear H1; simp only [Option.some.injEq, Prod.mk.injEq] at H; obtain ⟨rfl, rfl⟩ := H; go_enter Tryd.func11, Tryd.ntmps11; go_wp2_with (first | ((with_reducible refine gate_callee (f := 19) rfl ?_); refine goesL_ (some 8) rfl rfl Tryd.func19 (by kernel_rfl) rfl #[.slice A0 l0.length c0] rfl aT ?_; (with_reducible refine (impl_IsClass.calls k _ _ l0 false _ ?side1 ?side2 A2.out).mono ?_); (case side1 => exact cC HR0); (case side2 => exact HC0.out); rintro e w' ⟨rfl, ⟨nd, rfl⟩⟩; refine ⟨_, rfl, ?_⟩))
   go_ret2
   exact ⟨_, eW, by first | exact Kd.S_nil _ _ _ _ _ | exact Kd.N_nil _ _ _ _ _ | exact Kd.V_nil _ _ _ _ _ | exact Kd.Q_nil _ _ _ _ _ | exact Kd.R_nil _ _ _ _ _, bB HB⟩

def impl_VapnikNumber.f (k : Nat) (l0 : List (List Int)) : Option (Int × Bool) := (impl_ShatteredSets.f k l0).bind fun bt332 => (if bt332.2 = true then (if 0 ≤ (wrap64 ((bt332.1.length : Int) - 1)) then (if (wrap64 ((bt332.1.length : Int) - 1)) < (bt332.1.length : Int) then (some (((rd_L1 bt332.1 (wrap64 ((bt332.1.length : Int) - 1))).length : Int), true)) else (none)) else (none)) else (some (0, false)))
theorem impl_VapnikNumber.calls (k : Nat) (A0 : Option Addr) (c0 : Nat) (l0 : List (List Int)) (r1 : Int) (r2 : Bool) (w : World) (hr0 : Kd.C (Kd.slice 3 (Kd.int .i64)) w A0 l0.length l0) (hc0 : l0.length ≤ c0) (h : impl_VapnikNumber.f k l0 = some (r1, r2)) (HTab : Aside0 (TabAt 1 Go.Lib.deBruijn64tab w)) :
 Calls Tryd.prog 8 #[.slice A0 l0.length c0] w fun e w' => e = .returned (.tuple #[.int .i64 r1, .bool r2]) ∧ Below w.heap.size w w' := by
 have HR0 := Aside0.mk hr0; have HC0 := Aside0.mk hc0; clear hr0 hc0; have HB := Aside0.mk (Below.refl w.heap.size w); have H : ((impl_ShatteredSets.f k l0).bind fun bt332 => (if bt332.2 = true then (if 0 ≤ (wrap64 ((bt332.1.length : Int) - 1)) then (if (wrap64 ((bt332.1.length : Int) - 1)) < (bt332.1.length : Int) then (some (((rd_L1 bt332.1 (wrap64 ((bt332.1.length : Int) - 1))).length : Int), true)) else (none)) else (none)) else (some (0, false)))) = some (r1, r2) := h; clear h; replace H := Option.bind_eq_some_iff.mp H; obtain ⟨⟨t332, t333⟩, A20, H⟩ := H; replace H : (if t333 = true then (if 0 ≤ (wrap64 ((t332.length : Int) - 1)) then (if (wrap64 ((t332.length : Int) - 1)) < (t332.length : Int) then (some (((rd_L1 t332 (wrap64 ((t332.length : Int) - 1))).length : Int), true)) else (none)) else (none)) else (some (0, false))) = some (r1, r2) := H; have A2 := Aside0.mk A20; clear A20; by_cases c3 : t333 = true
 · subst c3; have H1 : (if 0 ≤ (wrap64 ((t332.length : Int) - 1)) then (if (wrap64 ((t332.length : Int) - 1)) < (t332.length : Int) then (some (((rd_L1 t332 (wrap64 ((t332.length : Int) - 1))).length : Int), true)) else (none)) else (none)) = some (r1, r2) := by rw [if_pos rfl] at H; exact H
   clear H; have H := H1; clear H1; obtain ⟨ji4, hji4⟩ : ∃ j_ : Int, (wrap64 ((t332.length : Int) - 1)) = j_ := ⟨_, rfl⟩; replace H : (if 0 ≤ (ji4) then (if (ji4) < (t332.length : Int) then (some (((rd_L1 t332 (ji4)).length : Int), true)) else (none)) else (none)) = some (r1, r2) := by first | (rw [hji4] at H; exact H) | (simp only [hji4] at H ⊢; exact H)
   (try rw [hji4] at A2); have hji4w : (IntKind.i64.wrap ((t332.length : Int) - 1)) = ji4 := (i64_w _).trans hji4; by_cases c5 : 0 ≤ (ji4)
   · rw [if_pos c5] at H; have c5b0 : decide (0 ≤ (ji4)) = true := decide_eq_true c5; clear c5; by_cases c6 : (ji4) < (t332.length : Int)
     · rw [if_pos c6] at H; have c6b0 : decide ((ji4) < (t332.length : Int)) = true := decide_eq_true c6; clear c6; simp only [Option.some.injEq, Prod.mk.injEq] at H; obtain ⟨rfl, rfl⟩ := H; go_enter Tryd.func8, Tryd.ntmps8; go_wp2_with (first | ((with_reducible refine gate_callee (f := 11) rfl ?_); refine goesL_ (some 8) rfl rfl Tryd.func11 (by kernel_rfl) rfl #[.slice A0 l0.length c0] rfl aT ?_; (with_reducible refine (impl_ShatteredSets.calls k _ _ l0 t332 true _ ?side1 ?side2 A2.out (Tb.tabB HTab ⟨bB HB⟩)).mono ?_); (case side1 => exact cC HR0); (case side2 => exact HC0.out); rintro e w7 ⟨v334, rfl, ho0, hb⟩; refine ⟨_, rfl, ?_⟩; have HO335 := Aside0.mk (Kd.S_lower ho0 (below_size (bB HB))); replace HB := Aside0.mk (below_step (bB HB) hb); (try clear hb); (try clear hb2); (try clear hk); (try clear hi); (try clear ho0); obtain ⟨Ao8, co8, eo8⟩ := Kd.S_slice HO335.out; subst eo8; have p336 : 0 ≤ ((ji4) : Int) := of_decide_eq_true aS; have q336 : (ji4) < (t332.length : Int) := of_decide_eq_true aS; obtain ⟨ad336, A336_0, c336_0, e336, hx336_0, hl336_0, hi336_0⟩ := at_L1 (Kd.S_reads' HO335.out).2.2 (ji4) p336 q336; cases e336; obtain ⟨ce336, hce336, hMe336, hcc336⟩ := Kd.S_get HO335.out [] (ji4) p336 (by first | exact q336 | exact of_decide_eq_true aS | (have e_ := (Kd.S_reads' HO335.out).1; omega)); obtain ⟨ve336_0, rfl, ge336_0⟩ := hMe336; have hv336_0 := hcc336 0 _ rfl; rw [Nat.add_zero, show ((Kd.slice 3 (Kd.int .i64))).sz = 1 from rfl, Nat.mul_one] at hv336_0; replace hv336_0 := Option.some.inj (hv336_0.symm.trans hx336_0); rw [hv336_0] at ge336_0; have HL336_0 := Aside0.mk (show Kd.R (Kd.int .i64) 3 _ _ _ _ (rd_L1 t332 (ji4)) from ge336_0); clear hv336_0 ge336_0; clear hcc336 hce336; have HR336_0 := Aside0.mk hi336_0; have HC336_0 := Aside0.mk hl336_0; clear hi336_0 hl336_0; replace p336 := eq_true p336; replace q336 := eq_true q336))
       go_ret2
       exact ⟨by first | rfl | (simp [errW_none, errW_some] <;> rfl) | (simp only [← hji4]; first | rfl | (simp [errW_none, errW_some] <;> rfl)) | (simp [*, errW_none, errW_some] <;> rfl), bB HB⟩
     · rw [if_neg c6] at H; exact absurd H (by simp)
   · rw [if_neg c5] at H; exact absurd H (by simp)
 · replace c3 := Bool.eq_false_iff.mpr c3; subst c3; have H1 : (some (0, false)) = some (r1, r2) := by rw [if_neg (show ¬ (false = true) by decide)] at H; exact H
   clear H; have H := H1; clear H1; simp only [Option.some.injEq, Prod.mk.injEq] at H; obtain ⟨rfl, rfl⟩ := H; go_enter Tryd.func8, Tryd.ntmps8; go_wp2_with (first | ((with_reducible refine gate_callee (f := 11) rfl ?_); refine goesL_ (some 8) rfl rfl Tryd.func11 (by kernel_rfl) rfl #[.slice A0 l0.length c0] rfl aT ?_; (with_reducible refine (impl_ShatteredSets.calls k _ _ l0 t332 false _ ?side1 ?side2 A2.out (Tb.tabB HTab ⟨bB HB⟩)).mono ?_); (case side1 => exact cC HR0); (case side2 => exact HC0.out); rintro e w9 ⟨v334, rfl, ho0, hb⟩; refine ⟨_, rfl, ?_⟩; have HO335 := Aside0.mk (Kd.S_lower ho0 (below_size (bB HB))); replace HB := Aside0.mk (below_step (bB HB) hb); (try clear hb); (try clear hb2); (try clear hk); (try clear hi); (try clear ho0)))
   go_ret2
   exact ⟨eW, bB HB⟩

def laws_eqIntS.l0 : Nat → List Int → List Int → Int → Option (Bool)
 | 0, _, _, _ => none
 | k + 1, x0, x1, x5 => if x5 < (x0.length : Int) then (if 0 ≤ x5 then (if x5 < (x1.length : Int) then (if (rd x0 x5) = (rd x1 x5) then (laws_eqIntS.l0 k x0 x1 (wrap64 (x5 + 1))) else (some false)) else (none)) else (none)) else (some true)
def laws_eqIntS.f (k : Nat) (l0 : List Int) (l1 : List Int) : Option (Bool) := if (l0.length : Int) = (l1.length : Int) then (laws_eqIntS.l0 k l0 l1 0) else (some false)
theorem laws_eqIntS.calls (k : Nat) (A0 : Option Addr) (c0 : Nat) (l0 : List Int) (A1 : Option Addr) (c1 : Nat) (l1 : List Int) (r : Bool) (w : World) (hr0 : Kd.C (Kd.int .i64) w A0 l0.length l0) (hc0 : l0.length ≤ c0) (hr1 : Kd.C (Kd.int .i64) w A1 l1.length l1) (hc1 : l1.length ≤ c1) (h : laws_eqIntS.f k l0 l1 = some r) :
 Calls Tryd.prog 18 #[.slice A0 l0.length c0, .slice A1 l1.length c1] w fun e w' => e = .returned (.bool r) ∧ Drawn0 w w' := by
 have HR0 := Aside0.mk hr0; have HC0 := Aside0.mk hc0; clear hr0 hc0; have HR1 := Aside0.mk hr1; have HC1 := Aside0.mk hc1; clear hr1 hc1; have H : (if (l0.length : Int) = (l1.length : Int) then (laws_eqIntS.l0 k l0 l1 0) else (some false)) = some r := h; clear h; by_cases c3 : (l0.length : Int) = (l1.length : Int)
 · rw [if_pos c3] at H; have c3b0 : ((l0.length : Int) == (l1.length : Int)) = true := beq_iff_eq.mpr c3; have c3b1 : ((l0.length : Int) != (l1.length : Int)) = false := bne_eq_false_iff_eq.mpr c3; have c3b2 : (l0.length == l1.length) = true := by first | simpa using c3 | (simp at c3 ⊢; omega)
   clear c3; have H' := Aside0.mk H; clear H; go_enter Tryd.func18, Tryd.ntmps18; go_wp2; repeat (go_quiet (fail); try go_wp2)
   go_loopg [5] k (fun kq v5 w' => ∃ (x5_1 : Int), v5 = .int .i64 x5_1 ∧ Aside0 (laws_eqIntS.l0 kq l0 l1 x5_1 = some r) ∧ Aside0 (kq ≤ k) ∧ Drawn0 w w')
   case atStart => exact ⟨(0), rD, H', ⟨Nat.le_refl _⟩, by repeat (first | exact Drawn0.refl _ | apply Drawn0.step)⟩
   case round =>
    clear H'; try clear c1
    try clear c3
    try clear c3b0
    try clear c3b1
    try clear c3b2
    obtain ⟨x5_1, rfl, HA, HK1, ⟨m1, rfl⟩⟩ := hrel; cases gk with
    | zero => exact absurd HA.out (by simp [laws_eqIntS.l0])
    | succ k1 =>
     have H := HA.out; clear HA; simp only [laws_eqIntS.l0] at H; by_cases c4 : x5_1 < (l0.length : Int)
     · rw [if_pos c4] at H; have c4b0 : decide (x5_1 < (l0.length : Int)) = true := decide_eq_true c4; clear c4; by_cases c5 : 0 ≤ x5_1
       · rw [if_pos c5] at H; have c5b0 : decide (0 ≤ x5_1) = true := decide_eq_true c5; clear c5; by_cases c6 : x5_1 < (l1.length : Int)
         · rw [if_pos c6] at H; have c6b0 : decide (x5_1 < (l1.length : Int)) = true := decide_eq_true c6; clear c6; by_cases c7 : (rd l0 x5_1) = (rd l1 x5_1)
           · rw [if_pos c7] at H; have c7b0 : ((rd l0 x5_1) == (rd l1 x5_1)) = true := beq_iff_eq.mpr c7; have c7b1 : ((rd l0 x5_1) != (rd l1 x5_1)) = false := bne_eq_false_iff_eq.mpr c7; clear c7; have H' := Aside0.mk H; clear H; have p337 : 0 ≤ (x5_1 : Int) := of_decide_eq_true aS; have q337 : x5_1 < (l0.length : Int) := of_decide_eq_true aS; obtain ⟨ad337, e337, hx337_0⟩ := Kd.at_int HR0.out x5_1 p337 q337; cases e337
             replace p337 := eq_true p337; replace q337 := eq_true q337; have p338 : 0 ≤ (x5_1 : Int) := of_decide_eq_true aS; have q338 : x5_1 < (l1.length : Int) := of_decide_eq_true aS; obtain ⟨ad338, e338, hx338_0⟩ := Kd.at_int HR1.out x5_1 p338 q338; cases e338
             replace p338 := eq_true p338; replace q338 := eq_true q338; go_wp2; repeat (go_quiet (fail); try go_wp2)
             go_roundg k1
             case measure => have := HK1.out; omega
             case rel => exact ⟨(wrap64 (x5_1 + 1)), rD, H', ⟨by have := HK1.out; omega⟩, by repeat (first | exact Drawn0.refl _ | apply Drawn0.step)⟩
           · rw [if_neg c7] at H; have c7b0 : ((rd l0 x5_1) == (rd l1 x5_1)) = false := beq_eq_false_iff_ne.mpr c7; have c7b1 : ((rd l0 x5_1) != (rd l1 x5_1)) = true := bne_iff_ne.mpr c7; obtain rfl := Option.some.inj H; have p337 : 0 ≤ (x5_1 : Int) := of_decide_eq_true aS; have q337 : x5_1 < (l0.length : Int) := of_decide_eq_true aS; obtain ⟨ad337, e337, hx337_0⟩ := Kd.at_int HR0.out x5_1 p337 q337; cases e337
             replace p337 := eq_true p337; replace q337 := eq_true q337; have p338 : 0 ≤ (x5_1 : Int) := of_decide_eq_true aS; have q338 : x5_1 < (l1.length : Int) := of_decide_eq_true aS; obtain ⟨ad338, e338, hx338_0⟩ := Kd.at_int HR1.out x5_1 p338 q338; cases e338
             replace p338 := eq_true p338; replace q338 := eq_true q338; go_wp2; repeat (go_quiet (fail); try go_wp2)
             go_ret
             exact ⟨rD, by repeat (first | exact Drawn0.refl _ | apply Drawn0.step)⟩
         · rw [if_neg c6] at H; exact absurd H (by simp)
       · rw [if_neg c5] at H; exact absurd H (by simp)
     · rw [if_neg c4] at H; have c4b0 : decide (x5_1 < (l0.length : Int)) = false := decide_eq_false c4; clear c4; obtain rfl := Option.some.inj H; go_wp2; repeat (go_quiet (fail); try go_wp2)
       go_ret
       exact ⟨rD, by repeat (first | exact Drawn0.refl _ | apply Drawn0.step)⟩
 · rw [if_neg c3] at H; have c3b0 : ((l0.length : Int) == (l1.length : Int)) = false := beq_eq_false_iff_ne.mpr c3; have c3b1 : ((l0.length : Int) != (l1.length : Int)) = true := bne_iff_ne.mpr c3; have c3b2 : (l0.length == l1.length) = false := by first | simpa using c3 | (simp at c3 ⊢; omega)
   obtain rfl := Option.some.inj H; go_enter Tryd.func18, Tryd.ntmps18; go_wp2; repeat (go_quiet (fail); try go_wp2)
   go_ret
   exact ⟨rD, by repeat (first | exact Drawn0.refl _ | apply Drawn0.step)⟩

def laws_eqIntSS.l0 : Nat → List (List Int) → List (List Int) → Int → Option (Bool)
 | 0, _, _, _ => none
 | k + 1, x0, x1, x5 => if x5 < (x0.length : Int) then (if 0 ≤ x5 then (if x5 < (x1.length : Int) then ((laws_eqIntS.f k (rd_L1 x0 x5) (rd_L1 x1 x5)).bind fun t341 => (if t341 = true then (laws_eqIntSS.l0 k x0 x1 (wrap64 (x5 + 1))) else (some false))) else (none)) else (none)) else (some true)
def laws_eqIntSS.f (k : Nat) (l0 : List (List Int)) (l1 : List (List Int)) : Option (Bool) := if (l0.length : Int) = (l1.length : Int) then (laws_eqIntSS.l0 k l0 l1 0) else (some false)
theorem laws_eqIntSS.calls (k : Nat) (A0 : Option Addr) (c0 : Nat) (l0 : List (List Int)) (A1 : Option Addr) (c1 : Nat) (l1 : List (List Int)) (r : Bool) (w : World) (hr0 : Kd.C (Kd.slice 3 (Kd.int .i64)) w A0 l0.length l0) (hc0 : l0.length ≤ c0) (hr1 : Kd.C (Kd.slice 3 (Kd.int .i64)) w A1 l1.length l1) (hc1 : l1.length ≤ c1) (h : laws_eqIntSS.f k l0 l1 = some r) :
 Calls Tryd.prog 9 #[.slice A0 l0.length c0, .slice A1 l1.length c1] w fun e w' => e = .returned (.bool r) ∧ Drawn0 w w' := by
 have HR0 := Aside0.mk hr0; have HC0 := Aside0.mk hc0; clear hr0 hc0; have HR1 := Aside0.mk hr1; have HC1 := Aside0.mk hc1; clear hr1 hc1; have H : (if (l0.length : Int) = (l1.length : Int) then (laws_eqIntSS.l0 k l0 l1 0) else (some false)) = some r := h; clear h; by_cases c3 : (l0.length : Int) = (l1.length : Int)
 · rw [if_pos c3] at H; have c3b0 : ((l0.length : Int) == (l1.length : Int)) = true := beq_iff_eq.mpr c3; have c3b1 : ((l0.length : Int) != (l1.length : Int)) = false := bne_eq_false_iff_eq.mpr c3; have c3b2 : (l0.length == l1.length) = true := by first | simpa using c3 | (simp at c3 ⊢; omega)
   clear c3; have H' := Aside0.mk H; clear H; go_enter Tryd.func9, Tryd.ntmps9; go_wp2; repeat (go_quiet (fail); try go_wp2)
   go_loopg [5] k (fun kq v5 w' => ∃ (x5_1 : Int), v5 = .int .i64 x5_1 ∧ Aside0 (laws_eqIntSS.l0 kq l0 l1 x5_1 = some r) ∧ Aside0 (kq ≤ k) ∧ Drawn0 w w')
   case atStart => exact ⟨(0), rD, H', ⟨Nat.le_refl _⟩, by repeat (first | exact Drawn0.refl _ | apply Drawn0.step)⟩
   case round =>
    clear H'; try clear c1
    try clear c3
    try clear c3b0
    try clear c3b1
    try clear c3b2
    obtain ⟨x5_1, rfl, HA, HK1, ⟨m1, rfl⟩⟩ := hrel; cases gk with
    | zero => exact absurd HA.out (by simp [laws_eqIntSS.l0])
    | succ k1 =>
     have H := HA.out; clear HA; simp only [laws_eqIntSS.l0] at H; by_cases c4 : x5_1 < (l0.length : Int)
     · rw [if_pos c4] at H; have c4b0 : decide (x5_1 < (l0.length : Int)) = true := decide_eq_true c4; clear c4; by_cases c5 : 0 ≤ x5_1
       · rw [if_pos c5] at H; have c5b0 : decide (0 ≤ x5_1) = true := decide_eq_true c5; clear c5; by_cases c6 : x5_1 < (l1.length : Int)
         · rw [if_pos c6] at H; have c6b0 : decide (x5_1 < (l1.length : Int)) = true := decide_eq_true c6; clear c6; replace H := Option.bind_eq_some_iff.mp H; obtain ⟨t341, A70, H⟩ := H; replace H : (if t341 = true then (laws_eqIntSS.l0 k1 l0 l1 (wrap64 (x5_1 + 1))) else (some false)) = some r := H; have A7 := Aside0.mk A70; clear A70; by_cases c8 : t341 = true
           · subst c8; have H1 : (laws_eqIntSS.l0 k1 l0 l1 (wrap64 (x5_1 + 1))) = some r := by rw [if_pos rfl] at H; exact H
             clear H; have H := H1; clear H1; have H' := Aside0.mk H; clear H; have p339 : 0 ≤ (x5_1 : Int) := of_decide_eq_true aS; have q339 : x5_1 < (l0.length : Int) := of_decide_eq_true aS; obtain ⟨ad339, A339_0, c339_0, e339, hx339_0, hl339_0, hi339_0⟩ := at_L1 HR0.out x5_1 p339 q339; cases e339
             have HR339_0 := Aside0.mk hi339_0; have HC339_0 := Aside0.mk hl339_0; clear hi339_0 hl339_0; replace p339 := eq_true p339; replace q339 := eq_true q339; have p340 : 0 ≤ (x5_1 : Int) := of_decide_eq_true aS; have q340 : x5_1 < (l1.length : Int) := of_decide_eq_true aS; obtain ⟨ad340, A340_0, c340_0, e340, hx340_0, hl340_0, hi340_0⟩ := at_L1 HR1.out x5_1 p340 q340; cases e340
             have HR340_0 := Aside0.mk hi340_0; have HC340_0 := Aside0.mk hl340_0; clear hi340_0 hl340_0; replace p340 := eq_true p340; replace q340 := eq_true q340; go_wp2_with (first | (go_at_call 18; (with_reducible refine (laws_eqIntS.calls k1 _ _ (rd_L1 l0 x5_1) _ _ (rd_L1 l1 x5_1) true _ ?side1 ?side2 ?side3 ?side4 A7.out).mono ?_); (case side1 => exact cC HR339_0); (case side2 => exact HC339_0.out); (case side3 => exact cC HR340_0); (case side4 => exact HC340_0.out); rintro e w' ⟨rfl, ⟨nd, rfl⟩⟩; (try first | exact ⟨rfl, _, World.drewN_drewN _ _ _⟩ | exact ⟨rfl, _, Eq.trans (World.drewN_drewN _ _ _) (congrArg (World.drewN _) (Nat.add_assoc _ _ _))⟩)))
             repeat (go_quiet (first | (go_at_call 18; (with_reducible refine (laws_eqIntS.calls k1 _ _ (rd_L1 l0 x5_1) _ _ (rd_L1 l1 x5_1) true _ ?side1 ?side2 ?side3 ?side4 A7.out).mono ?_); (case side1 => exact cC HR339_0); (case side2 => exact HC339_0.out); (case side3 => exact cC HR340_0); (case side4 => exact HC340_0.out); rintro e w' ⟨rfl, ⟨nd, rfl⟩⟩; (try first | exact ⟨rfl, _, World.drewN_drewN _ _ _⟩ | exact ⟨rfl, _, Eq.trans (World.drewN_drewN _ _ _) (congrArg (World.drewN _) (Nat.add_assoc _ _ _))⟩))); try go_wp2_with (first | (go_at_call 18; (with_reducible refine (laws_eqIntS.calls k1 _ _ (rd_L1 l0 x5_1) _ _ (rd_L1 l1 x5_1) true _ ?side1 ?side2 ?side3 ?side4 A7.out).mono ?_); (case side1 => exact cC HR339_0); (case side2 => exact HC339_0.out); (case side3 => exact cC HR340_0); (case side4 => exact HC340_0.out); rintro e w' ⟨rfl, ⟨nd, rfl⟩⟩; (try first | exact ⟨rfl, _, World.drewN_drewN _ _ _⟩ | exact ⟨rfl, _, Eq.trans (World.drewN_drewN _ _ _) (congrArg (World.drewN _) (Nat.add_assoc _ _ _))⟩))))
             go_roundg k1
             case measure => have := HK1.out; omega
             case rel => exact ⟨(wrap64 (x5_1 + 1)), rD, H', ⟨by have := HK1.out; omega⟩, by repeat (first | exact Drawn0.refl _ | apply Drawn0.step)⟩
           · replace c8 := Bool.eq_false_iff.mpr c8; subst c8; have H1 : (some false) = some r := by rw [if_neg (show ¬ (false = true) by decide)] at H; exact H
             clear H; have H := H1; clear H1; obtain rfl := Option.some.inj H; have p339 : 0 ≤ (x5_1 : Int) := of_decide_eq_true aS; have q339 : x5_1 < (l0.length : Int) := of_decide_eq_true aS; obtain ⟨ad339, A339_0, c339_0, e339, hx339_0, hl339_0, hi339_0⟩ := at_L1 HR0.out x5_1 p339 q339; cases e339
             have HR339_0 := Aside0.mk hi339_0; have HC339_0 := Aside0.mk hl339_0; clear hi339_0 hl339_0; replace p339 := eq_true p339; replace q339 := eq_true q339; have p340 : 0 ≤ (x5_1 : Int) := of_decide_eq_true aS; have q340 : x5_1 < (l1.length : Int) := of_decide_eq_true aS; obtain ⟨ad340, A340_0, c340_0, e340, hx340_0, hl340_0, hi340_0⟩ := at_L1 HR1.out x5_1 p340 q340; cases e340
             have HR340_0 := Aside0.mk hi340_0; have HC340_0 := Aside0.mk hl340_0; clear hi340_0 hl340_0; replace p340 := eq_true p340; replace q340 := eq_true q340; go_wp2_with (first | (go_at_call 18; (with_reducible refine (laws_eqIntS.calls k1 _ _ (rd_L1 l0 x5_1) _ _ (rd_L1 l1 x5_1) false _ ?side1 ?side2 ?side3 ?side4 A7.out).mono ?_); (case side1 => exact cC HR339_0); (case side2 => exact HC339_0.out); (case side3 => exact cC HR340_0); (case side4 => exact HC340_0.out); rintro e w' ⟨rfl, ⟨nd, rfl⟩⟩; (try first | exact ⟨rfl, _, World.drewN_drewN _ _ _⟩ | exact ⟨rfl, _, Eq.trans (World.drewN_drewN _ _ _) (congrArg (World.drewN _) (Nat.add_assoc _ _ _))⟩)))
             repeat (go_quiet (first | (go_at_call 18; (with_reducible refine (laws_eqIntS.calls k1 _ _ (rd_L1 l0 x5_1) _ _ (rd_L1 l1 x5_1) false _ ?side1 ?side2 ?side3 ?side4 A7.out).mono ?_); (case side1 => exact cC HR339_0); (case side2 => exact HC339_0.out); (case side3 => exact cC HR340_0); (case side4 => exact HC340_0.out); rintro e w' ⟨rfl, ⟨nd, rfl⟩⟩; (try first | exact ⟨rfl, _, World.drewN_drewN _ _ _⟩ | exact ⟨rfl, _, Eq.trans (World.drewN_drewN _ _ _) (congrArg (World.drewN _) (Nat.add_assoc _ _ _))⟩))); try go_wp2_with (first | (go_at_call 18; (with_reducible refine (laws_eqIntS.calls k1 _ _ (rd_L1 l0 x5_1) _ _ (rd_L1 l1 x5_1) false _ ?side1 ?side2 ?side3 ?side4 A7.out).mono ?_); (case side1 => exact cC HR339_0); (case side2 => exact HC339_0.out); (case side3 => exact cC HR340_0); (case side4 => exact HC340_0.out); rintro e w' ⟨rfl, ⟨nd, rfl⟩⟩; (try first | exact ⟨rfl, _, World.drewN_drewN _ _ _⟩ | exact ⟨rfl, _, Eq.trans (World.drewN_drewN _ _ _) (congrArg (World.drewN _) (Nat.add_assoc _ _ _))⟩))))
             go_ret
             exact ⟨rD, by repeat (first | exact Drawn0.refl _ | apply Drawn0.step)⟩
         · rw [if_neg c6] at H; exact absurd H (by simp)
       · rw [if_neg c5] at H; exact absurd H (by simp)
     · rw [if_neg c4] at H; have c4b0 : decide (x5_1 < (l0.length : Int)) = false := decide_eq_false c4; clear c4; obtain rfl := Option.some.inj H; go_wp2; repeat (go_quiet (fail); try go_wp2)
       go_ret
       exact ⟨rD, by repeat (first | exact Drawn0.refl _ | apply Drawn0.step)⟩
 · rw [if_neg c3] at H; have c3b0 : ((l0.length : Int) == (l1.length : Int)) = false := beq_eq_false_iff_ne.mpr c3; have c3b1 : ((l0.length : Int) != (l1.length : Int)) = true := bne_iff_ne.mpr c3; have c3b2 : (l0.length == l1.length) = false := by first | simpa using c3 | (simp at c3 ⊢; omega)
   obtain rfl := Option.some.inj H; go_enter Tryd.func9, Tryd.ntmps9; go_wp2; repeat (go_quiet (fail); try go_wp2)
   go_ret
   exact ⟨rD, by repeat (first | exact Drawn0.refl _ | apply Drawn0.step)⟩

-- NOT PRINTED: function 3 (laws_FnExactVapnikNumber)

end Go.Proofs.YtfkfahdikmfpeaaDoor.PFnExactVapnikNumber
