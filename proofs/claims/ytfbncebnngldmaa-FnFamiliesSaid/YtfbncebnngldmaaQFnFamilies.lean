/- FnFamilies: what its calls come to, shown of numbers and lists alone. -/
import Derived.Test.YtfbncebnngldmaaPFnFamiliesx
import Derived.Test.YtfbncebnngldmaaLb
import Derived.Test.YtfbncebnngldmaaPm
namespace Go.Proofs.Ytfbncebnngldmaa.QFnFamilies
open Go.RowKit  Go.Proofs.Ytfbncebnngldmaa.Lb Go.Proofs.Ytfbncebnngldmaa.Pm Go.Proofs.Ytfbncebnngldmaa.PFnFamilies Go.Proofs.YtfbncebnngldmaaW.PrintWords Go.Proofs.YtfbncebnngldmaaW.PrintLast Go.Proofs.YtfbncebnngldmaaW.PrintMore
set_option linter.unusedVariables false
set_option linter.unusedSimpArgs false
theorem rdL2_nat (xs : List (List Int)) (i : Nat) : rd_L2 xs (i : Int) = xs.getD i [] := by simp [rd_L2]

theorem rdL3_nat (xs : List (List Int)) (i : Nat) : rd_L3 xs (i : Int) = xs.getD i [] := by simp [rd_L3]

theorem rdL5_nat (xs : List (List S45)) (i : Nat) : rd_L5 xs (i : Int) = xs.getD i [] := by simp [rd_L5]

theorem rdT45_nat (xs : List S45) (i : Nat) : rd_T45 xs (i : Int) = xs.getD i z45 := by simp [rd_T45]

theorem laws_vBig_eq (l : List Int) : laws_vBig.f l = some (decide ((l.length : Int) > 65536)) := rfl

theorem and255 (x : Int) : 0 ≤ Go.bits .and .u64 x 255 ∧ Go.bits .and .u64 x 255 ≤ 255 := by
  have h : (BitVec.ofInt 64 x &&& BitVec.ofInt 64 255).toNat ≤ 255 := by
    rw [BitVec.toNat_and]
    exact Nat.and_le_right
  have e : Go.bits .and .u64 x 255 = IntKind.u64.wrap (((BitVec.ofInt 64 x &&& BitVec.ofInt 64 255).toNat : Nat) : Int) := rfl
  have w : ∀ z : Int, IntKind.u64.wrap z = z % 18446744073709551616 := fun z => by simp [IntKind.wrap, IntKind.bits, IntKind.signed]
  rw [e, w]
  omega

def byteL (l : List Int) : Prop := ∀ x ∈ l, 0 ≤ x ∧ x ≤ 255

theorem spec_l1Cur_next_tells (l : List Int) (p s : Int) (hp : 0 ≤ p) (hb : byteL l) : ∃ v t, spec_l1Cur_next.f l p s = some (v, wrap64 (p + 1), t) ∧ 0 ≤ v ∧ v ≤ 255 := by
  unfold spec_l1Cur_next.f
  by_cases c : p < (l.length : Int)
  · have hx : 0 ≤ rd l p ∧ rd l p ≤ 255 := by
      have h1 : p.toNat < l.length := by omega
      simp only [rd]
      exact hb _ (getD_mem h1 0)
    rw [if_pos c, if_pos hp]
    split
    · refine ⟨_, _, rfl, ?_⟩
      rw [wrap_id (by omega) (by omega)]; exact hx
    · refine ⟨_, _, rfl, ?_⟩
      rw [wrap_id (by have := and255 (IntKind.u64.wrap ((IntKind.u64.wrap ((IntKind.u64.wrap (s * 6364136223846793005)) + (IntKind.u64.wrap (wrap64 (rd l p))))) + 462197) / 1099511627776); omega) (by have := and255 (IntKind.u64.wrap ((IntKind.u64.wrap ((IntKind.u64.wrap (s * 6364136223846793005)) + (IntKind.u64.wrap (wrap64 (rd l p))))) + 462197) / 1099511627776); omega)]
      exact and255 _
  · rw [if_neg c]
    split
    · exact ⟨0, _, rfl, by omega, by omega⟩
    · refine ⟨_, _, rfl, ?_⟩
      rw [wrap_id (by have := and255 (IntKind.u64.wrap ((IntKind.u64.wrap (IntKind.u64.wrap (s * 6364136223846793005))) + 462197) / 1099511627776); omega) (by have := and255 (IntKind.u64.wrap ((IntKind.u64.wrap (IntKind.u64.wrap (s * 6364136223846793005))) + 462197) / 1099511627776); omega)]
      exact and255 _

theorem tmod_in (x a : Int) (hx : 0 ≤ x) (ha : 1 ≤ a) : 0 ≤ Int.tmod x a ∧ Int.tmod x a < a := ⟨Int.tmod_nonneg _ hx, Int.tmod_lt_of_pos _ (by omega)⟩

theorem spec_l1Cur_pick_tells (l : List Int) (p s a : Int) (hp : 0 ≤ p) (hp2 : p ≤ 9223372036854775800) (ha : 1 ≤ a) (hb : byteL l) : ∃ v q t, spec_l1Cur_pick.f l p s a = some (v, q, t) ∧ 0 ≤ v ∧ v < a ∧ p ≤ q ∧ q ≤ p + 2 := by
  unfold spec_l1Cur_pick.f
  by_cases c : a ≤ 1
  · rw [if_pos c]
    exact ⟨0, p, s, rfl, by omega, by omega, by omega, by omega⟩
  · rw [if_neg c]
    obtain ⟨v, t, e, h0, h1⟩ := spec_l1Cur_next_tells l p s hp hb
    rw [e, Option.bind_some, wrap_id (by omega) (by omega)]
    by_cases c2 : a > 200
    · rw [if_pos c2]
      obtain ⟨v2, t2, e2, h2, h3⟩ := spec_l1Cur_next_tells l (p + 1) t (by omega) hb
      simp only [e2, Option.bind_some]
      rw [if_neg (by omega), wrap_id (x := p + 1 + 1) (by omega) (by omega), wrap_id (x := v * 256) (by omega) (by omega), wrap_id (x := v * 256 + v2) (by omega) (by omega)]
      exact ⟨_, _, _, rfl, (tmod_in _ _ (by omega) ha).1, (tmod_in _ _ (by omega) ha).2, by omega, by omega⟩
    · rw [if_neg c2, if_neg (by omega)]
      exact ⟨_, _, _, rfl, (tmod_in _ _ h0 ha).1, (tmod_in _ _ h0 ha).2, (by show p ≤ p + 1; omega), (by show p + 1 ≤ p + 2; omega)⟩

theorem spec_l1Cur_among_tells (l : List Int) (p s : Int) (m : List Int) (hp : 0 ≤ p) (hp2 : p ≤ 9223372036854775800) (hm : 1 ≤ m.length) (hb : byteL l) : ∃ v q t, spec_l1Cur_among.f l p s m = some (v, q, t) ∧ v ∈ m ∧ p ≤ q ∧ q ≤ p + 2 := by
  unfold spec_l1Cur_among.f
  obtain ⟨v, q, t, e, h0, h1, h2, h3⟩ := spec_l1Cur_pick_tells l p s (m.length : Int) hp hp2 (by omega) hb
  rw [e, Option.bind_some, if_pos h0, if_pos h1]
  refine ⟨_, _, _, rfl, ?_, h2, h3⟩
  simp only [rd]
  exact getD_mem (by omega) 0

theorem spec_DrawParityNet_tells (l : List Int) (hb : byteL l) : ∃ v, spec_DrawParityNet.f l = some v := by
  unfold spec_DrawParityNet.f
  obtain ⟨v, q, t, e, _⟩ := spec_l1Cur_among_tells l 0 0 [2, 3, 1, 4, 0, 5, (-1)] (by omega) (by omega) (by decide) hb
  rw [e]
  exact ⟨v, rfl⟩

theorem impl_within_eq (x a b : Int) : impl_within.f x a b = some (inR a b x) := in_tells a b x

theorem fold_rep {α : Type} (x : α) (n : Nat) : (List.range n).foldl (fun s _ => s ++ [x]) [] = List.replicate n x := by
  rw [fold_append, List.nil_append, map_const]

theorem impl_ones_ev (n : Nat) (h : n ≤ 1000) : Ev (fun k => impl_ones.f k (n : Int)) (List.replicate n 1) := by
  have hf := to_fold (L := fun i (s : List Int) k => impl_ones.l0 k s (n : Int) i) (n := n) (f := fun _ s => s ++ [1]) (fun i s => s.length = i) (fun i s hi hs => ⟨To.step fun k => ?_, by simp [hs]⟩) [] rfl
  · refine hf.1 _ (Ev.step' (f := fun _ => some (List.replicate n 1)) (fun k => ?_) (Ev.now _))
    rw [fold_rep]
    simp only [impl_ones.l0, if_neg (Int.lt_irrefl _)]
  · have c1 : (i : Int) < (n : Int) := by omega
    have c2 : s.length < 17592186044416 := by omega
    simp only [impl_ones.l0, if_pos c1, if_pos c2, wrap_succ hi (by omega : n ≤ 9223372036854775807)]

def altW (i : Nat) : Int := if Int.tmod (i : Int) 2 = 1 then -1 else 1

def parFirst (n m : Nat) : List S45 := (List.range m).map fun i => ⟨List.replicate n 1, ((i + 1 : Nat) : Int)⟩

def parAlt (n : Nat) : List Int := (List.range n).map altW

def parM (a : Int) : Int × List (List S45) × Bool := if inR 1 4 a = true then (a, [parFirst a.toNat a.toNat, [⟨parAlt a.toNat, 1⟩]], true) else (0, [], false)

theorem alt_eq (i : Nat) : wrap64 (1 - wrap64 (2 * Int.tmod (i : Int) 2)) = altW i := by
  have h : Int.tmod (i : Int) 2 = 0 ∨ Int.tmod (i : Int) 2 = 1 := by rw [Int.tmod_eq_emod_of_nonneg (by omega)]; omega
  unfold altW
  rcases h with h | h
  · rw [h, if_neg (by omega), wrap_id (x := 2 * 0) (by omega) (by omega), wrap_id (by omega) (by omega)]; rfl
  · rw [h, if_pos rfl, wrap_id (x := 2 * 1) (by omega) (by omega), wrap_id (by omega) (by omega)]; rfl

theorem impl_ParityNet_ev (a : Int) : Ev (fun k => impl_ParityNet.f k a) (parM a) := by
  refine Ev.congr (f := fun k => if inR 1 4 a = true then impl_ParityNet.l0 k a [] a 0 [] 1 else some (0, [], false)) (fun k => by simp only [impl_ParityNet.f, impl_within_eq, Option.bind_some]) ?_
  unfold parM
  cases h : inR 1 4 a with
  | false => simp only [Bool.false_eq_true, if_false]; exact Ev.now _
  | true =>
    have := (inR_iff _ _ _).1 h
    obtain ⟨n, rfl⟩ : ∃ n : Nat, a = (n : Int) := ⟨a.toNat, by omega⟩
    simp only [if_true, Int.toNat_natCast]
    have hf := to_fold (L := fun i (s : List S45 × List Int) k => impl_ParityNet.l0 k (n : Int) s.1 (n : Int) i s.2 1) (n := n) (f := fun i s => (s.1 ++ [⟨List.replicate n 1, ((i + 1 : Nat) : Int)⟩], s.2 ++ [altW i])) (fun i s => s = (parFirst n i, parAlt i)) (fun i s hi hs => ⟨?_, by
      subst hs
      simp only [parFirst, parAlt, List.range_succ, List.map_append, List.map_cons, List.map_nil]⟩) ([], []) rfl
    · refine hf.1 _ ?_
      rw [hf.2]
      exact Ev.step' (f := fun _ => some ((n : Int), [parFirst n n, [⟨parAlt n, 1⟩]], true)) (fun k => by simp only [impl_ParityNet.l0, if_neg (Int.lt_irrefl _)]) (Ev.now _)
    · have c1 : (i : Int) < (n : Int) := by omega
      have c2 : s.1.length < 4398046511104 := by rw [hs]; simp only [parFirst, List.length_map, List.length_range]; omega
      have c3 : s.2.length < 17592186044416 := by rw [hs]; simp only [parAlt, List.length_map, List.length_range]; omega
      refine (To.step (f := fun k => (impl_ones.f k (n : Int)).bind fun t => impl_ParityNet.l0 k (n : Int) (s.1 ++ [⟨t, ((i + 1 : Nat) : Int)⟩]) (n : Int) ((i + 1 : Nat) : Int) (s.2 ++ [altW i]) 1) fun k => ?_).trans (To.bind (impl_ones_ev n (by omega)))
      simp only [impl_ParityNet.l0, if_pos c1, if_pos c2, if_pos c3, wrap_succ hi (by omega : n ≤ 9223372036854775807), alt_eq]

theorem spec_l1In_eq (x a b : Int) : spec_l1In.f x a b = some (inR a b x) := in_tells a b x

theorem spec_l9Even_no (n : Nat) (h : n ≤ 1000) : Ev (fun k => spec_l9Even.f k (n : Int) false) (List.replicate n 1) := by
  have hf := to_fold (L := fun i (s : List Int) k => spec_l9Even.l0 k (n : Int) false s i) (n := n) (f := fun _ s => s ++ [1]) (fun i s => s.length = i) (fun i s hi hs => ⟨To.step fun k => ?_, by simp [hs]⟩) [] rfl
  · refine hf.1 _ (Ev.step' (f := fun _ => some (List.replicate n 1)) (fun k => ?_) (Ev.now _))
    rw [fold_rep]
    simp only [spec_l9Even.l0, if_neg (Int.lt_irrefl _)]
  · have c1 : (i : Int) < (n : Int) := by omega
    have c2 : s.length < 17592186044416 := by omega
    simp only [spec_l9Even.l0, if_pos c1, Bool.false_eq_true, if_false, if_pos c2, wrap_succ hi (by omega : n ≤ 9223372036854775807)]

theorem spec_l9Even_yes (n : Nat) (h : n ≤ 1000) : Ev (fun k => spec_l9Even.f k (n : Int) true) (parAlt n) := by
  have hf := to_fold (L := fun i (s : List Int) k => spec_l9Even.l0 k (n : Int) true s i) (n := n) (f := fun i s => s ++ [altW i]) (fun i s => s.length = i) (fun i s hi hs => ⟨To.step fun k => ?_, by simp [hs]⟩) [] rfl
  · refine hf.1 _ (Ev.step' (f := fun _ => some (parAlt n)) (fun k => ?_) (Ev.now _))
    rw [fold_append, List.nil_append]
    simp only [spec_l9Even.l0, if_neg (Int.lt_irrefl _)]
    rfl
  · have c1 : (i : Int) < (n : Int) := by omega
    have c2 : s.length < 17592186044416 := by omega
    unfold altW
    by_cases c : Int.tmod (i : Int) 2 = 1
    · simp only [spec_l9Even.l0, if_pos c1, if_true, if_pos c, if_pos c2, wrap_succ hi (by omega : n ≤ 9223372036854775807)]
    · simp only [spec_l9Even.l0, if_pos c1, if_true, if_neg c, if_pos c2, wrap_succ hi (by omega : n ≤ 9223372036854775807)]

theorem spec_ParityNet_ev (a : Int) : Ev (fun k => spec_ParityNet.f k a) (parM a) := by
  refine Ev.congr (f := fun k => if inR 1 4 a = true then spec_ParityNet.l0 k a [] 1 else some (0, [], false)) (fun k => by simp only [spec_ParityNet.f, spec_l1In_eq, Option.bind_some]) ?_
  unfold parM
  cases h : inR 1 4 a with
  | false => simp only [Bool.false_eq_true, if_false]; exact Ev.now _
  | true =>
    have := (inR_iff _ _ _).1 h
    obtain ⟨n, rfl⟩ : ∃ n : Nat, a = (n : Int) := ⟨a.toNat, by omega⟩
    simp only [if_true, Int.toNat_natCast]
    have hf := to_fold (L := fun i (s : List S45) k => spec_ParityNet.l0 k (n : Int) s (i + 1)) (n := n) (f := fun i s => s ++ [⟨List.replicate n 1, ((i + 1 : Nat) : Int)⟩]) (fun i s => s.length = i) (fun i s hi hs => ⟨?_, by simp [hs]⟩) [] rfl
    · refine hf.1 _ ?_
      rw [fold_append, List.nil_append]
      have c : ¬ ((n : Int) + 1 ≤ (n : Int)) := by omega
      exact Ev.step' (f := fun k => (spec_l9Even.f k (n : Int) true).bind fun t => some ((n : Int), [parFirst n n, [⟨t, 1⟩]], true)) (fun k => by
        simp only [spec_ParityNet.l0, if_neg c]
        rfl) (Ev.bind (spec_l9Even_yes n (by omega)) (Ev.now _))
    · have c1 : (i : Int) + 1 ≤ (n : Int) := by omega
      have c2 : s.length < 4398046511104 := by omega
      have e : wrap64 ((i : Int) + 1 + 1) = ((i + 1 : Nat) : Int) + 1 := by rw [wrap_id (by omega) (by omega)]; omega
      refine (To.step (f := fun k => (spec_l9Even.f k (n : Int) false).bind fun t => spec_ParityNet.l0 k (n : Int) (s ++ [⟨t, ((i + 1 : Nat) : Int)⟩]) (((i + 1 : Nat) : Int) + 1)) fun k => ?_).trans (To.bind (spec_l9Even_no n (by omega)))
      simp only [spec_ParityNet.l0, if_pos c1, if_pos c2, e]
      rfl

def majNetM (a : Int) : Int × List (List S45) × Bool := if inR 1 4 a = true then (a, [[⟨List.replicate a.toNat 1, wrap64 (wrap64 (Int.tdiv a 2) + 1)⟩]], true) else (0, [], false)

theorem impl_MajorityNet_ev (a : Int) : Ev (fun k => impl_MajorityNet.f k a) (majNetM a) := by
  refine Ev.congr (f := fun k => if inR 1 4 a = true then (impl_ones.f k a).bind fun t => some (a, [[⟨t, wrap64 (wrap64 (Int.tdiv a 2) + 1)⟩]], true) else some (0, [], false)) (fun k => by simp only [impl_MajorityNet.f, impl_within_eq, Option.bind_some]) ?_
  unfold majNetM
  cases h : inR 1 4 a with
  | false => simp only [Bool.false_eq_true, if_false]; exact Ev.now _
  | true =>
    have := (inR_iff _ _ _).1 h
    obtain ⟨n, rfl⟩ : ∃ n : Nat, a = (n : Int) := ⟨a.toNat, by omega⟩
    simp only [if_true, Int.toNat_natCast]
    exact Ev.bind (impl_ones_ev n (by omega)) (Ev.now _)

theorem spec_MajorityNet_ev (a : Int) : Ev (fun k => spec_MajorityNet.f k a) (majNetM a) := by
  refine Ev.congr (f := fun k => if inR 1 4 a = true then (spec_l9Even.f k a false).bind fun t => some (a, [[⟨t, wrap64 (wrap64 (Int.tdiv a 2) + 1)⟩]], true) else some (0, [], false)) (fun k => by simp only [spec_MajorityNet.f, spec_l1In_eq, Option.bind_some]) ?_
  unfold majNetM
  cases h : inR 1 4 a with
  | false => simp only [Bool.false_eq_true, if_false]; exact Ev.now _
  | true =>
    have := (inR_iff _ _ _).1 h
    obtain ⟨n, rfl⟩ : ∃ n : Nat, a = (n : Int) := ⟨a.toNat, by omega⟩
    simp only [if_true, Int.toNat_natCast]
    exact Ev.bind (spec_l9Even_no n (by omega)) (Ev.now _)

theorem spec_DrawCompareNet_tells (l : List Int) (hb : byteL l) : ∃ v, spec_DrawCompareNet.f l = some v := by
  unfold spec_DrawCompareNet.f
  obtain ⟨v, q, t, e, _⟩ := spec_l1Cur_among_tells l 0 0 [1, 2, 0, 3, (-1)] (by omega) (by omega) (by decide) hb
  rw [e]
  exact ⟨v, rfl⟩

theorem laws_vCut_tells (l : List Int) (a : Int) (ha : 0 ≤ a) (h : l.length ≤ 65536) (hb : byteL l) : ∃ t, laws_vCut.f l a = some t ∧ byteL t ∧ t.length ≤ 65537 := by
  unfold laws_vCut.f
  have hd : ∀ n : Nat, byteL ([] ++ l.drop n) := fun n x hx => hb x (List.mem_of_mem_drop (by simpa using hx))
  have hz : ∀ (n : Nat) (z : Int), 0 ≤ z → z ≤ 255 → byteL (([] ++ l.drop n) ++ [z]) := fun n z h0 h1 x hx => by
    rcases List.mem_append.1 hx with h2 | h2
    · exact hd n x h2
    · have : x = z := by simpa using h2
      subst this
      exact ⟨h0, h1⟩
  have hl : ∀ n : Nat, (l.drop n).length ≤ 65536 := fun n => by rw [List.length_drop]; omega
  have h1 : ∀ n : Nat, (([] : List Int) ++ l.drop n).length ≤ 65536 := fun n => by rw [List.nil_append]; exact hl n
  have h2 : ∀ (n : Nat) (z : Int), ((([] : List Int) ++ l.drop n) ++ [z]).length ≤ 65537 := fun n z => by rw [List.length_append]; have := h1 n; simp only [List.length_cons, List.length_nil]; omega
  by_cases c : a > (l.length : Int)
  · rw [if_pos c]
    simp only [Option.bind_some]
    rw [if_pos (by omega), if_pos (Int.le_refl _), if_pos (by have := hl ((l.length : Int)).toNat; simp only [List.length_nil]; omega), if_pos (by have := h1 ((l.length : Int)).toNat; omega)]
    exact ⟨_, rfl, hz _ _ (by omega) (by omega), h2 _ _⟩
  · rw [if_neg c]
    simp only [Option.bind_some]
    rw [if_pos ha, if_pos (by omega), if_pos (by have := hl a.toNat; simp only [List.length_nil]; omega), if_pos (by have := h1 a.toNat; omega)]
    exact ⟨_, rfl, hz _ _ (by omega) (by omega), h2 _ _⟩

def cmpM (a : Int) : Int × List (List S45) × Bool := if inR 1 2 a = true then (2 * a, [[⟨([1, -1, 2, -2] : List Int).take (2 * a).toNat, 0⟩]], true) else (0, [], false)

theorem impl_CompareNet_eq (a : Int) : impl_CompareNet.f a = some (cmpM a) := by
  unfold impl_CompareNet.f cmpM
  simp only [impl_within_eq, Option.bind_some]
  cases h : inR 1 2 a with
  | false => simp only [Bool.false_eq_true, if_false]
  | true =>
    have := (inR_iff _ _ _).1 h
    have e : wrap64 (2 * a) = 2 * a := wrap_id (by omega) (by omega)
    have c1 : 0 ≤ 2 * a := by omega
    have c2 : 2 * a ≤ (([1, (-1), 2, (-2)] : List Int).length : Int) := by show 2 * a ≤ 4; omega
    simp only [if_true, e, if_pos c1, if_pos c2]

theorem spec_l1Own_eq (l : List Int) (h : l.length ≤ 1000) : spec_l1Own.f l = some l := by
  have c : ([] : List Int).length + l.length < 17592186044416 := by rw [List.length_nil]; omega
  simp only [spec_l1Own.f, Option.bind_some, if_pos c, List.nil_append]

theorem spec_CompareNet_eq (a : Int) : spec_CompareNet.f a = some (cmpM a) := by
  unfold spec_CompareNet.f cmpM
  simp only [spec_l1In_eq, Option.bind_some]
  cases h : inR 1 2 a with
  | false => simp only [Bool.false_eq_true, if_false]
  | true =>
    have := (inR_iff _ _ _).1 h
    have e : wrap64 (2 * a) = 2 * a := wrap_id (by omega) (by omega)
    have c1 : 0 ≤ 2 * a := by omega
    have c2 : 2 * a ≤ (([1, (-1), 2, (-2)] : List Int).length : Int) := by show 2 * a ≤ 4; omega
    have c3 : (([1, (-1), 2, (-2)] : List Int).take (2 * a).toNat).length ≤ 1000 := by
      have : (([1, (-1), 2, (-2)] : List Int).take (2 * a).toNat).length ≤ ([1, (-1), 2, (-2)] : List Int).length := by rw [List.length_take]; exact Nat.min_le_right _ _
      exact Nat.le_trans this (by decide)
    simp only [if_true, e, if_pos c1, if_pos c2, spec_l1Own_eq _ c3, Option.bind_some]

theorem laws_vInts_ev (l : List Int) (h : l.length ≤ maxLen) : Ev (fun k => laws_vInts.f k l l) true := by
  unfold maxLen at h
  refine Ev.congr (f := fun k => laws_vInts.l0 k l l 0) (fun k => by simp only [laws_vInts.f, if_true]) ?_
  refine ev_yes (L := fun i k => laws_vInts.l0 k l l i) (n := l.length) (fun i hi => To.step fun k => ?_) (Ev.step' (f := fun _ => some true) (fun k => ?_) (Ev.now _))
  · have c1 : (i : Int) < (l.length : Int) := by omega
    have c0 : 0 ≤ (i : Int) := by omega
    simp only [laws_vInts.l0, if_pos c1, if_pos c0, if_true, wrap_succ hi h]
  · simp only [laws_vInts.l0, if_neg (Int.lt_irrefl _)]

theorem laws_vPlane_ev (l : List Int) (b : Int) (h : l.length ≤ maxLen) : Ev (fun k => laws_vPlane.f k l b l b) true := by
  refine Ev.congr (f := fun k => (laws_vInts.f k l l).bind fun t => if t = true then some true else some false) (fun k => by simp only [laws_vPlane.f, beq_self_eq_true]) ?_
  exact Ev.bind (laws_vInts_ev l h) (Ev.congr (f := fun _ => some true) (fun k => by simp only [if_true]) (Ev.now _))

theorem laws_vNet_row (d : Int) (l : List (List S45)) (i : Nat) (hi : i < l.length) (h : l.length ≤ maxLen) (hy : (l.getD i []).length ≤ maxLen ∧ ∀ y ∈ l.getD i [], y.f0.length ≤ maxLen) : To (fun k => laws_vNet.l1 k i 0 d l d l) (fun k => laws_vNet.l0 k ((i + 1 : Nat) : Int) d l d l) := by
  intro r hr
  have h' : l.length ≤ 9223372036854775807 := h
  have hy' : (l.getD i []).length ≤ 9223372036854775807 := hy.1
  have c0 : 0 ≤ (i : Int) := by omega
  have c1 : (i : Int) < (l.length : Int) := by omega
  refine ev_yes (L := fun j k => laws_vNet.l1 k i j d l d l) (n := (l.getD i []).length) (fun j hj => ?_) (Ev.step' (f := fun k => laws_vNet.l0 k ((i + 1 : Nat) : Int) d l d l) (fun k => ?_) hr)
  · have d0 : 0 ≤ (j : Int) := by omega
    have d1 : (j : Int) < ((l.getD i []).length : Int) := by omega
    refine (To.step (f := fun k => (laws_vPlane.f k ((l.getD i []).getD j z45).f0 ((l.getD i []).getD j z45).f1 ((l.getD i []).getD j z45).f0 ((l.getD i []).getD j z45).f1).bind fun t => if t = true then laws_vNet.l1 k i ((j + 1 : Nat) : Int) d l d l else some false) (fun k => ?_)).trans ((To.bind (laws_vPlane_ev _ _ (hy.2 _ (getD_mem hj _)))).trans (To.congr fun k => by simp only [if_true]))
    simp only [laws_vNet.l1, if_pos c0, if_pos c1, rdL5_nat, rdT45_nat, if_pos d0, if_pos d1, wrap_succ hj hy']
  · simp only [laws_vNet.l1, if_pos c0, if_pos c1, rdL5_nat, if_neg (Int.lt_irrefl _), wrap_succ hi h']

theorem laws_vNet_ev (d : Int) (l : List (List S45)) (h : l.length ≤ maxLen) (hi : ∀ x ∈ l, x.length ≤ maxLen ∧ ∀ y ∈ x, y.f0.length ≤ maxLen) : Ev (fun k => laws_vNet.f k d l d l) true := by
  refine Ev.congr (f := fun k => laws_vNet.j0 k false d l d l) (fun k => by simp only [laws_vNet.f, if_true, bne_self_eq_false]) ?_
  refine Ev.step' (f := fun k => laws_vNet.l0 k 0 d l d l) (fun k => by simp [laws_vNet.j0]) ?_
  refine ev_yes (L := fun i k => laws_vNet.l0 k i d l d l) (n := l.length) (fun i hi2 => ?_) (Ev.step' (f := fun _ => some true) (fun k => ?_) (Ev.now _))
  · have c1 : (i : Int) < (l.length : Int) := by omega
    have c0 : 0 ≤ (i : Int) := by omega
    refine (To.step fun k => ?_).trans (laws_vNet_row d l i hi2 h (hi _ (getD_mem hi2 [])))
    simp only [laws_vNet.l0, if_pos c1, if_pos c0, if_true]
  · simp only [laws_vNet.l0, if_neg (Int.lt_irrefl _)]

theorem impl_allWithin_ev (l : List Int) (a b : Int) (h : l.length ≤ maxLen) : Ev (fun k => impl_allWithin.f k l a b) (l.all (inR a b)) := by
  unfold maxLen at h
  rw [← range_all l (inR a b) 0]
  refine ev_all (L := fun i k => impl_allWithin.l0 k a b l (l.length : Int) i) (fun i hi hp => To.step fun k => ?_) (fun i hi hp => Ev.step' (f := fun _ => some false) (fun k => ?_) (Ev.now _)) (Ev.step' (f := fun _ => some true) (fun k => ?_) (Ev.now _))
  · have c1 : (i : Int) < (l.length : Int) := by omega
    have c0 : 0 ≤ (i : Int) := by omega
    simp only [impl_allWithin.l0, if_pos c1, if_pos c0, impl_within_eq, rd_nat, hp, Option.bind_some, if_true, wrap_succ hi h]
  · have c1 : (i : Int) < (l.length : Int) := by omega
    have c0 : 0 ≤ (i : Int) := by omega
    simp only [impl_allWithin.l0, if_pos c1, if_pos c0, impl_within_eq, rd_nat, hp, Option.bind_some, Bool.false_eq_true, if_false]
  · simp only [impl_allWithin.l0, if_neg (Int.lt_irrefl _)]

theorem impl_IsPlane_ev (l : List Int) (b : Int) (h : l.length ≤ maxLen) : Ev (fun k => impl_IsPlane.f k l b) (planeB l b) := by
  have e : ∀ k, impl_IsPlane.f k l b = if inR 1 4 l.length = true then (impl_allWithin.f k l (-99) 99).bind (fun t => if t = true then some (inR (-99) 99 b) else some false) else some false := fun k => by
    simp only [impl_IsPlane.f, impl_within_eq, Option.bind_some]
  refine Ev.congr e ?_
  unfold planeB
  cases inR 1 4 l.length with
  | false => exact Ev.now _
  | true =>
    simp only [if_true, Bool.true_and]
    refine Ev.bind (impl_allWithin_ev l (-99) 99 h) ?_
    cases l.all (inR (-99) 99) with
    | false => exact Ev.now _
    | true => exact Ev.now _

def layB : Int → List (List S45) → Bool
  | _, [] => true
  | d, y :: ys => y.all (fun x => planeB x.f0 x.f1 && ((x.f0.length : Int) == d)) && (inR 1 4 y.length && layB y.length ys)

def netB (d : Int) (N : List (List S45)) : Bool := inR 1 4 d && (inR 1 6 N.length && layB d N)

theorem impl_IsNet_row (N : List (List S45)) (d : Int) (i : Nat) (y : List S45) (R : Bool) (hi : i < N.length) (h : N.length ≤ maxLen) (hl : y.length ≤ maxLen ∧ ∀ z ∈ y, z.f0.length ≤ maxLen) (hr : Ev (fun k => impl_IsNet.l0 k (y.length : Int) N (N.length : Int) ((i + 1 : Nat) : Int)) R) :
    Ev (fun k => impl_IsNet.l1 k d y N (N.length : Int) i y (y.length : Int) 0) (y.all (fun x => planeB x.f0 x.f1 && ((x.f0.length : Int) == d)) && R) := by
  have h' : N.length ≤ 9223372036854775807 := h
  have h2' : y.length ≤ 9223372036854775807 := hl.1
  refine ev_list z45 y (fun j (_ : Unit) k => impl_IsNet.l1 k d y N (N.length : Int) i y (y.length : Int) j) (fun _ ys _ => ys.all (fun x => planeB x.f0 x.f1 && ((x.f0.length : Int) == d)) && R) (fun _ _ => True) (fun _ _ => ?_) (fun j x ys _ hj hx hm _ ih => ?_) () trivial
  · rw [List.all_nil, Bool.true_and]
    exact Ev.step' (fun k => by simp only [impl_IsNet.l1, if_neg (Int.lt_irrefl _), wrap_succ hi h']) hr
  · have d1 : (j : Int) < (y.length : Int) := by omega
    have d0 : 0 ≤ (j : Int) := by omega
    rw [List.all_cons, Bool.and_assoc, Bool.and_assoc]
    refine Ev.step' (f := fun k => (impl_IsPlane.f k x.f0 x.f1).bind fun t => if t = true then (if (x.f0.length : Int) = d then impl_IsNet.l1 k d y N (N.length : Int) i y (y.length : Int) ((j + 1 : Nat) : Int) else some false) else some false) (fun k => by
      simp only [impl_IsNet.l1, if_pos d1, if_pos d0, rdT45_nat, hx, wrap_succ hj h2']) (Ev.bind (impl_IsPlane_ev x.f0 x.f1 (hl.2 x hm)) ?_)
    cases planeB x.f0 x.f1 with
    | false => simp only [Bool.false_eq_true, if_false, Bool.false_and]; exact Ev.now _
    | true =>
      simp only [if_true, Bool.true_and]
      by_cases c : (x.f0.length : Int) = d
      · simp only [if_pos c, beq_iff_eq.2 c, Bool.true_and]; exact ih () trivial
      · simp only [if_neg c, beq_eq_false_iff_ne.2 c, Bool.false_and]; exact Ev.now _

theorem impl_IsNet_ev (d : Int) (N : List (List S45)) (h : N.length ≤ maxLen) (hi : ∀ x ∈ N, x.length ≤ maxLen ∧ ∀ y ∈ x, y.f0.length ≤ maxLen) : Ev (fun k => impl_IsNet.f k d N) (netB d N) := by
  have no : Ev (fun k => impl_IsNet.j0 k true d N) false := Ev.step' (f := fun _ => some false) (fun k => by simp only [impl_IsNet.j0, if_true]) (Ev.now _)
  unfold netB
  refine Ev.congr (f := fun k => if inR 1 4 d = true then impl_IsNet.j0 k (!(inR 1 6 N.length)) d N else impl_IsNet.j0 k true d N) (fun k => by simp only [impl_IsNet.f, impl_within_eq, Option.bind_some]) ?_
  cases inR 1 4 d with
  | false => simp only [Bool.false_eq_true, if_false, Bool.false_and]; exact no
  | true =>
    simp only [if_true, Bool.true_and]
    cases inR 1 6 N.length with
    | false => simpa using no
    | true =>
      refine Ev.step' (f := fun k => impl_IsNet.l0 k d N (N.length : Int) 0) (fun k => by simp [impl_IsNet.j0]) ?_
      rw [Bool.true_and]
      refine ev_list [] N (fun i (e : Int) k => impl_IsNet.l0 k e N (N.length : Int) i) (fun _ ys e => layB e ys) (fun _ _ => True) (fun e _ => ?_) (fun i y ys e hi2 hy hm _ ih => ?_) d trivial
      · exact Ev.step' (f := fun _ => some true) (fun k => by simp only [impl_IsNet.l0, if_neg (Int.lt_irrefl _)]) (Ev.now _)
      · have c1 : (i : Int) < (N.length : Int) := by omega
        have c0 : 0 ≤ (i : Int) := by omega
        show Ev _ (y.all (fun x => planeB x.f0 x.f1 && ((x.f0.length : Int) == e)) && (inR 1 4 y.length && layB y.length ys))
        rw [Bool.and_left_comm]
        refine Ev.step' (f := fun k => if inR 1 4 y.length = true then impl_IsNet.l1 k e y N (N.length : Int) i y (y.length : Int) 0 else some false) (fun k => by simp only [impl_IsNet.l0, if_pos c1, if_pos c0, rdL5_nat, hy, impl_within_eq, Option.bind_some]) ?_
        cases inR 1 4 y.length with
        | false => simp only [Bool.false_eq_true, if_false, Bool.false_and]; exact Ev.now _
        | true =>
          simp only [if_true, Bool.true_and]
          exact impl_IsNet_row N e i y _ hi2 h (hi y hm) (ih _ trivial)

def lastL (N : List (List S45)) : List S45 := N.getD (N.length - 1) []

theorem impl_Net_last_eq (d : Int) (N : List (List S45)) (h1 : 1 ≤ N.length) (h : N.length ≤ 1000) : impl_Net_last.f d N = some (lastL N) := by
  have e : wrap64 ((N.length : Int) - 1) = ((N.length - 1 : Nat) : Int) := by rw [wrap_id (by omega) (by omega)]; omega
  have c0 : 0 ≤ ((N.length - 1 : Nat) : Int) := by omega
  have c1 : ((N.length - 1 : Nat) : Int) < (N.length : Int) := by omega
  simp only [impl_Net_last.f, e, if_pos c0, if_pos c1, rdL5_nat]
  rfl

theorem impl_copied_eq (l : List Int) (h : l.length ≤ 1000) : impl_copied.f l = some l := by
  have c : ([] : List Int).length + l.length < 17592186044416 := by rw [List.length_nil]; omega
  simp only [impl_copied.f, Option.bind_some, if_pos c, List.nil_append]

theorem impl_product_ev (a b : List Int) (h : a.length ≤ maxLen) (hb : a.length ≤ b.length) : Ev (fun k => impl_product.f k a b) (dotW a b) := by
  unfold maxLen at h
  have hf := to_fold (L := fun i (s : Int) k => impl_product.l0 k b s a (a.length : Int) i) (n := a.length) (f := fun i s => wrap64 (s + wrap64 (a.getD i 0 * b.getD i 0))) (fun _ _ => True) (fun i s hi _ => ⟨To.step fun k => ?_, trivial⟩) 0 trivial
  · refine hf.1 _ (Ev.step' (f := fun _ => some _) (fun k => ?_) (Ev.now _))
    simp only [impl_product.l0, if_neg (Int.lt_irrefl _)]; rfl
  · have c1 : (i : Int) < (a.length : Int) := by omega
    have c2 : (i : Int) < (b.length : Int) := by omega
    have c3 : 0 ≤ (i : Int) := by omega
    simp only [impl_product.l0, if_pos c1, if_pos c2, if_pos c3, rd_nat, wrap_succ hi h]

theorem impl_Plane_side_ev (w : List Int) (b : Int) (x : List Int) (hw : w.length ≤ maxLen) (hx : w.length ≤ x.length) : Ev (fun k => impl_Plane_side.f k w b x) (sideW w b x) := by
  refine Ev.bind (impl_product_ev w x hw hx) ?_
  unfold sideW
  by_cases c : dotW w x ≥ b
  · simp only [if_pos c]; exact Ev.now _
  · simp only [if_neg c]; exact Ev.now _

def bitS (s : Int) : Int := if s = 1 then 1 else 0

def giveM (y : List S45) (x : List Int) : List Int := y.map fun p => bitS (sideW p.f0 p.f1 x)

/-- The layers go one into the other. -/
def okL : Nat → List (List S45) → Prop
  | _, [] => True
  | n, y :: ys => (y.length ≤ 4 ∧ ∀ p ∈ y, p.f0.length = n) ∧ okL y.length ys

def runM : List (List S45) → List Int → List Int
  | [], x => x
  | y :: ys, x => runM ys (giveM y x)

theorem drop_at {α : Type} {N : List α} {i : Nat} {y d : α} (hi : i < N.length) (hy : N.getD i d = y) : N.drop i = y :: N.drop (i + 1) := by
  rw [List.drop_eq_getElem_cons hi]
  rw [List.getD_eq_getElem?_getD, List.getElem?_eq_getElem hi] at hy
  simp at hy
  rw [hy]

theorem giveM_len (y : List S45) (x : List Int) : (giveM y x).length = y.length := List.length_map _

theorem bit_of_side (w : List Int) (b : Int) (x : List Int) : wrap64 (Int.tdiv (wrap64 (sideW w b x + 1)) 2) = bitS (sideW w b x) := by
  unfold sideW bitS
  by_cases c : dotW w x ≥ b
  · simp only [if_pos c, if_true]
    rw [wrap_id (x := (1 : Int) + 1) (by omega) (by omega), show Int.tdiv ((1 : Int) + 1) 2 = 1 from rfl, wrap_id (by omega) (by omega)]
  · simp only [if_neg c]
    rw [if_neg (by decide), wrap_id (x := (-1 : Int) + 1) (by omega) (by omega), show Int.tdiv ((-1 : Int) + 1) 2 = 0 from rfl, wrap_id (by omega) (by omega)]

theorem impl_Net_gives_row (N : List (List S45)) (y : List S45) (x : List Int) (i : Nat) (hi : i < N.length) (hN : N.length ≤ 1000) (hy : y.length ≤ 1000) (hx : x.length ≤ 1000) (hl : ∀ p ∈ y, p.f0.length = x.length) :
    To (fun k => impl_Net_gives.l1 k x [] N (N.length : Int) i y (y.length : Int) 0) (fun k => impl_Net_gives.l0 k (giveM y x) N (N.length : Int) ((i + 1 : Nat) : Int)) := by
  have hf := to_fold (L := fun j (t : List Int) k => impl_Net_gives.l1 k x t N (N.length : Int) i y (y.length : Int) j) (n := y.length) (f := fun j t => t ++ [bitS (sideW (y.getD j z45).f0 (y.getD j z45).f1 x)]) (fun j t => t.length = j) (fun j t hj ht => ⟨?_, by simp [ht]⟩) [] rfl
  · refine hf.1.trans (To.step fun k => ?_)
    rw [fold_append, List.nil_append, range_map y (fun p => bitS (sideW p.f0 p.f1 x)) z45]
    simp only [impl_Net_gives.l1, if_neg (Int.lt_irrefl _), wrap_succ hi (by omega : N.length ≤ 9223372036854775807)]
    rfl
  · have c2 : (j : Int) < (y.length : Int) := by omega
    have c3 : 0 ≤ (j : Int) := by omega
    have c4 : t.length < 17592186044416 := by omega
    have hm := hl _ (getD_mem hj z45)
    refine (To.step (f := fun k => (impl_Plane_side.f k (y.getD j z45).f0 (y.getD j z45).f1 x).bind fun u => impl_Net_gives.l1 k x (t ++ [wrap64 (Int.tdiv (wrap64 (u + 1)) 2)]) N (N.length : Int) i y (y.length : Int) ((j + 1 : Nat) : Int)) fun k => ?_).trans ((To.bind (impl_Plane_side_ev _ _ x (by unfold maxLen; omega) (by omega))).trans (To.congr fun k => by rw [bit_of_side]))
    simp only [impl_Net_gives.l1, if_pos c2, if_pos c3, if_pos c4, rdT45_nat, wrap_succ hj (by omega : y.length ≤ 9223372036854775807)]

theorem impl_Net_gives_ev (d : Int) (N : List (List S45)) (x : List Int) (hN : N.length ≤ 1000) (hx : x.length ≤ 1000) (hok : okL x.length N) : Ev (fun k => impl_Net_gives.f k d N x) (runM N x) := by
  refine Ev.congr (f := fun k => impl_Net_gives.l0 k x N (N.length : Int) 0) (fun k => by simp only [impl_Net_gives.f, impl_copied_eq x hx, Option.bind_some]) ?_
  refine ev_list [] N (fun i (s : List Int) k => impl_Net_gives.l0 k s N (N.length : Int) i) (fun _ ys s => runM ys s) (fun i s => s.length ≤ 1000 ∧ okL s.length (N.drop i)) (fun s _ => ?_) (fun i y ys s hi hy hm hs ih => ?_) x ⟨hx, hok⟩
  · exact Ev.step' (f := fun _ => some s) (fun k => by simp only [impl_Net_gives.l0, if_neg (Int.lt_irrefl _)]) (Ev.now _)
  · have c1 : (i : Int) < (N.length : Int) := by omega
    have c0 : 0 ≤ (i : Int) := by omega
    obtain ⟨h1, h2⟩ := hs
    rw [drop_at hi hy] at h2
    obtain ⟨⟨h3, h4⟩, h5⟩ := h2
    exact Ev.step' (f := fun k => impl_Net_gives.l1 k s [] N (N.length : Int) i y (y.length : Int) 0) (fun k => by simp only [impl_Net_gives.l0, if_pos c1, if_pos c0, rdL5_nat, hy]) (impl_Net_gives_row N y s i hi hN (by omega) h1 h4 _ (ih (giveM y s) ⟨by rw [giveM_len]; omega, by rw [giveM_len]; exact h5⟩))

def bitPt (d : Nat) (k : Int) : List Int := (List.range d).map fun (i : Nat) => Go.bits .and .i64 (shr .i64 k (i : Int)) 1

theorem impl_bitPoint_ev (d : Nat) (k : Int) (hd : d ≤ 1000) : Ev (fun r => impl_bitPoint.f r (d : Int) k) (bitPt d k) := by
  have hf := to_fold (L := fun j (t : List Int) r => impl_bitPoint.l0 r k t (d : Int) j) (n := d) (f := fun j t => t ++ [Go.bits .and .i64 (shr .i64 k (j : Int)) 1]) (fun j t => t.length = j) (fun j t hj ht => ⟨To.step fun r => ?_, by simp [ht]⟩) [] rfl
  · refine hf.1 _ (Ev.step' (f := fun _ => some (bitPt d k)) (fun r => ?_) (Ev.now _))
    rw [fold_append, List.nil_append]
    simp only [impl_bitPoint.l0, if_neg (Int.lt_irrefl _)]
    rfl
  · have c1 : (j : Int) < (d : Int) := by omega
    have c0 : 0 ≤ (j : Int) := by omega
    have c2 : t.length < 17592186044416 := by omega
    simp only [impl_bitPoint.l0, if_pos c1, if_pos c0, if_pos c2, wrap_succ hj (by omega : d ≤ 9223372036854775807)]

/-- n rows; those before i have one more value. -/
def RowOk (n c i : Nat) (s : List (List Int)) : Prop := s.length = n ∧ ∀ j, j < n → (s.getD j []).length = if j < i then c + 1 else c

def addAt (g : List Int) (i : Nat) (s : List (List Int)) : List (List Int) := s.set i (s.getD i [] ++ [g.getD i 0])

def rowT (n : Nat) (g : List Int) (s : List (List Int)) : List (List Int) := (List.range n).foldl (fun s i => addAt g i s) s

theorem rowOk_step {n c i : Nat} {s : List (List Int)} (g : List Int) (hi : i < n) (h : RowOk n c i s) : RowOk n c (i + 1) (addAt g i s) := by
  obtain ⟨h1, h2⟩ := h
  refine ⟨by unfold addAt; rw [List.length_set]; exact h1, fun j hj => ?_⟩
  unfold addAt
  by_cases e : j = i
  · subst e
    have := h2 j hj
    rw [if_neg (Nat.lt_irrefl _)] at this
    rw [if_pos (by omega), List.getD_eq_getElem?_getD, List.getElem?_set_self (by omega), Option.getD_some, List.length_append, this]
    rfl
  · have := h2 j hj
    rw [List.getD_eq_getElem?_getD, List.getElem?_set_ne (Ne.symm e), ← List.getD_eq_getElem?_getD, this]
    by_cases c1 : j < i
    · rw [if_pos c1, if_pos (by omega)]
    · rw [if_neg c1, if_neg (by omega)]

theorem rowOk_next {n c : Nat} {s : List (List Int)} (h : RowOk n c n s) : RowOk n (c + 1) 0 s := ⟨h.1, fun j hj => by rw [h.2 j hj, if_pos hj, if_neg (by omega)]⟩

def tabsM (d : Nat) (N : List (List S45)) : List (List Int) := (List.range (2 ^ d)).foldl (fun s (c : Nat) => rowT (lastL N).length (runM N (bitPt d (c : Int))) s) (List.replicate (lastL N).length [])

theorem layB_ok : ∀ (N : List (List S45)) (n : Nat), layB n N = true → okL n N
  | [], _, _ => trivial
  | y :: ys, n, h => by
    simp only [layB, Bool.and_eq_true, List.all_eq_true, beq_iff_eq] at h
    have hl := (inR_iff _ _ _).1 h.2.1
    exact ⟨⟨by omega, fun p hp => by have := (h.1 p hp).2; omega⟩, layB_ok ys y.length h.2.2⟩

theorem netB_ok {d : Int} {N : List (List S45)} (h : netB d N = true) : (1 ≤ d ∧ d ≤ 4) ∧ (1 ≤ N.length ∧ N.length ≤ 6) ∧ okL d.toNat N := by
  unfold netB at h
  simp only [Bool.and_eq_true] at h
  have h1 := (inR_iff _ _ _).1 h.1
  have h2 := (inR_iff _ _ _).1 h.2.1
  refine ⟨h1, by omega, layB_ok N d.toNat ?_⟩
  rw [Int.toNat_of_nonneg (by omega)]
  exact h.2.2

theorem okL_last : ∀ (N : List (List S45)) (n : Nat), 1 ≤ N.length → okL n N → (lastL N).length ≤ 4
  | [y], n, _, h => by have := h.1.1; simpa [lastL] using this
  | y :: z :: ys, n, _, h => by
    have := okL_last (z :: ys) y.length (by simp) h.2
    simpa [lastL] using this

theorem pow_small {d : Nat} (h : d ≤ 4) : 2 ^ d ≤ 16 := Nat.pow_le_pow_right (n := 2) (by omega) h

theorem shl_pow {d : Nat} (h : d ≤ 4) : shl .i64 1 (d : Int) = ((2 ^ d : Nat) : Int) := by
  have : d = 0 ∨ d = 1 ∨ d = 2 ∨ d = 3 ∨ d = 4 := by omega
  rcases this with rfl | rfl | rfl | rfl | rfl <;> decide +kernel

theorem bitPt_len (d : Nat) (k : Int) : (bitPt d k).length = d := by simp [bitPt]

theorem runM_len : ∀ (N : List (List S45)) (x : List Int), 1 ≤ N.length → (runM N x).length = (lastL N).length
  | [y], x, _ => by simp [runM, lastL, giveM_len]
  | y :: z :: ys, x, _ => by
    have := runM_len (z :: ys) (giveM y x) (by simp)
    show (runM (z :: ys) (giveM y x)).length = _
    rw [this]
    simp [lastL]

theorem impl_Net_tables_row (d : Int) (N : List (List S45)) (M : Int) (n c : Nat) (g : List Int) (s : List (List Int)) (hg : g.length = n) (hn : n ≤ 1000) (hc : c ≤ 1000) (hs : RowOk n c 0 s) :
    To (fun k => impl_Net_tables.l1 k s M (c : Int) g (g.length : Int) 0 d N) (fun k => impl_Net_tables.l0 k (rowT n g s) M ((c + 1 : Nat) : Int) d N) ∧ RowOk n (c + 1) 0 (rowT n g s) := by
  have hf := to_fold (L := fun j (t : List (List Int)) k => impl_Net_tables.l1 k t M (c : Int) g (g.length : Int) j d N) (n := n) (f := fun j t => addAt g j t) (fun j t => RowOk n c j t) (fun j t hj ht => ⟨To.step fun k => ?_, rowOk_step g hj ht⟩) s hs
  · refine ⟨hf.1.trans (To.step fun k => ?_), rowOk_next hf.2⟩
    simp only [impl_Net_tables.l1, hg, if_neg (Int.lt_irrefl _), wrap_succ (i := c) (n := 1001) (by omega) (by omega)]
    rfl
  · have h1 : t.length = n := ht.1
    have h2 := ht.2 j hj
    rw [if_neg (Nat.lt_irrefl _)] at h2
    have c1 : (j : Int) < (t.length : Int) := by omega
    have c0 : 0 ≤ (j : Int) := by omega
    have c2 : (j : Int) < (g.length : Int) := by omega
    have c3 : (t.getD j []).length < 17592186044416 := by omega
    simp only [impl_Net_tables.l1, if_pos c1, if_pos c0, if_pos c2, rdL2_nat, rdL3_nat, if_pos c3, rd_nat, Int.toNat_natCast, wrap_succ (i := j) (n := n) hj (by omega)]
    rfl

theorem impl_Net_tables_ev (d : Int) (N : List (List S45)) (h : netB d N = true) : Ev (fun k => impl_Net_tables.f k d N) (tabsM d.toNat N) := by
  obtain ⟨h1, h2, h3⟩ := netB_ok h
  have hl := okL_last N d.toNat (by omega) h3
  have c2 : 0 ≤ ((lastL N).length : Int) := by omega
  have c3 : (lastL N).length ≤ 11728124029610 := by omega
  obtain ⟨m, rfl⟩ : ∃ m : Nat, d = (m : Int) := ⟨d.toNat, by omega⟩
  rw [Int.toNat_natCast] at h3 ⊢
  have cd : 0 ≤ (m : Int) := by omega
  have hp := pow_small (d := m) (by omega)
  refine Ev.congr (f := fun k => impl_Net_tables.l0 k (List.replicate (lastL N).length []) ((2 ^ m : Nat) : Int) 0 (m : Int) N) (fun k => by simp only [impl_Net_tables.f, impl_Net_last_eq (m : Int) N (by omega) (by omega), Option.bind_some, if_pos c2, Int.toNat_natCast, if_pos c3, if_pos cd, shl_pow (d := m) (by omega)]) ?_
  have hf := to_fold (L := fun c (s : List (List Int)) k => impl_Net_tables.l0 k s ((2 ^ m : Nat) : Int) c (m : Int) N) (n := 2 ^ m) (f := fun (c : Nat) s => rowT (lastL N).length (runM N (bitPt m (c : Int))) s) (fun c s => RowOk (lastL N).length c 0 s) (fun c s hc hs => ?_) (List.replicate (lastL N).length []) ⟨by simp, fun j hj => by simp [List.getElem?_replicate, hj]⟩
  · refine hf.1 _ (Ev.step' (f := fun _ => some (tabsM m N)) (fun k => ?_) (Ev.now _))
    simp only [impl_Net_tables.l0, if_neg (Int.lt_irrefl _)]
    rfl
  · have hbl := bitPt_len m (c : Int)
    have hr := impl_Net_tables_row (m : Int) N ((2 ^ m : Nat) : Int) (lastL N).length c (runM N (bitPt m (c : Int))) s (runM_len N _ (by omega)) (by omega) (by omega) hs
    have cc : (c : Int) < ((2 ^ m : Nat) : Int) := by omega
    refine ⟨(To.step (f := fun k => (impl_bitPoint.f k (m : Int) (c : Int)).bind fun t => (impl_Net_gives.f k (m : Int) N t).bind fun u => impl_Net_tables.l1 k s ((2 ^ m : Nat) : Int) (c : Int) u (u.length : Int) 0 (m : Int) N) (fun k => ?_)).trans ((To.bind (impl_bitPoint_ev m (c : Int) (by omega))).trans ((To.bind (impl_Net_gives_ev (m : Int) N _ (by omega) (by omega) (by rw [hbl]; exact h3))).trans hr.1)), hr.2⟩
    simp only [impl_Net_tables.l0, if_pos cc]

def netTablesM (d : Int) (N : List (List S45)) : List (List Int) × Bool := if netB d N = true then (tabsM d.toNat N, true) else ([], false)

theorem impl_NetTables_ev (d : Int) (N : List (List S45)) (h : N.length ≤ maxLen) (hi : ∀ x ∈ N, x.length ≤ maxLen ∧ ∀ y ∈ x, y.f0.length ≤ maxLen) : Ev (fun k => impl_NetTables.f k d N) (netTablesM d N) := by
  refine Ev.bind (impl_IsNet_ev d N h hi) ?_
  unfold netTablesM
  cases hn : netB d N with
  | false => simp only [Bool.false_eq_true, if_false]; exact Ev.now _
  | true =>
    simp only [if_true]
    exact Ev.bind (impl_Net_tables_ev d N hn) (Ev.now _)

theorem fam_l0 (n : Int) (ok : Bool) (T : List (List Int)) (d : Int) (A : List (List S45)) (e : Int) (B : List (List S45)) (h0 : 1 ≤ T.length) (hl : (T.getD 0 []).length ≤ 1000)
    (ht : ∀ i, i < (T.getD 0 []).length → ((((T.getD 0 []).getD i 0) == 1) != (decide ((wrap64 ((Go.bits .and .i64 (i : Int) 1) + (wrap64 ((Go.bits .and .i64 ((i : Int) / 4) 1) * 2)))) ≥ (wrap64 ((Go.bits .and .i64 ((i : Int) / 2) 1) + (wrap64 ((Go.bits .and .i64 ((i : Int) / 8) 1) * 2))))))) = false) :
    To (fun k => laws_FnFamilies.l0 k n ok T true 0 d A e B) (fun k => laws_FnFamilies.j3 k n ok d A e B) := by
  intro r hr
  have e0 : rd_L3 T 0 = T.getD 0 [] := by simp [rd_L3]
  have c0 : 0 < (T.length : Int) := by omega
  refine ev_yes (L := fun i k => laws_FnFamilies.l0 k n ok T true i d A e B) (n := (T.getD 0 []).length) (fun i hi => ?_) ?_
  · have c1 : (i : Int) < ((T.getD 0 []).length : Int) := by omega
    have c2 : 0 ≤ (i : Int) := by omega
    refine (To.step (f := fun k => laws_FnFamilies.j2 k n ok T true i true d A e B) (fun k => ?_)).trans (To.step fun k => ?_)
    · simp only [laws_FnFamilies.l0, if_true, if_pos c0, e0, decide_eq_true c1]
    · simp only [laws_FnFamilies.j2, if_true, if_pos c0, e0, if_pos c1, if_pos c2, rd_nat, ht i hi, wrap_succ hi (by omega : (T.getD 0 []).length ≤ 9223372036854775807), Bool.false_eq_true, if_false]
  · refine Ev.step' (f := fun k => laws_FnFamilies.j2 k n ok T true ((T.getD 0 []).length : Int) false d A e B) (fun k => ?_) (Ev.step' (f := fun k => laws_FnFamilies.j3 k n ok d A e B) (fun k => ?_) hr)
    · simp only [laws_FnFamilies.l0, if_true, if_pos c0, e0, decide_eq_false (Int.lt_irrefl _)]
    · simp only [laws_FnFamilies.j2, if_true, Bool.false_eq_true, if_false]
def cntM (x : Int) (n : Nat) : Int := (List.range n).foldl (fun s (j : Nat) => wrap64 (s + (Go.bits .and .i64 (shr .i64 x (j : Int)) 1))) 0
theorem fam_l1 (n : Nat) (hn : n ≤ 4) (T U : List (List Int)) (h0 : 1 ≤ T.length) (h1 : 1 ≤ U.length) (hl : (T.getD 0 []).length = 2 ^ n) (hu : (U.getD 0 []).length = 2 ^ n)
    (ht : ∀ i : Nat, i < 2 ^ n → (T.getD 0 []).getD i 0 = Int.tmod (cntM i n) 2 ∧ (((U.getD 0 []).getD i 0 == 1) != (decide ((wrap64 (2 * cntM i n)) > (n : Int)))) = false) :
    Ev (fun k => laws_FnFamilies.l1 k n T true U true 0) true := by
  have e0 : rd_L3 T 0 = T.getD 0 [] := by simp [rd_L3]
  have e1 : rd_L3 U 0 = U.getD 0 [] := by simp [rd_L3]
  have c0 : 0 < (T.length : Int) := by omega
  have c1 : 0 < (U.length : Int) := by omega
  have hs := shl_pow hn
  have hp := pow_small hn
  refine ev_yes (L := fun i k => laws_FnFamilies.l1 k n T true U true i) (n := 2 ^ n) (fun i hi => ?_) ?_
  · have d0 : 0 ≤ (i : Int) := by omega
    have dn : 0 ≤ (n : Int) := by omega
    have d1 : (i : Int) < ((2 ^ n : Nat) : Int) := by omega
    have d2 : (i : Int) < ((T.getD 0 []).length : Int) := by omega
    have d3 : (i : Int) < ((U.getD 0 []).length : Int) := by omega
    refine (To.step (f := fun k => laws_FnFamilies.j5 k n T true U true i true) (fun k => ?_)).trans ((To.step (f := fun k => laws_FnFamilies.l2 k n T true U true i 0 0) (fun k => ?_)).trans ?_)
    · simp only [laws_FnFamilies.l1, if_true, if_pos dn, hs, decide_eq_true d1]
    · simp only [laws_FnFamilies.j5, if_true]
    · have hf := to_fold (L := fun j (s : Int) k => laws_FnFamilies.l2 k n T true U true i s j) (n := n) (f := fun j s => wrap64 (s + (Go.bits .and .i64 (shr .i64 (i : Int) (j : Int)) 1))) (fun _ _ => True) (fun j s hj _ => ⟨To.step fun k => by
        have b0 : 0 ≤ (j : Int) := by omega
        have b1 : (j : Int) < (n : Int) := by omega
        simp only [laws_FnFamilies.l2, if_pos b1, if_pos b0, wrap_succ hj (by omega : n ≤ 9223372036854775807)], trivial⟩) 0 trivial
      refine hf.1.trans (To.step fun k => ?_)
      have h3 := ht i hi
      have hc : (List.range n).foldl (fun s (j : Nat) => wrap64 (s + (Go.bits .and .i64 (shr .i64 (i : Int) (j : Int)) 1))) 0 = cntM i n := rfl
      simp only [laws_FnFamilies.l2, if_neg (Int.lt_irrefl _), if_pos c0, if_pos c1, e0, e1, if_pos d0, if_pos d2, if_pos d3, rd_nat, hc, h3.1, h3.2, if_true, Bool.false_eq_true, if_false, wrap_succ hi (by omega : 2 ^ n ≤ 9223372036854775807)]
  · refine Ev.step' (f := fun k => laws_FnFamilies.j5 k n T true U true ((2 ^ n : Nat) : Int) false) (fun k => ?_) (Ev.step' (f := fun _ => some true) (fun k => ?_) (Ev.now _))
    · have dn : 0 ≤ (n : Int) := by omega
      simp only [laws_FnFamilies.l1, if_true, if_pos dn, hs, decide_eq_false (Int.lt_irrefl _)]
    · simp only [laws_FnFamilies.j5, if_true, Bool.false_eq_true, if_false]
def famC : (n : Nat) → List (List S45) := fun n => [[⟨([1, -1, 2, -2] : List Int).take (2 * n), 0⟩]]
def okC (T : List (List Int)) : Bool := decide (1 ≤ T.length) && (decide ((T.getD 0 []).length ≤ 1000) && (List.range (T.getD 0 []).length).all fun i => !(((((T.getD 0 []).getD i 0) == 1) != (decide ((wrap64 ((Go.bits .and .i64 (i : Int) 1) + (wrap64 ((Go.bits .and .i64 ((i : Int) / 4) 1) * 2)))) ≥ (wrap64 ((Go.bits .and .i64 ((i : Int) / 2) 1) + (wrap64 ((Go.bits .and .i64 ((i : Int) / 8) 1) * 2)))))))))
def okP (n : Nat) (T U : List (List Int)) : Bool := decide (1 ≤ T.length) && (decide (1 ≤ U.length) && (decide ((T.getD 0 []).length = 2 ^ n) && (decide ((U.getD 0 []).length = 2 ^ n) && (List.range (2 ^ n)).all fun i => decide ((T.getD 0 []).getD i 0 = Int.tmod (cntM i n) 2) && !((((U.getD 0 []).getD i 0 == 1) != (decide ((wrap64 (2 * cntM i n)) > (n : Int))))))))
theorem famC_ok : ∀ n : Nat, 1 ≤ n → n ≤ 2 → (netTablesM (2 * n : Nat) (famC n)).2 = true ∧ okC (netTablesM (2 * n : Nat) (famC n)).1 = true := by
  intro n h1 h2
  have : n = 1 ∨ n = 2 := by omega
  rcases this with rfl | rfl <;> decide +kernel
theorem famP_ok : ∀ n : Nat, 1 ≤ n → n ≤ 4 → (netTablesM n (parM n).2.1).2 = true ∧ (netTablesM n (majNetM n).2.1).2 = true ∧ okP n (netTablesM n (parM n).2.1).1 (netTablesM n (majNetM n).2.1).1 = true := by
  intro n h1 h2
  have : n = 1 ∨ n = 2 ∨ n = 3 ∨ n = 4 := by omega
  rcases this with rfl | rfl | rfl | rfl <;> decide +kernel
def smallN (N : List (List S45)) : Prop := N.length ≤ maxLen ∧ ∀ y ∈ N, y.length ≤ maxLen ∧ ∀ x ∈ y, x.f0.length ≤ maxLen
theorem parM_small (a : Int) : smallN (parM a).2.1 := by
  unfold parM smallN maxLen
  split
  · next h =>
    have h0 := (inR_iff _ _ _).1 h
    refine ⟨by simp, fun y hy => ?_⟩
    have hy2 : y = parFirst a.toNat a.toNat ∨ y = [⟨parAlt a.toNat, 1⟩] := by simpa using hy
    rcases hy2 with rfl | rfl
    · refine ⟨by simp only [parFirst, List.length_map, List.length_range]; omega, fun x hx => ?_⟩
      obtain ⟨i, _, rfl⟩ := List.mem_map.1 hx
      show (List.replicate a.toNat (1 : Int)).length ≤ _
      rw [List.length_replicate]; omega
    · refine ⟨by simp, fun x hx => ?_⟩
      have : x = ⟨parAlt a.toNat, 1⟩ := by simpa using hx
      subst this
      show (parAlt a.toNat).length ≤ _
      simp only [parAlt, List.length_map, List.length_range]; omega
  · exact ⟨by simp, fun y hy => by simp at hy⟩
theorem maj_small (a : Int) : smallN (majNetM a).2.1 := by
  unfold majNetM smallN maxLen
  split
  · next h =>
    have h0 := (inR_iff _ _ _).1 h
    refine ⟨by simp, fun y hy => ?_⟩
    have hy2 : y = [⟨List.replicate a.toNat 1, wrap64 (wrap64 (Int.tdiv a 2) + 1)⟩] := by simpa using hy
    subst hy2
    refine ⟨by simp, fun x hx => ?_⟩
    have : x = ⟨List.replicate a.toNat 1, wrap64 (wrap64 (Int.tdiv a 2) + 1)⟩ := by simpa using hx
    subst this
    show (List.replicate a.toNat (1 : Int)).length ≤ _
    rw [List.length_replicate]; omega
  · exact ⟨by simp, fun y hy => by simp at hy⟩
theorem cmp_small (a : Int) : smallN (cmpM a).2.1 := by
  unfold cmpM smallN maxLen
  split
  · refine ⟨by simp, fun y hy => ?_⟩
    have hy2 : y = [⟨([1, -1, 2, -2] : List Int).take (2 * a).toNat, 0⟩] := by simpa using hy
    subst hy2
    refine ⟨by simp, fun x hx => ?_⟩
    have : x = ⟨([1, -1, 2, -2] : List Int).take (2 * a).toNat, 0⟩ := by simpa using hx
    subst this
    show (([1, -1, 2, -2] : List Int).take (2 * a).toNat).length ≤ _
    rw [List.length_take]
    simp only [List.length_cons, List.length_nil]; omega
  · exact ⟨by simp, fun y hy => by simp at hy⟩
theorem fam_j3 (n : Int) : Ev (fun k => laws_FnFamilies.j3 k n (parM n).2.2 (parM n).1 (parM n).2.1 (majNetM n).1 (majNetM n).2.1) true := by
  by_cases c : inR 1 4 n = true
  · have h0 := (inR_iff _ _ _).1 c
    obtain ⟨m, rfl⟩ : ∃ m : Nat, n = m := ⟨n.toNat, by omega⟩
    have a1 : (parM (m : Int)).1 = m := by simp [parM, c]
    have a2 : (parM (m : Int)).2.2 = true := by simp [parM, c]
    have a3 : (majNetM (m : Int)).1 = m := by simp [majNetM, c]
    rw [a1, a2, a3]
    have s1 := parM_small (m : Int)
    have s2 := maj_small (m : Int)
    obtain ⟨f1, f2, f3⟩ := famP_ok m (by omega) (by omega)
    simp only [okP, Bool.and_eq_true, decide_eq_true_eq, List.all_eq_true, List.mem_range] at f3
    obtain ⟨g1, g2, g3, g4, g5⟩ := f3
    refine Ev.step' (f := fun k => (impl_NetTables.f k m (parM (m : Int)).2.1).bind fun b => (impl_NetTables.f k m (majNetM (m : Int)).2.1).bind fun d => laws_FnFamilies.l1 k m b.1 b.2 d.1 d.2 0) (fun k => by simp only [laws_FnFamilies.j3, if_true]) ?_
    refine Ev.bind (impl_NetTables_ev _ _ s1.1 s1.2) (Ev.bind (impl_NetTables_ev _ _ s2.1 s2.2) ?_)
    rw [f1, f2]
    refine fam_l1 m (by omega) _ _ g1 g2 g3 g4 (fun i hi => ?_)
    have := g5 i hi
    exact ⟨this.1, by simpa using this.2⟩
  · have a2 : (parM n).2.2 = false := by simp [parM, c]
    rw [a2]
    exact Ev.step' (f := fun _ => some true) (fun k => by simp only [laws_FnFamilies.j3, Bool.false_eq_true, if_false]) (Ev.now _)
theorem fam_j0 (n m : Int) : Ev (fun k => laws_FnFamilies.j0 k n (parM n).2.2 (cmpM m).2.2 false (parM n).1 (parM n).2.1 (majNetM n).1 (majNetM n).2.1 (cmpM m).1 (cmpM m).2.1) true := by
  by_cases c : inR 1 2 m = true
  · have h0 := (inR_iff _ _ _).1 c
    obtain ⟨q, rfl⟩ : ∃ q : Nat, m = q := ⟨m.toNat, by omega⟩
    have a1 : (cmpM (q : Int)).1 = ((2 * q : Nat) : Int) := by simp [cmpM, c]
    have a2 : (cmpM (q : Int)).2.2 = true := by simp [cmpM, c]
    have a3 : (cmpM (q : Int)).2.1 = famC q := by
      have e : (2 * (q : Int)).toNat = 2 * q := by omega
      simp only [cmpM, c, if_true, famC, e]
    have s1 := cmp_small (q : Int)
    rw [a3] at s1
    rw [a1, a2, a3]
    obtain ⟨f1, f2⟩ := famC_ok q (by omega) (by omega)
    simp only [okC, Bool.and_eq_true, decide_eq_true_eq, List.all_eq_true, List.mem_range] at f2
    obtain ⟨g1, g2, g3⟩ := f2
    refine Ev.step' (f := fun k => (impl_NetTables.f k ((2 * q : Nat) : Int) (famC q)).bind fun b => laws_FnFamilies.l0 k n (parM n).2.2 b.1 b.2 0 (parM n).1 (parM n).2.1 (majNetM n).1 (majNetM n).2.1) (fun k => by simp only [laws_FnFamilies.j0, if_true, Bool.false_eq_true, if_false]) ?_
    refine Ev.bind (impl_NetTables_ev _ _ s1.1 s1.2) ?_
    rw [f1]
    exact fam_l0 n _ _ _ _ _ _ g1 g2 (fun i hi => by simpa using g3 i hi) _ (fam_j3 n)
  · have a2 : (cmpM m).2.2 = false := by simp [cmpM, c]
    rw [a2]
    exact Ev.step' (f := fun k => laws_FnFamilies.j3 k n (parM n).2.2 (parM n).1 (parM n).2.1 (majNetM n).1 (majNetM n).2.1) (fun k => by simp only [laws_FnFamilies.j0, Bool.false_eq_true, if_false]) (fam_j3 n)
theorem pure : laws_FnFamilies.Pure := by
  intro l hl hz hw
  have hb : byteL l := fun x hx => by
    have h := hw x hx
    have e0 : IntKind.u8.min = 0 := by decide
    have e1 : IntKind.u8.max = 255 := by decide
    simp only [Lit.wf, Bool.and_eq_true, decide_eq_true_eq, e0, e1] at h
    exact h
  suffices h : Ev (fun k => laws_FnFamilies.f k l) true by
    obtain ⟨K, hK⟩ := h
    exact ⟨K, hK K (Nat.le_refl _)⟩
  by_cases big : (l.length : Int) > 65536
  · exact Ev.congr (f := fun _ => some true) (fun k => by simp only [laws_FnFamilies.f, laws_vBig_eq, Option.bind_some, decide_eq_true big, if_true]) (Ev.now _)
  · obtain ⟨n, hn⟩ := spec_DrawParityNet_tells l hb
    obtain ⟨t, ht, hbt, _⟩ := laws_vCut_tells l 1 (by omega) (by omega) hb
    obtain ⟨m, hm⟩ := spec_DrawCompareNet_tells t hbt
    have e1 : (parM n).2.2 = (majNetM n).2.2 := by unfold parM majNetM; split <;> rfl
    have s1 := parM_small n
    have s2 := maj_small n
    have s3 := cmp_small m
    simp only [laws_FnFamilies.f, laws_vBig_eq, Option.bind_some, decide_eq_false big, Bool.false_eq_true, if_false, hn, ht, hm, impl_CompareNet_eq, spec_CompareNet_eq]
    refine Ev.bind (impl_ParityNet_ev n) (Ev.bind (spec_ParityNet_ev n) (Ev.bind (impl_MajorityNet_ev n) (Ev.bind (spec_MajorityNet_ev n) ?_)))
    simp only [bne_self_eq_false, Bool.false_eq_true, if_false]
    refine Ev.bind (laws_vNet_ev _ _ s1.1 s1.2) ?_
    simp only [if_true]
    refine Ev.bind (laws_vNet_ev _ _ s2.1 s2.2) ?_
    simp only [if_true]
    refine Ev.bind (laws_vNet_ev _ _ s3.1 s3.2) ?_
    simp only [if_true, ← e1, bne_self_eq_false]
    exact fam_j0 n m
end Go.Proofs.Ytfbncebnngldmaa.QFnFamilies
