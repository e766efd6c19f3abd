/- FnExactParityNet: what its calls come to, shown of numbers and lists alone. -/
import Derived.Test.YtihnijfgdffhjaaSFnExactParityNet
import Derived.Test.YtihnijfgdffhjaaPm
namespace Go.Proofs.Ytihnijfgdffhjaa.QFnExactParityNet
open Go.RowKit Go.Proofs.Ytihnijfgdffhjaa.KFnExactParityNet Go.Proofs.Ytihnijfgdffhjaa.Lb Go.Proofs.Ytihnijfgdffhjaa.Pm Go.Proofs.Ytihnijfgdffhjaa.PFnExactParityNet Go.Proofs.YtihnijfgdffhjaaW.PrintWords Go.Proofs.YtihnijfgdffhjaaW.PrintLast Go.Proofs.YtihnijfgdffhjaaW.PrintMore
set_option linter.unusedVariables false
set_option linter.unusedSimpArgs false
theorem rdL1_nat (xs : List (List Int)) (i : Nat) : rd_L1 xs (i : Int) = xs.getD i [] := by simp [rd_L1]

theorem rdL3_nat (xs : List (List S33)) (i : Nat) : rd_L3 xs (i : Int) = xs.getD i [] := by simp [rd_L3]

theorem rdT33_nat (xs : List S33) (i : Nat) : rd_T33 xs (i : Int) = xs.getD i z33 := by simp [rd_T33]

def markP (a : Int) (x : S33) : S33 := ⟨iota a x.f0, a + x.f0.length⟩
def wtPP (y : List S33) : Nat := sumN (fun x : S33 => x.f0.length + 1) y
def markPP (a : Int) (y : List S33) : List S33 := markL (fun x : S33 => x.f0.length + 1) markP a y

theorem laws_eqIntS_ev (l : List Int) (h : l.length ≤ maxLen) : Ev (fun k => laws_eqIntS.f k l l) true := by
  unfold maxLen at h
  refine Ev.congr (f := fun k => laws_eqIntS.l0 k l l 0) (fun k => by simp only [laws_eqIntS.f, if_true]) ?_
  refine ev_yes (L := fun i k => laws_eqIntS.l0 k l l i) (n := l.length) (fun i hi => To.step fun k => ?_) (Ev.step' (f := fun _ => some true) (fun k => ?_) (Ev.now _))
  · have c1 : (i : Int) < (l.length : Int) := by omega
    have c0 : 0 ≤ (i : Int) := by omega
    simp only [laws_eqIntS.l0, if_pos c1, if_pos c0, if_true, wrap_succ hi h]
  · simp only [laws_eqIntS.l0, if_neg (Int.lt_irrefl _)]

theorem laws_eqPlane_ev (l : List Int) (b : Int) (h : l.length ≤ maxLen) : Ev (fun k => laws_eqPlane.f k l b l b) true := Ev.bind (laws_eqIntS_ev l h) (Ev.congr (f := fun _ => some true) (fun k => by simp only [if_true]) (Ev.now _))

theorem laws_eqPlaneS_ev (l : List S33) (h : l.length ≤ maxLen) (hi : ∀ x ∈ l, x.f0.length ≤ maxLen) : Ev (fun k => laws_eqPlaneS.f k l l) true := by
  have h' : l.length ≤ 9223372036854775807 := h
  refine Ev.congr (f := fun k => laws_eqPlaneS.l0 k l l 0) (fun k => by simp only [laws_eqPlaneS.f, if_true]) ?_
  refine ev_yes (L := fun i k => laws_eqPlaneS.l0 k l l i) (n := l.length) (fun i hi2 => ?_) (Ev.step' (f := fun _ => some true) (fun k => ?_) (Ev.now _))
  · have c1 : (i : Int) < (l.length : Int) := by omega
    have c0 : 0 ≤ (i : Int) := by omega
    refine (To.step (f := fun k => (laws_eqPlane.f k (l.getD i z33).f0 (l.getD i z33).f1 (l.getD i z33).f0 (l.getD i z33).f1).bind fun t => if t = true then laws_eqPlaneS.l0 k l l ((i + 1 : Nat) : Int) else some false) (fun k => ?_)).trans ((To.bind (laws_eqPlane_ev _ _ (hi _ (getD_mem hi2 z33)))).trans (To.congr fun k => by simp only [if_true]))
    simp only [laws_eqPlaneS.l0, if_pos c1, if_pos c0, rdT33_nat, wrap_succ hi2 h']
  · simp only [laws_eqPlaneS.l0, if_neg (Int.lt_irrefl _)]

theorem laws_eqPlaneSS_ev (l : List (List S33)) (h : l.length ≤ maxLen) (hi : ∀ x ∈ l, x.length ≤ maxLen ∧ ∀ y ∈ x, y.f0.length ≤ maxLen) : Ev (fun k => laws_eqPlaneSS.f k l l) true := by
  have h' : l.length ≤ 9223372036854775807 := h
  refine Ev.congr (f := fun k => laws_eqPlaneSS.l0 k l l 0) (fun k => by simp only [laws_eqPlaneSS.f, if_true]) ?_
  refine ev_yes (L := fun i k => laws_eqPlaneSS.l0 k l l i) (n := l.length) (fun i hi2 => ?_) (Ev.step' (f := fun _ => some true) (fun k => ?_) (Ev.now _))
  · have c1 : (i : Int) < (l.length : Int) := by omega
    have c0 : 0 ≤ (i : Int) := by omega
    have hm := hi _ (getD_mem hi2 [])
    refine (To.step (f := fun k => (laws_eqPlaneS.f k (l.getD i []) (l.getD i [])).bind fun t => if t = true then laws_eqPlaneSS.l0 k l l ((i + 1 : Nat) : Int) else some false) (fun k => ?_)).trans ((To.bind (laws_eqPlaneS_ev _ hm.1 hm.2)).trans (To.congr fun k => by simp only [if_true]))
    simp only [laws_eqPlaneSS.l0, if_pos c1, if_pos c0, rdL3_nat, wrap_succ hi2 h']
  · simp only [laws_eqPlaneSS.l0, if_neg (Int.lt_irrefl _)]

theorem laws_eqNet_ev (d : Int) (l : List (List S33)) (h : l.length ≤ maxLen) (hi : ∀ x ∈ l, x.length ≤ maxLen ∧ ∀ y ∈ x, y.f0.length ≤ maxLen) : Ev (fun k => laws_eqNet.f k d l d l) true := by
  refine Ev.congr (f := fun k => (laws_eqPlaneSS.f k l l).bind fun t => if t = true then some true else some false) (fun k => by simp only [laws_eqNet.f, if_true]) ?_
  exact Ev.bind (laws_eqPlaneSS_ev l h hi) (Ev.congr (f := fun _ => some true) (fun k => by simp only [if_true]) (Ev.now _))

theorem laws_markIntS_ev (l : List Int) (a : Int) (h0 : 0 ≤ a) (h1 : a + l.length ≤ 1000000000000) : Ev (fun k => laws_markIntS.f k l a) (a + l.length, iota a l) := by
  have e := ev_mark (0 : Int) (fun _ => 1) (fun a _ => a) l 1000000000000 (L := fun ys a i k => laws_markIntS.l0 k ys a i) (fun ys a i x hi hl hx hm ha hb => To.step fun k => by
    have c1 : (i : Int) < (ys.length : Int) := by omega
    have c3 : 0 ≤ (i : Int) := by omega
    have e : wrap64 (a + 1) = a + ((1 : Nat) : Int) := wrap_id (by omega) (by simpa using (by omega : a + 1 ≤ 9223372036854775807))
    simp only [laws_markIntS.l0, if_pos c1, if_pos c3, Int.toNat_natCast, wrap_succ (i := i) (n := ys.length) (by omega) (by omega), e]) (fun ys a hl => Ev.step' (f := fun _ => some (a, ys)) (fun k => by
    simp only [laws_markIntS.l0, hl, if_neg (Int.lt_irrefl _)]) (Ev.now _)) a h0 (by rw [sumN_one]; exact h1)
  rw [sumN_one] at e
  exact e

theorem laws_heldIntS_ev (l : List Int) (a : Int) (h0 : 0 ≤ a) (h1 : a + l.length ≤ 1000000000000) : Ev (fun k => laws_heldIntS.f k (iota a l) a) (a + l.length) := by
  have e := ev_held (0 : Int) (fun _ => 1) (fun a _ => a) l 1000000000000 (L := fun b i k => laws_heldIntS.l0 k (iota a l) b i) a (fun b i x hi hx hm ha hb => To.step fun k => by
    have c1 : (i : Int) < ((iota a l).length : Int) := by rw [iota_len]; omega
    have c3 : 0 ≤ (i : Int) := by omega
    have c4 : (iota a l).getD i 0 = b := hx
    have e : wrap64 (b + 1) = b + ((1 : Nat) : Int) := wrap_id (by omega) (by simpa using (by omega : b + 1 ≤ 9223372036854775807))
    simp only [laws_heldIntS.l0, if_pos c1, if_pos c3, rd_nat, if_pos c4, wrap_succ (i := i) (n := l.length) hi (by omega), e]) (fun b => Ev.step' (f := fun _ => some b) (fun k => by
    simp only [laws_heldIntS.l0, iota_len, if_neg (Int.lt_irrefl _)]) (Ev.now _)) h0 (by rw [sumN_one]; exact h1)
  rw [sumN_one] at e
  exact e

theorem laws_heldPlaneS_ev (l : List S33) (a : Int) (h0 : 0 ≤ a) (h1 : a + sumN (fun x : S33 => x.f0.length + 1) l ≤ 1000000000000) (hl : l.length ≤ 1000000000000) : Ev (fun k => laws_heldPlaneS.f k (markL (fun x : S33 => x.f0.length + 1) markP a l) a) (a + sumN (fun x : S33 => x.f0.length + 1) l) := by
  have hlen : (markL (fun x : S33 => x.f0.length + 1) markP a l).length = l.length := markL_len _ _ _ _
  refine ev_held z33 (fun x : S33 => x.f0.length + 1) markP l 1000000000000 (L := fun b i k => laws_heldPlaneS.l0 k (markL (fun x : S33 => x.f0.length + 1) markP a l) b i) a (fun b i x hi hx hm ha hb r hr => ?_) (fun b => Ev.step' (f := fun _ => some b) (fun k => by simp only [laws_heldPlaneS.l0, hlen, if_neg (Int.lt_irrefl _)]) (Ev.now _)) h0 h1
  have hb2 : b + (x.f0.length : Int) ≤ 1000000000000 := by have : ((x.f0.length + 1 : Nat) : Int) = (x.f0.length : Int) + 1 := by omega
                                                           omega
  have c1 : (i : Int) < ((markL (fun x : S33 => x.f0.length + 1) markP a l).length : Int) := by rw [hlen]; omega
  have c3 : 0 ≤ (i : Int) := by omega
  refine Ev.step' (f := fun k => (laws_heldIntS.f k (iota b x.f0) b).bind fun t => if t < 0 then some (-1) else if b + (x.f0.length : Int) = t then laws_heldPlaneS.l0 k (markL (fun x : S33 => x.f0.length + 1) markP a l) (wrap64 (t + 1)) ((i + 1 : Nat) : Int) else some (-1)) (fun k => by
    simp only [laws_heldPlaneS.l0, if_pos c1, if_pos c3, rdT33_nat, hx, wrap_succ hi (by omega : l.length ≤ 9223372036854775807)]
    rfl) (Ev.bind (laws_heldIntS_ev x.f0 b ha hb2) ?_)
  have e : wrap64 (b + (x.f0.length : Int) + 1) = b + ((x.f0.length + 1 : Nat) : Int) := by rw [wrap_id (by omega) (by omega)]; omega
  simp only [if_neg (show ¬ b + (x.f0.length : Int) < 0 by omega), if_true, e]
  exact hr

theorem laws_heldPlaneSS_ev (l : List (List S33)) (a : Int) (h0 : 0 ≤ a) (h1 : a + sumN wtPP l ≤ 1000000000000) (hl : l.length ≤ 1000000000000) (hi : ∀ y ∈ l, y.length ≤ 1000000000000) : Ev (fun k => laws_heldPlaneSS.f k (markL wtPP markPP a l) a) (a + sumN wtPP l) := by
  have hlen : (markL wtPP markPP a l).length = l.length := markL_len _ _ _ _
  refine ev_held ([] : List S33) wtPP markPP l 1000000000000 (L := fun b i k => laws_heldPlaneSS.l0 k (markL wtPP markPP a l) b i) a (fun b i x hi2 hx hm ha hb r hr => ?_) (fun b => Ev.step' (f := fun _ => some b) (fun k => by simp only [laws_heldPlaneSS.l0, hlen, if_neg (Int.lt_irrefl _)]) (Ev.now _)) h0 h1
  have c1 : (i : Int) < ((markL wtPP markPP a l).length : Int) := by rw [hlen]; omega
  have c3 : 0 ≤ (i : Int) := by omega
  refine Ev.step' (f := fun k => (laws_heldPlaneS.f k (markPP b x) b).bind fun t => if t < 0 then some (-1) else laws_heldPlaneSS.l0 k (markL wtPP markPP a l) t ((i + 1 : Nat) : Int)) (fun k => by
    simp only [laws_heldPlaneSS.l0, if_pos c1, if_pos c3, rdL3_nat, hx, wrap_succ hi2 (by omega : l.length ≤ 9223372036854775807)]) (Ev.bind (laws_heldPlaneS_ev x b ha hb (hi x hm)) ?_)
  simp only [if_neg (show ¬ b + ((sumN (fun x : S33 => x.f0.length + 1) x : Nat) : Int) < 0 by omega)]
  exact hr

theorem laws_heldNet_ev (d : Int) (l : List (List S33)) (a : Int) (h0 : 0 ≤ a) (h1 : a + sumN wtPP l ≤ 1000000000000) (hl : l.length ≤ 1000000000000) (hi : ∀ y ∈ l, y.length ≤ 1000000000000) : Ev (fun k => laws_heldNet.f k d (markL wtPP markPP a l) a) (a + sumN wtPP l) := by
  refine Ev.bind (laws_heldPlaneSS_ev l a h0 h1 hl hi) ?_
  simp only [if_neg (show ¬ a + ((sumN wtPP l : Nat) : Int) < 0 by omega)]
  exact Ev.now _

theorem spec_l1In_eq (x a b : Int) : spec_l1In.f x a b = some (inR a b x) := in_tells a b x

theorem fold_rep {α : Type} (x : α) (n : Nat) : (List.range n).foldl (fun s _ => s ++ [x]) [] = List.replicate n x := by
  rw [fold_append, List.nil_append, map_const]
theorem spec_l9Even_no (n : Nat) (h : n ≤ 1000) : Ev (fun k => spec_l9Even.f k (n : Int) false) (List.replicate n 1) := by
  have hf := to_fold (L := fun i (s : List Int) k => spec_l9Even.l0 k (n : Int) false s i) (n := n) (f := fun _ s => s ++ [1]) (fun i s => s.length = i) (fun i s hi hs => ⟨To.step fun k => ?_, by simp [hs]⟩) [] rfl
  · refine hf.1 _ (Ev.step' (f := fun _ => some (List.replicate n 1)) (fun k => ?_) (Ev.now _))
    rw [fold_rep]
    simp only [spec_l9Even.l0, if_neg (Int.lt_irrefl _)]
  · have c1 : (i : Int) < (n : Int) := by omega
    have c2 : s.length < 17592186044416 := by omega
    simp only [spec_l9Even.l0, if_pos c1, Bool.false_eq_true, if_false, if_pos c2, wrap_succ hi (by omega : n ≤ 9223372036854775807)]
def altW (i : Nat) : Int := if Int.tmod (i : Int) 2 = 1 then -1 else 1
def parAlt (n : Nat) : List Int := (List.range n).map altW
theorem spec_l9Even_yes (n : Nat) (h : n ≤ 1000) : Ev (fun k => spec_l9Even.f k (n : Int) true) (parAlt n) := by
  have hf := to_fold (L := fun i (s : List Int) k => spec_l9Even.l0 k (n : Int) true s i) (n := n) (f := fun i s => s ++ [altW i]) (fun i s => s.length = i) (fun i s hi hs => ⟨To.step fun k => ?_, by simp [hs]⟩) [] rfl
  · refine hf.1 _ (Ev.step' (f := fun _ => some (parAlt n)) (fun k => ?_) (Ev.now _))
    rw [fold_append, List.nil_append]
    simp only [spec_l9Even.l0, if_neg (Int.lt_irrefl _)]
    rfl
  · have c1 : (i : Int) < (n : Int) := by omega
    have c2 : s.length < 17592186044416 := by omega
    unfold altW
    by_cases c : Int.tmod (i : Int) 2 = 1
    · simp only [spec_l9Even.l0, if_pos c1, if_true, if_pos c, if_pos c2, wrap_succ hi (by omega : n ≤ 9223372036854775807)]
    · simp only [spec_l9Even.l0, if_pos c1, if_true, if_neg c, if_pos c2, wrap_succ hi (by omega : n ≤ 9223372036854775807)]

def parFirst (n m : Nat) : List S33 := (List.range m).map fun i => ⟨List.replicate n 1, ((i + 1 : Nat) : Int)⟩
def parM (a : Int) : Int × List (List S33) × Bool := if inR 1 4 a = true then (a, [parFirst a.toNat a.toNat, [⟨parAlt a.toNat, 1⟩]], true) else (0, [], false)
theorem spec_ParityNet_ev (a : Int) : Ev (fun k => spec_ParityNet.f k a) (parM a) := by
  refine Ev.congr (f := fun k => if inR 1 4 a = true then spec_ParityNet.l0 k a [] 1 else some (0, [], false)) (fun k => by simp only [spec_ParityNet.f, spec_l1In_eq, Option.bind_some]) ?_
  unfold parM
  cases h : inR 1 4 a with
  | false => simp only [Bool.false_eq_true, if_false]; exact Ev.now _
  | true =>
    have := (inR_iff _ _ _).1 h
    obtain ⟨n, rfl⟩ : ∃ n : Nat, a = (n : Int) := ⟨a.toNat, by omega⟩
    simp only [if_true, Int.toNat_natCast]
    have hf := to_fold (L := fun i (s : List S33) k => spec_ParityNet.l0 k (n : Int) s (i + 1)) (n := n) (f := fun i s => s ++ [⟨List.replicate n 1, ((i + 1 : Nat) : Int)⟩]) (fun i s => s.length = i) (fun i s hi hs => ⟨?_, by simp [hs]⟩) [] rfl
    · refine hf.1 _ ?_
      rw [fold_append, List.nil_append]
      have c : ¬ ((n : Int) + 1 ≤ (n : Int)) := by omega
      exact Ev.step' (f := fun k => (spec_l9Even.f k (n : Int) true).bind fun t => some ((n : Int), [parFirst n n, [⟨t, 1⟩]], true)) (fun k => by
        simp only [spec_ParityNet.l0, if_neg c]
        rfl) (Ev.bind (spec_l9Even_yes n (by omega)) (Ev.now _))
    · have c1 : (i : Int) + 1 ≤ (n : Int) := by omega
      have c2 : s.length < 4398046511104 := by omega
      have e : wrap64 ((i : Int) + 1 + 1) = ((i + 1 : Nat) : Int) + 1 := by rw [wrap_id (by omega) (by omega)]; omega
      refine (To.step (f := fun k => (spec_l9Even.f k (n : Int) false).bind fun t => spec_ParityNet.l0 k (n : Int) (s ++ [⟨t, ((i + 1 : Nat) : Int)⟩]) (((i + 1 : Nat) : Int) + 1)) fun k => ?_).trans (To.bind (spec_l9Even_no n (by omega)))
      simp only [spec_ParityNet.l0, if_pos c1, if_pos c2, e]
      rfl

theorem impl_within_eq (x a b : Int) : impl_within.f x a b = some (inR a b x) := in_tells a b x

theorem impl_ones_ev (n : Nat) (h : n ≤ 1000) : Ev (fun k => impl_ones.f k (n : Int)) (List.replicate n 1) := by
  have hf := to_fold (L := fun i (s : List Int) k => impl_ones.l0 k s (n : Int) i) (n := n) (f := fun _ s => s ++ [1]) (fun i s => s.length = i) (fun i s hi hs => ⟨To.step fun k => ?_, by simp [hs]⟩) [] rfl
  · refine hf.1 _ (Ev.step' (f := fun _ => some (List.replicate n 1)) (fun k => ?_) (Ev.now _))
    rw [fold_rep]
    simp only [impl_ones.l0, if_neg (Int.lt_irrefl _)]
  · have c1 : (i : Int) < (n : Int) := by omega
    have c2 : s.length < 17592186044416 := by omega
    simp only [impl_ones.l0, if_pos c1, if_pos c2, wrap_succ hi (by omega : n ≤ 9223372036854775807)]

theorem alt_eq (i : Nat) : wrap64 (1 - wrap64 (2 * Int.tmod (i : Int) 2)) = altW i := by
  have h : Int.tmod (i : Int) 2 = 0 ∨ Int.tmod (i : Int) 2 = 1 := by rw [Int.tmod_eq_emod_of_nonneg (by omega)]; omega
  unfold altW
  rcases h with h | h
  · rw [h, if_neg (by omega), wrap_id (x := 2 * 0) (by omega) (by omega), wrap_id (by omega) (by omega)]; rfl
  · rw [h, if_pos rfl, wrap_id (x := 2 * 1) (by omega) (by omega), wrap_id (by omega) (by omega)]; rfl
theorem impl_ParityNet_ev (a : Int) : Ev (fun k => impl_ParityNet.f k a) (parM a) := by
  refine Ev.congr (f := fun k => if inR 1 4 a = true then impl_ParityNet.l0 k a [] a 0 [] 1 else some (0, [], false)) (fun k => by simp only [impl_ParityNet.f, impl_within_eq, Option.bind_some]) ?_
  unfold parM
  cases h : inR 1 4 a with
  | false => simp only [Bool.false_eq_true, if_false]; exact Ev.now _
  | true =>
    have := (inR_iff _ _ _).1 h
    obtain ⟨n, rfl⟩ : ∃ n : Nat, a = (n : Int) := ⟨a.toNat, by omega⟩
    simp only [if_true, Int.toNat_natCast]
    have hf := to_fold (L := fun i (s : List S33 × List Int) k => impl_ParityNet.l0 k (n : Int) s.1 (n : Int) i s.2 1) (n := n) (f := fun i s => (s.1 ++ [⟨List.replicate n 1, ((i + 1 : Nat) : Int)⟩], s.2 ++ [altW i])) (fun i s => s = (parFirst n i, parAlt i)) (fun i s hi hs => ⟨?_, by
      subst hs
      simp only [parFirst, parAlt, List.range_succ, List.map_append, List.map_cons, List.map_nil]⟩) ([], []) rfl
    · refine hf.1 _ ?_
      rw [hf.2]
      exact Ev.step' (f := fun _ => some ((n : Int), [parFirst n n, [⟨parAlt n, 1⟩]], true)) (fun k => by simp only [impl_ParityNet.l0, if_neg (Int.lt_irrefl _)]) (Ev.now _)
    · have c1 : (i : Int) < (n : Int) := by omega
      have c2 : s.1.length < 4398046511104 := by rw [hs]; simp only [parFirst, List.length_map, List.length_range]; omega
      have c3 : s.2.length < 17592186044416 := by rw [hs]; simp only [parAlt, List.length_map, List.length_range]; omega
      refine (To.step (f := fun k => (impl_ones.f k (n : Int)).bind fun t => impl_ParityNet.l0 k (n : Int) (s.1 ++ [⟨t, ((i + 1 : Nat) : Int)⟩]) (n : Int) ((i + 1 : Nat) : Int) (s.2 ++ [altW i]) 1) fun k => ?_).trans (To.bind (impl_ones_ev n (by omega)))
      simp only [impl_ParityNet.l0, if_pos c1, if_pos c2, if_pos c3, wrap_succ hi (by omega : n ≤ 9223372036854775807), alt_eq]

theorem laws_markPlaneS_ev (l : List S33) (a : Int) (h0 : 0 ≤ a) (h1 : a + sumN (fun x : S33 => x.f0.length + 1) l ≤ 1000000000000) (hl : l.length ≤ 1000000000000) : Ev (fun k => laws_markPlaneS.f k l a) (a + sumN (fun x : S33 => x.f0.length + 1) l, markL (fun x : S33 => x.f0.length + 1) markP a l) :=
  ev_mark z33 (fun x : S33 => x.f0.length + 1) markP l 1000000000000 (L := fun ys a i k => laws_markPlaneS.l0 k ys a i) (fun ys a i x hi hl hx hm ha hb r hr => by
    have hb2 : a + (x.f0.length : Int) ≤ 1000000000000 := by have : ((x.f0.length + 1 : Nat) : Int) = (x.f0.length : Int) + 1 := by omega
                                                             omega
    refine Ev.step' (f := fun k => (laws_markIntS.f k x.f0 a).bind fun b => laws_markPlaneS.l0 k (ys.set i ⟨b.2, b.1⟩) (wrap64 (b.1 + 1)) ((i + 1 : Nat) : Int)) (fun k => ?_) (Ev.bind (laws_markIntS_ev x.f0 a ha hb2) ?_)
    · have c1 : (i : Int) < (ys.length : Int) := by omega
      have c3 : 0 ≤ (i : Int) := by omega
      simp only [laws_markPlaneS.l0, if_pos c1, if_pos c3, Int.toNat_natCast, rdT33_nat, hx, wrap_succ (i := i) (n := ys.length) (by omega) (by omega)]
    · have e : wrap64 (a + (x.f0.length : Int) + 1) = a + ((x.f0.length + 1 : Nat) : Int) := by rw [wrap_id (by omega) (by omega)]; omega
      simp only [e]
      exact hr) (fun ys a hl => Ev.step' (f := fun _ => some (a, ys)) (fun k => by
    simp only [laws_markPlaneS.l0, hl, if_neg (Int.lt_irrefl _)]) (Ev.now _)) a h0 h1

theorem laws_markPlaneSS_ev (l : List (List S33)) (a : Int) (h0 : 0 ≤ a) (h1 : a + sumN wtPP l ≤ 1000000000000) (hl : l.length ≤ 1000000000000) (hi : ∀ y ∈ l, y.length ≤ 1000000000000) : Ev (fun k => laws_markPlaneSS.f k l a) (a + sumN wtPP l, markL wtPP markPP a l) :=
  ev_mark ([] : List S33) wtPP markPP l 1000000000000 (L := fun ys a i k => laws_markPlaneSS.l0 k ys a i) (fun ys a i x hi2 hl hx hm ha hb r hr => by
    refine Ev.step' (f := fun k => (laws_markPlaneS.f k x a).bind fun b => laws_markPlaneSS.l0 k (ys.set i b.2) b.1 ((i + 1 : Nat) : Int)) (fun k => ?_) (Ev.bind (laws_markPlaneS_ev x a ha hb (hi x hm)) hr)
    have c1 : (i : Int) < (ys.length : Int) := by omega
    have c3 : 0 ≤ (i : Int) := by omega
    simp only [laws_markPlaneSS.l0, if_pos c1, if_pos c3, Int.toNat_natCast, rdR_nat, hx, wrap_succ (i := i) (n := ys.length) (by omega) (by omega)]) (fun ys a hl => Ev.step' (f := fun _ => some (a, ys)) (fun k => by
    simp only [laws_markPlaneSS.l0, hl, if_neg (Int.lt_irrefl _)]) (Ev.now _)) a h0 h1

theorem laws_markNet_ev (d : Int) (l : List (List S33)) (a : Int) (h0 : 0 ≤ a) (h1 : a + sumN wtPP l ≤ 1000000000000) (hl : l.length ≤ 1000000000000) (hi : ∀ y ∈ l, y.length ≤ 1000000000000) : Ev (fun k => laws_markNet.f k d l a) (a + sumN wtPP l, markL wtPP markPP a l) := laws_markPlaneSS_ev l a h0 h1 hl hi

theorem sumN_le {α : Type} (g : α → Nat) (b : Nat) : ∀ (xs : List α), (∀ x ∈ xs, g x ≤ b) → sumN g xs ≤ xs.length * b
  | [], _ => by simp [sumN]
  | x :: xs, h => by
    have := sumN_le g b xs (fun y hy => h y (List.mem_cons_of_mem _ hy))
    have h2 := h x List.mem_cons_self
    simp only [sumN, List.length_cons, Nat.succ_mul]
    omega
theorem parM_small (a : Int) : (parM a).2.1.length ≤ 2 ∧ (∀ y ∈ (parM a).2.1, y.length ≤ 4 ∧ ∀ x ∈ y, x.f0.length ≤ 4) := by
  unfold parM
  split
  · next h =>
    have h0 := (inR_iff _ _ _).1 h
    refine ⟨Nat.le_refl _, fun y hy => ?_⟩
    have hy2 : y = parFirst a.toNat a.toNat ∨ y = [⟨parAlt a.toNat, 1⟩] := by simpa using hy
    rcases hy2 with rfl | rfl
    · refine ⟨by simp only [parFirst, List.length_map, List.length_range]; omega, fun x hx => ?_⟩
      obtain ⟨i, _, rfl⟩ := List.mem_map.1 hx
      show (List.replicate a.toNat (1 : Int)).length ≤ 4
      rw [List.length_replicate]; omega
    · refine ⟨by simp, fun x hx => ?_⟩
      have : x = ⟨parAlt a.toNat, 1⟩ := by simpa using hx
      subst this
      show (parAlt a.toNat).length ≤ 4
      simp only [parAlt, List.length_map, List.length_range]; omega
  · exact ⟨by simp, fun y hy => by simp at hy⟩
theorem pure : SFnExactParityNet.Pure := by
  intro a _
  obtain ⟨h1, h2⟩ := parM_small a
  have hw : ∀ y ∈ (parM a).2.1, wtPP y ≤ 20 := fun y hy => by
    have := sumN_le (fun x : S33 => x.f0.length + 1) 5 y (fun x hx => by have := (h2 y hy).2 x hx; omega)
    have := (h2 y hy).1
    unfold wtPP
    omega
  have h3 := sumN_le wtPP 20 _ hw
  obtain ⟨K1, k1⟩ := laws_eqNet_ev (parM a).1 (parM a).2.1 (by unfold maxLen; omega) (fun x hx => ⟨by have := (h2 x hx).1; unfold maxLen; omega, fun y hy => by have := (h2 x hx).2 y hy; unfold maxLen; omega⟩)
  obtain ⟨K2, k2⟩ := laws_markNet_ev (parM a).1 (parM a).2.1 1 (by omega) (by omega) (by omega) (fun y hy => by have := (h2 y hy).1; omega)
  obtain ⟨K3, k3⟩ := laws_heldNet_ev (parM a).1 (parM a).2.1 1 (by omega) (by omega) (by omega) (fun y hy => by have := (h2 y hy).1; omega)
  obtain ⟨K4, k4⟩ := spec_ParityNet_ev a
  obtain ⟨K5, k5⟩ := impl_ParityNet_ev a
  let K := K1 + K2 + K3 + K4 + K5
  exact ⟨K, (parM a).1, (parM a).2.1, (parM a).2.2, _, _, k4 K (by omega), k5 K (by omega), k1 K (by omega), k2 K (by omega), k3 K (by omega), by omega⟩
end Go.Proofs.Ytihnijfgdffhjaa.QFnExactParityNet
