/- FnExactMajorityNet: what its calls come to, shown of numbers and lists alone. -/
import Derived.Test.YtihnijfgdffhjaaSFnExactMajorityNet
import Derived.Test.YtihnijfgdffhjaaPm
namespace Go.Proofs.Ytihnijfgdffhjaa.QFnExactMajorityNet
open Go.RowKit Go.Proofs.Ytihnijfgdffhjaa.KFnExactMajorityNet Go.Proofs.Ytihnijfgdffhjaa.Lb Go.Proofs.Ytihnijfgdffhjaa.Pm Go.Proofs.Ytihnijfgdffhjaa.PFnExactMajorityNet Go.Proofs.YtihnijfgdffhjaaW.PrintWords Go.Proofs.YtihnijfgdffhjaaW.PrintLast Go.Proofs.YtihnijfgdffhjaaW.PrintMore
set_option linter.unusedVariables false
set_option linter.unusedSimpArgs false
theorem rdL1_nat (xs : List (List Int)) (i : Nat) : rd_L1 xs (i : Int) = xs.getD i [] := by simp [rd_L1]

theorem rdL3_nat (xs : List (List S33)) (i : Nat) : rd_L3 xs (i : Int) = xs.getD i [] := by simp [rd_L3]

theorem rdT33_nat (xs : List S33) (i : Nat) : rd_T33 xs (i : Int) = xs.getD i z33 := by simp [rd_T33]

def markP (a : Int) (x : S33) : S33 := ⟨iota a x.f0, a + x.f0.length⟩
def wtPP (y : List S33) : Nat := sumN (fun x : S33 => x.f0.length + 1) y
def markPP (a : Int) (y : List S33) : List S33 := markL (fun x : S33 => x.f0.length + 1) markP a y

theorem laws_eqIntS_ev (l : List Int) (h : l.length ≤ maxLen) : Ev (fun k => laws_eqIntS.f k l l) true := by
  unfold maxLen at h
  refine Ev.congr (f := fun k => laws_eqIntS.l0 k l l 0) (fun k => by simp only [laws_eqIntS.f, if_true]) ?_
  refine ev_yes (L := fun i k => laws_eqIntS.l0 k l l i) (n := l.length) (fun i hi => To.step fun k => ?_) (Ev.step' (f := fun _ => some true) (fun k => ?_) (Ev.now _))
  · have c1 : (i : Int) < (l.length : Int) := by omega
    have c0 : 0 ≤ (i : Int) := by omega
    simp only [laws_eqIntS.l0, if_pos c1, if_pos c0, if_true, wrap_succ hi h]
  · simp only [laws_eqIntS.l0, if_neg (Int.lt_irrefl _)]

theorem laws_eqPlane_ev (l : List Int) (b : Int) (h : l.length ≤ maxLen) : Ev (fun k => laws_eqPlane.f k l b l b) true := Ev.bind (laws_eqIntS_ev l h) (Ev.congr (f := fun _ => some true) (fun k => by simp only [if_true]) (Ev.now _))

theorem laws_eqPlaneS_ev (l : List S33) (h : l.length ≤ maxLen) (hi : ∀ x ∈ l, x.f0.length ≤ maxLen) : Ev (fun k => laws_eqPlaneS.f k l l) true := by
  have h' : l.length ≤ 9223372036854775807 := h
  refine Ev.congr (f := fun k => laws_eqPlaneS.l0 k l l 0) (fun k => by simp only [laws_eqPlaneS.f, if_true]) ?_
  refine ev_yes (L := fun i k => laws_eqPlaneS.l0 k l l i) (n := l.length) (fun i hi2 => ?_) (Ev.step' (f := fun _ => some true) (fun k => ?_) (Ev.now _))
  · have c1 : (i : Int) < (l.length : Int) := by omega
    have c0 : 0 ≤ (i : Int) := by omega
    refine (To.step (f := fun k => (laws_eqPlane.f k (l.getD i z33).f0 (l.getD i z33).f1 (l.getD i z33).f0 (l.getD i z33).f1).bind fun t => if t = true then laws_eqPlaneS.l0 k l l ((i + 1 : Nat) : Int) else some false) (fun k => ?_)).trans ((To.bind (laws_eqPlane_ev _ _ (hi _ (getD_mem hi2 z33)))).trans (To.congr fun k => by simp only [if_true]))
    simp only [laws_eqPlaneS.l0, if_pos c1, if_pos c0, rdT33_nat, wrap_succ hi2 h']
  · simp only [laws_eqPlaneS.l0, if_neg (Int.lt_irrefl _)]

theorem laws_eqPlaneSS_ev (l : List (List S33)) (h : l.length ≤ maxLen) (hi : ∀ x ∈ l, x.length ≤ maxLen ∧ ∀ y ∈ x, y.f0.length ≤ maxLen) : Ev (fun k => laws_eqPlaneSS.f k l l) true := by
  have h' : l.length ≤ 9223372036854775807 := h
  refine Ev.congr (f := fun k => laws_eqPlaneSS.l0 k l l 0) (fun k => by simp only [laws_eqPlaneSS.f, if_true]) ?_
  refine ev_yes (L := fun i k => laws_eqPlaneSS.l0 k l l i) (n := l.length) (fun i hi2 => ?_) (Ev.step' (f := fun _ => some true) (fun k => ?_) (Ev.now _))
  · have c1 : (i : Int) < (l.length : Int) := by omega
    have c0 : 0 ≤ (i : Int) := by omega
    have hm := hi _ (getD_mem hi2 [])
    refine (To.step (f := fun k => (laws_eqPlaneS.f k (l.getD i []) (l.getD i [])).bind fun t => if t = true then laws_eqPlaneSS.l0 k l l ((i + 1 : Nat) : Int) else some false) (fun k => ?_)).trans ((To.bind (laws_eqPlaneS_ev _ hm.1 hm.2)).trans (To.congr fun k => by simp only [if_true]))
    simp only [laws_eqPlaneSS.l0, if_pos c1, if_pos c0, rdL3_nat, wrap_succ hi2 h']
  · simp only [laws_eqPlaneSS.l0, if_neg (Int.lt_irrefl _)]

theorem laws_eqNet_ev (d : Int) (l : List (List S33)) (h : l.length ≤ maxLen) (hi : ∀ x ∈ l, x.length ≤ maxLen ∧ ∀ y ∈ x, y.f0.length ≤ maxLen) : Ev (fun k => laws_eqNet.f k d l d l) true := by
  refine Ev.congr (f := fun k => (laws_eqPlaneSS.f k l l).bind fun t => if t = true then some true else some false) (fun k => by simp only [laws_eqNet.f, if_true]) ?_
  exact Ev.bind (laws_eqPlaneSS_ev l h hi) (Ev.congr (f := fun _ => some true) (fun k => by simp only [if_true]) (Ev.now _))

theorem laws_markIntS_ev (l : List Int) (a : Int) (h0 : 0 ≤ a) (h1 : a + l.length ≤ 1000000000000) : Ev (fun k => laws_markIntS.f k l a) (a + l.length, iota a l) := by
  have e := ev_mark (0 : Int) (fun _ => 1) (fun a _ => a) l 1000000000000 (L := fun ys a i k => laws_markIntS.l0 k ys a i) (fun ys a i x hi hl hx hm ha hb => To.step fun k => by
    have c1 : (i : Int) < (ys.length : Int) := by omega
    have c3 : 0 ≤ (i : Int) := by omega
    have e : wrap64 (a + 1) = a + ((1 : Nat) : Int) := wrap_id (by omega) (by simpa using (by omega : a + 1 ≤ 9223372036854775807))
    simp only [laws_markIntS.l0, if_pos c1, if_pos c3, Int.toNat_natCast, wrap_succ (i := i) (n := ys.length) (by omega) (by omega), e]) (fun ys a hl => Ev.step' (f := fun _ => some (a, ys)) (fun k => by
    simp only [laws_markIntS.l0, hl, if_neg (Int.lt_irrefl _)]) (Ev.now _)) a h0 (by rw [sumN_one]; exact h1)
  rw [sumN_one] at e
  exact e

theorem laws_heldIntS_ev (l : List Int) (a : Int) (h0 : 0 ≤ a) (h1 : a + l.length ≤ 1000000000000) : Ev (fun k => laws_heldIntS.f k (iota a l) a) (a + l.length) := by
  have e := ev_held (0 : Int) (fun _ => 1) (fun a _ => a) l 1000000000000 (L := fun b i k => laws_heldIntS.l0 k (iota a l) b i) a (fun b i x hi hx hm ha hb => To.step fun k => by
    have c1 : (i : Int) < ((iota a l).length : Int) := by rw [iota_len]; omega
    have c3 : 0 ≤ (i : Int) := by omega
    have c4 : (iota a l).getD i 0 = b := hx
    have e : wrap64 (b + 1) = b + ((1 : Nat) : Int) := wrap_id (by omega) (by simpa using (by omega : b + 1 ≤ 9223372036854775807))
    simp only [laws_heldIntS.l0, if_pos c1, if_pos c3, rd_nat, if_pos c4, wrap_succ (i := i) (n := l.length) hi (by omega), e]) (fun b => Ev.step' (f := fun _ => some b) (fun k => by
    simp only [laws_heldIntS.l0, iota_len, if_neg (Int.lt_irrefl _)]) (Ev.now _)) h0 (by rw [sumN_one]; exact h1)
  rw [sumN_one] at e
  exact e

theorem laws_heldPlaneS_ev (l : List S33) (a : Int) (h0 : 0 ≤ a) (h1 : a + sumN (fun x : S33 => x.f0.length + 1) l ≤ 1000000000000) (hl : l.length ≤ 1000000000000) : Ev (fun k => laws_heldPlaneS.f k (markL (fun x : S33 => x.f0.length + 1) markP a l) a) (a + sumN (fun x : S33 => x.f0.length + 1) l) := by
  have hlen : (markL (fun x : S33 => x.f0.length + 1) markP a l).length = l.length := markL_len _ _ _ _
  refine ev_held z33 (fun x : S33 => x.f0.length + 1) markP l 1000000000000 (L := fun b i k => laws_heldPlaneS.l0 k (markL (fun x : S33 => x.f0.length + 1) markP a l) b i) a (fun b i x hi hx hm ha hb r hr => ?_) (fun b => Ev.step' (f := fun _ => some b) (fun k => by simp only [laws_heldPlaneS.l0, hlen, if_neg (Int.lt_irrefl _)]) (Ev.now _)) h0 h1
  have hb2 : b + (x.f0.length : Int) ≤ 1000000000000 := by have : ((x.f0.length + 1 : Nat) : Int) = (x.f0.length : Int) + 1 := by omega
                                                           omega
  have c1 : (i : Int) < ((markL (fun x : S33 => x.f0.length + 1) markP a l).length : Int) := by rw [hlen]; omega
  have c3 : 0 ≤ (i : Int) := by omega
  refine Ev.step' (f := fun k => (laws_heldIntS.f k (iota b x.f0) b).bind fun t => if t < 0 then some (-1) else if b + (x.f0.length : Int) = t then laws_heldPlaneS.l0 k (markL (fun x : S33 => x.f0.length + 1) markP a l) (wrap64 (t + 1)) ((i + 1 : Nat) : Int) else some (-1)) (fun k => by
    simp only [laws_heldPlaneS.l0, if_pos c1, if_pos c3, rdT33_nat, hx, wrap_succ hi (by omega : l.length ≤ 9223372036854775807)]
    rfl) (Ev.bind (laws_heldIntS_ev x.f0 b ha hb2) ?_)
  have e : wrap64 (b + (x.f0.length : Int) + 1) = b + ((x.f0.length + 1 : Nat) : Int) := by rw [wrap_id (by omega) (by omega)]; omega
  simp only [if_neg (show ¬ b + (x.f0.length : Int) < 0 by omega), if_true, e]
  exact hr

theorem laws_heldPlaneSS_ev (l : List (List S33)) (a : Int) (h0 : 0 ≤ a) (h1 : a + sumN wtPP l ≤ 1000000000000) (hl : l.length ≤ 1000000000000) (hi : ∀ y ∈ l, y.length ≤ 1000000000000) : Ev (fun k => laws_heldPlaneSS.f k (markL wtPP markPP a l) a) (a + sumN wtPP l) := by
  have hlen : (markL wtPP markPP a l).length = l.length := markL_len _ _ _ _
  refine ev_held ([] : List S33) wtPP markPP l 1000000000000 (L := fun b i k => laws_heldPlaneSS.l0 k (markL wtPP markPP a l) b i) a (fun b i x hi2 hx hm ha hb r hr => ?_) (fun b => Ev.step' (f := fun _ => some b) (fun k => by simp only [laws_heldPlaneSS.l0, hlen, if_neg (Int.lt_irrefl _)]) (Ev.now _)) h0 h1
  have c1 : (i : Int) < ((markL wtPP markPP a l).length : Int) := by rw [hlen]; omega
  have c3 : 0 ≤ (i : Int) := by omega
  refine Ev.step' (f := fun k => (laws_heldPlaneS.f k (markPP b x) b).bind fun t => if t < 0 then some (-1) else laws_heldPlaneSS.l0 k (markL wtPP markPP a l) t ((i + 1 : Nat) : Int)) (fun k => by
    simp only [laws_heldPlaneSS.l0, if_pos c1, if_pos c3, rdL3_nat, hx, wrap_succ hi2 (by omega : l.length ≤ 9223372036854775807)]) (Ev.bind (laws_heldPlaneS_ev x b ha hb (hi x hm)) ?_)
  simp only [if_neg (show ¬ b + ((sumN (fun x : S33 => x.f0.length + 1) x : Nat) : Int) < 0 by omega)]
  exact hr

theorem laws_heldNet_ev (d : Int) (l : List (List S33)) (a : Int) (h0 : 0 ≤ a) (h1 : a + sumN wtPP l ≤ 1000000000000) (hl : l.length ≤ 1000000000000) (hi : ∀ y ∈ l, y.length ≤ 1000000000000) : Ev (fun k => laws_heldNet.f k d (markL wtPP markPP a l) a) (a + sumN wtPP l) := by
  refine Ev.bind (laws_heldPlaneSS_ev l a h0 h1 hl hi) ?_
  simp only [if_neg (show ¬ a + ((sumN wtPP l : Nat) : Int) < 0 by omega)]
  exact Ev.now _

theorem spec_l1In_eq (x a b : Int) : spec_l1In.f x a b = some (inR a b x) := in_tells a b x

theorem fold_rep {α : Type} (x : α) (n : Nat) : (List.range n).foldl (fun s _ => s ++ [x]) [] = List.replicate n x := by
  rw [fold_append, List.nil_append, map_const]
theorem spec_l9Even_no (n : Nat) (h : n ≤ 1000) : Ev (fun k => spec_l9Even.f k (n : Int) false) (List.replicate n 1) := by
  have hf := to_fold (L := fun i (s : List Int) k => spec_l9Even.l0 k (n : Int) false s i) (n := n) (f := fun _ s => s ++ [1]) (fun i s => s.length = i) (fun i s hi hs => ⟨To.step fun k => ?_, by simp [hs]⟩) [] rfl
  · refine hf.1 _ (Ev.step' (f := fun _ => some (List.replicate n 1)) (fun k => ?_) (Ev.now _))
    rw [fold_rep]
    simp only [spec_l9Even.l0, if_neg (Int.lt_irrefl _)]
  · have c1 : (i : Int) < (n : Int) := by omega
    have c2 : s.length < 17592186044416 := by omega
    simp only [spec_l9Even.l0, if_pos c1, Bool.false_eq_true, if_false, if_pos c2, wrap_succ hi (by omega : n ≤ 9223372036854775807)]

def majNetM (a : Int) : Int × List (List S33) × Bool := if inR 1 4 a = true then (a, [[⟨List.replicate a.toNat 1, wrap64 (wrap64 (Int.tdiv a 2) + 1)⟩]], true) else (0, [], false)
theorem spec_MajorityNet_ev (a : Int) : Ev (fun k => spec_MajorityNet.f k a) (majNetM a) := by
  refine Ev.congr (f := fun k => if inR 1 4 a = true then (spec_l9Even.f k a false).bind fun t => some (a, [[⟨t, wrap64 (wrap64 (Int.tdiv a 2) + 1)⟩]], true) else some (0, [], false)) (fun k => by simp only [spec_MajorityNet.f, spec_l1In_eq, Option.bind_some]) ?_
  unfold majNetM
  cases h : inR 1 4 a with
  | false => simp only [Bool.false_eq_true, if_false]; exact Ev.now _
  | true =>
    have := (inR_iff _ _ _).1 h
    obtain ⟨n, rfl⟩ : ∃ n : Nat, a = (n : Int) := ⟨a.toNat, by omega⟩
    simp only [if_true, Int.toNat_natCast]
    exact Ev.bind (spec_l9Even_no n (by omega)) (Ev.now _)

theorem impl_within_eq (x a b : Int) : impl_within.f x a b = some (inR a b x) := in_tells a b x

theorem impl_ones_ev (n : Nat) (h : n ≤ 1000) : Ev (fun k => impl_ones.f k (n : Int)) (List.replicate n 1) := by
  have hf := to_fold (L := fun i (s : List Int) k => impl_ones.l0 k s (n : Int) i) (n := n) (f := fun _ s => s ++ [1]) (fun i s => s.length = i) (fun i s hi hs => ⟨To.step fun k => ?_, by simp [hs]⟩) [] rfl
  · refine hf.1 _ (Ev.step' (f := fun _ => some (List.replicate n 1)) (fun k => ?_) (Ev.now _))
    rw [fold_rep]
    simp only [impl_ones.l0, if_neg (Int.lt_irrefl _)]
  · have c1 : (i : Int) < (n : Int) := by omega
    have c2 : s.length < 17592186044416 := by omega
    simp only [impl_ones.l0, if_pos c1, if_pos c2, wrap_succ hi (by omega : n ≤ 9223372036854775807)]

theorem impl_MajorityNet_ev (a : Int) : Ev (fun k => impl_MajorityNet.f k a) (majNetM a) := by
  refine Ev.congr (f := fun k => if inR 1 4 a = true then (impl_ones.f k a).bind fun t => some (a, [[⟨t, wrap64 (wrap64 (Int.tdiv a 2) + 1)⟩]], true) else some (0, [], false)) (fun k => by simp only [impl_MajorityNet.f, impl_within_eq, Option.bind_some]) ?_
  unfold majNetM
  cases h : inR 1 4 a with
  | false => simp only [Bool.false_eq_true, if_false]; exact Ev.now _
  | true =>
    have := (inR_iff _ _ _).1 h
    obtain ⟨n, rfl⟩ : ∃ n : Nat, a = (n : Int) := ⟨a.toNat, by omega⟩
    simp only [if_true, Int.toNat_natCast]
    exact Ev.bind (impl_ones_ev n (by omega)) (Ev.now _)

theorem laws_markPlaneS_ev (l : List S33) (a : Int) (h0 : 0 ≤ a) (h1 : a + sumN (fun x : S33 => x.f0.length + 1) l ≤ 1000000000000) (hl : l.length ≤ 1000000000000) : Ev (fun k => laws_markPlaneS.f k l a) (a + sumN (fun x : S33 => x.f0.length + 1) l, markL (fun x : S33 => x.f0.length + 1) markP a l) :=
  ev_mark z33 (fun x : S33 => x.f0.length + 1) markP l 1000000000000 (L := fun ys a i k => laws_markPlaneS.l0 k ys a i) (fun ys a i x hi hl hx hm ha hb r hr => by
    have hb2 : a + (x.f0.length : Int) ≤ 1000000000000 := by have : ((x.f0.length + 1 : Nat) : Int) = (x.f0.length : Int) + 1 := by omega
                                                             omega
    refine Ev.step' (f := fun k => (laws_markIntS.f k x.f0 a).bind fun b => laws_markPlaneS.l0 k (ys.set i ⟨b.2, b.1⟩) (wrap64 (b.1 + 1)) ((i + 1 : Nat) : Int)) (fun k => ?_) (Ev.bind (laws_markIntS_ev x.f0 a ha hb2) ?_)
    · have c1 : (i : Int) < (ys.length : Int) := by omega
      have c3 : 0 ≤ (i : Int) := by omega
      simp only [laws_markPlaneS.l0, if_pos c1, if_pos c3, Int.toNat_natCast, rdT33_nat, hx, wrap_succ (i := i) (n := ys.length) (by omega) (by omega)]
    · have e : wrap64 (a + (x.f0.length : Int) + 1) = a + ((x.f0.length + 1 : Nat) : Int) := by rw [wrap_id (by omega) (by omega)]; omega
      simp only [e]
      exact hr) (fun ys a hl => Ev.step' (f := fun _ => some (a, ys)) (fun k => by
    simp only [laws_markPlaneS.l0, hl, if_neg (Int.lt_irrefl _)]) (Ev.now _)) a h0 h1

theorem laws_markPlaneSS_ev (l : List (List S33)) (a : Int) (h0 : 0 ≤ a) (h1 : a + sumN wtPP l ≤ 1000000000000) (hl : l.length ≤ 1000000000000) (hi : ∀ y ∈ l, y.length ≤ 1000000000000) : Ev (fun k => laws_markPlaneSS.f k l a) (a + sumN wtPP l, markL wtPP markPP a l) :=
  ev_mark ([] : List S33) wtPP markPP l 1000000000000 (L := fun ys a i k => laws_markPlaneSS.l0 k ys a i) (fun ys a i x hi2 hl hx hm ha hb r hr => by
    refine Ev.step' (f := fun k => (laws_markPlaneS.f k x a).bind fun b => laws_markPlaneSS.l0 k (ys.set i b.2) b.1 ((i + 1 : Nat) : Int)) (fun k => ?_) (Ev.bind (laws_markPlaneS_ev x a ha hb (hi x hm)) hr)
    have c1 : (i : Int) < (ys.length : Int) := by omega
    have c3 : 0 ≤ (i : Int) := by omega
    simp only [laws_markPlaneSS.l0, if_pos c1, if_pos c3, Int.toNat_natCast, rdR_nat, hx, wrap_succ (i := i) (n := ys.length) (by omega) (by omega)]) (fun ys a hl => Ev.step' (f := fun _ => some (a, ys)) (fun k => by
    simp only [laws_markPlaneSS.l0, hl, if_neg (Int.lt_irrefl _)]) (Ev.now _)) a h0 h1

theorem laws_markNet_ev (d : Int) (l : List (List S33)) (a : Int) (h0 : 0 ≤ a) (h1 : a + sumN wtPP l ≤ 1000000000000) (hl : l.length ≤ 1000000000000) (hi : ∀ y ∈ l, y.length ≤ 1000000000000) : Ev (fun k => laws_markNet.f k d l a) (a + sumN wtPP l, markL wtPP markPP a l) := laws_markPlaneSS_ev l a h0 h1 hl hi

theorem majNetM_small (a : Int) : (majNetM a).2.1.length ≤ 1 ∧ (∀ y ∈ (majNetM a).2.1, y.length ≤ 1 ∧ ∀ x ∈ y, x.f0.length ≤ 4) ∧ sumN wtPP (majNetM a).2.1 ≤ 5 := by
  unfold majNetM
  split
  · next h =>
    have h0 := (inR_iff _ _ _).1 h
    have h4 : (List.replicate a.toNat (1 : Int)).length ≤ 4 := by rw [List.length_replicate]; omega
    refine ⟨Nat.le_refl _, fun y hy => ?_, ?_⟩
    · have : y = [⟨List.replicate a.toNat 1, wrap64 (wrap64 (Int.tdiv a 2) + 1)⟩] := by simpa using hy
      subst this
      refine ⟨Nat.le_refl _, fun x hx => ?_⟩
      have : x = ⟨List.replicate a.toNat 1, wrap64 (wrap64 (Int.tdiv a 2) + 1)⟩ := by simpa using hx
      subst this
      exact h4
    · simp only [sumN, wtPP]
      omega
  · exact ⟨by simp, fun y hy => by simp at hy, by simp [sumN]⟩
theorem pure : SFnExactMajorityNet.Pure := by
  intro a _
  obtain ⟨h1, h2, h3⟩ := majNetM_small a
  obtain ⟨K1, k1⟩ := laws_eqNet_ev (majNetM a).1 (majNetM a).2.1 (by unfold maxLen; omega) (fun x hx => ⟨by have := (h2 x hx).1; unfold maxLen; omega, fun y hy => by have := (h2 x hx).2 y hy; unfold maxLen; omega⟩)
  obtain ⟨K2, k2⟩ := laws_markNet_ev (majNetM a).1 (majNetM a).2.1 1 (by omega) (by omega) (by omega) (fun y hy => by have := (h2 y hy).1; omega)
  obtain ⟨K3, k3⟩ := laws_heldNet_ev (majNetM a).1 (majNetM a).2.1 1 (by omega) (by omega) (by omega) (fun y hy => by have := (h2 y hy).1; omega)
  obtain ⟨K4, k4⟩ := spec_MajorityNet_ev a
  obtain ⟨K5, k5⟩ := impl_MajorityNet_ev a
  let K := K1 + K2 + K3 + K4 + K5
  exact ⟨K, (majNetM a).1, (majNetM a).2.1, (majNetM a).2.2, _, _, k4 K (by omega), k5 K (by omega), k1 K (by omega), k2 K (by omega), k3 K (by omega), by omega⟩
end Go.Proofs.Ytihnijfgdffhjaa.QFnExactMajorityNet
