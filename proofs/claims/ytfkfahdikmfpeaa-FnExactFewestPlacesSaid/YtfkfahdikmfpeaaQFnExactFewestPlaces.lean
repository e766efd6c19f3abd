/- FnExactFewestPlaces: what its calls come to, shown of numbers and lists alone. -/
import Derived.Test.YtfkfahdikmfpeaaSFnExactFewestPlaces
import Derived.Test.YtfkfahdikmfpeaaPm
namespace Go.Proofs.Ytfkfahdikmfpeaa.QFnExactFewestPlaces
open Go.RowKit Go.Proofs.Ytfkfahdikmfpeaa.KFnExactFewestPlaces Go.Proofs.Ytfkfahdikmfpeaa.Lb Go.Proofs.Ytfkfahdikmfpeaa.Pm Go.Proofs.Ytfkfahdikmfpeaa.PFnExactFewestPlaces Go.Proofs.YtfkfahdikmfpeaaW.PrintWords Go.Proofs.YtfkfahdikmfpeaaW.PrintLast Go.Proofs.YtfkfahdikmfpeaaW.PrintMore
set_option linter.unusedVariables false
set_option linter.unusedSimpArgs false
theorem rdL1_nat (xs : List (List Int)) (i : Nat) : rd_L1 xs (i : Int) = xs.getD i [] := by simp [rd_L1]

theorem rdL2_nat (xs : List (List (List Int))) (i : Nat) : rd_L2 xs (i : Int) = xs.getD i [] := by simp [rd_L2]

theorem rdT52_nat (xs : List S52) (i : Nat) : rd_T52 xs (i : Int) = xs.getD i z52 := by simp [rd_T52]

theorem laws_eqIntS_ev (l : List Int) (h : l.length ≤ maxLen) : Ev (fun k => laws_eqIntS.f k l l) true := by
  unfold maxLen at h
  refine Ev.congr (f := fun k => laws_eqIntS.l0 k l l 0) (fun k => by simp only [laws_eqIntS.f, if_true]) ?_
  refine ev_yes (L := fun i k => laws_eqIntS.l0 k l l i) (n := l.length) (fun i hi => To.step fun k => ?_) (Ev.step' (f := fun _ => some true) (fun k => ?_) (Ev.now _))
  · have c1 : (i : Int) < (l.length : Int) := by omega
    have c0 : 0 ≤ (i : Int) := by omega
    simp only [laws_eqIntS.l0, if_pos c1, if_pos c0, if_true, wrap_succ hi h]
  · simp only [laws_eqIntS.l0, if_neg (Int.lt_irrefl _)]

theorem laws_markIntS_ev (l : List Int) (a : Int) (h0 : 0 ≤ a) (h1 : a + l.length ≤ 1000000000000) : Ev (fun k => laws_markIntS.f k l a) (a + l.length, iota a l) := by
  have e := ev_mark (0 : Int) (fun _ => 1) (fun a _ => a) l 1000000000000 (L := fun ys a i k => laws_markIntS.l0 k ys a i) (fun ys a i x hi hl hx hm ha hb => To.step fun k => by
    have c1 : (i : Int) < (ys.length : Int) := by omega
    have c3 : 0 ≤ (i : Int) := by omega
    have e : wrap64 (a + 1) = a + ((1 : Nat) : Int) := wrap_id (by omega) (by simpa using (by omega : a + 1 ≤ 9223372036854775807))
    simp only [laws_markIntS.l0, if_pos c1, if_pos c3, Int.toNat_natCast, wrap_succ (i := i) (n := ys.length) (by omega) (by omega), e]) (fun ys a hl => Ev.step' (f := fun _ => some (a, ys)) (fun k => by
    simp only [laws_markIntS.l0, hl, if_neg (Int.lt_irrefl _)]) (Ev.now _)) a h0 (by rw [sumN_one]; exact h1)
  rw [sumN_one] at e
  exact e

theorem laws_szIntS_eq (l : List Int) (a : Int) (h : l.length ≤ maxLen) (h0 : 0 ≤ a) (h1 : a ≤ 1048576) : laws_szIntS.f l a = some (lft a l.length) := by
  unfold maxLen at h
  have hw : wrap64 (a - (l.length : Int)) = a - l.length := wrap_id (by omega) (by omega)
  unfold laws_szIntS.f lft
  rw [hw]
  by_cases c : (l.length : Int) ≤ a
  · rw [if_neg (by omega), if_pos c]
  · rw [if_pos (by omega), if_neg c]

theorem laws_szIntSS_ev (l : List (List Int)) (a : Int) (h : l.length ≤ maxLen) (hi : ∀ x ∈ l, x.length ≤ maxLen) (h0 : 0 ≤ a) (h1 : a ≤ 1048576) : Ev (fun k => laws_szIntSS.f k l a) (lft a (sz2 l)) := by
  have h' : l.length ≤ 9223372036854775807 := h
  unfold sz2 laws_szIntSS.f
  rw [← lft_add a _ _ h0]
  have hw : wrap64 (a - (l.length : Int)) = a - l.length := wrap_id (by omega) (by omega)
  rw [hw]
  by_cases c : (l.length : Int) ≤ a
  · have e : lft a l.length = a - l.length := by unfold lft; rw [if_pos c]
    rw [e]
    simp only [if_neg (show ¬ a - (l.length : Int) < 0 by omega)]
    refine ev_sz [] List.length l (L := fun a i k => laws_szIntSS.l0 k l a i) (fun i a hi2 h0 h1 hn => ?_) (fun i a hi2 h0 h1 hn => ?_) (fun a => Ev.step' (f := fun _ => some a) (fun k => by simp only [laws_szIntSS.l0, if_neg (Int.lt_irrefl _)]) (Ev.now _)) _ (by omega) (by omega)
    · have c1 : (i : Int) < (l.length : Int) := by omega
      have c0 : 0 ≤ (i : Int) := by omega
      refine To.step (fun k => ?_)
      simp only [laws_szIntSS.l0, if_pos c1, if_pos c0, rdL1_nat, laws_szIntS_eq _ a (hi _ (getD_mem hi2 [])) h0 h1, Option.bind_some, if_neg (show ¬ lft a (l.getD i []).length < 0 by omega), wrap_succ hi2 h']
    · have c1 : (i : Int) < (l.length : Int) := by omega
      have c0 : 0 ≤ (i : Int) := by omega
      refine Ev.step' (f := fun _ => some (-1)) (fun k => ?_) (Ev.now _)
      simp only [laws_szIntSS.l0, if_pos c1, if_pos c0, rdL1_nat, laws_szIntS_eq _ a (hi _ (getD_mem hi2 [])) h0 h1, Option.bind_some, if_pos hn]
  · have e : lft a l.length = -1 := by unfold lft; rw [if_neg c]
    rw [e]
    simp only [if_pos (show a - (l.length : Int) < 0 by omega), if_pos (show (-1 : Int) < 0 by omega)]
    exact Ev.now _

theorem laws_szSample_ev (P : List (List Int)) (L : List Int) (a : Int) (h : P.length ≤ maxLen) (hi : ∀ x ∈ P, x.length ≤ maxLen) (hL : L.length ≤ maxLen) (h0 : 0 ≤ a) (h1 : a ≤ 1048576) : Ev (fun k => laws_szSample.f k P L a) (lft a (sz2 P + L.length)) := by
  have hle := lft_le a (sz2 P) h0
  refine Ev.bind (laws_szIntSS_ev P a h hi h0 h1) ?_
  rw [← lft_add a _ _ h0]
  by_cases c : lft a (sz2 P) < 0
  · simp only [if_pos c]; exact Ev.now _
  · simp only [if_neg c, laws_szIntS_eq L _ hL (show 0 ≤ lft a (sz2 P) by omega) (show lft a (sz2 P) ≤ 1048576 by omega), Option.bind_some]
    by_cases c2 : lft (lft a (sz2 P)) L.length < 0
    · simp only [if_pos c2, lft_neg c2]; exact Ev.now _
    · simp only [if_neg c2]; exact Ev.now _

theorem spec_l2Labels_ev (l : List Int) (h : l.length ≤ maxLen) : Ev (fun k => spec_l2Labels.f k l) (l.all isLab) := by
  have h' : l.length ≤ 9223372036854775807 := h
  refine ev_list 0 l (fun i (_ : Unit) k => spec_l2Labels.l0 k l i) (fun _ ys _ => ys.all isLab) (fun _ _ => True) (fun _ _ => ?_) (fun i x ys _ hi hx hm _ ih => ?_) () trivial
  · exact Ev.step' (f := fun _ => some true) (fun k => by simp only [spec_l2Labels.l0, if_neg (Int.lt_irrefl _)]) (Ev.now _)
  · have c1 : (i : Int) < (l.length : Int) := by omega
    have c0 : 0 ≤ (i : Int) := by omega
    have ih := ih () trivial
    simp only [List.all_cons]
    unfold isLab at ih ⊢
    by_cases e1 : x = 1
    · rw [show (decide (x = 1) || decide (x = -1)) = true by simp [e1], Bool.true_and]
      exact Ev.step' (fun k => by simp only [spec_l2Labels.l0, if_pos c1, if_pos c0, rd_nat, hx, if_pos e1, wrap_succ hi h']) ih
    · by_cases e2 : x = -1
      · rw [show (decide (x = 1) || decide (x = -1)) = true by simp [e2], Bool.true_and]
        exact Ev.step' (fun k => by simp only [spec_l2Labels.l0, if_pos c1, if_pos c0, rd_nat, hx, if_neg e1, if_pos e2, wrap_succ hi h']) ih
      · rw [show (decide (x = 1) || decide (x = -1)) = false by simp [e1, e2], Bool.false_and]
        exact Ev.step' (f := fun _ => some false) (fun k => by simp only [spec_l2Labels.l0, if_pos c1, if_pos c0, rd_nat, hx, if_neg e1, if_neg e2]) (Ev.now _)

theorem spec_l1In_eq (x a b : Int) : spec_l1In.f x a b = some (inR a b x) := in_tells a b x

theorem spec_l2Numbers_ev (l : List Int) (m : Int) (h : l.length ≤ maxLen) : Ev (fun k => spec_l2Numbers.f k l m) (l.all (inR (wrap64 (-m)) m)) := by
  unfold maxLen at h
  rw [← range_all l (inR (wrap64 (-m)) m) 0]
  refine ev_all (L := fun i k => spec_l2Numbers.l0 k l m i) (fun i hi hp => To.step fun k => ?_) (fun i hi hp => Ev.step' (f := fun _ => some false) (fun k => ?_) (Ev.now _)) (Ev.step' (f := fun _ => some true) (fun k => ?_) (Ev.now _))
  · have c1 : (i : Int) < (l.length : Int) := by omega
    have c0 : 0 ≤ (i : Int) := by omega
    simp only [spec_l2Numbers.l0, if_pos c1, if_pos c0, spec_l1In_eq, rd_nat, hp, Option.bind_some, if_true, wrap_succ hi h]
  · have c1 : (i : Int) < (l.length : Int) := by omega
    have c0 : 0 ≤ (i : Int) := by omega
    simp only [spec_l2Numbers.l0, if_pos c1, if_pos c0, spec_l1In_eq, rd_nat, hp, Option.bind_some, Bool.false_eq_true, if_false]
  · simp only [spec_l2Numbers.l0, if_neg (Int.lt_irrefl _)]

theorem spec_l2Point_ev (l : List Int) (h : l.length ≤ maxLen) : Ev (fun k => spec_l2Point.f k l) (pointB l) := by
  have e : ∀ k, spec_l2Point.f k l = if inR 1 4 l.length = true then (spec_l2Numbers.f k l 9).bind (fun t => some t) else some false := fun k => by simp only [spec_l2Point.f, spec_l1In_eq, Option.bind_some]
  refine Ev.congr e ?_
  unfold pointB
  cases inR 1 4 l.length with
  | false => exact Ev.now _
  | true =>
    simp only [if_true, Bool.true_and]
    refine Ev.bind (spec_l2Numbers_ev l 9 h) ?_
    rw [show wrap64 (-9) = -9 from wrap_id (by omega) (by omega)]
    exact Ev.now _

theorem spec_l2Sample_ev (P : List (List Int)) (L : List Int) (h : P.length ≤ maxLen) (hi : ∀ x ∈ P, x.length ≤ maxLen) (hL : L.length ≤ maxLen) : Ev (fun k => spec_l2Sample.f k P L) (sampleB P L) := by
  have h' : P.length ≤ 9223372036854775807 := h
  have no : Ev (fun k => spec_l2Sample.j0 k true P L) false := Ev.step' (f := fun _ => some false) (fun k => by simp only [spec_l2Sample.j0, if_true]) (Ev.now _)
  unfold sampleB spec_l2Sample.f
  by_cases c : P.length ≤ 16
  · rw [decide_eq_true c, Bool.true_and]
    simp only [if_neg (show ¬ (P.length : Int) > 16 by omega)]
    by_cases c2 : L.length = P.length
    · rw [decide_eq_true c2, Bool.true_and]
      simp only [if_pos (show (L.length : Int) = (P.length : Int) by omega)]
      refine Ev.bind (spec_l2Labels_ev L hL) ?_
      cases L.all isLab with
      | false => exact no
      | true =>
        refine Ev.step' (f := fun k => spec_l2Sample.l0 k 0 P L) (fun k => by simp only [spec_l2Sample.j0, Bool.not_true, Bool.false_eq_true, if_false]) ?_
        rw [Bool.true_and]
        refine ev_list [] P (fun i (_ : Unit) k => spec_l2Sample.l0 k i P L) (fun _ ys _ => ys.all (ptB P)) (fun _ _ => True) (fun _ _ => ?_) (fun i x ys _ hi2 hx hm _ ih => ?_) () trivial
        · exact Ev.step' (f := fun _ => some true) (fun k => by simp only [spec_l2Sample.l0, if_neg (Int.lt_irrefl _)]) (Ev.now _)
        · have c1 : (i : Int) < (P.length : Int) := by omega
          have c0 : 0 ≤ (i : Int) := by omega
          have cp : 0 < (P.length : Int) := by omega
          rw [List.all_cons]
          unfold ptB
          refine Ev.step' (f := fun k => (spec_l2Point.f k x).bind fun t => if t = true then (if (x.length : Int) = ((P.getD 0 []).length : Int) then spec_l2Sample.l0 k ((i + 1 : Nat) : Int) P L else some false) else some false) (fun k => by simp only [spec_l2Sample.l0, if_pos c1, if_pos c0, if_pos cp, rdL1_nat, hx, wrap_succ hi2 h'] <;> rfl) ?_
          refine Ev.bind (spec_l2Point_ev x (hi x hm)) ?_
          cases pointB x with
          | false => exact Ev.now _
          | true =>
            simp only [if_true, Bool.true_and]
            by_cases c5 : x.length = (P.getD 0 []).length
            · rw [decide_eq_true c5, Bool.true_and]
              simp only [if_pos (show (x.length : Int) = ((P.getD 0 []).length : Int) by omega)]
              exact ih () trivial
            · rw [decide_eq_false c5, Bool.false_and]
              simp only [if_neg (show ¬ (x.length : Int) = ((P.getD 0 []).length : Int) by omega)]
              exact Ev.now _
    · rw [decide_eq_false c2, Bool.false_and]
      simp only [if_neg (show ¬ (L.length : Int) = (P.length : Int) by omega)]
      exact no
  · rw [decide_eq_false c, Bool.false_and]
    simp only [if_pos (show (P.length : Int) > 16 by omega)]
    exact no

theorem spec_l8Some_ev (P : List (List Int)) (L : List Int) (h : P.length ≤ maxLen) (hi : ∀ x ∈ P, x.length ≤ maxLen) (hL : L.length ≤ maxLen) : Ev (fun k => spec_l8Some.f k P L) (someB P L) := by
  refine Ev.bind (spec_l2Sample_ev P L h hi hL) ?_
  unfold someB
  cases sampleB P L with
  | false => simp only [Bool.false_eq_true, if_false, Bool.false_and]; exact Ev.now _
  | true =>
    simp only [if_true, Bool.true_and]
    rw [show decide ((P.length : Int) > 0) = decide (0 < P.length) from decide_eq_decide.2 (by omega)]
    exact Ev.now _

def sameB (x y : List Int) : Bool := (List.range x.length).all fun i => x.getD i 0 == y.getD i 0
theorem spec_l1Same_ev (x y : List Int) (h : x.length ≤ maxLen) (hl : x.length = y.length) : Ev (fun k => spec_l1Same.f k x y) (sameB x y) := by
  have h' : x.length ≤ 9223372036854775807 := h
  refine Ev.congr (f := fun k => spec_l1Same.l0 k x y 0) (fun k => by simp only [spec_l1Same.f, if_pos (show (x.length : Int) = (y.length : Int) by omega)]) ?_
  refine ev_all (L := fun i k => spec_l1Same.l0 k x y i) (n := x.length) (p := fun i => x.getD i 0 == y.getD i 0) (fun i hi hp => To.step fun k => ?_) (fun i hi hp => ?_) (Ev.step' (f := fun _ => some true) (fun k => by simp only [spec_l1Same.l0, if_neg (Int.lt_irrefl _)]) (Ev.now _))
  · have c1 : (i : Int) < (x.length : Int) := by omega
    have c0 : 0 ≤ (i : Int) := by omega
    have c2 : (i : Int) < (y.length : Int) := by omega
    simp only [spec_l1Same.l0, if_pos c1, if_pos c0, if_pos c2, rd_nat, if_pos (beq_iff_eq.1 hp), wrap_succ hi h']
  · have c1 : (i : Int) < (x.length : Int) := by omega
    have c0 : 0 ≤ (i : Int) := by omega
    have c2 : (i : Int) < (y.length : Int) := by omega
    exact Ev.step' (f := fun _ => some false) (fun k => by simp only [spec_l1Same.l0, if_pos c1, if_pos c0, if_pos c2, rd_nat, if_neg (beq_eq_false_iff_ne.1 hp)]) (Ev.now _)

def cfR (P : List (List Int)) (L : List Int) (i : Nat) : Nat → Nat → Option Nat
  | 0, _ => none
  | d + 1, j => if sameB (P.getD i []) (P.getD j []) = true ∧ L.getD i 0 ≠ L.getD j 0 then some j else cfR P L i d (j + 1)
def pickC (i : Nat) (o : Option Nat) (z : Int × Int × Bool) : Int × Int × Bool := match o with
  | some j => ((i : Int), (j : Int), true)
  | none => z
def cfO (P : List (List Int)) (L : List Int) : Nat → Nat → Int × Int × Bool
  | 0, _ => (0, 0, false)
  | d + 1, i => pickC i (cfR P L i d (i + 1)) (cfO P L d (i + 1))
def confM (P : List (List Int)) (L : List Int) : Int × Int × Bool := if sampleB P L = true then cfO P L P.length 0 else (0, 0, false)
theorem spec_FirstConflict_ev (P : List (List Int)) (L : List Int) (h : P.length ≤ maxLen) (hi : ∀ x ∈ P, x.length ≤ maxLen) (hL : L.length ≤ maxLen) : Ev (fun k => spec_FirstConflict.f k P L) (confM P L) := by
  refine Ev.bind (spec_l2Sample_ev P L h hi hL) ?_
  unfold confM
  cases hs : sampleB P L with
  | false => simp only [Bool.false_eq_true, if_false]; exact Ev.now _
  | true =>
    simp only [if_true]
    have ht := sample_tell hs
    have h' : P.length ≤ 9223372036854775807 := h
    have key : ∀ (d i : Nat), i + d = P.length → Ev (fun k => spec_FirstConflict.l0 k i P L) (cfO P L d i) := by
      intro d
      induction d with
      | zero =>
        intro i hi
        obtain rfl : i = P.length := by omega
        exact Ev.step' (f := fun _ => some (0, 0, false)) (fun k => by simp only [spec_FirstConflict.l0, if_neg (Int.lt_irrefl _)]) (Ev.now _)
      | succ d ih =>
        intro i hid
        have hil : i < P.length := by omega
        have c1 : (i : Int) < (P.length : Int) := by omega
        have c2 : 0 ≤ (i : Int) := by omega
        have c3 : (i : Int) < (L.length : Int) := by omega
        refine Ev.step' (f := fun k => spec_FirstConflict.l1 k i ((i + 1 : Nat) : Int) P L) (fun k => by simp only [spec_FirstConflict.l0, if_pos c1, wrap_succ hil h']) ?_
        have inner : ∀ (e j : Nat), j + e = P.length → Ev (fun k => spec_FirstConflict.l1 k i j P L) (pickC i (cfR P L i e j) (cfO P L d (i + 1))) := by
          intro e
          induction e with
          | zero =>
            intro j hj
            obtain rfl : j = P.length := by omega
            exact Ev.step' (f := fun k => spec_FirstConflict.l0 k ((i + 1 : Nat) : Int) P L) (fun k => by simp only [spec_FirstConflict.l1, if_neg (Int.lt_irrefl _), wrap_succ hil h']) (ih (i + 1) (by omega))
          | succ e ihe =>
            intro j hj
            have hjl : j < P.length := by omega
            have c4 : (j : Int) < (P.length : Int) := by omega
            have c5 : 0 ≤ (j : Int) := by omega
            have c6 : (j : Int) < (L.length : Int) := by omega
            by_cases el : L.getD i 0 = L.getD j 0
            · refine ev_eq (Ev.step' (f := fun k => spec_FirstConflict.l1 k i ((j + 1 : Nat) : Int) P L) (fun k => by simp only [spec_FirstConflict.l1, if_pos c4, if_pos c2, if_pos c3, if_pos c5, if_pos c6, rd_nat, if_pos el, wrap_succ hjl h']) (ihe (j + 1) (by omega))) ?_
              rw [cfR, if_neg (fun q => q.2 el)]
            · refine Ev.step' (f := fun k => (spec_l1Same.f k (P.getD i []) (P.getD j [])).bind fun t => if t = true then some ((i : Int), (j : Int), true) else spec_FirstConflict.l1 k i ((j + 1 : Nat) : Int) P L) (fun k => by simp only [spec_FirstConflict.l1, if_pos c4, if_pos c2, if_pos c3, if_pos c5, if_pos c6, if_pos c1, rd_nat, rdL1_nat, if_neg el, wrap_succ hjl h']) ?_
              have m1 := ht.2.2.2 _ (getD_mem hil [])
              have m2 := ht.2.2.2 _ (getD_mem hjl [])
              have := point_len m1.1
              refine Ev.bind (spec_l1Same_ev _ _ (by unfold maxLen; omega) (by omega)) ?_
              cases es : sameB (P.getD i []) (P.getD j []) with
              | true => simp only [if_true]; refine ev_eq (Ev.now _) ?_; rw [cfR, if_pos ⟨es, el⟩]; rfl
              | false => simp only [Bool.false_eq_true, if_false]; refine ev_eq (ihe (j + 1) (by omega)) ?_; rw [cfR, if_neg (fun q => by rw [es] at q; exact absurd q.1 (by simp))]
        exact inner d (i + 1) (by omega)
    exact key P.length 0 (by omega)

def cleanB (P : List (List Int)) (L : List Int) : Bool := someB P L && !(confM P L).2.2
theorem spec_l10Clean_ev (P : List (List Int)) (L : List Int) (h : P.length ≤ maxLen) (hi : ∀ x ∈ P, x.length ≤ maxLen) (hL : L.length ≤ maxLen) : Ev (fun k => spec_l10Clean.f k P L) (cleanB P L) := by
  refine Ev.bind (spec_FirstConflict_ev P L h hi hL) (Ev.bind (spec_l8Some_ev P L h hi hL) ?_)
  unfold cleanB
  cases someB P L with
  | false => simp only [Bool.false_eq_true, if_false, Bool.false_and]; exact Ev.now _
  | true => simp only [if_true, Bool.true_and]; exact Ev.now _
theorem sameB_refl (x : List Int) : sameB x x = true := by simp [sameB]
theorem cfR_none (P : List (List Int)) (L : List Int) (i : Nat) : ∀ (d j : Nat), cfR P L i d j = none → ∀ z, j ≤ z → z < j + d → P.getD i [] = P.getD z [] → L.getD i 0 = L.getD z 0
  | 0, j, _, z, h1, h2, _ => by omega
  | d + 1, j, h, z, h1, h2, e => by
    rw [cfR] at h
    split at h
    · cases h
    · next hn =>
      by_cases ez : z = j
      · subst ez
        refine Classical.byContradiction fun q => hn ⟨?_, q⟩
        rw [← e]; exact sameB_refl _
      · exact cfR_none P L i d (j + 1) h z (by omega) (by omega) e
theorem cfO_none (P : List (List Int)) (L : List Int) : ∀ (d i : Nat), (cfO P L d i).2.2 = false → ∀ a b, i ≤ a → a < b → b < i + d → P.getD a [] = P.getD b [] → L.getD a 0 = L.getD b 0
  | 0, i, _, a, b, h1, h2, h3, _ => by omega
  | d + 1, i, h, a, b, h1, h2, h3, e => by
    rw [cfO] at h
    cases hr : cfR P L i d (i + 1) with
    | some j => rw [hr] at h; exact absurd h (by simp [pickC])
    | none =>
      rw [hr] at h
      by_cases ea : a = i
      · subst ea
        exact cfR_none P L a d (a + 1) hr b (by omega) (by omega) e
      · exact cfO_none P L d (i + 1) h a b (by omega) h2 (by omega) e
theorem clean_tell {P : List (List Int)} {L : List Int} (h : cleanB P L = true) : sampleB P L = true ∧ 0 < P.length ∧ ∀ a b, a < P.length → b < P.length → P.getD a [] = P.getD b [] → L.getD a 0 = L.getD b 0 := by
  unfold cleanB at h
  simp only [Bool.and_eq_true, Bool.not_eq_true'] at h
  have h1 := some_tell h.1
  have h2 := h.2
  unfold confM at h2
  rw [if_pos h1.1] at h2
  refine ⟨h1.1, h1.2, fun a b ha hb e => ?_⟩
  by_cases c : a = b
  · rw [c]
  · by_cases c2 : a < b
    · exact cfO_none P L _ 0 h2 a b (by omega) c2 (by omega) e
    · exact (cfO_none P L _ 0 h2 b a (by omega) (by omega) (by omega) e.symm).symm
theorem sq_bounds {z : Int} (h1 : -18 ≤ z) (h2 : z ≤ 18) : 0 ≤ z * z ∧ z * z ≤ 324 ∧ (z * z ≤ 0 → z = 0) := by
  have e : ((z.natAbs * z.natAbs : Nat) : Int) = z * z := Int.natAbs_mul_self
  have hb : z.natAbs ≤ 18 := by omega
  have hm := Nat.mul_le_mul hb hb
  refine ⟨by omega, by omega, fun h0 => ?_⟩
  have h3 : z.natAbs * z.natAbs = 0 := by omega
  rcases Nat.mul_eq_zero.1 h3 with h4 | h4 <;> omega
theorem sqW_tell (x y : List Int) (hx : Near 9 x) (hy : Near 9 y) (hl : x.length = y.length) (h4 : x.length ≤ 4) : 0 ≤ sqW x y ∧ (sqW x y ≤ 0 → x = y) := by
  have key : ∀ n : Nat, n ≤ x.length → 0 ≤ (List.range n).foldl (sqStep x y) 0 ∧ (List.range n).foldl (sqStep x y) 0 ≤ 324 * n ∧ ((List.range n).foldl (sqStep x y) 0 ≤ 0 → ∀ i, i < n → x.getD i 0 = y.getD i 0) := by
    intro n
    induction n with
    | zero => intro _; simp
    | succ n ih =>
      intro hn
      obtain ⟨a1, a2, a3⟩ := ih (by omega)
      rw [List.range_succ, List.foldl_append, List.foldl_cons, List.foldl_nil]
      have hx1 := hx _ (getD_mem (show n < x.length by omega) 0)
      have hy1 := hy _ (getD_mem (show n < y.length by omega) 0)
      obtain ⟨z, hz⟩ : ∃ z, z = x.getD n 0 - y.getD n 0 := ⟨_, rfl⟩
      have w1 : wrap64 z = z := wrap_id (by omega) (by omega)
      have sb := sq_bounds (z := z) (by omega) (by omega)
      have w2 : wrap64 (z * z) = z * z := wrap_id (by omega) (by omega)
      have w3 : ∀ s : Int, 0 ≤ s → s ≤ 324 * n → wrap64 (s + z * z) = s + z * z := fun s s0 s1 => wrap_id (by omega) (by omega)
      have e : sqStep x y ((List.range n).foldl (sqStep x y) 0) n = (List.range n).foldl (sqStep x y) 0 + z * z := by
        unfold sqStep
        rw [← hz, w1, w2]
        exact w3 _ a1 a2
      rw [e]
      refine ⟨by omega, by omega, fun h0 i hi => ?_⟩
      by_cases ei : i = n
      · subst ei
        have := sb.2.2 (by omega)
        omega
      · exact a3 (by omega) i (by omega)
  obtain ⟨b1, b2, b3⟩ := key x.length (Nat.le_refl _)
  refine ⟨b1, fun h0 => List.ext_getElem hl (fun i h1 h2 => ?_)⟩
  have := b3 h0 i h1
  rwa [List.getD_eq_getElem?_getD, List.getElem?_eq_getElem h1, List.getD_eq_getElem?_getD, List.getElem?_eq_getElem h2] at this
theorem sqW_self (x : List Int) : sqW x x = 0 := by
  unfold sqW
  generalize x.length = n
  induction n with
  | zero => rfl
  | succ n ih =>
    have w0 : wrap64 0 = 0 := wrap_id (by omega) (by omega)
    rw [List.range_succ, List.foldl_append, ih]
    simp [sqStep, w0]
/-- In a clean sample a place keeps its own label. -/
theorem label_own {P : List (List Int)} {L : List Int} (hc : cleanB P L = true) (q : List Int) (hr : q.Pairwise (· < ·)) (hv : ∀ i ∈ q, 0 ≤ i ∧ i < P.length) (i : Nat) (hi : i < P.length) (hm : (i : Int) ∈ q) : labelM P L q (P.getD i []) 1 = L.getD i 0 := by
  obtain ⟨hs, h0, hcl⟩ := clean_tell hc
  have ht := sample_tell hs
  obtain ⟨n1, n2, n3⟩ := nearM_tell (dstM P (P.getD i [])) q hr
  unfold labelM
  generalize nearM (dstM P (P.getD i [])) q = N at n1 n2 n3
  cases N with
  | nil => exact absurd ((n2 i).2 hm) (by simp)
  | cons z N =>
    have hz := hv z ((n2 z).1 List.mem_cons_self)
    have di : dstM P (P.getD i []) (i : Int) = 0 := by unfold dstM; rw [Int.toNat_natCast]; exact sqW_self _
    have dz : dstM P (P.getD i []) z ≤ 0 := by
      rcases List.mem_cons.1 ((n2 i).2 hm) with e | e
      · rw [← e, di]; exact Int.le_refl _
      · have := (List.pairwise_cons.1 n1).1 _ e
        unfold before at this; omega
    have hzn : z.toNat < P.length := by omega
    have m1 := ht.2.2.2 _ (getD_mem hzn [])
    have m2 := ht.2.2.2 _ (getD_mem hi [])
    have e := (sqW_tell (P.getD z.toNat []) (P.getD i []) (point_near m1.1) (point_near m2.1) (by omega) (point_len m1.1).2).2 dz
    have el := hcl z.toNat i hzn hi e
    have hlab := ht.2.2.1 _ (getD_mem (show i < L.length by omega) 0)
    have er : rd L z = L.getD i 0 := by rw [← el]; rfl
    have ew : sumW (atM L ((z :: N).take (1 : Int).toNat)) = L.getD i 0 := by
      show wrap64 (0 + rd L z) = _
      rw [er]
      rcases hlab with q | q <;> rw [q] <;> exact wrap_id (by omega) (by omega)
    rw [ew]
    rcases hlab with q | q <;> rw [q] <;> decide

theorem spec_l1Own_eq (l : List Int) (h : l.length ≤ 1000) : spec_l1Own.f l = some l := by
  have c : ([] : List Int).length + l.length < 17592186044416 := by rw [List.length_nil]; omega
  simp only [spec_l1Own.f, Option.bind_some, if_pos c, List.nil_append]

def setsM : Nat → Nat → Int → List Int → List (List Int)
  | _, 0, _, s => [s]
  | 0, _ + 1, _, _ => []
  | m + 1, d + 1, i, s => setsM m d (i + 1) (s ++ [i]) ++ setsM m (d + 1) (i + 1) s
theorem setsM_zero (m : Nat) (x : Int) (s : List Int) : setsM m 0 x s = [s] := by cases m <;> rfl
theorem setsM_succ (m d : Nat) (x : Int) (s : List Int) : setsM (m + 1) (d + 1) x s = setsM m d (x + 1) (s ++ [x]) ++ setsM m (d + 1) (x + 1) s := rfl
theorem setsM_len : ∀ (m d : Nat) (x : Int) (s : List Int), (setsM m d x s).length ≤ 2 ^ m
  | m, 0, x, s => by rw [setsM_zero]; exact Nat.one_le_two_pow
  | 0, _ + 1, _, _ => Nat.zero_le _
  | m + 1, d + 1, x, s => by
    rw [setsM_succ, List.length_append, Nat.pow_succ]
    have h1 := setsM_len m d (x + 1) (s ++ [x])
    have h2 := setsM_len m (d + 1) (x + 1) s
    omega
theorem setsM_none : ∀ (m d : Nat) (x : Int) (s : List Int), m < d → setsM m d x s = []
  | _, 0, _, _, h => absurd h (Nat.not_lt_zero _)
  | 0, _ + 1, _, _, _ => rfl
  | m + 1, d + 1, x, s, h => by rw [setsM_succ, setsM_none m d _ _ (by omega), setsM_none m (d + 1) _ _ (by omega)]; rfl
def uptoM : Nat → Int → List Int
  | 0, _ => []
  | m + 1, x => x :: uptoM m (x + 1)
theorem uptoM_snoc : ∀ (m : Nat) (x : Int), uptoM (m + 1) x = uptoM m x ++ [x + m]
  | 0, x => by simp [uptoM]
  | m + 1, x => by rw [uptoM, uptoM_snoc m (x + 1), uptoM, List.cons_append, show x + 1 + (m : Int) = x + ((m + 1 : Nat) : Int) from by omega]
theorem setsM_full : ∀ (m : Nat) (x : Int) (s : List Int), setsM m m x s = [s ++ uptoM m x]
  | 0, x, s => by rw [setsM_zero]; simp [uptoM]
  | m + 1, x, s => by rw [setsM_succ, setsM_full m, setsM_none m (m + 1) _ _ (Nat.lt_succ_self m), List.append_nil, uptoM, List.append_assoc]; rfl
theorem upto_left : ∀ n : Nat, uptoM n 0 = leftM n []
  | 0 => rfl
  | n + 1 => by rw [uptoM_snoc, upto_left n, leftM_succ]; simp
theorem setsM_ok : ∀ (m d : Nat) (x : Int) (s t : List Int), t ∈ setsM m d x s → s.Pairwise (· < ·) → (∀ z ∈ s, 0 ≤ z ∧ z < x) → 0 ≤ x → t.Pairwise (· < ·) ∧ (∀ z ∈ t, 0 ≤ z ∧ z < x + m) ∧ t.length = s.length + d
  | m, 0, x, s, t, ht, hs, hz, _ => by
    rw [setsM_zero] at ht
    obtain rfl := List.mem_singleton.1 ht
    exact ⟨hs, fun z h => by have := hz z h; omega, rfl⟩
  | 0, _ + 1, _, _, _, ht, _, _, _ => by cases ht
  | m + 1, d + 1, x, s, t, ht, hs, hz, h0 => by
    rw [setsM_succ] at ht
    rcases List.mem_append.1 ht with ht | ht
    · obtain ⟨h1, h2, h3⟩ := setsM_ok m d (x + 1) (s ++ [x]) t ht (by
        rw [List.pairwise_append]
        exact ⟨hs, by simp, fun a ha b hb => by rw [List.mem_singleton] at hb; subst hb; exact (hz a ha).2⟩) (fun z hzm => by
        rcases List.mem_append.1 hzm with h | h
        · have := hz z h; omega
        · rw [List.mem_singleton] at h; omega) (by omega)
      exact ⟨h1, fun z h => by have := h2 z h; omega, by rw [h3, List.length_append, List.length_singleton]; omega⟩
    · obtain ⟨h1, h2, h3⟩ := setsM_ok m (d + 1) (x + 1) s t ht hs (fun z h => by have := hz z h; omega) (by omega)
      exact ⟨h1, fun z h => by have := h2 z h; omega, h3⟩
theorem spec_l4Choose_ev {n kk : Nat} (hn : n ≤ 16) (hk : kk ≤ 16) : ∀ (d m : Nat) (x : Int) (s : List Int), 0 ≤ x → x + m = n → s.length + d = kk → (s = [] → x = 0) → (s ≠ [] → s.getD (s.length - 1) 0 = x - 1) → Ev (fun k => spec_l4Choose.f k (n : Int) (kk : Int) s) (setsM m d x s)
  | 0, m, x, s, h0, hx, hd, _, _ => by
    rw [setsM_zero]
    have c : (s.length : Int) = (kk : Int) := by omega
    exact Ev.step' (f := fun _ => some [s]) (fun k => by simp only [spec_l4Choose.f, if_pos c]) (Ev.now _)
  | d + 1, M, X, s, h0, hx, hd, hnil, hlast => by
    have inner : ∀ (m : Nat) (x : Int) (acc : List (List Int)), 0 ≤ x → x + m = n → acc.length + 2 ^ m ≤ 70000 → Ev (fun k => spec_l4Choose.l0 k (n : Int) (kk : Int) s acc x) (acc ++ setsM m (d + 1) x s) := by
      intro m
      induction m with
      | zero =>
        intro x acc h0 hx _
        have c : ¬ x < (n : Int) := by omega
        rw [show setsM 0 (d + 1) x s = [] from rfl, List.append_nil]
        exact Ev.step' (f := fun _ => some acc) (fun k => by simp only [spec_l4Choose.l0, if_neg c]) (Ev.now _)
      | succ m ihm =>
        intro x acc h0 hx ha
        have c : x < (n : Int) := by omega
        have c1 : s.length < 17592186044416 := by omega
        have hl := setsM_len m d (x + 1) (s ++ [x])
        have hw : wrap64 (x + 1) = x + 1 := by unfold wrap64; omega
        rw [Nat.pow_succ] at ha
        have c2 : acc.length + (setsM m d (x + 1) (s ++ [x])).length < 5864062014805 := by omega
        refine Ev.step' (f := fun k => (spec_l4Choose.f k (n : Int) (kk : Int) (s ++ [x])).bind fun u => if acc.length + u.length < 5864062014805 then spec_l4Choose.l0 k (n : Int) (kk : Int) s (acc ++ u) (x + 1) else none) (fun k => by simp only [spec_l4Choose.l0, if_pos c, spec_l1Own_eq s (by omega), Option.bind_some, if_pos c1, hw]) ?_
        refine Ev.bind (spec_l4Choose_ev hn hk d m (x + 1) (s ++ [x]) (by omega) (by omega) (by simp only [List.length_append, List.length_singleton]; omega) (fun e => by simp at e) (fun _ => ?_)) ?_
        · rw [List.length_append, List.length_singleton, Nat.add_sub_cancel]
          have := getD_mid s x [] 0
          rw [this]; omega
        · simp only [if_pos c2]
          rw [setsM_succ, ← List.append_assoc]
          exact ihm (x + 1) (acc ++ setsM m d (x + 1) (s ++ [x])) (by omega) (by omega) (by rw [List.length_append]; omega)
    have c : ¬ (s.length : Int) = (kk : Int) := by omega
    have hM : 2 ^ M ≤ 2 ^ 16 := Nat.pow_le_pow_right (by omega) (by omega)
    have hin := inner M X [] h0 hx (by simp only [List.length_nil]; omega)
    rw [List.nil_append] at hin
    have hj : Ev (fun k => spec_l4Choose.j0 k (n : Int) (kk : Int) s [] X) (setsM M (d + 1) X s) := Ev.step' (f := fun k => spec_l4Choose.l0 k (n : Int) (kk : Int) s [] X) (fun k => by simp only [spec_l4Choose.j0]) hin
    refine Ev.step' (f := fun k => spec_l4Choose.j0 k (n : Int) (kk : Int) s [] X) (fun k => ?_) hj
    by_cases e : s = []
    · have hX := hnil e
      subst hX
      have c3 : ¬ (s.length : Int) > 0 := by rw [e]; simp
      simp only [spec_l4Choose.f, if_neg c, Option.bind_some, if_neg c3]
    · have hl := hlast e
      have hp : 0 < s.length := List.length_pos_iff.2 e
      have hw : wrap64 ((s.length : Int) - 1) = ((s.length - 1 : Nat) : Int) := by unfold wrap64; omega
      have c3 : (s.length : Int) > 0 := by omega
      have c4 : 0 ≤ ((s.length - 1 : Nat) : Int) := by omega
      have c5 : ((s.length - 1 : Nat) : Int) < (s.length : Int) := by omega
      have hw2 : wrap64 (X - 1 + 1) = X := by unfold wrap64; omega
      simp only [spec_l4Choose.f, if_neg c, Option.bind_some, if_pos c3, hw, if_pos c4, if_pos c5, rd_nat, hl, hw2]

theorem spec_l2Square_ev (x y : List Int) (hx : x.length ≤ maxLen) (hl : x.length ≤ y.length) : Ev (fun k => spec_l2Square.f k x y) (sqW x y) := by
  have h' : x.length ≤ 9223372036854775807 := hx
  have hf := to_fold (L := fun i (s : Int) k => spec_l2Square.l0 k x y s i) (n := x.length) (f := fun i s => sqStep x y s i) (fun _ _ => True) (fun i s hi _ => ⟨To.step fun k => by
    have c1 : (i : Int) < (x.length : Int) := by omega
    have c0 : 0 ≤ (i : Int) := by omega
    have c2 : (i : Int) < (y.length : Int) := by omega
    simp only [spec_l2Square.l0, if_pos c1, if_pos c0, if_pos c2, rd_nat, wrap_succ hi h', sqStep], trivial⟩) 0 trivial
  exact hf.1 _ (Ev.step' (f := fun _ => some (sqW x y)) (fun k => by simp only [spec_l2Square.l0, if_neg (Int.lt_irrefl _)]; rfl) (Ev.now _))

theorem spec_l10Near_ins {P : List (List Int)} {L : List Int} (h : sampleB P L = true) (x : List Int) (hx : x.length = (P.getD 0 []).length) (q : List Int) (hq : ∀ i ∈ q, 0 ≤ i ∧ i < P.length) (out : List Int) (ho : ∀ i ∈ out, 0 ≤ i ∧ i < P.length) (hol : out.length ≤ 1000) (i : Nat) (hi : i < q.length) :
    Ev (fun k => spec_l10Near.ins k P L q x out i) (insM (dstM P x) (q.getD i 0) out) := by
  have ht := sample_tell h
  have hsq : ∀ p : Int, 0 ≤ p → p < P.length → Ev (fun k => spec_l2Square.f k (P.getD p.toNat []) x) (dstM P x p) := fun p h0 h1 => by
    have hm := getD_mem (xs := P) (i := p.toNat) (by omega) []
    have hl := (ht.2.2.2 _ hm).2
    have := point_len (ht.2.2.2 _ hm).1
    exact spec_l2Square_ev _ x (by unfold maxLen; omega) (by omega)
  have hpi := hq _ (getD_mem hi 0)
  have c4 : 0 ≤ (i : Int) := by omega
  have c5 : (i : Int) < (q.length : Int) := by omega
  have fin : ∀ (j : Nat), j ≤ out.length → ([] : List Int).length + (out.take j).length < 17592186044416 ∧ (([] : List Int) ++ out.take j).length + [q.getD i 0].length < 17592186044416 ∧ ((([] : List Int) ++ out.take j) ++ [q.getD i 0]).length + (out.drop j).length < 17592186044416 := fun j hj => by
    have h1 : (out.take j).length ≤ out.length := by rw [List.length_take]; omega
    have h2 : (out.drop j).length ≤ out.length := by rw [List.length_drop]; omega
    refine ⟨by simp only [List.length_nil]; omega, by rw [List.length_append]; simp only [List.length_nil, List.length_cons]; omega, by rw [List.length_append, List.length_append]; simp only [List.length_nil, List.length_cons]; omega⟩
  have key : ∀ (dd j : Nat), j + dd = out.length → Ev (fun k => spec_l10Near.l1 k q x out i j P L) (out.take j ++ insM (dstM P x) (q.getD i 0) (out.drop j)) := by
    intro dd
    induction dd with
    | zero =>
      intro j hj
      obtain rfl : j = out.length := by omega
      obtain ⟨f1, f2, f3⟩ := fin out.length (Nat.le_refl _)
      have c0 : 0 ≤ (out.length : Int) := by omega
      refine ev_eq (Ev.step' (f := fun _ => some (([] ++ out.take out.length) ++ [q.getD i 0] ++ out.drop out.length)) (fun k => ?_) (Ev.now _)) ?_
      · simp only [spec_l10Near.l1, if_neg (Int.lt_irrefl _), Option.bind_some, if_pos c0, if_pos (Int.le_refl _), Int.toNat_natCast, if_pos f1, if_pos c4, if_pos c5, rd_nat, if_pos f2, if_pos f3]
      · simp [insM]
    | succ dd ih =>
      intro j hj
      have hjl : j < out.length := by omega
      have c1 : (j : Int) < (out.length : Int) := by omega
      have c0 : 0 ≤ (j : Int) := by omega
      have c2 : (j : Int) ≤ (out.length : Int) := by omega
      obtain ⟨g0, g1⟩ := ho _ (getD_mem hjl 0)
      have hd : out.drop j = out.getD j 0 :: out.drop (j + 1) := by rw [List.drop_eq_getElem_cons hjl]; simp [List.getD_eq_getElem?_getD, List.getElem?_eq_getElem hjl]
      have htk : out.take (j + 1) = out.take j ++ [out.getD j 0] := by rw [List.take_succ_eq_append_getElem hjl]; simp [List.getD_eq_getElem?_getD, List.getElem?_eq_getElem hjl]
      obtain ⟨f1, f2, f3⟩ := fin j (by omega)
      have er := fun (p : Int) (hp : 0 ≤ p) => rdI_nat _ P (rdL1_nat P) hp
      refine Ev.step' (f := fun k => (spec_l2Square.f k (P.getD (out.getD j 0).toNat []) x).bind fun a => (spec_l2Square.f k (P.getD (q.getD i 0).toNat []) x).bind fun b => if a ≤ b then spec_l10Near.l1 k q x out i ((j + 1 : Nat) : Int) P L else some (([] ++ out.take j) ++ [q.getD i 0] ++ out.drop j)) (fun k => ?_) ?_
      · simp only [spec_l10Near.l1, if_pos c1, if_pos c0, if_pos c2, rd_nat, if_pos g0, if_pos g1, er _ g0, if_pos c4, if_pos c5, if_pos hpi.1, if_pos hpi.2, er _ hpi.1, Option.bind_some, Int.toNat_natCast, if_pos f1, if_pos f2, if_pos f3, wrap_succ hjl (by omega : out.length ≤ 9223372036854775807)]
      refine Ev.bind (hsq _ g0 g1) (Ev.bind (hsq _ hpi.1 hpi.2) ?_)
      by_cases e : dstM P x (out.getD j 0) ≤ dstM P x (q.getD i 0)
      · simp only [if_pos e]
        refine ev_eq (ih (j + 1) (by omega)) ?_
        rw [hd, htk, insM, if_pos e, List.append_assoc]; rfl
      · simp only [if_neg e]
        refine ev_eq (Ev.now _) ?_
        rw [hd, insM, if_neg e]; simp
  refine ev_eq (Ev.congr (f := fun k => spec_l10Near.l1 k q x out i ((0 : Nat) : Int) P L) (fun k => rfl) (key out.length 0 (by omega))) (by simp)
theorem spec_l10Near_ev {P : List (List Int)} {L : List Int} (h : sampleB P L = true) (x : List Int) (hx : x.length = (P.getD 0 []).length) (q : List Int) (hq : ∀ i ∈ q, 0 ≤ i ∧ i < P.length) (hql : q.length ≤ 1000) :
    Ev (fun k => spec_l10Near.f k P L q x) (nearM (dstM P x) q) := by
  have hf := to_fold (L := fun i (s : List Int) k => spec_l10Near.l0 k P L q x s i) (n := q.length) (f := fun i s => insM (dstM P x) (q.getD i 0) s) (fun i s => s.length = i ∧ ∀ z ∈ s, 0 ≤ z ∧ z < P.length) (fun i s hi hs => ⟨?_, by rw [insM_len]; omega, fun z hz => ?_⟩) [] (by simp)
  · refine hf.1 _ ?_
    rw [range_fold q (fun out p => insM (dstM P x) p out) 0]
    exact Ev.step' (f := fun _ => some (nearM (dstM P x) q)) (fun k => by simp only [spec_l10Near.l0, if_neg (Int.lt_irrefl _)]; rfl) (Ev.now _)
  · have c1 : (i : Int) < (q.length : Int) := by omega
    refine (To.step (f := fun k => (spec_l10Near.ins k P L q x s i).bind fun y => spec_l10Near.l0 k P L q x y ((i + 1 : Nat) : Int)) (fun k => by simp only [spec_l10Near.l0, if_pos c1, wrap_succ hi (by omega : q.length ≤ 9223372036854775807)])).trans ?_
    exact To.bind (spec_l10Near_ins h x hx q hq s hs.2 (by omega) i hi)
  · rcases (insM_mem _ _ z s).1 hz with rfl | hz
    · exact hq _ (getD_mem hi 0)
    · exact hs.2 z hz

theorem spec_l10Label_ev {P : List (List Int)} {L : List Int} (h : sampleB P L = true) (x : List Int) (hx : x.length = (P.getD 0 []).length) (q : List Int) (hr : q.Pairwise (· < ·)) (hq : ∀ i ∈ q, 0 ≤ i ∧ i < P.length) (hql : q.length ≤ 1000) (m : Int) (h0 : 0 ≤ m) (hm : m ≤ q.length) :
    Ev (fun k => spec_l10Label.f k P L q x m) (labelM P L q x m) := by
  have ht := sample_tell h
  refine Ev.bind (spec_l10Near_ev h x hx q hq hql) ?_
  have hl := near_len (d := dstM P x) hr
  have hv : ∀ z ∈ nearM (dstM P x) q, 0 ≤ z ∧ z < P.length := fun z hz => hq z (near_mem hr hz)
  unfold labelM
  generalize nearM (dstM P x) q = N at hl hv
  obtain ⟨mm, rfl⟩ : ∃ mm : Nat, m = mm := ⟨m.toNat, by omega⟩
  rw [Int.toNat_natCast]
  have hf := to_fold (L := fun i (s : Int) k => spec_l10Label.l0 k (mm : Int) s N i P L) (n := mm) (f := fun i s => wrap64 (s + rd L (N.getD i 0))) (fun _ _ => True) (fun i s hi _ => ⟨To.step fun k => by
    have hv2 := hv _ (getD_mem (show i < N.length by omega) 0)
    have c1 : (i : Int) < (mm : Int) := by omega
    have c0 : 0 ≤ (i : Int) := by omega
    have c2 : (i : Int) < (N.length : Int) := by omega
    have c4 : N.getD i 0 < (L.length : Int) := by omega
    simp only [spec_l10Label.l0, if_pos c1, if_pos c0, if_pos c2, rd_nat, if_pos hv2.1, if_pos c4, wrap_succ hi (by omega : mm ≤ 9223372036854775807)], trivial⟩) 0 trivial
  have e : (List.range mm).foldl (fun s i => wrap64 (s + rd L (N.getD i 0))) 0 = sumW (atM L (N.take mm)) := by
    rw [take_fold N (fun s z => wrap64 (s + rd L z)) 0 mm (by omega), sumW, atM, List.foldl_map]
  rw [e] at hf
  refine hf.1 _ (Ev.step' (f := fun _ => some (if 0 ≤ sumW (atM L (N.take mm)) then 1 else -1)) (fun k => ?_) (Ev.now _))
  simp only [spec_l10Label.l0, if_neg (Int.lt_irrefl _), ge_iff_le]
  split <;> rfl

def keepsM (P : List (List Int)) (L q : List Int) : Bool := (List.range P.length).all fun i => decide (labelM P L q (P.getD i []) 1 = L.getD i 0)
theorem spec_l10Keeps_ev {P : List (List Int)} {L : List Int} (hs : sampleB P L = true) (q : List Int) (hr : q.Pairwise (· < ·)) (hq : ∀ i ∈ q, 0 ≤ i ∧ i < P.length) (hql : q.length ≤ 1000) (h0 : 0 < q.length) : Ev (fun k => spec_l10Keeps.f k P L q) (keepsM P L q) := by
  have ht := sample_tell hs
  have hlab : ∀ i, i < P.length → Ev (fun k => spec_l10Label.f k P L q (P.getD i []) 1) (labelM P L q (P.getD i []) 1) := fun i hi => spec_l10Label_ev hs _ (ht.2.2.2 _ (getD_mem hi [])).2 q hr hq hql 1 (by omega) (by omega)
  have st : ∀ i : Nat, i < P.length → To (fun k => spec_l10Keeps.l0 k q i P L) (fun k => if labelM P L q (P.getD i []) 1 = L.getD i 0 then spec_l10Keeps.l0 k q ((i + 1 : Nat) : Int) P L else some false) := fun i hi => by
    have c1 : (i : Int) < (P.length : Int) := by omega
    have c0 : 0 ≤ (i : Int) := by omega
    have c2 : (i : Int) < (L.length : Int) := by omega
    refine (To.step (f := fun k => (spec_l10Label.f k P L q (P.getD i []) 1).bind fun u => if u = L.getD i 0 then spec_l10Keeps.l0 k q ((i + 1 : Nat) : Int) P L else some false) (fun k => by simp only [spec_l10Keeps.l0, if_pos c1, if_pos c0, if_pos c2, rd_nat, rdL1_nat, wrap_succ hi (by omega : P.length ≤ 9223372036854775807)])).trans ?_
    exact To.bind (hlab i hi)
  refine ev_all (L := fun i k => spec_l10Keeps.l0 k q i P L) (n := P.length) (fun i hi hp => ?_) (fun i hi hp => ?_) ?_
  · exact (st i hi).trans (To.congr fun k => by rw [if_pos (of_decide_eq_true hp)])
  · exact st i hi _ (Ev.congr (f := fun _ => some false) (fun k => by rw [if_neg (of_decide_eq_false hp)]) (Ev.now _))
  · exact Ev.step' (f := fun _ => some true) (fun k => by simp only [spec_l10Keeps.l0, if_neg (Int.lt_irrefl _)]) (Ev.now _)

theorem spec_l1Has_ev (l : List Int) (v : Int) (h : l.length ≤ maxLen) : Ev (fun k => spec_l1Has.f k l v) (decide (0 < l.count v)) := by
  have h' : l.length ≤ 9223372036854775807 := h
  refine ev_list 0 l (fun i (_ : Unit) k => spec_l1Has.l0 k l v i) (fun _ ys _ => decide (0 < ys.count v)) (fun _ _ => True) (fun _ _ => ?_) (fun i x ys _ hi hx hm _ ih => ?_) () trivial
  · exact Ev.step' (f := fun _ => some false) (fun k => by simp only [spec_l1Has.l0, if_neg (Int.lt_irrefl _)]) (Ev.now _)
  · have c1 : (i : Int) < (l.length : Int) := by omega
    have c0 : 0 ≤ (i : Int) := by omega
    by_cases c : x = v
    · exact ev_eq (Ev.step' (f := fun _ => some true) (fun k => by simp only [spec_l1Has.l0, if_pos c1, if_pos c0, rd_nat, hx, if_pos c]) (Ev.now _)) (by simp [c])
    · exact ev_eq (Ev.step' (fun k => by simp only [spec_l1Has.l0, if_pos c1, if_pos c0, rd_nat, hx, if_neg c, wrap_succ hi h']) (ih () trivial)) (by simp [List.count_cons, c])

theorem spec_l4Left_ev (n : Nat) (l : List Int) (hn : n ≤ 1000) (hl : l.length ≤ maxLen) : Ev (fun k => spec_l4Left.f k (n : Int) l) (leftM n l) := by
  have hf := to_fold (L := fun i (s : List Int) k => spec_l4Left.l0 k (n : Int) l s i) (n := n) (f := fun i s => if 0 < l.count (i : Int) then s else s ++ [(i : Int)]) (fun i s => s.length ≤ i) (fun i s hi hs => ⟨?_, by split <;> (try rw [List.length_append]) <;> (try simp only [List.length_cons, List.length_nil]) <;> omega⟩) [] (Nat.le_refl _)
  · exact hf.1 _ (Ev.step' (f := fun _ => some (leftM n l)) (fun k => by simp only [spec_l4Left.l0, if_neg (Int.lt_irrefl _)]; rfl) (Ev.now _))
  · have c1 : (i : Int) < (n : Int) := by omega
    have c3 : s.length < 17592186044416 := by omega
    refine (To.step (f := fun k => (spec_l1Has.f k l (i : Int)).bind fun t => if t = true then spec_l4Left.l0 k (n : Int) l s ((i + 1 : Nat) : Int) else spec_l4Left.l0 k (n : Int) l (s ++ [(i : Int)]) ((i + 1 : Nat) : Int)) (fun k => by simp only [spec_l4Left.l0, if_pos c1, if_pos c3, wrap_succ hi (by omega : n ≤ 9223372036854775807)])).trans ?_
    refine (To.bind (spec_l1Has_ev l (i : Int) hl)).trans (To.congr fun k => ?_)
    by_cases c : 0 < l.count (i : Int)
    · simp only [decide_eq_true c, if_true, if_pos c]
    · simp only [decide_eq_false c, Bool.false_eq_true, if_false, if_neg c]

theorem spec_l10All_ev (P : List (List Int)) (L : List Int) (hn : P.length ≤ 1000) : Ev (fun k => spec_l10All.f k P L) (leftM P.length []) :=
  Ev.bind (spec_l4Left_ev P.length [] hn (by simp)) (Ev.now _)

def fewL (P : List (List Int)) (L : List Int) : Nat → Nat → List Int
  | 0, _ => leftM P.length []
  | c + 1, kk => match (setsM P.length kk 0 []).find? (keepsM P L) with
    | some t => t
    | none => fewL P L c (kk + 1)
def fewestM (P : List (List Int)) (L : List Int) : List Int × Bool := if (cleanB P L && decide (P.length ≤ 8)) = true then (fewL P L (P.length - 1) 1, true) else ([], false)
theorem setsM_tell {n kk : Nat} {t : List Int} (h : t ∈ setsM n kk 0 []) : t.Pairwise (· < ·) ∧ (∀ z ∈ t, 0 ≤ z ∧ z < (n : Int)) ∧ t.length = kk := by
  obtain ⟨h1, h2, h3⟩ := setsM_ok n kk 0 [] t h (by simp) (by simp) (Int.le_refl _)
  exact ⟨h1, fun z hz => by have := h2 z hz; omega, by simpa using h3⟩
theorem spec_few_list {P : List (List Int)} {L : List Int} (hs : sampleB P L = true) (kk : Nat) (T : List (List Int)) (hT : ∀ t ∈ T, t.Pairwise (· < ·) ∧ (∀ z ∈ t, 0 ≤ z ∧ z < (P.length : Int)) ∧ t.length = kk) (h0 : 0 < kk) (hk : kk ≤ 16) (hTl : T.length ≤ 70000) (r : List Int × Bool)
    (hr : (match T.find? (keepsM P L) with | some t => some (t, true) | none => none) = some r ∨ (T.find? (keepsM P L) = none ∧ Ev (fun k => spec_FewestPlaces.l0 k ((kk + 1 : Nat) : Int) P L) r)) : Ev (fun k => spec_FewestPlaces.l1 k (kk : Int) T 0 P L) r := by
  have key : ∀ (d i : Nat), i + d = T.length → ((match (T.drop i).find? (keepsM P L) with | some t => some (t, true) | none => none) = some r ∨ ((T.drop i).find? (keepsM P L) = none ∧ Ev (fun k => spec_FewestPlaces.l0 k ((kk + 1 : Nat) : Int) P L) r)) → Ev (fun k => spec_FewestPlaces.l1 k (kk : Int) T (i : Int) P L) r := by
    intro d
    induction d with
    | zero =>
      intro i hi h
      have e : T.drop i = [] := List.drop_eq_nil_of_le (by omega)
      have c : ¬ (i : Int) < (T.length : Int) := by omega
      have hw : wrap64 ((kk : Int) + 1) = ((kk + 1 : Nat) : Int) := by unfold wrap64; omega
      rcases h with h | ⟨_, h⟩
      · rw [e] at h; simp at h
      · exact Ev.step' (f := fun k => spec_FewestPlaces.l0 k ((kk + 1 : Nat) : Int) P L) (fun k => by simp only [spec_FewestPlaces.l1, if_neg c, hw]) h
    | succ d ih =>
      intro i hi h
      have hlt : i < T.length := by omega
      have c : (i : Int) < (T.length : Int) := by omega
      have c0 : 0 ≤ (i : Int) := by omega
      have hm := getD_mem hlt ([] : List Int)
      obtain ⟨h1, h2, h3⟩ := hT _ hm
      have hd : T.drop i = T.getD i [] :: T.drop (i + 1) := by rw [List.drop_eq_getElem_cons hlt, List.getD_eq_getElem?_getD, List.getElem?_eq_getElem hlt]; rfl
      rw [hd, List.find?_cons] at h
      refine Ev.step' (f := fun k => (spec_l10Keeps.f k P L (T.getD i [])).bind fun u => if u = true then some (T.getD i [], true) else spec_FewestPlaces.l1 k (kk : Int) T ((i + 1 : Nat) : Int) P L) (fun k => by simp only [spec_FewestPlaces.l1, if_pos c, if_pos c0, rdL1_nat, wrap_succ hlt (by omega : T.length ≤ 9223372036854775807)]) ?_
      refine Ev.bind (spec_l10Keeps_ev hs (T.getD i []) h1 h2 (by omega) (by omega)) ?_
      cases hq : keepsM P L (T.getD i []) with
      | true =>
        rw [hq] at h
        simp only [if_true]
        rcases h with h | ⟨h, _⟩
        · exact ev_one h
        · simp at h
      | false =>
        rw [hq] at h
        simp only [Bool.false_eq_true, if_false]
        exact ih (i + 1) (by omega) h
  have := key T.length 0 (by omega) (by simpa using hr)
  simpa using this
theorem spec_few_loop {P : List (List Int)} {L : List Int} (hs : sampleB P L = true) (h8 : P.length ≤ 8) : ∀ (c kk : Nat), 1 ≤ kk → c + kk = P.length → Ev (fun k => spec_FewestPlaces.l0 k (kk : Int) P L) (fewL P L c kk, true)
  | 0, kk, h1, h2 => by
    have c : ¬ (kk : Int) < (P.length : Int) := by omega
    exact Ev.step' (f := fun k => (spec_l10All.f k P L).bind fun t => some (t, true)) (fun k => by simp only [spec_FewestPlaces.l0, if_neg c]) (Ev.bind (spec_l10All_ev P L (by omega)) (Ev.now _))
  | c + 1, kk, h1, h2 => by
    have c1 : (kk : Int) < (P.length : Int) := by omega
    have ih := spec_few_loop hs h8 c (kk + 1) (by omega) (by omega)
    refine Ev.step' (f := fun k => (spec_l4Choose.f k (P.length : Int) (kk : Int) []).bind fun T => spec_FewestPlaces.l1 k (kk : Int) T 0 P L) (fun k => by simp only [spec_FewestPlaces.l0, if_pos c1]) ?_
    refine Ev.bind (spec_l4Choose_ev (by omega) (by omega) kk P.length 0 [] (Int.le_refl _) (by omega) (by simp) (fun _ => rfl) (fun h => absurd rfl h)) ?_
    refine spec_few_list hs kk _ (fun t ht => setsM_tell ht) (by omega) (by omega) (Nat.le_trans (setsM_len _ _ _ _) (by have : 2 ^ P.length ≤ 2 ^ 8 := Nat.pow_le_pow_right (by omega) h8; omega)) _ ?_
    unfold fewL
    cases hq : (setsM P.length kk 0 []).find? (keepsM P L) with
    | some t => exact .inl rfl
    | none => exact .inr ⟨rfl, ih⟩
theorem spec_FewestPlaces_ev (P : List (List Int)) (L : List Int) (h : P.length ≤ maxLen) (hi : ∀ x ∈ P, x.length ≤ maxLen) (hL : L.length ≤ maxLen) : Ev (fun k => spec_FewestPlaces.f k P L) (fewestM P L) := by
  refine Ev.bind (spec_l10Clean_ev P L h hi hL) ?_
  have no : Ev (fun k => spec_FewestPlaces.j0 k true P L) ([], false) := Ev.step' (f := fun _ => some ([], false)) (fun k => by simp only [spec_FewestPlaces.j0, if_true]) (Ev.now _)
  unfold fewestM
  cases hc : cleanB P L with
  | false => simp only [Bool.false_eq_true, if_false, Bool.false_and]; exact no
  | true =>
    simp only [if_true, Bool.true_and]
    have hs := (clean_tell hc).1
    by_cases h8 : P.length ≤ 8
    · rw [decide_eq_true h8, decide_eq_false (by omega : ¬ (P.length : Int) > 8)]
      simp only [if_true]
      exact Ev.step' (f := fun k => spec_FewestPlaces.l0 k ((1 : Nat) : Int) P L) (fun k => by simp only [spec_FewestPlaces.j0, Bool.false_eq_true, if_false]; rfl) (spec_few_loop hs h8 (P.length - 1) 1 (Nat.le_refl _) (by have := (clean_tell hc).2.1; omega))
    · rw [decide_eq_false h8, decide_eq_true (by omega : (P.length : Int) > 8)]
      simp only [Bool.false_eq_true, if_false]
      exact no

theorem laws_toIntS_ev (l : List Int) (h : l.length ≤ 1048576) : Ev (fun k => laws_toIntS.f k l) l := by
  have hw : wrap64 (l.length : Int) = l.length := wrap_id (by omega) (by omega)
  have c0 : 0 ≤ (l.length : Int) := by omega
  have e : ∀ k, laws_toIntS.f k l = laws_toIntS.l0 k l (List.replicate l.length 0) 0 := fun k => by
    simp only [laws_toIntS.f, if_pos c0, Int.toNat_natCast]; rw [if_pos (by omega)]
  refine Ev.congr e ?_
  have hf := to_fold (L := fun i (s : List Int) k => laws_toIntS.l0 k l s i) (n := l.length) (f := fun i s => s.set i (l.getD i 0)) (fun i s => s = l.take i ++ List.replicate (l.length - i) 0) (fun i s hi hs => ⟨To.step fun k => ?_, ?_⟩) (List.replicate l.length 0) (by simp)
  · refine hf.1 _ (Ev.step' (f := fun _ => some l) (fun k => ?_) (Ev.now _))
    have := hf.2
    rw [Nat.sub_self, List.take_length, List.replicate_zero, List.append_nil] at this
    show laws_toIntS.l0 (k + 1) l _ _ = _
    rw [this]
    simp only [laws_toIntS.l0, if_neg (Int.lt_irrefl _)]
  · have c1 : (i : Int) < (l.length : Int) := by omega
    have c2 : (i : Int) < (s.length : Int) := by rw [hs, List.length_append, List.length_take, List.length_replicate]; omega
    have c3 : 0 ≤ (i : Int) := by omega
    simp only [laws_toIntS.l0, if_pos c1, if_pos c2, if_pos c3, rd_nat, Int.toNat_natCast, wrap_succ hi (by omega : l.length ≤ 9223372036854775807)]
  · show List.set s i _ = _
    rw [hs]; exact set_step l 0 0 i hi

theorem laws_toIntSS_ev (l : List (List Int)) (h : l.length ≤ 1048576) (hi : ∀ x ∈ l, x.length ≤ 1048576) : Ev (fun k => laws_toIntSS.f k l) l := by
  have c0 : 0 ≤ (l.length : Int) := by omega
  have e : ∀ k, laws_toIntSS.f k l = laws_toIntSS.l0 k l (List.replicate l.length []) 0 := fun k => by
    simp only [laws_toIntSS.f, if_pos c0, Int.toNat_natCast]; rw [if_pos (by omega)]
  refine Ev.congr e ?_
  have hf := to_fold (L := fun i (s : List (List Int)) k => laws_toIntSS.l0 k l s i) (n := l.length) (f := fun i s => s.set i (l.getD i [])) (fun i s => s = l.take i ++ List.replicate (l.length - i) []) (fun i s hi2 hs => ⟨?_, ?_⟩) (List.replicate l.length []) (by simp)
  · refine hf.1 _ (Ev.step' (f := fun _ => some l) (fun k => ?_) (Ev.now _))
    have := hf.2
    rw [Nat.sub_self, List.take_length, List.replicate_zero, List.append_nil] at this
    show laws_toIntSS.l0 (k + 1) l _ _ = _
    rw [this]
    simp only [laws_toIntSS.l0, if_neg (Int.lt_irrefl _)]
  · have c1 : (i : Int) < (l.length : Int) := by omega
    have c2 : (i : Int) < (s.length : Int) := by rw [hs, List.length_append, List.length_take, List.length_replicate]; omega
    have c3 : 0 ≤ (i : Int) := by omega
    refine (To.step (f := fun k => (laws_toIntS.f k (l.getD i [])).bind fun t => laws_toIntSS.l0 k l (s.set i t) ((i + 1 : Nat) : Int)) (fun k => ?_)).trans (To.bind (laws_toIntS_ev _ (hi _ (getD_mem hi2 []))))
    simp only [laws_toIntSS.l0, if_pos c1, if_pos c2, if_pos c3, rdL1_nat, Int.toNat_natCast, wrap_succ hi2 (by omega : l.length ≤ 9223372036854775807)]
  · show List.set s i _ = _
    rw [hs]; exact set_step l [] [] i hi2

theorem laws_toSample_ev (P : List (List Int)) (L : List Int) (h : P.length ≤ 1048576) (hi : ∀ x ∈ P, x.length ≤ 1048576) (hL : L.length ≤ 1048576) : Ev (fun k => laws_toSample.f k P L) (P, L) := Ev.bind (laws_toIntSS_ev P h hi) (Ev.bind (laws_toIntS_ev L hL) (Ev.now _))

theorem impl_within_eq (x a b : Int) : impl_within.f x a b = some (inR a b x) := in_tells a b x

theorem impl_allWithin_ev (l : List Int) (a b : Int) (h : l.length ≤ maxLen) : Ev (fun k => impl_allWithin.f k l a b) (l.all (inR a b)) := by
  unfold maxLen at h
  rw [← range_all l (inR a b) 0]
  refine ev_all (L := fun i k => impl_allWithin.l0 k a b l (l.length : Int) i) (fun i hi hp => To.step fun k => ?_) (fun i hi hp => Ev.step' (f := fun _ => some false) (fun k => ?_) (Ev.now _)) (Ev.step' (f := fun _ => some true) (fun k => ?_) (Ev.now _))
  · have c1 : (i : Int) < (l.length : Int) := by omega
    have c0 : 0 ≤ (i : Int) := by omega
    simp only [impl_allWithin.l0, if_pos c1, if_pos c0, impl_within_eq, rd_nat, hp, Option.bind_some, if_true, wrap_succ hi h]
  · have c1 : (i : Int) < (l.length : Int) := by omega
    have c0 : 0 ≤ (i : Int) := by omega
    simp only [impl_allWithin.l0, if_pos c1, if_pos c0, impl_within_eq, rd_nat, hp, Option.bind_some, Bool.false_eq_true, if_false]
  · simp only [impl_allWithin.l0, if_neg (Int.lt_irrefl _)]

theorem impl_IsPoint_ev (l : List Int) (h : l.length ≤ maxLen) : Ev (fun k => impl_IsPoint.f k l) (pointB l) := by
  have e : ∀ k, impl_IsPoint.f k l = if inR 1 4 l.length = true then (impl_allWithin.f k l (-9) 9).bind (fun t => some t) else some false := fun k => by simp only [impl_IsPoint.f, impl_within_eq, Option.bind_some]
  refine Ev.congr e ?_
  unfold pointB
  cases inR 1 4 l.length with
  | false => exact Ev.now _
  | true =>
    simp only [if_true, Bool.true_and]
    exact Ev.bind (impl_allWithin_ev l (-9) 9 h) (Ev.now _)

theorem impl_isLabel_eq (x : Int) : impl_isLabel.f x = some (isLab x) := by
  unfold impl_isLabel.f isLab
  by_cases e : x = 1
  · rw [if_pos e]; simp [e]
  · rw [if_neg e, decide_eq_false e, Bool.false_or]; rfl

theorem impl_IsSample_ev (P : List (List Int)) (L : List Int) (h : P.length ≤ maxLen) (hi : ∀ x ∈ P, x.length ≤ maxLen) (hL : L.length ≤ maxLen) : Ev (fun k => impl_IsSample.f k P L) (sampleB P L) := by
  have h' : P.length ≤ 9223372036854775807 := h
  have no : Ev (fun k => impl_IsSample.j0 k true P L) false := Ev.step' (f := fun _ => some false) (fun k => by simp only [impl_IsSample.j0, if_true]) (Ev.now _)
  unfold sampleB impl_IsSample.f
  by_cases c : P.length ≤ 16
  · rw [decide_eq_true c, Bool.true_and]
    simp only [if_neg (show ¬ (P.length : Int) > 16 by omega)]
    by_cases c2 : L.length = P.length
    · rw [decide_eq_true c2, Bool.true_and, show ((L.length : Int) != (P.length : Int)) = false by rw [bne_eq_false_iff_eq]; omega, Bool.and_comm]
      refine Ev.step' (f := fun k => impl_IsSample.l0 k P (P.length : Int) 0 P L) (fun k => by simp only [impl_IsSample.j0, Bool.false_eq_true, if_false]) ?_
      refine ev_list [] P (fun i (_ : Unit) k => impl_IsSample.l0 k P (P.length : Int) i P L) (fun i ys _ => ys.all (ptB P) && (L.drop i).all isLab) (fun _ _ => True) (fun _ _ => ?_) (fun i x ys _ hi2 hx hm _ ih => ?_) () trivial
      · rw [← c2, List.drop_length]
        exact Ev.step' (f := fun _ => some true) (fun k => by simp only [impl_IsSample.l0, c2, if_neg (Int.lt_irrefl _)]) (Ev.now _)
      · have c1 : (i : Int) < (P.length : Int) := by omega
        have c3 : (i : Int) < (L.length : Int) := by omega
        have c0 : 0 ≤ (i : Int) := by omega
        have cp : 0 < (P.length : Int) := by omega
        have hil : i < L.length := by omega
        rw [List.all_cons, List.drop_eq_getElem_cons hil, List.all_cons]
        unfold ptB
        refine Ev.step' (f := fun k => (impl_IsPoint.f k x).bind fun t => if t = true then (if (x.length : Int) = ((P.getD 0 []).length : Int) then (if isLab L[i] = true then impl_IsSample.l0 k P (P.length : Int) ((i + 1 : Nat) : Int) P L else some false) else some false) else some false) (fun k => by simp only [impl_IsSample.l0, if_pos c1, if_pos c0, if_pos c3, if_pos cp, rdL1_nat, rd_nat, hx, impl_isLabel_eq, Option.bind_some, wrap_succ hi2 h', List.getD_eq_getElem?_getD, List.getElem?_eq_getElem hil, Option.getD_some] <;> rfl) ?_
        refine Ev.bind (impl_IsPoint_ev x (hi x hm)) ?_
        cases pointB x with
        | false => exact Ev.now _
        | true =>
          simp only [if_true, Bool.true_and]
          by_cases c5 : x.length = (P.getD 0 []).length
          · rw [decide_eq_true c5, Bool.true_and]
            simp only [if_pos (show (x.length : Int) = ((P.getD 0 []).length : Int) by omega)]
            cases isLab L[i] with
            | false => simp only [Bool.false_and, Bool.and_false]; exact Ev.now _
            | true => simp only [if_true, Bool.true_and]; exact ih () trivial
          · rw [decide_eq_false c5, Bool.false_and, Bool.false_and]
            simp only [if_neg (show ¬ (x.length : Int) = ((P.getD 0 []).length : Int) by omega)]
            exact Ev.now _
    · rw [decide_eq_false c2, Bool.false_and, show ((L.length : Int) != (P.length : Int)) = true by rw [bne_iff_ne]; omega]
      exact no
  · rw [decide_eq_false c, Bool.false_and]
    simp only [if_pos (show (P.length : Int) > 16 by omega)]
    exact no

theorem impl_hasPoints_ev (P : List (List Int)) (L : List Int) (h : P.length ≤ maxLen) (hi : ∀ x ∈ P, x.length ≤ maxLen) (hL : L.length ≤ maxLen) : Ev (fun k => impl_hasPoints.f k P L) (someB P L) := by
  refine Ev.bind (impl_IsSample_ev P L h hi hL) ?_
  unfold someB
  cases sampleB P L with
  | false => simp only [Bool.false_eq_true, if_false, Bool.false_and]; exact Ev.now _
  | true =>
    simp only [if_true, Bool.true_and]
    rw [show decide ((P.length : Int) > 0) = decide (0 < P.length) from decide_eq_decide.2 (by omega)]
    exact Ev.now _

theorem slices_Equal_int_int_ev (x y : List Int) (h : x.length ≤ maxLen) (hl : x.length = y.length) : Ev (fun k => slices_Equal_int_int.f k x y) (sameB x y) := by
  have h' : x.length ≤ 9223372036854775807 := h
  refine Ev.congr (f := fun k => slices_Equal_int_int.l0 k x y (x.length : Int) 0) (fun k => by simp only [slices_Equal_int_int.f, if_pos (show (x.length : Int) = (y.length : Int) by omega)]) ?_
  refine ev_all (L := fun i k => slices_Equal_int_int.l0 k x y (x.length : Int) i) (n := x.length) (p := fun i => x.getD i 0 == y.getD i 0) (fun i hi hp => To.step fun k => ?_) (fun i hi hp => ?_) (Ev.step' (f := fun _ => some true) (fun k => by simp only [slices_Equal_int_int.l0, if_neg (Int.lt_irrefl _)]) (Ev.now _))
  · have c1 : (i : Int) < (x.length : Int) := by omega
    have c0 : 0 ≤ (i : Int) := by omega
    have c2 : (i : Int) < (y.length : Int) := by omega
    simp only [slices_Equal_int_int.l0, if_pos c1, if_pos c0, if_pos c2, rd_nat, if_pos (beq_iff_eq.1 hp), wrap_succ hi h']
  · have c1 : (i : Int) < (x.length : Int) := by omega
    have c0 : 0 ≤ (i : Int) := by omega
    have c2 : (i : Int) < (y.length : Int) := by omega
    exact Ev.step' (f := fun _ => some false) (fun k => by simp only [slices_Equal_int_int.l0, if_pos c1, if_pos c0, if_pos c2, rd_nat, if_neg (beq_eq_false_iff_ne.1 hp)]) (Ev.now _)

theorem impl_FirstConflict_ev (P : List (List Int)) (L : List Int) (h : P.length ≤ maxLen) (hi : ∀ x ∈ P, x.length ≤ maxLen) (hL : L.length ≤ maxLen) : Ev (fun k => impl_FirstConflict.f k P L) (confM P L) := by
  refine Ev.bind (impl_IsSample_ev P L h hi hL) ?_
  unfold confM
  cases hs : sampleB P L with
  | false => simp only [Bool.false_eq_true, if_false]; exact Ev.now _
  | true =>
    simp only [if_true]
    have ht := sample_tell hs
    have h' : P.length ≤ 9223372036854775807 := h
    have key : ∀ (d i : Nat), i + d = P.length → Ev (fun k => impl_FirstConflict.l0 k P (P.length : Int) i P L) (cfO P L d i) := by
      intro d
      induction d with
      | zero =>
        intro i hi
        obtain rfl : i = P.length := by omega
        exact Ev.step' (f := fun _ => some (0, 0, false)) (fun k => by simp only [impl_FirstConflict.l0, if_neg (Int.lt_irrefl _)]) (Ev.now _)
      | succ d ih =>
        intro i hid
        have hil : i < P.length := by omega
        have c1 : (i : Int) < (P.length : Int) := by omega
        have c2 : 0 ≤ (i : Int) := by omega
        have c3 : (i : Int) < (L.length : Int) := by omega
        refine Ev.step' (f := fun k => impl_FirstConflict.l1 k i (P.getD i []) ((i + 1 : Nat) : Int) P (P.length : Int) i P L) (fun k => by simp only [impl_FirstConflict.l0, if_pos c1, if_pos c2, rdL1_nat, wrap_succ hil h']) ?_
        have inner : ∀ (e j : Nat), j + e = P.length → Ev (fun k => impl_FirstConflict.l1 k i (P.getD i []) j P (P.length : Int) i P L) (pickC i (cfR P L i e j) (cfO P L d (i + 1))) := by
          intro e
          induction e with
          | zero =>
            intro j hj
            obtain rfl : j = P.length := by omega
            exact Ev.step' (f := fun k => impl_FirstConflict.l0 k P (P.length : Int) ((i + 1 : Nat) : Int) P L) (fun k => by simp only [impl_FirstConflict.l1, if_neg (Int.lt_irrefl _), wrap_succ hil h']) (ih (i + 1) (by omega))
          | succ e ihe =>
            intro j hj
            have hjl : j < P.length := by omega
            have c4 : (j : Int) < (P.length : Int) := by omega
            have c5 : 0 ≤ (j : Int) := by omega
            have c6 : (j : Int) < (L.length : Int) := by omega
            refine Ev.step' (f := fun k => (slices_Equal_int_int.f k (P.getD i []) (P.getD j [])).bind fun t => if t = true then (if L.getD i 0 = L.getD j 0 then impl_FirstConflict.l1 k i (P.getD i []) ((j + 1 : Nat) : Int) P (P.length : Int) i P L else some ((i : Int), (j : Int), true)) else impl_FirstConflict.l1 k i (P.getD i []) ((j + 1 : Nat) : Int) P (P.length : Int) i P L) (fun k => by simp only [impl_FirstConflict.l1, if_pos c4, if_pos c2, if_pos c3, if_pos c5, if_pos c6, rd_nat, rdL1_nat, wrap_succ hjl h']) ?_
            have m1 := ht.2.2.2 _ (getD_mem hil [])
            have m2 := ht.2.2.2 _ (getD_mem hjl [])
            have := point_len m1.1
            refine Ev.bind (slices_Equal_int_int_ev _ _ (by unfold maxLen; omega) (by omega)) ?_
            cases es : sameB (P.getD i []) (P.getD j []) with
            | false => simp only [Bool.false_eq_true, if_false]; refine ev_eq (ihe (j + 1) (by omega)) ?_; rw [cfR, if_neg (fun q => by rw [es] at q; exact absurd q.1 (by simp))]
            | true =>
              simp only [if_true]
              by_cases el : L.getD i 0 = L.getD j 0
              · simp only [if_pos el]; refine ev_eq (ihe (j + 1) (by omega)) ?_; rw [cfR, if_neg (fun q => q.2 el)]
              · simp only [if_neg el]; refine ev_eq (Ev.now _) ?_; rw [cfR, if_pos ⟨es, el⟩]; rfl
        exact inner d (i + 1) (by omega)
    exact key P.length 0 (by omega)

theorem impl_isClean_ev (P : List (List Int)) (L : List Int) (h : P.length ≤ maxLen) (hi : ∀ x ∈ P, x.length ≤ maxLen) (hL : L.length ≤ maxLen) : Ev (fun k => impl_isClean.f k P L) (cleanB P L) := by
  refine Ev.bind (impl_FirstConflict_ev P L h hi hL) (Ev.bind (impl_hasPoints_ev P L h hi hL) ?_)
  unfold cleanB
  cases someB P L with
  | false => simp only [Bool.false_eq_true, if_false, Bool.false_and]; exact Ev.now _
  | true => simp only [if_true, Bool.true_and]; exact Ev.now _

theorem impl_copied_eq (l : List Int) (h : l.length ≤ 1000) : impl_copied.f l = some l := by
  have c : ([] : List Int).length + l.length < 17592186044416 := by rw [List.length_nil]; omega
  simp only [impl_copied.f, Option.bind_some, if_pos c, List.nil_append]

theorem impl_at_ev (row set : List Int) (h : set.length ≤ 1048576) (hx : ∀ x ∈ set, 0 ≤ x ∧ x < (row.length : Int)) : Ev (fun k => impl_at.f k row set) (atM row set) := by
  have hf := to_fold (L := fun j (s : List Int) k => impl_at.l0 k row s set (set.length : Int) j) (n := set.length) (f := fun j s => s ++ [row.getD (set.getD j 0).toNat 0]) (fun j s => s.length = j) (fun j s hj hs => ⟨To.step fun k => by
    have c1 : (j : Int) < (set.length : Int) := by omega
    have c0 : 0 ≤ (j : Int) := by omega
    have q := hx _ (getD_mem hj 0)
    have c3 : s.length < 17592186044416 := by omega
    have e : rd row (set.getD j 0) = row.getD (set.getD j 0).toNat 0 := rfl
    simp only [impl_at.l0, if_pos c1, if_pos c0, rd_nat, if_pos q.1, if_pos q.2, if_pos c3, e, wrap_succ hj (show set.length ≤ 9223372036854775807 by omega)], by rw [List.length_append, hs]; rfl⟩) [] rfl
  refine ev_eq (hf.1 _ (Ev.step' (f := fun _ => some ((List.range set.length).foldl (fun s i => s ++ [row.getD (set.getD i 0).toNat 0]) [])) (fun k => by simp only [impl_at.l0, if_neg (Int.lt_irrefl _)]) (Ev.now _))) ?_
  rw [fold_append, List.nil_append]
  exact range_map set (fun x => row.getD x.toNat 0) 0

theorem impl_total_ev (l : List Int) (h : l.length ≤ maxLen) : Ev (fun k => impl_total.f k l) (sumW l) := by
  have h' : l.length ≤ 9223372036854775807 := h
  refine ev_list 0 l (fun i s k => impl_total.l0 k s l (l.length : Int) i) (fun _ ys s => ys.foldl (fun s x => wrap64 (s + x)) s) (fun _ _ => True) (fun s _ => ?_) (fun i x ys s hi hx _ _ ih => ?_) 0 trivial
  · exact Ev.step' (f := fun _ => some s) (fun k => by simp only [impl_total.l0, if_neg (Int.lt_irrefl _)]) (Ev.now _)
  · have c1 : (i : Int) < (l.length : Int) := by omega
    have c0 : 0 ≤ (i : Int) := by omega
    rw [List.foldl_cons]
    exact Ev.step' (fun k => by simp only [impl_total.l0, if_pos c1, if_pos c0, rd_nat, hx, wrap_succ hi h']) (ih _ trivial)

theorem cmp_isNaN_int_eq (x : Int) : cmp_isNaN_int.f x = some false := by simp [cmp_isNaN_int.f]

def cmpZ (x y : Int) : Int := if x < y then -1 else if x > y then 1 else 0
theorem cmp_Compare_int_eq (x y : Int) : cmp_Compare_int.f x y = some (cmpZ x y) := by
  simp only [cmp_Compare_int.f, cmp_isNaN_int_eq, Option.bind_some, Bool.false_eq_true, if_false, cmpZ]
  split
  · rfl
  · split <;> rfl


theorem impl_squares_ev (x y : List Int) (hx : x.length ≤ maxLen) (hl : x.length ≤ y.length) : Ev (fun k => impl_squares.f k x y) (sqW x y) := by
  have h' : x.length ≤ 9223372036854775807 := hx
  have hf := to_fold (L := fun i (s : Int) k => impl_squares.l0 k y s x (x.length : Int) i) (n := x.length) (f := fun i s => sqStep x y s i) (fun _ _ => True) (fun i s hi _ => ⟨To.step fun k => by
    have c1 : (i : Int) < (x.length : Int) := by omega
    have c0 : 0 ≤ (i : Int) := by omega
    have c2 : (i : Int) < (y.length : Int) := by omega
    simp only [impl_squares.l0, if_pos c1, if_pos c0, if_pos c2, rd_nat, wrap_succ hi h', sqStep], trivial⟩) 0 trivial
  exact hf.1 _ (Ev.step' (f := fun _ => some (sqW x y)) (fun k => by simp only [impl_squares.l0, if_neg (Int.lt_irrefl _)]; rfl) (Ev.now _))

theorem squares_all {P : List (List Int)} {L : List Int} (h : sampleB P L = true) (x : List Int) (hx : x.length = (P.getD 0 []).length) : ∀ (pl : List Int), (∀ i ∈ pl, 0 ≤ i ∧ i < P.length) → ∃ K, ∀ k, K ≤ k → ∀ i ∈ pl, impl_squares.f k (P.getD i.toNat []) x = some (dstM P x i)
  | [], _ => ⟨0, fun _ _ i hi => by cases hi⟩
  | p :: pl, hp => by
    have ht := sample_tell h
    obtain ⟨K1, k1⟩ := squares_all h x hx pl (fun i hi => hp i (List.mem_cons_of_mem _ hi))
    obtain ⟨p0, p1⟩ := hp p List.mem_cons_self
    have hm := getD_mem (xs := P) (i := p.toNat) (by omega) []
    have hl := (ht.2.2.2 _ hm).2
    have hn := point_len (ht.2.2.2 _ hm).1
    obtain ⟨K2, k2⟩ := impl_squares_ev (P.getD p.toNat []) x (by unfold maxLen; omega) (by omega)
    refine ⟨K1 + K2, fun k hk i hi => ?_⟩
    rcases List.mem_cons.1 hi with rfl | hi
    · exact k2 k (by omega)
    · exact k1 k (by omega) i hi
theorem impl_Sample_neighbors_ev {P : List (List Int)} {L : List Int} (h : sampleB P L = true) (x : List Int) (hx : x.length = (P.getD 0 []).length) (pl q : List Int) (hpl : ∀ i ∈ pl, 0 ≤ i ∧ i < P.length) (hnd : pl.Nodup) (h0 : 0 < pl.length) (h20 : pl.length < 20) (hq : q.Pairwise (· < ·)) (hm : ∀ z, z ∈ q ↔ z ∈ pl) :
    Ev (fun k => impl_Sample_neighbors.f k P L x pl) (nearM (dstM P x) q) := by
  have ht := sample_tell h
  obtain ⟨K, hK⟩ := squares_all h x hx pl hpl
  refine ⟨K + 8, fun k hk => ?_⟩
  have er := fun (p : Int) (hp : 0 ≤ p) => rdI_nat _ P (rdL1_nat P) hp
  have hsq : ∀ i ∈ pl, impl_Sample_neighbors.sq k P x i = dstM P x i := fun i hi => by
    unfold impl_Sample_neighbors.sq
    rw [er i (hpl i hi).1, hK k (by omega) i hi]; rfl
  have hok : ∀ i ∈ pl, impl_Sample_neighbors.okB k P x i = true := fun i hi => by
    have hp := hpl i hi
    have h1 : i < 1000000 := by omega
    unfold impl_Sample_neighbors.okB
    rw [er i hp.1, hK k (by omega) i hi]
    simp [hp.1, hp.2, h1]
  have hcond : 8 ≤ k ∧ pl.length < 20 ∧ ∀ i ∈ pl, impl_Sample_neighbors.okB k P x i = true := ⟨by omega, h20, hok⟩
  simp only [impl_Sample_neighbors.f, dif_pos hcond]
  have hmap : (pl.attachWith (fun i => impl_Sample_neighbors.okB k P x i = true) hcond.2.2).map (fun z => z.1) = pl := by simp
  generalize pl.attachWith (fun i => impl_Sample_neighbors.okB k P x i = true) hcond.2.2 = l at hmap
  cases l with
  | nil => rw [← hmap] at h0; simp at h0
  | cons a l =>
    simp only [impl_Sample_neighbors.res]
    obtain ⟨hp, hs⟩ := impl_Sample_neighbors.srt_tell (⟨a⟩ : Inhabited (impl_Sample_neighbors.T k P x)) (a :: l)
    generalize impl_Sample_neighbors.srt (⟨a⟩ : Inhabited (impl_Sample_neighbors.T k P x)) (a :: l) = D at hp hs ⊢
    have hmem : ∀ z : impl_Sample_neighbors.T k P x, z ∈ D.toList → z.1 ∈ pl := fun z hz => by
      rw [← hmap]; exact List.mem_map_of_mem (hp.mem_iff.1 hz)
    have hpm : (D.toList.map (fun z => z.1)).Perm pl := by rw [← hmap]; exact hp.map _
    have hn := nearM_tell (dstM P x) q hq
    refine congrArg some (before_ext (dstM P x) _ _ ?_ hn.1 (fun z => by rw [hpm.mem_iff, hn.2.1, hm]))
    have hnd2 : (D.toList.map (fun z => z.1)).Nodup := hpm.nodup_iff.2 hnd
    have hne : D.toList.Pairwise (fun u v => u.1 ≠ v.1) := List.pairwise_map.1 hnd2
    rw [List.pairwise_map]
    refine List.Pairwise.imp_of_mem (fun {u v} hu hv huv => ?_) (hs.and hne)
    have h1 := (impl_Sample_neighbors.lt_no v u).1 huv.1
    rw [hsq _ (hmem u hu), hsq _ (hmem v hv)] at h1
    have h2 := huv.2
    unfold before; omega

theorem impl_Sample_near_ev {P : List (List Int)} {L : List Int} (h : sampleB P L = true) (x : List Int) (hx : x.length = (P.getD 0 []).length) (pl q : List Int) (hpl : ∀ i ∈ pl, 0 ≤ i ∧ i < P.length) (hnd : pl.Nodup) (h0 : 0 < pl.length) (h20 : pl.length < 20) (hq : q.Pairwise (· < ·)) (hm : ∀ z, z ∈ q ↔ z ∈ pl) (m : Int) (m0 : 0 ≤ m) (m1 : m ≤ pl.length) :
    Ev (fun k => impl_Sample_near.f k P L x pl m) (labelM P L q x m) := by
  have ht := sample_tell h
  refine Ev.bind (impl_Sample_neighbors_ev h x hx pl q hpl hnd h0 h20 hq hm) ?_
  have hqn : q.Nodup := hq.imp (fun h => by omega)
  have hql : q.length = pl.length := ((List.perm_ext_iff_of_nodup hqn hnd).2 hm).length_eq
  have hl := near_len (d := dstM P x) hq
  have hv : ∀ z ∈ nearM (dstM P x) q, 0 ≤ z ∧ z < P.length := fun z hz => hpl z ((hm z).1 (near_mem hq hz))
  unfold labelM
  generalize nearM (dstM P x) q = N at hl hv
  have c2 : m ≤ (N.length : Int) := by omega
  simp only [if_pos m0, if_pos c2]
  have hlen : (N.take m.toNat).length ≤ 20 := by rw [List.length_take]; omega
  refine Ev.bind (impl_at_ev L (N.take m.toNat) (by omega) (fun z hz => by have := hv z (List.mem_of_mem_take hz); omega)) (Ev.bind (impl_total_ev _ (by rw [atM, List.length_map]; unfold maxLen; omega)) ?_)
  simp only [ge_iff_le]
  refine ev_const fun k => ?_
  split <;> rfl

theorem impl_Sample_keeps_ev {P : List (List Int)} {L : List Int} (hs : sampleB P L = true) (q : List Int) (hr : q.Pairwise (· < ·)) (hq : ∀ i ∈ q, 0 ≤ i ∧ i < P.length) (hql : q.length < 20) (h0 : 0 < q.length) : Ev (fun k => impl_Sample_keeps.f k P L q) (keepsM P L q) := by
  have ht := sample_tell hs
  have hnd : q.Nodup := hr.imp (fun h => by omega)
  have hlab : ∀ i, i < P.length → Ev (fun k => impl_Sample_near.f k P L (P.getD i []) q 1) (labelM P L q (P.getD i []) 1) := fun i hi => impl_Sample_near_ev hs _ (ht.2.2.2 _ (getD_mem hi [])).2 q q hq hnd h0 hql hr (fun _ => Iff.rfl) 1 (by omega) (by omega)
  have st : ∀ i : Nat, i < P.length → To (fun k => impl_Sample_keeps.l0 k q P (P.length : Int) i P L) (fun k => if labelM P L q (P.getD i []) 1 = L.getD i 0 then impl_Sample_keeps.l0 k q P (P.length : Int) ((i + 1 : Nat) : Int) P L else some false) := fun i hi => by
    have c1 : (i : Int) < (P.length : Int) := by omega
    have c0 : 0 ≤ (i : Int) := by omega
    have c2 : (i : Int) < (L.length : Int) := by omega
    refine (To.step (f := fun k => (impl_Sample_near.f k P L (P.getD i []) q 1).bind fun u => if u = L.getD i 0 then impl_Sample_keeps.l0 k q P (P.length : Int) ((i + 1 : Nat) : Int) P L else some false) (fun k => by simp only [impl_Sample_keeps.l0, if_pos c1, if_pos c0, if_pos c2, rd_nat, rdL1_nat, wrap_succ hi (by omega : P.length ≤ 9223372036854775807)])).trans ?_
    exact To.bind (hlab i hi)
  refine ev_all (L := fun i k => impl_Sample_keeps.l0 k q P (P.length : Int) i P L) (n := P.length) (fun i hi hp => ?_) (fun i hi hp => ?_) ?_
  · exact (st i hi).trans (To.congr fun k => by rw [if_pos (of_decide_eq_true hp)])
  · exact st i hi _ (Ev.congr (f := fun _ => some false) (fun k => by rw [if_neg (of_decide_eq_false hp)]) (Ev.now _))
  · exact Ev.step' (f := fun _ => some true) (fun k => by simp only [impl_Sample_keeps.l0, if_neg (Int.lt_irrefl _)]) (Ev.now _)

theorem sets_eq : ∀ (m d : Nat) (x : Int) (s : List Int), impl_FewestPlaces.sets m d x s = setsM m d x s
  | m, 0, x, s => by rw [setsM_zero]; cases m <;> rfl
  | 0, _ + 1, _, _ => rfl
  | m + 1, d + 1, x, s => by rw [setsM_succ, ← sets_eq m d, ← sets_eq m (d + 1)]; rfl
theorem find_congr {α : Type} {p q : α → Bool} : ∀ (l : List α), (∀ t ∈ l, p t = q t) → l.find? p = l.find? q
  | [], _ => rfl
  | a :: l, h => by rw [List.find?_cons, List.find?_cons, h a List.mem_cons_self, find_congr l (fun t ht => h t (List.mem_cons_of_mem _ ht))]
theorem keeps_all {P : List (List Int)} {L : List Int} (hc : cleanB P L = true) : keepsM P L (leftM P.length []) = true := by
  refine List.all_eq_true.2 (fun i hi => decide_eq_true ?_)
  have hi := List.mem_range.1 hi
  exact label_own hc _ (leftM_rise [] P.length) (left_valid P.length []) i hi ((leftM_mem [] (i : Int) P.length).2 ⟨by omega, by omega, by simp⟩)
/-- All sets of at most n places, told at one number of rounds. -/
theorem ev_bound {α : Type} (l : List α) {g : α → Nat → Option Bool} {v : α → Bool} (h : ∀ t ∈ l, Ev (g t) (v t)) : ∃ K, ∀ k, K ≤ k → ∀ t ∈ l, g t k = some (v t) := by
  induction l with
  | nil => exact ⟨0, fun k _ t ht => by cases ht⟩
  | cons a l ih =>
    obtain ⟨K1, h1⟩ := h a List.mem_cons_self
    obtain ⟨K2, h2⟩ := ih (fun t ht => h t (List.mem_cons_of_mem _ ht))
    refine ⟨K1 + K2, fun k hk t ht => ?_⟩
    rcases List.mem_cons.1 ht with rfl | ht
    · exact h1 k (by omega)
    · exact h2 k (by omega) t ht
theorem ev_bound2 (n : Nat) (S : Nat → List (List Int)) {g : List Int → Nat → Option Bool} {v : List Int → Bool} (h : ∀ q, q ≤ n → ∀ t ∈ S q, Ev (g t) (v t)) : ∃ K, ∀ k, K ≤ k → ∀ q, q ≤ n → ∀ t ∈ S q, g t k = some (v t) := by
  induction n with
  | zero =>
    obtain ⟨K, hK⟩ := ev_bound (S 0) (fun t ht => h 0 (Nat.le_refl _) t ht)
    exact ⟨K, fun k hk q hq t ht => by obtain rfl : q = 0 := by omega
                                       exact hK k hk t ht⟩
  | succ n ih =>
    obtain ⟨K1, h1⟩ := ih (fun q hq => h q (by omega))
    obtain ⟨K2, h2⟩ := ev_bound (S (n + 1)) (fun t ht => h (n + 1) (Nat.le_refl _) t ht)
    refine ⟨K1 + K2, fun k hk q hq t ht => ?_⟩
    by_cases e : q = n + 1
    · subst e; exact h2 k (by omega) t ht
    · exact h1 k (by omega) q (by omega) t ht
theorem impl_few_l0 {P : List (List Int)} {L : List Int} (hc : cleanB P L = true) (k : Nat) (hk : ∀ q, 1 ≤ q → q ≤ P.length → ∀ t ∈ setsM P.length q 0 [], impl_FewestPlaces.keep k P L t = keepsM P L t) : ∀ (c kk : Nat), 1 ≤ kk → c + kk = P.length → impl_FewestPlaces.l0 k P L (c + 1) kk = (fewL P L c kk, true)
  | 0, kk, h1, h2 => by
    obtain rfl : kk = P.length := by omega
    have e : setsM P.length P.length 0 [] = [leftM P.length []] := by rw [setsM_full, upto_left, List.nil_append]
    have hq := find_congr _ (hk P.length h1 (Nat.le_refl _))
    simp only [impl_FewestPlaces.l0, sets_eq, hq, fewL]
    rw [e, List.find?_cons, keeps_all hc]
  | c + 1, kk, h1, h2 => by
    have ih := impl_few_l0 hc k hk c (kk + 1) (by omega) (by omega)
    have hq := find_congr _ (hk kk h1 (by omega))
    rw [impl_FewestPlaces.l0, sets_eq, hq]
    unfold fewL
    cases (setsM P.length kk 0 []).find? (keepsM P L) with
    | some t => rfl
    | none => exact ih
theorem impl_FewestPlaces_ev (P : List (List Int)) (L : List Int) (h : P.length ≤ maxLen) (hi : ∀ x ∈ P, x.length ≤ maxLen) (hL : L.length ≤ maxLen) : Ev (fun k => impl_FewestPlaces.f k P L) (fewestM P L) := by
  refine Ev.bind (impl_isClean_ev P L h hi hL) ?_
  unfold fewestM
  cases hc : cleanB P L with
  | false => simp only [Bool.false_eq_true, if_false, Bool.false_and]; exact Ev.now _
  | true =>
    have hs := (clean_tell hc).1
    by_cases h8 : P.length ≤ 8
    · have c : ¬ (P.length : Int) > 8 := by omega
      simp only [if_true, Bool.true_and, decide_eq_true h8, if_neg c]
      obtain ⟨K, hK⟩ := ev_bound2 P.length (fun q => if q = 0 then [] else setsM P.length q 0 []) (g := fun t k => impl_Sample_keeps.f k P L t) (v := keepsM P L) (fun q hq t ht => by
        by_cases e : q = 0
        · rw [if_pos e] at ht; cases ht
        · rw [if_neg e] at ht
          obtain ⟨h1, h2, h3⟩ := setsM_tell ht
          exact impl_Sample_keeps_ev hs t h1 h2 (by omega) (by omega))
      refine ⟨K, fun k hk => ?_⟩
      have hp := (clean_tell hc).2.1
      have hok : impl_FewestPlaces.ok k P L = true := List.all_eq_true.2 (fun q hq => List.all_eq_true.2 (fun t ht => by
        rw [sets_eq] at ht
        have := hK k hk (q + 1) (by have := List.mem_range.1 hq; omega) t (by rw [if_neg (Nat.succ_ne_zero q)]; exact ht)
        simp only [impl_FewestPlaces.good, this, Option.isSome_some]))
      have hl := impl_few_l0 hc k (fun q h1 h2 t ht => by
        have := hK k hk q h2 t (by rw [if_neg (by omega : ¬ q = 0)]; exact ht)
        simp only [impl_FewestPlaces.keep, this, Option.getD_some]) (P.length - 1) 1 (Nat.le_refl _) (by omega)
      rw [show P.length - 1 + 1 = P.length from by omega] at hl
      simp only [if_pos hok, hl]
    · have c : (P.length : Int) > 8 := by omega
      simp only [if_true, Bool.true_and, decide_eq_false h8, Bool.false_eq_true, if_false, if_pos c]
      exact Ev.now _

theorem laws_eqIntSS_ev (l : List (List Int)) (h : l.length ≤ maxLen) (hi : ∀ x ∈ l, x.length ≤ maxLen) : Ev (fun k => laws_eqIntSS.f k l l) true := by
  have h' : l.length ≤ 9223372036854775807 := h
  refine Ev.congr (f := fun k => laws_eqIntSS.l0 k l l 0) (fun k => by simp only [laws_eqIntSS.f, if_true]) ?_
  refine ev_yes (L := fun i k => laws_eqIntSS.l0 k l l i) (n := l.length) (fun i hi2 => ?_) (Ev.step' (f := fun _ => some true) (fun k => ?_) (Ev.now _))
  · have c1 : (i : Int) < (l.length : Int) := by omega
    have c0 : 0 ≤ (i : Int) := by omega
    refine (To.step (f := fun k => (laws_eqIntS.f k (l.getD i []) (l.getD i [])).bind fun t => if t = true then laws_eqIntSS.l0 k l l ((i + 1 : Nat) : Int) else some false) (fun k => ?_)).trans ((To.bind (laws_eqIntS_ev _ (hi _ (getD_mem hi2 [])))).trans (To.congr fun k => by simp only [if_true]))
    simp only [laws_eqIntSS.l0, if_pos c1, if_pos c0, rdL1_nat, wrap_succ hi2 h']
  · simp only [laws_eqIntSS.l0, if_neg (Int.lt_irrefl _)]

theorem laws_eqSample_ev (P : List (List Int)) (L : List Int) (h : P.length ≤ maxLen) (hi : ∀ x ∈ P, x.length ≤ maxLen) (hL : L.length ≤ maxLen) : Ev (fun k => laws_eqSample.f k P L P L) true := by
  refine Ev.bind (laws_eqIntSS_ev P h hi) ?_
  simp only [if_true]
  refine Ev.bind (laws_eqIntS_ev L hL) ?_
  simp only [if_true]
  exact Ev.now _

theorem laws_heldIntS_ev (l : List Int) (a : Int) (h0 : 0 ≤ a) (h1 : a + l.length ≤ 1000000000000) : Ev (fun k => laws_heldIntS.f k (iota a l) a) (a + l.length) := by
  have e := ev_held (0 : Int) (fun _ => 1) (fun a _ => a) l 1000000000000 (L := fun b i k => laws_heldIntS.l0 k (iota a l) b i) a (fun b i x hi hx hm ha hb => To.step fun k => by
    have c1 : (i : Int) < ((iota a l).length : Int) := by rw [iota_len]; omega
    have c3 : 0 ≤ (i : Int) := by omega
    have c4 : (iota a l).getD i 0 = b := hx
    have e : wrap64 (b + 1) = b + ((1 : Nat) : Int) := wrap_id (by omega) (by simpa using (by omega : b + 1 ≤ 9223372036854775807))
    simp only [laws_heldIntS.l0, if_pos c1, if_pos c3, rd_nat, if_pos c4, wrap_succ (i := i) (n := l.length) hi (by omega), e]) (fun b => Ev.step' (f := fun _ => some b) (fun k => by
    simp only [laws_heldIntS.l0, iota_len, if_neg (Int.lt_irrefl _)]) (Ev.now _)) h0 (by rw [sumN_one]; exact h1)
  rw [sumN_one] at e
  exact e

theorem laws_markIntSS_ev (P : List (List Int)) (a : Int) (h0 : 0 ≤ a) (h1 : a + sumN List.length P ≤ 1000000000000) (hP : P.length ≤ 1000000000000) : Ev (fun k => laws_markIntSS.f k P a) (a + sumN List.length P, iota2 a P) :=
  ev_mark ([] : List Int) List.length iota P 1000000000000 (L := fun ys a i k => laws_markIntSS.l0 k ys a i) (fun ys a i x hi hl hx hm ha hb r hr => by
    refine Ev.step' (f := fun k => (laws_markIntS.f k x a).bind fun b => laws_markIntSS.l0 k (ys.set i b.2) b.1 ((i + 1 : Nat) : Int)) (fun k => ?_) (Ev.bind (laws_markIntS_ev x a ha hb) hr)
    have c1 : (i : Int) < (ys.length : Int) := by omega
    have c3 : 0 ≤ (i : Int) := by omega
    simp only [laws_markIntSS.l0, if_pos c1, if_pos c3, Int.toNat_natCast, rdR_nat, hx, wrap_succ (i := i) (n := ys.length) (by omega) (by omega)]) (fun ys a hl => Ev.step' (f := fun _ => some (a, ys)) (fun k => by
    simp only [laws_markIntSS.l0, hl, if_neg (Int.lt_irrefl _)]) (Ev.now _)) a h0 h1

theorem laws_markSample_ev (P : List (List Int)) (L : List Int) (a : Int) (h0 : 0 ≤ a) (h1 : a + sumN List.length P + L.length ≤ 1000000000000) (hP : P.length ≤ 1000000000000) : Ev (fun k => laws_markSample.f k P L a) (a + sumN List.length P + L.length, iota2 a P, iota (a + sumN List.length P) L) :=
  Ev.bind (laws_markIntSS_ev P a h0 (by omega) hP) (Ev.bind (laws_markIntS_ev L (a + sumN List.length P) (by omega) h1) (Ev.now _))

theorem fewL_len (P : List (List Int)) (L : List Int) : ∀ (c kk : Nat), c + kk = P.length → (fewL P L c kk).length ≤ P.length
  | 0, kk, _ => leftM_le [] P.length
  | c + 1, kk, h => by
    unfold fewL
    cases hq : (setsM P.length kk 0 []).find? (keepsM P L) with
    | some t => have := (setsM_tell (List.mem_of_find?_eq_some hq)).2.2; show t.length ≤ _; omega
    | none => exact fewL_len P L c (kk + 1) (by omega)
theorem fewest_len (P : List (List Int)) (L : List Int) : (fewestM P L).1.length ≤ 16 := by
  unfold fewestM
  split
  · next hc =>
    simp only [Bool.and_eq_true, decide_eq_true_eq] at hc
    have := (clean_tell hc.1).2.1
    have := fewL_len P L (P.length - 1) 1 (by omega)
    show (fewL P L (P.length - 1) 1).length ≤ 16
    omega
  · exact Nat.zero_le _
theorem pure : SFnExactFewestPlaces.Pure := by
  intro P L ⟨h, hi0⟩ ⟨hL, _⟩
  have hi : ∀ x ∈ P, x.length ≤ maxLen := fun x hx => (hi0 x hx).1
  obtain ⟨K1, k1⟩ := laws_szSample_ev P L 1048576 h hi hL (by omega) (by omega)
  by_cases cn : lft 1048576 (sz2 P + L.length) < 0
  · exact .inl ⟨K1, _, k1 K1 (by omega), cn⟩
  · have d := lft_nonneg (Int.not_lt.1 cn)
    have hs := sz2_small (l := P) (n := 1048576) (by omega)
    have hsum : sumN List.length P ≤ 1048576 := by unfold sz2 at d; omega
    have hu := fewest_len P L
    obtain ⟨K2, k2⟩ := laws_toSample_ev P L hs.1 hs.2 (by omega)
    obtain ⟨K3, k3⟩ := spec_FewestPlaces_ev P L h hi hL
    obtain ⟨K4, k4⟩ := impl_FewestPlaces_ev P L h hi hL
    obtain ⟨K5, k5⟩ := laws_eqIntS_ev (fewestM P L).1 (by unfold maxLen; omega)
    obtain ⟨K6, k6⟩ := laws_eqSample_ev P L h hi hL
    obtain ⟨K7, k7⟩ := laws_markSample_ev P L 1 (by omega) (by omega) (by omega)
    obtain ⟨K8, k8⟩ := laws_markIntS_ev (fewestM P L).1 1 (by omega) (by omega)
    obtain ⟨K9, k9⟩ := laws_heldIntS_ev (fewestM P L).1 1 (by omega) (by omega)
    let K := K1 + K2 + K3 + K4 + K5 + K6 + K7 + K8 + K9
    exact .inr ⟨K, _, _, _, (fewestM P L).1, (fewestM P L).2, _, _, _, _, _, k1 K (by omega), k2 K (by omega), k3 K (by omega), k4 K (by omega), k5 K (by omega), k6 K (by omega), k7 K (by omega), k8 K (by omega), k9 K (by omega), Int.not_lt.1 cn, by omega, by omega⟩
end Go.Proofs.Ytfkfahdikmfpeaa.QFnExactFewestPlaces
