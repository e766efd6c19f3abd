/- FnExactLeftOutMistakes: what its calls come to, shown of numbers and lists alone. -/
import Derived.Test.YtihhedemdkifhaaSFnExactLeftOutMistakes
import Derived.Test.YtihhedemdkifhaaPm
namespace Go.Proofs.Ytihhedemdkifhaa.QFnExactLeftOutMistakes
open Go.RowKit Go.Proofs.Ytihhedemdkifhaa.KFnExactLeftOutMistakes Go.Proofs.Ytihhedemdkifhaa.Lb Go.Proofs.Ytihhedemdkifhaa.Pm Go.Proofs.Ytihhedemdkifhaa.PFnExactLeftOutMistakes Go.Proofs.YtihhedemdkifhaaW.PrintWords Go.Proofs.YtihhedemdkifhaaW.PrintLast Go.Proofs.YtihhedemdkifhaaW.PrintMore
set_option linter.unusedVariables false
set_option linter.unusedSimpArgs false
theorem rdL1_nat (xs : List (List Int)) (i : Nat) : rd_L1 xs (i : Int) = xs.getD i [] := by simp [rd_L1]

theorem rdL2_nat (xs : List (List (List Int))) (i : Nat) : rd_L2 xs (i : Int) = xs.getD i [] := by simp [rd_L2]

theorem rdT49_nat (xs : List S49) (i : Nat) : rd_T49 xs (i : Int) = xs.getD i z49 := by simp [rd_T49]

theorem laws_eqIntS_ev (l : List Int) (h : l.length ≤ maxLen) : Ev (fun k => laws_eqIntS.f k l l) true := by
  unfold maxLen at h
  refine Ev.congr (f := fun k => laws_eqIntS.l0 k l l 0) (fun k => by simp only [laws_eqIntS.f, if_true]) ?_
  refine ev_yes (L := fun i k => laws_eqIntS.l0 k l l i) (n := l.length) (fun i hi => To.step fun k => ?_) (Ev.step' (f := fun _ => some true) (fun k => ?_) (Ev.now _))
  · have c1 : (i : Int) < (l.length : Int) := by omega
    have c0 : 0 ≤ (i : Int) := by omega
    simp only [laws_eqIntS.l0, if_pos c1, if_pos c0, if_true, wrap_succ hi h]
  · simp only [laws_eqIntS.l0, if_neg (Int.lt_irrefl _)]

theorem laws_markIntS_ev (l : List Int) (a : Int) (h0 : 0 ≤ a) (h1 : a + l.length ≤ 1000000000000) : Ev (fun k => laws_markIntS.f k l a) (a + l.length, iota a l) := by
  have e := ev_mark (0 : Int) (fun _ => 1) (fun a _ => a) l 1000000000000 (L := fun ys a i k => laws_markIntS.l0 k ys a i) (fun ys a i x hi hl hx hm ha hb => To.step fun k => by
    have c1 : (i : Int) < (ys.length : Int) := by omega
    have c3 : 0 ≤ (i : Int) := by omega
    have e : wrap64 (a + 1) = a + ((1 : Nat) : Int) := wrap_id (by omega) (by simpa using (by omega : a + 1 ≤ 9223372036854775807))
    simp only [laws_markIntS.l0, if_pos c1, if_pos c3, Int.toNat_natCast, wrap_succ (i := i) (n := ys.length) (by omega) (by omega), e]) (fun ys a hl => Ev.step' (f := fun _ => some (a, ys)) (fun k => by
    simp only [laws_markIntS.l0, hl, if_neg (Int.lt_irrefl _)]) (Ev.now _)) a h0 (by rw [sumN_one]; exact h1)
  rw [sumN_one] at e
  exact e

theorem laws_szIntS_eq (l : List Int) (a : Int) (h : l.length ≤ maxLen) (h0 : 0 ≤ a) (h1 : a ≤ 1048576) : laws_szIntS.f l a = some (lft a l.length) := by
  unfold maxLen at h
  have hw : wrap64 (a - (l.length : Int)) = a - l.length := wrap_id (by omega) (by omega)
  unfold laws_szIntS.f lft
  rw [hw]
  by_cases c : (l.length : Int) ≤ a
  · rw [if_neg (by omega), if_pos c]
  · rw [if_pos (by omega), if_neg c]

theorem laws_szIntSS_ev (l : List (List Int)) (a : Int) (h : l.length ≤ maxLen) (hi : ∀ x ∈ l, x.length ≤ maxLen) (h0 : 0 ≤ a) (h1 : a ≤ 1048576) : Ev (fun k => laws_szIntSS.f k l a) (lft a (sz2 l)) := by
  have h' : l.length ≤ 9223372036854775807 := h
  unfold sz2 laws_szIntSS.f
  rw [← lft_add a _ _ h0]
  have hw : wrap64 (a - (l.length : Int)) = a - l.length := wrap_id (by omega) (by omega)
  rw [hw]
  by_cases c : (l.length : Int) ≤ a
  · have e : lft a l.length = a - l.length := by unfold lft; rw [if_pos c]
    rw [e]
    simp only [if_neg (show ¬ a - (l.length : Int) < 0 by omega)]
    refine ev_sz [] List.length l (L := fun a i k => laws_szIntSS.l0 k l a i) (fun i a hi2 h0 h1 hn => ?_) (fun i a hi2 h0 h1 hn => ?_) (fun a => Ev.step' (f := fun _ => some a) (fun k => by simp only [laws_szIntSS.l0, if_neg (Int.lt_irrefl _)]) (Ev.now _)) _ (by omega) (by omega)
    · have c1 : (i : Int) < (l.length : Int) := by omega
      have c0 : 0 ≤ (i : Int) := by omega
      refine To.step (fun k => ?_)
      simp only [laws_szIntSS.l0, if_pos c1, if_pos c0, rdL1_nat, laws_szIntS_eq _ a (hi _ (getD_mem hi2 [])) h0 h1, Option.bind_some, if_neg (show ¬ lft a (l.getD i []).length < 0 by omega), wrap_succ hi2 h']
    · have c1 : (i : Int) < (l.length : Int) := by omega
      have c0 : 0 ≤ (i : Int) := by omega
      refine Ev.step' (f := fun _ => some (-1)) (fun k => ?_) (Ev.now _)
      simp only [laws_szIntSS.l0, if_pos c1, if_pos c0, rdL1_nat, laws_szIntS_eq _ a (hi _ (getD_mem hi2 [])) h0 h1, Option.bind_some, if_pos hn]
  · have e : lft a l.length = -1 := by unfold lft; rw [if_neg c]
    rw [e]
    simp only [if_pos (show a - (l.length : Int) < 0 by omega), if_pos (show (-1 : Int) < 0 by omega)]
    exact Ev.now _

theorem laws_szSample_ev (P : List (List Int)) (L : List Int) (a : Int) (h : P.length ≤ maxLen) (hi : ∀ x ∈ P, x.length ≤ maxLen) (hL : L.length ≤ maxLen) (h0 : 0 ≤ a) (h1 : a ≤ 1048576) : Ev (fun k => laws_szSample.f k P L a) (lft a (sz2 P + L.length)) := by
  have hle := lft_le a (sz2 P) h0
  refine Ev.bind (laws_szIntSS_ev P a h hi h0 h1) ?_
  rw [← lft_add a _ _ h0]
  by_cases c : lft a (sz2 P) < 0
  · simp only [if_pos c]; exact Ev.now _
  · simp only [if_neg c, laws_szIntS_eq L _ hL (show 0 ≤ lft a (sz2 P) by omega) (show lft a (sz2 P) ≤ 1048576 by omega), Option.bind_some]
    by_cases c2 : lft (lft a (sz2 P)) L.length < 0
    · simp only [if_pos c2, lft_neg c2]; exact Ev.now _
    · simp only [if_neg c2]; exact Ev.now _

theorem laws_toIntS_ev (l : List Int) (h : l.length ≤ 1048576) : Ev (fun k => laws_toIntS.f k l) l := by
  have hw : wrap64 (l.length : Int) = l.length := wrap_id (by omega) (by omega)
  have c0 : 0 ≤ (l.length : Int) := by omega
  have e : ∀ k, laws_toIntS.f k l = laws_toIntS.l0 k l (List.replicate l.length 0) 0 := fun k => by
    simp only [laws_toIntS.f, if_pos c0, Int.toNat_natCast]; rw [if_pos (by omega)]
  refine Ev.congr e ?_
  have hf := to_fold (L := fun i (s : List Int) k => laws_toIntS.l0 k l s i) (n := l.length) (f := fun i s => s.set i (l.getD i 0)) (fun i s => s = l.take i ++ List.replicate (l.length - i) 0) (fun i s hi hs => ⟨To.step fun k => ?_, ?_⟩) (List.replicate l.length 0) (by simp)
  · refine hf.1 _ (Ev.step' (f := fun _ => some l) (fun k => ?_) (Ev.now _))
    have := hf.2
    rw [Nat.sub_self, List.take_length, List.replicate_zero, List.append_nil] at this
    show laws_toIntS.l0 (k + 1) l _ _ = _
    rw [this]
    simp only [laws_toIntS.l0, if_neg (Int.lt_irrefl _)]
  · have c1 : (i : Int) < (l.length : Int) := by omega
    have c2 : (i : Int) < (s.length : Int) := by rw [hs, List.length_append, List.length_take, List.length_replicate]; omega
    have c3 : 0 ≤ (i : Int) := by omega
    simp only [laws_toIntS.l0, if_pos c1, if_pos c2, if_pos c3, rd_nat, Int.toNat_natCast, wrap_succ hi (by omega : l.length ≤ 9223372036854775807)]
  · show List.set s i _ = _
    rw [hs]; exact set_step l 0 0 i hi

theorem laws_toIntSS_ev (l : List (List Int)) (h : l.length ≤ 1048576) (hi : ∀ x ∈ l, x.length ≤ 1048576) : Ev (fun k => laws_toIntSS.f k l) l := by
  have c0 : 0 ≤ (l.length : Int) := by omega
  have e : ∀ k, laws_toIntSS.f k l = laws_toIntSS.l0 k l (List.replicate l.length []) 0 := fun k => by
    simp only [laws_toIntSS.f, if_pos c0, Int.toNat_natCast]; rw [if_pos (by omega)]
  refine Ev.congr e ?_
  have hf := to_fold (L := fun i (s : List (List Int)) k => laws_toIntSS.l0 k l s i) (n := l.length) (f := fun i s => s.set i (l.getD i [])) (fun i s => s = l.take i ++ List.replicate (l.length - i) []) (fun i s hi2 hs => ⟨?_, ?_⟩) (List.replicate l.length []) (by simp)
  · refine hf.1 _ (Ev.step' (f := fun _ => some l) (fun k => ?_) (Ev.now _))
    have := hf.2
    rw [Nat.sub_self, List.take_length, List.replicate_zero, List.append_nil] at this
    show laws_toIntSS.l0 (k + 1) l _ _ = _
    rw [this]
    simp only [laws_toIntSS.l0, if_neg (Int.lt_irrefl _)]
  · have c1 : (i : Int) < (l.length : Int) := by omega
    have c2 : (i : Int) < (s.length : Int) := by rw [hs, List.length_append, List.length_take, List.length_replicate]; omega
    have c3 : 0 ≤ (i : Int) := by omega
    refine (To.step (f := fun k => (laws_toIntS.f k (l.getD i [])).bind fun t => laws_toIntSS.l0 k l (s.set i t) ((i + 1 : Nat) : Int)) (fun k => ?_)).trans (To.bind (laws_toIntS_ev _ (hi _ (getD_mem hi2 []))))
    simp only [laws_toIntSS.l0, if_pos c1, if_pos c2, if_pos c3, rdL1_nat, Int.toNat_natCast, wrap_succ hi2 (by omega : l.length ≤ 9223372036854775807)]
  · show List.set s i _ = _
    rw [hs]; exact set_step l [] [] i hi2

theorem laws_toSample_ev (P : List (List Int)) (L : List Int) (h : P.length ≤ 1048576) (hi : ∀ x ∈ P, x.length ≤ 1048576) (hL : L.length ≤ 1048576) : Ev (fun k => laws_toSample.f k P L) (P, L) := Ev.bind (laws_toIntSS_ev P h hi) (Ev.bind (laws_toIntS_ev L hL) (Ev.now _))

theorem laws_eqIntSS_ev (l : List (List Int)) (h : l.length ≤ maxLen) (hi : ∀ x ∈ l, x.length ≤ maxLen) : Ev (fun k => laws_eqIntSS.f k l l) true := by
  have h' : l.length ≤ 9223372036854775807 := h
  refine Ev.congr (f := fun k => laws_eqIntSS.l0 k l l 0) (fun k => by simp only [laws_eqIntSS.f, if_true]) ?_
  refine ev_yes (L := fun i k => laws_eqIntSS.l0 k l l i) (n := l.length) (fun i hi2 => ?_) (Ev.step' (f := fun _ => some true) (fun k => ?_) (Ev.now _))
  · have c1 : (i : Int) < (l.length : Int) := by omega
    have c0 : 0 ≤ (i : Int) := by omega
    refine (To.step (f := fun k => (laws_eqIntS.f k (l.getD i []) (l.getD i [])).bind fun t => if t = true then laws_eqIntSS.l0 k l l ((i + 1 : Nat) : Int) else some false) (fun k => ?_)).trans ((To.bind (laws_eqIntS_ev _ (hi _ (getD_mem hi2 [])))).trans (To.congr fun k => by simp only [if_true]))
    simp only [laws_eqIntSS.l0, if_pos c1, if_pos c0, rdL1_nat, wrap_succ hi2 h']
  · simp only [laws_eqIntSS.l0, if_neg (Int.lt_irrefl _)]

theorem laws_eqSample_ev (P : List (List Int)) (L : List Int) (h : P.length ≤ maxLen) (hi : ∀ x ∈ P, x.length ≤ maxLen) (hL : L.length ≤ maxLen) : Ev (fun k => laws_eqSample.f k P L P L) true := by
  refine Ev.bind (laws_eqIntSS_ev P h hi) ?_
  simp only [if_true]
  refine Ev.bind (laws_eqIntS_ev L hL) ?_
  simp only [if_true]
  exact Ev.now _

theorem laws_heldIntS_ev (l : List Int) (a : Int) (h0 : 0 ≤ a) (h1 : a + l.length ≤ 1000000000000) : Ev (fun k => laws_heldIntS.f k (iota a l) a) (a + l.length) := by
  have e := ev_held (0 : Int) (fun _ => 1) (fun a _ => a) l 1000000000000 (L := fun b i k => laws_heldIntS.l0 k (iota a l) b i) a (fun b i x hi hx hm ha hb => To.step fun k => by
    have c1 : (i : Int) < ((iota a l).length : Int) := by rw [iota_len]; omega
    have c3 : 0 ≤ (i : Int) := by omega
    have c4 : (iota a l).getD i 0 = b := hx
    have e : wrap64 (b + 1) = b + ((1 : Nat) : Int) := wrap_id (by omega) (by simpa using (by omega : b + 1 ≤ 9223372036854775807))
    simp only [laws_heldIntS.l0, if_pos c1, if_pos c3, rd_nat, if_pos c4, wrap_succ (i := i) (n := l.length) hi (by omega), e]) (fun b => Ev.step' (f := fun _ => some b) (fun k => by
    simp only [laws_heldIntS.l0, iota_len, if_neg (Int.lt_irrefl _)]) (Ev.now _)) h0 (by rw [sumN_one]; exact h1)
  rw [sumN_one] at e
  exact e

theorem spec_l1In_eq (x a b : Int) : spec_l1In.f x a b = some (inR a b x) := in_tells a b x

theorem spec_l2Labels_ev (l : List Int) (h : l.length ≤ maxLen) : Ev (fun k => spec_l2Labels.f k l) (l.all isLab) := by
  have h' : l.length ≤ 9223372036854775807 := h
  refine ev_list 0 l (fun i (_ : Unit) k => spec_l2Labels.l0 k l i) (fun _ ys _ => ys.all isLab) (fun _ _ => True) (fun _ _ => ?_) (fun i x ys _ hi hx hm _ ih => ?_) () trivial
  · exact Ev.step' (f := fun _ => some true) (fun k => by simp only [spec_l2Labels.l0, if_neg (Int.lt_irrefl _)]) (Ev.now _)
  · have c1 : (i : Int) < (l.length : Int) := by omega
    have c0 : 0 ≤ (i : Int) := by omega
    have ih := ih () trivial
    simp only [List.all_cons]
    unfold isLab at ih ⊢
    by_cases e1 : x = 1
    · rw [show (decide (x = 1) || decide (x = -1)) = true by simp [e1], Bool.true_and]
      exact Ev.step' (fun k => by simp only [spec_l2Labels.l0, if_pos c1, if_pos c0, rd_nat, hx, if_pos e1, wrap_succ hi h']) ih
    · by_cases e2 : x = -1
      · rw [show (decide (x = 1) || decide (x = -1)) = true by simp [e2], Bool.true_and]
        exact Ev.step' (fun k => by simp only [spec_l2Labels.l0, if_pos c1, if_pos c0, rd_nat, hx, if_neg e1, if_pos e2, wrap_succ hi h']) ih
      · rw [show (decide (x = 1) || decide (x = -1)) = false by simp [e1, e2], Bool.false_and]
        exact Ev.step' (f := fun _ => some false) (fun k => by simp only [spec_l2Labels.l0, if_pos c1, if_pos c0, rd_nat, hx, if_neg e1, if_neg e2]) (Ev.now _)

theorem spec_l2Numbers_ev (l : List Int) (m : Int) (h : l.length ≤ maxLen) : Ev (fun k => spec_l2Numbers.f k l m) (l.all (inR (wrap64 (-m)) m)) := by
  unfold maxLen at h
  rw [← range_all l (inR (wrap64 (-m)) m) 0]
  refine ev_all (L := fun i k => spec_l2Numbers.l0 k l m i) (fun i hi hp => To.step fun k => ?_) (fun i hi hp => Ev.step' (f := fun _ => some false) (fun k => ?_) (Ev.now _)) (Ev.step' (f := fun _ => some true) (fun k => ?_) (Ev.now _))
  · have c1 : (i : Int) < (l.length : Int) := by omega
    have c0 : 0 ≤ (i : Int) := by omega
    simp only [spec_l2Numbers.l0, if_pos c1, if_pos c0, spec_l1In_eq, rd_nat, hp, Option.bind_some, if_true, wrap_succ hi h]
  · have c1 : (i : Int) < (l.length : Int) := by omega
    have c0 : 0 ≤ (i : Int) := by omega
    simp only [spec_l2Numbers.l0, if_pos c1, if_pos c0, spec_l1In_eq, rd_nat, hp, Option.bind_some, Bool.false_eq_true, if_false]
  · simp only [spec_l2Numbers.l0, if_neg (Int.lt_irrefl _)]

theorem spec_l2Point_ev (l : List Int) (h : l.length ≤ maxLen) : Ev (fun k => spec_l2Point.f k l) (pointB l) := by
  have e : ∀ k, spec_l2Point.f k l = if inR 1 4 l.length = true then (spec_l2Numbers.f k l 9).bind (fun t => some t) else some false := fun k => by simp only [spec_l2Point.f, spec_l1In_eq, Option.bind_some]
  refine Ev.congr e ?_
  unfold pointB
  cases inR 1 4 l.length with
  | false => exact Ev.now _
  | true =>
    simp only [if_true, Bool.true_and]
    refine Ev.bind (spec_l2Numbers_ev l 9 h) ?_
    rw [show wrap64 (-9) = -9 from wrap_id (by omega) (by omega)]
    exact Ev.now _

theorem spec_l2Sample_ev (P : List (List Int)) (L : List Int) (h : P.length ≤ maxLen) (hi : ∀ x ∈ P, x.length ≤ maxLen) (hL : L.length ≤ maxLen) : Ev (fun k => spec_l2Sample.f k P L) (sampleB P L) := by
  have h' : P.length ≤ 9223372036854775807 := h
  have no : Ev (fun k => spec_l2Sample.j0 k true P L) false := Ev.step' (f := fun _ => some false) (fun k => by simp only [spec_l2Sample.j0, if_true]) (Ev.now _)
  unfold sampleB spec_l2Sample.f
  by_cases c : P.length ≤ 16
  · rw [decide_eq_true c, Bool.true_and]
    simp only [if_neg (show ¬ (P.length : Int) > 16 by omega)]
    by_cases c2 : L.length = P.length
    · rw [decide_eq_true c2, Bool.true_and]
      simp only [if_pos (show (L.length : Int) = (P.length : Int) by omega)]
      refine Ev.bind (spec_l2Labels_ev L hL) ?_
      cases L.all isLab with
      | false => exact no
      | true =>
        refine Ev.step' (f := fun k => spec_l2Sample.l0 k 0 P L) (fun k => by simp only [spec_l2Sample.j0, Bool.not_true, Bool.false_eq_true, if_false]) ?_
        rw [Bool.true_and]
        refine ev_list [] P (fun i (_ : Unit) k => spec_l2Sample.l0 k i P L) (fun _ ys _ => ys.all (ptB P)) (fun _ _ => True) (fun _ _ => ?_) (fun i x ys _ hi2 hx hm _ ih => ?_) () trivial
        · exact Ev.step' (f := fun _ => some true) (fun k => by simp only [spec_l2Sample.l0, if_neg (Int.lt_irrefl _)]) (Ev.now _)
        · have c1 : (i : Int) < (P.length : Int) := by omega
          have c0 : 0 ≤ (i : Int) := by omega
          have cp : 0 < (P.length : Int) := by omega
          rw [List.all_cons]
          unfold ptB
          refine Ev.step' (f := fun k => (spec_l2Point.f k x).bind fun t => if t = true then (if (x.length : Int) = ((P.getD 0 []).length : Int) then spec_l2Sample.l0 k ((i + 1 : Nat) : Int) P L else some false) else some false) (fun k => by simp only [spec_l2Sample.l0, if_pos c1, if_pos c0, if_pos cp, rdL1_nat, hx, wrap_succ hi2 h'] <;> rfl) ?_
          refine Ev.bind (spec_l2Point_ev x (hi x hm)) ?_
          cases pointB x with
          | false => exact Ev.now _
          | true =>
            simp only [if_true, Bool.true_and]
            by_cases c5 : x.length = (P.getD 0 []).length
            · rw [decide_eq_true c5, Bool.true_and]
              simp only [if_pos (show (x.length : Int) = ((P.getD 0 []).length : Int) by omega)]
              exact ih () trivial
            · rw [decide_eq_false c5, Bool.false_and]
              simp only [if_neg (show ¬ (x.length : Int) = ((P.getD 0 []).length : Int) by omega)]
              exact Ev.now _
    · rw [decide_eq_false c2, Bool.false_and]
      simp only [if_neg (show ¬ (L.length : Int) = (P.length : Int) by omega)]
      exact no
  · rw [decide_eq_false c, Bool.false_and]
    simp only [if_pos (show (P.length : Int) > 16 by omega)]
    exact no

theorem spec_l2Square_ev (x y : List Int) (hx : x.length ≤ maxLen) (hl : x.length ≤ y.length) : Ev (fun k => spec_l2Square.f k x y) (sqW x y) := by
  have h' : x.length ≤ 9223372036854775807 := hx
  have hf := to_fold (L := fun i (s : Int) k => spec_l2Square.l0 k x y s i) (n := x.length) (f := fun i s => sqStep x y s i) (fun _ _ => True) (fun i s hi _ => ⟨To.step fun k => by
    have c1 : (i : Int) < (x.length : Int) := by omega
    have c0 : 0 ≤ (i : Int) := by omega
    have c2 : (i : Int) < (y.length : Int) := by omega
    simp only [spec_l2Square.l0, if_pos c1, if_pos c0, if_pos c2, rd_nat, wrap_succ hi h', sqStep], trivial⟩) 0 trivial
  exact hf.1 _ (Ev.step' (f := fun _ => some (sqW x y)) (fun k => by simp only [spec_l2Square.l0, if_neg (Int.lt_irrefl _)]; rfl) (Ev.now _))

theorem spec_l10Near_ins {P : List (List Int)} {L : List Int} (h : sampleB P L = true) (x : List Int) (hx : x.length = (P.getD 0 []).length) (q : List Int) (hq : ∀ i ∈ q, 0 ≤ i ∧ i < P.length) (out : List Int) (ho : ∀ i ∈ out, 0 ≤ i ∧ i < P.length) (hol : out.length ≤ 1000) (i : Nat) (hi : i < q.length) :
    Ev (fun k => spec_l10Near.ins k P L q x out i) (insM (dstM P x) (q.getD i 0) out) := by
  have ht := sample_tell h
  have hsq : ∀ p : Int, 0 ≤ p → p < P.length → Ev (fun k => spec_l2Square.f k (P.getD p.toNat []) x) (dstM P x p) := fun p h0 h1 => by
    have hm := getD_mem (xs := P) (i := p.toNat) (by omega) []
    have hl := (ht.2.2.2 _ hm).2
    have := point_len (ht.2.2.2 _ hm).1
    exact spec_l2Square_ev _ x (by unfold maxLen; omega) (by omega)
  have hpi := hq _ (getD_mem hi 0)
  have c4 : 0 ≤ (i : Int) := by omega
  have c5 : (i : Int) < (q.length : Int) := by omega
  have fin : ∀ (j : Nat), j ≤ out.length → ([] : List Int).length + (out.take j).length < 17592186044416 ∧ (([] : List Int) ++ out.take j).length + [q.getD i 0].length < 17592186044416 ∧ ((([] : List Int) ++ out.take j) ++ [q.getD i 0]).length + (out.drop j).length < 17592186044416 := fun j hj => by
    have h1 : (out.take j).length ≤ out.length := by rw [List.length_take]; omega
    have h2 : (out.drop j).length ≤ out.length := by rw [List.length_drop]; omega
    refine ⟨by simp only [List.length_nil]; omega, by rw [List.length_append]; simp only [List.length_nil, List.length_cons]; omega, by rw [List.length_append, List.length_append]; simp only [List.length_nil, List.length_cons]; omega⟩
  have key : ∀ (dd j : Nat), j + dd = out.length → Ev (fun k => spec_l10Near.l1 k q x out i j P L) (out.take j ++ insM (dstM P x) (q.getD i 0) (out.drop j)) := by
    intro dd
    induction dd with
    | zero =>
      intro j hj
      obtain rfl : j = out.length := by omega
      obtain ⟨f1, f2, f3⟩ := fin out.length (Nat.le_refl _)
      have c0 : 0 ≤ (out.length : Int) := by omega
      refine ev_eq (Ev.step' (f := fun _ => some (([] ++ out.take out.length) ++ [q.getD i 0] ++ out.drop out.length)) (fun k => ?_) (Ev.now _)) ?_
      · simp only [spec_l10Near.l1, if_neg (Int.lt_irrefl _), Option.bind_some, if_pos c0, if_pos (Int.le_refl _), Int.toNat_natCast, if_pos f1, if_pos c4, if_pos c5, rd_nat, if_pos f2, if_pos f3]
      · simp [insM]
    | succ dd ih =>
      intro j hj
      have hjl : j < out.length := by omega
      have c1 : (j : Int) < (out.length : Int) := by omega
      have c0 : 0 ≤ (j : Int) := by omega
      have c2 : (j : Int) ≤ (out.length : Int) := by omega
      obtain ⟨g0, g1⟩ := ho _ (getD_mem hjl 0)
      have hd : out.drop j = out.getD j 0 :: out.drop (j + 1) := by rw [List.drop_eq_getElem_cons hjl]; simp [List.getD_eq_getElem?_getD, List.getElem?_eq_getElem hjl]
      have htk : out.take (j + 1) = out.take j ++ [out.getD j 0] := by rw [List.take_succ_eq_append_getElem hjl]; simp [List.getD_eq_getElem?_getD, List.getElem?_eq_getElem hjl]
      obtain ⟨f1, f2, f3⟩ := fin j (by omega)
      have er := fun (p : Int) (hp : 0 ≤ p) => rdI_nat _ P (rdL1_nat P) hp
      refine Ev.step' (f := fun k => (spec_l2Square.f k (P.getD (out.getD j 0).toNat []) x).bind fun a => (spec_l2Square.f k (P.getD (q.getD i 0).toNat []) x).bind fun b => if a ≤ b then spec_l10Near.l1 k q x out i ((j + 1 : Nat) : Int) P L else some (([] ++ out.take j) ++ [q.getD i 0] ++ out.drop j)) (fun k => ?_) ?_
      · simp only [spec_l10Near.l1, if_pos c1, if_pos c0, if_pos c2, rd_nat, if_pos g0, if_pos g1, er _ g0, if_pos c4, if_pos c5, if_pos hpi.1, if_pos hpi.2, er _ hpi.1, Option.bind_some, Int.toNat_natCast, if_pos f1, if_pos f2, if_pos f3, wrap_succ hjl (by omega : out.length ≤ 9223372036854775807)]
      refine Ev.bind (hsq _ g0 g1) (Ev.bind (hsq _ hpi.1 hpi.2) ?_)
      by_cases e : dstM P x (out.getD j 0) ≤ dstM P x (q.getD i 0)
      · simp only [if_pos e]
        refine ev_eq (ih (j + 1) (by omega)) ?_
        rw [hd, htk, insM, if_pos e, List.append_assoc]; rfl
      · simp only [if_neg e]
        refine ev_eq (Ev.now _) ?_
        rw [hd, insM, if_neg e]; simp
  refine ev_eq (Ev.congr (f := fun k => spec_l10Near.l1 k q x out i ((0 : Nat) : Int) P L) (fun k => rfl) (key out.length 0 (by omega))) (by simp)
theorem spec_l10Near_ev {P : List (List Int)} {L : List Int} (h : sampleB P L = true) (x : List Int) (hx : x.length = (P.getD 0 []).length) (q : List Int) (hq : ∀ i ∈ q, 0 ≤ i ∧ i < P.length) (hql : q.length ≤ 1000) :
    Ev (fun k => spec_l10Near.f k P L q x) (nearM (dstM P x) q) := by
  have hf := to_fold (L := fun i (s : List Int) k => spec_l10Near.l0 k P L q x s i) (n := q.length) (f := fun i s => insM (dstM P x) (q.getD i 0) s) (fun i s => s.length = i ∧ ∀ z ∈ s, 0 ≤ z ∧ z < P.length) (fun i s hi hs => ⟨?_, by rw [insM_len]; omega, fun z hz => ?_⟩) [] (by simp)
  · refine hf.1 _ ?_
    rw [range_fold q (fun out p => insM (dstM P x) p out) 0]
    exact Ev.step' (f := fun _ => some (nearM (dstM P x) q)) (fun k => by simp only [spec_l10Near.l0, if_neg (Int.lt_irrefl _)]; rfl) (Ev.now _)
  · have c1 : (i : Int) < (q.length : Int) := by omega
    refine (To.step (f := fun k => (spec_l10Near.ins k P L q x s i).bind fun y => spec_l10Near.l0 k P L q x y ((i + 1 : Nat) : Int)) (fun k => by simp only [spec_l10Near.l0, if_pos c1, wrap_succ hi (by omega : q.length ≤ 9223372036854775807)])).trans ?_
    exact To.bind (spec_l10Near_ins h x hx q hq s hs.2 (by omega) i hi)
  · rcases (insM_mem _ _ z s).1 hz with rfl | hz
    · exact hq _ (getD_mem hi 0)
    · exact hs.2 z hz

theorem spec_l10Label_ev {P : List (List Int)} {L : List Int} (h : sampleB P L = true) (x : List Int) (hx : x.length = (P.getD 0 []).length) (q : List Int) (hr : q.Pairwise (· < ·)) (hq : ∀ i ∈ q, 0 ≤ i ∧ i < P.length) (hql : q.length ≤ 1000) (m : Int) (h0 : 0 ≤ m) (hm : m ≤ q.length) :
    Ev (fun k => spec_l10Label.f k P L q x m) (labelM P L q x m) := by
  have ht := sample_tell h
  refine Ev.bind (spec_l10Near_ev h x hx q hq hql) ?_
  have hl := near_len (d := dstM P x) hr
  have hv : ∀ z ∈ nearM (dstM P x) q, 0 ≤ z ∧ z < P.length := fun z hz => hq z (near_mem hr hz)
  unfold labelM
  generalize nearM (dstM P x) q = N at hl hv
  obtain ⟨mm, rfl⟩ : ∃ mm : Nat, m = mm := ⟨m.toNat, by omega⟩
  rw [Int.toNat_natCast]
  have hf := to_fold (L := fun i (s : Int) k => spec_l10Label.l0 k (mm : Int) s N i P L) (n := mm) (f := fun i s => wrap64 (s + rd L (N.getD i 0))) (fun _ _ => True) (fun i s hi _ => ⟨To.step fun k => by
    have hv2 := hv _ (getD_mem (show i < N.length by omega) 0)
    have c1 : (i : Int) < (mm : Int) := by omega
    have c0 : 0 ≤ (i : Int) := by omega
    have c2 : (i : Int) < (N.length : Int) := by omega
    have c4 : N.getD i 0 < (L.length : Int) := by omega
    simp only [spec_l10Label.l0, if_pos c1, if_pos c0, if_pos c2, rd_nat, if_pos hv2.1, if_pos c4, wrap_succ hi (by omega : mm ≤ 9223372036854775807)], trivial⟩) 0 trivial
  have e : (List.range mm).foldl (fun s i => wrap64 (s + rd L (N.getD i 0))) 0 = sumW (atM L (N.take mm)) := by
    rw [take_fold N (fun s z => wrap64 (s + rd L z)) 0 mm (by omega), sumW, atM, List.foldl_map]
  rw [e] at hf
  refine hf.1 _ (Ev.step' (f := fun _ => some (if 0 ≤ sumW (atM L (N.take mm)) then 1 else -1)) (fun k => ?_) (Ev.now _))
  simp only [spec_l10Label.l0, if_neg (Int.lt_irrefl _), ge_iff_le]
  split <;> rfl

theorem spec_l1Has_ev (l : List Int) (v : Int) (h : l.length ≤ maxLen) : Ev (fun k => spec_l1Has.f k l v) (decide (0 < l.count v)) := by
  have h' : l.length ≤ 9223372036854775807 := h
  refine ev_list 0 l (fun i (_ : Unit) k => spec_l1Has.l0 k l v i) (fun _ ys _ => decide (0 < ys.count v)) (fun _ _ => True) (fun _ _ => ?_) (fun i x ys _ hi hx hm _ ih => ?_) () trivial
  · exact Ev.step' (f := fun _ => some false) (fun k => by simp only [spec_l1Has.l0, if_neg (Int.lt_irrefl _)]) (Ev.now _)
  · have c1 : (i : Int) < (l.length : Int) := by omega
    have c0 : 0 ≤ (i : Int) := by omega
    by_cases c : x = v
    · exact ev_eq (Ev.step' (f := fun _ => some true) (fun k => by simp only [spec_l1Has.l0, if_pos c1, if_pos c0, rd_nat, hx, if_pos c]) (Ev.now _)) (by simp [c])
    · exact ev_eq (Ev.step' (fun k => by simp only [spec_l1Has.l0, if_pos c1, if_pos c0, rd_nat, hx, if_neg c, wrap_succ hi h']) (ih () trivial)) (by simp [List.count_cons, c])

theorem spec_l4Left_ev (n : Nat) (l : List Int) (hn : n ≤ 1000) (hl : l.length ≤ maxLen) : Ev (fun k => spec_l4Left.f k (n : Int) l) (leftM n l) := by
  have hf := to_fold (L := fun i (s : List Int) k => spec_l4Left.l0 k (n : Int) l s i) (n := n) (f := fun i s => if 0 < l.count (i : Int) then s else s ++ [(i : Int)]) (fun i s => s.length ≤ i) (fun i s hi hs => ⟨?_, by split <;> (try rw [List.length_append]) <;> (try simp only [List.length_cons, List.length_nil]) <;> omega⟩) [] (Nat.le_refl _)
  · exact hf.1 _ (Ev.step' (f := fun _ => some (leftM n l)) (fun k => by simp only [spec_l4Left.l0, if_neg (Int.lt_irrefl _)]; rfl) (Ev.now _))
  · have c1 : (i : Int) < (n : Int) := by omega
    have c3 : s.length < 17592186044416 := by omega
    refine (To.step (f := fun k => (spec_l1Has.f k l (i : Int)).bind fun t => if t = true then spec_l4Left.l0 k (n : Int) l s ((i + 1 : Nat) : Int) else spec_l4Left.l0 k (n : Int) l (s ++ [(i : Int)]) ((i + 1 : Nat) : Int)) (fun k => by simp only [spec_l4Left.l0, if_pos c1, if_pos c3, wrap_succ hi (by omega : n ≤ 9223372036854775807)])).trans ?_
    refine (To.bind (spec_l1Has_ev l (i : Int) hl)).trans (To.congr fun k => ?_)
    by_cases c : 0 < l.count (i : Int)
    · simp only [decide_eq_true c, if_true, if_pos c]
    · simp only [decide_eq_false c, Bool.false_eq_true, if_false, if_neg c]

def leftOutL (P : List (List Int)) (L : List Int) (m : Int) : List Int := (List.range P.length).foldl (fun s (i : Nat) => if labelM P L (leftM P.length [(i : Int)]) (P.getD i []) m = L.getD i 0 then s else s ++ [(i : Int)]) []
def leftOutM (P : List (List Int)) (L : List Int) (m : Int) : List Int × Bool := if (sampleB P L && inR 1 ((P.length : Int) - 1) m) = true then (leftOutL P L m, true) else ([], false)
theorem leftOut_len (P : List (List Int)) (L : List Int) (m : Int) : (leftOutL P L m).length ≤ P.length := by
  have key : ∀ n : Nat, ((List.range n).foldl (fun s (i : Nat) => if labelM P L (leftM P.length [(i : Int)]) (P.getD i []) m = L.getD i 0 then s else s ++ [(i : Int)]) []).length ≤ n := by
    intro n
    induction n with
    | zero => simp
    | succ n ih =>
      rw [List.range_succ, List.foldl_append, List.foldl_cons, List.foldl_nil]
      split
      · omega
      · rw [List.length_append]; simp only [List.length_cons, List.length_nil]; omega
  exact key P.length
theorem spec_LeftOutMistakes_ev (P : List (List Int)) (L : List Int) (m : Int) (h : P.length ≤ maxLen) (hi : ∀ x ∈ P, x.length ≤ maxLen) (hL : L.length ≤ maxLen) : Ev (fun k => spec_LeftOutMistakes.f k P L m) (leftOutM P L m) := by
  have h' : P.length ≤ 9223372036854775807 := h
  have ew : wrap64 ((P.length : Int) - 1) = (P.length : Int) - 1 := wrap_id (by omega) (by omega)
  refine Ev.congr (f := fun k => (spec_l2Sample.f k P L).bind fun t => if t = true then spec_LeftOutMistakes.j0 k m [] (!(inR 1 ((P.length : Int) - 1) m)) P L else spec_LeftOutMistakes.j0 k m [] true P L) (fun k => by simp only [spec_LeftOutMistakes.f, Option.bind_some, ew, spec_l1In_eq]) ?_
  refine Ev.bind (spec_l2Sample_ev P L h hi hL) ?_
  unfold leftOutM
  cases hs : sampleB P L with
  | false =>
    simp only [Bool.false_eq_true, if_false, Bool.false_and]
    exact Ev.step' (f := fun _ => some ([], false)) (fun k => by simp only [spec_LeftOutMistakes.j0, if_true]) (Ev.now _)
  | true =>
    simp only [if_true, Bool.true_and]
    cases hm : inR 1 ((P.length : Int) - 1) m with
    | false =>
      simp only [Bool.false_eq_true, if_false]
      exact Ev.step' (f := fun _ => some ([], false)) (fun k => by simp only [spec_LeftOutMistakes.j0, Bool.not_false, if_true]) (Ev.now _)
    | true =>
      simp only [if_true]
      have ht := sample_tell hs
      have h5 := (inR_iff _ _ _).1 hm
      refine Ev.step' (f := fun k => spec_LeftOutMistakes.l0 k m [] 0 P L) (fun k => by simp only [spec_LeftOutMistakes.j0, Bool.not_true, Bool.false_eq_true, if_false]) ?_
      have hf := to_fold (L := fun i (s : List Int) k => spec_LeftOutMistakes.l0 k m s i P L) (n := P.length) (f := fun i s => if labelM P L (leftM P.length [(i : Int)]) (P.getD i []) m = L.getD i 0 then s else s ++ [(i : Int)]) (fun i s => s.length ≤ i) (fun i s hi hs2 => ⟨?_, by split <;> (try rw [List.length_append]) <;> (try simp only [List.length_cons, List.length_nil]) <;> omega⟩) [] (Nat.le_refl _)
      · exact hf.1 _ (Ev.step' (f := fun _ => some (leftOutL P L m, true)) (fun k => by simp only [spec_LeftOutMistakes.l0, if_neg (Int.lt_irrefl _)]; rfl) (Ev.now _))
      · have c1 : (i : Int) < (P.length : Int) := by omega
        have c0 : 0 ≤ (i : Int) := by omega
        have c2 : (i : Int) < (L.length : Int) := by omega
        have c3 : s.length < 17592186044416 := by omega
        have hll := left_one_len P.length i
        have hlt := leftM_le [(i : Int)] P.length
        have hm2 := (ht.2.2.2 _ (getD_mem hi [])).2
        refine (To.step (f := fun k => (spec_l4Left.f k (P.length : Int) [(i : Int)]).bind fun t => (spec_l10Label.f k P L t (P.getD i []) m).bind fun u => if u = L.getD i 0 then spec_LeftOutMistakes.l0 k m s ((i + 1 : Nat) : Int) P L else spec_LeftOutMistakes.l0 k m (s ++ [(i : Int)]) ((i + 1 : Nat) : Int) P L) (fun k => by simp only [spec_LeftOutMistakes.l0, if_pos c1, if_pos c0, if_pos c2, if_pos c3, rd_nat, rdL1_nat, wrap_succ hi h'])).trans ?_
        refine (To.bind (spec_l4Left_ev P.length [(i : Int)] (by omega) (by unfold maxLen; simp))).trans ((To.bind (spec_l10Label_ev hs _ hm2 _ (leftM_rise _ P.length) (left_valid _ _) (by omega) m (by omega) (by omega))).trans (To.congr fun k => ?_))
        split <;> rfl

theorem impl_within_eq (x a b : Int) : impl_within.f x a b = some (inR a b x) := in_tells a b x

theorem impl_allWithin_ev (l : List Int) (a b : Int) (h : l.length ≤ maxLen) : Ev (fun k => impl_allWithin.f k l a b) (l.all (inR a b)) := by
  unfold maxLen at h
  rw [← range_all l (inR a b) 0]
  refine ev_all (L := fun i k => impl_allWithin.l0 k a b l (l.length : Int) i) (fun i hi hp => To.step fun k => ?_) (fun i hi hp => Ev.step' (f := fun _ => some false) (fun k => ?_) (Ev.now _)) (Ev.step' (f := fun _ => some true) (fun k => ?_) (Ev.now _))
  · have c1 : (i : Int) < (l.length : Int) := by omega
    have c0 : 0 ≤ (i : Int) := by omega
    simp only [impl_allWithin.l0, if_pos c1, if_pos c0, impl_within_eq, rd_nat, hp, Option.bind_some, if_true, wrap_succ hi h]
  · have c1 : (i : Int) < (l.length : Int) := by omega
    have c0 : 0 ≤ (i : Int) := by omega
    simp only [impl_allWithin.l0, if_pos c1, if_pos c0, impl_within_eq, rd_nat, hp, Option.bind_some, Bool.false_eq_true, if_false]
  · simp only [impl_allWithin.l0, if_neg (Int.lt_irrefl _)]

theorem impl_IsPoint_ev (l : List Int) (h : l.length ≤ maxLen) : Ev (fun k => impl_IsPoint.f k l) (pointB l) := by
  have e : ∀ k, impl_IsPoint.f k l = if inR 1 4 l.length = true then (impl_allWithin.f k l (-9) 9).bind (fun t => some t) else some false := fun k => by simp only [impl_IsPoint.f, impl_within_eq, Option.bind_some]
  refine Ev.congr e ?_
  unfold pointB
  cases inR 1 4 l.length with
  | false => exact Ev.now _
  | true =>
    simp only [if_true, Bool.true_and]
    exact Ev.bind (impl_allWithin_ev l (-9) 9 h) (Ev.now _)

theorem impl_isLabel_eq (x : Int) : impl_isLabel.f x = some (isLab x) := by
  unfold impl_isLabel.f isLab
  by_cases e : x = 1
  · rw [if_pos e]; simp [e]
  · rw [if_neg e, decide_eq_false e, Bool.false_or]; rfl

theorem impl_IsSample_ev (P : List (List Int)) (L : List Int) (h : P.length ≤ maxLen) (hi : ∀ x ∈ P, x.length ≤ maxLen) (hL : L.length ≤ maxLen) : Ev (fun k => impl_IsSample.f k P L) (sampleB P L) := by
  have h' : P.length ≤ 9223372036854775807 := h
  have no : Ev (fun k => impl_IsSample.j0 k true P L) false := Ev.step' (f := fun _ => some false) (fun k => by simp only [impl_IsSample.j0, if_true]) (Ev.now _)
  unfold sampleB impl_IsSample.f
  by_cases c : P.length ≤ 16
  · rw [decide_eq_true c, Bool.true_and]
    simp only [if_neg (show ¬ (P.length : Int) > 16 by omega)]
    by_cases c2 : L.length = P.length
    · rw [decide_eq_true c2, Bool.true_and, show ((L.length : Int) != (P.length : Int)) = false by rw [bne_eq_false_iff_eq]; omega, Bool.and_comm]
      refine Ev.step' (f := fun k => impl_IsSample.l0 k P (P.length : Int) 0 P L) (fun k => by simp only [impl_IsSample.j0, Bool.false_eq_true, if_false]) ?_
      refine ev_list [] P (fun i (_ : Unit) k => impl_IsSample.l0 k P (P.length : Int) i P L) (fun i ys _ => ys.all (ptB P) && (L.drop i).all isLab) (fun _ _ => True) (fun _ _ => ?_) (fun i x ys _ hi2 hx hm _ ih => ?_) () trivial
      · rw [← c2, List.drop_length]
        exact Ev.step' (f := fun _ => some true) (fun k => by simp only [impl_IsSample.l0, c2, if_neg (Int.lt_irrefl _)]) (Ev.now _)
      · have c1 : (i : Int) < (P.length : Int) := by omega
        have c3 : (i : Int) < (L.length : Int) := by omega
        have c0 : 0 ≤ (i : Int) := by omega
        have cp : 0 < (P.length : Int) := by omega
        have hil : i < L.length := by omega
        rw [List.all_cons, List.drop_eq_getElem_cons hil, List.all_cons]
        unfold ptB
        refine Ev.step' (f := fun k => (impl_IsPoint.f k x).bind fun t => if t = true then (if (x.length : Int) = ((P.getD 0 []).length : Int) then (if isLab L[i] = true then impl_IsSample.l0 k P (P.length : Int) ((i + 1 : Nat) : Int) P L else some false) else some false) else some false) (fun k => by simp only [impl_IsSample.l0, if_pos c1, if_pos c0, if_pos c3, if_pos cp, rdL1_nat, rd_nat, hx, impl_isLabel_eq, Option.bind_some, wrap_succ hi2 h', List.getD_eq_getElem?_getD, List.getElem?_eq_getElem hil, Option.getD_some] <;> rfl) ?_
        refine Ev.bind (impl_IsPoint_ev x (hi x hm)) ?_
        cases pointB x with
        | false => exact Ev.now _
        | true =>
          simp only [if_true, Bool.true_and]
          by_cases c5 : x.length = (P.getD 0 []).length
          · rw [decide_eq_true c5, Bool.true_and]
            simp only [if_pos (show (x.length : Int) = ((P.getD 0 []).length : Int) by omega)]
            cases isLab L[i] with
            | false => simp only [Bool.false_and, Bool.and_false]; exact Ev.now _
            | true => simp only [if_true, Bool.true_and]; exact ih () trivial
          · rw [decide_eq_false c5, Bool.false_and, Bool.false_and]
            simp only [if_neg (show ¬ (x.length : Int) = ((P.getD 0 []).length : Int) by omega)]
            exact Ev.now _
    · rw [decide_eq_false c2, Bool.false_and, show ((L.length : Int) != (P.length : Int)) = true by rw [bne_iff_ne]; omega]
      exact no
  · rw [decide_eq_false c, Bool.false_and]
    simp only [if_pos (show (P.length : Int) > 16 by omega)]
    exact no

theorem impl_copied_eq (l : List Int) (h : l.length ≤ 1000) : impl_copied.f l = some l := by
  have c : ([] : List Int).length + l.length < 17592186044416 := by rw [List.length_nil]; omega
  simp only [impl_copied.f, Option.bind_some, if_pos c, List.nil_append]


theorem cmp_isNaN_int_eq (x : Int) : cmp_isNaN_int.f x = some false := by simp [cmp_isNaN_int.f]

def cmpZ (x y : Int) : Int := if x < y then -1 else if x > y then 1 else 0
theorem cmp_Compare_int_eq (x y : Int) : cmp_Compare_int.f x y = some (cmpZ x y) := by
  simp only [cmp_Compare_int.f, cmp_isNaN_int_eq, Option.bind_some, Bool.false_eq_true, if_false, cmpZ]
  split
  · rfl
  · split <;> rfl

theorem impl_squares_ev (x y : List Int) (hx : x.length ≤ maxLen) (hl : x.length ≤ y.length) : Ev (fun k => impl_squares.f k x y) (sqW x y) := by
  have h' : x.length ≤ 9223372036854775807 := hx
  have hf := to_fold (L := fun i (s : Int) k => impl_squares.l0 k y s x (x.length : Int) i) (n := x.length) (f := fun i s => sqStep x y s i) (fun _ _ => True) (fun i s hi _ => ⟨To.step fun k => by
    have c1 : (i : Int) < (x.length : Int) := by omega
    have c0 : 0 ≤ (i : Int) := by omega
    have c2 : (i : Int) < (y.length : Int) := by omega
    simp only [impl_squares.l0, if_pos c1, if_pos c0, if_pos c2, rd_nat, wrap_succ hi h', sqStep], trivial⟩) 0 trivial
  exact hf.1 _ (Ev.step' (f := fun _ => some (sqW x y)) (fun k => by simp only [impl_squares.l0, if_neg (Int.lt_irrefl _)]; rfl) (Ev.now _))

theorem squares_all {P : List (List Int)} {L : List Int} (h : sampleB P L = true) (x : List Int) (hx : x.length = (P.getD 0 []).length) : ∀ (pl : List Int), (∀ i ∈ pl, 0 ≤ i ∧ i < P.length) → ∃ K, ∀ k, K ≤ k → ∀ i ∈ pl, impl_squares.f k (P.getD i.toNat []) x = some (dstM P x i)
  | [], _ => ⟨0, fun _ _ i hi => by cases hi⟩
  | p :: pl, hp => by
    have ht := sample_tell h
    obtain ⟨K1, k1⟩ := squares_all h x hx pl (fun i hi => hp i (List.mem_cons_of_mem _ hi))
    obtain ⟨p0, p1⟩ := hp p List.mem_cons_self
    have hm := getD_mem (xs := P) (i := p.toNat) (by omega) []
    have hl := (ht.2.2.2 _ hm).2
    have hn := point_len (ht.2.2.2 _ hm).1
    obtain ⟨K2, k2⟩ := impl_squares_ev (P.getD p.toNat []) x (by unfold maxLen; omega) (by omega)
    refine ⟨K1 + K2, fun k hk i hi => ?_⟩
    rcases List.mem_cons.1 hi with rfl | hi
    · exact k2 k (by omega)
    · exact k1 k (by omega) i hi
theorem impl_Sample_neighbors_ev {P : List (List Int)} {L : List Int} (h : sampleB P L = true) (x : List Int) (hx : x.length = (P.getD 0 []).length) (pl q : List Int) (hpl : ∀ i ∈ pl, 0 ≤ i ∧ i < P.length) (hnd : pl.Nodup) (h0 : 0 < pl.length) (h20 : pl.length < 20) (hq : q.Pairwise (· < ·)) (hm : ∀ z, z ∈ q ↔ z ∈ pl) :
    Ev (fun k => impl_Sample_neighbors.f k P L x pl) (nearM (dstM P x) q) := by
  have ht := sample_tell h
  obtain ⟨K, hK⟩ := squares_all h x hx pl hpl
  refine ⟨K + 8, fun k hk => ?_⟩
  have er := fun (p : Int) (hp : 0 ≤ p) => rdI_nat _ P (rdL1_nat P) hp
  have hsq : ∀ i ∈ pl, impl_Sample_neighbors.sq k P x i = dstM P x i := fun i hi => by
    unfold impl_Sample_neighbors.sq
    rw [er i (hpl i hi).1, hK k (by omega) i hi]; rfl
  have hok : ∀ i ∈ pl, impl_Sample_neighbors.okB k P x i = true := fun i hi => by
    have hp := hpl i hi
    have h1 : i < 1000000 := by omega
    unfold impl_Sample_neighbors.okB
    rw [er i hp.1, hK k (by omega) i hi]
    simp [hp.1, hp.2, h1]
  have hcond : 8 ≤ k ∧ pl.length < 20 ∧ ∀ i ∈ pl, impl_Sample_neighbors.okB k P x i = true := ⟨by omega, h20, hok⟩
  simp only [impl_Sample_neighbors.f, dif_pos hcond]
  have hmap : (pl.attachWith (fun i => impl_Sample_neighbors.okB k P x i = true) hcond.2.2).map (fun z => z.1) = pl := by simp
  generalize pl.attachWith (fun i => impl_Sample_neighbors.okB k P x i = true) hcond.2.2 = l at hmap
  cases l with
  | nil => rw [← hmap] at h0; simp at h0
  | cons a l =>
    simp only [impl_Sample_neighbors.res]
    obtain ⟨hp, hs⟩ := impl_Sample_neighbors.srt_tell (⟨a⟩ : Inhabited (impl_Sample_neighbors.T k P x)) (a :: l)
    generalize impl_Sample_neighbors.srt (⟨a⟩ : Inhabited (impl_Sample_neighbors.T k P x)) (a :: l) = D at hp hs ⊢
    have hmem : ∀ z : impl_Sample_neighbors.T k P x, z ∈ D.toList → z.1 ∈ pl := fun z hz => by
      rw [← hmap]; exact List.mem_map_of_mem (hp.mem_iff.1 hz)
    have hpm : (D.toList.map (fun z => z.1)).Perm pl := by rw [← hmap]; exact hp.map _
    have hn := nearM_tell (dstM P x) q hq
    refine congrArg some (before_ext (dstM P x) _ _ ?_ hn.1 (fun z => by rw [hpm.mem_iff, hn.2.1, hm]))
    have hnd2 : (D.toList.map (fun z => z.1)).Nodup := hpm.nodup_iff.2 hnd
    have hne : D.toList.Pairwise (fun u v => u.1 ≠ v.1) := List.pairwise_map.1 hnd2
    rw [List.pairwise_map]
    refine List.Pairwise.imp_of_mem (fun {u v} hu hv huv => ?_) (hs.and hne)
    have h1 := (impl_Sample_neighbors.lt_no v u).1 huv.1
    rw [hsq _ (hmem u hu), hsq _ (hmem v hv)] at h1
    have h2 := huv.2
    unfold before; omega

theorem impl_total_ev (l : List Int) (h : l.length ≤ maxLen) : Ev (fun k => impl_total.f k l) (sumW l) := by
  have h' : l.length ≤ 9223372036854775807 := h
  refine ev_list 0 l (fun i s k => impl_total.l0 k s l (l.length : Int) i) (fun _ ys s => ys.foldl (fun s x => wrap64 (s + x)) s) (fun _ _ => True) (fun s _ => ?_) (fun i x ys s hi hx _ _ ih => ?_) 0 trivial
  · exact Ev.step' (f := fun _ => some s) (fun k => by simp only [impl_total.l0, if_neg (Int.lt_irrefl _)]) (Ev.now _)
  · have c1 : (i : Int) < (l.length : Int) := by omega
    have c0 : 0 ≤ (i : Int) := by omega
    rw [List.foldl_cons]
    exact Ev.step' (fun k => by simp only [impl_total.l0, if_pos c1, if_pos c0, rd_nat, hx, wrap_succ hi h']) (ih _ trivial)

theorem impl_at_ev (row set : List Int) (h : set.length ≤ 1048576) (hx : ∀ x ∈ set, 0 ≤ x ∧ x < (row.length : Int)) : Ev (fun k => impl_at.f k row set) (atM row set) := by
  have hf := to_fold (L := fun j (s : List Int) k => impl_at.l0 k row s set (set.length : Int) j) (n := set.length) (f := fun j s => s ++ [row.getD (set.getD j 0).toNat 0]) (fun j s => s.length = j) (fun j s hj hs => ⟨To.step fun k => by
    have c1 : (j : Int) < (set.length : Int) := by omega
    have c0 : 0 ≤ (j : Int) := by omega
    have q := hx _ (getD_mem hj 0)
    have c3 : s.length < 17592186044416 := by omega
    have e : rd row (set.getD j 0) = row.getD (set.getD j 0).toNat 0 := rfl
    simp only [impl_at.l0, if_pos c1, if_pos c0, rd_nat, if_pos q.1, if_pos q.2, if_pos c3, e, wrap_succ hj (show set.length ≤ 9223372036854775807 by omega)], by rw [List.length_append, hs]; rfl⟩) [] rfl
  refine ev_eq (hf.1 _ (Ev.step' (f := fun _ => some ((List.range set.length).foldl (fun s i => s ++ [row.getD (set.getD i 0).toNat 0]) [])) (fun k => by simp only [impl_at.l0, if_neg (Int.lt_irrefl _)]) (Ev.now _))) ?_
  rw [fold_append, List.nil_append]
  exact range_map set (fun x => row.getD x.toNat 0) 0

theorem impl_Sample_near_ev {P : List (List Int)} {L : List Int} (h : sampleB P L = true) (x : List Int) (hx : x.length = (P.getD 0 []).length) (pl q : List Int) (hpl : ∀ i ∈ pl, 0 ≤ i ∧ i < P.length) (hnd : pl.Nodup) (h0 : 0 < pl.length) (h20 : pl.length < 20) (hq : q.Pairwise (· < ·)) (hm : ∀ z, z ∈ q ↔ z ∈ pl) (m : Int) (m0 : 0 ≤ m) (m1 : m ≤ pl.length) :
    Ev (fun k => impl_Sample_near.f k P L x pl m) (labelM P L q x m) := by
  have ht := sample_tell h
  refine Ev.bind (impl_Sample_neighbors_ev h x hx pl q hpl hnd h0 h20 hq hm) ?_
  have hqn : q.Nodup := hq.imp (fun h => by omega)
  have hql : q.length = pl.length := ((List.perm_ext_iff_of_nodup hqn hnd).2 hm).length_eq
  have hl := near_len (d := dstM P x) hq
  have hv : ∀ z ∈ nearM (dstM P x) q, 0 ≤ z ∧ z < P.length := fun z hz => hpl z ((hm z).1 (near_mem hq hz))
  unfold labelM
  generalize nearM (dstM P x) q = N at hl hv
  have c2 : m ≤ (N.length : Int) := by omega
  simp only [if_pos m0, if_pos c2]
  have hlen : (N.take m.toNat).length ≤ 20 := by rw [List.length_take]; omega
  refine Ev.bind (impl_at_ev L (N.take m.toNat) (by omega) (fun z hz => by have := hv z (List.mem_of_mem_take hz); omega)) (Ev.bind (impl_total_ev _ (by rw [atM, List.length_map]; unfold maxLen; omega)) ?_)
  simp only [ge_iff_le]
  refine ev_const fun k => ?_
  split <;> rfl

theorem slices_Index_ev (l : List Int) (r : Nat) (hr : Fst l l.length r) (h : l.length ≤ maxLen) : Ev (fun k => slices_Index_int_int.f k l (l.getD r 0)) (r : Int) := by
  have h' : l.length ≤ 9223372036854775807 := h
  have hr1 := hr.1
  refine ev_yes (L := fun i k => slices_Index_int_int.l0 k l (l.getD r 0) (l.length : Int) i) (n := r) (fun i hi => To.step fun k => ?_) (Ev.step' (f := fun _ => some (r : Int)) (fun k => ?_) (Ev.now _))
  · have c1 : (i : Int) < (l.length : Int) := by omega
    have c2 : 0 ≤ (i : Int) := by omega
    have c3 : ¬ l.getD r 0 = l.getD i 0 := by have := hr.2.2 i hi; omega
    simp only [slices_Index_int_int.l0, if_pos c1, if_pos c2, rd_nat, if_neg c3, wrap_succ (by omega : i < l.length) h']
  · have c1 : (r : Int) < (l.length : Int) := by omega
    have c2 : 0 ≤ (r : Int) := by omega
    simp only [slices_Index_int_int.l0, if_pos c1, if_pos c2, rd_nat, if_true]

/-- The first place of a number behind a place, or -1. -/
def idxF (v : Int) : Nat → List Int → Int
  | _, [] => -1
  | i, x :: xs => if v = x then (i : Int) else idxF v (i + 1) xs
theorem idxF_iff (v : Int) : ∀ (i : Nat) (l : List Int), (0 ≤ idxF v i l ↔ 0 < l.count v)
  | i, [] => by simp [idxF]
  | i, x :: xs => by
    unfold idxF
    by_cases c : v = x
    · subst c; simp
    · rw [if_neg c, idxF_iff v (i + 1) xs, List.count_cons]
      have : ¬ x = v := fun e => c e.symm
      simp [this]
theorem slices_Index_all (l : List Int) (v : Int) (h : l.length ≤ maxLen) : Ev (fun k => slices_Index_int_int.f k l v) (idxF v 0 l) := by
  have h' : l.length ≤ 9223372036854775807 := h
  refine ev_list 0 l (fun i (_ : Unit) k => slices_Index_int_int.l0 k l v (l.length : Int) i) (fun i ys _ => idxF v i ys) (fun _ _ => True) (fun _ _ => ?_) (fun i x ys _ hi hx hm _ ih => ?_) () trivial
  · exact Ev.step' (f := fun _ => some (-1)) (fun k => by simp only [slices_Index_int_int.l0, if_neg (Int.lt_irrefl _)]) (Ev.now _)
  · have c1 : (i : Int) < (l.length : Int) := by omega
    have c0 : 0 ≤ (i : Int) := by omega
    by_cases c : v = x
    · exact ev_eq (Ev.step' (f := fun _ => some (i : Int)) (fun k => by simp only [slices_Index_int_int.l0, if_pos c1, if_pos c0, rd_nat, hx, if_pos c]) (Ev.now _)) (by simp [idxF, c])
    · exact ev_eq (Ev.step' (fun k => by simp only [slices_Index_int_int.l0, if_pos c1, if_pos c0, rd_nat, hx, if_neg c, wrap_succ hi h']) (ih () trivial)) (by simp [idxF, c])
theorem slices_Contains_ev (l : List Int) (v : Int) (h : l.length ≤ maxLen) : Ev (fun k => slices_Contains_int_int.f k l v) (decide (0 < l.count v)) := by
  refine ev_eq (Ev.bind (slices_Index_all l v h) (Ev.now _)) ?_
  exact decide_eq_decide.2 (idxF_iff v 0 l)

theorem impl_without_ev (n : Nat) (l : List Int) (hn : n ≤ 1000) (hl : l.length ≤ maxLen) : Ev (fun k => impl_without.f k (n : Int) l) (leftM n l) := by
  have hf := to_fold (L := fun i (s : List Int) k => impl_without.l0 k l s (n : Int) i) (n := n) (f := fun i s => if 0 < l.count (i : Int) then s else s ++ [(i : Int)]) (fun i s => s.length ≤ i) (fun i s hi hs => ⟨?_, by split <;> (try rw [List.length_append]) <;> (try simp only [List.length_cons, List.length_nil]) <;> omega⟩) [] (Nat.le_refl _)
  · exact hf.1 _ (Ev.step' (f := fun _ => some (leftM n l)) (fun k => by simp only [impl_without.l0, if_neg (Int.lt_irrefl _)]; rfl) (Ev.now _))
  · have c1 : (i : Int) < (n : Int) := by omega
    have c3 : s.length < 17592186044416 := by omega
    refine (To.step (f := fun k => (slices_Contains_int_int.f k l (i : Int)).bind fun t => if t = true then impl_without.l0 k l s (n : Int) ((i + 1 : Nat) : Int) else impl_without.l0 k l (s ++ [(i : Int)]) (n : Int) ((i + 1 : Nat) : Int)) (fun k => by simp only [impl_without.l0, if_pos c1, if_pos c3, wrap_succ hi (by omega : n ≤ 9223372036854775807)])).trans ?_
    refine (To.bind (slices_Contains_ev l (i : Int) hl)).trans (To.congr fun k => ?_)
    by_cases c : 0 < l.count (i : Int)
    · simp only [decide_eq_true c, if_true, if_pos c]
    · simp only [decide_eq_false c, Bool.false_eq_true, if_false, if_neg c]

theorem impl_LeftOutMistakes_ev (P : List (List Int)) (L : List Int) (m : Int) (h : P.length ≤ maxLen) (hi : ∀ x ∈ P, x.length ≤ maxLen) (hL : L.length ≤ maxLen) : Ev (fun k => impl_LeftOutMistakes.f k P L m) (leftOutM P L m) := by
  have h' : P.length ≤ 9223372036854775807 := h
  have ew : wrap64 ((P.length : Int) - 1) = (P.length : Int) - 1 := wrap_id (by omega) (by omega)
  refine Ev.congr (f := fun k => (impl_IsSample.f k P L).bind fun t => if t = true then impl_LeftOutMistakes.j0 k m (!(inR 1 ((P.length : Int) - 1) m)) P L else impl_LeftOutMistakes.j0 k m true P L) (fun k => by simp only [impl_LeftOutMistakes.f, Option.bind_some, ew, impl_within_eq]) ?_
  refine Ev.bind (impl_IsSample_ev P L h hi hL) ?_
  unfold leftOutM
  cases hs : sampleB P L with
  | false =>
    simp only [Bool.false_eq_true, if_false, Bool.false_and]
    exact Ev.step' (f := fun _ => some ([], false)) (fun k => by simp only [impl_LeftOutMistakes.j0, if_true]) (Ev.now _)
  | true =>
    simp only [if_true, Bool.true_and]
    cases hm : inR 1 ((P.length : Int) - 1) m with
    | false =>
      simp only [Bool.false_eq_true, if_false]
      exact Ev.step' (f := fun _ => some ([], false)) (fun k => by simp only [impl_LeftOutMistakes.j0, Bool.not_false, if_true]) (Ev.now _)
    | true =>
      simp only [if_true]
      have ht := sample_tell hs
      have h5 := (inR_iff _ _ _).1 hm
      refine Ev.step' (f := fun k => impl_LeftOutMistakes.l0 k m [] P (P.length : Int) 0 P L) (fun k => by simp only [impl_LeftOutMistakes.j0, Bool.not_true, Bool.false_eq_true, if_false]) ?_
      have hf := to_fold (L := fun i (s : List Int) k => impl_LeftOutMistakes.l0 k m s P (P.length : Int) i P L) (n := P.length) (f := fun i s => if labelM P L (leftM P.length [(i : Int)]) (P.getD i []) m = L.getD i 0 then s else s ++ [(i : Int)]) (fun i s => s.length ≤ i) (fun i s hi hs2 => ⟨?_, by split <;> (try rw [List.length_append]) <;> (try simp only [List.length_cons, List.length_nil]) <;> omega⟩) [] (Nat.le_refl _)
      · exact hf.1 _ (Ev.step' (f := fun _ => some (leftOutL P L m, true)) (fun k => by simp only [impl_LeftOutMistakes.l0, if_neg (Int.lt_irrefl _)]; rfl) (Ev.now _))
      · have c1 : (i : Int) < (P.length : Int) := by omega
        have c0 : 0 ≤ (i : Int) := by omega
        have c2 : (i : Int) < (L.length : Int) := by omega
        have c3 : s.length < 17592186044416 := by omega
        have hll := left_one_len P.length i
        have hlt := leftM_le [(i : Int)] P.length
        have hm2 := (ht.2.2.2 _ (getD_mem hi [])).2
        refine (To.step (f := fun k => (impl_without.f k (P.length : Int) [(i : Int)]).bind fun t => (impl_Sample_near.f k P L (P.getD i []) t m).bind fun u => if u = L.getD i 0 then impl_LeftOutMistakes.l0 k m s P (P.length : Int) ((i + 1 : Nat) : Int) P L else impl_LeftOutMistakes.l0 k m (s ++ [(i : Int)]) P (P.length : Int) ((i + 1 : Nat) : Int) P L) (fun k => by simp only [impl_LeftOutMistakes.l0, if_pos c1, if_pos c0, if_pos c2, if_pos c3, rd_nat, rdL1_nat, wrap_succ hi h'])).trans ?_
        refine (To.bind (impl_without_ev P.length [(i : Int)] (by omega) (by unfold maxLen; simp))).trans ((To.bind (impl_Sample_near_ev hs _ hm2 _ _ (left_valid _ _) (left_nodup _ _) (by omega) (by omega) (leftM_rise _ P.length) (fun _ => Iff.rfl) m (by omega) (by omega))).trans (To.congr fun k => ?_))
        split <;> rfl

theorem laws_markIntSS_ev (P : List (List Int)) (a : Int) (h0 : 0 ≤ a) (h1 : a + sumN List.length P ≤ 1000000000000) (hP : P.length ≤ 1000000000000) : Ev (fun k => laws_markIntSS.f k P a) (a + sumN List.length P, iota2 a P) :=
  ev_mark ([] : List Int) List.length iota P 1000000000000 (L := fun ys a i k => laws_markIntSS.l0 k ys a i) (fun ys a i x hi hl hx hm ha hb r hr => by
    refine Ev.step' (f := fun k => (laws_markIntS.f k x a).bind fun b => laws_markIntSS.l0 k (ys.set i b.2) b.1 ((i + 1 : Nat) : Int)) (fun k => ?_) (Ev.bind (laws_markIntS_ev x a ha hb) hr)
    have c1 : (i : Int) < (ys.length : Int) := by omega
    have c3 : 0 ≤ (i : Int) := by omega
    simp only [laws_markIntSS.l0, if_pos c1, if_pos c3, Int.toNat_natCast, rdR_nat, hx, wrap_succ (i := i) (n := ys.length) (by omega) (by omega)]) (fun ys a hl => Ev.step' (f := fun _ => some (a, ys)) (fun k => by
    simp only [laws_markIntSS.l0, hl, if_neg (Int.lt_irrefl _)]) (Ev.now _)) a h0 h1

theorem laws_markSample_ev (P : List (List Int)) (L : List Int) (a : Int) (h0 : 0 ≤ a) (h1 : a + sumN List.length P + L.length ≤ 1000000000000) (hP : P.length ≤ 1000000000000) : Ev (fun k => laws_markSample.f k P L a) (a + sumN List.length P + L.length, iota2 a P, iota (a + sumN List.length P) L) :=
  Ev.bind (laws_markIntSS_ev P a h0 (by omega) hP) (Ev.bind (laws_markIntS_ev L (a + sumN List.length P) (by omega) h1) (Ev.now _))

theorem leftOutM_len (P : List (List Int)) (L : List Int) (m : Int) : (leftOutM P L m).1.length ≤ 16 := by
  unfold leftOutM
  split
  · next hp =>
    simp only [Bool.and_eq_true] at hp
    have := (sample_tell hp.1).1
    have := leftOut_len P L m
    show (leftOutL P L m).length ≤ 16
    omega
  · exact Nat.zero_le _
theorem pure : SFnExactLeftOutMistakes.Pure := by
  intro P L m ⟨h, hi0⟩ ⟨hL, _⟩ _
  have hi : ∀ x ∈ P, x.length ≤ maxLen := fun x hx => (hi0 x hx).1
  obtain ⟨K1, k1⟩ := laws_szSample_ev P L 1048576 h hi hL (by omega) (by omega)
  by_cases cn : lft 1048576 (sz2 P + L.length) < 0
  · exact .inl ⟨K1, _, k1 K1 (by omega), cn⟩
  · have d := lft_nonneg (Int.not_lt.1 cn)
    have hs := sz2_small (l := P) (n := 1048576) (by omega)
    have hsum : sumN List.length P ≤ 1048576 := by unfold sz2 at d; omega
    have hu := leftOutM_len P L m
    obtain ⟨K2, k2⟩ := laws_toSample_ev P L hs.1 hs.2 (by omega)
    obtain ⟨K3, k3⟩ := spec_LeftOutMistakes_ev P L m h hi hL
    obtain ⟨K4, k4⟩ := impl_LeftOutMistakes_ev P L m h hi hL
    obtain ⟨K5, k5⟩ := laws_eqIntS_ev (leftOutM P L m).1 (by unfold maxLen; omega)
    obtain ⟨K6, k6⟩ := laws_eqSample_ev P L h hi hL
    obtain ⟨K7, k7⟩ := laws_markSample_ev P L 1 (by omega) (by omega) (by omega)
    obtain ⟨K8, k8⟩ := laws_markIntS_ev (leftOutM P L m).1 1 (by omega) (by omega)
    obtain ⟨K9, k9⟩ := laws_heldIntS_ev (leftOutM P L m).1 1 (by omega) (by omega)
    let K := K1 + K2 + K3 + K4 + K5 + K6 + K7 + K8 + K9
    exact .inr ⟨K, _, _, _, (leftOutM P L m).1, (leftOutM P L m).2, _, _, _, _, _, k1 K (by omega), k2 K (by omega), k3 K (by omega), k4 K (by omega), k5 K (by omega), k6 K (by omega), k7 K (by omega), k8 K (by omega), k9 K (by omega), Int.not_lt.1 cn, by omega, by omega⟩
end Go.Proofs.Ytihhedemdkifhaa.QFnExactLeftOutMistakes
