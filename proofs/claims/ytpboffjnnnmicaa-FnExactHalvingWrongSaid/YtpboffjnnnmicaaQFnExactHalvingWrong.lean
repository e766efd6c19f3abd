/- FnExactHalvingWrong: what its calls come to, shown of numbers and lists alone. -/
import Derived.Test.YtpboffjnnnmicaaSFnExactHalvingWrong
import Derived.Test.YtpboffjnnnmicaaPm
namespace Go.Proofs.Ytpboffjnnnmicaa.QFnExactHalvingWrong
open Go.RowKit  Go.Proofs.Ytpboffjnnnmicaa.Lb Go.Proofs.Ytpboffjnnnmicaa.Pm Go.Proofs.Ytpboffjnnnmicaa.PFnExactHalvingWrong Go.Proofs.YtpboffjnnnmicaaW.PrintWords Go.Proofs.YtpboffjnnnmicaaW.PrintLast Go.Proofs.YtpboffjnnnmicaaW.PrintMore
set_option linter.unusedVariables false
set_option linter.unusedSimpArgs false
theorem rdL1_nat (xs : List (List Int)) (i : Nat) : rd_L1 xs (i : Int) = xs.getD i [] := by simp [rd_L1]

theorem laws_szIntS_eq (l : List Int) (a : Int) (h : l.length ≤ maxLen) (h0 : 0 ≤ a) (h1 : a ≤ 1048576) : laws_szIntS.f l a = some (lft a l.length) := by
  unfold maxLen at h
  have hw : wrap64 (a - (l.length : Int)) = a - l.length := wrap_id (by omega) (by omega)
  unfold laws_szIntS.f lft
  rw [hw]
  by_cases c : (l.length : Int) ≤ a
  · rw [if_neg (by omega), if_pos c]
  · rw [if_pos (by omega), if_neg c]

theorem laws_szIntSS_ev (l : List (List Int)) (a : Int) (h : l.length ≤ maxLen) (hi : ∀ x ∈ l, x.length ≤ maxLen) (h0 : 0 ≤ a) (h1 : a ≤ 1048576) : Ev (fun k => laws_szIntSS.f k l a) (lft a (sz2 l)) := by
  have h' : l.length ≤ 9223372036854775807 := h
  unfold sz2 laws_szIntSS.f
  rw [← lft_add a _ _ h0]
  have hw : wrap64 (a - (l.length : Int)) = a - l.length := wrap_id (by omega) (by omega)
  rw [hw]
  by_cases c : (l.length : Int) ≤ a
  · have e : lft a l.length = a - l.length := by unfold lft; rw [if_pos c]
    rw [e]
    simp only [if_neg (show ¬ a - (l.length : Int) < 0 by omega)]
    refine ev_sz [] List.length l (L := fun a i k => laws_szIntSS.l0 k l a i) (fun i a hi2 h0 h1 hn => ?_) (fun i a hi2 h0 h1 hn => ?_) (fun a => Ev.step' (f := fun _ => some a) (fun k => by simp only [laws_szIntSS.l0, if_neg (Int.lt_irrefl _)]) (Ev.now _)) _ (by omega) (by omega)
    · have c1 : (i : Int) < (l.length : Int) := by omega
      have c0 : 0 ≤ (i : Int) := by omega
      refine To.step (fun k => ?_)
      simp only [laws_szIntSS.l0, if_pos c1, if_pos c0, rdL1_nat, laws_szIntS_eq _ a (hi _ (getD_mem hi2 [])) h0 h1, Option.bind_some, if_neg (show ¬ lft a (l.getD i []).length < 0 by omega), wrap_succ hi2 h']
    · have c1 : (i : Int) < (l.length : Int) := by omega
      have c0 : 0 ≤ (i : Int) := by omega
      refine Ev.step' (f := fun _ => some (-1)) (fun k => ?_) (Ev.now _)
      simp only [laws_szIntSS.l0, if_pos c1, if_pos c0, rdL1_nat, laws_szIntS_eq _ a (hi _ (getD_mem hi2 [])) h0 h1, Option.bind_some, if_pos hn]
  · have e : lft a l.length = -1 := by unfold lft; rw [if_neg c]
    rw [e]
    simp only [if_pos (show a - (l.length : Int) < 0 by omega), if_pos (show (-1 : Int) < 0 by omega)]
    exact Ev.now _

theorem laws_szPanel_ev (P : List (List Int)) (L : List Int) (a : Int) (h : P.length ≤ maxLen) (hi : ∀ x ∈ P, x.length ≤ maxLen) (hL : L.length ≤ maxLen) (h0 : 0 ≤ a) (h1 : a ≤ 1048576) : Ev (fun k => laws_szPanel.f k P L a) (lft a (sz2 P + L.length)) := by
  have hle := lft_le a (sz2 P) h0
  refine Ev.bind (laws_szIntSS_ev P a h hi h0 h1) ?_
  rw [← lft_add a _ _ h0]
  by_cases c : lft a (sz2 P) < 0
  · simp only [if_pos c]; exact Ev.now _
  · simp only [if_neg c, laws_szIntS_eq L _ hL (show 0 ≤ lft a (sz2 P) by omega) (show lft a (sz2 P) ≤ 1048576 by omega), Option.bind_some]
    by_cases c2 : lft (lft a (sz2 P)) L.length < 0
    · simp only [if_pos c2, lft_neg c2]; exact Ev.now _
    · simp only [if_neg c2]; exact Ev.now _

theorem laws_toIntS_ev (l : List Int) (h : l.length ≤ 1048576) : Ev (fun k => laws_toIntS.f k l) l := by
  have hw : wrap64 (l.length : Int) = l.length := wrap_id (by omega) (by omega)
  have c0 : 0 ≤ (l.length : Int) := by omega
  have e : ∀ k, laws_toIntS.f k l = laws_toIntS.l0 k l (List.replicate l.length 0) 0 := fun k => by
    simp only [laws_toIntS.f, if_pos c0, Int.toNat_natCast]; rw [if_pos (by omega)]
  refine Ev.congr e ?_
  have hf := to_fold (L := fun i (s : List Int) k => laws_toIntS.l0 k l s i) (n := l.length) (f := fun i s => s.set i (l.getD i 0)) (fun i s => s = l.take i ++ List.replicate (l.length - i) 0) (fun i s hi hs => ⟨To.step fun k => ?_, ?_⟩) (List.replicate l.length 0) (by simp)
  · refine hf.1 _ (Ev.step' (f := fun _ => some l) (fun k => ?_) (Ev.now _))
    have := hf.2
    rw [Nat.sub_self, List.take_length, List.replicate_zero, List.append_nil] at this
    show laws_toIntS.l0 (k + 1) l _ _ = _
    rw [this]
    simp only [laws_toIntS.l0, if_neg (Int.lt_irrefl _)]
  · have c1 : (i : Int) < (l.length : Int) := by omega
    have c2 : (i : Int) < (s.length : Int) := by rw [hs, List.length_append, List.length_take, List.length_replicate]; omega
    have c3 : 0 ≤ (i : Int) := by omega
    simp only [laws_toIntS.l0, if_pos c1, if_pos c2, if_pos c3, rd_nat, Int.toNat_natCast, wrap_succ hi (by omega : l.length ≤ 9223372036854775807)]
  · show List.set s i _ = _
    rw [hs]; exact set_step l 0 0 i hi

theorem laws_toIntSS_ev (l : List (List Int)) (h : l.length ≤ 1048576) (hi : ∀ x ∈ l, x.length ≤ 1048576) : Ev (fun k => laws_toIntSS.f k l) l := by
  have c0 : 0 ≤ (l.length : Int) := by omega
  have e : ∀ k, laws_toIntSS.f k l = laws_toIntSS.l0 k l (List.replicate l.length []) 0 := fun k => by
    simp only [laws_toIntSS.f, if_pos c0, Int.toNat_natCast]; rw [if_pos (by omega)]
  refine Ev.congr e ?_
  have hf := to_fold (L := fun i (s : List (List Int)) k => laws_toIntSS.l0 k l s i) (n := l.length) (f := fun i s => s.set i (l.getD i [])) (fun i s => s = l.take i ++ List.replicate (l.length - i) []) (fun i s hi2 hs => ⟨?_, ?_⟩) (List.replicate l.length []) (by simp)
  · refine hf.1 _ (Ev.step' (f := fun _ => some l) (fun k => ?_) (Ev.now _))
    have := hf.2
    rw [Nat.sub_self, List.take_length, List.replicate_zero, List.append_nil] at this
    show laws_toIntSS.l0 (k + 1) l _ _ = _
    rw [this]
    simp only [laws_toIntSS.l0, if_neg (Int.lt_irrefl _)]
  · have c1 : (i : Int) < (l.length : Int) := by omega
    have c2 : (i : Int) < (s.length : Int) := by rw [hs, List.length_append, List.length_take, List.length_replicate]; omega
    have c3 : 0 ≤ (i : Int) := by omega
    refine (To.step (f := fun k => (laws_toIntS.f k (l.getD i [])).bind fun t => laws_toIntSS.l0 k l (s.set i t) ((i + 1 : Nat) : Int)) (fun k => ?_)).trans (To.bind (laws_toIntS_ev _ (hi _ (getD_mem hi2 []))))
    simp only [laws_toIntSS.l0, if_pos c1, if_pos c2, if_pos c3, rdL1_nat, Int.toNat_natCast, wrap_succ hi2 (by omega : l.length ≤ 9223372036854775807)]
  · show List.set s i _ = _
    rw [hs]; exact set_step l [] [] i hi2

theorem laws_toPanel_ev (P : List (List Int)) (L : List Int) (h : P.length ≤ 1048576) (hi : ∀ x ∈ P, x.length ≤ 1048576) (hL : L.length ≤ 1048576) : Ev (fun k => laws_toPanel.f k P L) (P, L) := Ev.bind (laws_toIntSS_ev P h hi) (Ev.bind (laws_toIntS_ev L hL) (Ev.now _))

theorem laws_eqIntS_ev (l : List Int) (h : l.length ≤ maxLen) : Ev (fun k => laws_eqIntS.f k l l) true := by
  unfold maxLen at h
  refine Ev.congr (f := fun k => laws_eqIntS.l0 k l l 0) (fun k => by simp only [laws_eqIntS.f, if_true]) ?_
  refine ev_yes (L := fun i k => laws_eqIntS.l0 k l l i) (n := l.length) (fun i hi => To.step fun k => ?_) (Ev.step' (f := fun _ => some true) (fun k => ?_) (Ev.now _))
  · have c1 : (i : Int) < (l.length : Int) := by omega
    have c0 : 0 ≤ (i : Int) := by omega
    simp only [laws_eqIntS.l0, if_pos c1, if_pos c0, if_true, wrap_succ hi h]
  · simp only [laws_eqIntS.l0, if_neg (Int.lt_irrefl _)]

theorem laws_eqIntSS_ev (l : List (List Int)) (h : l.length ≤ maxLen) (hi : ∀ x ∈ l, x.length ≤ maxLen) : Ev (fun k => laws_eqIntSS.f k l l) true := by
  have h' : l.length ≤ 9223372036854775807 := h
  refine Ev.congr (f := fun k => laws_eqIntSS.l0 k l l 0) (fun k => by simp only [laws_eqIntSS.f, if_true]) ?_
  refine ev_yes (L := fun i k => laws_eqIntSS.l0 k l l i) (n := l.length) (fun i hi2 => ?_) (Ev.step' (f := fun _ => some true) (fun k => ?_) (Ev.now _))
  · have c1 : (i : Int) < (l.length : Int) := by omega
    have c0 : 0 ≤ (i : Int) := by omega
    refine (To.step (f := fun k => (laws_eqIntS.f k (l.getD i []) (l.getD i [])).bind fun t => if t = true then laws_eqIntSS.l0 k l l ((i + 1 : Nat) : Int) else some false) (fun k => ?_)).trans ((To.bind (laws_eqIntS_ev _ (hi _ (getD_mem hi2 [])))).trans (To.congr fun k => by simp only [if_true]))
    simp only [laws_eqIntSS.l0, if_pos c1, if_pos c0, rdL1_nat, wrap_succ hi2 h']
  · simp only [laws_eqIntSS.l0, if_neg (Int.lt_irrefl _)]

theorem laws_eqPanel_ev (P : List (List Int)) (L : List Int) (h : P.length ≤ maxLen) (hi : ∀ x ∈ P, x.length ≤ maxLen) (hL : L.length ≤ maxLen) : Ev (fun k => laws_eqPanel.f k P L P L) true := by
  refine Ev.bind (laws_eqIntSS_ev P h hi) ?_
  simp only [if_true]
  refine Ev.bind (laws_eqIntS_ev L hL) ?_
  simp only [if_true]
  exact Ev.now _

theorem spec_l1In_eq (x a b : Int) : spec_l1In.f x a b = some (inR a b x) := in_tells a b x

theorem spec_l11Says_ev (l : List Int) (n : Int) (h : l.length ≤ maxLen) : Ev (fun k => spec_l11Says.f k l n) (l.all (inR (-1) 1) && ((l.length : Int) == n)) := by
  have h' : l.length ≤ 9223372036854775807 := h
  refine ev_list 0 l (fun i (_ : Unit) k => spec_l11Says.l0 k l n i) (fun _ ys _ => ys.all (inR (-1) 1) && ((l.length : Int) == n)) (fun _ _ => True) (fun _ _ => ?_) (fun i x ys _ hi hx hm _ ih => ?_) () trivial
  · exact Ev.step' (f := fun _ => some _) (fun k => by simp only [spec_l11Says.l0, if_neg (Int.lt_irrefl _)] <;> rfl) (Ev.now _)
  · have c1 : (i : Int) < (l.length : Int) := by omega
    have c0 : 0 ≤ (i : Int) := by omega
    simp only [List.all_cons, Bool.and_assoc]
    cases hq : inR (-1) 1 x with
    | false => exact Ev.step' (f := fun _ => some false) (fun k => by simp only [spec_l11Says.l0, if_pos c1, if_pos c0, rd_nat, hx, spec_l1In_eq, hq, Option.bind_some, Bool.false_eq_true, if_false]) (Ev.now _)
    | true => exact Ev.step' (fun k => by simp only [spec_l11Says.l0, if_pos c1, if_pos c0, rd_nat, hx, spec_l1In_eq, hq, Option.bind_some, if_true, wrap_succ hi h']) (ih () trivial)

theorem spec_l2Labels_ev (l : List Int) (h : l.length ≤ maxLen) : Ev (fun k => spec_l2Labels.f k l) (l.all isLab) := by
  have h' : l.length ≤ 9223372036854775807 := h
  refine ev_list 0 l (fun i (_ : Unit) k => spec_l2Labels.l0 k l i) (fun _ ys _ => ys.all isLab) (fun _ _ => True) (fun _ _ => ?_) (fun i x ys _ hi hx hm _ ih => ?_) () trivial
  · exact Ev.step' (f := fun _ => some true) (fun k => by simp only [spec_l2Labels.l0, if_neg (Int.lt_irrefl _)]) (Ev.now _)
  · have c1 : (i : Int) < (l.length : Int) := by omega
    have c0 : 0 ≤ (i : Int) := by omega
    have ih := ih () trivial
    simp only [List.all_cons]
    unfold isLab at ih ⊢
    by_cases e1 : x = 1
    · rw [show (decide (x = 1) || decide (x = -1)) = true by simp [e1], Bool.true_and]
      exact Ev.step' (fun k => by simp only [spec_l2Labels.l0, if_pos c1, if_pos c0, rd_nat, hx, if_pos e1, wrap_succ hi h']) ih
    · by_cases e2 : x = -1
      · rw [show (decide (x = 1) || decide (x = -1)) = true by simp [e2], Bool.true_and]
        exact Ev.step' (fun k => by simp only [spec_l2Labels.l0, if_pos c1, if_pos c0, rd_nat, hx, if_neg e1, if_pos e2, wrap_succ hi h']) ih
      · rw [show (decide (x = 1) || decide (x = -1)) = false by simp [e1, e2], Bool.false_and]
        exact Ev.step' (f := fun _ => some false) (fun k => by simp only [spec_l2Labels.l0, if_pos c1, if_pos c0, rd_nat, hx, if_neg e1, if_neg e2]) (Ev.now _)

theorem spec_l11Panel_ev (S : List (List Int)) (T : List Int) (h : S.length ≤ maxLen) (hi : ∀ x ∈ S, x.length ≤ maxLen) (hT : T.length ≤ maxLen) : Ev (fun k => spec_l11Panel.f k S T) (panelB S T) := by
  have h' : S.length ≤ 9223372036854775807 := h
  refine ev_eq (a := S.all (fun x => x.all (inR (-1) 1) && ((x.length : Int) == (T.length : Int))) && (inR 1 8 S.length && (decide (T.length ≤ 16) && T.all isLab))) ?_ (panelB_spec S T).symm
  refine ev_list [] S (fun i (_ : Unit) k => spec_l11Panel.l0 k i S T) (fun _ ys _ => ys.all (fun x => x.all (inR (-1) 1) && ((x.length : Int) == (T.length : Int))) && (inR 1 8 S.length && (decide (T.length ≤ 16) && T.all isLab))) (fun _ _ => True) (fun _ _ => ?_) (fun i x ys _ hi2 hx hm _ ih => ?_) () trivial
  · refine Ev.step' (f := fun k => if inR 1 8 S.length = true then (if (T.length : Int) ≤ 16 then (spec_l2Labels.f k T).bind (fun t => some t) else some false) else some false) (fun k => by simp only [spec_l11Panel.l0, if_neg (Int.lt_irrefl _), spec_l1In_eq, Option.bind_some]) ?_
    simp only [List.all_nil, Bool.true_and]
    cases inR 1 8 S.length with
    | false => exact Ev.now _
    | true =>
      simp only [if_true, Bool.true_and]
      by_cases c : T.length ≤ 16
      · simp only [if_pos (show (T.length : Int) ≤ 16 by omega), decide_eq_true c, Bool.true_and]
        exact Ev.bind (spec_l2Labels_ev T hT) (Ev.now _)
      · simp only [if_neg (show ¬ (T.length : Int) ≤ 16 by omega), decide_eq_false c, Bool.false_and]
        exact Ev.now _
  · have c1 : (i : Int) < (S.length : Int) := by omega
    have c0 : 0 ≤ (i : Int) := by omega
    rw [List.all_cons, Bool.and_assoc]
    refine Ev.step' (f := fun k => (spec_l11Says.f k x (T.length : Int)).bind fun t => if t = true then spec_l11Panel.l0 k ((i + 1 : Nat) : Int) S T else some false) (fun k => by simp only [spec_l11Panel.l0, if_pos c1, if_pos c0, rdL1_nat, hx, wrap_succ hi2 h']) ?_
    refine Ev.bind (spec_l11Says_ev x _ (hi x hm)) ?_
    cases (x.all (inR (-1) 1) && ((x.length : Int) == (T.length : Int))) with
    | false => exact Ev.now _
    | true => simp only [if_true, Bool.true_and]; exact ih () trivial

theorem spec_l11Wrong_eq (x T : List Int) (d : Nat) : spec_l11Wrong.f (x.getD d 0) (T.getD d 0) = some (wrB x T d) := by
  unfold spec_l11Wrong.f wrB
  by_cases c : x.getD d 0 = 0
  · rw [if_pos c, if_pos c]
  · rw [if_neg c, if_neg c]

theorem spec_l11Days_row (S : List (List Int)) (T : List Int) (n i : Nat) (s : List Int) (hi : i < S.length) (h : S.length ≤ maxLen) (hx : (S.getD i []).length = T.length) (hn : n ≤ T.length) (hT : T.length ≤ 16) (hs : s.length = S.length) (hz : s.getD i 0 = 0) :
    To (fun k => spec_l11Days.l1 k (n : Int) s i 0 S T) (fun k => spec_l11Days.l0 k (n : Int) (s.set i (wrongsM (S.getD i []) T n)) ((i + 1 : Nat) : Int) S T) := by
  have hf := to_fold (L := fun d (s : List Int) k => spec_l11Days.l1 k (n : Int) s i d S T) (n := n) (f := fun d s => if wrB (S.getD i []) T d = true then s.set i (wrap64 (s.getD i 0 + 1)) else s) (fun _ s => s.length = S.length) (fun d s hd hs => ⟨To.step fun k => by
      have c1 : (d : Int) < (n : Int) := by omega
      have c2 : 0 ≤ (i : Int) := by omega
      have c3 : (i : Int) < (S.length : Int) := by omega
      have c4 : 0 ≤ (d : Int) := by omega
      have c5 : (d : Int) < ((S.getD i []).length : Int) := by omega
      have c6 : (d : Int) < (T.length : Int) := by omega
      have c7 : (i : Int) < (s.length : Int) := by omega
      simp only [spec_l11Days.l1, if_pos c1, if_pos c2, if_pos c3, if_pos c4, rdL1_nat, if_pos c5, if_pos c6, rd_nat, spec_l11Wrong_eq, Option.bind_some, if_pos c7, Int.toNat_natCast, wrap_succ hd (by omega : n ≤ 9223372036854775807)]
      cases wrB (S.getD i []) T d with
      | false => simp only [Bool.false_eq_true, if_false]
      | true => simp only [if_true], by
      show (if wrB (S.getD i []) T d = true then s.set i (wrap64 (s.getD i 0 + 1)) else s).length = S.length
      split
      · rw [List.length_set]; exact hs
      · exact hs⟩) s hs
  refine hf.1.trans (To.step fun k => ?_)
  have e := fold_set i (wrB (S.getD i []) T) (List.range n) s (by omega)
  rw [hz] at e
  have h' : S.length ≤ 9223372036854775807 := h
  rw [e]
  simp only [spec_l11Days.l1, if_neg (Int.lt_irrefl _), wrap_succ hi h']
  rfl
theorem spec_l11Days_ev (S : List (List Int)) (T : List Int) (n : Nat) (h : S.length ≤ 8) (hx : ∀ x ∈ S, x.length = T.length) (hn : n ≤ T.length) (hT : T.length ≤ 16) : Ev (fun k => spec_l11Days.f k S T (n : Int)) (daysM S T n) := by
  have c0 : 0 ≤ (S.length : Int) := by omega
  refine Ev.congr (f := fun k => spec_l11Days.l0 k (n : Int) (List.replicate S.length 0) 0 S T) (fun k => by
    simp only [spec_l11Days.f, if_pos c0, Int.toNat_natCast]; rw [if_pos (by omega)]) ?_
  have hf := to_fold (L := fun i (s : List Int) k => spec_l11Days.l0 k (n : Int) s i S T) (n := S.length) (f := fun i s => s.set i (wrongsM (S.getD i []) T n)) (fun i s => s = (daysM S T n).take i ++ List.replicate (S.length - i) 0) (fun i s hi hs => by
    obtain ⟨⟨h1, h2⟩, h3⟩ := days_step hi hs
    refine ⟨To.trans (To.step (f := fun k => spec_l11Days.l1 k (n : Int) s i 0 S T) fun k => ?_) (spec_l11Days_row S T n i s hi (by unfold maxLen; omega) (hx _ (getD_mem hi [])) hn hT h1 h2), h3⟩
    have c1 : (i : Int) < (S.length : Int) := by omega
    simp only [spec_l11Days.l0, if_pos c1]) (List.replicate S.length 0) (by simp)
  refine hf.1 _ (Ev.step' (f := fun _ => some (daysM S T n)) (fun k => ?_) (Ev.now _))
  have e := hf.2
  rw [Nat.sub_self, List.replicate_zero, List.append_nil, List.take_of_length_le (by simp [daysM])] at e
  show spec_l11Days.l0 (k + 1) _ _ _ _ _ = _
  rw [e]
  simp only [spec_l11Days.l0, if_neg (Int.lt_irrefl _)]

def signM (n : Int) : Int := if n ≥ 0 then 1 else -1
theorem spec_l11Sign_eq (n : Int) : spec_l11Sign.f n = some (signM n) := by
  unfold spec_l11Sign.f signM
  by_cases c : n ≥ 0
  · simp only [if_pos c]
  · simp only [if_neg c]
theorem signs_small (g : Nat → Int) (n : Nat) : ((List.range n).map g).length = n := by simp

theorem wrongs_le (x T : List Int) : ∀ n, n ≤ 1000 → 0 ≤ wrongsM x T n ∧ wrongsM x T n ≤ n
  | 0, _ => by simp [wrongsM]
  | n + 1, h => by
    have ih := wrongs_le x T n (by omega)
    have e : wrongsM x T (n + 1) = if wrB x T n = true then wrap64 (wrongsM x T n + 1) else wrongsM x T n := by
      unfold wrongsM
      rw [List.range_succ, List.foldl_append]
      rfl
    rw [e]
    split
    · rw [wrap_id (by omega) (by omega)]; omega
    · omega
theorem days_get {S : List (List Int)} (T : List Int) (n : Nat) {i : Nat} (hi : i < S.length) : (daysM S T n).getD i 0 = wrongsM (S.getD i []) T n := by
  simp [daysM, List.getD_eq_getElem?_getD, hi]
def halfSum (S : List (List Int)) (T : List Int) (d : Nat) : Int := (List.range S.length).foldl (fun t i => wrap64 (t + shl .i64 ((S.getD i []).getD d 0) (wrap64 (16 - (daysM S T d).getD i 0)))) 0
def halvL (S : List (List Int)) (T : List Int) : List Int := (List.range T.length).map fun d => signM (halfSum S T d)
theorem halv_ok {S : List (List Int)} (T : List Int) (d : Nat) {i : Nat} (hi : i < S.length) (hd : d ≤ 16) : 0 ≤ wrap64 (16 - (daysM S T d).getD i 0) := by
  rw [days_get T d hi]
  have := wrongs_le (S.getD i []) T d (by omega)
  rw [wrap_id (by omega) (by omega)]
  omega
theorem spec_l11Halving_row (S : List (List Int)) (T s : List Int) (d : Nat) (hd : d < T.length) (hS : S.length ≤ 8) (hT : T.length ≤ 16) (hx : ∀ x ∈ S, x.length = T.length) (hs : s.length ≤ 1000) :
    To (fun k => spec_l11Halving.l1 k s (d : Int) (daysM S T d) 0 0 S T) (fun k => spec_l11Halving.l0 k (s ++ [signM (halfSum S T d)]) ((d + 1 : Nat) : Int) S T) := by
  have hf := to_fold (L := fun i (t : Int) k => spec_l11Halving.l1 k s (d : Int) (daysM S T d) t i S T) (n := S.length) (f := fun i t => wrap64 (t + shl .i64 ((S.getD i []).getD d 0) (wrap64 (16 - (daysM S T d).getD i 0)))) (fun _ _ => True) (fun i t hi _ => ⟨To.step fun k => ?_, trivial⟩) 0 trivial
  · refine hf.1.trans (To.step fun k => ?_)
    have c : s.length < 17592186044416 := by omega
    simp only [spec_l11Halving.l1, if_neg (Int.lt_irrefl _), spec_l11Sign_eq, Option.bind_some, if_pos c, wrap_succ hd (by omega : T.length ≤ 9223372036854775807)]
    rfl
  · have c1 : (i : Int) < (S.length : Int) := by omega
    have c0 : 0 ≤ (i : Int) := by omega
    have d0 : 0 ≤ (d : Int) := by omega
    have hm := hx _ (getD_mem hi [])
    have d1 : (d : Int) < ((S.getD i []).length : Int) := by omega
    have hl : (daysM S T d).length = S.length := by simp [daysM]
    have c2 : (i : Int) < ((daysM S T d).length : Int) := by omega
    have c3 := halv_ok T d hi (by omega)
    simp only [spec_l11Halving.l1, if_pos c1, if_pos c0, if_pos d0, rdL1_nat, if_pos d1, rd_nat, if_pos c2, if_pos c3, wrap_succ hi (by omega : S.length ≤ 9223372036854775807)]
theorem spec_l11Halving_ev (S : List (List Int)) (T : List Int) (hp : panelB S T = true) : Ev (fun k => spec_l11Halving.f k S T) (halvL S T) := by
  obtain ⟨h1, h2, h3, h4, h5⟩ := panel_tell hp
  have hf := to_fold (L := fun d (s : List Int) k => spec_l11Halving.l0 k s d S T) (n := T.length) (f := fun d s => s ++ [signM (halfSum S T d)]) (fun d s => s.length = d) (fun d s hd hs => ⟨?_, by simp [hs]⟩) [] rfl
  · refine hf.1 _ (Ev.step' (f := fun _ => some (halvL S T)) (fun k => ?_) (Ev.now _))
    rw [fold_append, List.nil_append]
    simp only [spec_l11Halving.l0, if_neg (Int.lt_irrefl _)]
    rfl
  · have c1 : (d : Int) < (T.length : Int) := by omega
    exact (To.step (f := fun k => (spec_l11Days.f k S T (d : Int)).bind fun t => spec_l11Halving.l1 k s (d : Int) t 0 0 S T) fun k => by simp only [spec_l11Halving.l0, if_pos c1]).trans ((To.bind (spec_l11Days_ev S T d h2 (fun x hx => (h5 x hx).1) (by omega) h3)).trans (spec_l11Halving_row S T s d hd h2 h3 (fun x hx => (h5 x hx).1) (by omega)))

def countM (h T : List Int) : Int := (List.range T.length).foldl (fun c d => if h.getD d 0 = T.getD d 0 then c else wrap64 (c + 1)) 0
def halvWrongM (S : List (List Int)) (T : List Int) : Int × Bool := if panelB S T = true then (countM (halvL S T) T, true) else (0, false)
theorem halvL_len (S : List (List Int)) (T : List Int) : (halvL S T).length = T.length := by simp [halvL]
theorem spec_HalvingWrong_ev (S : List (List Int)) (T : List Int) (h : S.length ≤ maxLen) (hi : ∀ x ∈ S, x.length ≤ maxLen) (hT : T.length ≤ maxLen) : Ev (fun k => spec_HalvingWrong.f k S T) (halvWrongM S T) := by
  refine Ev.bind (spec_l11Panel_ev S T h hi hT) ?_
  unfold halvWrongM
  cases hp : panelB S T with
  | false => simp only [Bool.false_eq_true, if_false]; exact Ev.now _
  | true =>
    obtain ⟨h1, h2, h3, h4, h5⟩ := panel_tell hp
    simp only [if_true]
    refine Ev.bind (spec_l11Halving_ev S T hp) ?_
    have hl := halvL_len S T
    have hf := to_fold (L := fun d (c : Int) k => spec_HalvingWrong.l0 k (halvL S T) c d S T) (n := T.length) (f := fun d c => if (halvL S T).getD d 0 = T.getD d 0 then c else wrap64 (c + 1)) (fun _ _ => True) (fun d c hd _ => ⟨To.step fun k => ?_, trivial⟩) 0 trivial
    · refine hf.1 _ (Ev.step' (f := fun _ => some (countM (halvL S T) T, true)) (fun k => ?_) (Ev.now _))
      simp only [spec_HalvingWrong.l0, hl, if_neg (Int.lt_irrefl _)]
      rfl
    · have c1 : (d : Int) < ((halvL S T).length : Int) := by omega
      have c0 : 0 ≤ (d : Int) := by omega
      have c2 : (d : Int) < (T.length : Int) := by omega
      simp only [spec_HalvingWrong.l0, if_pos c1, if_pos c0, if_pos c2, rd_nat, wrap_succ hd (by omega : T.length ≤ 9223372036854775807)]
      split <;> rfl

theorem impl_within_eq (x a b : Int) : impl_within.f x a b = some (inR a b x) := in_tells a b x

theorem impl_isLabel_eq (x : Int) : impl_isLabel.f x = some (isLab x) := by
  unfold impl_isLabel.f isLab
  by_cases e : x = 1
  · rw [if_pos e]; simp [e]
  · rw [if_neg e, decide_eq_false e, Bool.false_or]; rfl

theorem impl_areLabels_ev (l : List Int) (h : l.length ≤ maxLen) : Ev (fun k => impl_areLabels.f k l) (l.all (isLab) && true) := by
  have h' : l.length ≤ 9223372036854775807 := h
  refine ev_list 0 l (fun i (_ : Unit) k => impl_areLabels.l0 k l (l.length : Int) i) (fun _ ys _ => ys.all (isLab) && true) (fun _ _ => True) (fun _ _ => ?_) (fun i x ys _ hi hx hm _ ih => ?_) () trivial
  · exact Ev.step' (f := fun _ => some true) (fun k => by simp only [impl_areLabels.l0, if_neg (Int.lt_irrefl _)]) (Ev.now _)
  · have c1 : (i : Int) < (l.length : Int) := by omega
    have c0 : 0 ≤ (i : Int) := by omega
    simp only [List.all_cons, Bool.and_assoc]
    cases hq : (isLab) x with
    | false => exact Ev.step' (f := fun _ => some false) (fun k => by simp only [impl_areLabels.l0, if_pos c1, if_pos c0, rd_nat, hx, impl_isLabel_eq, hq, Option.bind_some, Bool.false_eq_true, if_false]) (Ev.now _)
    | true => exact Ev.step' (f := fun k => impl_areLabels.l0 k l (l.length : Int) ((i + 1 : Nat) : Int)) (fun k => by simp only [impl_areLabels.l0, if_pos c1, if_pos c0, rd_nat, hx, impl_isLabel_eq, hq, Option.bind_some, if_true, wrap_succ hi h']) (ih () trivial)

theorem impl_allWithin_ev (l : List Int) (a b : Int) (h : l.length ≤ maxLen) : Ev (fun k => impl_allWithin.f k l a b) (l.all (inR a b)) := by
  unfold maxLen at h
  rw [← range_all l (inR a b) 0]
  refine ev_all (L := fun i k => impl_allWithin.l0 k a b l (l.length : Int) i) (fun i hi hp => To.step fun k => ?_) (fun i hi hp => Ev.step' (f := fun _ => some false) (fun k => ?_) (Ev.now _)) (Ev.step' (f := fun _ => some true) (fun k => ?_) (Ev.now _))
  · have c1 : (i : Int) < (l.length : Int) := by omega
    have c0 : 0 ≤ (i : Int) := by omega
    simp only [impl_allWithin.l0, if_pos c1, if_pos c0, impl_within_eq, rd_nat, hp, Option.bind_some, if_true, wrap_succ hi h]
  · have c1 : (i : Int) < (l.length : Int) := by omega
    have c0 : 0 ≤ (i : Int) := by omega
    simp only [impl_allWithin.l0, if_pos c1, if_pos c0, impl_within_eq, rd_nat, hp, Option.bind_some, Bool.false_eq_true, if_false]
  · simp only [impl_allWithin.l0, if_neg (Int.lt_irrefl _)]

theorem impl_IsPanel_j0 (S : List (List Int)) (T : List Int) (h : S.length ≤ maxLen) (hi : ∀ x ∈ S, x.length ≤ maxLen) : Ev (fun k => impl_IsPanel.j0 k false S T) (S.all (fun x => decide (x.length = T.length) && x.all (inR (-1) 1))) := by
  have h' : S.length ≤ 9223372036854775807 := h
  refine Ev.step' (f := fun k => impl_IsPanel.l0 k S (S.length : Int) 0 S T) (fun k => by simp only [impl_IsPanel.j0, Bool.false_eq_true, if_false]) ?_
  refine ev_list [] S (fun i (_ : Unit) k => impl_IsPanel.l0 k S (S.length : Int) i S T) (fun _ ys _ => ys.all (fun x => decide (x.length = T.length) && x.all (inR (-1) 1))) (fun _ _ => True) (fun _ _ => ?_) (fun i x ys _ hi2 hx hm _ ih => ?_) () trivial
  · exact Ev.step' (f := fun _ => some true) (fun k => by simp only [impl_IsPanel.l0, if_neg (Int.lt_irrefl _)]) (Ev.now _)
  · have c1 : (i : Int) < (S.length : Int) := by omega
    have c0 : 0 ≤ (i : Int) := by omega
    rw [List.all_cons, Bool.and_assoc]
    by_cases c : x.length = T.length
    · rw [decide_eq_true c, Bool.true_and]
      refine Ev.step' (f := fun k => (impl_allWithin.f k x (-1) 1).bind fun t => if t = true then impl_IsPanel.l0 k S (S.length : Int) ((i + 1 : Nat) : Int) S T else some false) (fun k => by simp only [impl_IsPanel.l0, if_pos c1, if_pos c0, rdL1_nat, hx, if_pos (show (x.length : Int) = (T.length : Int) by omega), wrap_succ hi2 h']) ?_
      refine Ev.bind (impl_allWithin_ev x (-1) 1 (hi x hm)) ?_
      cases x.all (inR (-1) 1) with
      | false => exact Ev.now _
      | true => simp only [if_true, Bool.true_and]; exact ih () trivial
    · rw [decide_eq_false c, Bool.false_and]
      exact Ev.step' (f := fun _ => some false) (fun k => by simp only [impl_IsPanel.l0, if_pos c1, if_pos c0, rdL1_nat, hx, if_neg (show ¬ (x.length : Int) = (T.length : Int) by omega)]) (Ev.now _)
theorem impl_IsPanel_ev (S : List (List Int)) (T : List Int) (h : S.length ≤ maxLen) (hi : ∀ x ∈ S, x.length ≤ maxLen) (hT : T.length ≤ maxLen) : Ev (fun k => impl_IsPanel.f k S T) (panelB S T) := by
  have no : Ev (fun k => impl_IsPanel.j0 k true S T) false := Ev.step' (f := fun _ => some false) (fun k => by simp only [impl_IsPanel.j0, if_true]) (Ev.now _)
  unfold panelB
  refine Ev.congr (f := fun k => if inR 1 8 S.length = true then (if (T.length : Int) > 16 then impl_IsPanel.j0 k true S T else (impl_areLabels.f k T).bind fun t => impl_IsPanel.j0 k (!t) S T) else impl_IsPanel.j0 k true S T) (fun k => by simp only [impl_IsPanel.f, impl_within_eq, Option.bind_some]) ?_
  cases inR 1 8 S.length with
  | false => simp only [Bool.false_eq_true, if_false]; exact no
  | true =>
    simp only [if_true, Bool.true_and]
    by_cases c : T.length ≤ 16
    · simp only [if_neg (show ¬ (T.length : Int) > 16 by omega), decide_eq_true c, Bool.true_and]
      refine Ev.bind (ev_eq (impl_areLabels_ev T hT) (Bool.and_true _)) ?_
      cases T.all isLab with
      | false => exact no
      | true => exact impl_IsPanel_j0 S T h hi
    · simp only [if_pos (show (T.length : Int) > 16 by omega), decide_eq_false c, Bool.false_and]
      exact no

theorem impl_Panel_wrong_eq (S : List (List Int)) (T : List Int) (hp : panelB S T = true) (i d : Nat) (hi : i < S.length) (hd : d < T.length) : impl_Panel_wrong.f S T i d = some (wrB (S.getD i []) T d) := by
  have ht := panel_tell hp
  have hx := ht.2.2.2.2 _ (getD_mem hi [])
  have c1 : 0 ≤ (i : Int) := by omega
  have c2 : (i : Int) < (S.length : Int) := by omega
  have c3 : 0 ≤ (d : Int) := by omega
  have c4 : (d : Int) < ((S.getD i []).length : Int) := by omega
  have c5 : (d : Int) < (T.length : Int) := by omega
  simp only [impl_Panel_wrong.f, if_pos c1, if_pos c2, if_pos c3, rdL1_nat, if_pos c4, if_pos c5, rd_nat]
  rw [wrB_alt (hx.2 _ (getD_mem (by omega) 0)) (ht.2.2.2.1 _ (getD_mem hd 0))]

theorem impl_Panel_wrongBefore_row (S : List (List Int)) (T : List Int) (hp : panelB S T = true) (n i : Nat) (s : List Int) (hi : i < S.length) (h : S.length ≤ 8) (hn : n ≤ T.length) (hT : T.length ≤ 16) (hs : s.length = S.length) (hz : s.getD i 0 = 0) :
    To (fun k => impl_Panel_wrongBefore.l1 k (n : Int) s i (S.length : Int) i n 0 S T) (fun k => impl_Panel_wrongBefore.l0 k (n : Int) (s.set i (wrongsM (S.getD i []) T n)) (S.length : Int) ((i + 1 : Nat) : Int) S T) := by
  have hf := to_fold (L := fun d (s : List Int) k => impl_Panel_wrongBefore.l1 k (n : Int) s i (S.length : Int) i n d S T) (n := n) (f := fun d s => if wrB (S.getD i []) T d = true then s.set i (wrap64 (s.getD i 0 + 1)) else s) (fun _ s => s.length = S.length) (fun d s hd hs => ⟨To.step fun k => by
      have c1 : (d : Int) < (n : Int) := by omega
      have c2 : 0 ≤ (i : Int) := by omega
      have c7 : (i : Int) < (s.length : Int) := by omega
      simp only [impl_Panel_wrongBefore.l1, if_pos c1, if_pos c2, rd_nat, impl_Panel_wrong_eq S T hp i d hi (by omega), Option.bind_some, if_pos c7, Int.toNat_natCast, wrap_succ hd (by omega : n ≤ 9223372036854775807)]
      cases wrB (S.getD i []) T d with
      | false => simp only [Bool.false_eq_true, if_false]
      | true => simp only [if_true], by
      show (if wrB (S.getD i []) T d = true then s.set i (wrap64 (s.getD i 0 + 1)) else s).length = S.length
      split
      · rw [List.length_set]; exact hs
      · exact hs⟩) s hs
  refine hf.1.trans (To.step fun k => ?_)
  have e := fold_set i (wrB (S.getD i []) T) (List.range n) s (by omega)
  rw [hz] at e
  have h' : S.length ≤ 9223372036854775807 := by omega
  rw [e]
  simp only [impl_Panel_wrongBefore.l1, if_neg (Int.lt_irrefl _), wrap_succ hi h']
  rfl
theorem impl_Panel_wrongBefore_ev (S : List (List Int)) (T : List Int) (hp : panelB S T = true) (n : Nat) (hn : n ≤ T.length) : Ev (fun k => impl_Panel_wrongBefore.f k S T (n : Int)) (daysM S T n) := by
  have ht := panel_tell hp
  have h := ht.2.1
  have hT := ht.2.2.1
  have c0 : 0 ≤ (S.length : Int) := by omega
  refine Ev.congr (f := fun k => impl_Panel_wrongBefore.l0 k (n : Int) (List.replicate S.length 0) (S.length : Int) 0 S T) (fun k => by
    simp only [impl_Panel_wrongBefore.f, if_pos c0, Int.toNat_natCast, Option.bind_some, List.length_replicate]; rw [if_pos (by omega)]) ?_
  have hf := to_fold (L := fun i (s : List Int) k => impl_Panel_wrongBefore.l0 k (n : Int) s (S.length : Int) i S T) (n := S.length) (f := fun i s => s.set i (wrongsM (S.getD i []) T n)) (fun i s => s = (daysM S T n).take i ++ List.replicate (S.length - i) 0) (fun i s hi hs => by
    obtain ⟨⟨h1, h2⟩, h3⟩ := days_step hi hs
    refine ⟨To.trans (To.step (f := fun k => impl_Panel_wrongBefore.l1 k (n : Int) s i (S.length : Int) i n 0 S T) fun k => ?_) (impl_Panel_wrongBefore_row S T hp n i s hi h hn hT h1 h2), h3⟩
    have c1 : (i : Int) < (S.length : Int) := by omega
    simp only [impl_Panel_wrongBefore.l0, if_pos c1]) (List.replicate S.length 0) (by simp)
  refine hf.1 _ (Ev.step' (f := fun _ => some (daysM S T n)) (fun k => ?_) (Ev.now _))
  have e := hf.2
  rw [Nat.sub_self, List.replicate_zero, List.append_nil, List.take_of_length_le (by simp [daysM])] at e
  show impl_Panel_wrongBefore.l0 (k + 1) _ _ _ _ _ _ = _
  rw [e]
  simp only [impl_Panel_wrongBefore.l0, if_neg (Int.lt_irrefl _)]

theorem impl_sign_eq (n : Int) : impl_sign.f n = some (signM n) := by
  unfold impl_sign.f signM
  by_cases c : n ≥ 0
  · simp only [if_pos c]
  · simp only [if_neg c]

theorem impl_HalvingSays_1_ev (S : List (List Int)) (T : List Int) (d : Nat) (hd : d < T.length) (hS : S.length ≤ 8) (hT : T.length ≤ 16) (hx : ∀ x ∈ S, x.length = T.length) : Ev (fun k => impl_HalvingSays_1.f k (d : Int) (daysM S T d) S T) (signM (halfSum S T d)) := by
  have hl : (daysM S T d).length = S.length := by simp [daysM]
  have hf := to_fold (L := fun i (t : Int) k => impl_HalvingSays_1.l0 k (d : Int) t (daysM S T d) ((daysM S T d).length : Int) i S T) (n := S.length) (f := fun i t => wrap64 (t + shl .i64 ((S.getD i []).getD d 0) (wrap64 (16 - (daysM S T d).getD i 0)))) (fun _ _ => True) (fun i t hi _ => ⟨To.step fun k => ?_, trivial⟩) 0 trivial
  · refine hf.1 _ (Ev.step' (f := fun _ => some (signM (halfSum S T d))) (fun k => ?_) (Ev.now _))
    simp only [impl_HalvingSays_1.l0, hl, if_neg (Int.lt_irrefl _), impl_sign_eq, Option.bind_some]
    rfl
  · have c1 : (i : Int) < (S.length : Int) := by omega
    have c0 : 0 ≤ (i : Int) := by omega
    have d0 : 0 ≤ (d : Int) := by omega
    have hm := hx _ (getD_mem hi [])
    have d1 : (d : Int) < ((S.getD i []).length : Int) := by omega
    have c2 : (i : Int) < ((daysM S T d).length : Int) := by omega
    have c3 := halv_ok T d hi (by omega)
    simp only [impl_HalvingSays_1.l0, if_pos c1, if_pos c0, if_pos d0, rdL1_nat, if_pos d1, rd_nat, if_pos c2, if_pos c3, wrap_succ hi (by omega : S.length ≤ 9223372036854775807)]

theorem impl_Panel_forecast_ev (S : List (List Int)) (T : List Int) (hp : panelB S T = true) (say : Nat → Int) (hsay : ∀ d, d < T.length → Ev (fun k => impl_HalvingSays_1.f k (d : Int) (daysM S T d) S T) (say d)) : Ev (fun k => impl_Panel_forecast.f k S T S T) ((List.range T.length).map say) := by
  obtain ⟨h1, h2, h3, h4, h5⟩ := panel_tell hp
  have hf := to_fold (L := fun d (s : List Int) k => impl_Panel_forecast.l0 k s (T.length : Int) d S T S T) (n := T.length) (f := fun d s => s ++ [say d]) (fun d s => s.length = d) (fun d s hd hs => ⟨?_, by simp [hs]⟩) [] rfl
  · refine hf.1 _ (Ev.step' (f := fun _ => some ((List.range T.length).map say)) (fun k => ?_) (Ev.now _))
    rw [fold_append, List.nil_append]
    simp only [impl_Panel_forecast.l0, if_neg (Int.lt_irrefl _)]
  · have c1 : (d : Int) < (T.length : Int) := by omega
    have c2 : s.length < 17592186044416 := by omega
    refine (To.step (f := fun k => (impl_Panel_wrongBefore.f k S T (d : Int)).bind fun t => (impl_HalvingSays_1.f k (d : Int) t S T).bind fun u => impl_Panel_forecast.l0 k (s ++ [u]) (T.length : Int) ((d + 1 : Nat) : Int) S T S T) fun k => ?_).trans ((To.bind (impl_Panel_wrongBefore_ev S T hp d (by omega))).trans (To.bind (hsay d hd)))
    simp only [impl_Panel_forecast.l0, if_pos c1, if_pos c2, wrap_succ hd (by omega : T.length ≤ 9223372036854775807)]

def halvM (S : List (List Int)) (T : List Int) : List Int × Bool := if panelB S T = true then (halvL S T, true) else ([], false)
theorem impl_HalvingSays_ev (S : List (List Int)) (T : List Int) (h : S.length ≤ maxLen) (hi : ∀ x ∈ S, x.length ≤ maxLen) (hT : T.length ≤ maxLen) : Ev (fun k => impl_HalvingSays.f k S T) (halvM S T) := by
  refine Ev.bind (impl_IsPanel_ev S T h hi hT) ?_
  unfold halvM
  cases hp : panelB S T with
  | false => simp only [Bool.false_eq_true, if_false]; exact Ev.now _
  | true =>
    obtain ⟨h1, h2, h3, h4, h5⟩ := panel_tell hp
    simp only [if_true]
    exact Ev.bind (impl_Panel_forecast_ev S T hp (fun d => signM (halfSum S T d)) (fun d hd => impl_HalvingSays_1_ev S T d hd h2 h3 (fun x hx => (h5 x hx).1))) (Ev.now _)

theorem impl_HalvingWrong_ev (S : List (List Int)) (T : List Int) (h : S.length ≤ maxLen) (hi : ∀ x ∈ S, x.length ≤ maxLen) (hT : T.length ≤ maxLen) : Ev (fun k => impl_HalvingWrong.f k S T) (halvWrongM S T) := by
  refine Ev.bind (impl_HalvingSays_ev S T h hi hT) ?_
  unfold halvWrongM halvM
  cases hp : panelB S T with
  | false => simp only [Bool.false_eq_true, if_false]; exact Ev.now _
  | true =>
    obtain ⟨h1, h2, h3, h4, h5⟩ := panel_tell hp
    simp only [if_true]
    have hl := halvL_len S T
    have hf := to_fold (L := fun d (c : Int) k => impl_HalvingWrong.l0 k c (halvL S T) ((halvL S T).length : Int) d S T) (n := T.length) (f := fun d c => if (halvL S T).getD d 0 = T.getD d 0 then c else wrap64 (c + 1)) (fun _ _ => True) (fun d c hd _ => ⟨To.step fun k => ?_, trivial⟩) 0 trivial
    · refine hf.1 _ (Ev.step' (f := fun _ => some (countM (halvL S T) T, true)) (fun k => ?_) (Ev.now _))
      simp only [impl_HalvingWrong.l0, hl, if_neg (Int.lt_irrefl _)]
      rfl
    · have c1 : (d : Int) < ((halvL S T).length : Int) := by omega
      have c0 : 0 ≤ (d : Int) := by omega
      have c2 : (d : Int) < (T.length : Int) := by omega
      simp only [impl_HalvingWrong.l0, if_pos c1, if_pos c0, if_pos c2, rd_nat, wrap_succ hd (by omega : T.length ≤ 9223372036854775807)]
      split <;> rfl

theorem pure : SFnExactHalvingWrong.Pure := by
  intro S T ⟨h, hi0⟩ ⟨hT, _⟩
  have hi : ∀ x ∈ S, x.length ≤ maxLen := fun x hx => (hi0 x hx).1
  obtain ⟨K1, k1⟩ := laws_szPanel_ev S T 1048576 h hi hT (by omega) (by omega)
  by_cases cn : lft 1048576 (sz2 S + T.length) < 0
  · exact .inl ⟨K1, _, k1 K1 (by omega), cn⟩
  · have d := lft_nonneg (Int.not_lt.1 cn)
    have hs := sz2_small (l := S) (n := 1048576) (by omega)
    obtain ⟨K3, k3⟩ := spec_HalvingWrong_ev S T h hi hT
    obtain ⟨K4, k4⟩ := impl_HalvingWrong_ev S T h hi hT
    obtain ⟨K2, k2⟩ := laws_toPanel_ev S T hs.1 hs.2 (by omega)
    obtain ⟨K6, k6⟩ := laws_eqPanel_ev S T h hi hT
    let K := K1 + K2 + K3 + K4 + K6
    exact .inr ⟨K, _, _, _, (halvWrongM S T).1, (halvWrongM S T).2, k1 K (by omega), k2 K (by omega), k3 K (by omega), k4 K (by omega), k6 K (by omega), Int.not_lt.1 cn⟩
end Go.Proofs.Ytpboffjnnnmicaa.QFnExactHalvingWrong
