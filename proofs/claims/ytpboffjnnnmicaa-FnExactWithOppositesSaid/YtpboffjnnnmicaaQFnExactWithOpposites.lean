/- FnExactWithOpposites: what its calls come to, shown of numbers and lists alone. -/
import Derived.Test.YtpboffjnnnmicaaSFnExactWithOpposites
import Derived.Test.YtpboffjnnnmicaaPm
namespace Go.Proofs.Ytpboffjnnnmicaa.QFnExactWithOpposites
open Go.RowKit Go.Proofs.Ytpboffjnnnmicaa.KFnExactWithOpposites Go.Proofs.Ytpboffjnnnmicaa.Lb Go.Proofs.Ytpboffjnnnmicaa.Pm Go.Proofs.Ytpboffjnnnmicaa.PFnExactWithOpposites Go.Proofs.YtpboffjnnnmicaaW.PrintWords Go.Proofs.YtpboffjnnnmicaaW.PrintLast Go.Proofs.YtpboffjnnnmicaaW.PrintMore
set_option linter.unusedVariables false
set_option linter.unusedSimpArgs false
theorem rdL1_nat (xs : List (List Int)) (i : Nat) : rd_L1 xs (i : Int) = xs.getD i [] := by simp [rd_L1]

theorem laws_szIntS_eq (l : List Int) (a : Int) (h : l.length ≤ maxLen) (h0 : 0 ≤ a) (h1 : a ≤ 1048576) : laws_szIntS.f l a = some (lft a l.length) := by
  unfold maxLen at h
  have hw : wrap64 (a - (l.length : Int)) = a - l.length := wrap_id (by omega) (by omega)
  unfold laws_szIntS.f lft
  rw [hw]
  by_cases c : (l.length : Int) ≤ a
  · rw [if_neg (by omega), if_pos c]
  · rw [if_pos (by omega), if_neg c]

theorem laws_szIntSS_ev (l : List (List Int)) (a : Int) (h : l.length ≤ maxLen) (hi : ∀ x ∈ l, x.length ≤ maxLen) (h0 : 0 ≤ a) (h1 : a ≤ 1048576) : Ev (fun k => laws_szIntSS.f k l a) (lft a (sz2 l)) := by
  have h' : l.length ≤ 9223372036854775807 := h
  unfold sz2 laws_szIntSS.f
  rw [← lft_add a _ _ h0]
  have hw : wrap64 (a - (l.length : Int)) = a - l.length := wrap_id (by omega) (by omega)
  rw [hw]
  by_cases c : (l.length : Int) ≤ a
  · have e : lft a l.length = a - l.length := by unfold lft; rw [if_pos c]
    rw [e]
    simp only [if_neg (show ¬ a - (l.length : Int) < 0 by omega)]
    refine ev_sz [] List.length l (L := fun a i k => laws_szIntSS.l0 k l a i) (fun i a hi2 h0 h1 hn => ?_) (fun i a hi2 h0 h1 hn => ?_) (fun a => Ev.step' (f := fun _ => some a) (fun k => by simp only [laws_szIntSS.l0, if_neg (Int.lt_irrefl _)]) (Ev.now _)) _ (by omega) (by omega)
    · have c1 : (i : Int) < (l.length : Int) := by omega
      have c0 : 0 ≤ (i : Int) := by omega
      refine To.step (fun k => ?_)
      simp only [laws_szIntSS.l0, if_pos c1, if_pos c0, rdL1_nat, laws_szIntS_eq _ a (hi _ (getD_mem hi2 [])) h0 h1, Option.bind_some, if_neg (show ¬ lft a (l.getD i []).length < 0 by omega), wrap_succ hi2 h']
    · have c1 : (i : Int) < (l.length : Int) := by omega
      have c0 : 0 ≤ (i : Int) := by omega
      refine Ev.step' (f := fun _ => some (-1)) (fun k => ?_) (Ev.now _)
      simp only [laws_szIntSS.l0, if_pos c1, if_pos c0, rdL1_nat, laws_szIntS_eq _ a (hi _ (getD_mem hi2 [])) h0 h1, Option.bind_some, if_pos hn]
  · have e : lft a l.length = -1 := by unfold lft; rw [if_neg c]
    rw [e]
    simp only [if_pos (show a - (l.length : Int) < 0 by omega), if_pos (show (-1 : Int) < 0 by omega)]
    exact Ev.now _

theorem laws_szPanel_ev (P : List (List Int)) (L : List Int) (a : Int) (h : P.length ≤ maxLen) (hi : ∀ x ∈ P, x.length ≤ maxLen) (hL : L.length ≤ maxLen) (h0 : 0 ≤ a) (h1 : a ≤ 1048576) : Ev (fun k => laws_szPanel.f k P L a) (lft a (sz2 P + L.length)) := by
  have hle := lft_le a (sz2 P) h0
  refine Ev.bind (laws_szIntSS_ev P a h hi h0 h1) ?_
  rw [← lft_add a _ _ h0]
  by_cases c : lft a (sz2 P) < 0
  · simp only [if_pos c]; exact Ev.now _
  · simp only [if_neg c, laws_szIntS_eq L _ hL (show 0 ≤ lft a (sz2 P) by omega) (show lft a (sz2 P) ≤ 1048576 by omega), Option.bind_some]
    by_cases c2 : lft (lft a (sz2 P)) L.length < 0
    · simp only [if_pos c2, lft_neg c2]; exact Ev.now _
    · simp only [if_neg c2]; exact Ev.now _

theorem laws_toIntS_ev (l : List Int) (h : l.length ≤ 1048576) : Ev (fun k => laws_toIntS.f k l) l := by
  have hw : wrap64 (l.length : Int) = l.length := wrap_id (by omega) (by omega)
  have c0 : 0 ≤ (l.length : Int) := by omega
  have e : ∀ k, laws_toIntS.f k l = laws_toIntS.l0 k l (List.replicate l.length 0) 0 := fun k => by
    simp only [laws_toIntS.f, if_pos c0, Int.toNat_natCast]; rw [if_pos (by omega)]
  refine Ev.congr e ?_
  have hf := to_fold (L := fun i (s : List Int) k => laws_toIntS.l0 k l s i) (n := l.length) (f := fun i s => s.set i (l.getD i 0)) (fun i s => s = l.take i ++ List.replicate (l.length - i) 0) (fun i s hi hs => ⟨To.step fun k => ?_, ?_⟩) (List.replicate l.length 0) (by simp)
  · refine hf.1 _ (Ev.step' (f := fun _ => some l) (fun k => ?_) (Ev.now _))
    have := hf.2
    rw [Nat.sub_self, List.take_length, List.replicate_zero, List.append_nil] at this
    show laws_toIntS.l0 (k + 1) l _ _ = _
    rw [this]
    simp only [laws_toIntS.l0, if_neg (Int.lt_irrefl _)]
  · have c1 : (i : Int) < (l.length : Int) := by omega
    have c2 : (i : Int) < (s.length : Int) := by rw [hs, List.length_append, List.length_take, List.length_replicate]; omega
    have c3 : 0 ≤ (i : Int) := by omega
    simp only [laws_toIntS.l0, if_pos c1, if_pos c2, if_pos c3, rd_nat, Int.toNat_natCast, wrap_succ hi (by omega : l.length ≤ 9223372036854775807)]
  · show List.set s i _ = _
    rw [hs]; exact set_step l 0 0 i hi

theorem laws_toIntSS_ev (l : List (List Int)) (h : l.length ≤ 1048576) (hi : ∀ x ∈ l, x.length ≤ 1048576) : Ev (fun k => laws_toIntSS.f k l) l := by
  have c0 : 0 ≤ (l.length : Int) := by omega
  have e : ∀ k, laws_toIntSS.f k l = laws_toIntSS.l0 k l (List.replicate l.length []) 0 := fun k => by
    simp only [laws_toIntSS.f, if_pos c0, Int.toNat_natCast]; rw [if_pos (by omega)]
  refine Ev.congr e ?_
  have hf := to_fold (L := fun i (s : List (List Int)) k => laws_toIntSS.l0 k l s i) (n := l.length) (f := fun i s => s.set i (l.getD i [])) (fun i s => s = l.take i ++ List.replicate (l.length - i) []) (fun i s hi2 hs => ⟨?_, ?_⟩) (List.replicate l.length []) (by simp)
  · refine hf.1 _ (Ev.step' (f := fun _ => some l) (fun k => ?_) (Ev.now _))
    have := hf.2
    rw [Nat.sub_self, List.take_length, List.replicate_zero, List.append_nil] at this
    show laws_toIntSS.l0 (k + 1) l _ _ = _
    rw [this]
    simp only [laws_toIntSS.l0, if_neg (Int.lt_irrefl _)]
  · have c1 : (i : Int) < (l.length : Int) := by omega
    have c2 : (i : Int) < (s.length : Int) := by rw [hs, List.length_append, List.length_take, List.length_replicate]; omega
    have c3 : 0 ≤ (i : Int) := by omega
    refine (To.step (f := fun k => (laws_toIntS.f k (l.getD i [])).bind fun t => laws_toIntSS.l0 k l (s.set i t) ((i + 1 : Nat) : Int)) (fun k => ?_)).trans (To.bind (laws_toIntS_ev _ (hi _ (getD_mem hi2 []))))
    simp only [laws_toIntSS.l0, if_pos c1, if_pos c2, if_pos c3, rdL1_nat, Int.toNat_natCast, wrap_succ hi2 (by omega : l.length ≤ 9223372036854775807)]
  · show List.set s i _ = _
    rw [hs]; exact set_step l [] [] i hi2

theorem laws_toPanel_ev (P : List (List Int)) (L : List Int) (h : P.length ≤ 1048576) (hi : ∀ x ∈ P, x.length ≤ 1048576) (hL : L.length ≤ 1048576) : Ev (fun k => laws_toPanel.f k P L) (P, L) := Ev.bind (laws_toIntSS_ev P h hi) (Ev.bind (laws_toIntS_ev L hL) (Ev.now _))

theorem laws_eqIntS_ev (l : List Int) (h : l.length ≤ maxLen) : Ev (fun k => laws_eqIntS.f k l l) true := by
  unfold maxLen at h
  refine Ev.congr (f := fun k => laws_eqIntS.l0 k l l 0) (fun k => by simp only [laws_eqIntS.f, if_true]) ?_
  refine ev_yes (L := fun i k => laws_eqIntS.l0 k l l i) (n := l.length) (fun i hi => To.step fun k => ?_) (Ev.step' (f := fun _ => some true) (fun k => ?_) (Ev.now _))
  · have c1 : (i : Int) < (l.length : Int) := by omega
    have c0 : 0 ≤ (i : Int) := by omega
    simp only [laws_eqIntS.l0, if_pos c1, if_pos c0, if_true, wrap_succ hi h]
  · simp only [laws_eqIntS.l0, if_neg (Int.lt_irrefl _)]

theorem laws_eqIntSS_ev (l : List (List Int)) (h : l.length ≤ maxLen) (hi : ∀ x ∈ l, x.length ≤ maxLen) : Ev (fun k => laws_eqIntSS.f k l l) true := by
  have h' : l.length ≤ 9223372036854775807 := h
  refine Ev.congr (f := fun k => laws_eqIntSS.l0 k l l 0) (fun k => by simp only [laws_eqIntSS.f, if_true]) ?_
  refine ev_yes (L := fun i k => laws_eqIntSS.l0 k l l i) (n := l.length) (fun i hi2 => ?_) (Ev.step' (f := fun _ => some true) (fun k => ?_) (Ev.now _))
  · have c1 : (i : Int) < (l.length : Int) := by omega
    have c0 : 0 ≤ (i : Int) := by omega
    refine (To.step (f := fun k => (laws_eqIntS.f k (l.getD i []) (l.getD i [])).bind fun t => if t = true then laws_eqIntSS.l0 k l l ((i + 1 : Nat) : Int) else some false) (fun k => ?_)).trans ((To.bind (laws_eqIntS_ev _ (hi _ (getD_mem hi2 [])))).trans (To.congr fun k => by simp only [if_true]))
    simp only [laws_eqIntSS.l0, if_pos c1, if_pos c0, rdL1_nat, wrap_succ hi2 h']
  · simp only [laws_eqIntSS.l0, if_neg (Int.lt_irrefl _)]

theorem laws_eqPanel_ev (P : List (List Int)) (L : List Int) (h : P.length ≤ maxLen) (hi : ∀ x ∈ P, x.length ≤ maxLen) (hL : L.length ≤ maxLen) : Ev (fun k => laws_eqPanel.f k P L P L) true := by
  refine Ev.bind (laws_eqIntSS_ev P h hi) ?_
  simp only [if_true]
  refine Ev.bind (laws_eqIntS_ev L hL) ?_
  simp only [if_true]
  exact Ev.now _

theorem laws_markIntS_ev (l : List Int) (a : Int) (h0 : 0 ≤ a) (h1 : a + l.length ≤ 1000000000000) : Ev (fun k => laws_markIntS.f k l a) (a + l.length, iota a l) := by
  have e := ev_mark (0 : Int) (fun _ => 1) (fun a _ => a) l 1000000000000 (L := fun ys a i k => laws_markIntS.l0 k ys a i) (fun ys a i x hi hl hx hm ha hb => To.step fun k => by
    have c1 : (i : Int) < (ys.length : Int) := by omega
    have c3 : 0 ≤ (i : Int) := by omega
    have e : wrap64 (a + 1) = a + ((1 : Nat) : Int) := wrap_id (by omega) (by simpa using (by omega : a + 1 ≤ 9223372036854775807))
    simp only [laws_markIntS.l0, if_pos c1, if_pos c3, Int.toNat_natCast, wrap_succ (i := i) (n := ys.length) (by omega) (by omega), e]) (fun ys a hl => Ev.step' (f := fun _ => some (a, ys)) (fun k => by
    simp only [laws_markIntS.l0, hl, if_neg (Int.lt_irrefl _)]) (Ev.now _)) a h0 (by rw [sumN_one]; exact h1)
  rw [sumN_one] at e
  exact e

theorem spec_l1In_eq (x a b : Int) : spec_l1In.f x a b = some (inR a b x) := in_tells a b x

theorem spec_l11Says_ev (l : List Int) (n : Int) (h : l.length ≤ maxLen) : Ev (fun k => spec_l11Says.f k l n) (l.all (inR (-1) 1) && ((l.length : Int) == n)) := by
  have h' : l.length ≤ 9223372036854775807 := h
  refine ev_list 0 l (fun i (_ : Unit) k => spec_l11Says.l0 k l n i) (fun _ ys _ => ys.all (inR (-1) 1) && ((l.length : Int) == n)) (fun _ _ => True) (fun _ _ => ?_) (fun i x ys _ hi hx hm _ ih => ?_) () trivial
  · exact Ev.step' (f := fun _ => some _) (fun k => by simp only [spec_l11Says.l0, if_neg (Int.lt_irrefl _)] <;> rfl) (Ev.now _)
  · have c1 : (i : Int) < (l.length : Int) := by omega
    have c0 : 0 ≤ (i : Int) := by omega
    simp only [List.all_cons, Bool.and_assoc]
    cases hq : inR (-1) 1 x with
    | false => exact Ev.step' (f := fun _ => some false) (fun k => by simp only [spec_l11Says.l0, if_pos c1, if_pos c0, rd_nat, hx, spec_l1In_eq, hq, Option.bind_some, Bool.false_eq_true, if_false]) (Ev.now _)
    | true => exact Ev.step' (fun k => by simp only [spec_l11Says.l0, if_pos c1, if_pos c0, rd_nat, hx, spec_l1In_eq, hq, Option.bind_some, if_true, wrap_succ hi h']) (ih () trivial)

theorem spec_l2Labels_ev (l : List Int) (h : l.length ≤ maxLen) : Ev (fun k => spec_l2Labels.f k l) (l.all isLab) := by
  have h' : l.length ≤ 9223372036854775807 := h
  refine ev_list 0 l (fun i (_ : Unit) k => spec_l2Labels.l0 k l i) (fun _ ys _ => ys.all isLab) (fun _ _ => True) (fun _ _ => ?_) (fun i x ys _ hi hx hm _ ih => ?_) () trivial
  · exact Ev.step' (f := fun _ => some true) (fun k => by simp only [spec_l2Labels.l0, if_neg (Int.lt_irrefl _)]) (Ev.now _)
  · have c1 : (i : Int) < (l.length : Int) := by omega
    have c0 : 0 ≤ (i : Int) := by omega
    have ih := ih () trivial
    simp only [List.all_cons]
    unfold isLab at ih ⊢
    by_cases e1 : x = 1
    · rw [show (decide (x = 1) || decide (x = -1)) = true by simp [e1], Bool.true_and]
      exact Ev.step' (fun k => by simp only [spec_l2Labels.l0, if_pos c1, if_pos c0, rd_nat, hx, if_pos e1, wrap_succ hi h']) ih
    · by_cases e2 : x = -1
      · rw [show (decide (x = 1) || decide (x = -1)) = true by simp [e2], Bool.true_and]
        exact Ev.step' (fun k => by simp only [spec_l2Labels.l0, if_pos c1, if_pos c0, rd_nat, hx, if_neg e1, if_pos e2, wrap_succ hi h']) ih
      · rw [show (decide (x = 1) || decide (x = -1)) = false by simp [e1, e2], Bool.false_and]
        exact Ev.step' (f := fun _ => some false) (fun k => by simp only [spec_l2Labels.l0, if_pos c1, if_pos c0, rd_nat, hx, if_neg e1, if_neg e2]) (Ev.now _)

theorem spec_l11Panel_ev (S : List (List Int)) (T : List Int) (h : S.length ≤ maxLen) (hi : ∀ x ∈ S, x.length ≤ maxLen) (hT : T.length ≤ maxLen) : Ev (fun k => spec_l11Panel.f k S T) (panelB S T) := by
  have h' : S.length ≤ 9223372036854775807 := h
  refine ev_eq (a := S.all (fun x => x.all (inR (-1) 1) && ((x.length : Int) == (T.length : Int))) && (inR 1 8 S.length && (decide (T.length ≤ 16) && T.all isLab))) ?_ (panelB_spec S T).symm
  refine ev_list [] S (fun i (_ : Unit) k => spec_l11Panel.l0 k i S T) (fun _ ys _ => ys.all (fun x => x.all (inR (-1) 1) && ((x.length : Int) == (T.length : Int))) && (inR 1 8 S.length && (decide (T.length ≤ 16) && T.all isLab))) (fun _ _ => True) (fun _ _ => ?_) (fun i x ys _ hi2 hx hm _ ih => ?_) () trivial
  · refine Ev.step' (f := fun k => if inR 1 8 S.length = true then (if (T.length : Int) ≤ 16 then (spec_l2Labels.f k T).bind (fun t => some t) else some false) else some false) (fun k => by simp only [spec_l11Panel.l0, if_neg (Int.lt_irrefl _), spec_l1In_eq, Option.bind_some]) ?_
    simp only [List.all_nil, Bool.true_and]
    cases inR 1 8 S.length with
    | false => exact Ev.now _
    | true =>
      simp only [if_true, Bool.true_and]
      by_cases c : T.length ≤ 16
      · simp only [if_pos (show (T.length : Int) ≤ 16 by omega), decide_eq_true c, Bool.true_and]
        exact Ev.bind (spec_l2Labels_ev T hT) (Ev.now _)
      · simp only [if_neg (show ¬ (T.length : Int) ≤ 16 by omega), decide_eq_false c, Bool.false_and]
        exact Ev.now _
  · have c1 : (i : Int) < (S.length : Int) := by omega
    have c0 : 0 ≤ (i : Int) := by omega
    rw [List.all_cons, Bool.and_assoc]
    refine Ev.step' (f := fun k => (spec_l11Says.f k x (T.length : Int)).bind fun t => if t = true then spec_l11Panel.l0 k ((i + 1 : Nat) : Int) S T else some false) (fun k => by simp only [spec_l11Panel.l0, if_pos c1, if_pos c0, rdL1_nat, hx, wrap_succ hi2 h']) ?_
    refine Ev.bind (spec_l11Says_ev x _ (hi x hm)) ?_
    cases (x.all (inR (-1) 1) && ((x.length : Int) == (T.length : Int))) with
    | false => exact Ev.now _
    | true => simp only [if_true, Bool.true_and]; exact ih () trivial

theorem spec_l1Own_eq (l : List Int) (h : l.length ≤ 1000) : spec_l1Own.f l = some l := by
  have c : ([] : List Int).length + l.length < 17592186044416 := by rw [List.length_nil]; omega
  simp only [spec_l1Own.f, Option.bind_some, if_pos c, List.nil_append]

theorem spec_l2Rows_ev (S : List (List Int)) (h : S.length ≤ 1000) (hi : ∀ x ∈ S, x.length ≤ 1000) : Ev (fun k => spec_l2Rows.f k S) S := by
  refine ev_list [] S (fun i (s : List (List Int)) k => spec_l2Rows.l0 k S s i) (fun _ ys s => s ++ ys) (fun i s => s.length = i) (fun s _ => ?_) (fun i x ys s hi2 hx hm hs ih => ?_) [] rfl
  · exact Ev.step' (f := fun _ => some s) (fun k => by simp only [spec_l2Rows.l0, if_neg (Int.lt_irrefl _)]) (by simpa using Ev.now _)
  · have c1 : (i : Int) < (S.length : Int) := by omega
    have c0 : 0 ≤ (i : Int) := by omega
    have c2 : s.length < 5864062014805 := by omega
    exact ev_eq (Ev.step' (f := fun k => spec_l2Rows.l0 k S (s ++ [x]) ((i + 1 : Nat) : Int)) (fun k => by simp only [spec_l2Rows.l0, if_pos c1, if_pos c0, if_pos c2, rdL1_nat, hx, spec_l1Own_eq x (hi x hm), Option.bind_some, wrap_succ hi2 (by omega : S.length ≤ 9223372036854775807)]) (ih (s ++ [x]) (by simp [hs]))) (by simp)

def negW (x : Int) : Int := wrap64 (-x)
theorem spec_l2Minus_ev (l : List Int) (h : l.length ≤ 1000) : Ev (fun k => spec_l2Minus.f k l) (l.map negW) := by
  refine ev_list 0 l (fun i (s : List Int) k => spec_l2Minus.l0 k l s i) (fun _ ys s => s ++ ys.map negW) (fun i s => s.length = i) (fun s _ => ?_) (fun i x ys s hi2 hx hm hs ih => ?_) [] rfl
  · exact Ev.step' (f := fun _ => some s) (fun k => by simp only [spec_l2Minus.l0, if_neg (Int.lt_irrefl _)]) (by simpa using Ev.now _)
  · have c1 : (i : Int) < (l.length : Int) := by omega
    have c0 : 0 ≤ (i : Int) := by omega
    have c2 : s.length < 17592186044416 := by omega
    exact ev_eq (Ev.step' (f := fun k => spec_l2Minus.l0 k l (s ++ [negW x]) ((i + 1 : Nat) : Int)) (fun k => by simp only [spec_l2Minus.l0, if_pos c1, if_pos c0, if_pos c2, rd_nat, hx, wrap_succ hi2 (by omega : l.length ≤ 9223372036854775807), negW]) (ih (s ++ [negW x]) (by simp [hs]))) (by simp)

def oppM (S : List (List Int)) (T : List Int) : List (List Int) × List Int × Bool := if (panelB S T && decide (S.length ≤ 4)) = true then (S ++ S.map (List.map negW), T, true) else ([], [], false)
theorem spec_WithOpposites_ev (S : List (List Int)) (T : List Int) (h : S.length ≤ maxLen) (hi : ∀ x ∈ S, x.length ≤ maxLen) (hT : T.length ≤ maxLen) : Ev (fun k => spec_WithOpposites.f k S T) (oppM S T) := by
  have no : Ev (fun k => spec_WithOpposites.j0 k true S T) ([], [], false) := Ev.step' (f := fun _ => some ([], [], false)) (fun k => by simp only [spec_WithOpposites.j0, if_true]) (Ev.now _)
  refine Ev.bind (spec_l11Panel_ev S T h hi hT) ?_
  unfold oppM
  cases hp : panelB S T with
  | false => simp only [Bool.false_and, Bool.false_eq_true, if_false]; exact no
  | true =>
    obtain ⟨h1, h2, h3, h4, h5⟩ := panel_tell hp
    have e : wrap64 (2 * (S.length : Int)) = 2 * (S.length : Int) := wrap_id (by omega) (by omega)
    simp only [if_true, Bool.true_and, e]
    by_cases c : S.length ≤ 4
    · have d : decide (2 * (S.length : Int) > 8) = false := decide_eq_false (by omega)
      simp only [d, decide_eq_true c, if_true]
      refine Ev.step' (f := fun k => (spec_l2Rows.f k S).bind fun t => spec_WithOpposites.l0 k 0 S T t T) (fun k => by simp only [spec_WithOpposites.j0, Bool.false_eq_true, if_false, spec_l1Own_eq T (by omega), Option.bind_some]) (Ev.bind (spec_l2Rows_ev S (by omega) (fun x hx => by have := (h5 x hx).1; omega)) ?_)
      refine ev_list [] S (fun i (s : List (List Int)) k => spec_WithOpposites.l0 k i S T s T) (fun _ ys s => (s ++ ys.map (List.map negW), T, true)) (fun i s => s.length = S.length + i) (fun s _ => ?_) (fun i x ys s hi2 hx hm hs ih => ?_) S rfl
      · exact Ev.step' (f := fun _ => some (s, T, true)) (fun k => by simp only [spec_WithOpposites.l0, if_neg (Int.lt_irrefl _)]) (by simpa using Ev.now _)
      · have c1 : (i : Int) < (S.length : Int) := by omega
        have c0 : 0 ≤ (i : Int) := by omega
        have c2 : s.length < 5864062014805 := by omega
        exact ev_eq (Ev.step' (f := fun k => (spec_l2Minus.f k x).bind fun t => spec_WithOpposites.l0 k ((i + 1 : Nat) : Int) S T (s ++ [t]) T) (fun k => by simp only [spec_WithOpposites.l0, if_pos c1, if_pos c0, if_pos c2, rdL1_nat, hx, wrap_succ hi2 (by omega : S.length ≤ 9223372036854775807)]) (Ev.bind (spec_l2Minus_ev x (by have := (h5 x hm).1; omega)) (ih (s ++ [x.map negW]) (by simp [hs]; omega)))) (by simp)
    · have d : decide (2 * (S.length : Int) > 8) = true := decide_eq_true (by omega)
      simp only [d, decide_eq_false c, Bool.false_eq_true, if_false]
      exact no

theorem impl_within_eq (x a b : Int) : impl_within.f x a b = some (inR a b x) := in_tells a b x

theorem impl_isLabel_eq (x : Int) : impl_isLabel.f x = some (isLab x) := by
  unfold impl_isLabel.f isLab
  by_cases e : x = 1
  · rw [if_pos e]; simp [e]
  · rw [if_neg e, decide_eq_false e, Bool.false_or]; rfl

theorem impl_areLabels_ev (l : List Int) (h : l.length ≤ maxLen) : Ev (fun k => impl_areLabels.f k l) (l.all (isLab) && true) := by
  have h' : l.length ≤ 9223372036854775807 := h
  refine ev_list 0 l (fun i (_ : Unit) k => impl_areLabels.l0 k l (l.length : Int) i) (fun _ ys _ => ys.all (isLab) && true) (fun _ _ => True) (fun _ _ => ?_) (fun i x ys _ hi hx hm _ ih => ?_) () trivial
  · exact Ev.step' (f := fun _ => some true) (fun k => by simp only [impl_areLabels.l0, if_neg (Int.lt_irrefl _)]) (Ev.now _)
  · have c1 : (i : Int) < (l.length : Int) := by omega
    have c0 : 0 ≤ (i : Int) := by omega
    simp only [List.all_cons, Bool.and_assoc]
    cases hq : (isLab) x with
    | false => exact Ev.step' (f := fun _ => some false) (fun k => by simp only [impl_areLabels.l0, if_pos c1, if_pos c0, rd_nat, hx, impl_isLabel_eq, hq, Option.bind_some, Bool.false_eq_true, if_false]) (Ev.now _)
    | true => exact Ev.step' (f := fun k => impl_areLabels.l0 k l (l.length : Int) ((i + 1 : Nat) : Int)) (fun k => by simp only [impl_areLabels.l0, if_pos c1, if_pos c0, rd_nat, hx, impl_isLabel_eq, hq, Option.bind_some, if_true, wrap_succ hi h']) (ih () trivial)

theorem impl_allWithin_ev (l : List Int) (a b : Int) (h : l.length ≤ maxLen) : Ev (fun k => impl_allWithin.f k l a b) (l.all (inR a b)) := by
  unfold maxLen at h
  rw [← range_all l (inR a b) 0]
  refine ev_all (L := fun i k => impl_allWithin.l0 k a b l (l.length : Int) i) (fun i hi hp => To.step fun k => ?_) (fun i hi hp => Ev.step' (f := fun _ => some false) (fun k => ?_) (Ev.now _)) (Ev.step' (f := fun _ => some true) (fun k => ?_) (Ev.now _))
  · have c1 : (i : Int) < (l.length : Int) := by omega
    have c0 : 0 ≤ (i : Int) := by omega
    simp only [impl_allWithin.l0, if_pos c1, if_pos c0, impl_within_eq, rd_nat, hp, Option.bind_some, if_true, wrap_succ hi h]
  · have c1 : (i : Int) < (l.length : Int) := by omega
    have c0 : 0 ≤ (i : Int) := by omega
    simp only [impl_allWithin.l0, if_pos c1, if_pos c0, impl_within_eq, rd_nat, hp, Option.bind_some, Bool.false_eq_true, if_false]
  · simp only [impl_allWithin.l0, if_neg (Int.lt_irrefl _)]

theorem impl_IsPanel_j0 (S : List (List Int)) (T : List Int) (h : S.length ≤ maxLen) (hi : ∀ x ∈ S, x.length ≤ maxLen) : Ev (fun k => impl_IsPanel.j0 k false S T) (S.all (fun x => decide (x.length = T.length) && x.all (inR (-1) 1))) := by
  have h' : S.length ≤ 9223372036854775807 := h
  refine Ev.step' (f := fun k => impl_IsPanel.l0 k S (S.length : Int) 0 S T) (fun k => by simp only [impl_IsPanel.j0, Bool.false_eq_true, if_false]) ?_
  refine ev_list [] S (fun i (_ : Unit) k => impl_IsPanel.l0 k S (S.length : Int) i S T) (fun _ ys _ => ys.all (fun x => decide (x.length = T.length) && x.all (inR (-1) 1))) (fun _ _ => True) (fun _ _ => ?_) (fun i x ys _ hi2 hx hm _ ih => ?_) () trivial
  · exact Ev.step' (f := fun _ => some true) (fun k => by simp only [impl_IsPanel.l0, if_neg (Int.lt_irrefl _)]) (Ev.now _)
  · have c1 : (i : Int) < (S.length : Int) := by omega
    have c0 : 0 ≤ (i : Int) := by omega
    rw [List.all_cons, Bool.and_assoc]
    by_cases c : x.length = T.length
    · rw [decide_eq_true c, Bool.true_and]
      refine Ev.step' (f := fun k => (impl_allWithin.f k x (-1) 1).bind fun t => if t = true then impl_IsPanel.l0 k S (S.length : Int) ((i + 1 : Nat) : Int) S T else some false) (fun k => by simp only [impl_IsPanel.l0, if_pos c1, if_pos c0, rdL1_nat, hx, if_pos (show (x.length : Int) = (T.length : Int) by omega), wrap_succ hi2 h']) ?_
      refine Ev.bind (impl_allWithin_ev x (-1) 1 (hi x hm)) ?_
      cases x.all (inR (-1) 1) with
      | false => exact Ev.now _
      | true => simp only [if_true, Bool.true_and]; exact ih () trivial
    · rw [decide_eq_false c, Bool.false_and]
      exact Ev.step' (f := fun _ => some false) (fun k => by simp only [impl_IsPanel.l0, if_pos c1, if_pos c0, rdL1_nat, hx, if_neg (show ¬ (x.length : Int) = (T.length : Int) by omega)]) (Ev.now _)
theorem impl_IsPanel_ev (S : List (List Int)) (T : List Int) (h : S.length ≤ maxLen) (hi : ∀ x ∈ S, x.length ≤ maxLen) (hT : T.length ≤ maxLen) : Ev (fun k => impl_IsPanel.f k S T) (panelB S T) := by
  have no : Ev (fun k => impl_IsPanel.j0 k true S T) false := Ev.step' (f := fun _ => some false) (fun k => by simp only [impl_IsPanel.j0, if_true]) (Ev.now _)
  unfold panelB
  refine Ev.congr (f := fun k => if inR 1 8 S.length = true then (if (T.length : Int) > 16 then impl_IsPanel.j0 k true S T else (impl_areLabels.f k T).bind fun t => impl_IsPanel.j0 k (!t) S T) else impl_IsPanel.j0 k true S T) (fun k => by simp only [impl_IsPanel.f, impl_within_eq, Option.bind_some]) ?_
  cases inR 1 8 S.length with
  | false => simp only [Bool.false_eq_true, if_false]; exact no
  | true =>
    simp only [if_true, Bool.true_and]
    by_cases c : T.length ≤ 16
    · simp only [if_neg (show ¬ (T.length : Int) > 16 by omega), decide_eq_true c, Bool.true_and]
      refine Ev.bind (ev_eq (impl_areLabels_ev T hT) (Bool.and_true _)) ?_
      cases T.all isLab with
      | false => exact no
      | true => exact impl_IsPanel_j0 S T h hi
    · simp only [if_pos (show (T.length : Int) > 16 by omega), decide_eq_false c, Bool.false_and]
      exact no

theorem impl_copied_eq (l : List Int) (h : l.length ≤ 1000) : impl_copied.f l = some l := by
  have c : ([] : List Int).length + l.length < 17592186044416 := by rw [List.length_nil]; omega
  simp only [impl_copied.f, Option.bind_some, if_pos c, List.nil_append]

theorem impl_copies_ev (S : List (List Int)) (h : S.length ≤ 1000) (hi : ∀ x ∈ S, x.length ≤ 1000) : Ev (fun k => impl_copies.f k S) S := by
  refine ev_list [] S (fun i (s : List (List Int)) k => impl_copies.l0 k s S (S.length : Int) i) (fun _ ys s => s ++ ys) (fun i s => s.length = i) (fun s _ => ?_) (fun i x ys s hi2 hx hm hs ih => ?_) [] rfl
  · exact Ev.step' (f := fun _ => some s) (fun k => by simp only [impl_copies.l0, if_neg (Int.lt_irrefl _)]) (by simpa using Ev.now _)
  · have c1 : (i : Int) < (S.length : Int) := by omega
    have c0 : 0 ≤ (i : Int) := by omega
    have c2 : s.length < 5864062014805 := by omega
    exact ev_eq (Ev.step' (f := fun k => impl_copies.l0 k (s ++ [x]) S (S.length : Int) ((i + 1 : Nat) : Int)) (fun k => by simp only [impl_copies.l0, if_pos c1, if_pos c0, if_pos c2, rdL1_nat, hx, impl_copied_eq x (hi x hm), Option.bind_some, wrap_succ hi2 (by omega : S.length ≤ 9223372036854775807)]) (ih (s ++ [x]) (by simp [hs]))) (by simp)

theorem map_step (g : Int → Int) (l : List Int) (i : Nat) (hi : i < l.length) : ((l.map g).take i ++ l.drop i).getD i 0 = l.getD i 0 ∧ ((l.map g).take i ++ l.drop i).set i (g (l.getD i 0)) = (l.map g).take (i + 1) ++ l.drop (i + 1) := by
  have hp : ((l.map g).take i).length = i := by rw [List.length_take, List.length_map]; omega
  have hd : l.drop i = l.getD i 0 :: l.drop (i + 1) := by rw [List.drop_eq_getElem_cons hi]; simp [List.getD_eq_getElem?_getD, List.getElem?_eq_getElem hi]
  have hm : (l.map g).take (i + 1) = (l.map g).take i ++ [g (l.getD i 0)] := by
    rw [List.take_succ_eq_append_getElem (by rw [List.length_map]; exact hi)]
    simp [List.getD_eq_getElem?_getD, List.getElem?_eq_getElem hi]
  have a := getD_mid ((l.map g).take i) (l.getD i 0) (l.drop (i + 1)) 0
  have b := set_mid ((l.map g).take i) (l.getD i 0) (g (l.getD i 0)) (l.drop (i + 1))
  rw [hp] at a b
  rw [hd, hm]
  exact ⟨a, b⟩
theorem impl_WithOpposites_row (S s : List (List Int)) (T x : List Int) (i : Nat) (hi : i < S.length) (hS : S.length ≤ 1000) (hx : x.length ≤ 1000) (hs : s.length ≤ 2000) :
    To (fun k => impl_WithOpposites.l1 k x S (S.length : Int) i (x.length : Int) 0 s T) (fun k => impl_WithOpposites.l0 k S (S.length : Int) ((i + 1 : Nat) : Int) (s ++ [x.map negW]) T) := by
  have hf := to_fold (L := fun j (t : List Int) k => impl_WithOpposites.l1 k t S (S.length : Int) i (x.length : Int) j s T) (n := x.length) (f := fun j t => t.set j (negW (x.getD j 0))) (fun j t => t = (x.map negW).take j ++ x.drop j) (fun j t hj ht => ⟨?_, by rw [ht]; exact (map_step negW x j hj).2⟩) x (by simp)
  · refine hf.1.trans (To.step fun k => ?_)
    have e := hf.2
    rw [List.drop_length, List.append_nil, List.take_of_length_le (by simp)] at e
    rw [e]
    have c2 : s.length < 5864062014805 := by omega
    simp only [impl_WithOpposites.l1, if_neg (Int.lt_irrefl _), if_pos c2, wrap_succ hi (by omega : S.length ≤ 9223372036854775807)]
  · have e := (map_step negW x j hj).1
    rw [← ht] at e
    have hl : t.length = x.length := by rw [ht, List.length_append, List.length_take, List.length_map, List.length_drop]; omega
    have c1 : (j : Int) < (x.length : Int) := by omega
    have c0 : 0 ≤ (j : Int) := by omega
    have c2 : (j : Int) < (t.length : Int) := by omega
    refine To.step fun k => ?_
    simp only [impl_WithOpposites.l1, if_pos c1, if_pos c0, if_pos c2, rd_nat, e, Int.toNat_natCast, wrap_succ hj (by omega : x.length ≤ 9223372036854775807), Int.mul_neg_one, negW]
theorem impl_WithOpposites_ev (S : List (List Int)) (T : List Int) (h : S.length ≤ maxLen) (hi : ∀ x ∈ S, x.length ≤ maxLen) (hT : T.length ≤ maxLen) : Ev (fun k => impl_WithOpposites.f k S T) (oppM S T) := by
  have no : Ev (fun k => impl_WithOpposites.j0 k true S T) ([], [], false) := Ev.step' (f := fun _ => some ([], [], false)) (fun k => by simp only [impl_WithOpposites.j0, if_true]) (Ev.now _)
  refine Ev.bind (impl_IsPanel_ev S T h hi hT) ?_
  unfold oppM
  cases hp : panelB S T with
  | false => simp only [Bool.false_and, Bool.false_eq_true, if_false]; exact no
  | true =>
    obtain ⟨h1, h2, h3, h4, h5⟩ := panel_tell hp
    simp only [if_true, Bool.true_and]
    by_cases c : S.length ≤ 4
    · have d : decide ((S.length : Int) > 4) = false := decide_eq_false (by omega)
      simp only [d, decide_eq_true c, if_true]
      refine Ev.step' (f := fun k => (impl_copies.f k S).bind fun t => impl_WithOpposites.l0 k S (S.length : Int) 0 t T) (fun k => by simp only [impl_WithOpposites.j0, Bool.false_eq_true, if_false, impl_copied_eq T (by omega), Option.bind_some]) (Ev.bind (impl_copies_ev S (by omega) (fun x hx => by have := (h5 x hx).1; omega)) ?_)
      refine ev_list [] S (fun i (s : List (List Int)) k => impl_WithOpposites.l0 k S (S.length : Int) i s T) (fun _ ys s => (s ++ ys.map (List.map negW), T, true)) (fun i s => s.length = S.length + i) (fun s _ => ?_) (fun i x ys s hi2 hx hm hs ih => ?_) S rfl
      · exact Ev.step' (f := fun _ => some (s, T, true)) (fun k => by simp only [impl_WithOpposites.l0, if_neg (Int.lt_irrefl _)]) (by simpa using Ev.now _)
      · have c1 : (i : Int) < (S.length : Int) := by omega
        have c0 : 0 ≤ (i : Int) := by omega
        have hx16 := (h5 x hm).1
        exact ev_eq (Ev.step' (f := fun k => impl_WithOpposites.l1 k x S (S.length : Int) i (x.length : Int) 0 s T) (fun k => by simp only [impl_WithOpposites.l0, if_pos c1, if_pos c0, rdL1_nat, hx, impl_copied_eq x (by omega), Option.bind_some]) (impl_WithOpposites_row S s T x i hi2 (by omega) (by omega) (by omega) _ (ih (s ++ [x.map negW]) (by simp [hs]; omega)))) (by simp)
    · have d : decide ((S.length : Int) > 4) = true := decide_eq_true (by omega)
      simp only [d, decide_eq_false c, Bool.false_eq_true, if_false]
      exact no

theorem laws_heldIntS_ev (l : List Int) (a : Int) (h0 : 0 ≤ a) (h1 : a + l.length ≤ 1000000000000) : Ev (fun k => laws_heldIntS.f k (iota a l) a) (a + l.length) := by
  have e := ev_held (0 : Int) (fun _ => 1) (fun a _ => a) l 1000000000000 (L := fun b i k => laws_heldIntS.l0 k (iota a l) b i) a (fun b i x hi hx hm ha hb => To.step fun k => by
    have c1 : (i : Int) < ((iota a l).length : Int) := by rw [iota_len]; omega
    have c3 : 0 ≤ (i : Int) := by omega
    have c4 : (iota a l).getD i 0 = b := hx
    have e : wrap64 (b + 1) = b + ((1 : Nat) : Int) := wrap_id (by omega) (by simpa using (by omega : b + 1 ≤ 9223372036854775807))
    simp only [laws_heldIntS.l0, if_pos c1, if_pos c3, rd_nat, if_pos c4, wrap_succ (i := i) (n := l.length) hi (by omega), e]) (fun b => Ev.step' (f := fun _ => some b) (fun k => by
    simp only [laws_heldIntS.l0, iota_len, if_neg (Int.lt_irrefl _)]) (Ev.now _)) h0 (by rw [sumN_one]; exact h1)
  rw [sumN_one] at e
  exact e

theorem laws_heldIntSS_ev (P : List (List Int)) (a : Int) (h0 : 0 ≤ a) (h1 : a + sumN List.length P ≤ 1000000000000) (hP : P.length ≤ 1000000000000) : Ev (fun k => laws_heldIntSS.f k (iota2 a P) a) (a + sumN List.length P) := by
  have hlen : (iota2 a P).length = P.length := markL_len _ _ _ _
  refine ev_held ([] : List Int) List.length iota P 1000000000000 (L := fun b i k => laws_heldIntSS.l0 k (iota2 a P) b i) a (fun b i x hi hx hm ha hb r hr => ?_) (fun b => Ev.step' (f := fun _ => some b) (fun k => by simp only [laws_heldIntSS.l0, hlen, if_neg (Int.lt_irrefl _)]) (Ev.now _)) h0 h1
  have c1 : (i : Int) < ((iota2 a P).length : Int) := by rw [hlen]; omega
  have c3 : 0 ≤ (i : Int) := by omega
  have hg : (iota2 a P).getD i [] = iota b x := hx
  refine Ev.step' (f := fun k => (laws_heldIntS.f k (iota b x) b).bind fun t => if t < 0 then some (-1) else laws_heldIntSS.l0 k (iota2 a P) t ((i + 1 : Nat) : Int)) (fun k => by
    simp only [laws_heldIntSS.l0, if_pos c1, if_pos c3, rdL1_nat, hg, wrap_succ hi (by omega : P.length ≤ 9223372036854775807)]) (Ev.bind (laws_heldIntS_ev x b ha hb) ?_)
  simp only [if_neg (show ¬ b + (x.length : Int) < 0 by omega)]
  exact hr

theorem laws_heldPanel_ev (P : List (List Int)) (L : List Int) (a : Int) (h0 : 0 ≤ a) (h1 : a + sumN List.length P + L.length ≤ 1000000000000) (hP : P.length ≤ 1000000000000) : Ev (fun k => laws_heldPanel.f k (iota2 a P) (iota (a + sumN List.length P) L) a) (a + sumN List.length P + L.length) := by
  refine Ev.bind (laws_heldIntSS_ev P a h0 (by omega) hP) ?_
  simp only [if_neg (show ¬ a + (sumN List.length P : Int) < 0 by omega)]
  refine Ev.bind (laws_heldIntS_ev L (a + sumN List.length P) (by omega) h1) ?_
  simp only [if_neg (show ¬ a + (sumN List.length P : Int) + (L.length : Int) < 0 by omega)]
  exact Ev.now _

theorem laws_markIntSS_ev (P : List (List Int)) (a : Int) (h0 : 0 ≤ a) (h1 : a + sumN List.length P ≤ 1000000000000) (hP : P.length ≤ 1000000000000) : Ev (fun k => laws_markIntSS.f k P a) (a + sumN List.length P, iota2 a P) :=
  ev_mark ([] : List Int) List.length iota P 1000000000000 (L := fun ys a i k => laws_markIntSS.l0 k ys a i) (fun ys a i x hi hl hx hm ha hb r hr => by
    refine Ev.step' (f := fun k => (laws_markIntS.f k x a).bind fun b => laws_markIntSS.l0 k (ys.set i b.2) b.1 ((i + 1 : Nat) : Int)) (fun k => ?_) (Ev.bind (laws_markIntS_ev x a ha hb) hr)
    have c1 : (i : Int) < (ys.length : Int) := by omega
    have c3 : 0 ≤ (i : Int) := by omega
    simp only [laws_markIntSS.l0, if_pos c1, if_pos c3, Int.toNat_natCast, rdR_nat, hx, wrap_succ (i := i) (n := ys.length) (by omega) (by omega)]) (fun ys a hl => Ev.step' (f := fun _ => some (a, ys)) (fun k => by
    simp only [laws_markIntSS.l0, hl, if_neg (Int.lt_irrefl _)]) (Ev.now _)) a h0 h1

theorem laws_markPanel_ev (P : List (List Int)) (L : List Int) (a : Int) (h0 : 0 ≤ a) (h1 : a + sumN List.length P + L.length ≤ 1000000000000) (hP : P.length ≤ 1000000000000) : Ev (fun k => laws_markPanel.f k P L a) (a + sumN List.length P + L.length, iota2 a P, iota (a + sumN List.length P) L) :=
  Ev.bind (laws_markIntSS_ev P a h0 (by omega) hP) (Ev.bind (laws_markIntS_ev L (a + sumN List.length P) (by omega) h1) (Ev.now _))

theorem sumN_app {α : Type} (g : α → Nat) : ∀ (xs ys : List α), sumN g (xs ++ ys) = sumN g xs + sumN g ys
  | [], ys => by simp [sumN]
  | x :: xs, ys => by simp only [List.cons_append, sumN, sumN_app g xs ys]; omega
theorem sumN_le {α : Type} (g : α → Nat) (b : Nat) : ∀ (xs : List α), (∀ x ∈ xs, g x ≤ b) → sumN g xs ≤ xs.length * b
  | [], _ => by simp [sumN]
  | x :: xs, h => by
    have := sumN_le g b xs (fun y hy => h y (List.mem_cons_of_mem _ hy))
    have h2 := h x List.mem_cons_self
    simp only [sumN, List.length_cons, Nat.succ_mul]
    omega
theorem oppM_small (S : List (List Int)) (T : List Int) : (oppM S T).1.length ≤ 8 ∧ (∀ x ∈ (oppM S T).1, x.length ≤ 16) ∧ (oppM S T).2.1.length ≤ 16 := by
  unfold oppM
  split
  · next h =>
    simp only [Bool.and_eq_true, decide_eq_true_eq] at h
    obtain ⟨h1, h2, h3, h4, h5⟩ := panel_tell h.1
    refine ⟨by show (S ++ S.map (List.map negW)).length ≤ 8; rw [List.length_append, List.length_map]; omega, fun x hx => ?_, h3⟩
    rcases List.mem_append.1 hx with hx | hx
    · have := (h5 x hx).1; omega
    · obtain ⟨y, hy, rfl⟩ := List.mem_map.1 hx
      rw [List.length_map]
      have := (h5 y hy).1
      omega
  · exact ⟨Nat.zero_le _, fun x hx => by simp at hx, Nat.zero_le _⟩
theorem pure : SFnExactWithOpposites.Pure := by
  intro S T ⟨h, hi0⟩ ⟨hT, _⟩
  have hi : ∀ x ∈ S, x.length ≤ maxLen := fun x hx => (hi0 x hx).1
  obtain ⟨K1, k1⟩ := laws_szPanel_ev S T 1048576 h hi hT (by omega) (by omega)
  by_cases cn : lft 1048576 (sz2 S + T.length) < 0
  · exact .inl ⟨K1, _, k1 K1 (by omega), cn⟩
  · have d := lft_nonneg (Int.not_lt.1 cn)
    have hs := sz2_small (l := S) (n := 1048576) (by omega)
    have hsum : sumN List.length S ≤ 1048576 := by unfold sz2 at d; omega
    have hsm := oppM_small S T
    have hss := sumN_le List.length 16 _ hsm.2.1
    have hs64 : (oppM S T).1.length * 16 ≤ 128 := Nat.mul_le_mul_right 16 hsm.1
    obtain ⟨K2, k2⟩ := laws_toPanel_ev S T hs.1 hs.2 (by omega)
    obtain ⟨K3, k3⟩ := spec_WithOpposites_ev S T h hi hT
    obtain ⟨K4, k4⟩ := impl_WithOpposites_ev S T h hi hT
    obtain ⟨K5, k5⟩ := laws_eqPanel_ev (oppM S T).1 (oppM S T).2.1 (by unfold maxLen; omega) (fun x hx => by have := hsm.2.1 x hx; unfold maxLen; omega) (by unfold maxLen; omega)
    obtain ⟨K6, k6⟩ := laws_eqPanel_ev S T h hi hT
    obtain ⟨K7, k7⟩ := laws_markPanel_ev S T 1 (by omega) (by omega) (by omega)
    obtain ⟨K8, k8⟩ := laws_markPanel_ev (oppM S T).1 (oppM S T).2.1 1 (by omega) (by omega) (by omega)
    obtain ⟨K9, k9⟩ := laws_heldPanel_ev (oppM S T).1 (oppM S T).2.1 1 (by omega) (by omega) (by omega)
    let K := K1 + K2 + K3 + K4 + K5 + K6 + K7 + K8 + K9
    exact .inr ⟨K, _, _, _, (oppM S T).1, (oppM S T).2.1, (oppM S T).2.2, _, _, _, _, _, _, k1 K (by omega), k2 K (by omega), k3 K (by omega), k4 K (by omega), k5 K (by omega), k6 K (by omega), k7 K (by omega), k8 K (by omega), k9 K (by omega), Int.not_lt.1 cn, by omega, by omega⟩
end Go.Proofs.Ytpboffjnnnmicaa.QFnExactWithOpposites
