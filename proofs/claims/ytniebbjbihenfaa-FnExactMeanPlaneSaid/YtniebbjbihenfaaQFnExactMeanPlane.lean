/- FnExactMeanPlane: what its calls come to, shown of numbers and lists alone. -/
import Derived.Test.YtniebbjbihenfaaSFnExactMeanPlane
import Derived.Test.YtniebbjbihenfaaPm
namespace Go.Proofs.Ytniebbjbihenfaa.QFnExactMeanPlane
open Go.RowKit Go.Proofs.Ytniebbjbihenfaa.KFnExactMeanPlane Go.Proofs.Ytniebbjbihenfaa.Lb Go.Proofs.Ytniebbjbihenfaa.Pm Go.Proofs.Ytniebbjbihenfaa.PFnExactMeanPlane Go.Proofs.YtniebbjbihenfaaW.PrintWords Go.Proofs.YtniebbjbihenfaaW.PrintLast Go.Proofs.YtniebbjbihenfaaW.PrintMore
set_option linter.unusedVariables false
set_option linter.unusedSimpArgs false
theorem rdL1_nat (xs : List (List Int)) (i : Nat) : rd_L1 xs (i : Int) = xs.getD i [] := by simp [rd_L1]

theorem laws_szIntS_eq (l : List Int) (a : Int) (h : l.length ≤ maxLen) (h0 : 0 ≤ a) (h1 : a ≤ 1048576) : laws_szIntS.f l a = some (lft a l.length) := by
  unfold maxLen at h
  have hw : wrap64 (a - (l.length : Int)) = a - l.length := wrap_id (by omega) (by omega)
  unfold laws_szIntS.f lft
  rw [hw]
  by_cases c : (l.length : Int) ≤ a
  · rw [if_neg (by omega), if_pos c]
  · rw [if_pos (by omega), if_neg c]

theorem laws_szIntSS_ev (l : List (List Int)) (a : Int) (h : l.length ≤ maxLen) (hi : ∀ x ∈ l, x.length ≤ maxLen) (h0 : 0 ≤ a) (h1 : a ≤ 1048576) : Ev (fun k => laws_szIntSS.f k l a) (lft a (sz2 l)) := by
  have h' : l.length ≤ 9223372036854775807 := h
  unfold sz2 laws_szIntSS.f
  rw [← lft_add a _ _ h0]
  have hw : wrap64 (a - (l.length : Int)) = a - l.length := wrap_id (by omega) (by omega)
  rw [hw]
  by_cases c : (l.length : Int) ≤ a
  · have e : lft a l.length = a - l.length := by unfold lft; rw [if_pos c]
    rw [e]
    simp only [if_neg (show ¬ a - (l.length : Int) < 0 by omega)]
    refine ev_sz [] List.length l (L := fun a i k => laws_szIntSS.l0 k l a i) (fun i a hi2 h0 h1 hn => ?_) (fun i a hi2 h0 h1 hn => ?_) (fun a => Ev.step' (f := fun _ => some a) (fun k => by simp only [laws_szIntSS.l0, if_neg (Int.lt_irrefl _)]) (Ev.now _)) _ (by omega) (by omega)
    · have c1 : (i : Int) < (l.length : Int) := by omega
      have c0 : 0 ≤ (i : Int) := by omega
      refine To.step (fun k => ?_)
      simp only [laws_szIntSS.l0, if_pos c1, if_pos c0, rdL1_nat, laws_szIntS_eq _ a (hi _ (getD_mem hi2 [])) h0 h1, Option.bind_some, if_neg (show ¬ lft a (l.getD i []).length < 0 by omega), wrap_succ hi2 h']
    · have c1 : (i : Int) < (l.length : Int) := by omega
      have c0 : 0 ≤ (i : Int) := by omega
      refine Ev.step' (f := fun _ => some (-1)) (fun k => ?_) (Ev.now _)
      simp only [laws_szIntSS.l0, if_pos c1, if_pos c0, rdL1_nat, laws_szIntS_eq _ a (hi _ (getD_mem hi2 [])) h0 h1, Option.bind_some, if_pos hn]
  · have e : lft a l.length = -1 := by unfold lft; rw [if_neg c]
    rw [e]
    simp only [if_pos (show a - (l.length : Int) < 0 by omega), if_pos (show (-1 : Int) < 0 by omega)]
    exact Ev.now _

theorem laws_szSample_ev (P : List (List Int)) (L : List Int) (a : Int) (h : P.length ≤ maxLen) (hi : ∀ x ∈ P, x.length ≤ maxLen) (hL : L.length ≤ maxLen) (h0 : 0 ≤ a) (h1 : a ≤ 1048576) : Ev (fun k => laws_szSample.f k P L a) (lft a (sz2 P + L.length)) := by
  have hle := lft_le a (sz2 P) h0
  refine Ev.bind (laws_szIntSS_ev P a h hi h0 h1) ?_
  rw [← lft_add a _ _ h0]
  by_cases c : lft a (sz2 P) < 0
  · simp only [if_pos c]; exact Ev.now _
  · simp only [if_neg c, laws_szIntS_eq L _ hL (show 0 ≤ lft a (sz2 P) by omega) (show lft a (sz2 P) ≤ 1048576 by omega), Option.bind_some]
    by_cases c2 : lft (lft a (sz2 P)) L.length < 0
    · simp only [if_pos c2, lft_neg c2]; exact Ev.now _
    · simp only [if_neg c2]; exact Ev.now _

theorem laws_toIntS_ev (l : List Int) (h : l.length ≤ 1048576) : Ev (fun k => laws_toIntS.f k l) l := by
  have hw : wrap64 (l.length : Int) = l.length := wrap_id (by omega) (by omega)
  have c0 : 0 ≤ (l.length : Int) := by omega
  have e : ∀ k, laws_toIntS.f k l = laws_toIntS.l0 k l (List.replicate l.length 0) 0 := fun k => by
    simp only [laws_toIntS.f, if_pos c0, Int.toNat_natCast]; rw [if_pos (by omega)]
  refine Ev.congr e ?_
  have hf := to_fold (L := fun i (s : List Int) k => laws_toIntS.l0 k l s i) (n := l.length) (f := fun i s => s.set i (l.getD i 0)) (fun i s => s = l.take i ++ List.replicate (l.length - i) 0) (fun i s hi hs => ⟨To.step fun k => ?_, ?_⟩) (List.replicate l.length 0) (by simp)
  · refine hf.1 _ (Ev.step' (f := fun _ => some l) (fun k => ?_) (Ev.now _))
    have := hf.2
    rw [Nat.sub_self, List.take_length, List.replicate_zero, List.append_nil] at this
    show laws_toIntS.l0 (k + 1) l _ _ = _
    rw [this]
    simp only [laws_toIntS.l0, if_neg (Int.lt_irrefl _)]
  · have c1 : (i : Int) < (l.length : Int) := by omega
    have c2 : (i : Int) < (s.length : Int) := by rw [hs, List.length_append, List.length_take, List.length_replicate]; omega
    have c3 : 0 ≤ (i : Int) := by omega
    simp only [laws_toIntS.l0, if_pos c1, if_pos c2, if_pos c3, rd_nat, Int.toNat_natCast, wrap_succ hi (by omega : l.length ≤ 9223372036854775807)]
  · show List.set s i _ = _
    rw [hs]; exact set_step l 0 0 i hi

theorem laws_toIntSS_ev (l : List (List Int)) (h : l.length ≤ 1048576) (hi : ∀ x ∈ l, x.length ≤ 1048576) : Ev (fun k => laws_toIntSS.f k l) l := by
  have c0 : 0 ≤ (l.length : Int) := by omega
  have e : ∀ k, laws_toIntSS.f k l = laws_toIntSS.l0 k l (List.replicate l.length []) 0 := fun k => by
    simp only [laws_toIntSS.f, if_pos c0, Int.toNat_natCast]; rw [if_pos (by omega)]
  refine Ev.congr e ?_
  have hf := to_fold (L := fun i (s : List (List Int)) k => laws_toIntSS.l0 k l s i) (n := l.length) (f := fun i s => s.set i (l.getD i [])) (fun i s => s = l.take i ++ List.replicate (l.length - i) []) (fun i s hi2 hs => ⟨?_, ?_⟩) (List.replicate l.length []) (by simp)
  · refine hf.1 _ (Ev.step' (f := fun _ => some l) (fun k => ?_) (Ev.now _))
    have := hf.2
    rw [Nat.sub_self, List.take_length, List.replicate_zero, List.append_nil] at this
    show laws_toIntSS.l0 (k + 1) l _ _ = _
    rw [this]
    simp only [laws_toIntSS.l0, if_neg (Int.lt_irrefl _)]
  · have c1 : (i : Int) < (l.length : Int) := by omega
    have c2 : (i : Int) < (s.length : Int) := by rw [hs, List.length_append, List.length_take, List.length_replicate]; omega
    have c3 : 0 ≤ (i : Int) := by omega
    refine (To.step (f := fun k => (laws_toIntS.f k (l.getD i [])).bind fun t => laws_toIntSS.l0 k l (s.set i t) ((i + 1 : Nat) : Int)) (fun k => ?_)).trans (To.bind (laws_toIntS_ev _ (hi _ (getD_mem hi2 []))))
    simp only [laws_toIntSS.l0, if_pos c1, if_pos c2, if_pos c3, rdL1_nat, Int.toNat_natCast, wrap_succ hi2 (by omega : l.length ≤ 9223372036854775807)]
  · show List.set s i _ = _
    rw [hs]; exact set_step l [] [] i hi2

theorem laws_toSample_ev (P : List (List Int)) (L : List Int) (h : P.length ≤ 1048576) (hi : ∀ x ∈ P, x.length ≤ 1048576) (hL : L.length ≤ 1048576) : Ev (fun k => laws_toSample.f k P L) (P, L) := Ev.bind (laws_toIntSS_ev P h hi) (Ev.bind (laws_toIntS_ev L hL) (Ev.now _))

theorem laws_eqIntS_ev (l : List Int) (h : l.length ≤ maxLen) : Ev (fun k => laws_eqIntS.f k l l) true := by
  unfold maxLen at h
  refine Ev.congr (f := fun k => laws_eqIntS.l0 k l l 0) (fun k => by simp only [laws_eqIntS.f, if_true]) ?_
  refine ev_yes (L := fun i k => laws_eqIntS.l0 k l l i) (n := l.length) (fun i hi => To.step fun k => ?_) (Ev.step' (f := fun _ => some true) (fun k => ?_) (Ev.now _))
  · have c1 : (i : Int) < (l.length : Int) := by omega
    have c0 : 0 ≤ (i : Int) := by omega
    simp only [laws_eqIntS.l0, if_pos c1, if_pos c0, if_true, wrap_succ hi h]
  · simp only [laws_eqIntS.l0, if_neg (Int.lt_irrefl _)]

theorem laws_eqIntSS_ev (l : List (List Int)) (h : l.length ≤ maxLen) (hi : ∀ x ∈ l, x.length ≤ maxLen) : Ev (fun k => laws_eqIntSS.f k l l) true := by
  have h' : l.length ≤ 9223372036854775807 := h
  refine Ev.congr (f := fun k => laws_eqIntSS.l0 k l l 0) (fun k => by simp only [laws_eqIntSS.f, if_true]) ?_
  refine ev_yes (L := fun i k => laws_eqIntSS.l0 k l l i) (n := l.length) (fun i hi2 => ?_) (Ev.step' (f := fun _ => some true) (fun k => ?_) (Ev.now _))
  · have c1 : (i : Int) < (l.length : Int) := by omega
    have c0 : 0 ≤ (i : Int) := by omega
    refine (To.step (f := fun k => (laws_eqIntS.f k (l.getD i []) (l.getD i [])).bind fun t => if t = true then laws_eqIntSS.l0 k l l ((i + 1 : Nat) : Int) else some false) (fun k => ?_)).trans ((To.bind (laws_eqIntS_ev _ (hi _ (getD_mem hi2 [])))).trans (To.congr fun k => by simp only [if_true]))
    simp only [laws_eqIntSS.l0, if_pos c1, if_pos c0, rdL1_nat, wrap_succ hi2 h']
  · simp only [laws_eqIntSS.l0, if_neg (Int.lt_irrefl _)]

theorem laws_eqSample_ev (P : List (List Int)) (L : List Int) (h : P.length ≤ maxLen) (hi : ∀ x ∈ P, x.length ≤ maxLen) (hL : L.length ≤ maxLen) : Ev (fun k => laws_eqSample.f k P L P L) true := by
  refine Ev.bind (laws_eqIntSS_ev P h hi) ?_
  simp only [if_true]
  refine Ev.bind (laws_eqIntS_ev L hL) ?_
  simp only [if_true]
  exact Ev.now _

theorem laws_markIntS_ev (l : List Int) (a : Int) (h0 : 0 ≤ a) (h1 : a + l.length ≤ 1000000000000) : Ev (fun k => laws_markIntS.f k l a) (a + l.length, iota a l) := by
  have e := ev_mark (0 : Int) (fun _ => 1) (fun a _ => a) l 1000000000000 (L := fun ys a i k => laws_markIntS.l0 k ys a i) (fun ys a i x hi hl hx hm ha hb => To.step fun k => by
    have c1 : (i : Int) < (ys.length : Int) := by omega
    have c3 : 0 ≤ (i : Int) := by omega
    have e : wrap64 (a + 1) = a + ((1 : Nat) : Int) := wrap_id (by omega) (by simpa using (by omega : a + 1 ≤ 9223372036854775807))
    simp only [laws_markIntS.l0, if_pos c1, if_pos c3, Int.toNat_natCast, wrap_succ (i := i) (n := ys.length) (by omega) (by omega), e]) (fun ys a hl => Ev.step' (f := fun _ => some (a, ys)) (fun k => by
    simp only [laws_markIntS.l0, hl, if_neg (Int.lt_irrefl _)]) (Ev.now _)) a h0 (by rw [sumN_one]; exact h1)
  rw [sumN_one] at e
  exact e

theorem laws_heldIntS_ev (l : List Int) (a : Int) (h0 : 0 ≤ a) (h1 : a + l.length ≤ 1000000000000) : Ev (fun k => laws_heldIntS.f k (iota a l) a) (a + l.length) := by
  have e := ev_held (0 : Int) (fun _ => 1) (fun a _ => a) l 1000000000000 (L := fun b i k => laws_heldIntS.l0 k (iota a l) b i) a (fun b i x hi hx hm ha hb => To.step fun k => by
    have c1 : (i : Int) < ((iota a l).length : Int) := by rw [iota_len]; omega
    have c3 : 0 ≤ (i : Int) := by omega
    have c4 : (iota a l).getD i 0 = b := hx
    have e : wrap64 (b + 1) = b + ((1 : Nat) : Int) := wrap_id (by omega) (by simpa using (by omega : b + 1 ≤ 9223372036854775807))
    simp only [laws_heldIntS.l0, if_pos c1, if_pos c3, rd_nat, if_pos c4, wrap_succ (i := i) (n := l.length) hi (by omega), e]) (fun b => Ev.step' (f := fun _ => some b) (fun k => by
    simp only [laws_heldIntS.l0, iota_len, if_neg (Int.lt_irrefl _)]) (Ev.now _)) h0 (by rw [sumN_one]; exact h1)
  rw [sumN_one] at e
  exact e

theorem spec_l2Labels_ev (l : List Int) (h : l.length ≤ maxLen) : Ev (fun k => spec_l2Labels.f k l) (l.all isLab) := by
  have h' : l.length ≤ 9223372036854775807 := h
  refine ev_list 0 l (fun i (_ : Unit) k => spec_l2Labels.l0 k l i) (fun _ ys _ => ys.all isLab) (fun _ _ => True) (fun _ _ => ?_) (fun i x ys _ hi hx hm _ ih => ?_) () trivial
  · exact Ev.step' (f := fun _ => some true) (fun k => by simp only [spec_l2Labels.l0, if_neg (Int.lt_irrefl _)]) (Ev.now _)
  · have c1 : (i : Int) < (l.length : Int) := by omega
    have c0 : 0 ≤ (i : Int) := by omega
    have ih := ih () trivial
    simp only [List.all_cons]
    unfold isLab at ih ⊢
    by_cases e1 : x = 1
    · rw [show (decide (x = 1) || decide (x = -1)) = true by simp [e1], Bool.true_and]
      exact Ev.step' (fun k => by simp only [spec_l2Labels.l0, if_pos c1, if_pos c0, rd_nat, hx, if_pos e1, wrap_succ hi h']) ih
    · by_cases e2 : x = -1
      · rw [show (decide (x = 1) || decide (x = -1)) = true by simp [e2], Bool.true_and]
        exact Ev.step' (fun k => by simp only [spec_l2Labels.l0, if_pos c1, if_pos c0, rd_nat, hx, if_neg e1, if_pos e2, wrap_succ hi h']) ih
      · rw [show (decide (x = 1) || decide (x = -1)) = false by simp [e1, e2], Bool.false_and]
        exact Ev.step' (f := fun _ => some false) (fun k => by simp only [spec_l2Labels.l0, if_pos c1, if_pos c0, rd_nat, hx, if_neg e1, if_neg e2]) (Ev.now _)

theorem spec_l1In_eq (x a b : Int) : spec_l1In.f x a b = some (inR a b x) := in_tells a b x

theorem spec_l2Numbers_ev (l : List Int) (m : Int) (h : l.length ≤ maxLen) : Ev (fun k => spec_l2Numbers.f k l m) (l.all (inR (wrap64 (-m)) m)) := by
  unfold maxLen at h
  rw [← range_all l (inR (wrap64 (-m)) m) 0]
  refine ev_all (L := fun i k => spec_l2Numbers.l0 k l m i) (fun i hi hp => To.step fun k => ?_) (fun i hi hp => Ev.step' (f := fun _ => some false) (fun k => ?_) (Ev.now _)) (Ev.step' (f := fun _ => some true) (fun k => ?_) (Ev.now _))
  · have c1 : (i : Int) < (l.length : Int) := by omega
    have c0 : 0 ≤ (i : Int) := by omega
    simp only [spec_l2Numbers.l0, if_pos c1, if_pos c0, spec_l1In_eq, rd_nat, hp, Option.bind_some, if_true, wrap_succ hi h]
  · have c1 : (i : Int) < (l.length : Int) := by omega
    have c0 : 0 ≤ (i : Int) := by omega
    simp only [spec_l2Numbers.l0, if_pos c1, if_pos c0, spec_l1In_eq, rd_nat, hp, Option.bind_some, Bool.false_eq_true, if_false]
  · simp only [spec_l2Numbers.l0, if_neg (Int.lt_irrefl _)]

theorem spec_l2Point_ev (l : List Int) (h : l.length ≤ maxLen) : Ev (fun k => spec_l2Point.f k l) (pointB l) := by
  have e : ∀ k, spec_l2Point.f k l = if inR 1 4 l.length = true then (spec_l2Numbers.f k l 9).bind (fun t => some t) else some false := fun k => by simp only [spec_l2Point.f, spec_l1In_eq, Option.bind_some]
  refine Ev.congr e ?_
  unfold pointB
  cases inR 1 4 l.length with
  | false => exact Ev.now _
  | true =>
    simp only [if_true, Bool.true_and]
    refine Ev.bind (spec_l2Numbers_ev l 9 h) ?_
    rw [show wrap64 (-9) = -9 from wrap_id (by omega) (by omega)]
    exact Ev.now _

theorem spec_l2Sample_ev (P : List (List Int)) (L : List Int) (h : P.length ≤ maxLen) (hi : ∀ x ∈ P, x.length ≤ maxLen) (hL : L.length ≤ maxLen) : Ev (fun k => spec_l2Sample.f k P L) (sampleB P L) := by
  have h' : P.length ≤ 9223372036854775807 := h
  have no : Ev (fun k => spec_l2Sample.j0 k true P L) false := Ev.step' (f := fun _ => some false) (fun k => by simp only [spec_l2Sample.j0, if_true]) (Ev.now _)
  unfold sampleB spec_l2Sample.f
  by_cases c : P.length ≤ 16
  · rw [decide_eq_true c, Bool.true_and]
    simp only [if_neg (show ¬ (P.length : Int) > 16 by omega)]
    by_cases c2 : L.length = P.length
    · rw [decide_eq_true c2, Bool.true_and]
      simp only [if_pos (show (L.length : Int) = (P.length : Int) by omega)]
      refine Ev.bind (spec_l2Labels_ev L hL) ?_
      cases L.all isLab with
      | false => exact no
      | true =>
        refine Ev.step' (f := fun k => spec_l2Sample.l0 k 0 P L) (fun k => by simp only [spec_l2Sample.j0, Bool.not_true, Bool.false_eq_true, if_false]) ?_
        rw [Bool.true_and]
        refine ev_list [] P (fun i (_ : Unit) k => spec_l2Sample.l0 k i P L) (fun _ ys _ => ys.all (ptB P)) (fun _ _ => True) (fun _ _ => ?_) (fun i x ys _ hi2 hx hm _ ih => ?_) () trivial
        · exact Ev.step' (f := fun _ => some true) (fun k => by simp only [spec_l2Sample.l0, if_neg (Int.lt_irrefl _)]) (Ev.now _)
        · have c1 : (i : Int) < (P.length : Int) := by omega
          have c0 : 0 ≤ (i : Int) := by omega
          have cp : 0 < (P.length : Int) := by omega
          rw [List.all_cons]
          unfold ptB
          refine Ev.step' (f := fun k => (spec_l2Point.f k x).bind fun t => if t = true then (if (x.length : Int) = ((P.getD 0 []).length : Int) then spec_l2Sample.l0 k ((i + 1 : Nat) : Int) P L else some false) else some false) (fun k => by simp only [spec_l2Sample.l0, if_pos c1, if_pos c0, if_pos cp, rdL1_nat, hx, wrap_succ hi2 h'] <;> rfl) ?_
          refine Ev.bind (spec_l2Point_ev x (hi x hm)) ?_
          cases pointB x with
          | false => exact Ev.now _
          | true =>
            simp only [if_true, Bool.true_and]
            by_cases c5 : x.length = (P.getD 0 []).length
            · rw [decide_eq_true c5, Bool.true_and]
              simp only [if_pos (show (x.length : Int) = ((P.getD 0 []).length : Int) by omega)]
              exact ih () trivial
            · rw [decide_eq_false c5, Bool.false_and]
              simp only [if_neg (show ¬ (x.length : Int) = ((P.getD 0 []).length : Int) by omega)]
              exact Ev.now _
    · rw [decide_eq_false c2, Bool.false_and]
      simp only [if_neg (show ¬ (L.length : Int) = (P.length : Int) by omega)]
      exact no
  · rw [decide_eq_false c, Bool.false_and]
    simp only [if_pos (show (P.length : Int) > 16 by omega)]
    exact no

theorem spec_l1Has_ev (l : List Int) (v : Int) (h : l.length ≤ maxLen) : Ev (fun k => spec_l1Has.f k l v) (decide (0 < l.count v)) := by
  have h' : l.length ≤ 9223372036854775807 := h
  refine ev_list 0 l (fun i (_ : Unit) k => spec_l1Has.l0 k l v i) (fun _ ys _ => decide (0 < ys.count v)) (fun _ _ => True) (fun _ _ => ?_) (fun i x ys _ hi hx hm _ ih => ?_) () trivial
  · exact Ev.step' (f := fun _ => some false) (fun k => by simp only [spec_l1Has.l0, if_neg (Int.lt_irrefl _)]) (Ev.now _)
  · have c1 : (i : Int) < (l.length : Int) := by omega
    have c0 : 0 ≤ (i : Int) := by omega
    by_cases c : x = v
    · exact ev_eq (Ev.step' (f := fun _ => some true) (fun k => by simp only [spec_l1Has.l0, if_pos c1, if_pos c0, rd_nat, hx, if_pos c]) (Ev.now _)) (by simp [c])
    · exact ev_eq (Ev.step' (fun k => by simp only [spec_l1Has.l0, if_pos c1, if_pos c0, rd_nat, hx, if_neg c, wrap_succ hi h']) (ih () trivial)) (by simp [List.count_cons, c])

theorem spec_l4Mixed_ev (P : List (List Int)) (L : List Int) (h : P.length ≤ maxLen) (hi : ∀ x ∈ P, x.length ≤ maxLen) (hL : L.length ≤ maxLen) : Ev (fun k => spec_l4Mixed.f k P L) (sampleB P L && (decide (0 < L.count 1) && decide (0 < L.count (-1)))) := by
  refine Ev.bind (spec_l2Sample_ev P L h hi hL) ?_
  cases sampleB P L with
  | false => simp only [Bool.false_and, Bool.false_eq_true, if_false]; exact Ev.now _
  | true =>
    simp only [Bool.true_and, if_true]
    refine Ev.bind (spec_l1Has_ev L 1 hL) ?_
    cases decide (0 < L.count 1) with
    | false => simp only [Bool.false_and, Bool.false_eq_true, if_false]; exact Ev.now _
    | true => simp only [Bool.true_and, if_true]; exact Ev.bind (spec_l1Has_ev L (-1) hL) (Ev.now _)

theorem spec_l8Ones_ev (P : List (List Int)) (L : List Int) (h : P.length ≤ 16) : Ev (fun k => spec_l8Ones.f k P L) (List.replicate P.length 1) := by
  have hf := to_fold (L := fun i (s : List Int) k => spec_l8Ones.l0 k s i P L) (n := P.length) (f := fun _ s => s ++ [1]) (fun i s => s.length = i) (fun i s hi hs => ⟨To.step fun k => by
    have c1 : (i : Int) < (P.length : Int) := by omega
    have c2 : s.length < 17592186044416 := by omega
    simp only [spec_l8Ones.l0, if_pos c1, if_pos c2, wrap_succ hi (by omega : P.length ≤ 9223372036854775807)], by simp [hs]⟩) [] rfl
  refine hf.1 _ (Ev.step' (f := fun _ => some (List.replicate P.length 1)) (fun k => ?_) (Ev.now _))
  rw [fold_append, List.nil_append, map_const]
  simp only [spec_l8Ones.l0, if_neg (Int.lt_irrefl _)]

theorem spec_l4Sums_row (P : List (List Int)) (L : List Int) (lab : Int) (hs : sampleB P L = true) (i : Nat) (hi : i < P.length) (c : Int) (s : List Int) (hl : s.length = (P.getD i []).length) :
    To (fun k => spec_l4Sums.l1 k (List.replicate P.length 1) lab (c :: s) i 0 P L) (fun k => spec_l4Sums.l0 k (List.replicate P.length 1) lab (c :: addAt (P.getD i []) s) ((i + 1 : Nat) : Int) P L) := by
  have ht := sample_tell hs
  have h16 := ht.1
  have hp := ht.2.2.2 _ (getD_mem hi [])
  have hlen := point_len hp.1
  have hnear := point_near hp.1
  have hone : (List.replicate P.length (1 : Int)).getD i 0 = 1 := by simp [List.getD_eq_getElem?_getD, hi]
  have c0 : 0 ≤ (i : Int) := by omega
  have c1 : (i : Int) < (P.length : Int) := by omega
  have c2 : (i : Int) < ((List.replicate P.length (1 : Int)).length : Int) := by rw [List.length_replicate]; omega
  have hf := to_fold (L := fun j (s : List Int) k => spec_l4Sums.l1 k (List.replicate P.length 1) lab (c :: s) i j P L) (n := (P.getD i []).length) (f := fun j s => s.set j (wrap64 (s.getD j 0 + (P.getD i []).getD j 0))) (fun _ s => s.length = (P.getD i []).length) (fun j s hj hl => ⟨To.step fun k => by
    have c3 : (j : Int) < ((P.getD i []).length : Int) := by omega
    have c4 : 0 ≤ (j : Int) + 1 := by omega
    have c5 : (j : Int) + 1 < ((c :: s).length : Int) := by rw [List.length_cons]; omega
    have c6 : 0 ≤ (j : Int) := by omega
    have e : ((j : Int) + 1).toNat = j + 1 := by omega
    have hw : wrap64 ((j : Int) + 1) = (j : Int) + 1 := wrap_id (by omega) (by omega)
    have hv := hnear _ (getD_mem hj 0)
    have hm : wrap64 (1 * (P.getD i []).getD j 0) = (P.getD i []).getD j 0 := by rw [Int.one_mul]; exact wrap_id (by omega) (by omega)
    simp only [spec_l4Sums.l1, if_pos c0, if_pos c1, if_pos c2, rdL1_nat, hw, if_pos c3, if_pos c4, if_pos c5, if_pos c6, rd_cons, rd_nat, hone, hm, e, List.set_cons_succ]
    exact congrArg (fun z => spec_l4Sums.l1 k _ lab _ i z P L) (show (j : Int) + 1 = ((j + 1 : Nat) : Int) from by omega), by
      show (s.set j _).length = _
      rw [List.length_set]; exact hl⟩) s hl
  refine hf.1.trans (To.step fun k => ?_)
  unfold addAt
  simp only [spec_l4Sums.l1, if_pos c0, if_pos c1, rdL1_nat, if_neg (Int.lt_irrefl _), wrap_succ hi (by omega : P.length ≤ 9223372036854775807)]
theorem spec_l4Sums_ev (P : List (List Int)) (L : List Int) (lab : Int) (hs : sampleB P L = true) (h0 : 0 < P.length) : Ev (fun k => spec_l4Sums.f k P L (List.replicate P.length 1) lab) ((sumsM P L lab (P.getD 0 []).length).1 :: (sumsM P L lab (P.getD 0 []).length).2) := by
  have ht := sample_tell hs
  have h16 := ht.1
  have hLP := ht.2.1
  have hp0 := point_len (ht.2.2.2 _ (getD_mem h0 [])).1
  have c0 : 0 < (P.length : Int) := by omega
  have hw : wrap64 (((P.getD 0 []).length : Int) + 1) = (((P.getD 0 []).length + 1 : Nat) : Int) := wrap_id (by omega) (by omega)
  have e0 : rd_L1 P 0 = P.getD 0 [] := rdL1_nat P 0
  have hf := to_fold (L := fun i (s : Int × List Int) k => spec_l4Sums.l0 k (List.replicate P.length 1) lab (s.1 :: s.2) i P L) (n := P.length) (f := fun i s => sumStep P L lab i s) (fun _ s => s.2.length = (P.getD 0 []).length) (fun i s hi hl => ⟨?_, by rw [sumStep_len]; exact hl⟩) (0, List.replicate (P.getD 0 []).length 0) (by simp)
  · refine Ev.congr (f := fun k => spec_l4Sums.l0 k (List.replicate P.length 1) lab (0 :: List.replicate (P.getD 0 []).length 0) 0 P L) (fun k => ?_) (hf.1 _ ?_)
    · have c1 : 0 ≤ (((P.getD 0 []).length + 1 : Nat) : Int) := by omega
      have c2 : (P.getD 0 []).length + 1 ≤ 35184372088832 := by omega
      simp only [spec_l4Sums.f, if_pos c0, e0, hw, if_pos c1, Int.toNat_natCast, if_pos c2, List.replicate_succ]
    · exact Ev.step' (f := fun _ => some ((sumsM P L lab (P.getD 0 []).length).1 :: (sumsM P L lab (P.getD 0 []).length).2)) (fun k => by simp only [spec_l4Sums.l0, if_neg (Int.lt_irrefl _)] <;> rfl) (Ev.now _)
  · have c1 : 0 ≤ (i : Int) := by omega
    have c2 : (i : Int) < (P.length : Int) := by omega
    have c3 : (i : Int) < (L.length : Int) := by omega
    have c4 : 0 < ((s.1 :: s.2).length : Int) := by rw [List.length_cons]; omega
    have c5 : (i : Int) < ((List.replicate P.length (1 : Int)).length : Int) := by rw [List.length_replicate]; omega
    have hone : (List.replicate P.length (1 : Int)).getD i 0 = 1 := by simp [List.getD_eq_getElem?_getD, hi]
    have er : rd (s.1 :: s.2) 0 = s.1 := rfl
    have hw2 : wrap64 ((i : Int) + 1) = ((i + 1 : Nat) : Int) := wrap_succ hi (by omega : P.length ≤ 9223372036854775807)
    unfold sumStep
    by_cases c : L.getD i 0 = lab
    · simp only [if_pos c]
      refine To.trans (To.step (f := fun k => spec_l4Sums.l1 k (List.replicate P.length 1) lab (wrap64 (s.1 + 1) :: s.2) i 0 P L) fun k => ?_) (spec_l4Sums_row P L lab hs i hi _ s.2 (by rw [hl, sample_eq hs hi _ (getD_mem h0 [])]))
      simp only [spec_l4Sums.l0, if_pos c1, if_pos c2, if_pos c3, if_pos c4, if_pos c5, rd_nat, if_pos c, hone, er, Int.toNat_zero, List.set_cons_zero]
    · simp only [if_neg c]
      refine To.step fun k => ?_
      simp only [spec_l4Sums.l0, if_pos c1, if_pos c2, if_pos c3, rd_nat, if_neg c, hw2]

theorem spec_l2Dot_ev (a b : List Int) (h : a.length ≤ maxLen) (hb : a.length ≤ b.length) : Ev (fun k => spec_l2Dot.f k a b) (dotW a b) := by
  unfold maxLen at h
  have hf := to_fold (L := fun i (s : Int) k => spec_l2Dot.l0 k a b s i) (n := a.length) (f := fun i s => wrap64 (s + wrap64 (a.getD i 0 * b.getD i 0))) (fun _ _ => True) (fun i s hi _ => ⟨To.step fun k => ?_, trivial⟩) 0 trivial
  · refine hf.1 _ (Ev.step' (f := fun _ => some _) (fun k => ?_) (Ev.now _))
    simp only [spec_l2Dot.l0, if_neg (Int.lt_irrefl _)]; rfl
  · have c1 : (i : Int) < (a.length : Int) := by omega
    have c2 : (i : Int) < (b.length : Int) := by omega
    have c3 : 0 ≤ (i : Int) := by omega
    simp only [spec_l2Dot.l0, if_pos c1, if_pos c2, if_pos c3, rd_nat, wrap_succ hi h]

theorem spec_MeanPlane_go (p q : Int) (a b : List Int) (h : b.length = a.length) (ha : a.length ≤ 4) : Ev (fun k => spec_MeanPlane.l0 k (p :: a) (q :: b) p q [] 1) (meanOf p q a b) := by
  have hf := to_fold (L := fun j (s : List Int) k => spec_MeanPlane.l0 k (p :: a) (q :: b) p q s (j + 1)) (n := a.length) (f := fun j s => s ++ [wrap64 ((wrap64 ((wrap64 (2 * p)) * q)) * (wrap64 ((wrap64 (q * a.getD j 0)) - (wrap64 (p * b.getD j 0)))))]) (fun j s => s.length = j) (fun j s hj hs => ⟨To.step fun k => by
    have c1 : (j : Int) + 1 < ((p :: a).length : Int) := by rw [List.length_cons]; omega
    have c2 : 0 ≤ (j : Int) + 1 := by omega
    have c3 : (j : Int) + 1 < ((q :: b).length : Int) := by rw [List.length_cons]; omega
    have c4 : s.length < 17592186044416 := by omega
    have hw : wrap64 ((j : Int) + 1 + 1) = ((j + 1 : Nat) : Int) + 1 := by rw [wrap_id (by omega) (by omega)]; omega
    simp only [spec_MeanPlane.l0, if_pos c1, if_pos c2, if_pos c3, if_pos c4, rd_cons, hw], by simp [hs]⟩) [] rfl
  refine hf.1 _ ?_
  rw [fold_append, List.nil_append]
  have c1 : ¬ (a.length : Int) + 1 < ((p :: a).length : Int) := by rw [List.length_cons]; omega
  have c2 : 1 ≤ ((p :: a).length : Int) := by rw [List.length_cons]; omega
  have c3 : 1 ≤ ((q :: b).length : Int) := by rw [List.length_cons]; omega
  refine Ev.step' (f := fun k => (spec_l2Dot.f k a a).bind fun t => (spec_l2Dot.f k b b).bind fun u => some (meanW p q a b, wrap64 ((wrap64 ((wrap64 (q * q)) * t)) - (wrap64 ((wrap64 (p * p)) * u))), true)) (fun k => by
    simp only [spec_MeanPlane.l0, if_neg c1, if_pos c2, if_pos c3, List.drop_one, List.tail_cons]
    rfl) (Ev.bind (spec_l2Dot_ev a a (by unfold maxLen; omega) (Nat.le_refl _)) (Ev.bind (spec_l2Dot_ev b b (by unfold maxLen; omega) (Nat.le_refl _)) (Ev.now _)))
theorem spec_MeanPlane_ev (P : List (List Int)) (L : List Int) (h : P.length ≤ maxLen) (hi : ∀ x ∈ P, x.length ≤ maxLen) (hL : L.length ≤ maxLen) : Ev (fun k => spec_MeanPlane.f k P L) (meanM P L) := by
  refine Ev.bind (spec_l4Mixed_ev P L h hi hL) ?_
  unfold meanM
  cases hm : (sampleB P L && (decide (0 < L.count 1) && decide (0 < L.count (-1)))) with
  | false => simp only [Bool.false_eq_true, if_false]; exact Ev.now _
  | true =>
    simp only [Bool.and_eq_true, decide_eq_true_eq] at hm
    have hs := hm.1
    have ht := sample_tell hs
    have hc := List.count_le_length (a := (1 : Int)) (l := L)
    have h0 : 0 < P.length := by omega
    have hp0 := point_len (ht.2.2.2 _ (getD_mem h0 [])).1
    simp only [if_true]
    refine Ev.bind (spec_l8Ones_ev P L ht.1) (Ev.bind (spec_l4Sums_ev P L 1 hs h0) (Ev.bind (spec_l4Sums_ev P L (-1) hs h0) ?_))
    rw [sumsM_fst P L 1 _ ht.2.1 ht.1, sumsM_fst P L (-1) _ ht.2.1 ht.1]
    have l1 := sumsM_len P L 1 (P.getD 0 []).length
    have l2 := sumsM_len P L (-1) (P.getD 0 []).length
    refine Ev.congr (fun k => ?_) (spec_MeanPlane_go (L.count 1) (L.count (-1)) (sumsM P L 1 (P.getD 0 []).length).2 (sumsM P L (-1) (P.getD 0 []).length).2 (by rw [l1, l2]) (by rw [l1]; omega))
    rw [if_pos (by rw [List.length_cons]; omega), if_pos (by rw [List.length_cons]; omega)]
    rfl

theorem impl_within_eq (x a b : Int) : impl_within.f x a b = some (inR a b x) := in_tells a b x

theorem impl_allWithin_ev (l : List Int) (a b : Int) (h : l.length ≤ maxLen) : Ev (fun k => impl_allWithin.f k l a b) (l.all (inR a b)) := by
  unfold maxLen at h
  rw [← range_all l (inR a b) 0]
  refine ev_all (L := fun i k => impl_allWithin.l0 k a b l (l.length : Int) i) (fun i hi hp => To.step fun k => ?_) (fun i hi hp => Ev.step' (f := fun _ => some false) (fun k => ?_) (Ev.now _)) (Ev.step' (f := fun _ => some true) (fun k => ?_) (Ev.now _))
  · have c1 : (i : Int) < (l.length : Int) := by omega
    have c0 : 0 ≤ (i : Int) := by omega
    simp only [impl_allWithin.l0, if_pos c1, if_pos c0, impl_within_eq, rd_nat, hp, Option.bind_some, if_true, wrap_succ hi h]
  · have c1 : (i : Int) < (l.length : Int) := by omega
    have c0 : 0 ≤ (i : Int) := by omega
    simp only [impl_allWithin.l0, if_pos c1, if_pos c0, impl_within_eq, rd_nat, hp, Option.bind_some, Bool.false_eq_true, if_false]
  · simp only [impl_allWithin.l0, if_neg (Int.lt_irrefl _)]

theorem impl_IsPoint_ev (l : List Int) (h : l.length ≤ maxLen) : Ev (fun k => impl_IsPoint.f k l) (pointB l) := by
  have e : ∀ k, impl_IsPoint.f k l = if inR 1 4 l.length = true then (impl_allWithin.f k l (-9) 9).bind (fun t => some t) else some false := fun k => by simp only [impl_IsPoint.f, impl_within_eq, Option.bind_some]
  refine Ev.congr e ?_
  unfold pointB
  cases inR 1 4 l.length with
  | false => exact Ev.now _
  | true =>
    simp only [if_true, Bool.true_and]
    exact Ev.bind (impl_allWithin_ev l (-9) 9 h) (Ev.now _)

theorem impl_isLabel_eq (x : Int) : impl_isLabel.f x = some (isLab x) := by
  unfold impl_isLabel.f isLab
  by_cases e : x = 1
  · rw [if_pos e]; simp [e]
  · rw [if_neg e, decide_eq_false e, Bool.false_or]; rfl

theorem impl_IsSample_ev (P : List (List Int)) (L : List Int) (h : P.length ≤ maxLen) (hi : ∀ x ∈ P, x.length ≤ maxLen) (hL : L.length ≤ maxLen) : Ev (fun k => impl_IsSample.f k P L) (sampleB P L) := by
  have h' : P.length ≤ 9223372036854775807 := h
  have no : Ev (fun k => impl_IsSample.j0 k true P L) false := Ev.step' (f := fun _ => some false) (fun k => by simp only [impl_IsSample.j0, if_true]) (Ev.now _)
  unfold sampleB impl_IsSample.f
  by_cases c : P.length ≤ 16
  · rw [decide_eq_true c, Bool.true_and]
    simp only [if_neg (show ¬ (P.length : Int) > 16 by omega)]
    by_cases c2 : L.length = P.length
    · rw [decide_eq_true c2, Bool.true_and, show ((L.length : Int) != (P.length : Int)) = false by rw [bne_eq_false_iff_eq]; omega, Bool.and_comm]
      refine Ev.step' (f := fun k => impl_IsSample.l0 k P (P.length : Int) 0 P L) (fun k => by simp only [impl_IsSample.j0, Bool.false_eq_true, if_false]) ?_
      refine ev_list [] P (fun i (_ : Unit) k => impl_IsSample.l0 k P (P.length : Int) i P L) (fun i ys _ => ys.all (ptB P) && (L.drop i).all isLab) (fun _ _ => True) (fun _ _ => ?_) (fun i x ys _ hi2 hx hm _ ih => ?_) () trivial
      · rw [← c2, List.drop_length]
        exact Ev.step' (f := fun _ => some true) (fun k => by simp only [impl_IsSample.l0, c2, if_neg (Int.lt_irrefl _)]) (Ev.now _)
      · have c1 : (i : Int) < (P.length : Int) := by omega
        have c3 : (i : Int) < (L.length : Int) := by omega
        have c0 : 0 ≤ (i : Int) := by omega
        have cp : 0 < (P.length : Int) := by omega
        have hil : i < L.length := by omega
        rw [List.all_cons, List.drop_eq_getElem_cons hil, List.all_cons]
        unfold ptB
        refine Ev.step' (f := fun k => (impl_IsPoint.f k x).bind fun t => if t = true then (if (x.length : Int) = ((P.getD 0 []).length : Int) then (if isLab L[i] = true then impl_IsSample.l0 k P (P.length : Int) ((i + 1 : Nat) : Int) P L else some false) else some false) else some false) (fun k => by simp only [impl_IsSample.l0, if_pos c1, if_pos c0, if_pos c3, if_pos cp, rdL1_nat, rd_nat, hx, impl_isLabel_eq, Option.bind_some, wrap_succ hi2 h', List.getD_eq_getElem?_getD, List.getElem?_eq_getElem hil, Option.getD_some] <;> rfl) ?_
        refine Ev.bind (impl_IsPoint_ev x (hi x hm)) ?_
        cases pointB x with
        | false => exact Ev.now _
        | true =>
          simp only [if_true, Bool.true_and]
          by_cases c5 : x.length = (P.getD 0 []).length
          · rw [decide_eq_true c5, Bool.true_and]
            simp only [if_pos (show (x.length : Int) = ((P.getD 0 []).length : Int) by omega)]
            cases isLab L[i] with
            | false => simp only [Bool.false_and, Bool.and_false]; exact Ev.now _
            | true => simp only [if_true, Bool.true_and]; exact ih () trivial
          · rw [decide_eq_false c5, Bool.false_and, Bool.false_and]
            simp only [if_neg (show ¬ (x.length : Int) = ((P.getD 0 []).length : Int) by omega)]
            exact Ev.now _
    · rw [decide_eq_false c2, Bool.false_and, show ((L.length : Int) != (P.length : Int)) = true by rw [bne_iff_ne]; omega]
      exact no
  · rw [decide_eq_false c, Bool.false_and]
    simp only [if_pos (show (P.length : Int) > 16 by omega)]
    exact no

theorem impl_Sample_with_ev (P : List (List Int)) (L : List Int) (v : Int) (h : L.length ≤ 1048576) : Ev (fun k => impl_Sample_with.f k P L v) (withL v 0 L) := by
  refine ev_list 0 L (fun i (s : List Int) k => impl_Sample_with.l0 k v s L (L.length : Int) i) (fun i ys s => s ++ withL v i ys) (fun i s => s.length ≤ i) (fun s _ => ?_) (fun i x ys s hi hx hm hs ih => ?_) [] (Nat.le_refl _)
  · exact Ev.step' (f := fun _ => some s) (fun k => by simp only [impl_Sample_with.l0, if_neg (Int.lt_irrefl _)]) (by simpa [withL] using Ev.now _)
  · have c1 : (i : Int) < (L.length : Int) := by omega
    have c0 : 0 ≤ (i : Int) := by omega
    have c2 : s.length < 17592186044416 := by omega
    have hw : wrap64 ((i : Int) + 1) = ((i + 1 : Nat) : Int) := wrap_succ hi (by omega : L.length ≤ 9223372036854775807)
    by_cases c : x = v
    · exact ev_eq (Ev.step' (fun k => by simp only [impl_Sample_with.l0, if_pos c1, if_pos c0, rd_nat, hx, if_pos c, if_pos c2, hw]) (ih (s ++ [(i : Int)]) (by simp; omega))) (by simp [withL, c])
    · exact ev_eq (Ev.step' (fun k => by simp only [impl_Sample_with.l0, if_pos c1, if_pos c0, rd_nat, hx, if_neg c, hw]) (ih s (by omega))) (by simp [withL, c])

theorem impl_isMixed_ev (P : List (List Int)) (L : List Int) (h : P.length ≤ maxLen) (hi : ∀ x ∈ P, x.length ≤ maxLen) (hL : L.length ≤ maxLen) : Ev (fun k => impl_isMixed.f k P L) (sampleB P L && (decide (0 < L.count 1) && decide (0 < L.count (-1)))) := by
  refine Ev.bind (impl_IsSample_ev P L h hi hL) ?_
  cases hs : sampleB P L with
  | false => simp only [Bool.false_and, Bool.false_eq_true, if_false]; exact Ev.now _
  | true =>
    have ht := sample_tell hs
    simp only [Bool.true_and, if_true]
    refine Ev.bind (impl_Sample_with_ev P L 1 (by omega)) ?_
    rw [withL_len]
    by_cases c : 0 < L.count 1
    · simp only [if_pos (show ((L.count 1 : Nat) : Int) > 0 by omega), decide_eq_true c, Bool.true_and]
      refine Ev.bind (impl_Sample_with_ev P L (-1) (by omega)) ?_
      rw [withL_len]
      exact ev_eq (Ev.now _) (by rw [Bool.eq_iff_iff, decide_eq_true_iff, decide_eq_true_iff]; omega)
    · simp only [if_neg (show ¬ ((L.count 1 : Nat) : Int) > 0 by omega), decide_eq_false c, Bool.false_and]
      exact Ev.now _

theorem impl_product_ev (a b : List Int) (h : a.length ≤ maxLen) (hb : a.length ≤ b.length) : Ev (fun k => impl_product.f k a b) (dotW a b) := by
  unfold maxLen at h
  have hf := to_fold (L := fun i (s : Int) k => impl_product.l0 k b s a (a.length : Int) i) (n := a.length) (f := fun i s => wrap64 (s + wrap64 (a.getD i 0 * b.getD i 0))) (fun _ _ => True) (fun i s hi _ => ⟨To.step fun k => ?_, trivial⟩) 0 trivial
  · refine hf.1 _ (Ev.step' (f := fun _ => some _) (fun k => ?_) (Ev.now _))
    simp only [impl_product.l0, if_neg (Int.lt_irrefl _)]; rfl
  · have c1 : (i : Int) < (a.length : Int) := by omega
    have c2 : (i : Int) < (b.length : Int) := by omega
    have c3 : 0 ≤ (i : Int) := by omega
    simp only [impl_product.l0, if_pos c1, if_pos c2, if_pos c3, rd_nat, wrap_succ hi h]

theorem impl_MeanPlane_row (P : List (List Int)) (L : List Int) (p q : Int) (hs : sampleB P L = true) (i : Nat) (hi : i < P.length) (a b : List Int) (ha : a.length = (P.getD i []).length) (hb : b.length = (P.getD i []).length) :
    To (fun k => impl_MeanPlane.l1 k a b p q i P (P.length : Int) i (P.getD i []) ((P.getD i []).length : Int) 0 P L) (fun k => impl_MeanPlane.l0 k (if L.getD i 0 = 1 then addAt (P.getD i []) a else a) (if L.getD i 0 = 1 then b else addAt (P.getD i []) b) p q P (P.length : Int) ((i + 1 : Nat) : Int) P L) := by
  have ht := sample_tell hs
  have h16 := ht.1
  have hLP := ht.2.1
  have hp := ht.2.2.2 _ (getD_mem hi [])
  have hlen := point_len hp.1
  have c1 : 0 ≤ (i : Int) := by omega
  have c2 : (i : Int) < (L.length : Int) := by omega
  by_cases c : L.getD i 0 = 1
  · simp only [if_pos c]
    have hf := to_fold (L := fun j (a : List Int) k => impl_MeanPlane.l1 k a b p q i P (P.length : Int) i (P.getD i []) ((P.getD i []).length : Int) j P L) (n := (P.getD i []).length) (f := fun j s => s.set j (wrap64 (s.getD j 0 + (P.getD i []).getD j 0))) (fun _ s => s.length = (P.getD i []).length) (fun j s hj hl => ⟨To.step fun k => by
      have c3 : (j : Int) < ((P.getD i []).length : Int) := by omega
      have c4 : 0 ≤ (j : Int) := by omega
      have c5 : (j : Int) < (s.length : Int) := by omega
      simp only [impl_MeanPlane.l1, if_pos c1, if_pos c2, if_pos c3, if_pos c4, if_pos c5, rd_nat, if_pos c, Int.toNat_natCast, wrap_succ hj (by omega : (P.getD i []).length ≤ 9223372036854775807)], by
        show (s.set j _).length = _
        rw [List.length_set]; exact hl⟩) a ha
    refine hf.1.trans (To.step fun k => ?_)
    unfold addAt
    simp only [impl_MeanPlane.l1, if_neg (Int.lt_irrefl _), wrap_succ hi (by omega : P.length ≤ 9223372036854775807)]
  · simp only [if_neg c]
    have hf := to_fold (L := fun j (b : List Int) k => impl_MeanPlane.l1 k a b p q i P (P.length : Int) i (P.getD i []) ((P.getD i []).length : Int) j P L) (n := (P.getD i []).length) (f := fun j s => s.set j (wrap64 (s.getD j 0 + (P.getD i []).getD j 0))) (fun _ s => s.length = (P.getD i []).length) (fun j s hj hl => ⟨To.step fun k => by
      have c3 : (j : Int) < ((P.getD i []).length : Int) := by omega
      have c4 : 0 ≤ (j : Int) := by omega
      have c5 : (j : Int) < (s.length : Int) := by omega
      simp only [impl_MeanPlane.l1, if_pos c1, if_pos c2, if_pos c3, if_pos c4, if_pos c5, rd_nat, if_neg c, Int.toNat_natCast, wrap_succ hj (by omega : (P.getD i []).length ≤ 9223372036854775807)], by
        show (s.set j _).length = _
        rw [List.length_set]; exact hl⟩) b hb
    refine hf.1.trans (To.step fun k => ?_)
    unfold addAt
    simp only [impl_MeanPlane.l1, if_neg (Int.lt_irrefl _), wrap_succ hi (by omega : P.length ≤ 9223372036854775807)]
theorem impl_MeanPlane_end (p q : Int) (a b : List Int) (h : b.length = a.length) (ha : a.length ≤ 4) : Ev (fun k => impl_MeanPlane.l2 k a b p q [] (a.length : Int) 0) (meanOf p q a b) := by
  have hf := to_fold (L := fun j (s : List Int) k => impl_MeanPlane.l2 k a b p q s (a.length : Int) j) (n := a.length) (f := fun j s => s ++ [wrap64 ((wrap64 ((wrap64 (2 * p)) * q)) * (wrap64 ((wrap64 (q * a.getD j 0)) - (wrap64 (p * b.getD j 0)))))]) (fun j s => s.length = j) (fun j s hj hs => ⟨To.step fun k => by
    have c1 : (j : Int) < (a.length : Int) := by omega
    have c2 : 0 ≤ (j : Int) := by omega
    have c3 : (j : Int) < (b.length : Int) := by omega
    have c4 : s.length < 17592186044416 := by omega
    simp only [impl_MeanPlane.l2, if_pos c1, if_pos c2, if_pos c3, if_pos c4, rd_nat, wrap_succ hj (by omega : a.length ≤ 9223372036854775807)], by simp [hs]⟩) [] rfl
  refine hf.1 _ ?_
  rw [fold_append, List.nil_append]
  refine Ev.step' (f := fun k => (impl_product.f k a a).bind fun t => (impl_product.f k b b).bind fun u => some (meanW p q a b, wrap64 ((wrap64 ((wrap64 (q * q)) * t)) - (wrap64 ((wrap64 (p * p)) * u))), true)) (fun k => by
    simp only [impl_MeanPlane.l2, if_neg (Int.lt_irrefl _)]
    rfl) (Ev.bind (impl_product_ev a a (by unfold maxLen; omega) (Nat.le_refl _)) (Ev.bind (impl_product_ev b b (by unfold maxLen; omega) (Nat.le_refl _)) (Ev.now _)))
theorem sums_two (P : List (List Int)) (L : List Int) (hL : ∀ i, i < P.length → L.getD i 0 = 1 ∨ L.getD i 0 = -1) : ∀ (l : List Nat) (s t : Int × List Int), (∀ i ∈ l, i < P.length) → l.foldl (fun (s : List Int × List Int) i => ((if L.getD i 0 = 1 then addAt (P.getD i []) s.1 else s.1), (if L.getD i 0 = 1 then s.2 else addAt (P.getD i []) s.2))) (s.2, t.2) = ((l.foldl (fun s i => sumStep P L 1 i s) s).2, (l.foldl (fun s i => sumStep P L (-1) i s) t).2)
  | [], _, _, _ => rfl
  | i :: l, s, t, h => by
    rw [List.foldl_cons, List.foldl_cons, List.foldl_cons, ← sums_two P L hL l _ _ (fun j hj => h j (List.mem_cons_of_mem _ hj))]
    congr 1
    unfold sumStep
    rcases hL i (h i List.mem_cons_self) with e | e
    · rw [e]; rfl
    · rw [e]; rfl
theorem impl_MeanPlane_ev (P : List (List Int)) (L : List Int) (h : P.length ≤ maxLen) (hi : ∀ x ∈ P, x.length ≤ maxLen) (hL : L.length ≤ maxLen) : Ev (fun k => impl_MeanPlane.f k P L) (meanM P L) := by
  refine Ev.bind (impl_isMixed_ev P L h hi hL) ?_
  unfold meanM
  cases hm : (sampleB P L && (decide (0 < L.count 1) && decide (0 < L.count (-1)))) with
  | false => simp only [Bool.false_eq_true, if_false]; exact Ev.now _
  | true =>
    simp only [Bool.and_eq_true, decide_eq_true_eq] at hm
    have hs := hm.1
    have ht := sample_tell hs
    have h16 := ht.1
    have hLP := ht.2.1
    have hc := List.count_le_length (a := (1 : Int)) (l := L)
    have h0 : 0 < P.length := by omega
    have hp0 := point_len (ht.2.2.2 _ (getD_mem h0 [])).1
    have e0 : rd_L1 P 0 = P.getD 0 [] := rdL1_nat P 0
    have c1 : 0 < (P.length : Int) := by omega
    have c2 : 0 ≤ ((P.getD 0 []).length : Int) := by omega
    have c3 : (P.getD 0 []).length ≤ 35184372088832 := by omega
    simp only [if_true, if_pos c1, e0, if_pos c2, Int.toNat_natCast, if_pos c3]
    refine Ev.bind (impl_Sample_with_ev P L 1 (by omega)) (Ev.bind (impl_Sample_with_ev P L (-1) (by omega)) ?_)
    rw [withL_len, withL_len]
    have hf := to_fold (L := fun i (s : List Int × List Int) k => impl_MeanPlane.l0 k s.1 s.2 (L.count 1 : Nat) (L.count (-1) : Nat) P (P.length : Int) i P L) (n := P.length) (f := fun i s => ((if L.getD i 0 = 1 then addAt (P.getD i []) s.1 else s.1), (if L.getD i 0 = 1 then s.2 else addAt (P.getD i []) s.2))) (fun _ s => s.1.length = (P.getD 0 []).length ∧ s.2.length = (P.getD 0 []).length) (fun i s hi hl => ⟨?_, ?_⟩) (List.replicate (P.getD 0 []).length 0, List.replicate (P.getD 0 []).length 0) (by simp)
    · refine hf.1 _ ?_
      rw [sums_two P L (fun i hi => ht.2.2.1 _ (getD_mem (by omega) 0)) (List.range P.length) (0, List.replicate (P.getD 0 []).length 0) (0, List.replicate (P.getD 0 []).length 0) (fun i hi => List.mem_range.1 hi)]
      have l1 := sumsM_len P L 1 (P.getD 0 []).length
      have l2 := sumsM_len P L (-1) (P.getD 0 []).length
      refine Ev.step' (fun k => ?_) (impl_MeanPlane_end (L.count 1 : Nat) (L.count (-1) : Nat) (sumsM P L 1 (P.getD 0 []).length).2 (sumsM P L (-1) (P.getD 0 []).length).2 (by rw [l1, l2]) (by rw [l1]; omega))
      simp only [impl_MeanPlane.l0, if_neg (Int.lt_irrefl _)]
      rfl
    · have d1 : (i : Int) < (P.length : Int) := by omega
      have d2 : 0 ≤ (i : Int) := by omega
      have es := sample_eq hs hi _ (getD_mem h0 [])
      refine To.trans (To.step (f := fun k => impl_MeanPlane.l1 k s.1 s.2 (L.count 1 : Nat) (L.count (-1) : Nat) i P (P.length : Int) i (P.getD i []) ((P.getD i []).length : Int) 0 P L) fun k => ?_) (impl_MeanPlane_row P L _ _ hs i hi s.1 s.2 (by rw [hl.1, es]) (by rw [hl.2, es]))
      simp only [impl_MeanPlane.l0, if_pos d1, if_pos d2, rdL1_nat]
    · refine ⟨?_, ?_⟩
      · show (if L.getD i 0 = 1 then addAt (P.getD i []) s.1 else s.1).length = _
        split
        · rw [addAt_len]; exact hl.1
        · exact hl.1
      · show (if L.getD i 0 = 1 then s.2 else addAt (P.getD i []) s.2).length = _
        split
        · exact hl.2
        · rw [addAt_len]; exact hl.2

theorem rdR_nat {α : Type} (xs : List (List α)) (i : Nat) : rdR xs (i : Int) = xs.getD i [] := by simp [rdR]
theorem laws_markIntSS_ev (P : List (List Int)) (a : Int) (h0 : 0 ≤ a) (h1 : a + sumN List.length P ≤ 1000000000000) (hP : P.length ≤ 1000000000000) : Ev (fun k => laws_markIntSS.f k P a) (a + sumN List.length P, iota2 a P) :=
  ev_mark ([] : List Int) List.length iota P 1000000000000 (L := fun ys a i k => laws_markIntSS.l0 k ys a i) (fun ys a i x hi hl hx hm ha hb r hr => by
    refine Ev.step' (f := fun k => (laws_markIntS.f k x a).bind fun b => laws_markIntSS.l0 k (ys.set i b.2) b.1 ((i + 1 : Nat) : Int)) (fun k => ?_) (Ev.bind (laws_markIntS_ev x a ha hb) hr)
    have c1 : (i : Int) < (ys.length : Int) := by omega
    have c3 : 0 ≤ (i : Int) := by omega
    simp only [laws_markIntSS.l0, if_pos c1, if_pos c3, Int.toNat_natCast, rdR_nat, hx, wrap_succ (i := i) (n := ys.length) (by omega) (by omega)]) (fun ys a hl => Ev.step' (f := fun _ => some (a, ys)) (fun k => by
    simp only [laws_markIntSS.l0, hl, if_neg (Int.lt_irrefl _)]) (Ev.now _)) a h0 h1

theorem laws_markSample_ev (P : List (List Int)) (L : List Int) (a : Int) (h0 : 0 ≤ a) (h1 : a + sumN List.length P + L.length ≤ 1000000000000) (hP : P.length ≤ 1000000000000) : Ev (fun k => laws_markSample.f k P L a) (a + sumN List.length P + L.length, iota2 a P, iota (a + sumN List.length P) L) :=
  Ev.bind (laws_markIntSS_ev P a h0 (by omega) hP) (Ev.bind (laws_markIntS_ev L (a + sumN List.length P) (by omega) h1) (Ev.now _))

theorem pure : SFnExactMeanPlane.Pure := by
  intro P L ⟨h, hi0⟩ ⟨hL, _⟩
  have hi : ∀ x ∈ P, x.length ≤ maxLen := fun x hx => (hi0 x hx).1
  obtain ⟨K1, k1⟩ := laws_szSample_ev P L 1048576 h hi hL (by omega) (by omega)
  by_cases cn : lft 1048576 (sz2 P + L.length) < 0
  · exact .inl ⟨K1, _, k1 K1 (by omega), cn⟩
  · have d := lft_nonneg (Int.not_lt.1 cn)
    have hs := sz2_small (l := P) (n := 1048576) (by omega)
    have hsum : sumN List.length P ≤ 1048576 := by unfold sz2 at d; omega
    have hu : (meanM P L).1.length ≤ 1048576 := by
      unfold meanM; split
      · next hm =>
        simp only [Bool.and_eq_true] at hm
        simp only [meanOf, meanW, List.length_map, List.length_range, sumsM_len]
        by_cases h0 : 0 < P.length
        · have := hs.2 _ (getD_mem h0 []); omega
        · rw [List.getD_eq_getElem?_getD, List.getElem?_eq_none (by omega)]; simp
      · simp
    obtain ⟨K2, k2⟩ := laws_toSample_ev P L hs.1 hs.2 (by omega)
    obtain ⟨K3, k3⟩ := spec_MeanPlane_ev P L h hi hL
    obtain ⟨K4, k4⟩ := impl_MeanPlane_ev P L h hi hL
    obtain ⟨K5, k5⟩ := laws_eqIntS_ev (meanM P L).1 (by unfold maxLen; omega)
    obtain ⟨K6, k6⟩ := laws_eqSample_ev P L h hi hL
    obtain ⟨K7, k7⟩ := laws_markSample_ev P L 1 (by omega) (by omega) (by omega)
    obtain ⟨K8, k8⟩ := laws_markIntS_ev (meanM P L).1 1 (by omega) (by omega)
    obtain ⟨K9, k9⟩ := laws_heldIntS_ev (meanM P L).1 1 (by omega) (by omega)
    let K := K1 + K2 + K3 + K4 + K5 + K6 + K7 + K8 + K9
    exact .inr ⟨K, _, _, _, (meanM P L).1, (meanM P L).2.1, (meanM P L).2.2, _, _, _, _, _, k1 K (by omega), k2 K (by omega), k3 K (by omega), k4 K (by omega), k5 K (by omega), k6 K (by omega), k7 K (by omega), k8 K (by omega), k9 K (by omega), Int.not_lt.1 cn, by omega, by omega⟩
end Go.Proofs.Ytniebbjbihenfaa.QFnExactMeanPlane
