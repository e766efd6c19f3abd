/- FnExactWeightedMistakes: what its calls come to, shown of numbers and lists alone. -/
import Derived.Test.YtniebbjbihenfaaSFnExactWeightedMistakes
import Derived.Test.YtniebbjbihenfaaPm
namespace Go.Proofs.Ytniebbjbihenfaa.QFnExactWeightedMistakes
open Go.RowKit Go.Proofs.Ytniebbjbihenfaa.Lb Go.Proofs.Ytniebbjbihenfaa.Pm Go.Proofs.Ytniebbjbihenfaa.PFnExactWeightedMistakes Go.Proofs.YtniebbjbihenfaaW.PrintWords Go.Proofs.YtniebbjbihenfaaW.PrintLast Go.Proofs.YtniebbjbihenfaaW.PrintMore
set_option linter.unusedVariables false
set_option linter.unusedSimpArgs false
theorem rdL1_nat (xs : List (List Int)) (i : Nat) : rd_L1 xs (i : Int) = xs.getD i [] := by simp [rd_L1]

theorem laws_szIntS_eq (l : List Int) (a : Int) (h : l.length ≤ maxLen) (h0 : 0 ≤ a) (h1 : a ≤ 1048576) : laws_szIntS.f l a = some (lft a l.length) := by
  unfold maxLen at h
  have hw : wrap64 (a - (l.length : Int)) = a - l.length := wrap_id (by omega) (by omega)
  unfold laws_szIntS.f lft
  rw [hw]
  by_cases c : (l.length : Int) ≤ a
  · rw [if_neg (by omega), if_pos c]
  · rw [if_pos (by omega), if_neg c]

theorem laws_szIntSS_ev (l : List (List Int)) (a : Int) (h : l.length ≤ maxLen) (hi : ∀ x ∈ l, x.length ≤ maxLen) (h0 : 0 ≤ a) (h1 : a ≤ 1048576) : Ev (fun k => laws_szIntSS.f k l a) (lft a (sz2 l)) := by
  have h' : l.length ≤ 9223372036854775807 := h
  unfold sz2 laws_szIntSS.f
  rw [← lft_add a _ _ h0]
  have hw : wrap64 (a - (l.length : Int)) = a - l.length := wrap_id (by omega) (by omega)
  rw [hw]
  by_cases c : (l.length : Int) ≤ a
  · have e : lft a l.length = a - l.length := by unfold lft; rw [if_pos c]
    rw [e]
    simp only [if_neg (show ¬ a - (l.length : Int) < 0 by omega)]
    refine ev_sz [] List.length l (L := fun a i k => laws_szIntSS.l0 k l a i) (fun i a hi2 h0 h1 hn => ?_) (fun i a hi2 h0 h1 hn => ?_) (fun a => Ev.step' (f := fun _ => some a) (fun k => by simp only [laws_szIntSS.l0, if_neg (Int.lt_irrefl _)]) (Ev.now _)) _ (by omega) (by omega)
    · have c1 : (i : Int) < (l.length : Int) := by omega
      have c0 : 0 ≤ (i : Int) := by omega
      refine To.step (fun k => ?_)
      simp only [laws_szIntSS.l0, if_pos c1, if_pos c0, rdL1_nat, laws_szIntS_eq _ a (hi _ (getD_mem hi2 [])) h0 h1, Option.bind_some, if_neg (show ¬ lft a (l.getD i []).length < 0 by omega), wrap_succ hi2 h']
    · have c1 : (i : Int) < (l.length : Int) := by omega
      have c0 : 0 ≤ (i : Int) := by omega
      refine Ev.step' (f := fun _ => some (-1)) (fun k => ?_) (Ev.now _)
      simp only [laws_szIntSS.l0, if_pos c1, if_pos c0, rdL1_nat, laws_szIntS_eq _ a (hi _ (getD_mem hi2 [])) h0 h1, Option.bind_some, if_pos hn]
  · have e : lft a l.length = -1 := by unfold lft; rw [if_neg c]
    rw [e]
    simp only [if_pos (show a - (l.length : Int) < 0 by omega), if_pos (show (-1 : Int) < 0 by omega)]
    exact Ev.now _

theorem laws_szSample_ev (P : List (List Int)) (L : List Int) (a : Int) (h : P.length ≤ maxLen) (hi : ∀ x ∈ P, x.length ≤ maxLen) (hL : L.length ≤ maxLen) (h0 : 0 ≤ a) (h1 : a ≤ 1048576) : Ev (fun k => laws_szSample.f k P L a) (lft a (sz2 P + L.length)) := by
  have hle := lft_le a (sz2 P) h0
  refine Ev.bind (laws_szIntSS_ev P a h hi h0 h1) ?_
  rw [← lft_add a _ _ h0]
  by_cases c : lft a (sz2 P) < 0
  · simp only [if_pos c]; exact Ev.now _
  · simp only [if_neg c, laws_szIntS_eq L _ hL (show 0 ≤ lft a (sz2 P) by omega) (show lft a (sz2 P) ≤ 1048576 by omega), Option.bind_some]
    by_cases c2 : lft (lft a (sz2 P)) L.length < 0
    · simp only [if_pos c2, lft_neg c2]; exact Ev.now _
    · simp only [if_neg c2]; exact Ev.now _

theorem laws_szPlane_eq (l : List Int) (b a : Int) (h : l.length ≤ maxLen) (h0 : 0 ≤ a) (h1 : a ≤ 1048576) : laws_szPlane.f l b a = some (lft a l.length) := by
  unfold laws_szPlane.f
  rw [laws_szIntS_eq l a h h0 h1]
  simp only [Option.bind_some]
  by_cases c : lft a l.length < 0
  · rw [if_pos c, lft_neg c]
  · rw [if_neg c]

theorem spec_l2Labels_ev (l : List Int) (h : l.length ≤ maxLen) : Ev (fun k => spec_l2Labels.f k l) (l.all isLab) := by
  have h' : l.length ≤ 9223372036854775807 := h
  refine ev_list 0 l (fun i (_ : Unit) k => spec_l2Labels.l0 k l i) (fun _ ys _ => ys.all isLab) (fun _ _ => True) (fun _ _ => ?_) (fun i x ys _ hi hx hm _ ih => ?_) () trivial
  · exact Ev.step' (f := fun _ => some true) (fun k => by simp only [spec_l2Labels.l0, if_neg (Int.lt_irrefl _)]) (Ev.now _)
  · have c1 : (i : Int) < (l.length : Int) := by omega
    have c0 : 0 ≤ (i : Int) := by omega
    have ih := ih () trivial
    simp only [List.all_cons]
    unfold isLab at ih ⊢
    by_cases e1 : x = 1
    · rw [show (decide (x = 1) || decide (x = -1)) = true by simp [e1], Bool.true_and]
      exact Ev.step' (fun k => by simp only [spec_l2Labels.l0, if_pos c1, if_pos c0, rd_nat, hx, if_pos e1, wrap_succ hi h']) ih
    · by_cases e2 : x = -1
      · rw [show (decide (x = 1) || decide (x = -1)) = true by simp [e2], Bool.true_and]
        exact Ev.step' (fun k => by simp only [spec_l2Labels.l0, if_pos c1, if_pos c0, rd_nat, hx, if_neg e1, if_pos e2, wrap_succ hi h']) ih
      · rw [show (decide (x = 1) || decide (x = -1)) = false by simp [e1, e2], Bool.false_and]
        exact Ev.step' (f := fun _ => some false) (fun k => by simp only [spec_l2Labels.l0, if_pos c1, if_pos c0, rd_nat, hx, if_neg e1, if_neg e2]) (Ev.now _)

theorem spec_l1In_eq (x a b : Int) : spec_l1In.f x a b = some (inR a b x) := in_tells a b x

theorem spec_l2Numbers_ev (l : List Int) (m : Int) (h : l.length ≤ maxLen) : Ev (fun k => spec_l2Numbers.f k l m) (l.all (inR (wrap64 (-m)) m)) := by
  unfold maxLen at h
  rw [← range_all l (inR (wrap64 (-m)) m) 0]
  refine ev_all (L := fun i k => spec_l2Numbers.l0 k l m i) (fun i hi hp => To.step fun k => ?_) (fun i hi hp => Ev.step' (f := fun _ => some false) (fun k => ?_) (Ev.now _)) (Ev.step' (f := fun _ => some true) (fun k => ?_) (Ev.now _))
  · have c1 : (i : Int) < (l.length : Int) := by omega
    have c0 : 0 ≤ (i : Int) := by omega
    simp only [spec_l2Numbers.l0, if_pos c1, if_pos c0, spec_l1In_eq, rd_nat, hp, Option.bind_some, if_true, wrap_succ hi h]
  · have c1 : (i : Int) < (l.length : Int) := by omega
    have c0 : 0 ≤ (i : Int) := by omega
    simp only [spec_l2Numbers.l0, if_pos c1, if_pos c0, spec_l1In_eq, rd_nat, hp, Option.bind_some, Bool.false_eq_true, if_false]
  · simp only [spec_l2Numbers.l0, if_neg (Int.lt_irrefl _)]

theorem spec_l2Point_ev (l : List Int) (h : l.length ≤ maxLen) : Ev (fun k => spec_l2Point.f k l) (pointB l) := by
  have e : ∀ k, spec_l2Point.f k l = if inR 1 4 l.length = true then (spec_l2Numbers.f k l 9).bind (fun t => some t) else some false := fun k => by simp only [spec_l2Point.f, spec_l1In_eq, Option.bind_some]
  refine Ev.congr e ?_
  unfold pointB
  cases inR 1 4 l.length with
  | false => exact Ev.now _
  | true =>
    simp only [if_true, Bool.true_and]
    refine Ev.bind (spec_l2Numbers_ev l 9 h) ?_
    rw [show wrap64 (-9) = -9 from wrap_id (by omega) (by omega)]
    exact Ev.now _

theorem spec_l2Sample_ev (P : List (List Int)) (L : List Int) (h : P.length ≤ maxLen) (hi : ∀ x ∈ P, x.length ≤ maxLen) (hL : L.length ≤ maxLen) : Ev (fun k => spec_l2Sample.f k P L) (sampleB P L) := by
  have h' : P.length ≤ 9223372036854775807 := h
  have no : Ev (fun k => spec_l2Sample.j0 k true P L) false := Ev.step' (f := fun _ => some false) (fun k => by simp only [spec_l2Sample.j0, if_true]) (Ev.now _)
  unfold sampleB spec_l2Sample.f
  by_cases c : P.length ≤ 16
  · rw [decide_eq_true c, Bool.true_and]
    simp only [if_neg (show ¬ (P.length : Int) > 16 by omega)]
    by_cases c2 : L.length = P.length
    · rw [decide_eq_true c2, Bool.true_and]
      simp only [if_pos (show (L.length : Int) = (P.length : Int) by omega)]
      refine Ev.bind (spec_l2Labels_ev L hL) ?_
      cases L.all isLab with
      | false => exact no
      | true =>
        refine Ev.step' (f := fun k => spec_l2Sample.l0 k 0 P L) (fun k => by simp only [spec_l2Sample.j0, Bool.not_true, Bool.false_eq_true, if_false]) ?_
        rw [Bool.true_and]
        refine ev_list [] P (fun i (_ : Unit) k => spec_l2Sample.l0 k i P L) (fun _ ys _ => ys.all (ptB P)) (fun _ _ => True) (fun _ _ => ?_) (fun i x ys _ hi2 hx hm _ ih => ?_) () trivial
        · exact Ev.step' (f := fun _ => some true) (fun k => by simp only [spec_l2Sample.l0, if_neg (Int.lt_irrefl _)]) (Ev.now _)
        · have c1 : (i : Int) < (P.length : Int) := by omega
          have c0 : 0 ≤ (i : Int) := by omega
          have cp : 0 < (P.length : Int) := by omega
          rw [List.all_cons]
          unfold ptB
          refine Ev.step' (f := fun k => (spec_l2Point.f k x).bind fun t => if t = true then (if (x.length : Int) = ((P.getD 0 []).length : Int) then spec_l2Sample.l0 k ((i + 1 : Nat) : Int) P L else some false) else some false) (fun k => by simp only [spec_l2Sample.l0, if_pos c1, if_pos c0, if_pos cp, rdL1_nat, hx, wrap_succ hi2 h'] <;> rfl) ?_
          refine Ev.bind (spec_l2Point_ev x (hi x hm)) ?_
          cases pointB x with
          | false => exact Ev.now _
          | true =>
            simp only [if_true, Bool.true_and]
            by_cases c5 : x.length = (P.getD 0 []).length
            · rw [decide_eq_true c5, Bool.true_and]
              simp only [if_pos (show (x.length : Int) = ((P.getD 0 []).length : Int) by omega)]
              exact ih () trivial
            · rw [decide_eq_false c5, Bool.false_and]
              simp only [if_neg (show ¬ (x.length : Int) = ((P.getD 0 []).length : Int) by omega)]
              exact Ev.now _
    · rw [decide_eq_false c2, Bool.false_and]
      simp only [if_neg (show ¬ (L.length : Int) = (P.length : Int) by omega)]
      exact no
  · rw [decide_eq_false c, Bool.false_and]
    simp only [if_pos (show (P.length : Int) > 16 by omega)]
    exact no

theorem spec_l2Plane_ev (l : List Int) (b : Int) (h : l.length ≤ maxLen) : Ev (fun k => spec_l2Plane.f k l b) (planeB l b) := by
  have e : ∀ k, spec_l2Plane.f k l b = if inR 1 4 l.length = true then (spec_l2Numbers.f k l 99).bind (fun t => if t = true then some (inR (-99) 99 b) else some false) else some false := fun k => by
    simp only [spec_l2Plane.f, spec_l1In_eq, Option.bind_some]
  refine Ev.congr e ?_
  unfold planeB
  cases inR 1 4 l.length with
  | false => exact Ev.now _
  | true =>
    simp only [if_true, Bool.true_and]
    refine Ev.bind (spec_l2Numbers_ev l 99 h) ?_
    rw [show wrap64 (-99) = -99 from wrap_id (by omega) (by omega)]
    cases l.all (inR (-99) 99) with
    | false => exact Ev.now _
    | true => exact Ev.now _

theorem spec_l2Both_ev (P : List (List Int)) (L w : List Int) (b : Int) (h : P.length ≤ maxLen) (hi : ∀ x ∈ P, x.length ≤ maxLen) (hL : L.length ≤ maxLen) (hw : w.length ≤ maxLen) : Ev (fun k => spec_l2Both.f k P L w b) (suitsB P L w b) := by
  unfold suitsB
  refine Ev.bind (spec_l2Sample_ev P L h hi hL) ?_
  cases sampleB P L with
  | false => exact Ev.now _
  | true =>
    simp only [if_true, Bool.true_and]
    refine Ev.bind (spec_l2Plane_ev w b hw) ?_
    cases planeB w b with
    | false => exact Ev.now _
    | true =>
      simp only [if_true, Bool.true_and]
      by_cases c0 : P.length = 0
      · simp only [if_pos (show (P.length : Int) = 0 by omega), decide_eq_true c0, Bool.true_or]; exact Ev.now _
      · have rd0 := rdL1_nat P 0
        simp only [Int.natCast_zero] at rd0
        simp only [if_neg (show ¬ (P.length : Int) = 0 by omega), if_pos (show 0 < (P.length : Int) by omega), decide_eq_false c0, Bool.false_or, rd0]
        exact Ev.now _

theorem spec_l8Hefts_ev (P : List (List Int)) (L c : List Int) (hc : c.length ≤ maxLen) : Ev (fun k => spec_l8Hefts.f k P L c) (heftsB P c) := by
  have h' : c.length ≤ 9223372036854775807 := hc
  unfold heftsB
  refine ev_list 0 c (fun i (_ : Unit) k => spec_l8Hefts.l0 k c i P L) (fun _ ys _ => ys.all (inR 0 1000000) && ((c.length : Int) == (P.length : Int))) (fun _ _ => True) (fun _ _ => ?_) (fun i x ys _ hi2 hx hm _ ih => ?_) () trivial
  · exact Ev.step' (f := fun _ => some _) (fun k => by simp only [spec_l8Hefts.l0, if_neg (Int.lt_irrefl _)] <;> rfl) (Ev.now _)
  · have c1 : (i : Int) < (c.length : Int) := by omega
    have c0 : 0 ≤ (i : Int) := by omega
    simp only [List.all_cons, Bool.and_assoc]
    cases hq : inR 0 1000000 x with
    | false => exact Ev.step' (f := fun _ => some false) (fun k => by simp only [spec_l8Hefts.l0, if_pos c1, if_pos c0, rd_nat, hx, spec_l1In_eq, hq, Option.bind_some, Bool.false_eq_true, if_false]) (Ev.now _)
    | true => exact Ev.step' (fun k => by simp only [spec_l8Hefts.l0, if_pos c1, if_pos c0, rd_nat, hx, spec_l1In_eq, hq, Option.bind_some, if_true, wrap_succ hi2 h']) (ih () trivial)

theorem spec_l2Dot_ev (a b : List Int) (h : a.length ≤ maxLen) (hb : a.length ≤ b.length) : Ev (fun k => spec_l2Dot.f k a b) (dotW a b) := by
  unfold maxLen at h
  have hf := to_fold (L := fun i (s : Int) k => spec_l2Dot.l0 k a b s i) (n := a.length) (f := fun i s => wrap64 (s + wrap64 (a.getD i 0 * b.getD i 0))) (fun _ _ => True) (fun i s hi _ => ⟨To.step fun k => ?_, trivial⟩) 0 trivial
  · refine hf.1 _ (Ev.step' (f := fun _ => some _) (fun k => ?_) (Ev.now _))
    simp only [spec_l2Dot.l0, if_neg (Int.lt_irrefl _)]; rfl
  · have c1 : (i : Int) < (a.length : Int) := by omega
    have c2 : (i : Int) < (b.length : Int) := by omega
    have c3 : 0 ≤ (i : Int) := by omega
    simp only [spec_l2Dot.l0, if_pos c1, if_pos c2, if_pos c3, rd_nat, wrap_succ hi h]

theorem spec_l2Side_ev (w : List Int) (b : Int) (x : List Int) (hw : w.length ≤ maxLen) (hx : w.length ≤ x.length) : Ev (fun k => spec_l2Side.f k w b x) (sideW w b x) := by
  refine Ev.bind (spec_l2Dot_ev w x hw hx) ?_
  unfold sideW
  by_cases c : dotW w x ≥ b
  · simp only [if_pos c]; exact Ev.now _
  · simp only [if_neg c]; exact Ev.now _

theorem spec_l8Weighted_ev (P : List (List Int)) (L c w : List Int) (b : Int) (hP : P.length ≤ 16) (hL : L.length = P.length) (hc : c.length = P.length) (hw : w.length ≤ maxLen) (hx : ∀ x ∈ P, w.length ≤ x.length) : Ev (fun k => spec_l8Weighted.f k P L c w b) (weighM L c w b 0 P 0) := by
  have h' : P.length ≤ 9223372036854775807 := by omega
  refine ev_list [] P (fun i s k => spec_l8Weighted.l0 k c s i P L w b) (fun i ys s => weighM L c w b i ys s) (fun _ _ => True) (fun s _ => ?_) (fun i x ys s hi2 hxx hm _ ih => ?_) 0 trivial
  · exact Ev.step' (f := fun _ => some s) (fun k => by simp only [spec_l8Weighted.l0, if_neg (Int.lt_irrefl _)]) (Ev.now _)
  · have c1 : (i : Int) < (P.length : Int) := by omega
    have c2 : (i : Int) < (L.length : Int) := by omega
    have c3 : (i : Int) < (c.length : Int) := by omega
    have c0 : 0 ≤ (i : Int) := by omega
    refine Ev.step' (f := fun k => (spec_l2Side.f k w b x).bind fun t => if t = L.getD i 0 then spec_l8Weighted.l0 k c s ((i + 1 : Nat) : Int) P L w b else spec_l8Weighted.l0 k c (wrap64 (s + c.getD i 0)) ((i + 1 : Nat) : Int) P L w b) (fun k => by simp only [spec_l8Weighted.l0, if_pos c1, if_pos c0, if_pos c2, if_pos c3, rd_nat, rdL1_nat, hxx, wrap_succ hi2 h']) ?_
    refine Ev.bind (spec_l2Side_ev w b x hw (hx x hm)) ?_
    simp only [weighM]
    by_cases e : sideW w b x = L.getD i 0
    · simp only [if_pos e]; exact ih _ trivial
    · simp only [if_neg e]; exact ih _ trivial

theorem spec_WeightedMistakes_ev (P : List (List Int)) (L c w : List Int) (b : Int) (h : P.length ≤ maxLen) (hi : ∀ x ∈ P, x.length ≤ maxLen) (hL : L.length ≤ maxLen) (hc : c.length ≤ maxLen) (hw : w.length ≤ maxLen) : Ev (fun k => spec_WeightedMistakes.f k P L c w b) (if (suitsB P L w b && heftsB P c) = true then (weighM L c w b 0 P 0, true) else (0, false)) := by
  refine Ev.bind (spec_l2Both_ev P L w b h hi hL hw) ?_
  cases e1 : suitsB P L w b with
  | false => exact Ev.now _
  | true =>
    simp only [if_true, Bool.true_and]
    refine Ev.bind (spec_l8Hefts_ev P L c hc) ?_
    cases e2 : heftsB P c with
    | false => exact Ev.now _
    | true =>
      simp only [if_true]
      obtain ⟨h1, h2, h3⟩ := suits_tell e1
      obtain ⟨h4, h5, _⟩ := sample_tell h1
      exact Ev.bind (spec_l8Weighted_ev P L c w b h4 h5 (hefts_len e2) hw (fun x hx => by rw [h3 x hx]; exact Nat.le_refl _)) (Ev.now _)

theorem laws_toIntS_ev (l : List Int) (h : l.length ≤ 1048576) : Ev (fun k => laws_toIntS.f k l) l := by
  have hw : wrap64 (l.length : Int) = l.length := wrap_id (by omega) (by omega)
  have c0 : 0 ≤ (l.length : Int) := by omega
  have e : ∀ k, laws_toIntS.f k l = laws_toIntS.l0 k l (List.replicate l.length 0) 0 := fun k => by
    simp only [laws_toIntS.f, if_pos c0, Int.toNat_natCast]; rw [if_pos (by omega)]
  refine Ev.congr e ?_
  have hf := to_fold (L := fun i (s : List Int) k => laws_toIntS.l0 k l s i) (n := l.length) (f := fun i s => s.set i (l.getD i 0)) (fun i s => s = l.take i ++ List.replicate (l.length - i) 0) (fun i s hi hs => ⟨To.step fun k => ?_, ?_⟩) (List.replicate l.length 0) (by simp)
  · refine hf.1 _ (Ev.step' (f := fun _ => some l) (fun k => ?_) (Ev.now _))
    have := hf.2
    rw [Nat.sub_self, List.take_length, List.replicate_zero, List.append_nil] at this
    show laws_toIntS.l0 (k + 1) l _ _ = _
    rw [this]
    simp only [laws_toIntS.l0, if_neg (Int.lt_irrefl _)]
  · have c1 : (i : Int) < (l.length : Int) := by omega
    have c2 : (i : Int) < (s.length : Int) := by rw [hs, List.length_append, List.length_take, List.length_replicate]; omega
    have c3 : 0 ≤ (i : Int) := by omega
    simp only [laws_toIntS.l0, if_pos c1, if_pos c2, if_pos c3, rd_nat, Int.toNat_natCast, wrap_succ hi (by omega : l.length ≤ 9223372036854775807)]
  · show List.set s i _ = _
    rw [hs]; exact set_step l 0 0 i hi

theorem laws_toIntSS_ev (l : List (List Int)) (h : l.length ≤ 1048576) (hi : ∀ x ∈ l, x.length ≤ 1048576) : Ev (fun k => laws_toIntSS.f k l) l := by
  have c0 : 0 ≤ (l.length : Int) := by omega
  have e : ∀ k, laws_toIntSS.f k l = laws_toIntSS.l0 k l (List.replicate l.length []) 0 := fun k => by
    simp only [laws_toIntSS.f, if_pos c0, Int.toNat_natCast]; rw [if_pos (by omega)]
  refine Ev.congr e ?_
  have hf := to_fold (L := fun i (s : List (List Int)) k => laws_toIntSS.l0 k l s i) (n := l.length) (f := fun i s => s.set i (l.getD i [])) (fun i s => s = l.take i ++ List.replicate (l.length - i) []) (fun i s hi2 hs => ⟨?_, ?_⟩) (List.replicate l.length []) (by simp)
  · refine hf.1 _ (Ev.step' (f := fun _ => some l) (fun k => ?_) (Ev.now _))
    have := hf.2
    rw [Nat.sub_self, List.take_length, List.replicate_zero, List.append_nil] at this
    show laws_toIntSS.l0 (k + 1) l _ _ = _
    rw [this]
    simp only [laws_toIntSS.l0, if_neg (Int.lt_irrefl _)]
  · have c1 : (i : Int) < (l.length : Int) := by omega
    have c2 : (i : Int) < (s.length : Int) := by rw [hs, List.length_append, List.length_take, List.length_replicate]; omega
    have c3 : 0 ≤ (i : Int) := by omega
    refine (To.step (f := fun k => (laws_toIntS.f k (l.getD i [])).bind fun t => laws_toIntSS.l0 k l (s.set i t) ((i + 1 : Nat) : Int)) (fun k => ?_)).trans (To.bind (laws_toIntS_ev _ (hi _ (getD_mem hi2 []))))
    simp only [laws_toIntSS.l0, if_pos c1, if_pos c2, if_pos c3, rdL1_nat, Int.toNat_natCast, wrap_succ hi2 (by omega : l.length ≤ 9223372036854775807)]
  · show List.set s i _ = _
    rw [hs]; exact set_step l [] [] i hi2

theorem laws_toSample_ev (P : List (List Int)) (L : List Int) (h : P.length ≤ 1048576) (hi : ∀ x ∈ P, x.length ≤ 1048576) (hL : L.length ≤ 1048576) : Ev (fun k => laws_toSample.f k P L) (P, L) := Ev.bind (laws_toIntSS_ev P h hi) (Ev.bind (laws_toIntS_ev L hL) (Ev.now _))

theorem laws_toPlane_ev (l : List Int) (b : Int) (h : l.length ≤ 1048576) : Ev (fun k => laws_toPlane.f k l b) (l, b) := Ev.bind (laws_toIntS_ev l h) (Ev.now _)

theorem impl_within_eq (x a b : Int) : impl_within.f x a b = some (inR a b x) := in_tells a b x

theorem impl_allWithin_ev (l : List Int) (a b : Int) (h : l.length ≤ maxLen) : Ev (fun k => impl_allWithin.f k l a b) (l.all (inR a b)) := by
  unfold maxLen at h
  rw [← range_all l (inR a b) 0]
  refine ev_all (L := fun i k => impl_allWithin.l0 k a b l (l.length : Int) i) (fun i hi hp => To.step fun k => ?_) (fun i hi hp => Ev.step' (f := fun _ => some false) (fun k => ?_) (Ev.now _)) (Ev.step' (f := fun _ => some true) (fun k => ?_) (Ev.now _))
  · have c1 : (i : Int) < (l.length : Int) := by omega
    have c0 : 0 ≤ (i : Int) := by omega
    simp only [impl_allWithin.l0, if_pos c1, if_pos c0, impl_within_eq, rd_nat, hp, Option.bind_some, if_true, wrap_succ hi h]
  · have c1 : (i : Int) < (l.length : Int) := by omega
    have c0 : 0 ≤ (i : Int) := by omega
    simp only [impl_allWithin.l0, if_pos c1, if_pos c0, impl_within_eq, rd_nat, hp, Option.bind_some, Bool.false_eq_true, if_false]
  · simp only [impl_allWithin.l0, if_neg (Int.lt_irrefl _)]

theorem impl_IsPoint_ev (l : List Int) (h : l.length ≤ maxLen) : Ev (fun k => impl_IsPoint.f k l) (pointB l) := by
  have e : ∀ k, impl_IsPoint.f k l = if inR 1 4 l.length = true then (impl_allWithin.f k l (-9) 9).bind (fun t => some t) else some false := fun k => by simp only [impl_IsPoint.f, impl_within_eq, Option.bind_some]
  refine Ev.congr e ?_
  unfold pointB
  cases inR 1 4 l.length with
  | false => exact Ev.now _
  | true =>
    simp only [if_true, Bool.true_and]
    exact Ev.bind (impl_allWithin_ev l (-9) 9 h) (Ev.now _)

theorem impl_isLabel_eq (x : Int) : impl_isLabel.f x = some (isLab x) := by
  unfold impl_isLabel.f isLab
  by_cases e : x = 1
  · rw [if_pos e]; simp [e]
  · rw [if_neg e, decide_eq_false e, Bool.false_or]; rfl

theorem impl_IsSample_ev (P : List (List Int)) (L : List Int) (h : P.length ≤ maxLen) (hi : ∀ x ∈ P, x.length ≤ maxLen) (hL : L.length ≤ maxLen) : Ev (fun k => impl_IsSample.f k P L) (sampleB P L) := by
  have h' : P.length ≤ 9223372036854775807 := h
  have no : Ev (fun k => impl_IsSample.j0 k true P L) false := Ev.step' (f := fun _ => some false) (fun k => by simp only [impl_IsSample.j0, if_true]) (Ev.now _)
  unfold sampleB impl_IsSample.f
  by_cases c : P.length ≤ 16
  · rw [decide_eq_true c, Bool.true_and]
    simp only [if_neg (show ¬ (P.length : Int) > 16 by omega)]
    by_cases c2 : L.length = P.length
    · rw [decide_eq_true c2, Bool.true_and, show ((L.length : Int) != (P.length : Int)) = false by rw [bne_eq_false_iff_eq]; omega, Bool.and_comm]
      refine Ev.step' (f := fun k => impl_IsSample.l0 k P (P.length : Int) 0 P L) (fun k => by simp only [impl_IsSample.j0, Bool.false_eq_true, if_false]) ?_
      refine ev_list [] P (fun i (_ : Unit) k => impl_IsSample.l0 k P (P.length : Int) i P L) (fun i ys _ => ys.all (ptB P) && (L.drop i).all isLab) (fun _ _ => True) (fun _ _ => ?_) (fun i x ys _ hi2 hx hm _ ih => ?_) () trivial
      · rw [← c2, List.drop_length]
        exact Ev.step' (f := fun _ => some true) (fun k => by simp only [impl_IsSample.l0, c2, if_neg (Int.lt_irrefl _)]) (Ev.now _)
      · have c1 : (i : Int) < (P.length : Int) := by omega
        have c3 : (i : Int) < (L.length : Int) := by omega
        have c0 : 0 ≤ (i : Int) := by omega
        have cp : 0 < (P.length : Int) := by omega
        have hil : i < L.length := by omega
        rw [List.all_cons, List.drop_eq_getElem_cons hil, List.all_cons]
        unfold ptB
        refine Ev.step' (f := fun k => (impl_IsPoint.f k x).bind fun t => if t = true then (if (x.length : Int) = ((P.getD 0 []).length : Int) then (if isLab L[i] = true then impl_IsSample.l0 k P (P.length : Int) ((i + 1 : Nat) : Int) P L else some false) else some false) else some false) (fun k => by simp only [impl_IsSample.l0, if_pos c1, if_pos c0, if_pos c3, if_pos cp, rdL1_nat, rd_nat, hx, impl_isLabel_eq, Option.bind_some, wrap_succ hi2 h', List.getD_eq_getElem?_getD, List.getElem?_eq_getElem hil, Option.getD_some] <;> rfl) ?_
        refine Ev.bind (impl_IsPoint_ev x (hi x hm)) ?_
        cases pointB x with
        | false => exact Ev.now _
        | true =>
          simp only [if_true, Bool.true_and]
          by_cases c5 : x.length = (P.getD 0 []).length
          · rw [decide_eq_true c5, Bool.true_and]
            simp only [if_pos (show (x.length : Int) = ((P.getD 0 []).length : Int) by omega)]
            cases isLab L[i] with
            | false => simp only [Bool.false_and, Bool.and_false]; exact Ev.now _
            | true => simp only [if_true, Bool.true_and]; exact ih () trivial
          · rw [decide_eq_false c5, Bool.false_and, Bool.false_and]
            simp only [if_neg (show ¬ (x.length : Int) = ((P.getD 0 []).length : Int) by omega)]
            exact Ev.now _
    · rw [decide_eq_false c2, Bool.false_and, show ((L.length : Int) != (P.length : Int)) = true by rw [bne_iff_ne]; omega]
      exact no
  · rw [decide_eq_false c, Bool.false_and]
    simp only [if_pos (show (P.length : Int) > 16 by omega)]
    exact no

theorem impl_IsPlane_ev (l : List Int) (b : Int) (h : l.length ≤ maxLen) : Ev (fun k => impl_IsPlane.f k l b) (planeB l b) := by
  have e : ∀ k, impl_IsPlane.f k l b = if inR 1 4 l.length = true then (impl_allWithin.f k l (-99) 99).bind (fun t => if t = true then some (inR (-99) 99 b) else some false) else some false := fun k => by
    simp only [impl_IsPlane.f, impl_within_eq, Option.bind_some]
  refine Ev.congr e ?_
  unfold planeB
  cases inR 1 4 l.length with
  | false => exact Ev.now _
  | true =>
    simp only [if_true, Bool.true_and]
    refine Ev.bind (impl_allWithin_ev l (-99) 99 h) ?_
    cases l.all (inR (-99) 99) with
    | false => exact Ev.now _
    | true => exact Ev.now _

theorem impl_suits_ev (P : List (List Int)) (L w : List Int) (b : Int) (h : P.length ≤ maxLen) (hi : ∀ x ∈ P, x.length ≤ maxLen) (hL : L.length ≤ maxLen) (hw : w.length ≤ maxLen) : Ev (fun k => impl_suits.f k P L w b) (suitsB P L w b) := by
  unfold suitsB
  refine Ev.bind (impl_IsSample_ev P L h hi hL) ?_
  cases sampleB P L with
  | false => exact Ev.now _
  | true =>
    simp only [if_true, Bool.true_and]
    refine Ev.bind (impl_IsPlane_ev w b hw) ?_
    cases planeB w b with
    | false => exact Ev.now _
    | true =>
      simp only [if_true, Bool.true_and]
      by_cases c0 : P.length = 0
      · simp only [if_pos (show (P.length : Int) = 0 by omega), decide_eq_true c0, Bool.true_or]; exact Ev.now _
      · have rd0 := rdL1_nat P 0
        simp only [Int.natCast_zero] at rd0
        simp only [if_neg (show ¬ (P.length : Int) = 0 by omega), if_pos (show 0 < (P.length : Int) by omega), decide_eq_false c0, Bool.false_or, rd0]
        exact Ev.now _

theorem impl_Sample_areHefts_ev (P : List (List Int)) (L c : List Int) (hc : c.length ≤ maxLen) : Ev (fun k => impl_Sample_areHefts.f k P L c) (heftsB P c) := by
  unfold heftsB impl_Sample_areHefts.f
  by_cases c2 : (c.length : Int) = (P.length : Int)
  · simp only [if_pos c2, beq_iff_eq.2 c2, Bool.and_true]
    exact Ev.bind (impl_allWithin_ev c 0 1000000 hc) (Ev.now _)
  · simp only [if_neg c2, beq_eq_false_iff_ne.2 c2, Bool.and_false]
    exact Ev.now _

theorem impl_total_ev (l : List Int) (h : l.length ≤ maxLen) : Ev (fun k => impl_total.f k l) (sumW l) := by
  have h' : l.length ≤ 9223372036854775807 := h
  refine ev_list 0 l (fun i s k => impl_total.l0 k s l (l.length : Int) i) (fun _ ys s => ys.foldl (fun s x => wrap64 (s + x)) s) (fun _ _ => True) (fun s _ => ?_) (fun i x ys s hi hx _ _ ih => ?_) 0 trivial
  · exact Ev.step' (f := fun _ => some s) (fun k => by simp only [impl_total.l0, if_neg (Int.lt_irrefl _)]) (Ev.now _)
  · have c1 : (i : Int) < (l.length : Int) := by omega
    have c0 : 0 ≤ (i : Int) := by omega
    rw [List.foldl_cons]
    exact Ev.step' (fun k => by simp only [impl_total.l0, if_pos c1, if_pos c0, rd_nat, hx, wrap_succ hi h']) (ih _ trivial)

theorem impl_at_ev (h p : List Int) (hp : p.length ≤ 1048576) (hin : ∀ i ∈ p, 0 ≤ i ∧ i < h.length) : Ev (fun k => impl_at.f k h p) (atM h p) := by
  have h' : p.length ≤ 9223372036854775807 := by omega
  refine ev_eq (a := ([] : List Int) ++ atM h p) ?_ (List.nil_append _)
  refine ev_list 0 p (fun i (s : List Int) k => impl_at.l0 k h s p (p.length : Int) i) (fun _ ys s => s ++ atM h ys) (fun i s => s.length ≤ i) (fun s _ => ?_) (fun i x ys s hi2 hxx hm hs ih => ?_) [] (by simp)
  · refine Ev.step' (f := fun _ => some s) (fun k => by simp only [impl_at.l0, if_neg (Int.lt_irrefl _)]) ?_
    simp only [atM, List.map_nil, List.append_nil]
    exact Ev.now _
  · have c1 : (i : Int) < (p.length : Int) := by omega
    have c0 : 0 ≤ (i : Int) := by omega
    have c4 : s.length < 17592186044416 := by omega
    have c5 := hin x hm
    refine Ev.step' (f := fun k => impl_at.l0 k h (s ++ [rd h x]) p (p.length : Int) ((i + 1 : Nat) : Int)) (fun k => by simp only [impl_at.l0, if_pos c1, if_pos c0, if_pos c4, rd_nat, hxx, if_pos c5.1, if_pos c5.2, wrap_succ hi2 h']) ?_
    refine ev_eq (ih (s ++ [rd h x]) (by simp; omega)) (by simp [atM])

theorem impl_product_ev (a b : List Int) (h : a.length ≤ maxLen) (hb : a.length ≤ b.length) : Ev (fun k => impl_product.f k a b) (dotW a b) := by
  unfold maxLen at h
  have hf := to_fold (L := fun i (s : Int) k => impl_product.l0 k b s a (a.length : Int) i) (n := a.length) (f := fun i s => wrap64 (s + wrap64 (a.getD i 0 * b.getD i 0))) (fun _ _ => True) (fun i s hi _ => ⟨To.step fun k => ?_, trivial⟩) 0 trivial
  · refine hf.1 _ (Ev.step' (f := fun _ => some _) (fun k => ?_) (Ev.now _))
    simp only [impl_product.l0, if_neg (Int.lt_irrefl _)]; rfl
  · have c1 : (i : Int) < (a.length : Int) := by omega
    have c2 : (i : Int) < (b.length : Int) := by omega
    have c3 : 0 ≤ (i : Int) := by omega
    simp only [impl_product.l0, if_pos c1, if_pos c2, if_pos c3, rd_nat, wrap_succ hi h]

theorem impl_Plane_side_ev (w : List Int) (b : Int) (x : List Int) (hw : w.length ≤ maxLen) (hx : w.length ≤ x.length) : Ev (fun k => impl_Plane_side.f k w b x) (sideW w b x) := by
  refine Ev.bind (impl_product_ev w x hw hx) ?_
  unfold sideW
  by_cases c : dotW w x ≥ b
  · simp only [if_pos c]; exact Ev.now _
  · simp only [if_neg c]; exact Ev.now _

theorem impl_Plane_mistakes_ev (w : List Int) (b : Int) (P : List (List Int)) (L : List Int) (hP : P.length ≤ 16) (hL : L.length = P.length) (hw : w.length ≤ maxLen) (hx : ∀ x ∈ P, w.length ≤ x.length) : Ev (fun k => impl_Plane_mistakes.f k w b P L) (missM L w b 0 P) := by
  have h' : P.length ≤ 9223372036854775807 := by omega
  refine ev_eq (a := ([] : List Int) ++ missM L w b 0 P) ?_ (List.nil_append _)
  refine ev_list [] P (fun i (s : List Int) k => impl_Plane_mistakes.l0 k s P (P.length : Int) i w b P L) (fun i ys s => s ++ missM L w b i ys) (fun i s => s.length ≤ i) (fun s _ => ?_) (fun i x ys s hi2 hxx hm hs ih => ?_) [] (by simp)
  · refine Ev.step' (f := fun _ => some s) (fun k => by simp only [impl_Plane_mistakes.l0, if_neg (Int.lt_irrefl _)]) ?_
    simp only [missM, List.append_nil]
    exact Ev.now _
  · have c1 : (i : Int) < (P.length : Int) := by omega
    have c2 : (i : Int) < (L.length : Int) := by omega
    have c0 : 0 ≤ (i : Int) := by omega
    have c4 : s.length < 17592186044416 := by omega
    refine Ev.step' (f := fun k => (impl_Plane_side.f k w b x).bind fun t => if t = L.getD i 0 then impl_Plane_mistakes.l0 k s P (P.length : Int) ((i + 1 : Nat) : Int) w b P L else impl_Plane_mistakes.l0 k (s ++ [(i : Int)]) P (P.length : Int) ((i + 1 : Nat) : Int) w b P L) (fun k => by simp only [impl_Plane_mistakes.l0, if_pos c1, if_pos c0, if_pos c2, if_pos c4, rd_nat, rdL1_nat, hxx, wrap_succ hi2 h']) ?_
    refine Ev.bind (impl_Plane_side_ev w b x hw (hx x hm)) ?_
    simp only [missM]
    by_cases e : sideW w b x = L.getD i 0
    · simp only [if_pos e]; exact ih _ (by omega)
    · simp only [if_neg e]
      refine ev_eq (ih (s ++ [(i : Int)]) (by simp; omega)) (by simp)

theorem impl_Sample_weighted_ev (P : List (List Int)) (L c w : List Int) (b : Int) (hP : P.length ≤ 16) (hL : L.length = P.length) (hc : c.length = P.length) (hw : w.length ≤ maxLen) (hx : ∀ x ∈ P, w.length ≤ x.length) : Ev (fun k => impl_Sample_weighted.f k P L c w b) (weighM L c w b 0 P 0) := by
  have hm := missM_mem L w b P 0
  have hl := missM_len L w b P 0
  refine Ev.bind (impl_Plane_mistakes_ev w b P L hP hL hw hx) ?_
  refine Ev.bind (impl_at_ev c _ (by omega) (fun i hi => by have := hm i hi; omega)) ?_
  refine Ev.bind (ev_eq (impl_total_ev _ (by unfold atM maxLen; rw [List.length_map]; omega)) (weigh_eq L c w b P 0 0)) (Ev.now _)

theorem impl_WeightedMistakes_ev (P : List (List Int)) (L c w : List Int) (b : Int) (h : P.length ≤ maxLen) (hi : ∀ x ∈ P, x.length ≤ maxLen) (hL : L.length ≤ maxLen) (hc : c.length ≤ maxLen) (hw : w.length ≤ maxLen) : Ev (fun k => impl_WeightedMistakes.f k P L c w b) (if (suitsB P L w b && heftsB P c) = true then (weighM L c w b 0 P 0, true) else (0, false)) := by
  refine Ev.bind (impl_suits_ev P L w b h hi hL hw) ?_
  cases e1 : suitsB P L w b with
  | false => exact Ev.now _
  | true =>
    simp only [if_true, Bool.true_and]
    refine Ev.bind (impl_Sample_areHefts_ev P L c hc) ?_
    cases e2 : heftsB P c with
    | false => exact Ev.now _
    | true =>
      simp only [if_true]
      obtain ⟨h1, h2, h3⟩ := suits_tell e1
      obtain ⟨h4, h5, _⟩ := sample_tell h1
      exact Ev.bind (impl_Sample_weighted_ev P L c w b h4 h5 (hefts_len e2) hw (fun x hx => by rw [h3 x hx]; exact Nat.le_refl _)) (Ev.now _)

theorem laws_eqIntS_ev (l : List Int) (h : l.length ≤ maxLen) : Ev (fun k => laws_eqIntS.f k l l) true := by
  unfold maxLen at h
  refine Ev.congr (f := fun k => laws_eqIntS.l0 k l l 0) (fun k => by simp only [laws_eqIntS.f, if_true]) ?_
  refine ev_yes (L := fun i k => laws_eqIntS.l0 k l l i) (n := l.length) (fun i hi => To.step fun k => ?_) (Ev.step' (f := fun _ => some true) (fun k => ?_) (Ev.now _))
  · have c1 : (i : Int) < (l.length : Int) := by omega
    have c0 : 0 ≤ (i : Int) := by omega
    simp only [laws_eqIntS.l0, if_pos c1, if_pos c0, if_true, wrap_succ hi h]
  · simp only [laws_eqIntS.l0, if_neg (Int.lt_irrefl _)]

theorem laws_eqIntSS_ev (l : List (List Int)) (h : l.length ≤ maxLen) (hi : ∀ x ∈ l, x.length ≤ maxLen) : Ev (fun k => laws_eqIntSS.f k l l) true := by
  have h' : l.length ≤ 9223372036854775807 := h
  refine Ev.congr (f := fun k => laws_eqIntSS.l0 k l l 0) (fun k => by simp only [laws_eqIntSS.f, if_true]) ?_
  refine ev_yes (L := fun i k => laws_eqIntSS.l0 k l l i) (n := l.length) (fun i hi2 => ?_) (Ev.step' (f := fun _ => some true) (fun k => ?_) (Ev.now _))
  · have c1 : (i : Int) < (l.length : Int) := by omega
    have c0 : 0 ≤ (i : Int) := by omega
    refine (To.step (f := fun k => (laws_eqIntS.f k (l.getD i []) (l.getD i [])).bind fun t => if t = true then laws_eqIntSS.l0 k l l ((i + 1 : Nat) : Int) else some false) (fun k => ?_)).trans ((To.bind (laws_eqIntS_ev _ (hi _ (getD_mem hi2 [])))).trans (To.congr fun k => by simp only [if_true]))
    simp only [laws_eqIntSS.l0, if_pos c1, if_pos c0, rdL1_nat, wrap_succ hi2 h']
  · simp only [laws_eqIntSS.l0, if_neg (Int.lt_irrefl _)]

theorem laws_eqSample_ev (P : List (List Int)) (L : List Int) (h : P.length ≤ maxLen) (hi : ∀ x ∈ P, x.length ≤ maxLen) (hL : L.length ≤ maxLen) : Ev (fun k => laws_eqSample.f k P L P L) true := by
  refine Ev.bind (laws_eqIntSS_ev P h hi) ?_
  simp only [if_true]
  refine Ev.bind (laws_eqIntS_ev L hL) ?_
  simp only [if_true]
  exact Ev.now _

theorem laws_eqPlane_ev (l : List Int) (b : Int) (h : l.length ≤ maxLen) : Ev (fun k => laws_eqPlane.f k l b l b) true := Ev.bind (laws_eqIntS_ev l h) (Ev.congr (f := fun _ => some true) (fun k => by simp only [if_true]) (Ev.now _))

theorem pure : SFnExactWeightedMistakes.Pure := by
  intro P L c w b ⟨h, hi0⟩ ⟨hL, _⟩ ⟨hc, _⟩ ⟨hw, _⟩ _
  have hi : ∀ x ∈ P, x.length ≤ maxLen := fun x hx => (hi0 x hx).1
  by_cases q1 : c.length ≤ 1048576
  · obtain ⟨K1, k1⟩ := laws_szSample_ev P L 1048576 h hi hL (by omega) (by omega)
    by_cases cn : lft 1048576 (sz2 P + L.length) < 0
    · exact .inr (.inl ⟨K1, _, k1 K1 (by omega), q1, cn⟩)
    · have d := lft_nonneg (Int.not_lt.1 cn)
      have hs := sz2_small (l := P) (n := 1048576) (by omega)
      have e2 := laws_szPlane_eq w b _ hw (Int.not_lt.1 cn) (by omega)
      by_cases cn2 : lft (lft 1048576 (sz2 P + L.length)) w.length < 0
      · exact .inr (.inr (.inl ⟨K1, _, _, k1 K1 (by omega), e2, q1, Int.not_lt.1 cn, cn2⟩))
      · have d2 := lft_nonneg (Int.not_lt.1 cn2)
        obtain ⟨K2, k2⟩ := laws_toSample_ev P L hs.1 hs.2 (by omega)
        obtain ⟨K3, k3⟩ := laws_toIntS_ev c q1
        obtain ⟨K4, k4⟩ := laws_toPlane_ev w b (by omega)
        obtain ⟨K5, k5⟩ := spec_WeightedMistakes_ev P L c w b h hi hL hc hw
        obtain ⟨K6, k6⟩ := impl_WeightedMistakes_ev P L c w b h hi hL hc hw
        obtain ⟨K7, k7⟩ := laws_eqSample_ev P L h hi hL
        obtain ⟨K8, k8⟩ := laws_eqIntS_ev c hc
        obtain ⟨K9, k9⟩ := laws_eqPlane_ev w b hw
        let K := K1 + K2 + K3 + K4 + K5 + K6 + K7 + K8 + K9
        have s5 := k5 K (by omega)
        have s6 := k6 K (by omega)
        exact .inr (.inr (.inr ⟨K, _, _, _, _, _, _, _, _, _, k1 K (by omega), e2, k2 K (by omega), k3 K (by omega), k4 K (by omega), s5, s6, k7 K (by omega), k8 K (by omega), k9 K (by omega), q1, Int.not_lt.1 cn, Int.not_lt.1 cn2⟩))
  · exact .inl ⟨0, by omega⟩
end Go.Proofs.Ytniebbjbihenfaa.QFnExactWeightedMistakes
