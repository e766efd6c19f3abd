/- FnExactSidesSample: what its calls come to, shown of numbers and lists alone. -/
import Derived.Test.YtniebbjbihenfaaSFnExactSidesSample
import Derived.Test.YtniebbjbihenfaaPm
namespace Go.Proofs.Ytniebbjbihenfaa.QFnExactSidesSample
open Go.RowKit Go.Proofs.Ytniebbjbihenfaa.KFnExactSidesSample Go.Proofs.Ytniebbjbihenfaa.Lb Go.Proofs.Ytniebbjbihenfaa.Pm Go.Proofs.Ytniebbjbihenfaa.PFnExactSidesSample Go.Proofs.YtniebbjbihenfaaW.PrintWords Go.Proofs.YtniebbjbihenfaaW.PrintLast Go.Proofs.YtniebbjbihenfaaW.PrintMore
set_option linter.unusedVariables false
set_option linter.unusedSimpArgs false
theorem rdL1_nat (xs : List (List Int)) (i : Nat) : rd_L1 xs (i : Int) = xs.getD i [] := by simp [rd_L1]

theorem rdT37_nat (xs : List S37) (i : Nat) : rd_T37 xs (i : Int) = xs.getD i z37 := by simp [rd_T37]

theorem rdT42_nat (xs : List S42) (i : Nat) : rd_T42 xs (i : Int) = xs.getD i z42 := by simp [rd_T42]

theorem laws_szIntS_eq (l : List Int) (a : Int) (h : l.length ≤ maxLen) (h0 : 0 ≤ a) (h1 : a ≤ 1048576) : laws_szIntS.f l a = some (lft a l.length) := by
  unfold maxLen at h
  have hw : wrap64 (a - (l.length : Int)) = a - l.length := wrap_id (by omega) (by omega)
  unfold laws_szIntS.f lft
  rw [hw]
  by_cases c : (l.length : Int) ≤ a
  · rw [if_neg (by omega), if_pos c]
  · rw [if_pos (by omega), if_neg c]

theorem laws_szIntSS_ev (l : List (List Int)) (a : Int) (h : l.length ≤ maxLen) (hi : ∀ x ∈ l, x.length ≤ maxLen) (h0 : 0 ≤ a) (h1 : a ≤ 1048576) : Ev (fun k => laws_szIntSS.f k l a) (lft a (sz2 l)) := by
  have h' : l.length ≤ 9223372036854775807 := h
  unfold sz2 laws_szIntSS.f
  rw [← lft_add a _ _ h0]
  have hw : wrap64 (a - (l.length : Int)) = a - l.length := wrap_id (by omega) (by omega)
  rw [hw]
  by_cases c : (l.length : Int) ≤ a
  · have e : lft a l.length = a - l.length := by unfold lft; rw [if_pos c]
    rw [e]
    simp only [if_neg (show ¬ a - (l.length : Int) < 0 by omega)]
    refine ev_sz [] List.length l (L := fun a i k => laws_szIntSS.l0 k l a i) (fun i a hi2 h0 h1 hn => ?_) (fun i a hi2 h0 h1 hn => ?_) (fun a => Ev.step' (f := fun _ => some a) (fun k => by simp only [laws_szIntSS.l0, if_neg (Int.lt_irrefl _)]) (Ev.now _)) _ (by omega) (by omega)
    · have c1 : (i : Int) < (l.length : Int) := by omega
      have c0 : 0 ≤ (i : Int) := by omega
      refine To.step (fun k => ?_)
      simp only [laws_szIntSS.l0, if_pos c1, if_pos c0, rdL1_nat, laws_szIntS_eq _ a (hi _ (getD_mem hi2 [])) h0 h1, Option.bind_some, if_neg (show ¬ lft a (l.getD i []).length < 0 by omega), wrap_succ hi2 h']
    · have c1 : (i : Int) < (l.length : Int) := by omega
      have c0 : 0 ≤ (i : Int) := by omega
      refine Ev.step' (f := fun _ => some (-1)) (fun k => ?_) (Ev.now _)
      simp only [laws_szIntSS.l0, if_pos c1, if_pos c0, rdL1_nat, laws_szIntS_eq _ a (hi _ (getD_mem hi2 [])) h0 h1, Option.bind_some, if_pos hn]
  · have e : lft a l.length = -1 := by unfold lft; rw [if_neg c]
    rw [e]
    simp only [if_pos (show a - (l.length : Int) < 0 by omega), if_pos (show (-1 : Int) < 0 by omega)]
    exact Ev.now _

theorem laws_szSample_ev (P : List (List Int)) (L : List Int) (a : Int) (h : P.length ≤ maxLen) (hi : ∀ x ∈ P, x.length ≤ maxLen) (hL : L.length ≤ maxLen) (h0 : 0 ≤ a) (h1 : a ≤ 1048576) : Ev (fun k => laws_szSample.f k P L a) (lft a (sz2 P + L.length)) := by
  have hle := lft_le a (sz2 P) h0
  refine Ev.bind (laws_szIntSS_ev P a h hi h0 h1) ?_
  rw [← lft_add a _ _ h0]
  by_cases c : lft a (sz2 P) < 0
  · simp only [if_pos c]; exact Ev.now _
  · simp only [if_neg c, laws_szIntS_eq L _ hL (show 0 ≤ lft a (sz2 P) by omega) (show lft a (sz2 P) ≤ 1048576 by omega), Option.bind_some]
    by_cases c2 : lft (lft a (sz2 P)) L.length < 0
    · simp only [if_pos c2, lft_neg c2]; exact Ev.now _
    · simp only [if_neg c2]; exact Ev.now _

theorem laws_toIntS_ev (l : List Int) (h : l.length ≤ 1048576) : Ev (fun k => laws_toIntS.f k l) l := by
  have hw : wrap64 (l.length : Int) = l.length := wrap_id (by omega) (by omega)
  have c0 : 0 ≤ (l.length : Int) := by omega
  have e : ∀ k, laws_toIntS.f k l = laws_toIntS.l0 k l (List.replicate l.length 0) 0 := fun k => by
    simp only [laws_toIntS.f, if_pos c0, Int.toNat_natCast]; rw [if_pos (by omega)]
  refine Ev.congr e ?_
  have hf := to_fold (L := fun i (s : List Int) k => laws_toIntS.l0 k l s i) (n := l.length) (f := fun i s => s.set i (l.getD i 0)) (fun i s => s = l.take i ++ List.replicate (l.length - i) 0) (fun i s hi hs => ⟨To.step fun k => ?_, ?_⟩) (List.replicate l.length 0) (by simp)
  · refine hf.1 _ (Ev.step' (f := fun _ => some l) (fun k => ?_) (Ev.now _))
    have := hf.2
    rw [Nat.sub_self, List.take_length, List.replicate_zero, List.append_nil] at this
    show laws_toIntS.l0 (k + 1) l _ _ = _
    rw [this]
    simp only [laws_toIntS.l0, if_neg (Int.lt_irrefl _)]
  · have c1 : (i : Int) < (l.length : Int) := by omega
    have c2 : (i : Int) < (s.length : Int) := by rw [hs, List.length_append, List.length_take, List.length_replicate]; omega
    have c3 : 0 ≤ (i : Int) := by omega
    simp only [laws_toIntS.l0, if_pos c1, if_pos c2, if_pos c3, rd_nat, Int.toNat_natCast, wrap_succ hi (by omega : l.length ≤ 9223372036854775807)]
  · show List.set s i _ = _
    rw [hs]; exact set_step l 0 0 i hi

theorem laws_toIntSS_ev (l : List (List Int)) (h : l.length ≤ 1048576) (hi : ∀ x ∈ l, x.length ≤ 1048576) : Ev (fun k => laws_toIntSS.f k l) l := by
  have c0 : 0 ≤ (l.length : Int) := by omega
  have e : ∀ k, laws_toIntSS.f k l = laws_toIntSS.l0 k l (List.replicate l.length []) 0 := fun k => by
    simp only [laws_toIntSS.f, if_pos c0, Int.toNat_natCast]; rw [if_pos (by omega)]
  refine Ev.congr e ?_
  have hf := to_fold (L := fun i (s : List (List Int)) k => laws_toIntSS.l0 k l s i) (n := l.length) (f := fun i s => s.set i (l.getD i [])) (fun i s => s = l.take i ++ List.replicate (l.length - i) []) (fun i s hi2 hs => ⟨?_, ?_⟩) (List.replicate l.length []) (by simp)
  · refine hf.1 _ (Ev.step' (f := fun _ => some l) (fun k => ?_) (Ev.now _))
    have := hf.2
    rw [Nat.sub_self, List.take_length, List.replicate_zero, List.append_nil] at this
    show laws_toIntSS.l0 (k + 1) l _ _ = _
    rw [this]
    simp only [laws_toIntSS.l0, if_neg (Int.lt_irrefl _)]
  · have c1 : (i : Int) < (l.length : Int) := by omega
    have c2 : (i : Int) < (s.length : Int) := by rw [hs, List.length_append, List.length_take, List.length_replicate]; omega
    have c3 : 0 ≤ (i : Int) := by omega
    refine (To.step (f := fun k => (laws_toIntS.f k (l.getD i [])).bind fun t => laws_toIntSS.l0 k l (s.set i t) ((i + 1 : Nat) : Int)) (fun k => ?_)).trans (To.bind (laws_toIntS_ev _ (hi _ (getD_mem hi2 []))))
    simp only [laws_toIntSS.l0, if_pos c1, if_pos c2, if_pos c3, rdL1_nat, Int.toNat_natCast, wrap_succ hi2 (by omega : l.length ≤ 9223372036854775807)]
  · show List.set s i _ = _
    rw [hs]; exact set_step l [] [] i hi2

theorem laws_toSample_ev (P : List (List Int)) (L : List Int) (h : P.length ≤ 1048576) (hi : ∀ x ∈ P, x.length ≤ 1048576) (hL : L.length ≤ 1048576) : Ev (fun k => laws_toSample.f k P L) (P, L) := Ev.bind (laws_toIntSS_ev P h hi) (Ev.bind (laws_toIntS_ev L hL) (Ev.now _))

theorem laws_eqIntS_ev (l : List Int) (h : l.length ≤ maxLen) : Ev (fun k => laws_eqIntS.f k l l) true := by
  unfold maxLen at h
  refine Ev.congr (f := fun k => laws_eqIntS.l0 k l l 0) (fun k => by simp only [laws_eqIntS.f, if_true]) ?_
  refine ev_yes (L := fun i k => laws_eqIntS.l0 k l l i) (n := l.length) (fun i hi => To.step fun k => ?_) (Ev.step' (f := fun _ => some true) (fun k => ?_) (Ev.now _))
  · have c1 : (i : Int) < (l.length : Int) := by omega
    have c0 : 0 ≤ (i : Int) := by omega
    simp only [laws_eqIntS.l0, if_pos c1, if_pos c0, if_true, wrap_succ hi h]
  · simp only [laws_eqIntS.l0, if_neg (Int.lt_irrefl _)]

theorem laws_eqIntSS_ev (l : List (List Int)) (h : l.length ≤ maxLen) (hi : ∀ x ∈ l, x.length ≤ maxLen) : Ev (fun k => laws_eqIntSS.f k l l) true := by
  have h' : l.length ≤ 9223372036854775807 := h
  refine Ev.congr (f := fun k => laws_eqIntSS.l0 k l l 0) (fun k => by simp only [laws_eqIntSS.f, if_true]) ?_
  refine ev_yes (L := fun i k => laws_eqIntSS.l0 k l l i) (n := l.length) (fun i hi2 => ?_) (Ev.step' (f := fun _ => some true) (fun k => ?_) (Ev.now _))
  · have c1 : (i : Int) < (l.length : Int) := by omega
    have c0 : 0 ≤ (i : Int) := by omega
    refine (To.step (f := fun k => (laws_eqIntS.f k (l.getD i []) (l.getD i [])).bind fun t => if t = true then laws_eqIntSS.l0 k l l ((i + 1 : Nat) : Int) else some false) (fun k => ?_)).trans ((To.bind (laws_eqIntS_ev _ (hi _ (getD_mem hi2 [])))).trans (To.congr fun k => by simp only [if_true]))
    simp only [laws_eqIntSS.l0, if_pos c1, if_pos c0, rdL1_nat, wrap_succ hi2 h']
  · simp only [laws_eqIntSS.l0, if_neg (Int.lt_irrefl _)]

theorem laws_eqSample_ev (P : List (List Int)) (L : List Int) (h : P.length ≤ maxLen) (hi : ∀ x ∈ P, x.length ≤ maxLen) (hL : L.length ≤ maxLen) : Ev (fun k => laws_eqSample.f k P L P L) true := by
  refine Ev.bind (laws_eqIntSS_ev P h hi) ?_
  simp only [if_true]
  refine Ev.bind (laws_eqIntS_ev L hL) ?_
  simp only [if_true]
  exact Ev.now _

theorem laws_markIntS_ev (l : List Int) (a : Int) (h0 : 0 ≤ a) (h1 : a + l.length ≤ 1000000000000) : Ev (fun k => laws_markIntS.f k l a) (a + l.length, iota a l) := by
  have e := ev_mark (0 : Int) (fun _ => 1) (fun a _ => a) l 1000000000000 (L := fun ys a i k => laws_markIntS.l0 k ys a i) (fun ys a i x hi hl hx hm ha hb => To.step fun k => by
    have c1 : (i : Int) < (ys.length : Int) := by omega
    have c3 : 0 ≤ (i : Int) := by omega
    have e : wrap64 (a + 1) = a + ((1 : Nat) : Int) := wrap_id (by omega) (by simpa using (by omega : a + 1 ≤ 9223372036854775807))
    simp only [laws_markIntS.l0, if_pos c1, if_pos c3, Int.toNat_natCast, wrap_succ (i := i) (n := ys.length) (by omega) (by omega), e]) (fun ys a hl => Ev.step' (f := fun _ => some (a, ys)) (fun k => by
    simp only [laws_markIntS.l0, hl, if_neg (Int.lt_irrefl _)]) (Ev.now _)) a h0 (by rw [sumN_one]; exact h1)
  rw [sumN_one] at e
  exact e

theorem laws_szPlane_eq (l : List Int) (b a : Int) (h : l.length ≤ maxLen) (h0 : 0 ≤ a) (h1 : a ≤ 1048576) : laws_szPlane.f l b a = some (lft a l.length) := by
  unfold laws_szPlane.f
  rw [laws_szIntS_eq l a h h0 h1]
  simp only [Option.bind_some]
  by_cases c : lft a l.length < 0
  · rw [if_pos c, lft_neg c]
  · rw [if_neg c]

def szP (l : List S37) : Nat := l.length + sumN (fun x : S37 => x.f0.length) l
theorem szP_small {l : List S37} {n : Nat} (h : szP l ≤ n) : l.length ≤ n ∧ ∀ x ∈ l, x.f0.length ≤ n := by
  unfold szP at h
  exact ⟨by omega, fun x hx => by have := sumN_mem (fun x : S37 => x.f0.length) hx; omega⟩
theorem laws_szPlaneS_ev (l : List S37) (a : Int) (h : l.length ≤ maxLen) (hi : ∀ x ∈ l, x.f0.length ≤ maxLen) (h0 : 0 ≤ a) (h1 : a ≤ 1048576) : Ev (fun k => laws_szPlaneS.f k l a) (lft a (szP l)) := by
  have h' : l.length ≤ 9223372036854775807 := h
  unfold szP laws_szPlaneS.f
  rw [← lft_add a _ _ h0]
  have hw : wrap64 (a - (l.length : Int)) = a - l.length := wrap_id (by omega) (by omega)
  rw [hw]
  by_cases c : (l.length : Int) ≤ a
  · have e : lft a l.length = a - l.length := by unfold lft; rw [if_pos c]
    rw [e]
    simp only [if_neg (show ¬ a - (l.length : Int) < 0 by omega)]
    refine ev_sz z37 (fun x : S37 => x.f0.length) l (L := fun a i k => laws_szPlaneS.l0 k l a i) (fun i a hi2 h0 h1 hn => ?_) (fun i a hi2 h0 h1 hn => ?_) (fun a => Ev.step' (f := fun _ => some a) (fun k => by simp only [laws_szPlaneS.l0, if_neg (Int.lt_irrefl _)]) (Ev.now _)) _ (by omega) (by omega)
    · have c1 : (i : Int) < (l.length : Int) := by omega
      have c0 : 0 ≤ (i : Int) := by omega
      refine To.step (fun k => ?_)
      simp only [laws_szPlaneS.l0, if_pos c1, if_pos c0, rdT37_nat, laws_szPlane_eq _ _ a (hi _ (getD_mem hi2 z37)) h0 h1, Option.bind_some, if_neg (show ¬ lft a (l.getD i z37).f0.length < 0 by omega), wrap_succ hi2 h']
    · have c1 : (i : Int) < (l.length : Int) := by omega
      have c0 : 0 ≤ (i : Int) := by omega
      refine Ev.step' (f := fun _ => some (-1)) (fun k => ?_) (Ev.now _)
      simp only [laws_szPlaneS.l0, if_pos c1, if_pos c0, rdT37_nat, laws_szPlane_eq _ _ a (hi _ (getD_mem hi2 z37)) h0 h1, Option.bind_some, if_pos hn]
  · have e : lft a l.length = -1 := by unfold lft; rw [if_neg c]
    rw [e]
    simp only [if_pos (show a - (l.length : Int) < 0 by omega), if_pos (show (-1 : Int) < 0 by omega)]
    exact Ev.now _

theorem spec_l2Labels_ev (l : List Int) (h : l.length ≤ maxLen) : Ev (fun k => spec_l2Labels.f k l) (l.all isLab) := by
  have h' : l.length ≤ 9223372036854775807 := h
  refine ev_list 0 l (fun i (_ : Unit) k => spec_l2Labels.l0 k l i) (fun _ ys _ => ys.all isLab) (fun _ _ => True) (fun _ _ => ?_) (fun i x ys _ hi hx hm _ ih => ?_) () trivial
  · exact Ev.step' (f := fun _ => some true) (fun k => by simp only [spec_l2Labels.l0, if_neg (Int.lt_irrefl _)]) (Ev.now _)
  · have c1 : (i : Int) < (l.length : Int) := by omega
    have c0 : 0 ≤ (i : Int) := by omega
    have ih := ih () trivial
    simp only [List.all_cons]
    unfold isLab at ih ⊢
    by_cases e1 : x = 1
    · rw [show (decide (x = 1) || decide (x = -1)) = true by simp [e1], Bool.true_and]
      exact Ev.step' (fun k => by simp only [spec_l2Labels.l0, if_pos c1, if_pos c0, rd_nat, hx, if_pos e1, wrap_succ hi h']) ih
    · by_cases e2 : x = -1
      · rw [show (decide (x = 1) || decide (x = -1)) = true by simp [e2], Bool.true_and]
        exact Ev.step' (fun k => by simp only [spec_l2Labels.l0, if_pos c1, if_pos c0, rd_nat, hx, if_neg e1, if_pos e2, wrap_succ hi h']) ih
      · rw [show (decide (x = 1) || decide (x = -1)) = false by simp [e1, e2], Bool.false_and]
        exact Ev.step' (f := fun _ => some false) (fun k => by simp only [spec_l2Labels.l0, if_pos c1, if_pos c0, rd_nat, hx, if_neg e1, if_neg e2]) (Ev.now _)

theorem spec_l1In_eq (x a b : Int) : spec_l1In.f x a b = some (inR a b x) := in_tells a b x

theorem spec_l2Numbers_ev (l : List Int) (m : Int) (h : l.length ≤ maxLen) : Ev (fun k => spec_l2Numbers.f k l m) (l.all (inR (wrap64 (-m)) m)) := by
  unfold maxLen at h
  rw [← range_all l (inR (wrap64 (-m)) m) 0]
  refine ev_all (L := fun i k => spec_l2Numbers.l0 k l m i) (fun i hi hp => To.step fun k => ?_) (fun i hi hp => Ev.step' (f := fun _ => some false) (fun k => ?_) (Ev.now _)) (Ev.step' (f := fun _ => some true) (fun k => ?_) (Ev.now _))
  · have c1 : (i : Int) < (l.length : Int) := by omega
    have c0 : 0 ≤ (i : Int) := by omega
    simp only [spec_l2Numbers.l0, if_pos c1, if_pos c0, spec_l1In_eq, rd_nat, hp, Option.bind_some, if_true, wrap_succ hi h]
  · have c1 : (i : Int) < (l.length : Int) := by omega
    have c0 : 0 ≤ (i : Int) := by omega
    simp only [spec_l2Numbers.l0, if_pos c1, if_pos c0, spec_l1In_eq, rd_nat, hp, Option.bind_some, Bool.false_eq_true, if_false]
  · simp only [spec_l2Numbers.l0, if_neg (Int.lt_irrefl _)]

theorem spec_l2Point_ev (l : List Int) (h : l.length ≤ maxLen) : Ev (fun k => spec_l2Point.f k l) (pointB l) := by
  have e : ∀ k, spec_l2Point.f k l = if inR 1 4 l.length = true then (spec_l2Numbers.f k l 9).bind (fun t => some t) else some false := fun k => by simp only [spec_l2Point.f, spec_l1In_eq, Option.bind_some]
  refine Ev.congr e ?_
  unfold pointB
  cases inR 1 4 l.length with
  | false => exact Ev.now _
  | true =>
    simp only [if_true, Bool.true_and]
    refine Ev.bind (spec_l2Numbers_ev l 9 h) ?_
    rw [show wrap64 (-9) = -9 from wrap_id (by omega) (by omega)]
    exact Ev.now _

theorem spec_l2Sample_ev (P : List (List Int)) (L : List Int) (h : P.length ≤ maxLen) (hi : ∀ x ∈ P, x.length ≤ maxLen) (hL : L.length ≤ maxLen) : Ev (fun k => spec_l2Sample.f k P L) (sampleB P L) := by
  have h' : P.length ≤ 9223372036854775807 := h
  have no : Ev (fun k => spec_l2Sample.j0 k true P L) false := Ev.step' (f := fun _ => some false) (fun k => by simp only [spec_l2Sample.j0, if_true]) (Ev.now _)
  unfold sampleB spec_l2Sample.f
  by_cases c : P.length ≤ 16
  · rw [decide_eq_true c, Bool.true_and]
    simp only [if_neg (show ¬ (P.length : Int) > 16 by omega)]
    by_cases c2 : L.length = P.length
    · rw [decide_eq_true c2, Bool.true_and]
      simp only [if_pos (show (L.length : Int) = (P.length : Int) by omega)]
      refine Ev.bind (spec_l2Labels_ev L hL) ?_
      cases L.all isLab with
      | false => exact no
      | true =>
        refine Ev.step' (f := fun k => spec_l2Sample.l0 k 0 P L) (fun k => by simp only [spec_l2Sample.j0, Bool.not_true, Bool.false_eq_true, if_false]) ?_
        rw [Bool.true_and]
        refine ev_list [] P (fun i (_ : Unit) k => spec_l2Sample.l0 k i P L) (fun _ ys _ => ys.all (ptB P)) (fun _ _ => True) (fun _ _ => ?_) (fun i x ys _ hi2 hx hm _ ih => ?_) () trivial
        · exact Ev.step' (f := fun _ => some true) (fun k => by simp only [spec_l2Sample.l0, if_neg (Int.lt_irrefl _)]) (Ev.now _)
        · have c1 : (i : Int) < (P.length : Int) := by omega
          have c0 : 0 ≤ (i : Int) := by omega
          have cp : 0 < (P.length : Int) := by omega
          rw [List.all_cons]
          unfold ptB
          refine Ev.step' (f := fun k => (spec_l2Point.f k x).bind fun t => if t = true then (if (x.length : Int) = ((P.getD 0 []).length : Int) then spec_l2Sample.l0 k ((i + 1 : Nat) : Int) P L else some false) else some false) (fun k => by simp only [spec_l2Sample.l0, if_pos c1, if_pos c0, if_pos cp, rdL1_nat, hx, wrap_succ hi2 h'] <;> rfl) ?_
          refine Ev.bind (spec_l2Point_ev x (hi x hm)) ?_
          cases pointB x with
          | false => exact Ev.now _
          | true =>
            simp only [if_true, Bool.true_and]
            by_cases c5 : x.length = (P.getD 0 []).length
            · rw [decide_eq_true c5, Bool.true_and]
              simp only [if_pos (show (x.length : Int) = ((P.getD 0 []).length : Int) by omega)]
              exact ih () trivial
            · rw [decide_eq_false c5, Bool.false_and]
              simp only [if_neg (show ¬ (x.length : Int) = ((P.getD 0 []).length : Int) by omega)]
              exact Ev.now _
    · rw [decide_eq_false c2, Bool.false_and]
      simp only [if_neg (show ¬ (L.length : Int) = (P.length : Int) by omega)]
      exact no
  · rw [decide_eq_false c, Bool.false_and]
    simp only [if_pos (show (P.length : Int) > 16 by omega)]
    exact no

theorem spec_l2Plane_ev (l : List Int) (b : Int) (h : l.length ≤ maxLen) : Ev (fun k => spec_l2Plane.f k l b) (planeB l b) := by
  have e : ∀ k, spec_l2Plane.f k l b = if inR 1 4 l.length = true then (spec_l2Numbers.f k l 99).bind (fun t => if t = true then some (inR (-99) 99 b) else some false) else some false := fun k => by
    simp only [spec_l2Plane.f, spec_l1In_eq, Option.bind_some]
  refine Ev.congr e ?_
  unfold planeB
  cases inR 1 4 l.length with
  | false => exact Ev.now _
  | true =>
    simp only [if_true, Bool.true_and]
    refine Ev.bind (spec_l2Numbers_ev l 99 h) ?_
    rw [show wrap64 (-99) = -99 from wrap_id (by omega) (by omega)]
    cases l.all (inR (-99) 99) with
    | false => exact Ev.now _
    | true => exact Ev.now _

theorem spec_l2Both_ev (P : List (List Int)) (L w : List Int) (b : Int) (h : P.length ≤ maxLen) (hi : ∀ x ∈ P, x.length ≤ maxLen) (hL : L.length ≤ maxLen) (hw : w.length ≤ maxLen) : Ev (fun k => spec_l2Both.f k P L w b) (suitsB P L w b) := by
  unfold suitsB
  refine Ev.bind (spec_l2Sample_ev P L h hi hL) ?_
  cases sampleB P L with
  | false => exact Ev.now _
  | true =>
    simp only [if_true, Bool.true_and]
    refine Ev.bind (spec_l2Plane_ev w b hw) ?_
    cases planeB w b with
    | false => exact Ev.now _
    | true =>
      simp only [if_true, Bool.true_and]
      by_cases c0 : P.length = 0
      · simp only [if_pos (show (P.length : Int) = 0 by omega), decide_eq_true c0, Bool.true_or]; exact Ev.now _
      · have rd0 := rdL1_nat P 0
        simp only [Int.natCast_zero] at rd0
        simp only [if_neg (show ¬ (P.length : Int) = 0 by omega), if_pos (show 0 < (P.length : Int) by omega), decide_eq_false c0, Bool.false_or, rd0]
        exact Ev.now _

def juryB (w : List S42) : Bool := w.all (fun x => planeB x.f0 x.f1 && decide (x.f0.length = (w.getD 0 z42).f0.length)) && inR 1 9 w.length
theorem spec_l8Jury_ev (w : List S42) (h : w.length ≤ maxLen) (hi : ∀ x ∈ w, x.f0.length ≤ maxLen) : Ev (fun k => spec_l8Jury.f k w) (juryB w) := by
  have h' : w.length ≤ 9223372036854775807 := h
  unfold juryB
  refine ev_list z42 w (fun i (_ : Unit) k => spec_l8Jury.l0 k w i) (fun _ ys _ => ys.all (fun x => planeB x.f0 x.f1 && decide (x.f0.length = (w.getD 0 z42).f0.length)) && inR 1 9 w.length) (fun _ _ => True) (fun _ _ => ?_) (fun i x ys _ hi2 hx hm _ ih => ?_) () trivial
  · exact Ev.step' (f := fun _ => some _) (fun k => by simp only [spec_l8Jury.l0, if_neg (Int.lt_irrefl _), spec_l1In_eq, Option.bind_some] <;> rfl) (Ev.now _)
  · have c1 : (i : Int) < (w.length : Int) := by omega
    have c0 : 0 ≤ (i : Int) := by omega
    have c2 : 0 < (w.length : Int) := by omega
    have e0 : rd_T42 w 0 = w.getD 0 z42 := rdT42_nat w 0
    rw [List.all_cons, Bool.and_assoc, Bool.and_assoc]
    refine Ev.step' (f := fun k => (spec_l2Plane.f k x.f0 x.f1).bind fun t => if t = true then (if (x.f0.length : Int) = ((w.getD 0 z42).f0.length : Int) then spec_l8Jury.l0 k w ((i + 1 : Nat) : Int) else some false) else some false) (fun k => by simp only [spec_l8Jury.l0, if_pos c1, if_pos c0, if_pos c2, e0, rdT42_nat, hx, wrap_succ hi2 h']) (Ev.bind (spec_l2Plane_ev x.f0 x.f1 (hi x hm)) ?_)
    cases planeB x.f0 x.f1 with
    | false => simp only [Bool.false_and, Bool.false_eq_true, if_false]; exact Ev.now _
    | true =>
      simp only [if_true, Bool.true_and]
      by_cases c : x.f0.length = (w.getD 0 z42).f0.length
      · simp only [if_pos (show (x.f0.length : Int) = ((w.getD 0 z42).f0.length : Int) by omega), decide_eq_true c, Bool.true_and]
        exact ih () trivial
      · simp only [if_neg (show ¬ (x.f0.length : Int) = ((w.getD 0 z42).f0.length : Int) by omega), decide_eq_false c, Bool.false_and]
        exact Ev.now _

theorem spec_l1Own_eq (l : List Int) (h : l.length ≤ 1000) : spec_l1Own.f l = some l := by
  have c : ([] : List Int).length + l.length < 17592186044416 := by rw [List.length_nil]; omega
  simp only [spec_l1Own.f, Option.bind_some, if_pos c, List.nil_append]

theorem spec_l2Dot_ev (a b : List Int) (h : a.length ≤ maxLen) (hb : a.length ≤ b.length) : Ev (fun k => spec_l2Dot.f k a b) (dotW a b) := by
  unfold maxLen at h
  have hf := to_fold (L := fun i (s : Int) k => spec_l2Dot.l0 k a b s i) (n := a.length) (f := fun i s => wrap64 (s + wrap64 (a.getD i 0 * b.getD i 0))) (fun _ _ => True) (fun i s hi _ => ⟨To.step fun k => ?_, trivial⟩) 0 trivial
  · refine hf.1 _ (Ev.step' (f := fun _ => some _) (fun k => ?_) (Ev.now _))
    simp only [spec_l2Dot.l0, if_neg (Int.lt_irrefl _)]; rfl
  · have c1 : (i : Int) < (a.length : Int) := by omega
    have c2 : (i : Int) < (b.length : Int) := by omega
    have c3 : 0 ≤ (i : Int) := by omega
    simp only [spec_l2Dot.l0, if_pos c1, if_pos c2, if_pos c3, rd_nat, wrap_succ hi h]

theorem spec_l2Side_ev (w : List Int) (b : Int) (x : List Int) (hw : w.length ≤ maxLen) (hx : w.length ≤ x.length) : Ev (fun k => spec_l2Side.f k w b x) (sideW w b x) := by
  refine Ev.bind (spec_l2Dot_ev w x hw hx) ?_
  unfold sideW
  by_cases c : dotW w x ≥ b
  · simp only [if_pos c]; exact Ev.now _
  · simp only [if_neg c]; exact Ev.now _

def sidesRow (w : List S42) (x : List Int) : List Int := w.map fun y => sideW y.f0 y.f1 x
def sidesM (P : List (List Int)) (L : List Int) (w : List S42) : List (List Int) × List Int × Bool := if (juryB w && (decide (w.length ≤ 4) && suitsB P L (w.getD 0 z42).f0 (w.getD 0 z42).f1)) = true then (P.map (sidesRow w), L, true) else ([], [], false)
theorem jury_tell {w : List S42} (h : juryB w = true) : (1 ≤ w.length ∧ w.length ≤ 9) ∧ ∀ x ∈ w, x.f0.length = (w.getD 0 z42).f0.length := by
  unfold juryB at h
  simp only [Bool.and_eq_true, List.all_eq_true, decide_eq_true_eq] at h
  have hl := (inR_iff _ _ _).1 h.2
  exact ⟨⟨by omega, by omega⟩, fun x hx => (h.1 x hx).2⟩
theorem spec_SidesSample_row (P : List (List Int)) (L : List Int) (w : List S42) (x : List Int) (i : Nat) (s : List (List Int)) (hi : i < P.length) (h : P.length ≤ maxLen) (hx : P.getD i [] = x) (hs : s.length = i) (h16 : P.length ≤ 16) (hw : w.length ≤ 9) (hl : ∀ y ∈ w, y.f0.length ≤ maxLen ∧ y.f0.length ≤ x.length) :
    To (fun k => spec_SidesSample.l1 k w i [] 0 P L s L) (fun k => spec_SidesSample.l0 k w ((i + 1 : Nat) : Int) P L (s ++ [sidesRow w x]) L) := by
  have hf := to_fold (L := fun j (t : List Int) k => spec_SidesSample.l1 k w i t j P L s L) (n := w.length) (f := fun j t => t ++ [sideW (w.getD j z42).f0 (w.getD j z42).f1 x]) (fun j t => t.length = j) (fun j t hj ht => ⟨?_, by simp [ht]⟩) [] rfl
  · refine hf.1.trans (To.step fun k => ?_)
    have c0 : 0 ≤ (i : Int) := by omega
    have c1 : (i : Int) < (P.length : Int) := by omega
    have c5 : s.length < 5864062014805 := by omega
    rw [fold_append, List.nil_append, range_map w (fun y => sideW y.f0 y.f1 x) z42]
    simp only [spec_SidesSample.l1, if_neg (Int.lt_irrefl _), if_pos c5, wrap_succ hi (by omega : P.length ≤ 9223372036854775807)]
    rfl
  · have c0 : 0 ≤ (i : Int) := by omega
    have c1 : (i : Int) < (P.length : Int) := by omega
    have c2 : (j : Int) < (w.length : Int) := by omega
    have c3 : 0 ≤ (j : Int) := by omega
    have c4 : t.length < 17592186044416 := by omega
    have hm := hl _ (getD_mem hj z42)
    refine (To.step (f := fun k => (spec_l2Side.f k (w.getD j z42).f0 (w.getD j z42).f1 x).bind fun u => spec_SidesSample.l1 k w i (t ++ [u]) ((j + 1 : Nat) : Int) P L s L) fun k => ?_).trans (To.bind (spec_l2Side_ev _ _ x hm.1 hm.2))
    simp only [spec_SidesSample.l1, if_pos c0, if_pos c1, if_pos c2, if_pos c3, if_pos c4, rdL1_nat, rdT42_nat, hx, wrap_succ hj (by omega : w.length ≤ 9223372036854775807)]
theorem spec_SidesSample_go (P : List (List Int)) (L : List Int) (w : List S42) (h16 : P.length ≤ 16) (hL : L.length ≤ 16) (hw : w.length ≤ 9) (hl : ∀ x ∈ P, ∀ y ∈ w, y.f0.length ≤ maxLen ∧ y.f0.length ≤ x.length) : Ev (fun k => spec_SidesSample.j0 k w false P L) (P.map (sidesRow w), L, true) := by
  refine Ev.step' (f := fun k => spec_SidesSample.l0 k w 0 P L [] L) (fun k => by simp only [spec_SidesSample.j0, Bool.false_eq_true, if_false, spec_l1Own_eq L (by omega), Option.bind_some]) ?_
  refine ev_list [] P (fun i (s : List (List Int)) k => spec_SidesSample.l0 k w i P L s L) (fun _ ys s => (s ++ ys.map (sidesRow w), L, true)) (fun i s => s.length = i) (fun s _ => ?_) (fun i x ys s hi hx hm hs ih => ?_) [] rfl
  · exact Ev.step' (f := fun _ => some (s, L, true)) (fun k => by simp only [spec_SidesSample.l0, if_neg (Int.lt_irrefl _)]) (by simpa using Ev.now _)
  · have c1 : (i : Int) < (P.length : Int) := by omega
    have c0 : 0 ≤ (i : Int) := by omega
    refine ev_eq (Ev.step' (f := fun k => spec_SidesSample.l1 k w i [] 0 P L s L) (fun k => by simp only [spec_SidesSample.l0, if_pos c1, if_pos c0, rdL1_nat, hx]) (spec_SidesSample_row P L w x i s hi (by unfold maxLen; omega) hx hs h16 hw (hl x hm) _ (ih (s ++ [sidesRow w x]) (by simp [hs])))) (by simp)
theorem spec_SidesSample_ev (P : List (List Int)) (L : List Int) (w : List S42) (h : P.length ≤ maxLen) (hi : ∀ x ∈ P, x.length ≤ maxLen) (hL : L.length ≤ maxLen) (hw : w.length ≤ maxLen) (hwi : ∀ y ∈ w, y.f0.length ≤ maxLen) : Ev (fun k => spec_SidesSample.f k P L w) (sidesM P L w) := by
  have no : Ev (fun k => spec_SidesSample.j0 k w true P L) ([], [], false) := Ev.step' (f := fun _ => some ([], [], false)) (fun k => by simp only [spec_SidesSample.j0, if_true]) (Ev.now _)
  refine Ev.bind (spec_l8Jury_ev w hw hwi) ?_
  unfold sidesM
  cases hj : juryB w with
  | false => simp only [Bool.false_and, Bool.false_eq_true, if_false]; exact no
  | true =>
    have ht := jury_tell hj
    have c2 : 0 < (w.length : Int) := by omega
    have e0 : rd_T42 w 0 = w.getD 0 z42 := rdT42_nat w 0
    have hm0 := getD_mem (xs := w) (i := 0) (by omega) z42
    simp only [if_true, Bool.true_and]
    by_cases c4 : w.length ≤ 4
    · simp only [if_neg (show ¬ (w.length : Int) > 4 by omega), decide_eq_true c4, Bool.true_and, if_pos c2, e0]
      refine Ev.bind (spec_l2Both_ev P L _ _ h hi hL (hwi _ hm0)) ?_
      cases hb : suitsB P L (w.getD 0 z42).f0 (w.getD 0 z42).f1 with
      | false => simp only [Bool.not_false, Bool.false_eq_true, if_false]; exact no
      | true =>
        have hs := suits_tell hb
        have h2 := sample_tell hs.1
        simp only [Bool.not_true, if_true]
        exact spec_SidesSample_go P L w h2.1 (by omega) (by omega) (fun x hx y hy => ⟨hwi y hy, by rw [ht.2 y hy, hs.2.2 x hx]; exact Nat.le_refl _⟩)
    · simp only [if_pos (show (w.length : Int) > 4 by omega), decide_eq_false c4, Bool.false_and, Bool.false_eq_true, if_false]
      exact no

theorem laws_toPlane_ev (l : List Int) (b : Int) (h : l.length ≤ 1048576) : Ev (fun k => laws_toPlane.f k l b) (l, b) := Ev.bind (laws_toIntS_ev l h) (Ev.now _)

def cvP (x : S37) : S42 := ⟨x.f0, x.f1⟩
theorem laws_toPlaneS_ev (l : List S37) (h : l.length ≤ 1048576) (hi : ∀ x ∈ l, x.f0.length ≤ 1048576) : Ev (fun k => laws_toPlaneS.f k l) (l.map cvP) := by
  have c0 : 0 ≤ (l.length : Int) := by omega
  have e : ∀ k, laws_toPlaneS.f k l = laws_toPlaneS.l0 k l (List.replicate l.length z42) 0 := fun k => by
    simp only [laws_toPlaneS.f, if_pos c0, Int.toNat_natCast]; rw [if_pos (by omega)]
  refine Ev.congr e ?_
  have hml : (l.map cvP).length = l.length := List.length_map _
  have hf := to_fold (L := fun i (s : List S42) k => laws_toPlaneS.l0 k l s i) (n := l.length) (f := fun i s => s.set i ((l.map cvP).getD i z42)) (fun i s => s = (l.map cvP).take i ++ List.replicate ((l.map cvP).length - i) z42) (fun i s hi2 hs => ⟨?_, ?_⟩) (List.replicate l.length z42) (by simp)
  · refine hf.1 _ (Ev.step' (f := fun _ => some (l.map cvP)) (fun k => ?_) (Ev.now _))
    have := hf.2
    rw [← hml, Nat.sub_self, List.take_length, List.replicate_zero, List.append_nil] at this
    show laws_toPlaneS.l0 (k + 1) l _ _ = _
    rw [← hml, this]
    simp only [laws_toPlaneS.l0, hml, if_neg (Int.lt_irrefl _)]
  · have c1 : (i : Int) < (l.length : Int) := by omega
    have c2 : (i : Int) < (s.length : Int) := by rw [hs, List.length_append, List.length_take, List.length_replicate]; omega
    have c3 : 0 ≤ (i : Int) := by omega
    have eg : (l.map cvP).getD i z42 = cvP (l.getD i z37) := by simp [List.getD_eq_getElem?_getD, hi2]
    refine (To.step (f := fun k => (laws_toPlane.f k (l.getD i z37).f0 (l.getD i z37).f1).bind fun b => laws_toPlaneS.l0 k l (s.set i ⟨b.1, b.2⟩) ((i + 1 : Nat) : Int)) (fun k => ?_)).trans ((To.bind (laws_toPlane_ev _ _ (hi _ (getD_mem hi2 z37)))).trans (To.congr fun k => ?_))
    · simp only [laws_toPlaneS.l0, if_pos c1, if_pos c2, if_pos c3, rdT37_nat, Int.toNat_natCast, wrap_succ hi2 (by omega : l.length ≤ 9223372036854775807)]
    · rw [eg]; rfl
  · show List.set s i _ = _
    rw [hs]; exact set_step (l.map cvP) z42 z42 i (by rw [hml]; exact hi2)

theorem impl_within_eq (x a b : Int) : impl_within.f x a b = some (inR a b x) := in_tells a b x

theorem impl_allWithin_ev (l : List Int) (a b : Int) (h : l.length ≤ maxLen) : Ev (fun k => impl_allWithin.f k l a b) (l.all (inR a b)) := by
  unfold maxLen at h
  rw [← range_all l (inR a b) 0]
  refine ev_all (L := fun i k => impl_allWithin.l0 k a b l (l.length : Int) i) (fun i hi hp => To.step fun k => ?_) (fun i hi hp => Ev.step' (f := fun _ => some false) (fun k => ?_) (Ev.now _)) (Ev.step' (f := fun _ => some true) (fun k => ?_) (Ev.now _))
  · have c1 : (i : Int) < (l.length : Int) := by omega
    have c0 : 0 ≤ (i : Int) := by omega
    simp only [impl_allWithin.l0, if_pos c1, if_pos c0, impl_within_eq, rd_nat, hp, Option.bind_some, if_true, wrap_succ hi h]
  · have c1 : (i : Int) < (l.length : Int) := by omega
    have c0 : 0 ≤ (i : Int) := by omega
    simp only [impl_allWithin.l0, if_pos c1, if_pos c0, impl_within_eq, rd_nat, hp, Option.bind_some, Bool.false_eq_true, if_false]
  · simp only [impl_allWithin.l0, if_neg (Int.lt_irrefl _)]

theorem impl_IsPoint_ev (l : List Int) (h : l.length ≤ maxLen) : Ev (fun k => impl_IsPoint.f k l) (pointB l) := by
  have e : ∀ k, impl_IsPoint.f k l = if inR 1 4 l.length = true then (impl_allWithin.f k l (-9) 9).bind (fun t => some t) else some false := fun k => by simp only [impl_IsPoint.f, impl_within_eq, Option.bind_some]
  refine Ev.congr e ?_
  unfold pointB
  cases inR 1 4 l.length with
  | false => exact Ev.now _
  | true =>
    simp only [if_true, Bool.true_and]
    exact Ev.bind (impl_allWithin_ev l (-9) 9 h) (Ev.now _)

theorem impl_isLabel_eq (x : Int) : impl_isLabel.f x = some (isLab x) := by
  unfold impl_isLabel.f isLab
  by_cases e : x = 1
  · rw [if_pos e]; simp [e]
  · rw [if_neg e, decide_eq_false e, Bool.false_or]; rfl

theorem impl_IsSample_ev (P : List (List Int)) (L : List Int) (h : P.length ≤ maxLen) (hi : ∀ x ∈ P, x.length ≤ maxLen) (hL : L.length ≤ maxLen) : Ev (fun k => impl_IsSample.f k P L) (sampleB P L) := by
  have h' : P.length ≤ 9223372036854775807 := h
  have no : Ev (fun k => impl_IsSample.j0 k true P L) false := Ev.step' (f := fun _ => some false) (fun k => by simp only [impl_IsSample.j0, if_true]) (Ev.now _)
  unfold sampleB impl_IsSample.f
  by_cases c : P.length ≤ 16
  · rw [decide_eq_true c, Bool.true_and]
    simp only [if_neg (show ¬ (P.length : Int) > 16 by omega)]
    by_cases c2 : L.length = P.length
    · rw [decide_eq_true c2, Bool.true_and, show ((L.length : Int) != (P.length : Int)) = false by rw [bne_eq_false_iff_eq]; omega, Bool.and_comm]
      refine Ev.step' (f := fun k => impl_IsSample.l0 k P (P.length : Int) 0 P L) (fun k => by simp only [impl_IsSample.j0, Bool.false_eq_true, if_false]) ?_
      refine ev_list [] P (fun i (_ : Unit) k => impl_IsSample.l0 k P (P.length : Int) i P L) (fun i ys _ => ys.all (ptB P) && (L.drop i).all isLab) (fun _ _ => True) (fun _ _ => ?_) (fun i x ys _ hi2 hx hm _ ih => ?_) () trivial
      · rw [← c2, List.drop_length]
        exact Ev.step' (f := fun _ => some true) (fun k => by simp only [impl_IsSample.l0, c2, if_neg (Int.lt_irrefl _)]) (Ev.now _)
      · have c1 : (i : Int) < (P.length : Int) := by omega
        have c3 : (i : Int) < (L.length : Int) := by omega
        have c0 : 0 ≤ (i : Int) := by omega
        have cp : 0 < (P.length : Int) := by omega
        have hil : i < L.length := by omega
        rw [List.all_cons, List.drop_eq_getElem_cons hil, List.all_cons]
        unfold ptB
        refine Ev.step' (f := fun k => (impl_IsPoint.f k x).bind fun t => if t = true then (if (x.length : Int) = ((P.getD 0 []).length : Int) then (if isLab L[i] = true then impl_IsSample.l0 k P (P.length : Int) ((i + 1 : Nat) : Int) P L else some false) else some false) else some false) (fun k => by simp only [impl_IsSample.l0, if_pos c1, if_pos c0, if_pos c3, if_pos cp, rdL1_nat, rd_nat, hx, impl_isLabel_eq, Option.bind_some, wrap_succ hi2 h', List.getD_eq_getElem?_getD, List.getElem?_eq_getElem hil, Option.getD_some] <;> rfl) ?_
        refine Ev.bind (impl_IsPoint_ev x (hi x hm)) ?_
        cases pointB x with
        | false => exact Ev.now _
        | true =>
          simp only [if_true, Bool.true_and]
          by_cases c5 : x.length = (P.getD 0 []).length
          · rw [decide_eq_true c5, Bool.true_and]
            simp only [if_pos (show (x.length : Int) = ((P.getD 0 []).length : Int) by omega)]
            cases isLab L[i] with
            | false => simp only [Bool.false_and, Bool.and_false]; exact Ev.now _
            | true => simp only [if_true, Bool.true_and]; exact ih () trivial
          · rw [decide_eq_false c5, Bool.false_and, Bool.false_and]
            simp only [if_neg (show ¬ (x.length : Int) = ((P.getD 0 []).length : Int) by omega)]
            exact Ev.now _
    · rw [decide_eq_false c2, Bool.false_and, show ((L.length : Int) != (P.length : Int)) = true by rw [bne_iff_ne]; omega]
      exact no
  · rw [decide_eq_false c, Bool.false_and]
    simp only [if_pos (show (P.length : Int) > 16 by omega)]
    exact no

theorem impl_IsPlane_ev (l : List Int) (b : Int) (h : l.length ≤ maxLen) : Ev (fun k => impl_IsPlane.f k l b) (planeB l b) := by
  have e : ∀ k, impl_IsPlane.f k l b = if inR 1 4 l.length = true then (impl_allWithin.f k l (-99) 99).bind (fun t => if t = true then some (inR (-99) 99 b) else some false) else some false := fun k => by
    simp only [impl_IsPlane.f, impl_within_eq, Option.bind_some]
  refine Ev.congr e ?_
  unfold planeB
  cases inR 1 4 l.length with
  | false => exact Ev.now _
  | true =>
    simp only [if_true, Bool.true_and]
    refine Ev.bind (impl_allWithin_ev l (-99) 99 h) ?_
    cases l.all (inR (-99) 99) with
    | false => exact Ev.now _
    | true => exact Ev.now _

theorem impl_suits_ev (P : List (List Int)) (L w : List Int) (b : Int) (h : P.length ≤ maxLen) (hi : ∀ x ∈ P, x.length ≤ maxLen) (hL : L.length ≤ maxLen) (hw : w.length ≤ maxLen) : Ev (fun k => impl_suits.f k P L w b) (suitsB P L w b) := by
  unfold suitsB
  refine Ev.bind (impl_IsSample_ev P L h hi hL) ?_
  cases sampleB P L with
  | false => exact Ev.now _
  | true =>
    simp only [if_true, Bool.true_and]
    refine Ev.bind (impl_IsPlane_ev w b hw) ?_
    cases planeB w b with
    | false => exact Ev.now _
    | true =>
      simp only [if_true, Bool.true_and]
      by_cases c0 : P.length = 0
      · simp only [if_pos (show (P.length : Int) = 0 by omega), decide_eq_true c0, Bool.true_or]; exact Ev.now _
      · have rd0 := rdL1_nat P 0
        simp only [Int.natCast_zero] at rd0
        simp only [if_neg (show ¬ (P.length : Int) = 0 by omega), if_pos (show 0 < (P.length : Int) by omega), decide_eq_false c0, Bool.false_or, rd0]
        exact Ev.now _

theorem impl_isJury_ev (w : List S42) (h : w.length ≤ maxLen) (hi : ∀ x ∈ w, x.f0.length ≤ maxLen) : Ev (fun k => impl_isJury.f k w) (juryB w) := by
  have h' : w.length ≤ 9223372036854775807 := h
  unfold juryB
  refine ev_list z42 w (fun i (_ : Unit) k => impl_isJury.l0 k w w (w.length : Int) i) (fun _ ys _ => ys.all (fun x => planeB x.f0 x.f1 && decide (x.f0.length = (w.getD 0 z42).f0.length)) && inR 1 9 w.length) (fun _ _ => True) (fun _ _ => ?_) (fun i x ys _ hi2 hx hm _ ih => ?_) () trivial
  · exact Ev.step' (f := fun _ => some _) (fun k => by simp only [impl_isJury.l0, if_neg (Int.lt_irrefl _), impl_within_eq, Option.bind_some] <;> rfl) (Ev.now _)
  · have c1 : (i : Int) < (w.length : Int) := by omega
    have c0 : 0 ≤ (i : Int) := by omega
    have c2 : 0 < (w.length : Int) := by omega
    have e0 : rd_T42 w 0 = w.getD 0 z42 := rdT42_nat w 0
    rw [List.all_cons, Bool.and_assoc, Bool.and_assoc]
    refine Ev.step' (f := fun k => (impl_IsPlane.f k x.f0 x.f1).bind fun t => if t = true then (if (x.f0.length : Int) = ((w.getD 0 z42).f0.length : Int) then impl_isJury.l0 k w w (w.length : Int) ((i + 1 : Nat) : Int) else some false) else some false) (fun k => by simp only [impl_isJury.l0, if_pos c1, if_pos c0, if_pos c2, e0, rdT42_nat, hx, wrap_succ hi2 h']) (Ev.bind (impl_IsPlane_ev x.f0 x.f1 (hi x hm)) ?_)
    cases planeB x.f0 x.f1 with
    | false => simp only [Bool.false_and, Bool.false_eq_true, if_false]; exact Ev.now _
    | true =>
      simp only [if_true, Bool.true_and]
      by_cases c : x.f0.length = (w.getD 0 z42).f0.length
      · simp only [if_pos (show (x.f0.length : Int) = ((w.getD 0 z42).f0.length : Int) by omega), decide_eq_true c, Bool.true_and]
        exact ih () trivial
      · simp only [if_neg (show ¬ (x.f0.length : Int) = ((w.getD 0 z42).f0.length : Int) by omega), decide_eq_false c, Bool.false_and]
        exact Ev.now _

theorem impl_copied_eq (l : List Int) (h : l.length ≤ 1000) : impl_copied.f l = some l := by
  have c : ([] : List Int).length + l.length < 17592186044416 := by rw [List.length_nil]; omega
  simp only [impl_copied.f, Option.bind_some, if_pos c, List.nil_append]

theorem impl_product_ev (a b : List Int) (h : a.length ≤ maxLen) (hb : a.length ≤ b.length) : Ev (fun k => impl_product.f k a b) (dotW a b) := by
  unfold maxLen at h
  have hf := to_fold (L := fun i (s : Int) k => impl_product.l0 k b s a (a.length : Int) i) (n := a.length) (f := fun i s => wrap64 (s + wrap64 (a.getD i 0 * b.getD i 0))) (fun _ _ => True) (fun i s hi _ => ⟨To.step fun k => ?_, trivial⟩) 0 trivial
  · refine hf.1 _ (Ev.step' (f := fun _ => some _) (fun k => ?_) (Ev.now _))
    simp only [impl_product.l0, if_neg (Int.lt_irrefl _)]; rfl
  · have c1 : (i : Int) < (a.length : Int) := by omega
    have c2 : (i : Int) < (b.length : Int) := by omega
    have c3 : 0 ≤ (i : Int) := by omega
    simp only [impl_product.l0, if_pos c1, if_pos c2, if_pos c3, rd_nat, wrap_succ hi h]

theorem impl_Plane_side_ev (w : List Int) (b : Int) (x : List Int) (hw : w.length ≤ maxLen) (hx : w.length ≤ x.length) : Ev (fun k => impl_Plane_side.f k w b x) (sideW w b x) := by
  refine Ev.bind (impl_product_ev w x hw hx) ?_
  unfold sideW
  by_cases c : dotW w x ≥ b
  · simp only [if_pos c]; exact Ev.now _
  · simp only [if_neg c]; exact Ev.now _

theorem impl_SidesSample_row (P : List (List Int)) (L : List Int) (w : List S42) (x : List Int) (i : Nat) (s : List (List Int)) (hi : i < P.length) (h : P.length ≤ maxLen) (hx : P.getD i [] = x) (hs : s.length = i) (h16 : P.length ≤ 16) (hw : w.length ≤ 9) (hl : ∀ y ∈ w, y.f0.length ≤ maxLen ∧ y.f0.length ≤ x.length) :
    To (fun k => impl_SidesSample.l1 k w x [] P (P.length : Int) i w (w.length : Int) 0 s L) (fun k => impl_SidesSample.l0 k w P (P.length : Int) ((i + 1 : Nat) : Int) (s ++ [sidesRow w x]) L) := by
  have hf := to_fold (L := fun j (t : List Int) k => impl_SidesSample.l1 k w x t P (P.length : Int) i w (w.length : Int) j s L) (n := w.length) (f := fun j t => t ++ [sideW (w.getD j z42).f0 (w.getD j z42).f1 x]) (fun j t => t.length = j) (fun j t hj ht => ⟨?_, by simp [ht]⟩) [] rfl
  · refine hf.1.trans (To.step fun k => ?_)
    have c0 : 0 ≤ (i : Int) := by omega
    have c1 : (i : Int) < (P.length : Int) := by omega
    have c5 : s.length < 5864062014805 := by omega
    rw [fold_append, List.nil_append, range_map w (fun y => sideW y.f0 y.f1 x) z42]
    simp only [impl_SidesSample.l1, if_neg (Int.lt_irrefl _), if_pos c5, wrap_succ hi (by omega : P.length ≤ 9223372036854775807)]
    rfl
  · have c0 : 0 ≤ (i : Int) := by omega
    have c1 : (i : Int) < (P.length : Int) := by omega
    have c2 : (j : Int) < (w.length : Int) := by omega
    have c3 : 0 ≤ (j : Int) := by omega
    have c4 : t.length < 17592186044416 := by omega
    have hm := hl _ (getD_mem hj z42)
    refine (To.step (f := fun k => (impl_Plane_side.f k (w.getD j z42).f0 (w.getD j z42).f1 x).bind fun u => impl_SidesSample.l1 k w x (t ++ [u]) P (P.length : Int) i w (w.length : Int) ((j + 1 : Nat) : Int) s L) fun k => ?_).trans (To.bind (impl_Plane_side_ev _ _ x hm.1 hm.2))
    simp only [impl_SidesSample.l1, if_pos c0, if_pos c1, if_pos c2, if_pos c3, if_pos c4, rdL1_nat, rdT42_nat, hx, wrap_succ hj (by omega : w.length ≤ 9223372036854775807)]
theorem impl_SidesSample_go (P : List (List Int)) (L : List Int) (w : List S42) (h16 : P.length ≤ 16) (hL : L.length ≤ 16) (hw : w.length ≤ 9) (hl : ∀ x ∈ P, ∀ y ∈ w, y.f0.length ≤ maxLen ∧ y.f0.length ≤ x.length) : Ev (fun k => impl_SidesSample.j0 k w false P L) (P.map (sidesRow w), L, true) := by
  refine Ev.step' (f := fun k => impl_SidesSample.l0 k w P (P.length : Int) 0 [] L) (fun k => by simp only [impl_SidesSample.j0, Bool.false_eq_true, if_false, impl_copied_eq L (by omega), Option.bind_some]) ?_
  refine ev_list [] P (fun i (s : List (List Int)) k => impl_SidesSample.l0 k w P (P.length : Int) i s L) (fun _ ys s => (s ++ ys.map (sidesRow w), L, true)) (fun i s => s.length = i) (fun s _ => ?_) (fun i x ys s hi hx hm hs ih => ?_) [] rfl
  · exact Ev.step' (f := fun _ => some (s, L, true)) (fun k => by simp only [impl_SidesSample.l0, if_neg (Int.lt_irrefl _)]) (by simpa using Ev.now _)
  · have c1 : (i : Int) < (P.length : Int) := by omega
    have c0 : 0 ≤ (i : Int) := by omega
    refine ev_eq (Ev.step' (f := fun k => impl_SidesSample.l1 k w x [] P (P.length : Int) i w (w.length : Int) 0 s L) (fun k => by simp only [impl_SidesSample.l0, if_pos c1, if_pos c0, rdL1_nat, hx]) (impl_SidesSample_row P L w x i s hi (by unfold maxLen; omega) hx hs h16 hw (hl x hm) _ (ih (s ++ [sidesRow w x]) (by simp [hs])))) (by simp)
theorem impl_SidesSample_ev (P : List (List Int)) (L : List Int) (w : List S42) (h : P.length ≤ maxLen) (hi : ∀ x ∈ P, x.length ≤ maxLen) (hL : L.length ≤ maxLen) (hw : w.length ≤ maxLen) (hwi : ∀ y ∈ w, y.f0.length ≤ maxLen) : Ev (fun k => impl_SidesSample.f k P L w) (sidesM P L w) := by
  have no : Ev (fun k => impl_SidesSample.j0 k w true P L) ([], [], false) := Ev.step' (f := fun _ => some ([], [], false)) (fun k => by simp only [impl_SidesSample.j0, if_true]) (Ev.now _)
  refine Ev.bind (impl_isJury_ev w hw hwi) ?_
  unfold sidesM
  cases hj : juryB w with
  | false => simp only [Bool.false_and, Bool.false_eq_true, if_false]; exact no
  | true =>
    have ht := jury_tell hj
    have c2 : 0 < (w.length : Int) := by omega
    have e0 : rd_T42 w 0 = w.getD 0 z42 := rdT42_nat w 0
    have hm0 := getD_mem (xs := w) (i := 0) (by omega) z42
    simp only [if_true, Bool.true_and]
    by_cases c4 : w.length ≤ 4
    · simp only [if_neg (show ¬ (w.length : Int) > 4 by omega), decide_eq_true c4, Bool.true_and, if_pos c2, e0]
      refine Ev.bind (impl_suits_ev P L _ _ h hi hL (hwi _ hm0)) ?_
      cases hb : suitsB P L (w.getD 0 z42).f0 (w.getD 0 z42).f1 with
      | false => simp only [Bool.not_false, Bool.false_eq_true, if_false]; exact no
      | true =>
        have hs := suits_tell hb
        have h2 := sample_tell hs.1
        simp only [Bool.not_true, if_true]
        exact impl_SidesSample_go P L w h2.1 (by omega) (by omega) (fun x hx y hy => ⟨hwi y hy, by rw [ht.2 y hy, hs.2.2 x hx]; exact Nat.le_refl _⟩)
    · simp only [if_pos (show (w.length : Int) > 4 by omega), decide_eq_false c4, Bool.false_and, Bool.false_eq_true, if_false]
      exact no

theorem laws_eqPlane_ev (l : List Int) (b : Int) (h : l.length ≤ maxLen) : Ev (fun k => laws_eqPlane.f k l b l b) true := Ev.bind (laws_eqIntS_ev l h) (Ev.congr (f := fun _ => some true) (fun k => by simp only [if_true]) (Ev.now _))

theorem laws_eqPlaneS_ev (l : List S42) (h : l.length ≤ maxLen) (hi : ∀ x ∈ l, x.f0.length ≤ maxLen) : Ev (fun k => laws_eqPlaneS.f k l l) true := by
  have h' : l.length ≤ 9223372036854775807 := h
  refine Ev.congr (f := fun k => laws_eqPlaneS.l0 k l l 0) (fun k => by simp only [laws_eqPlaneS.f, if_true]) ?_
  refine ev_yes (L := fun i k => laws_eqPlaneS.l0 k l l i) (n := l.length) (fun i hi2 => ?_) (Ev.step' (f := fun _ => some true) (fun k => ?_) (Ev.now _))
  · have c1 : (i : Int) < (l.length : Int) := by omega
    have c0 : 0 ≤ (i : Int) := by omega
    refine (To.step (f := fun k => (laws_eqPlane.f k (l.getD i z42).f0 (l.getD i z42).f1 (l.getD i z42).f0 (l.getD i z42).f1).bind fun t => if t = true then laws_eqPlaneS.l0 k l l ((i + 1 : Nat) : Int) else some false) (fun k => ?_)).trans ((To.bind (laws_eqPlane_ev _ _ (hi _ (getD_mem hi2 z42)))).trans (To.congr fun k => by simp only [if_true]))
    simp only [laws_eqPlaneS.l0, if_pos c1, if_pos c0, rdT42_nat, wrap_succ hi2 h']
  · simp only [laws_eqPlaneS.l0, if_neg (Int.lt_irrefl _)]

theorem laws_heldIntS_ev (l : List Int) (a : Int) (h0 : 0 ≤ a) (h1 : a + l.length ≤ 1000000000000) : Ev (fun k => laws_heldIntS.f k (iota a l) a) (a + l.length) := by
  have e := ev_held (0 : Int) (fun _ => 1) (fun a _ => a) l 1000000000000 (L := fun b i k => laws_heldIntS.l0 k (iota a l) b i) a (fun b i x hi hx hm ha hb => To.step fun k => by
    have c1 : (i : Int) < ((iota a l).length : Int) := by rw [iota_len]; omega
    have c3 : 0 ≤ (i : Int) := by omega
    have c4 : (iota a l).getD i 0 = b := hx
    have e : wrap64 (b + 1) = b + ((1 : Nat) : Int) := wrap_id (by omega) (by simpa using (by omega : b + 1 ≤ 9223372036854775807))
    simp only [laws_heldIntS.l0, if_pos c1, if_pos c3, rd_nat, if_pos c4, wrap_succ (i := i) (n := l.length) hi (by omega), e]) (fun b => Ev.step' (f := fun _ => some b) (fun k => by
    simp only [laws_heldIntS.l0, iota_len, if_neg (Int.lt_irrefl _)]) (Ev.now _)) h0 (by rw [sumN_one]; exact h1)
  rw [sumN_one] at e
  exact e

theorem laws_heldIntSS_ev (P : List (List Int)) (a : Int) (h0 : 0 ≤ a) (h1 : a + sumN List.length P ≤ 1000000000000) (hP : P.length ≤ 1000000000000) : Ev (fun k => laws_heldIntSS.f k (iota2 a P) a) (a + sumN List.length P) := by
  have hlen : (iota2 a P).length = P.length := markL_len _ _ _ _
  refine ev_held ([] : List Int) List.length iota P 1000000000000 (L := fun b i k => laws_heldIntSS.l0 k (iota2 a P) b i) a (fun b i x hi hx hm ha hb r hr => ?_) (fun b => Ev.step' (f := fun _ => some b) (fun k => by simp only [laws_heldIntSS.l0, hlen, if_neg (Int.lt_irrefl _)]) (Ev.now _)) h0 h1
  have c1 : (i : Int) < ((iota2 a P).length : Int) := by rw [hlen]; omega
  have c3 : 0 ≤ (i : Int) := by omega
  have hg : (iota2 a P).getD i [] = iota b x := hx
  refine Ev.step' (f := fun k => (laws_heldIntS.f k (iota b x) b).bind fun t => if t < 0 then some (-1) else laws_heldIntSS.l0 k (iota2 a P) t ((i + 1 : Nat) : Int)) (fun k => by
    simp only [laws_heldIntSS.l0, if_pos c1, if_pos c3, rdL1_nat, hg, wrap_succ hi (by omega : P.length ≤ 9223372036854775807)]) (Ev.bind (laws_heldIntS_ev x b ha hb) ?_)
  simp only [if_neg (show ¬ b + (x.length : Int) < 0 by omega)]
  exact hr

theorem laws_heldSample_ev (P : List (List Int)) (L : List Int) (a : Int) (h0 : 0 ≤ a) (h1 : a + sumN List.length P + L.length ≤ 1000000000000) (hP : P.length ≤ 1000000000000) : Ev (fun k => laws_heldSample.f k (iota2 a P) (iota (a + sumN List.length P) L) a) (a + sumN List.length P + L.length) := by
  refine Ev.bind (laws_heldIntSS_ev P a h0 (by omega) hP) ?_
  simp only [if_neg (show ¬ a + (sumN List.length P : Int) < 0 by omega)]
  refine Ev.bind (laws_heldIntS_ev L (a + sumN List.length P) (by omega) h1) ?_
  simp only [if_neg (show ¬ a + (sumN List.length P : Int) + (L.length : Int) < 0 by omega)]
  exact Ev.now _

theorem rdR_nat {α : Type} (xs : List (List α)) (i : Nat) : rdR xs (i : Int) = xs.getD i [] := by simp [rdR]
theorem laws_markIntSS_ev (P : List (List Int)) (a : Int) (h0 : 0 ≤ a) (h1 : a + sumN List.length P ≤ 1000000000000) (hP : P.length ≤ 1000000000000) : Ev (fun k => laws_markIntSS.f k P a) (a + sumN List.length P, iota2 a P) :=
  ev_mark ([] : List Int) List.length iota P 1000000000000 (L := fun ys a i k => laws_markIntSS.l0 k ys a i) (fun ys a i x hi hl hx hm ha hb r hr => by
    refine Ev.step' (f := fun k => (laws_markIntS.f k x a).bind fun b => laws_markIntSS.l0 k (ys.set i b.2) b.1 ((i + 1 : Nat) : Int)) (fun k => ?_) (Ev.bind (laws_markIntS_ev x a ha hb) hr)
    have c1 : (i : Int) < (ys.length : Int) := by omega
    have c3 : 0 ≤ (i : Int) := by omega
    simp only [laws_markIntSS.l0, if_pos c1, if_pos c3, Int.toNat_natCast, rdR_nat, hx, wrap_succ (i := i) (n := ys.length) (by omega) (by omega)]) (fun ys a hl => Ev.step' (f := fun _ => some (a, ys)) (fun k => by
    simp only [laws_markIntSS.l0, hl, if_neg (Int.lt_irrefl _)]) (Ev.now _)) a h0 h1

theorem laws_markSample_ev (P : List (List Int)) (L : List Int) (a : Int) (h0 : 0 ≤ a) (h1 : a + sumN List.length P + L.length ≤ 1000000000000) (hP : P.length ≤ 1000000000000) : Ev (fun k => laws_markSample.f k P L a) (a + sumN List.length P + L.length, iota2 a P, iota (a + sumN List.length P) L) :=
  Ev.bind (laws_markIntSS_ev P a h0 (by omega) hP) (Ev.bind (laws_markIntS_ev L (a + sumN List.length P) (by omega) h1) (Ev.now _))

def markP (a : Int) (x : S42) : S42 := ⟨iota a x.f0, a + x.f0.length⟩
theorem laws_markPlaneS_ev (l : List S42) (a : Int) (h0 : 0 ≤ a) (h1 : a + sumN (fun x : S42 => x.f0.length + 1) l ≤ 1000000000000) (hl : l.length ≤ 1000000000000) : Ev (fun k => laws_markPlaneS.f k l a) (a + sumN (fun x : S42 => x.f0.length + 1) l, markL (fun x : S42 => x.f0.length + 1) markP a l) :=
  ev_mark z42 (fun x : S42 => x.f0.length + 1) markP l 1000000000000 (L := fun ys a i k => laws_markPlaneS.l0 k ys a i) (fun ys a i x hi hl hx hm ha hb r hr => by
    have hb2 : a + (x.f0.length : Int) ≤ 1000000000000 := by have : ((x.f0.length + 1 : Nat) : Int) = (x.f0.length : Int) + 1 := by omega
                                                             omega
    refine Ev.step' (f := fun k => (laws_markIntS.f k x.f0 a).bind fun b => laws_markPlaneS.l0 k (ys.set i ⟨b.2, b.1⟩) (wrap64 (b.1 + 1)) ((i + 1 : Nat) : Int)) (fun k => ?_) (Ev.bind (laws_markIntS_ev x.f0 a ha hb2) ?_)
    · have c1 : (i : Int) < (ys.length : Int) := by omega
      have c3 : 0 ≤ (i : Int) := by omega
      simp only [laws_markPlaneS.l0, if_pos c1, if_pos c3, Int.toNat_natCast, rdT42_nat, hx, wrap_succ (i := i) (n := ys.length) (by omega) (by omega)]
    · have e : wrap64 (a + (x.f0.length : Int) + 1) = a + ((x.f0.length + 1 : Nat) : Int) := by rw [wrap_id (by omega) (by omega)]; omega
      simp only [e]
      exact hr) (fun ys a hl => Ev.step' (f := fun _ => some (a, ys)) (fun k => by
    simp only [laws_markPlaneS.l0, hl, if_neg (Int.lt_irrefl _)]) (Ev.now _)) a h0 h1
theorem sum_succ : ∀ l : List S37, sumN (fun x : S42 => x.f0.length + 1) (l.map cvP) = szP l
  | [] => rfl
  | x :: l => by
    have := sum_succ l
    unfold szP at this ⊢
    simp only [List.map_cons, sumN, List.length_cons, this]
    show (x.f0.length + 1) + _ = _
    omega

theorem sides_sum (w : List S42) : ∀ P : List (List Int), sumN List.length (P.map (sidesRow w)) = P.length * w.length
  | [] => by simp [sumN]
  | x :: P => by
    simp only [List.map_cons, sumN, sides_sum w P, List.length_cons, Nat.succ_mul]
    have : (sidesRow w x).length = w.length := List.length_map _
    omega
theorem sides_small (P : List (List Int)) (L : List Int) (w : List S42) : (sidesM P L w).1.length ≤ 16 ∧ sumN List.length (sidesM P L w).1 ≤ 64 ∧ (sidesM P L w).2.1.length ≤ 16 ∧ ∀ x ∈ (sidesM P L w).1, x.length ≤ 64 := by
  have main : (sidesM P L w).1.length ≤ 16 ∧ sumN List.length (sidesM P L w).1 ≤ 64 ∧ (sidesM P L w).2.1.length ≤ 16 := by
    unfold sidesM
    split
    · next hc =>
      simp only [Bool.and_eq_true, decide_eq_true_eq] at hc
      have hs := sample_tell (suits_tell hc.2.2).1
      refine ⟨by rw [List.length_map]; exact hs.1, ?_, by show L.length ≤ 16; omega⟩
      show sumN List.length (P.map (sidesRow w)) ≤ 64
      rw [sides_sum]
      exact Nat.mul_le_mul hs.1 hc.2.1
    · exact ⟨Nat.zero_le _, Nat.zero_le _, Nat.zero_le _⟩
  exact ⟨main.1, main.2.1, main.2.2, fun x hx => Nat.le_trans (sumN_mem List.length hx) main.2.1⟩
theorem pure : SFnExactSidesSample.Pure := by
  intro P L w ⟨h, hi0⟩ ⟨hL, _⟩ ⟨hw, hw0⟩
  have hi : ∀ x ∈ P, x.length ≤ maxLen := fun x hx => (hi0 x hx).1
  have hwi : ∀ y ∈ w, y.f0.length ≤ maxLen := fun y hy => (hw0 y hy).1.1
  obtain ⟨K1, k1⟩ := laws_szSample_ev P L 1048576 h hi hL (by omega) (by omega)
  by_cases cn : lft 1048576 (sz2 P + L.length) < 0
  · exact .inl ⟨K1, _, k1 K1 (by omega), cn⟩
  · have d := lft_nonneg (Int.not_lt.1 cn)
    have hs := sz2_small (l := P) (n := 1048576) (by omega)
    have hsum : sumN List.length P ≤ 1048576 := by unfold sz2 at d; omega
    obtain ⟨K2, k2⟩ := laws_szPlaneS_ev w (lft 1048576 (sz2 P + L.length)) hw hwi (Int.not_lt.1 cn) (by omega)
    by_cases cn2 : lft (lft 1048576 (sz2 P + L.length)) (szP w) < 0
    · exact .inr (.inl ⟨K1 + K2, _, _, k1 _ (by omega), k2 _ (by omega), Int.not_lt.1 cn, cn2⟩)
    · have d2 := lft_nonneg (Int.not_lt.1 cn2)
      have hs2 := szP_small (l := w) (n := 1048576) (by omega)
      have hm : (w.map cvP).length ≤ maxLen := by rw [List.length_map]; exact hw
      have hmi : ∀ y ∈ w.map cvP, y.f0.length ≤ maxLen := fun y hy => by
        obtain ⟨z, hz, rfl⟩ := List.mem_map.1 hy
        exact hwi z hz
      have hsm := sides_small P L (w.map cvP)
      have hsz := sum_succ w
      have hml : (w.map cvP).length = w.length := List.length_map _
      obtain ⟨K3, k3⟩ := laws_toSample_ev P L hs.1 hs.2 (by omega)
      obtain ⟨K4, k4⟩ := laws_toPlaneS_ev w hs2.1 hs2.2
      obtain ⟨K5, k5⟩ := spec_SidesSample_ev P L (w.map cvP) h hi hL hm hmi
      obtain ⟨K6, k6⟩ := impl_SidesSample_ev P L (w.map cvP) h hi hL hm hmi
      obtain ⟨K7, k7⟩ := laws_eqSample_ev (sidesM P L (w.map cvP)).1 (sidesM P L (w.map cvP)).2.1 (by unfold maxLen; omega) (fun x hx => by have := hsm.2.2.2 x hx; unfold maxLen; omega) (by unfold maxLen; omega)
      obtain ⟨K8, k8⟩ := laws_eqSample_ev P L h hi hL
      obtain ⟨K9, k9⟩ := laws_eqPlaneS_ev (w.map cvP) hm hmi
      obtain ⟨K10, k10⟩ := laws_markSample_ev P L 1 (by omega) (by omega) (by omega)
      obtain ⟨K11, k11⟩ := laws_markPlaneS_ev (w.map cvP) (1 + sumN List.length P + L.length) (by omega) (by rw [hsz]; omega) (by rw [hml]; omega)
      obtain ⟨K12, k12⟩ := laws_markSample_ev (sidesM P L (w.map cvP)).1 (sidesM P L (w.map cvP)).2.1 1 (by omega) (by omega) (by omega)
      obtain ⟨K13, k13⟩ := laws_heldSample_ev (sidesM P L (w.map cvP)).1 (sidesM P L (w.map cvP)).2.1 1 (by omega) (by omega) (by omega)
      let K := K1 + K2 + K3 + K4 + K5 + K6 + K7 + K8 + K9 + K10 + K11 + K12 + K13
      exact .inr (.inr ⟨K, _, _, _, _, _, (sidesM P L (w.map cvP)).1, (sidesM P L (w.map cvP)).2.1, (sidesM P L (w.map cvP)).2.2, _, _, _, _, _, _, _, _, k1 K (by omega), k2 K (by omega), k3 K (by omega), k4 K (by omega), k5 K (by omega), k6 K (by omega), k7 K (by omega), k8 K (by omega), k9 K (by omega), k10 K (by omega), k11 K (by omega), k12 K (by omega), k13 K (by omega), Int.not_lt.1 cn, Int.not_lt.1 cn2, by omega, by omega, by omega⟩)
end Go.Proofs.Ytniebbjbihenfaa.QFnExactSidesSample
