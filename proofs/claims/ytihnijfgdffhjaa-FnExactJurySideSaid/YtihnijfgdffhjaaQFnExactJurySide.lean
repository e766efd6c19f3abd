/- FnExactJurySide: what its calls come to, shown of numbers and lists alone. -/
import Derived.Test.YtihnijfgdffhjaaSFnExactJurySide
import Derived.Test.YtihnijfgdffhjaaPm
namespace Go.Proofs.Ytihnijfgdffhjaa.QFnExactJurySide
open Go.RowKit  Go.Proofs.Ytihnijfgdffhjaa.Lb Go.Proofs.Ytihnijfgdffhjaa.Pm Go.Proofs.Ytihnijfgdffhjaa.PFnExactJurySide Go.Proofs.YtihnijfgdffhjaaW.PrintWords Go.Proofs.YtihnijfgdffhjaaW.PrintLast Go.Proofs.YtihnijfgdffhjaaW.PrintMore
set_option linter.unusedVariables false
set_option linter.unusedSimpArgs false
theorem rdL1_nat (xs : List (List Int)) (i : Nat) : rd_L1 xs (i : Int) = xs.getD i [] := by simp [rd_L1]

theorem rdT30_nat (xs : List S30) (i : Nat) : rd_T30 xs (i : Int) = xs.getD i z30 := by simp [rd_T30]

theorem rdT33_nat (xs : List S33) (i : Nat) : rd_T33 xs (i : Int) = xs.getD i z33 := by simp [rd_T33]

theorem laws_szIntS_eq (l : List Int) (a : Int) (h : l.length ≤ maxLen) (h0 : 0 ≤ a) (h1 : a ≤ 1048576) : laws_szIntS.f l a = some (lft a l.length) := by
  unfold maxLen at h
  have hw : wrap64 (a - (l.length : Int)) = a - l.length := wrap_id (by omega) (by omega)
  unfold laws_szIntS.f lft
  rw [hw]
  by_cases c : (l.length : Int) ≤ a
  · rw [if_neg (by omega), if_pos c]
  · rw [if_pos (by omega), if_neg c]

theorem laws_szPlane_eq (l : List Int) (b a : Int) (h : l.length ≤ maxLen) (h0 : 0 ≤ a) (h1 : a ≤ 1048576) : laws_szPlane.f l b a = some (lft a l.length) := by
  unfold laws_szPlane.f
  rw [laws_szIntS_eq l a h h0 h1]
  simp only [Option.bind_some]
  by_cases c : lft a l.length < 0
  · rw [if_pos c, lft_neg c]
  · rw [if_neg c]

def szP (l : List S30) : Nat := l.length + sumN (fun x : S30 => x.f0.length) l
theorem szP_small {l : List S30} {n : Nat} (h : szP l ≤ n) : l.length ≤ n ∧ ∀ x ∈ l, x.f0.length ≤ n := by
  unfold szP at h
  exact ⟨by omega, fun x hx => by have := sumN_mem (fun x : S30 => x.f0.length) hx; omega⟩
theorem laws_szPlaneS_ev (l : List S30) (a : Int) (h : l.length ≤ maxLen) (hi : ∀ x ∈ l, x.f0.length ≤ maxLen) (h0 : 0 ≤ a) (h1 : a ≤ 1048576) : Ev (fun k => laws_szPlaneS.f k l a) (lft a (szP l)) := by
  have h' : l.length ≤ 9223372036854775807 := h
  unfold szP laws_szPlaneS.f
  rw [← lft_add a _ _ h0]
  have hw : wrap64 (a - (l.length : Int)) = a - l.length := wrap_id (by omega) (by omega)
  rw [hw]
  by_cases c : (l.length : Int) ≤ a
  · have e : lft a l.length = a - l.length := by unfold lft; rw [if_pos c]
    rw [e]
    simp only [if_neg (show ¬ a - (l.length : Int) < 0 by omega)]
    refine ev_sz z30 (fun x : S30 => x.f0.length) l (L := fun a i k => laws_szPlaneS.l0 k l a i) (fun i a hi2 h0 h1 hn => ?_) (fun i a hi2 h0 h1 hn => ?_) (fun a => Ev.step' (f := fun _ => some a) (fun k => by simp only [laws_szPlaneS.l0, if_neg (Int.lt_irrefl _)]) (Ev.now _)) _ (by omega) (by omega)
    · have c1 : (i : Int) < (l.length : Int) := by omega
      have c0 : 0 ≤ (i : Int) := by omega
      refine To.step (fun k => ?_)
      simp only [laws_szPlaneS.l0, if_pos c1, if_pos c0, rdT30_nat, laws_szPlane_eq _ _ a (hi _ (getD_mem hi2 z30)) h0 h1, Option.bind_some, if_neg (show ¬ lft a (l.getD i z30).f0.length < 0 by omega), wrap_succ hi2 h']
    · have c1 : (i : Int) < (l.length : Int) := by omega
      have c0 : 0 ≤ (i : Int) := by omega
      refine Ev.step' (f := fun _ => some (-1)) (fun k => ?_) (Ev.now _)
      simp only [laws_szPlaneS.l0, if_pos c1, if_pos c0, rdT30_nat, laws_szPlane_eq _ _ a (hi _ (getD_mem hi2 z30)) h0 h1, Option.bind_some, if_pos hn]
  · have e : lft a l.length = -1 := by unfold lft; rw [if_neg c]
    rw [e]
    simp only [if_pos (show a - (l.length : Int) < 0 by omega), if_pos (show (-1 : Int) < 0 by omega)]
    exact Ev.now _

theorem spec_l1In_eq (x a b : Int) : spec_l1In.f x a b = some (inR a b x) := in_tells a b x

theorem spec_l2Numbers_ev (l : List Int) (m : Int) (h : l.length ≤ maxLen) : Ev (fun k => spec_l2Numbers.f k l m) (l.all (inR (wrap64 (-m)) m)) := by
  unfold maxLen at h
  rw [← range_all l (inR (wrap64 (-m)) m) 0]
  refine ev_all (L := fun i k => spec_l2Numbers.l0 k l m i) (fun i hi hp => To.step fun k => ?_) (fun i hi hp => Ev.step' (f := fun _ => some false) (fun k => ?_) (Ev.now _)) (Ev.step' (f := fun _ => some true) (fun k => ?_) (Ev.now _))
  · have c1 : (i : Int) < (l.length : Int) := by omega
    have c0 : 0 ≤ (i : Int) := by omega
    simp only [spec_l2Numbers.l0, if_pos c1, if_pos c0, spec_l1In_eq, rd_nat, hp, Option.bind_some, if_true, wrap_succ hi h]
  · have c1 : (i : Int) < (l.length : Int) := by omega
    have c0 : 0 ≤ (i : Int) := by omega
    simp only [spec_l2Numbers.l0, if_pos c1, if_pos c0, spec_l1In_eq, rd_nat, hp, Option.bind_some, Bool.false_eq_true, if_false]
  · simp only [spec_l2Numbers.l0, if_neg (Int.lt_irrefl _)]

theorem spec_l2Point_ev (l : List Int) (h : l.length ≤ maxLen) : Ev (fun k => spec_l2Point.f k l) (pointB l) := by
  have e : ∀ k, spec_l2Point.f k l = if inR 1 4 l.length = true then (spec_l2Numbers.f k l 9).bind (fun t => some t) else some false := fun k => by simp only [spec_l2Point.f, spec_l1In_eq, Option.bind_some]
  refine Ev.congr e ?_
  unfold pointB
  cases inR 1 4 l.length with
  | false => exact Ev.now _
  | true =>
    simp only [if_true, Bool.true_and]
    refine Ev.bind (spec_l2Numbers_ev l 9 h) ?_
    rw [show wrap64 (-9) = -9 from wrap_id (by omega) (by omega)]
    exact Ev.now _

theorem spec_l2Plane_ev (l : List Int) (b : Int) (h : l.length ≤ maxLen) : Ev (fun k => spec_l2Plane.f k l b) (planeB l b) := by
  have e : ∀ k, spec_l2Plane.f k l b = if inR 1 4 l.length = true then (spec_l2Numbers.f k l 99).bind (fun t => if t = true then some (inR (-99) 99 b) else some false) else some false := fun k => by
    simp only [spec_l2Plane.f, spec_l1In_eq, Option.bind_some]
  refine Ev.congr e ?_
  unfold planeB
  cases inR 1 4 l.length with
  | false => exact Ev.now _
  | true =>
    simp only [if_true, Bool.true_and]
    refine Ev.bind (spec_l2Numbers_ev l 99 h) ?_
    rw [show wrap64 (-99) = -99 from wrap_id (by omega) (by omega)]
    cases l.all (inR (-99) 99) with
    | false => exact Ev.now _
    | true => exact Ev.now _

theorem spec_l2One_ev (w : List Int) (b : Int) (x : List Int) (hw : w.length ≤ maxLen) (hx : x.length ≤ maxLen) : Ev (fun k => spec_l2One.f k w b x) (meetsB w b x) := by
  refine Ev.bind (spec_l2Plane_ev w b hw) ?_
  unfold meetsB
  cases planeB w b with
  | false => exact Ev.now _
  | true =>
    simp only [if_true, Bool.true_and]
    refine Ev.bind (spec_l2Point_ev x hx) ?_
    cases pointB x <;> exact Ev.now _

def juryB (w : List S33) : Bool := w.all (fun x => planeB x.f0 x.f1 && decide (x.f0.length = (w.getD 0 z33).f0.length)) && inR 1 9 w.length
theorem spec_l8Jury_ev (w : List S33) (h : w.length ≤ maxLen) (hi : ∀ x ∈ w, x.f0.length ≤ maxLen) : Ev (fun k => spec_l8Jury.f k w) (juryB w) := by
  have h' : w.length ≤ 9223372036854775807 := h
  unfold juryB
  refine ev_list z33 w (fun i (_ : Unit) k => spec_l8Jury.l0 k w i) (fun _ ys _ => ys.all (fun x => planeB x.f0 x.f1 && decide (x.f0.length = (w.getD 0 z33).f0.length)) && inR 1 9 w.length) (fun _ _ => True) (fun _ _ => ?_) (fun i x ys _ hi2 hx hm _ ih => ?_) () trivial
  · exact Ev.step' (f := fun _ => some _) (fun k => by simp only [spec_l8Jury.l0, if_neg (Int.lt_irrefl _), spec_l1In_eq, Option.bind_some] <;> rfl) (Ev.now _)
  · have c1 : (i : Int) < (w.length : Int) := by omega
    have c0 : 0 ≤ (i : Int) := by omega
    have c2 : 0 < (w.length : Int) := by omega
    have e0 : rd_T33 w 0 = w.getD 0 z33 := rdT33_nat w 0
    rw [List.all_cons, Bool.and_assoc, Bool.and_assoc]
    refine Ev.step' (f := fun k => (spec_l2Plane.f k x.f0 x.f1).bind fun t => if t = true then (if (x.f0.length : Int) = ((w.getD 0 z33).f0.length : Int) then spec_l8Jury.l0 k w ((i + 1 : Nat) : Int) else some false) else some false) (fun k => by simp only [spec_l8Jury.l0, if_pos c1, if_pos c0, if_pos c2, e0, rdT33_nat, hx, wrap_succ hi2 h']) (Ev.bind (spec_l2Plane_ev x.f0 x.f1 (hi x hm)) ?_)
    cases planeB x.f0 x.f1 with
    | false => simp only [Bool.false_and, Bool.false_eq_true, if_false]; exact Ev.now _
    | true =>
      simp only [if_true, Bool.true_and]
      by_cases c : x.f0.length = (w.getD 0 z33).f0.length
      · simp only [if_pos (show (x.f0.length : Int) = ((w.getD 0 z33).f0.length : Int) by omega), decide_eq_true c, Bool.true_and]
        exact ih () trivial
      · simp only [if_neg (show ¬ (x.f0.length : Int) = ((w.getD 0 z33).f0.length : Int) by omega), decide_eq_false c, Bool.false_and]
        exact Ev.now _

theorem spec_l2Dot_ev (a b : List Int) (h : a.length ≤ maxLen) (hb : a.length ≤ b.length) : Ev (fun k => spec_l2Dot.f k a b) (dotW a b) := by
  unfold maxLen at h
  have hf := to_fold (L := fun i (s : Int) k => spec_l2Dot.l0 k a b s i) (n := a.length) (f := fun i s => wrap64 (s + wrap64 (a.getD i 0 * b.getD i 0))) (fun _ _ => True) (fun i s hi _ => ⟨To.step fun k => ?_, trivial⟩) 0 trivial
  · refine hf.1 _ (Ev.step' (f := fun _ => some _) (fun k => ?_) (Ev.now _))
    simp only [spec_l2Dot.l0, if_neg (Int.lt_irrefl _)]; rfl
  · have c1 : (i : Int) < (a.length : Int) := by omega
    have c2 : (i : Int) < (b.length : Int) := by omega
    have c3 : 0 ≤ (i : Int) := by omega
    simp only [spec_l2Dot.l0, if_pos c1, if_pos c2, if_pos c3, rd_nat, wrap_succ hi h]

theorem spec_l2Side_ev (w : List Int) (b : Int) (x : List Int) (hw : w.length ≤ maxLen) (hx : w.length ≤ x.length) : Ev (fun k => spec_l2Side.f k w b x) (sideW w b x) := by
  refine Ev.bind (spec_l2Dot_ev w x hw hx) ?_
  unfold sideW
  by_cases c : dotW w x ≥ b
  · simp only [if_pos c]; exact Ev.now _
  · simp only [if_neg c]; exact Ev.now _

def votesM (w : List S33) (x : List Int) : Int := if w.foldl (fun s y => wrap64 (s + sideW y.f0 y.f1 x)) 0 ≥ 0 then 1 else -1
theorem spec_l8Side_ev (w : List S33) (x : List Int) (h : w.length ≤ maxLen) (hi : ∀ y ∈ w, y.f0.length ≤ maxLen ∧ y.f0.length ≤ x.length) : Ev (fun k => spec_l8Side.f k w x) (votesM w x) := by
  have h' : w.length ≤ 9223372036854775807 := h
  refine ev_list z33 w (fun i (s : Int) k => spec_l8Side.l0 k w x s i) (fun _ ys s => if ys.foldl (fun s y => wrap64 (s + sideW y.f0 y.f1 x)) s ≥ 0 then (1 : Int) else -1) (fun _ _ => True) (fun s _ => ?_) (fun i y ys s hi2 hx hm _ ih => ?_) 0 trivial
  · refine Ev.step' (f := fun _ => if s ≥ 0 then some (1 : Int) else some (-1)) (fun k => by simp only [spec_l8Side.l0, if_neg (Int.lt_irrefl _)]) ?_
    rw [List.foldl_nil]
    by_cases c : s ≥ 0
    · simp only [if_pos c]; exact Ev.now _
    · simp only [if_neg c]; exact Ev.now _
  · have c1 : (i : Int) < (w.length : Int) := by omega
    have c0 : 0 ≤ (i : Int) := by omega
    refine Ev.step' (f := fun k => (spec_l2Side.f k y.f0 y.f1 x).bind fun t => spec_l8Side.l0 k w x (wrap64 (s + t)) ((i + 1 : Nat) : Int)) (fun k => by simp only [spec_l8Side.l0, if_pos c1, if_pos c0, rdT33_nat, hx, wrap_succ hi2 h']) (Ev.bind (spec_l2Side_ev y.f0 y.f1 x (hi y hm).1 (hi y hm).2) ?_)
    rw [List.foldl_cons]
    exact ih _ trivial

def jurySideM (w : List S33) (x : List Int) : Int × Bool := if (juryB w && meetsB (w.getD 0 z33).f0 (w.getD 0 z33).f1 x) = true then (votesM w x, true) else (0, false)
theorem jury_tell {w : List S33} (h : juryB w = true) : (1 ≤ w.length ∧ w.length ≤ 9) ∧ ∀ x ∈ w, x.f0.length = (w.getD 0 z33).f0.length := by
  unfold juryB at h
  simp only [Bool.and_eq_true, List.all_eq_true, decide_eq_true_eq] at h
  have hl := (inR_iff _ _ _).1 h.2
  exact ⟨⟨by omega, by omega⟩, fun x hx => (h.1 x hx).2⟩
theorem spec_JurySide_ev (w : List S33) (x : List Int) (h : w.length ≤ maxLen) (hi : ∀ y ∈ w, y.f0.length ≤ maxLen) (hx : x.length ≤ maxLen) : Ev (fun k => spec_JurySide.f k w x) (jurySideM w x) := by
  refine Ev.bind (spec_l8Jury_ev w h hi) ?_
  unfold jurySideM
  cases hj : juryB w with
  | false => simp only [Bool.false_and, Bool.false_eq_true, if_false]; exact Ev.now _
  | true =>
    have ht := jury_tell hj
    have c2 : 0 < (w.length : Int) := by omega
    have e0 : rd_T33 w 0 = w.getD 0 z33 := rdT33_nat w 0
    have hm0 := getD_mem (xs := w) (i := 0) (by omega) z33
    simp only [if_true, Bool.true_and, if_pos c2, e0]
    refine Ev.bind (spec_l2One_ev _ _ x (hi _ hm0) hx) ?_
    cases hb : meetsB (w.getD 0 z33).f0 (w.getD 0 z33).f1 x with
    | false => simp only [Bool.false_eq_true, if_false]; exact Ev.now _
    | true =>
      simp only [if_true]
      have hl := meets_len hb
      exact Ev.bind (spec_l8Side_ev w x h (fun y hy => ⟨hi y hy, by rw [ht.2 y hy]; exact hl⟩)) (Ev.now _)

theorem laws_toIntS_ev (l : List Int) (h : l.length ≤ 1048576) : Ev (fun k => laws_toIntS.f k l) l := by
  have hw : wrap64 (l.length : Int) = l.length := wrap_id (by omega) (by omega)
  have c0 : 0 ≤ (l.length : Int) := by omega
  have e : ∀ k, laws_toIntS.f k l = laws_toIntS.l0 k l (List.replicate l.length 0) 0 := fun k => by
    simp only [laws_toIntS.f, if_pos c0, Int.toNat_natCast]; rw [if_pos (by omega)]
  refine Ev.congr e ?_
  have hf := to_fold (L := fun i (s : List Int) k => laws_toIntS.l0 k l s i) (n := l.length) (f := fun i s => s.set i (l.getD i 0)) (fun i s => s = l.take i ++ List.replicate (l.length - i) 0) (fun i s hi hs => ⟨To.step fun k => ?_, ?_⟩) (List.replicate l.length 0) (by simp)
  · refine hf.1 _ (Ev.step' (f := fun _ => some l) (fun k => ?_) (Ev.now _))
    have := hf.2
    rw [Nat.sub_self, List.take_length, List.replicate_zero, List.append_nil] at this
    show laws_toIntS.l0 (k + 1) l _ _ = _
    rw [this]
    simp only [laws_toIntS.l0, if_neg (Int.lt_irrefl _)]
  · have c1 : (i : Int) < (l.length : Int) := by omega
    have c2 : (i : Int) < (s.length : Int) := by rw [hs, List.length_append, List.length_take, List.length_replicate]; omega
    have c3 : 0 ≤ (i : Int) := by omega
    simp only [laws_toIntS.l0, if_pos c1, if_pos c2, if_pos c3, rd_nat, Int.toNat_natCast, wrap_succ hi (by omega : l.length ≤ 9223372036854775807)]
  · show List.set s i _ = _
    rw [hs]; exact set_step l 0 0 i hi

theorem laws_toPlane_ev (l : List Int) (b : Int) (h : l.length ≤ 1048576) : Ev (fun k => laws_toPlane.f k l b) (l, b) := Ev.bind (laws_toIntS_ev l h) (Ev.now _)

def cvP (x : S30) : S33 := ⟨x.f0, x.f1⟩
theorem laws_toPlaneS_ev (l : List S30) (h : l.length ≤ 1048576) (hi : ∀ x ∈ l, x.f0.length ≤ 1048576) : Ev (fun k => laws_toPlaneS.f k l) (l.map cvP) := by
  have c0 : 0 ≤ (l.length : Int) := by omega
  have e : ∀ k, laws_toPlaneS.f k l = laws_toPlaneS.l0 k l (List.replicate l.length z33) 0 := fun k => by
    simp only [laws_toPlaneS.f, if_pos c0, Int.toNat_natCast]; rw [if_pos (by omega)]
  refine Ev.congr e ?_
  have hml : (l.map cvP).length = l.length := List.length_map _
  have hf := to_fold (L := fun i (s : List S33) k => laws_toPlaneS.l0 k l s i) (n := l.length) (f := fun i s => s.set i ((l.map cvP).getD i z33)) (fun i s => s = (l.map cvP).take i ++ List.replicate ((l.map cvP).length - i) z33) (fun i s hi2 hs => ⟨?_, ?_⟩) (List.replicate l.length z33) (by simp)
  · refine hf.1 _ (Ev.step' (f := fun _ => some (l.map cvP)) (fun k => ?_) (Ev.now _))
    have := hf.2
    rw [← hml, Nat.sub_self, List.take_length, List.replicate_zero, List.append_nil] at this
    show laws_toPlaneS.l0 (k + 1) l _ _ = _
    rw [← hml, this]
    simp only [laws_toPlaneS.l0, hml, if_neg (Int.lt_irrefl _)]
  · have c1 : (i : Int) < (l.length : Int) := by omega
    have c2 : (i : Int) < (s.length : Int) := by rw [hs, List.length_append, List.length_take, List.length_replicate]; omega
    have c3 : 0 ≤ (i : Int) := by omega
    have eg : (l.map cvP).getD i z33 = cvP (l.getD i z30) := by simp [List.getD_eq_getElem?_getD, hi2]
    refine (To.step (f := fun k => (laws_toPlane.f k (l.getD i z30).f0 (l.getD i z30).f1).bind fun b => laws_toPlaneS.l0 k l (s.set i ⟨b.1, b.2⟩) ((i + 1 : Nat) : Int)) (fun k => ?_)).trans ((To.bind (laws_toPlane_ev _ _ (hi _ (getD_mem hi2 z30)))).trans (To.congr fun k => ?_))
    · simp only [laws_toPlaneS.l0, if_pos c1, if_pos c2, if_pos c3, rdT30_nat, Int.toNat_natCast, wrap_succ hi2 (by omega : l.length ≤ 9223372036854775807)]
    · rw [eg]; rfl
  · show List.set s i _ = _
    rw [hs]; exact set_step (l.map cvP) z33 z33 i (by rw [hml]; exact hi2)

theorem impl_within_eq (x a b : Int) : impl_within.f x a b = some (inR a b x) := in_tells a b x

theorem impl_allWithin_ev (l : List Int) (a b : Int) (h : l.length ≤ maxLen) : Ev (fun k => impl_allWithin.f k l a b) (l.all (inR a b)) := by
  unfold maxLen at h
  rw [← range_all l (inR a b) 0]
  refine ev_all (L := fun i k => impl_allWithin.l0 k a b l (l.length : Int) i) (fun i hi hp => To.step fun k => ?_) (fun i hi hp => Ev.step' (f := fun _ => some false) (fun k => ?_) (Ev.now _)) (Ev.step' (f := fun _ => some true) (fun k => ?_) (Ev.now _))
  · have c1 : (i : Int) < (l.length : Int) := by omega
    have c0 : 0 ≤ (i : Int) := by omega
    simp only [impl_allWithin.l0, if_pos c1, if_pos c0, impl_within_eq, rd_nat, hp, Option.bind_some, if_true, wrap_succ hi h]
  · have c1 : (i : Int) < (l.length : Int) := by omega
    have c0 : 0 ≤ (i : Int) := by omega
    simp only [impl_allWithin.l0, if_pos c1, if_pos c0, impl_within_eq, rd_nat, hp, Option.bind_some, Bool.false_eq_true, if_false]
  · simp only [impl_allWithin.l0, if_neg (Int.lt_irrefl _)]

theorem impl_IsPoint_ev (l : List Int) (h : l.length ≤ maxLen) : Ev (fun k => impl_IsPoint.f k l) (pointB l) := by
  have e : ∀ k, impl_IsPoint.f k l = if inR 1 4 l.length = true then (impl_allWithin.f k l (-9) 9).bind (fun t => some t) else some false := fun k => by simp only [impl_IsPoint.f, impl_within_eq, Option.bind_some]
  refine Ev.congr e ?_
  unfold pointB
  cases inR 1 4 l.length with
  | false => exact Ev.now _
  | true =>
    simp only [if_true, Bool.true_and]
    exact Ev.bind (impl_allWithin_ev l (-9) 9 h) (Ev.now _)

theorem impl_IsPlane_ev (l : List Int) (b : Int) (h : l.length ≤ maxLen) : Ev (fun k => impl_IsPlane.f k l b) (planeB l b) := by
  have e : ∀ k, impl_IsPlane.f k l b = if inR 1 4 l.length = true then (impl_allWithin.f k l (-99) 99).bind (fun t => if t = true then some (inR (-99) 99 b) else some false) else some false := fun k => by
    simp only [impl_IsPlane.f, impl_within_eq, Option.bind_some]
  refine Ev.congr e ?_
  unfold planeB
  cases inR 1 4 l.length with
  | false => exact Ev.now _
  | true =>
    simp only [if_true, Bool.true_and]
    refine Ev.bind (impl_allWithin_ev l (-99) 99 h) ?_
    cases l.all (inR (-99) 99) with
    | false => exact Ev.now _
    | true => exact Ev.now _

theorem impl_meets_ev (w : List Int) (b : Int) (x : List Int) (hw : w.length ≤ maxLen) (hx : x.length ≤ maxLen) : Ev (fun k => impl_meets.f k w b x) (meetsB w b x) := by
  refine Ev.bind (impl_IsPlane_ev w b hw) ?_
  unfold meetsB
  cases planeB w b with
  | false => exact Ev.now _
  | true =>
    simp only [if_true, Bool.true_and]
    refine Ev.bind (impl_IsPoint_ev x hx) ?_
    cases pointB x <;> exact Ev.now _

theorem impl_isJury_ev (w : List S33) (h : w.length ≤ maxLen) (hi : ∀ x ∈ w, x.f0.length ≤ maxLen) : Ev (fun k => impl_isJury.f k w) (juryB w) := by
  have h' : w.length ≤ 9223372036854775807 := h
  unfold juryB
  refine ev_list z33 w (fun i (_ : Unit) k => impl_isJury.l0 k w w (w.length : Int) i) (fun _ ys _ => ys.all (fun x => planeB x.f0 x.f1 && decide (x.f0.length = (w.getD 0 z33).f0.length)) && inR 1 9 w.length) (fun _ _ => True) (fun _ _ => ?_) (fun i x ys _ hi2 hx hm _ ih => ?_) () trivial
  · exact Ev.step' (f := fun _ => some _) (fun k => by simp only [impl_isJury.l0, if_neg (Int.lt_irrefl _), impl_within_eq, Option.bind_some] <;> rfl) (Ev.now _)
  · have c1 : (i : Int) < (w.length : Int) := by omega
    have c0 : 0 ≤ (i : Int) := by omega
    have c2 : 0 < (w.length : Int) := by omega
    have e0 : rd_T33 w 0 = w.getD 0 z33 := rdT33_nat w 0
    rw [List.all_cons, Bool.and_assoc, Bool.and_assoc]
    refine Ev.step' (f := fun k => (impl_IsPlane.f k x.f0 x.f1).bind fun t => if t = true then (if (x.f0.length : Int) = ((w.getD 0 z33).f0.length : Int) then impl_isJury.l0 k w w (w.length : Int) ((i + 1 : Nat) : Int) else some false) else some false) (fun k => by simp only [impl_isJury.l0, if_pos c1, if_pos c0, if_pos c2, e0, rdT33_nat, hx, wrap_succ hi2 h']) (Ev.bind (impl_IsPlane_ev x.f0 x.f1 (hi x hm)) ?_)
    cases planeB x.f0 x.f1 with
    | false => simp only [Bool.false_and, Bool.false_eq_true, if_false]; exact Ev.now _
    | true =>
      simp only [if_true, Bool.true_and]
      by_cases c : x.f0.length = (w.getD 0 z33).f0.length
      · simp only [if_pos (show (x.f0.length : Int) = ((w.getD 0 z33).f0.length : Int) by omega), decide_eq_true c, Bool.true_and]
        exact ih () trivial
      · simp only [if_neg (show ¬ (x.f0.length : Int) = ((w.getD 0 z33).f0.length : Int) by omega), decide_eq_false c, Bool.false_and]
        exact Ev.now _

theorem impl_product_ev (a b : List Int) (h : a.length ≤ maxLen) (hb : a.length ≤ b.length) : Ev (fun k => impl_product.f k a b) (dotW a b) := by
  unfold maxLen at h
  have hf := to_fold (L := fun i (s : Int) k => impl_product.l0 k b s a (a.length : Int) i) (n := a.length) (f := fun i s => wrap64 (s + wrap64 (a.getD i 0 * b.getD i 0))) (fun _ _ => True) (fun i s hi _ => ⟨To.step fun k => ?_, trivial⟩) 0 trivial
  · refine hf.1 _ (Ev.step' (f := fun _ => some _) (fun k => ?_) (Ev.now _))
    simp only [impl_product.l0, if_neg (Int.lt_irrefl _)]; rfl
  · have c1 : (i : Int) < (a.length : Int) := by omega
    have c2 : (i : Int) < (b.length : Int) := by omega
    have c3 : 0 ≤ (i : Int) := by omega
    simp only [impl_product.l0, if_pos c1, if_pos c2, if_pos c3, rd_nat, wrap_succ hi h]

theorem impl_Plane_side_ev (w : List Int) (b : Int) (x : List Int) (hw : w.length ≤ maxLen) (hx : w.length ≤ x.length) : Ev (fun k => impl_Plane_side.f k w b x) (sideW w b x) := by
  refine Ev.bind (impl_product_ev w x hw hx) ?_
  unfold sideW
  by_cases c : dotW w x ≥ b
  · simp only [if_pos c]; exact Ev.now _
  · simp only [if_neg c]; exact Ev.now _

theorem impl_jurySide_ev (w : List S33) (x : List Int) (h : w.length ≤ maxLen) (hi : ∀ y ∈ w, y.f0.length ≤ maxLen ∧ y.f0.length ≤ x.length) : Ev (fun k => impl_jurySide.f k w x) (votesM w x) := by
  have h' : w.length ≤ 9223372036854775807 := h
  refine ev_list z33 w (fun i (s : Int) k => impl_jurySide.l0 k x s w (w.length : Int) i) (fun _ ys s => if ys.foldl (fun s y => wrap64 (s + sideW y.f0 y.f1 x)) s ≥ 0 then (1 : Int) else -1) (fun _ _ => True) (fun s _ => ?_) (fun i y ys s hi2 hx hm _ ih => ?_) 0 trivial
  · refine Ev.step' (f := fun _ => if s ≥ 0 then some (1 : Int) else some (-1)) (fun k => by simp only [impl_jurySide.l0, if_neg (Int.lt_irrefl _)]) ?_
    rw [List.foldl_nil]
    by_cases c : s ≥ 0
    · simp only [if_pos c]; exact Ev.now _
    · simp only [if_neg c]; exact Ev.now _
  · have c1 : (i : Int) < (w.length : Int) := by omega
    have c0 : 0 ≤ (i : Int) := by omega
    refine Ev.step' (f := fun k => (impl_Plane_side.f k y.f0 y.f1 x).bind fun t => impl_jurySide.l0 k x (wrap64 (s + t)) w (w.length : Int) ((i + 1 : Nat) : Int)) (fun k => by simp only [impl_jurySide.l0, if_pos c1, if_pos c0, rdT33_nat, hx, wrap_succ hi2 h']) (Ev.bind (impl_Plane_side_ev y.f0 y.f1 x (hi y hm).1 (hi y hm).2) ?_)
    rw [List.foldl_cons]
    exact ih _ trivial

theorem impl_JurySide_ev (w : List S33) (x : List Int) (h : w.length ≤ maxLen) (hi : ∀ y ∈ w, y.f0.length ≤ maxLen) (hx : x.length ≤ maxLen) : Ev (fun k => impl_JurySide.f k w x) (jurySideM w x) := by
  refine Ev.bind (impl_isJury_ev w h hi) ?_
  unfold jurySideM
  cases hj : juryB w with
  | false => simp only [Bool.false_and, Bool.false_eq_true, if_false]; exact Ev.now _
  | true =>
    have ht := jury_tell hj
    have c2 : 0 < (w.length : Int) := by omega
    have e0 : rd_T33 w 0 = w.getD 0 z33 := rdT33_nat w 0
    have hm0 := getD_mem (xs := w) (i := 0) (by omega) z33
    simp only [if_true, Bool.true_and, if_pos c2, e0]
    refine Ev.bind (impl_meets_ev _ _ x (hi _ hm0) hx) ?_
    cases hb : meetsB (w.getD 0 z33).f0 (w.getD 0 z33).f1 x with
    | false => simp only [Bool.false_eq_true, if_false]; exact Ev.now _
    | true =>
      simp only [if_true]
      have hl := meets_len hb
      exact Ev.bind (impl_jurySide_ev w x h (fun y hy => ⟨hi y hy, by rw [ht.2 y hy]; exact hl⟩)) (Ev.now _)

theorem laws_eqIntS_ev (l : List Int) (h : l.length ≤ maxLen) : Ev (fun k => laws_eqIntS.f k l l) true := by
  unfold maxLen at h
  refine Ev.congr (f := fun k => laws_eqIntS.l0 k l l 0) (fun k => by simp only [laws_eqIntS.f, if_true]) ?_
  refine ev_yes (L := fun i k => laws_eqIntS.l0 k l l i) (n := l.length) (fun i hi => To.step fun k => ?_) (Ev.step' (f := fun _ => some true) (fun k => ?_) (Ev.now _))
  · have c1 : (i : Int) < (l.length : Int) := by omega
    have c0 : 0 ≤ (i : Int) := by omega
    simp only [laws_eqIntS.l0, if_pos c1, if_pos c0, if_true, wrap_succ hi h]
  · simp only [laws_eqIntS.l0, if_neg (Int.lt_irrefl _)]

theorem laws_eqPlane_ev (l : List Int) (b : Int) (h : l.length ≤ maxLen) : Ev (fun k => laws_eqPlane.f k l b l b) true := Ev.bind (laws_eqIntS_ev l h) (Ev.congr (f := fun _ => some true) (fun k => by simp only [if_true]) (Ev.now _))

theorem laws_eqPlaneS_ev (l : List S33) (h : l.length ≤ maxLen) (hi : ∀ x ∈ l, x.f0.length ≤ maxLen) : Ev (fun k => laws_eqPlaneS.f k l l) true := by
  have h' : l.length ≤ 9223372036854775807 := h
  refine Ev.congr (f := fun k => laws_eqPlaneS.l0 k l l 0) (fun k => by simp only [laws_eqPlaneS.f, if_true]) ?_
  refine ev_yes (L := fun i k => laws_eqPlaneS.l0 k l l i) (n := l.length) (fun i hi2 => ?_) (Ev.step' (f := fun _ => some true) (fun k => ?_) (Ev.now _))
  · have c1 : (i : Int) < (l.length : Int) := by omega
    have c0 : 0 ≤ (i : Int) := by omega
    refine (To.step (f := fun k => (laws_eqPlane.f k (l.getD i z33).f0 (l.getD i z33).f1 (l.getD i z33).f0 (l.getD i z33).f1).bind fun t => if t = true then laws_eqPlaneS.l0 k l l ((i + 1 : Nat) : Int) else some false) (fun k => ?_)).trans ((To.bind (laws_eqPlane_ev _ _ (hi _ (getD_mem hi2 z33)))).trans (To.congr fun k => by simp only [if_true]))
    simp only [laws_eqPlaneS.l0, if_pos c1, if_pos c0, rdT33_nat, wrap_succ hi2 h']
  · simp only [laws_eqPlaneS.l0, if_neg (Int.lt_irrefl _)]

theorem pure : SFnExactJurySide.Pure := by
  intro w x ⟨h, hi0⟩ ⟨hx, _⟩
  have hi : ∀ y ∈ w, y.f0.length ≤ maxLen := fun y hy => (hi0 y hy).1.1
  by_cases q1 : x.length ≤ 1048576
  · obtain ⟨K1, k1⟩ := laws_szPlaneS_ev w 1048576 h hi (by omega) (by omega)
    by_cases cn : lft 1048576 (szP w) < 0
    · exact .inr (.inl ⟨K1, _, k1 K1 (by omega), q1, cn⟩)
    · have d := lft_nonneg (Int.not_lt.1 cn)
      have hs := szP_small (l := w) (n := 1048576) (by omega)
      have hm : (w.map cvP).length ≤ maxLen := by rw [List.length_map]; exact h
      have hmi : ∀ y ∈ w.map cvP, y.f0.length ≤ maxLen := fun y hy => by
        obtain ⟨z, hz, rfl⟩ := List.mem_map.1 hy
        exact hi z hz
      obtain ⟨K2, k2⟩ := laws_toPlaneS_ev w hs.1 hs.2
      obtain ⟨K3, k3⟩ := laws_toIntS_ev x q1
      obtain ⟨K4, k4⟩ := spec_JurySide_ev (w.map cvP) x hm hmi hx
      obtain ⟨K5, k5⟩ := impl_JurySide_ev (w.map cvP) x hm hmi hx
      obtain ⟨K6, k6⟩ := laws_eqPlaneS_ev (w.map cvP) hm hmi
      obtain ⟨K7, k7⟩ := laws_eqIntS_ev x hx
      let K := K1 + K2 + K3 + K4 + K5 + K6 + K7
      exact .inr (.inr ⟨K, _, _, _, _, _, k1 K (by omega), k2 K (by omega), k3 K (by omega), k4 K (by omega), k5 K (by omega), k6 K (by omega), k7 K (by omega), q1, Int.not_lt.1 cn⟩)
  · exact .inl ⟨0, by omega⟩
end Go.Proofs.Ytihnijfgdffhjaa.QFnExactJurySide
