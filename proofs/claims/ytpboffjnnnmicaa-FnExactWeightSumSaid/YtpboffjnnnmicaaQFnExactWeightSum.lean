/- FnExactWeightSum: what its calls come to, shown of numbers and lists alone. -/
import Derived.Test.YtpboffjnnnmicaaSFnExactWeightSum
import Derived.Test.YtpboffjnnnmicaaPm
namespace Go.Proofs.Ytpboffjnnnmicaa.QFnExactWeightSum
open Go.RowKit  Go.Proofs.Ytpboffjnnnmicaa.Lb Go.Proofs.Ytpboffjnnnmicaa.Pm Go.Proofs.Ytpboffjnnnmicaa.PFnExactWeightSum Go.Proofs.YtpboffjnnnmicaaW.PrintWords Go.Proofs.YtpboffjnnnmicaaW.PrintLast Go.Proofs.YtpboffjnnnmicaaW.PrintMore
set_option linter.unusedVariables false
set_option linter.unusedSimpArgs false
theorem rdL1_nat (xs : List (List Int)) (i : Nat) : rd_L1 xs (i : Int) = xs.getD i [] := by simp [rd_L1]

theorem rdL3_nat (xs : List (List S119)) (i : Nat) : rd_L3 xs (i : Int) = xs.getD i [] := by simp [rd_L3]

theorem rdL5_nat (xs : List (List S98)) (i : Nat) : rd_L5 xs (i : Int) = xs.getD i [] := by simp [rd_L5]

theorem rdT119_nat (xs : List S119) (i : Nat) : rd_T119 xs (i : Int) = xs.getD i z119 := by simp [rd_T119]

theorem rdT98_nat (xs : List S98) (i : Nat) : rd_T98 xs (i : Int) = xs.getD i z98 := by simp [rd_T98]

theorem laws_szIntS_eq (l : List Int) (a : Int) (h : l.length ≤ maxLen) (h0 : 0 ≤ a) (h1 : a ≤ 1048576) : laws_szIntS.f l a = some (lft a l.length) := by
  unfold maxLen at h
  have hw : wrap64 (a - (l.length : Int)) = a - l.length := wrap_id (by omega) (by omega)
  unfold laws_szIntS.f lft
  rw [hw]
  by_cases c : (l.length : Int) ≤ a
  · rw [if_neg (by omega), if_pos c]
  · rw [if_pos (by omega), if_neg c]

theorem laws_szPlane_eq (l : List Int) (b a : Int) (h : l.length ≤ maxLen) (h0 : 0 ≤ a) (h1 : a ≤ 1048576) : laws_szPlane.f l b a = some (lft a l.length) := by
  unfold laws_szPlane.f
  rw [laws_szIntS_eq l a h h0 h1]
  simp only [Option.bind_some]
  by_cases c : lft a l.length < 0
  · rw [if_pos c, lft_neg c]
  · rw [if_neg c]

def szP (l : List S119) : Nat := l.length + sumN (fun x : S119 => x.f0.length) l
theorem szP_small {l : List S119} {n : Nat} (h : szP l ≤ n) : l.length ≤ n ∧ ∀ x ∈ l, x.f0.length ≤ n := by
  unfold szP at h
  exact ⟨by omega, fun x hx => by have := sumN_mem (fun x : S119 => x.f0.length) hx; omega⟩
theorem laws_szPlaneS_ev (l : List S119) (a : Int) (h : l.length ≤ maxLen) (hi : ∀ x ∈ l, x.f0.length ≤ maxLen) (h0 : 0 ≤ a) (h1 : a ≤ 1048576) : Ev (fun k => laws_szPlaneS.f k l a) (lft a (szP l)) := by
  have h' : l.length ≤ 9223372036854775807 := h
  unfold szP laws_szPlaneS.f
  rw [← lft_add a _ _ h0]
  have hw : wrap64 (a - (l.length : Int)) = a - l.length := wrap_id (by omega) (by omega)
  rw [hw]
  by_cases c : (l.length : Int) ≤ a
  · have e : lft a l.length = a - l.length := by unfold lft; rw [if_pos c]
    rw [e]
    simp only [if_neg (show ¬ a - (l.length : Int) < 0 by omega)]
    refine ev_sz z119 (fun x : S119 => x.f0.length) l (L := fun a i k => laws_szPlaneS.l0 k l a i) (fun i a hi2 h0 h1 hn => ?_) (fun i a hi2 h0 h1 hn => ?_) (fun a => Ev.step' (f := fun _ => some a) (fun k => by simp only [laws_szPlaneS.l0, if_neg (Int.lt_irrefl _)]) (Ev.now _)) _ (by omega) (by omega)
    · have c1 : (i : Int) < (l.length : Int) := by omega
      have c0 : 0 ≤ (i : Int) := by omega
      refine To.step (fun k => ?_)
      simp only [laws_szPlaneS.l0, if_pos c1, if_pos c0, rdT119_nat, laws_szPlane_eq _ _ a (hi _ (getD_mem hi2 z119)) h0 h1, Option.bind_some, if_neg (show ¬ lft a (l.getD i z119).f0.length < 0 by omega), wrap_succ hi2 h']
    · have c1 : (i : Int) < (l.length : Int) := by omega
      have c0 : 0 ≤ (i : Int) := by omega
      refine Ev.step' (f := fun _ => some (-1)) (fun k => ?_) (Ev.now _)
      simp only [laws_szPlaneS.l0, if_pos c1, if_pos c0, rdT119_nat, laws_szPlane_eq _ _ a (hi _ (getD_mem hi2 z119)) h0 h1, Option.bind_some, if_pos hn]
  · have e : lft a l.length = -1 := by unfold lft; rw [if_neg c]
    rw [e]
    simp only [if_pos (show a - (l.length : Int) < 0 by omega), if_pos (show (-1 : Int) < 0 by omega)]
    exact Ev.now _

def szPP (l : List (List S119)) : Nat := l.length + sumN szP l
theorem szPP_small {l : List (List S119)} {n : Nat} (h : szPP l ≤ n) : l.length ≤ n ∧ ∀ x ∈ l, x.length ≤ n ∧ ∀ y ∈ x, y.f0.length ≤ n := by
  unfold szPP at h
  exact ⟨by omega, fun x hx => by have := sumN_mem szP hx; exact szP_small (by omega)⟩
theorem laws_szPlaneSS_ev (l : List (List S119)) (a : Int) (h : l.length ≤ maxLen) (hi : ∀ x ∈ l, x.length ≤ maxLen ∧ ∀ y ∈ x, y.f0.length ≤ maxLen) (h0 : 0 ≤ a) (h1 : a ≤ 1048576) : Ev (fun k => laws_szPlaneSS.f k l a) (lft a (szPP l)) := by
  have h' : l.length ≤ 9223372036854775807 := h
  unfold szPP laws_szPlaneSS.f
  rw [← lft_add a _ _ h0]
  have hw : wrap64 (a - (l.length : Int)) = a - l.length := wrap_id (by omega) (by omega)
  rw [hw]
  by_cases c : (l.length : Int) ≤ a
  · have e : lft a l.length = a - l.length := by unfold lft; rw [if_pos c]
    rw [e]
    simp only [if_neg (show ¬ a - (l.length : Int) < 0 by omega)]
    refine ev_sz [] szP l (L := fun a i k => laws_szPlaneSS.l0 k l a i) (fun i a hi2 h0 h1 hn => ?_) (fun i a hi2 h0 h1 hn => ?_) (fun a => Ev.step' (f := fun _ => some a) (fun k => by simp only [laws_szPlaneSS.l0, if_neg (Int.lt_irrefl _)]) (Ev.now _)) _ (by omega) (by omega)
    · have c1 : (i : Int) < (l.length : Int) := by omega
      have c0 : 0 ≤ (i : Int) := by omega
      have hm := hi _ (getD_mem hi2 [])
      refine (To.step (f := fun k => (laws_szPlaneS.f k (l.getD i []) a).bind fun t => if t < 0 then some (-1) else laws_szPlaneSS.l0 k l t ((i + 1 : Nat) : Int)) (fun k => ?_)).trans ((To.bind (laws_szPlaneS_ev _ a hm.1 hm.2 h0 h1)).trans (To.congr fun k => ?_))
      · simp only [laws_szPlaneSS.l0, if_pos c1, if_pos c0, rdL3_nat, wrap_succ hi2 h']
      · rw [if_neg (by omega)]
    · have c1 : (i : Int) < (l.length : Int) := by omega
      have c0 : 0 ≤ (i : Int) := by omega
      have hm := hi _ (getD_mem hi2 [])
      refine Ev.step' (f := fun k => (laws_szPlaneS.f k (l.getD i []) a).bind fun t => if t < 0 then some (-1) else laws_szPlaneSS.l0 k l t ((i + 1 : Nat) : Int)) (fun k => ?_) (Ev.bind (laws_szPlaneS_ev _ a hm.1 hm.2 h0 h1) ?_)
      · simp only [laws_szPlaneSS.l0, if_pos c1, if_pos c0, rdL3_nat, wrap_succ hi2 h']
      · simp only [if_pos hn]; exact Ev.now _
  · have e : lft a l.length = -1 := by unfold lft; rw [if_neg c]
    rw [e]
    simp only [if_pos (show a - (l.length : Int) < 0 by omega), if_pos (show (-1 : Int) < 0 by omega)]
    exact Ev.now _

theorem laws_szNet_ev (d : Int) (l : List (List S119)) (a : Int) (h : l.length ≤ maxLen) (hi : ∀ x ∈ l, x.length ≤ maxLen ∧ ∀ y ∈ x, y.f0.length ≤ maxLen) (h0 : 0 ≤ a) (h1 : a ≤ 1048576) : Ev (fun k => laws_szNet.f k d l a) (lft a (szPP l)) := by
  refine Ev.bind (laws_szPlaneSS_ev l a h hi h0 h1) ?_
  by_cases c : lft a (szPP l) < 0
  · simp only [if_pos c, lft_neg c]; exact Ev.now _
  · simp only [if_neg c]; exact Ev.now _

theorem spec_l1In_eq (x a b : Int) : spec_l1In.f x a b = some (inR a b x) := in_tells a b x

theorem spec_l2Numbers_ev (l : List Int) (m : Int) (h : l.length ≤ maxLen) : Ev (fun k => spec_l2Numbers.f k l m) (l.all (inR (wrap64 (-m)) m)) := by
  unfold maxLen at h
  rw [← range_all l (inR (wrap64 (-m)) m) 0]
  refine ev_all (L := fun i k => spec_l2Numbers.l0 k l m i) (fun i hi hp => To.step fun k => ?_) (fun i hi hp => Ev.step' (f := fun _ => some false) (fun k => ?_) (Ev.now _)) (Ev.step' (f := fun _ => some true) (fun k => ?_) (Ev.now _))
  · have c1 : (i : Int) < (l.length : Int) := by omega
    have c0 : 0 ≤ (i : Int) := by omega
    simp only [spec_l2Numbers.l0, if_pos c1, if_pos c0, spec_l1In_eq, rd_nat, hp, Option.bind_some, if_true, wrap_succ hi h]
  · have c1 : (i : Int) < (l.length : Int) := by omega
    have c0 : 0 ≤ (i : Int) := by omega
    simp only [spec_l2Numbers.l0, if_pos c1, if_pos c0, spec_l1In_eq, rd_nat, hp, Option.bind_some, Bool.false_eq_true, if_false]
  · simp only [spec_l2Numbers.l0, if_neg (Int.lt_irrefl _)]

theorem spec_l2Plane_ev (l : List Int) (b : Int) (h : l.length ≤ maxLen) : Ev (fun k => spec_l2Plane.f k l b) (planeB l b) := by
  have e : ∀ k, spec_l2Plane.f k l b = if inR 1 4 l.length = true then (spec_l2Numbers.f k l 99).bind (fun t => if t = true then some (inR (-99) 99 b) else some false) else some false := fun k => by
    simp only [spec_l2Plane.f, spec_l1In_eq, Option.bind_some]
  refine Ev.congr e ?_
  unfold planeB
  cases inR 1 4 l.length with
  | false => exact Ev.now _
  | true =>
    simp only [if_true, Bool.true_and]
    refine Ev.bind (spec_l2Numbers_ev l 99 h) ?_
    rw [show wrap64 (-99) = -99 from wrap_id (by omega) (by omega)]
    cases l.all (inR (-99) 99) with
    | false => exact Ev.now _
    | true => exact Ev.now _

def layB : Int → List (List S98) → Bool
  | _, [] => true
  | d, y :: ys => y.all (fun x => planeB x.f0 x.f1 && ((x.f0.length : Int) == d)) && (inR 1 4 y.length && layB y.length ys)
def netB (d : Int) (N : List (List S98)) : Bool := inR 1 4 d && (inR 1 6 N.length && layB d N)
theorem spec_l9Good_row (N : List (List S98)) (D d : Int) (i : Nat) (y : List S98) (R : Bool) (hi : i < N.length) (h : N.length ≤ maxLen) (hy : N.getD i [] = y) (hl : y.length ≤ maxLen ∧ ∀ z ∈ y, z.f0.length ≤ maxLen) (hr : Ev (fun k => spec_l9Good.l0 k (y.length : Int) ((i + 1 : Nat) : Int) D N) R) :
    Ev (fun k => spec_l9Good.l1 k d i 0 D N) (y.all (fun x => planeB x.f0 x.f1 && ((x.f0.length : Int) == d)) && (inR 1 4 y.length && R)) := by
  have h' : N.length ≤ 9223372036854775807 := h
  have h2' : y.length ≤ 9223372036854775807 := hl.1
  have c1 : (i : Int) < (N.length : Int) := by omega
  have c0 : 0 ≤ (i : Int) := by omega
  refine ev_list z98 y (fun j (_ : Unit) k => spec_l9Good.l1 k d i j D N) (fun _ ys _ => ys.all (fun x => planeB x.f0 x.f1 && ((x.f0.length : Int) == d)) && (inR 1 4 y.length && R)) (fun _ _ => True) (fun _ _ => ?_) (fun j x ys _ hj hx hm _ ih => ?_) () trivial
  · rw [List.all_nil, Bool.true_and]
    refine Ev.step' (f := fun k => if inR 1 4 y.length = true then spec_l9Good.l0 k (y.length : Int) ((i + 1 : Nat) : Int) D N else some false) (fun k => by
      simp only [spec_l9Good.l1, if_pos c0, if_pos c1, rdL5_nat, hy, if_neg (Int.lt_irrefl _), spec_l1In_eq, Option.bind_some, wrap_succ hi h']) ?_
    cases inR 1 4 y.length with
    | false => simp only [Bool.false_eq_true, if_false, Bool.false_and]; exact Ev.now _
    | true => simp only [if_true, Bool.true_and]; exact hr
  · have d1 : (j : Int) < (y.length : Int) := by omega
    have d0 : 0 ≤ (j : Int) := by omega
    rw [List.all_cons, Bool.and_assoc, Bool.and_assoc]
    refine Ev.step' (f := fun k => (spec_l2Plane.f k x.f0 x.f1).bind fun t => if t = true then (if (x.f0.length : Int) = d then spec_l9Good.l1 k d i ((j + 1 : Nat) : Int) D N else some false) else some false) (fun k => by
      simp only [spec_l9Good.l1, if_pos c0, if_pos c1, rdL5_nat, hy, if_pos d1, if_pos d0, rdT98_nat, hx, wrap_succ hj h2']) (Ev.bind (spec_l2Plane_ev x.f0 x.f1 (hl.2 x hm)) ?_)
    cases planeB x.f0 x.f1 with
    | false => simp only [Bool.false_eq_true, if_false, Bool.false_and]; exact Ev.now _
    | true =>
      simp only [if_true, Bool.true_and]
      by_cases c : (x.f0.length : Int) = d
      · simp only [if_pos c, beq_iff_eq.2 c, Bool.true_and]; exact ih () trivial
      · simp only [if_neg c, beq_eq_false_iff_ne.2 c, Bool.false_and]; exact Ev.now _
theorem spec_l9Good_ev (d : Int) (N : List (List S98)) (h : N.length ≤ maxLen) (hi : ∀ x ∈ N, x.length ≤ maxLen ∧ ∀ y ∈ x, y.f0.length ≤ maxLen) : Ev (fun k => spec_l9Good.f k d N) (netB d N) := by
  have no : Ev (fun k => spec_l9Good.j0 k true d N) false := Ev.step' (f := fun _ => some false) (fun k => by simp only [spec_l9Good.j0, if_true]) (Ev.now _)
  unfold netB
  refine Ev.congr (f := fun k => if inR 1 4 d = true then spec_l9Good.j0 k (!(inR 1 6 N.length)) d N else spec_l9Good.j0 k true d N) (fun k => by simp only [spec_l9Good.f, spec_l1In_eq, Option.bind_some]) ?_
  cases inR 1 4 d with
  | false => simp only [Bool.false_eq_true, if_false, Bool.false_and]; exact no
  | true =>
    simp only [if_true, Bool.true_and]
    cases inR 1 6 N.length with
    | false => simpa using no
    | true =>
      refine Ev.step' (f := fun k => spec_l9Good.l0 k d 0 d N) (fun k => by simp [spec_l9Good.j0]) ?_
      rw [Bool.true_and]
      refine ev_list [] N (fun i (e : Int) k => spec_l9Good.l0 k e i d N) (fun _ ys e => layB e ys) (fun _ _ => True) (fun e _ => ?_) (fun i y ys e hi2 hy hm _ ih => ?_) d trivial
      · exact Ev.step' (f := fun _ => some true) (fun k => by simp only [spec_l9Good.l0, if_neg (Int.lt_irrefl _)]) (Ev.now _)
      · have c1 : (i : Int) < (N.length : Int) := by omega
        exact Ev.step' (fun k => by simp only [spec_l9Good.l0, if_pos c1]) (spec_l9Good_row N d e i y _ hi2 h hy (hi y hm) (ih _ trivial))

def absW (x : Int) : Int := if x > wrap64 (-x) then x else wrap64 (-x)
theorem spec_l1Most_eq (x : Int) : spec_l1Most.f x (wrap64 (-x)) = some (absW x) := by
  unfold spec_l1Most.f absW
  by_cases c : x > wrap64 (-x)
  · rw [if_pos c, if_pos c]
  · rw [if_neg c, if_neg c]
def sizeM (l : List Int) (s : Int) : Int := l.foldl (fun s x => wrap64 (s + absW x)) s
theorem size_add : ∀ (l : List Int) (s t : Int), sizeM l (wrap64 (s + t)) = wrap64 (s + sizeM l t)
  | [], s, t => rfl
  | x :: l, s, t => by
    have e : wrap64 (wrap64 (s + t) + absW x) = wrap64 (s + wrap64 (t + absW x)) := by
      generalize absW x = a
      unfold wrap64; omega
    show sizeM l (wrap64 (wrap64 (s + t) + absW x)) = wrap64 (s + sizeM l (wrap64 (t + absW x)))
    rw [e, size_add l s (wrap64 (t + absW x))]
theorem size_from (l : List Int) (s : Int) (h : wrap64 s = s) : sizeM l s = wrap64 (s + sizeM l 0) := by
  have e := size_add l s 0
  rw [Int.add_zero, h] at e
  exact e
theorem wrap_twice (x : Int) : wrap64 (wrap64 x) = wrap64 x := by unfold wrap64; omega

theorem spec_l5Size_ev (l : List Int) (h : l.length ≤ maxLen) : Ev (fun k => spec_l5Size.f k l) (sizeM l 0) := by
  have h' : l.length ≤ 9223372036854775807 := h
  refine ev_list 0 l (fun i (s : Int) k => spec_l5Size.l0 k l s i) (fun _ ys s => sizeM ys s) (fun _ _ => True) (fun s _ => ?_) (fun i y ys s hi2 hy hm _ ih => ?_) 0 trivial
  · exact Ev.step' (f := fun _ => some s) (fun k => by simp only [spec_l5Size.l0, if_neg (Int.lt_irrefl _)]) (Ev.now _)
  · have c1 : (i : Int) < (l.length : Int) := by omega
    have c0 : 0 ≤ (i : Int) := by omega
    exact Ev.step' (fun k => by simp only [spec_l5Size.l0, if_pos c1, if_pos c0, rd_nat, hy, spec_l1Most_eq, Option.bind_some, wrap_succ hi2 h']) (ih (wrap64 (s + absW y)) trivial)

def gateSum (s : Int) (x : S98) : Int := wrap64 (s + sizeM x.f0 0)
def weightSumM (d : Int) (N : List (List S98)) : Int × Bool := if netB d N = true then (N.foldl (fun s y => y.foldl gateSum s) 0, true) else (0, false)
theorem gates_wrap : ∀ (y : List S98) (s : Int), wrap64 s = s → wrap64 (y.foldl gateSum s) = y.foldl gateSum s
  | [], _, h => h
  | x :: y, s, _ => gates_wrap y (gateSum s x) (wrap_twice _)
theorem spec_WeightSum_row (N : List (List S98)) (D s : Int) (i : Nat) (y : List S98) (hi : i < N.length) (h : N.length ≤ maxLen) (hy : N.getD i [] = y) (hl : y.length ≤ maxLen ∧ ∀ z ∈ y, z.f0.length ≤ maxLen) :
    To (fun k => spec_WeightSum.l1 k s i 0 D N) (fun k => spec_WeightSum.l0 k (y.foldl gateSum s) ((i + 1 : Nat) : Int) D N) := by
  have h' : N.length ≤ 9223372036854775807 := h
  have h2' : y.length ≤ 9223372036854775807 := hl.1
  have c1 : (i : Int) < (N.length : Int) := by omega
  have c0 : 0 ≤ (i : Int) := by omega
  have hf := to_fold (L := fun j (s : Int) k => spec_WeightSum.l1 k s i j D N) (n := y.length) (f := fun j s => gateSum s (y.getD j z98)) (fun _ _ => True) (fun j s hj _ => ⟨?_, trivial⟩) s trivial
  · refine hf.1.trans (To.step fun k => ?_)
    rw [range_fold y gateSum z98 s]
    simp only [spec_WeightSum.l1, if_pos c0, if_pos c1, rdL5_nat, hy, if_neg (Int.lt_irrefl _), wrap_succ hi h']
  · have d1 : (j : Int) < (y.length : Int) := by omega
    have d0 : 0 ≤ (j : Int) := by omega
    refine (To.step (f := fun k => (spec_l5Size.f k (y.getD j z98).f0).bind fun t => spec_WeightSum.l1 k (wrap64 (s + t)) i ((j + 1 : Nat) : Int) D N) fun k => ?_).trans (To.bind (spec_l5Size_ev _ (hl.2 _ (getD_mem hj z98))))
    simp only [spec_WeightSum.l1, if_pos c0, if_pos c1, rdL5_nat, hy, if_pos d1, if_pos d0, rdT98_nat, wrap_succ hj h2']
theorem spec_WeightSum_ev (d : Int) (N : List (List S98)) (h : N.length ≤ maxLen) (hi : ∀ x ∈ N, x.length ≤ maxLen ∧ ∀ y ∈ x, y.f0.length ≤ maxLen) : Ev (fun k => spec_WeightSum.f k d N) (weightSumM d N) := by
  refine Ev.bind (spec_l9Good_ev d N h hi) ?_
  unfold weightSumM
  cases netB d N with
  | false => simp only [Bool.false_eq_true, if_false]; exact Ev.now _
  | true =>
    simp only [if_true]
    refine ev_list [] N (fun i (s : Int) k => spec_WeightSum.l0 k s i d N) (fun _ ys s => (ys.foldl (fun s y => y.foldl gateSum s) s, true)) (fun _ _ => True) (fun s _ => ?_) (fun i y ys s hi2 hy hm _ ih => ?_) 0 trivial
    · exact Ev.step' (f := fun _ => some (s, true)) (fun k => by simp only [spec_WeightSum.l0, if_neg (Int.lt_irrefl _)]) (Ev.now _)
    · have c1 : (i : Int) < (N.length : Int) := by omega
      rw [List.foldl_cons]
      exact Ev.step' (fun k => by simp only [spec_WeightSum.l0, if_pos c1]) (spec_WeightSum_row N d s i y hi2 h hy (hi y hm) _ (ih _ trivial))

theorem laws_toIntS_ev (l : List Int) (h : l.length ≤ 1048576) : Ev (fun k => laws_toIntS.f k l) l := by
  have hw : wrap64 (l.length : Int) = l.length := wrap_id (by omega) (by omega)
  have c0 : 0 ≤ (l.length : Int) := by omega
  have e : ∀ k, laws_toIntS.f k l = laws_toIntS.l0 k l (List.replicate l.length 0) 0 := fun k => by
    simp only [laws_toIntS.f, if_pos c0, Int.toNat_natCast]; rw [if_pos (by omega)]
  refine Ev.congr e ?_
  have hf := to_fold (L := fun i (s : List Int) k => laws_toIntS.l0 k l s i) (n := l.length) (f := fun i s => s.set i (l.getD i 0)) (fun i s => s = l.take i ++ List.replicate (l.length - i) 0) (fun i s hi hs => ⟨To.step fun k => ?_, ?_⟩) (List.replicate l.length 0) (by simp)
  · refine hf.1 _ (Ev.step' (f := fun _ => some l) (fun k => ?_) (Ev.now _))
    have := hf.2
    rw [Nat.sub_self, List.take_length, List.replicate_zero, List.append_nil] at this
    show laws_toIntS.l0 (k + 1) l _ _ = _
    rw [this]
    simp only [laws_toIntS.l0, if_neg (Int.lt_irrefl _)]
  · have c1 : (i : Int) < (l.length : Int) := by omega
    have c2 : (i : Int) < (s.length : Int) := by rw [hs, List.length_append, List.length_take, List.length_replicate]; omega
    have c3 : 0 ≤ (i : Int) := by omega
    simp only [laws_toIntS.l0, if_pos c1, if_pos c2, if_pos c3, rd_nat, Int.toNat_natCast, wrap_succ hi (by omega : l.length ≤ 9223372036854775807)]
  · show List.set s i _ = _
    rw [hs]; exact set_step l 0 0 i hi

theorem laws_toPlane_ev (l : List Int) (b : Int) (h : l.length ≤ 1048576) : Ev (fun k => laws_toPlane.f k l b) (l, b) := Ev.bind (laws_toIntS_ev l h) (Ev.now _)

def cvP (x : S119) : S98 := ⟨x.f0, x.f1⟩
theorem laws_toPlaneS_ev (l : List S119) (h : l.length ≤ 1048576) (hi : ∀ x ∈ l, x.f0.length ≤ 1048576) : Ev (fun k => laws_toPlaneS.f k l) (l.map cvP) := by
  have c0 : 0 ≤ (l.length : Int) := by omega
  have e : ∀ k, laws_toPlaneS.f k l = laws_toPlaneS.l0 k l (List.replicate l.length z98) 0 := fun k => by
    simp only [laws_toPlaneS.f, if_pos c0, Int.toNat_natCast]; rw [if_pos (by omega)]
  refine Ev.congr e ?_
  have hml : (l.map cvP).length = l.length := List.length_map _
  have hf := to_fold (L := fun i (s : List S98) k => laws_toPlaneS.l0 k l s i) (n := l.length) (f := fun i s => s.set i ((l.map cvP).getD i z98)) (fun i s => s = (l.map cvP).take i ++ List.replicate ((l.map cvP).length - i) z98) (fun i s hi2 hs => ⟨?_, ?_⟩) (List.replicate l.length z98) (by simp)
  · refine hf.1 _ (Ev.step' (f := fun _ => some (l.map cvP)) (fun k => ?_) (Ev.now _))
    have := hf.2
    rw [← hml, Nat.sub_self, List.take_length, List.replicate_zero, List.append_nil] at this
    show laws_toPlaneS.l0 (k + 1) l _ _ = _
    rw [← hml, this]
    simp only [laws_toPlaneS.l0, hml, if_neg (Int.lt_irrefl _)]
  · have c1 : (i : Int) < (l.length : Int) := by omega
    have c2 : (i : Int) < (s.length : Int) := by rw [hs, List.length_append, List.length_take, List.length_replicate]; omega
    have c3 : 0 ≤ (i : Int) := by omega
    have eg : (l.map cvP).getD i z98 = cvP (l.getD i z119) := by simp [List.getD_eq_getElem?_getD, hi2]
    refine (To.step (f := fun k => (laws_toPlane.f k (l.getD i z119).f0 (l.getD i z119).f1).bind fun b => laws_toPlaneS.l0 k l (s.set i ⟨b.1, b.2⟩) ((i + 1 : Nat) : Int)) (fun k => ?_)).trans ((To.bind (laws_toPlane_ev _ _ (hi _ (getD_mem hi2 z119)))).trans (To.congr fun k => ?_))
    · simp only [laws_toPlaneS.l0, if_pos c1, if_pos c2, if_pos c3, rdT119_nat, Int.toNat_natCast, wrap_succ hi2 (by omega : l.length ≤ 9223372036854775807)]
    · rw [eg]; rfl
  · show List.set s i _ = _
    rw [hs]; exact set_step (l.map cvP) z98 z98 i (by rw [hml]; exact hi2)

theorem laws_toPlaneSS_ev (l : List (List S119)) (h : l.length ≤ 1048576) (hi : ∀ x ∈ l, x.length ≤ 1048576 ∧ ∀ y ∈ x, y.f0.length ≤ 1048576) : Ev (fun k => laws_toPlaneSS.f k l) (l.map (List.map cvP)) := by
  have c0 : 0 ≤ (l.length : Int) := by omega
  have e : ∀ k, laws_toPlaneSS.f k l = laws_toPlaneSS.l0 k l (List.replicate l.length []) 0 := fun k => by
    simp only [laws_toPlaneSS.f, if_pos c0, Int.toNat_natCast]; rw [if_pos (by omega)]
  refine Ev.congr e ?_
  have hml : (l.map (List.map cvP)).length = l.length := List.length_map _
  have hf := to_fold (L := fun i (s : List (List S98)) k => laws_toPlaneSS.l0 k l s i) (n := l.length) (f := fun i s => s.set i ((l.map (List.map cvP)).getD i [])) (fun i s => s = (l.map (List.map cvP)).take i ++ List.replicate ((l.map (List.map cvP)).length - i) []) (fun i s hi2 hs => ⟨?_, ?_⟩) (List.replicate l.length []) (by simp)
  · refine hf.1 _ (Ev.step' (f := fun _ => some (l.map (List.map cvP))) (fun k => ?_) (Ev.now _))
    have := hf.2
    rw [← hml, Nat.sub_self, List.take_length, List.replicate_zero, List.append_nil] at this
    show laws_toPlaneSS.l0 (k + 1) l _ _ = _
    rw [← hml, this]
    simp only [laws_toPlaneSS.l0, hml, if_neg (Int.lt_irrefl _)]
  · have c1 : (i : Int) < (l.length : Int) := by omega
    have c2 : (i : Int) < (s.length : Int) := by rw [hs, List.length_append, List.length_take, List.length_replicate]; omega
    have c3 : 0 ≤ (i : Int) := by omega
    have hm := hi _ (getD_mem hi2 [])
    have eg : (l.map (List.map cvP)).getD i [] = List.map cvP (l.getD i []) := by simp [List.getD_eq_getElem?_getD, hi2]
    refine (To.step (f := fun k => (laws_toPlaneS.f k (l.getD i [])).bind fun b => laws_toPlaneSS.l0 k l (s.set i b) ((i + 1 : Nat) : Int)) (fun k => ?_)).trans ((To.bind (laws_toPlaneS_ev _ hm.1 hm.2)).trans (To.congr fun k => ?_))
    · simp only [laws_toPlaneSS.l0, if_pos c1, if_pos c2, if_pos c3, rdL3_nat, Int.toNat_natCast, wrap_succ hi2 (by omega : l.length ≤ 9223372036854775807)]
    · rw [eg]
  · show List.set s i _ = _
    rw [hs]; exact set_step (l.map (List.map cvP)) [] [] i (by rw [hml]; exact hi2)

theorem laws_toNet_ev (d : Int) (l : List (List S119)) (h : l.length ≤ 1048576) (hi : ∀ x ∈ l, x.length ≤ 1048576 ∧ ∀ y ∈ x, y.f0.length ≤ 1048576) : Ev (fun k => laws_toNet.f k d l) (d, l.map (List.map cvP)) := Ev.bind (laws_toPlaneSS_ev l h hi) (Ev.now _)

theorem impl_within_eq (x a b : Int) : impl_within.f x a b = some (inR a b x) := in_tells a b x

theorem impl_allWithin_ev (l : List Int) (a b : Int) (h : l.length ≤ maxLen) : Ev (fun k => impl_allWithin.f k l a b) (l.all (inR a b)) := by
  unfold maxLen at h
  rw [← range_all l (inR a b) 0]
  refine ev_all (L := fun i k => impl_allWithin.l0 k a b l (l.length : Int) i) (fun i hi hp => To.step fun k => ?_) (fun i hi hp => Ev.step' (f := fun _ => some false) (fun k => ?_) (Ev.now _)) (Ev.step' (f := fun _ => some true) (fun k => ?_) (Ev.now _))
  · have c1 : (i : Int) < (l.length : Int) := by omega
    have c0 : 0 ≤ (i : Int) := by omega
    simp only [impl_allWithin.l0, if_pos c1, if_pos c0, impl_within_eq, rd_nat, hp, Option.bind_some, if_true, wrap_succ hi h]
  · have c1 : (i : Int) < (l.length : Int) := by omega
    have c0 : 0 ≤ (i : Int) := by omega
    simp only [impl_allWithin.l0, if_pos c1, if_pos c0, impl_within_eq, rd_nat, hp, Option.bind_some, Bool.false_eq_true, if_false]
  · simp only [impl_allWithin.l0, if_neg (Int.lt_irrefl _)]

theorem impl_IsPlane_ev (l : List Int) (b : Int) (h : l.length ≤ maxLen) : Ev (fun k => impl_IsPlane.f k l b) (planeB l b) := by
  have e : ∀ k, impl_IsPlane.f k l b = if inR 1 4 l.length = true then (impl_allWithin.f k l (-99) 99).bind (fun t => if t = true then some (inR (-99) 99 b) else some false) else some false := fun k => by
    simp only [impl_IsPlane.f, impl_within_eq, Option.bind_some]
  refine Ev.congr e ?_
  unfold planeB
  cases inR 1 4 l.length with
  | false => exact Ev.now _
  | true =>
    simp only [if_true, Bool.true_and]
    refine Ev.bind (impl_allWithin_ev l (-99) 99 h) ?_
    cases l.all (inR (-99) 99) with
    | false => exact Ev.now _
    | true => exact Ev.now _

theorem impl_IsNet_row (N : List (List S98)) (d : Int) (i : Nat) (y : List S98) (R : Bool) (hi : i < N.length) (h : N.length ≤ maxLen) (hl : y.length ≤ maxLen ∧ ∀ z ∈ y, z.f0.length ≤ maxLen) (hr : Ev (fun k => impl_IsNet.l0 k (y.length : Int) N (N.length : Int) ((i + 1 : Nat) : Int)) R) :
    Ev (fun k => impl_IsNet.l1 k d y N (N.length : Int) i y (y.length : Int) 0) (y.all (fun x => planeB x.f0 x.f1 && ((x.f0.length : Int) == d)) && R) := by
  have h' : N.length ≤ 9223372036854775807 := h
  have h2' : y.length ≤ 9223372036854775807 := hl.1
  refine ev_list z98 y (fun j (_ : Unit) k => impl_IsNet.l1 k d y N (N.length : Int) i y (y.length : Int) j) (fun _ ys _ => ys.all (fun x => planeB x.f0 x.f1 && ((x.f0.length : Int) == d)) && R) (fun _ _ => True) (fun _ _ => ?_) (fun j x ys _ hj hx hm _ ih => ?_) () trivial
  · rw [List.all_nil, Bool.true_and]
    exact Ev.step' (fun k => by simp only [impl_IsNet.l1, if_neg (Int.lt_irrefl _), wrap_succ hi h']) hr
  · have d1 : (j : Int) < (y.length : Int) := by omega
    have d0 : 0 ≤ (j : Int) := by omega
    rw [List.all_cons, Bool.and_assoc, Bool.and_assoc]
    refine Ev.step' (f := fun k => (impl_IsPlane.f k x.f0 x.f1).bind fun t => if t = true then (if (x.f0.length : Int) = d then impl_IsNet.l1 k d y N (N.length : Int) i y (y.length : Int) ((j + 1 : Nat) : Int) else some false) else some false) (fun k => by
      simp only [impl_IsNet.l1, if_pos d1, if_pos d0, rdT98_nat, hx, wrap_succ hj h2']) (Ev.bind (impl_IsPlane_ev x.f0 x.f1 (hl.2 x hm)) ?_)
    cases planeB x.f0 x.f1 with
    | false => simp only [Bool.false_eq_true, if_false, Bool.false_and]; exact Ev.now _
    | true =>
      simp only [if_true, Bool.true_and]
      by_cases c : (x.f0.length : Int) = d
      · simp only [if_pos c, beq_iff_eq.2 c, Bool.true_and]; exact ih () trivial
      · simp only [if_neg c, beq_eq_false_iff_ne.2 c, Bool.false_and]; exact Ev.now _
theorem impl_IsNet_ev (d : Int) (N : List (List S98)) (h : N.length ≤ maxLen) (hi : ∀ x ∈ N, x.length ≤ maxLen ∧ ∀ y ∈ x, y.f0.length ≤ maxLen) : Ev (fun k => impl_IsNet.f k d N) (netB d N) := by
  have no : Ev (fun k => impl_IsNet.j0 k true d N) false := Ev.step' (f := fun _ => some false) (fun k => by simp only [impl_IsNet.j0, if_true]) (Ev.now _)
  unfold netB
  refine Ev.congr (f := fun k => if inR 1 4 d = true then impl_IsNet.j0 k (!(inR 1 6 N.length)) d N else impl_IsNet.j0 k true d N) (fun k => by simp only [impl_IsNet.f, impl_within_eq, Option.bind_some]) ?_
  cases inR 1 4 d with
  | false => simp only [Bool.false_eq_true, if_false, Bool.false_and]; exact no
  | true =>
    simp only [if_true, Bool.true_and]
    cases inR 1 6 N.length with
    | false => simpa using no
    | true =>
      refine Ev.step' (f := fun k => impl_IsNet.l0 k d N (N.length : Int) 0) (fun k => by simp [impl_IsNet.j0]) ?_
      rw [Bool.true_and]
      refine ev_list [] N (fun i (e : Int) k => impl_IsNet.l0 k e N (N.length : Int) i) (fun _ ys e => layB e ys) (fun _ _ => True) (fun e _ => ?_) (fun i y ys e hi2 hy hm _ ih => ?_) d trivial
      · exact Ev.step' (f := fun _ => some true) (fun k => by simp only [impl_IsNet.l0, if_neg (Int.lt_irrefl _)]) (Ev.now _)
      · have c1 : (i : Int) < (N.length : Int) := by omega
        have c0 : 0 ≤ (i : Int) := by omega
        show Ev _ (y.all (fun x => planeB x.f0 x.f1 && ((x.f0.length : Int) == e)) && (inR 1 4 y.length && layB y.length ys))
        rw [Bool.and_left_comm]
        refine Ev.step' (f := fun k => if inR 1 4 y.length = true then impl_IsNet.l1 k e y N (N.length : Int) i y (y.length : Int) 0 else some false) (fun k => by simp only [impl_IsNet.l0, if_pos c1, if_pos c0, rdL5_nat, hy, impl_within_eq, Option.bind_some]) ?_
        cases inR 1 4 y.length with
        | false => simp only [Bool.false_eq_true, if_false, Bool.false_and]; exact Ev.now _
        | true =>
          simp only [if_true, Bool.true_and]
          exact impl_IsNet_row N e i y _ hi2 h (hi y hm) (ih _ trivial)

theorem mx_abs (x : Int) : mx x (wrap64 (-x)) = absW x := by
  unfold mx absW
  repeat split
  all_goals omega
theorem impl_WeightSum_gate (N : List (List S98)) (s : Int) (i j : Nat) (y : List S98) (x : List Int) (hj : j < y.length) (h2 : y.length ≤ maxLen) (h3 : x.length ≤ maxLen) :
    To (fun k => impl_WeightSum.l2 k s N (N.length : Int) i y (y.length : Int) j x (x.length : Int) 0) (fun k => impl_WeightSum.l1 k (sizeM x s) N (N.length : Int) i y (y.length : Int) ((j + 1 : Nat) : Int)) := by
  have h2' : y.length ≤ 9223372036854775807 := h2
  have h3' : x.length ≤ 9223372036854775807 := h3
  have hf := to_fold (L := fun q (s : Int) k => impl_WeightSum.l2 k s N (N.length : Int) i y (y.length : Int) j x (x.length : Int) q) (n := x.length) (f := fun q s => wrap64 (s + absW (x.getD q 0))) (fun _ _ => True) (fun q s hq _ => ⟨To.step fun k => ?_, trivial⟩) s trivial
  · refine hf.1.trans (To.step fun k => ?_)
    rw [range_fold x (fun s v => wrap64 (s + absW v)) 0 s]
    simp only [impl_WeightSum.l2, if_neg (Int.lt_irrefl _), wrap_succ hj h2']
    rfl
  · have d1 : (q : Int) < (x.length : Int) := by omega
    have d0 : 0 ≤ (q : Int) := by omega
    simp only [impl_WeightSum.l2, if_pos d1, if_pos d0, rd_nat, mx_abs, wrap_succ hq h3']
theorem impl_WeightSum_row (N : List (List S98)) (s : Int) (i : Nat) (y : List S98) (hs : wrap64 s = s) (hi : i < N.length) (h : N.length ≤ maxLen) (hl : y.length ≤ maxLen ∧ ∀ z ∈ y, z.f0.length ≤ maxLen) :
    To (fun k => impl_WeightSum.l1 k s N (N.length : Int) i y (y.length : Int) 0) (fun k => impl_WeightSum.l0 k (y.foldl gateSum s) N (N.length : Int) ((i + 1 : Nat) : Int)) := by
  have h' : N.length ≤ 9223372036854775807 := h
  have hf := to_fold (L := fun j (s : Int) k => impl_WeightSum.l1 k s N (N.length : Int) i y (y.length : Int) j) (n := y.length) (f := fun j s => gateSum s (y.getD j z98)) (fun _ s => wrap64 s = s) (fun j s hj hs => ⟨?_, wrap_twice _⟩) s hs
  · refine hf.1.trans (To.step fun k => ?_)
    rw [range_fold y gateSum z98 s]
    simp only [impl_WeightSum.l1, if_neg (Int.lt_irrefl _), wrap_succ hi h']
  · have d1 : (j : Int) < (y.length : Int) := by omega
    have d0 : 0 ≤ (j : Int) := by omega
    have e : gateSum s (y.getD j z98) = sizeM (y.getD j z98).f0 s := (size_from _ s hs).symm
    simp only [e]
    refine (To.step (f := fun k => impl_WeightSum.l2 k s N (N.length : Int) i y (y.length : Int) j (y.getD j z98).f0 ((y.getD j z98).f0.length : Int) 0) fun k => ?_).trans (impl_WeightSum_gate N s i j y _ hj hl.1 (hl.2 _ (getD_mem hj z98)))
    simp only [impl_WeightSum.l1, if_pos d1, if_pos d0, rdT98_nat]
theorem impl_WeightSum_ev (d : Int) (N : List (List S98)) (h : N.length ≤ maxLen) (hi : ∀ x ∈ N, x.length ≤ maxLen ∧ ∀ y ∈ x, y.f0.length ≤ maxLen) : Ev (fun k => impl_WeightSum.f k d N) (weightSumM d N) := by
  refine Ev.bind (impl_IsNet_ev d N h hi) ?_
  unfold weightSumM
  cases netB d N with
  | false => simp only [Bool.false_eq_true, if_false]; exact Ev.now _
  | true =>
    simp only [if_true]
    refine ev_list [] N (fun i (s : Int) k => impl_WeightSum.l0 k s N (N.length : Int) i) (fun _ ys s => (ys.foldl (fun s y => y.foldl gateSum s) s, true)) (fun _ s => wrap64 s = s) (fun s _ => ?_) (fun i y ys s hi2 hy hm hs ih => ?_) 0 (wrap_id (by omega) (by omega))
    · exact Ev.step' (f := fun _ => some (s, true)) (fun k => by simp only [impl_WeightSum.l0, if_neg (Int.lt_irrefl _)]) (Ev.now _)
    · have c1 : (i : Int) < (N.length : Int) := by omega
      have c0 : 0 ≤ (i : Int) := by omega
      rw [List.foldl_cons]
      exact Ev.step' (fun k => by simp only [impl_WeightSum.l0, if_pos c1, if_pos c0, rdL5_nat, hy]) (impl_WeightSum_row N s i y hs hi2 h (hi y hm) _ (ih _ (gates_wrap y s hs)))

theorem laws_eqIntS_ev (l : List Int) (h : l.length ≤ maxLen) : Ev (fun k => laws_eqIntS.f k l l) true := by
  unfold maxLen at h
  refine Ev.congr (f := fun k => laws_eqIntS.l0 k l l 0) (fun k => by simp only [laws_eqIntS.f, if_true]) ?_
  refine ev_yes (L := fun i k => laws_eqIntS.l0 k l l i) (n := l.length) (fun i hi => To.step fun k => ?_) (Ev.step' (f := fun _ => some true) (fun k => ?_) (Ev.now _))
  · have c1 : (i : Int) < (l.length : Int) := by omega
    have c0 : 0 ≤ (i : Int) := by omega
    simp only [laws_eqIntS.l0, if_pos c1, if_pos c0, if_true, wrap_succ hi h]
  · simp only [laws_eqIntS.l0, if_neg (Int.lt_irrefl _)]

theorem laws_eqPlane_ev (l : List Int) (b : Int) (h : l.length ≤ maxLen) : Ev (fun k => laws_eqPlane.f k l b l b) true := Ev.bind (laws_eqIntS_ev l h) (Ev.congr (f := fun _ => some true) (fun k => by simp only [if_true]) (Ev.now _))

theorem laws_eqPlaneS_ev (l : List S98) (h : l.length ≤ maxLen) (hi : ∀ x ∈ l, x.f0.length ≤ maxLen) : Ev (fun k => laws_eqPlaneS.f k l l) true := by
  have h' : l.length ≤ 9223372036854775807 := h
  refine Ev.congr (f := fun k => laws_eqPlaneS.l0 k l l 0) (fun k => by simp only [laws_eqPlaneS.f, if_true]) ?_
  refine ev_yes (L := fun i k => laws_eqPlaneS.l0 k l l i) (n := l.length) (fun i hi2 => ?_) (Ev.step' (f := fun _ => some true) (fun k => ?_) (Ev.now _))
  · have c1 : (i : Int) < (l.length : Int) := by omega
    have c0 : 0 ≤ (i : Int) := by omega
    refine (To.step (f := fun k => (laws_eqPlane.f k (l.getD i z98).f0 (l.getD i z98).f1 (l.getD i z98).f0 (l.getD i z98).f1).bind fun t => if t = true then laws_eqPlaneS.l0 k l l ((i + 1 : Nat) : Int) else some false) (fun k => ?_)).trans ((To.bind (laws_eqPlane_ev _ _ (hi _ (getD_mem hi2 z98)))).trans (To.congr fun k => by simp only [if_true]))
    simp only [laws_eqPlaneS.l0, if_pos c1, if_pos c0, rdT98_nat, wrap_succ hi2 h']
  · simp only [laws_eqPlaneS.l0, if_neg (Int.lt_irrefl _)]

theorem laws_eqPlaneSS_ev (l : List (List S98)) (h : l.length ≤ maxLen) (hi : ∀ x ∈ l, x.length ≤ maxLen ∧ ∀ y ∈ x, y.f0.length ≤ maxLen) : Ev (fun k => laws_eqPlaneSS.f k l l) true := by
  have h' : l.length ≤ 9223372036854775807 := h
  refine Ev.congr (f := fun k => laws_eqPlaneSS.l0 k l l 0) (fun k => by simp only [laws_eqPlaneSS.f, if_true]) ?_
  refine ev_yes (L := fun i k => laws_eqPlaneSS.l0 k l l i) (n := l.length) (fun i hi2 => ?_) (Ev.step' (f := fun _ => some true) (fun k => ?_) (Ev.now _))
  · have c1 : (i : Int) < (l.length : Int) := by omega
    have c0 : 0 ≤ (i : Int) := by omega
    have hm := hi _ (getD_mem hi2 [])
    refine (To.step (f := fun k => (laws_eqPlaneS.f k (l.getD i []) (l.getD i [])).bind fun t => if t = true then laws_eqPlaneSS.l0 k l l ((i + 1 : Nat) : Int) else some false) (fun k => ?_)).trans ((To.bind (laws_eqPlaneS_ev _ hm.1 hm.2)).trans (To.congr fun k => by simp only [if_true]))
    simp only [laws_eqPlaneSS.l0, if_pos c1, if_pos c0, rdL5_nat, wrap_succ hi2 h']
  · simp only [laws_eqPlaneSS.l0, if_neg (Int.lt_irrefl _)]

theorem laws_eqNet_ev (d : Int) (l : List (List S98)) (h : l.length ≤ maxLen) (hi : ∀ x ∈ l, x.length ≤ maxLen ∧ ∀ y ∈ x, y.f0.length ≤ maxLen) : Ev (fun k => laws_eqNet.f k d l d l) true := by
  refine Ev.congr (f := fun k => (laws_eqPlaneSS.f k l l).bind fun t => if t = true then some true else some false) (fun k => by simp only [laws_eqNet.f, if_true]) ?_
  exact Ev.bind (laws_eqPlaneSS_ev l h hi) (Ev.congr (f := fun _ => some true) (fun k => by simp only [if_true]) (Ev.now _))

theorem pure : SFnExactWeightSum.Pure := by
  intro d N _ ⟨h, hi0⟩
  have hi : ∀ x ∈ N, x.length ≤ maxLen ∧ ∀ y ∈ x, y.f0.length ≤ maxLen := fun x hx => ⟨(hi0 x hx).1, fun y hy => ((hi0 x hx).2 y hy).1.1⟩
  obtain ⟨K1, k1⟩ := laws_szNet_ev d N 1048576 h hi (by omega) (by omega)
  by_cases cn : lft 1048576 (szPP N) < 0
  · exact .inl ⟨K1, _, k1 K1 (by omega), cn⟩
  · have q := lft_nonneg (Int.not_lt.1 cn)
    have hs := szPP_small (l := N) (n := 1048576) (by omega)
    have hm : (N.map (List.map cvP)).length ≤ maxLen := by rw [List.length_map]; exact h
    have hmi : ∀ x ∈ N.map (List.map cvP), x.length ≤ maxLen ∧ ∀ y ∈ x, y.f0.length ≤ maxLen := fun x hx => by
      obtain ⟨z, hz, rfl⟩ := List.mem_map.1 hx
      refine ⟨by rw [List.length_map]; exact (hi z hz).1, fun y hy => ?_⟩
      obtain ⟨u, hu, rfl⟩ := List.mem_map.1 hy
      exact (hi z hz).2 u hu
    obtain ⟨K2, k2⟩ := laws_toNet_ev d N hs.1 hs.2
    obtain ⟨K3, k3⟩ := spec_WeightSum_ev d _ hm hmi
    obtain ⟨K4, k4⟩ := impl_WeightSum_ev d _ hm hmi
    obtain ⟨K5, k5⟩ := laws_eqNet_ev d _ hm hmi
    let K := K1 + K2 + K3 + K4 + K5
    exact .inr ⟨K, _, _, _, _, _, k1 K (by omega), k2 K (by omega), k3 K (by omega), k4 K (by omega), k5 K (by omega), Int.not_lt.1 cn⟩
end Go.Proofs.Ytpboffjnnnmicaa.QFnExactWeightSum
