/- FnExactSinglePlane: what its calls come to, shown of numbers and lists alone. -/
import Derived.Test.YtfkfahdikmfpeaaSFnExactSinglePlane
import Derived.Test.YtfkfahdikmfpeaaLb
namespace Go.Proofs.Ytfkfahdikmfpeaa.QFnExactSinglePlane
open Go.RowKit Go.Proofs.Ytfkfahdikmfpeaa.KFnExactSinglePlane Go.Proofs.Ytfkfahdikmfpeaa.Lb Go.Proofs.Ytfkfahdikmfpeaa.PFnExactSinglePlane Go.Proofs.YtfkfahdikmfpeaaW.PrintWords Go.Proofs.YtfkfahdikmfpeaaW.PrintLast Go.Proofs.YtfkfahdikmfpeaaW.PrintMore
set_option linter.unusedVariables false
set_option linter.unusedSimpArgs false
def planeB (w : List Int) (b : Int) : Bool := inR 1 4 w.length && (w.all (inR (-99) 99) && inR (-99) 99 b)
def sideW (w : List Int) (b : Int) (x : List Int) : Int := if dotW w x ≥ b then 1 else -1
theorem rdL1_nat (xs : List (List Int)) (i : Nat) : rd_L1 xs (i : Int) = xs.getD i [] := by simp [rd_L1]
theorem rdL3_nat (xs : List (List S39)) (i : Nat) : rd_L3 xs (i : Int) = xs.getD i [] := by simp [rd_L3]
theorem rdL5_nat (xs : List (List S146)) (i : Nat) : rd_L5 xs (i : Int) = xs.getD i [] := by simp [rd_L5]
theorem rdT39_nat (xs : List S39) (i : Nat) : rd_T39 xs (i : Int) = xs.getD i z39 := by simp [rd_T39]
theorem rdT146_nat (xs : List S146) (i : Nat) : rd_T146 xs (i : Int) = xs.getD i z146 := by simp [rd_T146]
def markP (a : Int) (x : S39) : S39 := ⟨iota a x.f0, a + x.f0.length⟩
def wtPP (y : List S39) : Nat := sumN (fun x : S39 => x.f0.length + 1) y
def markPP (a : Int) (y : List S39) : List S39 := markL (fun x : S39 => x.f0.length + 1) markP a y
theorem laws_eqIntS_ev (l : List Int) (h : l.length ≤ maxLen) : Ev (fun k => laws_eqIntS.f k l l) true := by
 unfold maxLen at h
 refine Ev.congr (f := fun k => laws_eqIntS.l0 k l l 0) (fun k => by simp only [laws_eqIntS.f, if_true]) ?_
 refine ev_yes (L := fun i k => laws_eqIntS.l0 k l l i) (n := l.length) (fun i hi => To.step fun k => ?_) (Ev.step' (f := fun _ => some true) (fun k => ?_) (Ev.now _))
 · have c1 : (i : Int) < (l.length : Int) := by omega
   have c0 : 0 ≤ (i : Int) := by omega
   simp only [laws_eqIntS.l0, if_pos c1, if_pos c0, if_true, wrap_succ hi h]
 · simp only [laws_eqIntS.l0, if_neg (Int.lt_irrefl _)]
theorem laws_eqPlane_ev (l : List Int) (b : Int) (h : l.length ≤ maxLen) : Ev (fun k => laws_eqPlane.f k l b l b) true := Ev.bind (laws_eqIntS_ev l h) (Ev.congr (f := fun _ => some true) (fun k => by simp only [if_true]) (Ev.now _))
theorem laws_eqPlaneS_ev (l : List S39) (h : l.length ≤ maxLen) (hi : ∀ x ∈ l, x.f0.length ≤ maxLen) : Ev (fun k => laws_eqPlaneS.f k l l) true := by
 have h' : l.length ≤ 9223372036854775807 := h
 refine Ev.congr (f := fun k => laws_eqPlaneS.l0 k l l 0) (fun k => by simp only [laws_eqPlaneS.f, if_true]) ?_
 refine ev_yes (L := fun i k => laws_eqPlaneS.l0 k l l i) (n := l.length) (fun i hi2 => ?_) (Ev.step' (f := fun _ => some true) (fun k => ?_) (Ev.now _))
 · have c1 : (i : Int) < (l.length : Int) := by omega
   have c0 : 0 ≤ (i : Int) := by omega
   refine (To.step (f := fun k => (laws_eqPlane.f k (l.getD i z39).f0 (l.getD i z39).f1 (l.getD i z39).f0 (l.getD i z39).f1).bind fun t => if t = true then laws_eqPlaneS.l0 k l l ((i + 1 : Nat) : Int) else some false) (fun k => ?_)).trans ((To.bind (laws_eqPlane_ev _ _ (hi _ (getD_mem hi2 z39)))).trans (To.congr fun k => by simp only [if_true]))
   simp only [laws_eqPlaneS.l0, if_pos c1, if_pos c0, rdT39_nat, wrap_succ hi2 h']
 · simp only [laws_eqPlaneS.l0, if_neg (Int.lt_irrefl _)]
theorem laws_eqPlaneSS_ev (l : List (List S39)) (h : l.length ≤ maxLen) (hi : ∀ x ∈ l, x.length ≤ maxLen ∧ ∀ y ∈ x, y.f0.length ≤ maxLen) : Ev (fun k => laws_eqPlaneSS.f k l l) true := by
 have h' : l.length ≤ 9223372036854775807 := h
 refine Ev.congr (f := fun k => laws_eqPlaneSS.l0 k l l 0) (fun k => by simp only [laws_eqPlaneSS.f, if_true]) ?_
 refine ev_yes (L := fun i k => laws_eqPlaneSS.l0 k l l i) (n := l.length) (fun i hi2 => ?_) (Ev.step' (f := fun _ => some true) (fun k => ?_) (Ev.now _))
 · have c1 : (i : Int) < (l.length : Int) := by omega
   have c0 : 0 ≤ (i : Int) := by omega
   have hm := hi _ (getD_mem hi2 [])
   refine (To.step (f := fun k => (laws_eqPlaneS.f k (l.getD i []) (l.getD i [])).bind fun t => if t = true then laws_eqPlaneSS.l0 k l l ((i + 1 : Nat) : Int) else some false) (fun k => ?_)).trans ((To.bind (laws_eqPlaneS_ev _ hm.1 hm.2)).trans (To.congr fun k => by simp only [if_true]))
   simp only [laws_eqPlaneSS.l0, if_pos c1, if_pos c0, rdL3_nat, wrap_succ hi2 h']
 · simp only [laws_eqPlaneSS.l0, if_neg (Int.lt_irrefl _)]
theorem laws_eqNet_ev (d : Int) (l : List (List S39)) (h : l.length ≤ maxLen) (hi : ∀ x ∈ l, x.length ≤ maxLen ∧ ∀ y ∈ x, y.f0.length ≤ maxLen) : Ev (fun k => laws_eqNet.f k d l d l) true := by
 refine Ev.congr (f := fun k => (laws_eqPlaneSS.f k l l).bind fun t => if t = true then some true else some false) (fun k => by simp only [laws_eqNet.f, if_true]) ?_
 exact Ev.bind (laws_eqPlaneSS_ev l h hi) (Ev.congr (f := fun _ => some true) (fun k => by simp only [if_true]) (Ev.now _))
theorem laws_markIntS_ev (l : List Int) (a : Int) (h0 : 0 ≤ a) (h1 : a + l.length ≤ 1000000000000) : Ev (fun k => laws_markIntS.f k l a) (a + l.length, iota a l) := by
 have e := ev_mark (0 : Int) (fun _ => 1) (fun a _ => a) l 1000000000000 (L := fun ys a i k => laws_markIntS.l0 k ys a i) (fun ys a i x hi hl hx hm ha hb => To.step fun k => by
  have c1 : (i : Int) < (ys.length : Int) := by omega
  have c3 : 0 ≤ (i : Int) := by omega
  have e : wrap64 (a + 1) = a + ((1 : Nat) : Int) := wrap_id (by omega) (by simpa using (by omega : a + 1 ≤ 9223372036854775807))
  simp only [laws_markIntS.l0, if_pos c1, if_pos c3, Int.toNat_natCast, wrap_succ (i := i) (n := ys.length) (by omega) (by omega), e]) (fun ys a hl => Ev.step' (f := fun _ => some (a, ys)) (fun k => by
  simp only [laws_markIntS.l0, hl, if_neg (Int.lt_irrefl _)]) (Ev.now _)) a h0 (by rw [sumN_one]; exact h1)
 rw [sumN_one] at e
 exact e
theorem laws_szIntS_eq (l : List Int) (a : Int) (h : l.length ≤ maxLen) (h0 : 0 ≤ a) (h1 : a ≤ 1048576) : laws_szIntS.f l a = some (lft a l.length) := by
 unfold maxLen at h
 have hw : wrap64 (a - (l.length : Int)) = a - l.length := wrap_id (by omega) (by omega)
 unfold laws_szIntS.f lft
 rw [hw]
 by_cases c : (l.length : Int) ≤ a
 · rw [if_neg (by omega), if_pos c]
 · rw [if_pos (by omega), if_neg c]
theorem laws_szPlane_eq (l : List Int) (b a : Int) (h : l.length ≤ maxLen) (h0 : 0 ≤ a) (h1 : a ≤ 1048576) : laws_szPlane.f l b a = some (lft a l.length) := by
 unfold laws_szPlane.f
 rw [laws_szIntS_eq l a h h0 h1]
 simp only [Option.bind_some]
 by_cases c : lft a l.length < 0
 · rw [if_pos c, lft_neg c]
 · rw [if_neg c]
def szP (l : List S146) : Nat := l.length + sumN (fun x : S146 => x.f0.length) l
theorem szP_small {l : List S146} {n : Nat} (h : szP l ≤ n) : l.length ≤ n ∧ ∀ x ∈ l, x.f0.length ≤ n := by
 unfold szP at h
 exact ⟨by omega, fun x hx => by have := sumN_mem (fun x : S146 => x.f0.length) hx; omega⟩
theorem laws_szPlaneS_ev (l : List S146) (a : Int) (h : l.length ≤ maxLen) (hi : ∀ x ∈ l, x.f0.length ≤ maxLen) (h0 : 0 ≤ a) (h1 : a ≤ 1048576) : Ev (fun k => laws_szPlaneS.f k l a) (lft a (szP l)) := by
 have h' : l.length ≤ 9223372036854775807 := h
 unfold szP laws_szPlaneS.f
 rw [← lft_add a _ _ h0]
 have hw : wrap64 (a - (l.length : Int)) = a - l.length := wrap_id (by omega) (by omega)
 rw [hw]
 by_cases c : (l.length : Int) ≤ a
 · have e : lft a l.length = a - l.length := by unfold lft; rw [if_pos c]
   rw [e]
   simp only [if_neg (show ¬ a - (l.length : Int) < 0 by omega)]
   refine ev_sz z146 (fun x : S146 => x.f0.length) l (L := fun a i k => laws_szPlaneS.l0 k l a i) (fun i a hi2 h0 h1 hn => ?_) (fun i a hi2 h0 h1 hn => ?_) (fun a => Ev.step' (f := fun _ => some a) (fun k => by simp only [laws_szPlaneS.l0, if_neg (Int.lt_irrefl _)]) (Ev.now _)) _ (by omega) (by omega)
   · have c1 : (i : Int) < (l.length : Int) := by omega
     have c0 : 0 ≤ (i : Int) := by omega
     refine To.step (fun k => ?_)
     simp only [laws_szPlaneS.l0, if_pos c1, if_pos c0, rdT146_nat, laws_szPlane_eq _ _ a (hi _ (getD_mem hi2 z146)) h0 h1, Option.bind_some, if_neg (show ¬ lft a (l.getD i z146).f0.length < 0 by omega), wrap_succ hi2 h']
   · have c1 : (i : Int) < (l.length : Int) := by omega
     have c0 : 0 ≤ (i : Int) := by omega
     refine Ev.step' (f := fun _ => some (-1)) (fun k => ?_) (Ev.now _)
     simp only [laws_szPlaneS.l0, if_pos c1, if_pos c0, rdT146_nat, laws_szPlane_eq _ _ a (hi _ (getD_mem hi2 z146)) h0 h1, Option.bind_some, if_pos hn]
 · have e : lft a l.length = -1 := by unfold lft; rw [if_neg c]
   rw [e]
   simp only [if_pos (show a - (l.length : Int) < 0 by omega), if_pos (show (-1 : Int) < 0 by omega)]
   exact Ev.now _
def szPP (l : List (List S146)) : Nat := l.length + sumN szP l
theorem szPP_small {l : List (List S146)} {n : Nat} (h : szPP l ≤ n) : l.length ≤ n ∧ ∀ x ∈ l, x.length ≤ n ∧ ∀ y ∈ x, y.f0.length ≤ n := by
 unfold szPP at h
 exact ⟨by omega, fun x hx => by have := sumN_mem szP hx; exact szP_small (by omega)⟩
theorem laws_szPlaneSS_ev (l : List (List S146)) (a : Int) (h : l.length ≤ maxLen) (hi : ∀ x ∈ l, x.length ≤ maxLen ∧ ∀ y ∈ x, y.f0.length ≤ maxLen) (h0 : 0 ≤ a) (h1 : a ≤ 1048576) : Ev (fun k => laws_szPlaneSS.f k l a) (lft a (szPP l)) := by
 have h' : l.length ≤ 9223372036854775807 := h
 unfold szPP laws_szPlaneSS.f
 rw [← lft_add a _ _ h0]
 have hw : wrap64 (a - (l.length : Int)) = a - l.length := wrap_id (by omega) (by omega)
 rw [hw]
 by_cases c : (l.length : Int) ≤ a
 · have e : lft a l.length = a - l.length := by unfold lft; rw [if_pos c]
   rw [e]
   simp only [if_neg (show ¬ a - (l.length : Int) < 0 by omega)]
   refine ev_sz [] szP l (L := fun a i k => laws_szPlaneSS.l0 k l a i) (fun i a hi2 h0 h1 hn => ?_) (fun i a hi2 h0 h1 hn => ?_) (fun a => Ev.step' (f := fun _ => some a) (fun k => by simp only [laws_szPlaneSS.l0, if_neg (Int.lt_irrefl _)]) (Ev.now _)) _ (by omega) (by omega)
   · have c1 : (i : Int) < (l.length : Int) := by omega
     have c0 : 0 ≤ (i : Int) := by omega
     have hm := hi _ (getD_mem hi2 [])
     refine (To.step (f := fun k => (laws_szPlaneS.f k (l.getD i []) a).bind fun t => if t < 0 then some (-1) else laws_szPlaneSS.l0 k l t ((i + 1 : Nat) : Int)) (fun k => ?_)).trans ((To.bind (laws_szPlaneS_ev _ a hm.1 hm.2 h0 h1)).trans (To.congr fun k => ?_))
     · simp only [laws_szPlaneSS.l0, if_pos c1, if_pos c0, rdL5_nat, wrap_succ hi2 h']
     · rw [if_neg (by omega)]
   · have c1 : (i : Int) < (l.length : Int) := by omega
     have c0 : 0 ≤ (i : Int) := by omega
     have hm := hi _ (getD_mem hi2 [])
     refine Ev.step' (f := fun k => (laws_szPlaneS.f k (l.getD i []) a).bind fun t => if t < 0 then some (-1) else laws_szPlaneSS.l0 k l t ((i + 1 : Nat) : Int)) (fun k => ?_) (Ev.bind (laws_szPlaneS_ev _ a hm.1 hm.2 h0 h1) ?_)
     · simp only [laws_szPlaneSS.l0, if_pos c1, if_pos c0, rdL5_nat, wrap_succ hi2 h']
     · simp only [if_pos hn]; exact Ev.now _
 · have e : lft a l.length = -1 := by unfold lft; rw [if_neg c]
   rw [e]
   simp only [if_pos (show a - (l.length : Int) < 0 by omega), if_pos (show (-1 : Int) < 0 by omega)]
   exact Ev.now _
theorem laws_szNet_ev (d : Int) (l : List (List S146)) (a : Int) (h : l.length ≤ maxLen) (hi : ∀ x ∈ l, x.length ≤ maxLen ∧ ∀ y ∈ x, y.f0.length ≤ maxLen) (h0 : 0 ≤ a) (h1 : a ≤ 1048576) : Ev (fun k => laws_szNet.f k d l a) (lft a (szPP l)) := by
 refine Ev.bind (laws_szPlaneSS_ev l a h hi h0 h1) ?_
 by_cases c : lft a (szPP l) < 0
 · simp only [if_pos c, lft_neg c]; exact Ev.now _
 · simp only [if_neg c]; exact Ev.now _
theorem spec_l1In_eq (x a b : Int) : spec_l1In.f x a b = some (inR a b x) := in_tells a b x
theorem spec_l2Numbers_ev (l : List Int) (m : Int) (h : l.length ≤ maxLen) : Ev (fun k => spec_l2Numbers.f k l m) (l.all (inR (wrap64 (-m)) m)) := by
 unfold maxLen at h
 rw [← range_all l (inR (wrap64 (-m)) m) 0]
 refine ev_all (L := fun i k => spec_l2Numbers.l0 k l m i) (fun i hi hp => To.step fun k => ?_) (fun i hi hp => Ev.step' (f := fun _ => some false) (fun k => ?_) (Ev.now _)) (Ev.step' (f := fun _ => some true) (fun k => ?_) (Ev.now _))
 · have c1 : (i : Int) < (l.length : Int) := by omega
   have c0 : 0 ≤ (i : Int) := by omega
   simp only [spec_l2Numbers.l0, if_pos c1, if_pos c0, spec_l1In_eq, rd_nat, hp, Option.bind_some, if_true, wrap_succ hi h]
 · have c1 : (i : Int) < (l.length : Int) := by omega
   have c0 : 0 ≤ (i : Int) := by omega
   simp only [spec_l2Numbers.l0, if_pos c1, if_pos c0, spec_l1In_eq, rd_nat, hp, Option.bind_some, Bool.false_eq_true, if_false]
 · simp only [spec_l2Numbers.l0, if_neg (Int.lt_irrefl _)]
theorem spec_l2Plane_ev (l : List Int) (b : Int) (h : l.length ≤ maxLen) : Ev (fun k => spec_l2Plane.f k l b) (planeB l b) := by
 have e : ∀ k, spec_l2Plane.f k l b = if inR 1 4 l.length = true then (spec_l2Numbers.f k l 99).bind (fun t => if t = true then some (inR (-99) 99 b) else some false) else some false := fun k => by
  simp only [spec_l2Plane.f, spec_l1In_eq, Option.bind_some]
 refine Ev.congr e ?_
 unfold planeB
 cases inR 1 4 l.length with
 | false => exact Ev.now _
 | true =>
  simp only [if_true, Bool.true_and]
  refine Ev.bind (spec_l2Numbers_ev l 99 h) ?_
  rw [show wrap64 (-99) = -99 from wrap_id (by omega) (by omega)]
  cases l.all (inR (-99) 99) with
  | false => exact Ev.now _
  | true => exact Ev.now _
def layB : Int → List (List S39) → Bool
 | _, [] => true
 | d, y :: ys => y.all (fun x => planeB x.f0 x.f1 && ((x.f0.length : Int) == d)) && (inR 1 4 y.length && layB y.length ys)
def netB (d : Int) (N : List (List S39)) : Bool := inR 1 4 d && (inR 1 6 N.length && layB d N)
theorem spec_l9Good_row (N : List (List S39)) (D d : Int) (i : Nat) (y : List S39) (R : Bool) (hi : i < N.length) (h : N.length ≤ maxLen) (hy : N.getD i [] = y) (hl : y.length ≤ maxLen ∧ ∀ z ∈ y, z.f0.length ≤ maxLen) (hr : Ev (fun k => spec_l9Good.l0 k (y.length : Int) ((i + 1 : Nat) : Int) D N) R) :
 Ev (fun k => spec_l9Good.l1 k d i 0 D N) (y.all (fun x => planeB x.f0 x.f1 && ((x.f0.length : Int) == d)) && (inR 1 4 y.length && R)) := by
 have h' : N.length ≤ 9223372036854775807 := h
 have h2' : y.length ≤ 9223372036854775807 := hl.1
 have c1 : (i : Int) < (N.length : Int) := by omega
 have c0 : 0 ≤ (i : Int) := by omega
 refine ev_list z39 y (fun j (_ : Unit) k => spec_l9Good.l1 k d i j D N) (fun _ ys _ => ys.all (fun x => planeB x.f0 x.f1 && ((x.f0.length : Int) == d)) && (inR 1 4 y.length && R)) (fun _ _ => True) (fun _ _ => ?_) (fun j x ys _ hj hx hm _ ih => ?_) () trivial
 · rw [List.all_nil, Bool.true_and]
   refine Ev.step' (f := fun k => if inR 1 4 y.length = true then spec_l9Good.l0 k (y.length : Int) ((i + 1 : Nat) : Int) D N else some false) (fun k => by
    simp only [spec_l9Good.l1, if_pos c0, if_pos c1, rdL3_nat, hy, if_neg (Int.lt_irrefl _), spec_l1In_eq, Option.bind_some, wrap_succ hi h']) ?_
   cases inR 1 4 y.length with
   | false => simp only [Bool.false_eq_true, if_false, Bool.false_and]; exact Ev.now _
   | true => simp only [if_true, Bool.true_and]; exact hr
 · have d1 : (j : Int) < (y.length : Int) := by omega
   have d0 : 0 ≤ (j : Int) := by omega
   rw [List.all_cons, Bool.and_assoc, Bool.and_assoc]
   refine Ev.step' (f := fun k => (spec_l2Plane.f k x.f0 x.f1).bind fun t => if t = true then (if (x.f0.length : Int) = d then spec_l9Good.l1 k d i ((j + 1 : Nat) : Int) D N else some false) else some false) (fun k => by
    simp only [spec_l9Good.l1, if_pos c0, if_pos c1, rdL3_nat, hy, if_pos d1, if_pos d0, rdT39_nat, hx, wrap_succ hj h2']) (Ev.bind (spec_l2Plane_ev x.f0 x.f1 (hl.2 x hm)) ?_)
   cases planeB x.f0 x.f1 with
   | false => simp only [Bool.false_eq_true, if_false, Bool.false_and]; exact Ev.now _
   | true =>
    simp only [if_true, Bool.true_and]
    by_cases c : (x.f0.length : Int) = d
    · simp only [if_pos c, beq_iff_eq.2 c, Bool.true_and]; exact ih () trivial
    · simp only [if_neg c, beq_eq_false_iff_ne.2 c, Bool.false_and]; exact Ev.now _
theorem spec_l9Good_ev (d : Int) (N : List (List S39)) (h : N.length ≤ maxLen) (hi : ∀ x ∈ N, x.length ≤ maxLen ∧ ∀ y ∈ x, y.f0.length ≤ maxLen) : Ev (fun k => spec_l9Good.f k d N) (netB d N) := by
 have no : Ev (fun k => spec_l9Good.j0 k true d N) false := Ev.step' (f := fun _ => some false) (fun k => by simp only [spec_l9Good.j0, if_true]) (Ev.now _)
 unfold netB
 refine Ev.congr (f := fun k => if inR 1 4 d = true then spec_l9Good.j0 k (!(inR 1 6 N.length)) d N else spec_l9Good.j0 k true d N) (fun k => by simp only [spec_l9Good.f, spec_l1In_eq, Option.bind_some]) ?_
 cases inR 1 4 d with
 | false => simp only [Bool.false_eq_true, if_false, Bool.false_and]; exact no
 | true =>
  simp only [if_true, Bool.true_and]
  cases inR 1 6 N.length with
  | false => simpa using no
  | true =>
   refine Ev.step' (f := fun k => spec_l9Good.l0 k d 0 d N) (fun k => by simp [spec_l9Good.j0]) ?_
   rw [Bool.true_and]
   refine ev_list [] N (fun i (e : Int) k => spec_l9Good.l0 k e i d N) (fun _ ys e => layB e ys) (fun _ _ => True) (fun e _ => ?_) (fun i y ys e hi2 hy hm _ ih => ?_) d trivial
   · exact Ev.step' (f := fun _ => some true) (fun k => by simp only [spec_l9Good.l0, if_neg (Int.lt_irrefl _)]) (Ev.now _)
   · have c1 : (i : Int) < (N.length : Int) := by omega
     exact Ev.step' (fun k => by simp only [spec_l9Good.l0, if_pos c1]) (spec_l9Good_row N d e i y _ hi2 h hy (hi y hm) (ih _ trivial))
def bitPt (d : Nat) (k : Int) : List Int := (List.range d).map fun (i : Nat) => Go.bits .and .i64 (shr .i64 k (i : Int)) 1
theorem bitPt_len (d : Nat) (k : Int) : (bitPt d k).length = d := by simp [bitPt]
theorem spec_l2BitPoint_ev (d : Nat) (k : Int) (hd : d ≤ 1000) : Ev (fun r => spec_l2BitPoint.f r (d : Int) k) (bitPt d k) := by
 have hf := to_fold (L := fun j (t : List Int) r => spec_l2BitPoint.l0 r (d : Int) k t j) (n := d) (f := fun j t => t ++ [Go.bits .and .i64 (shr .i64 k (j : Int)) 1]) (fun j t => t.length = j) (fun j t hj ht => ⟨To.step fun r => ?_, by simp [ht]⟩) [] rfl
 · refine hf.1 _ (Ev.step' (f := fun _ => some (bitPt d k)) (fun r => ?_) (Ev.now _))
   rw [fold_append, List.nil_append]
   simp only [spec_l2BitPoint.l0, if_neg (Int.lt_irrefl _)]
   rfl
 · have c1 : (j : Int) < (d : Int) := by omega
   have c0 : 0 ≤ (j : Int) := by omega
   have c2 : t.length < 17592186044416 := by omega
   simp only [spec_l2BitPoint.l0, if_pos c1, if_pos c0, if_pos c2, wrap_succ hj (by omega : d ≤ 9223372036854775807)]
theorem spec_l2Dot_ev (a b : List Int) (h : a.length ≤ maxLen) (hb : a.length ≤ b.length) : Ev (fun k => spec_l2Dot.f k a b) (dotW a b) := by
 unfold maxLen at h
 have hf := to_fold (L := fun i (s : Int) k => spec_l2Dot.l0 k a b s i) (n := a.length) (f := fun i s => wrap64 (s + wrap64 (a.getD i 0 * b.getD i 0))) (fun _ _ => True) (fun i s hi _ => ⟨To.step fun k => ?_, trivial⟩) 0 trivial
 · refine hf.1 _ (Ev.step' (f := fun _ => some _) (fun k => ?_) (Ev.now _))
   simp only [spec_l2Dot.l0, if_neg (Int.lt_irrefl _)]; rfl
 · have c1 : (i : Int) < (a.length : Int) := by omega
   have c2 : (i : Int) < (b.length : Int) := by omega
   have c3 : 0 ≤ (i : Int) := by omega
   simp only [spec_l2Dot.l0, if_pos c1, if_pos c2, if_pos c3, rd_nat, wrap_succ hi h]
theorem impl_bitPoint_ev (d : Nat) (k : Int) (hd : d ≤ 1000) : Ev (fun r => impl_bitPoint.f r (d : Int) k) (bitPt d k) := by
 have hf := to_fold (L := fun j (t : List Int) r => impl_bitPoint.l0 r k t (d : Int) j) (n := d) (f := fun j t => t ++ [Go.bits .and .i64 (shr .i64 k (j : Int)) 1]) (fun j t => t.length = j) (fun j t hj ht => ⟨To.step fun r => ?_, by simp [ht]⟩) [] rfl
 · refine hf.1 _ (Ev.step' (f := fun _ => some (bitPt d k)) (fun r => ?_) (Ev.now _))
   rw [fold_append, List.nil_append]
   simp only [impl_bitPoint.l0, if_neg (Int.lt_irrefl _)]
   rfl
 · have c1 : (j : Int) < (d : Int) := by omega
   have c0 : 0 ≤ (j : Int) := by omega
   have c2 : t.length < 17592186044416 := by omega
   simp only [impl_bitPoint.l0, if_pos c1, if_pos c0, if_pos c2, wrap_succ hj (by omega : d ≤ 9223372036854775807)]
theorem impl_product_ev (a b : List Int) (h : a.length ≤ maxLen) (hb : a.length ≤ b.length) : Ev (fun k => impl_product.f k a b) (dotW a b) := by
 unfold maxLen at h
 have hf := to_fold (L := fun i (s : Int) k => impl_product.l0 k b s a (a.length : Int) i) (n := a.length) (f := fun i s => wrap64 (s + wrap64 (a.getD i 0 * b.getD i 0))) (fun _ _ => True) (fun i s hi _ => ⟨To.step fun k => ?_, trivial⟩) 0 trivial
 · refine hf.1 _ (Ev.step' (f := fun _ => some _) (fun k => ?_) (Ev.now _))
   simp only [impl_product.l0, if_neg (Int.lt_irrefl _)]; rfl
 · have c1 : (i : Int) < (a.length : Int) := by omega
   have c2 : (i : Int) < (b.length : Int) := by omega
   have c3 : 0 ≤ (i : Int) := by omega
   simp only [impl_product.l0, if_pos c1, if_pos c2, if_pos c3, rd_nat, wrap_succ hi h]
def Ev2 {α : Type} (g : Nat → Nat → Option α) (r : α) : Prop := ∃ K, ∀ j k, K ≤ j → K ≤ k → g j k = some r
theorem Ev2.one {α : Type} {g : Nat → Nat → Option α} {r : α} (h : Ev2 g r) : Ev (fun k => g k k) r := by
 obtain ⟨K, h⟩ := h
 exact ⟨K, fun k hk => h k k hk hk⟩
theorem Ev2.step {α : Type} {g f : Nat → Nat → Option α} {r : α} (h : ∀ j k, g j (k + 1) = f j k) (e : Ev2 f r) : Ev2 g r := by
 obtain ⟨K, e⟩ := e
 refine ⟨K + 1, fun j k hj hk => ?_⟩
 obtain ⟨k, rfl⟩ : ∃ k', k = k' + 1 := ⟨k - 1, by omega⟩
 rw [h]; exact e j k (by omega) (by omega)
theorem Ev2.bind {α β : Type} {g : Nat → Option α} {f : Nat → Nat → α → Option β} {a : α} {r : β} (h : Ev g a) (e : Ev2 (fun j k => f j k a) r) : Ev2 (fun j k => (g j).bind (f j k)) r := by
 obtain ⟨K, h⟩ := h
 obtain ⟨K', e⟩ := e
 refine ⟨max K K', fun j k hj hk => ?_⟩
 show (g j).bind (f j k) = some r
 rw [h j (by omega), Option.bind_some]
 exact e j k (by omega) (by omega)
def allW (m : Nat) : Nat → List (List Int)
 | 0 => [[]]
 | d + 1 => (List.range (2 * m + 1)).flatMap fun (i : Nat) => (allW m d).map (((i : Int) - m) :: ·)
theorem allW_len (m : Nat) : ∀ (d : Nat) (t : List Int), t ∈ allW m d → t.length = d
 | 0, t, h => by rw [List.mem_singleton.1 h]; rfl
 | d + 1, t, h => by
  obtain ⟨i, _, h⟩ := List.mem_flatMap.1 h
  obtain ⟨u, hu, rfl⟩ := List.mem_map.1 h
  rw [List.length_cons, allW_len m d u hu]
theorem odometer {σ : Type} {n m : Nat} (hn : n ≤ 1000) (hm : m ≤ 1000) (F : Nat → List Int → σ → Option σ) (g : List Int → σ → σ) (Inv : List Int → σ → Prop) (hF : ∀ w s, w.length = n → Inv w s → Ev (fun j => F j w s) (g w s)) :
 ∀ (d : Nat) (pre : List Int) (s : σ) (r : σ), pre.length + d = n → (∀ (L : List (List Int)) (w : List Int) (M : List (List Int)), (allW m d).map (pre ++ ·) = L ++ w :: M → Inv w (L.foldl (fun s w => g w s) s)) →
 Ev2 (fun j k => Go.Proofs.Ytfkfahdikmfpeaa.Sm.impl_smallWeights.l2 (F j) k (n : Int) (m : Int) (pre ++ List.replicate d (-(m : Int))) ((pre.length : Int) - 1) (((allW m d).map (pre ++ ·)).foldl (fun s w => g w s) s)) r →
 Ev2 (fun j k => Go.Proofs.Ytfkfahdikmfpeaa.Sm.impl_smallWeights.l1 (F j) k (n : Int) (m : Int) (pre ++ List.replicate d (-(m : Int))) s) r
 | 0, pre, s, r, hl, hI, h => by
  have e : pre ++ List.replicate 0 (-(m : Int)) = pre := by simp
  have hw : wrap64 ((n : Int) - 1) = (pre.length : Int) - 1 := by unfold wrap64; omega
  rw [e] at h ⊢
  have h0 : (allW m 0).map (pre ++ ·) = [pre] := by simp [allW]
  rw [h0] at h
  refine Ev2.step (f := fun j k => (F j pre s).bind fun s => Go.Proofs.Ytfkfahdikmfpeaa.Sm.impl_smallWeights.l2 (F j) k (n : Int) (m : Int) pre ((pre.length : Int) - 1) s) (fun j k => by simp only [Go.Proofs.Ytfkfahdikmfpeaa.Sm.impl_smallWeights.l1, hw]) ?_
  exact Ev2.bind (hF pre s (by omega) (hI [] pre [] (by rw [h0]; rfl))) h
 | d + 1, pre, s, r, hl, hI, h => by
  have key : ∀ (c i : Nat) (s : σ), i + c = 2 * m → (∀ (L : List (List Int)) (w : List Int) (M : List (List Int)), ((List.range' i (c + 1)).flatMap fun (i : Nat) => ((allW m d).map (((i : Int) - m) :: ·)).map (pre ++ ·)) = L ++ w :: M → Inv w (L.foldl (fun s w => g w s) s)) →
   Ev2 (fun j k => Go.Proofs.Ytfkfahdikmfpeaa.Sm.impl_smallWeights.l2 (F j) k (n : Int) (m : Int) (pre ++ List.replicate (d + 1) (-(m : Int))) ((pre.length : Int) - 1) (((List.range' i (c + 1)).flatMap fun (i : Nat) => ((allW m d).map (((i : Int) - m) :: ·)).map (pre ++ ·)).foldl (fun s w => g w s) s)) r →
   Ev2 (fun j k => Go.Proofs.Ytfkfahdikmfpeaa.Sm.impl_smallWeights.l1 (F j) k (n : Int) (m : Int) ((pre ++ [(i : Int) - m]) ++ List.replicate d (-(m : Int))) s) r := by
   intro c
   induction c with
   | zero =>
    intro i s hi hI h
    have e1 : (List.range' i (0 + 1)).flatMap (fun (i : Nat) => ((allW m d).map (((i : Int) - m) :: ·)).map (pre ++ ·)) = (allW m d).map ((pre ++ [(i : Int) - m]) ++ ·) := by simp [Function.comp_def]
    rw [e1] at hI h
    refine odometer hn hm F g Inv hF d (pre ++ [(i : Int) - m]) s r (by rw [List.length_append, List.length_singleton]; omega) hI ?_
    generalize ((allW m d).map ((pre ++ [(i : Int) - m]) ++ ·)).foldl (fun s w => g w s) s = S at h ⊢
    have hq : ((pre ++ [(i : Int) - m]).length : Int) - 1 = (pre.length : Int) := by rw [List.length_append, List.length_singleton]; omega
    rw [hq]
    have c0 : (pre.length : Int) ≥ 0 := by omega
    have c0' : 0 ≤ (pre.length : Int) := c0
    have ea : (pre ++ [(i : Int) - m]) ++ List.replicate d (-(m : Int)) = pre ++ ((i : Int) - m) :: List.replicate d (-(m : Int)) := by simp
    rw [ea]
    have c1 : (pre.length : Int) < ((pre ++ ((i : Int) - m) :: List.replicate d (-(m : Int))).length : Int) := by simp only [List.length_append, List.length_cons]; omega
    have hr : rd (pre ++ ((i : Int) - m) :: List.replicate d (-(m : Int))) (pre.length : Int) = (m : Int) := by rw [rd_nat, getD_mid]; omega
    have hs : (pre ++ ((i : Int) - m) :: List.replicate d (-(m : Int))).set ((pre.length : Int)).toNat (wrap64 (-(m : Int))) = pre ++ List.replicate (d + 1) (-(m : Int)) := by
     rw [Int.toNat_natCast, set_mid, show wrap64 (-(m : Int)) = -(m : Int) from by unfold wrap64; omega, List.replicate_succ]; simp
    have hw : wrap64 ((pre.length : Int) - 1) = (pre.length : Int) - 1 := by unfold wrap64; omega
    exact Ev2.step (fun j k => by simp only [Go.Proofs.Ytfkfahdikmfpeaa.Sm.impl_smallWeights.l2, if_pos c0, if_pos c0', if_pos c1, if_pos hr, hs, hw]) h
   | succ c ih =>
    intro i s hi hI h
    have e1 : (List.range' i (c + 1 + 1)).flatMap (fun (i : Nat) => ((allW m d).map (((i : Int) - m) :: ·)).map (pre ++ ·)) = (allW m d).map ((pre ++ [(i : Int) - m]) ++ ·) ++ (List.range' (i + 1) (c + 1)).flatMap (fun (i : Nat) => ((allW m d).map (((i : Int) - m) :: ·)).map (pre ++ ·)) := by
     rw [List.range'_succ, List.flatMap_cons]; congr 1; simp [Function.comp_def]
    rw [e1] at hI h
    rw [List.foldl_append] at h
    refine odometer hn hm F g Inv hF d (pre ++ [(i : Int) - m]) s r (by rw [List.length_append, List.length_singleton]; omega) (fun L w M e => hI L w _ (by rw [e, List.append_assoc, List.cons_append])) ?_
    have hI' : ∀ (L : List (List Int)) (w : List Int) (M : List (List Int)), ((List.range' (i + 1) (c + 1)).flatMap fun (i : Nat) => ((allW m d).map (((i : Int) - m) :: ·)).map (pre ++ ·)) = L ++ w :: M → Inv w (L.foldl (fun s w => g w s) (((allW m d).map ((pre ++ [(i : Int) - m]) ++ ·)).foldl (fun s w => g w s) s)) := by
     intro L w M e
     have := hI ((allW m d).map ((pre ++ [(i : Int) - m]) ++ ·) ++ L) w M (by rw [e]; simp)
     rwa [List.foldl_append] at this
    generalize ((allW m d).map ((pre ++ [(i : Int) - m]) ++ ·)).foldl (fun s w => g w s) s = S at h hI' ⊢
    have hq : ((pre ++ [(i : Int) - m]).length : Int) - 1 = (pre.length : Int) := by rw [List.length_append, List.length_singleton]; omega
    rw [hq]
    have c0 : (pre.length : Int) ≥ 0 := by omega
    have c0' : 0 ≤ (pre.length : Int) := c0
    have cn : ¬ (pre.length : Int) < 0 := by omega
    have ea : (pre ++ [(i : Int) - m]) ++ List.replicate d (-(m : Int)) = pre ++ ((i : Int) - m) :: List.replicate d (-(m : Int)) := by simp
    rw [ea]
    have c1 : (pre.length : Int) < ((pre ++ ((i : Int) - m) :: List.replicate d (-(m : Int))).length : Int) := by simp only [List.length_append, List.length_cons]; omega
    have hr : ¬ (i : Int) - m = (m : Int) := by omega
    have hr2 : rd (pre ++ ((i : Int) - m) :: List.replicate d (-(m : Int))) (pre.length : Int) = (i : Int) - m := by rw [rd_nat, getD_mid]
    have hs : (pre ++ ((i : Int) - m) :: List.replicate d (-(m : Int))).set ((pre.length : Int)).toNat (wrap64 ((i : Int) - m + 1)) = (pre ++ [((i + 1 : Nat) : Int) - m]) ++ List.replicate d (-(m : Int)) := by
     rw [Int.toNat_natCast, set_mid, show wrap64 ((i : Int) - m + 1) = ((i + 1 : Nat) : Int) - m from by unfold wrap64; omega]
    exact Ev2.step (fun j k => by simp only [Go.Proofs.Ytfkfahdikmfpeaa.Sm.impl_smallWeights.l2, if_pos c0, if_pos c0', if_pos c1, hr2, if_neg hr, if_neg cn, hs]) (ih (i + 1) S (by omega) hI' h)
  have hr : (allW m (d + 1)).map (pre ++ ·) = (List.range' 0 (2 * m + 1)).flatMap fun (i : Nat) => ((allW m d).map (((i : Int) - m) :: ·)).map (pre ++ ·) := by
   rw [← List.range_eq_range']; simp only [allW, List.map_flatMap]
  rw [hr] at hI h
  have := key (2 * m) 0 s (by omega) hI h
  have e2 : (pre ++ [((0 : Nat) : Int) - m]) ++ List.replicate d (-(m : Int)) = pre ++ List.replicate (d + 1) (-(m : Int)) := by rw [List.replicate_succ]; simp
  rw [e2] at this
  exact this
theorem impl_smallWeights_ev {σ : Type} {n m : Nat} (hn : n ≤ 1000) (hm : m ≤ 1000) (F : Nat → List Int → σ → Option σ) (g : List Int → σ → σ) (Inv : List Int → σ → Prop) (hF : ∀ w s, w.length = n → Inv w s → Ev (fun j => F j w s) (g w s)) (s : σ)
 (hI : ∀ (L : List (List Int)) (w : List Int) (M : List (List Int)), allW m n = L ++ w :: M → Inv w (L.foldl (fun s w => g w s) s)) :
 Ev (fun k => Go.Proofs.Ytfkfahdikmfpeaa.Sm.impl_smallWeights.f (F k) k (n : Int) (m : Int) s) ((allW m n).foldl (fun s w => g w s) s) := by
 have hz : (allW m n).map (([] : List Int) ++ ·) = allW m n := by simp
 have h1 : Ev2 (fun j k => Go.Proofs.Ytfkfahdikmfpeaa.Sm.impl_smallWeights.l1 (F j) k (n : Int) (m : Int) (List.replicate n (-(m : Int))) s) ((allW m n).foldl (fun s w => g w s) s) := by
  have := odometer hn hm F g Inv hF n [] s ((allW m n).foldl (fun s w => g w s) s) (by simp) (by rw [hz]; exact hI) (by
   rw [hz]
   exact ⟨1, fun j k _ hk => by
    obtain ⟨k, rfl⟩ : ∃ k', k = k' + 1 := ⟨k - 1, by omega⟩
    have c : ¬ (((([] : List Int).length : Nat) : Int) - 1 ≥ 0) := by decide
    have c' : (((([] : List Int).length : Nat) : Int) - 1 < 0) := by decide
    simp only [Go.Proofs.Ytfkfahdikmfpeaa.Sm.impl_smallWeights.l2, if_neg c, if_pos c']⟩)
  simpa using this
 have hw : wrap64 (-(m : Int)) = -(m : Int) := by unfold wrap64; omega
 have fill : ∀ (c i : Nat), i + c = n → Ev2 (fun j k => Go.Proofs.Ytfkfahdikmfpeaa.Sm.impl_smallWeights.l0 (F j) k (n : Int) (m : Int) (List.replicate i (-(m : Int)) ++ List.replicate c 0) (n : Int) (i : Int) s) ((allW m n).foldl (fun s w => g w s) s) := by
  intro c
  induction c with
  | zero =>
   intro i hi
   have c : ¬ (i : Int) < (n : Int) := by omega
   obtain rfl : i = n := by omega
   exact Ev2.step (fun j k => by simp only [Go.Proofs.Ytfkfahdikmfpeaa.Sm.impl_smallWeights.l0, if_neg c, List.replicate_zero, List.append_nil]) h1
  | succ c ih =>
   intro i hi
   have c1 : (i : Int) < (n : Int) := by omega
   have c0 : 0 ≤ (i : Int) := by omega
   have c2 : (i : Int) < ((List.replicate i (-(m : Int)) ++ List.replicate (c + 1) 0).length : Int) := by simp only [List.length_append, List.length_replicate]; omega
   have ws : wrap64 ((i : Int) + 1) = ((i + 1 : Nat) : Int) := by unfold wrap64; omega
   have hs : (List.replicate i (-(m : Int)) ++ List.replicate (c + 1) 0).set ((i : Int)).toNat (-(m : Int)) = List.replicate (i + 1) (-(m : Int)) ++ List.replicate c 0 := by
    have := set_mid (List.replicate i (-(m : Int))) 0 (-(m : Int)) (List.replicate c 0)
    rw [List.length_replicate] at this
    rw [Int.toNat_natCast, List.replicate_succ, this, List.replicate_succ']
   exact Ev2.step (fun j k => by simp only [Go.Proofs.Ytfkfahdikmfpeaa.Sm.impl_smallWeights.l0, if_pos c1, if_pos c0, if_pos c2, hw, hs, ws]) (ih (i + 1) (by omega))
 have h0 := (fill n 0 (by omega)).one
 have c0 : 0 ≤ (n : Int) := by omega
 have c1 : n ≤ 35184372088832 := by omega
 refine Ev.congr (fun k => ?_) h0
 simp only [Go.Proofs.Ytfkfahdikmfpeaa.Sm.impl_smallWeights.f, if_pos c0, Int.toNat_natCast, if_pos c1, Option.bind_some, List.length_replicate, List.replicate_zero, List.nil_append]
 rfl
def prodL (n : Nat) (w : List Int) : List Int := (List.range (2 ^ n)).map fun (c : Nat) => dotW w (bitPt n (c : Int))
theorem shl_small {n : Nat} (h : n ≤ 4) : shl .i64 1 (n : Int) = ((2 ^ n : Nat) : Int) := by
 match n, h with
 | 0, _ => decide +kernel
 | 1, _ => decide +kernel
 | 2, _ => decide +kernel
 | 3, _ => decide +kernel
 | 4, _ => decide +kernel
 | n + 5, h => omega
theorem impl_productsOf_ev {n : Nat} (hn : n ≤ 4) (w : List Int) (hw : w.length = n) : Ev (fun k => impl_productsOf.f k (n : Int) w) (prodL n w) := by
 have hp : 2 ^ n ≤ 2 ^ 4 := Nat.pow_le_pow_right (by omega) hn
 have hf := to_fold (L := fun c (s : List Int) k => impl_productsOf.l0 k (n : Int) w s ((2 ^ n : Nat) : Int) c) (n := 2 ^ n) (f := fun c s => s ++ [dotW w (bitPt n (c : Int))]) (fun c s => s.length = c) (fun c s hc hs => ⟨?_, by simp [hs]⟩) [] rfl
 · have e : (List.range (2 ^ n)).foldl (fun s (c : Nat) => s ++ [dotW w (bitPt n (c : Int))]) [] = prodL n w := by rw [fold_append, List.nil_append]; rfl
   have h1 : Ev (fun k => impl_productsOf.l0 k (n : Int) w ((List.range (2 ^ n)).foldl (fun s (c : Nat) => s ++ [dotW w (bitPt n (c : Int))]) []) ((2 ^ n : Nat) : Int) ((2 ^ n : Nat) : Int)) (prodL n w) := by
    rw [e]
    exact Ev.step' (f := fun _ => some (prodL n w)) (fun k => by simp only [impl_productsOf.l0, if_neg (Int.lt_irrefl _)]) (Ev.now _)
   exact Ev.congr (fun k => by simp only [impl_productsOf.f, if_pos (Int.natCast_nonneg n), shl_small hn]) (hf.1 _ h1)
 · have c1 : (c : Int) < ((2 ^ n : Nat) : Int) := Int.ofNat_lt.2 hc
   have c2 : s.length < 17592186044416 := by omega
   have ws := wrap_succ hc (by omega : 2 ^ n ≤ 9223372036854775807)
   refine To.trans (To.step (f := fun k => (impl_bitPoint.f k (n : Int) (c : Int)).bind fun t => (impl_product.f k w t).bind fun u => impl_productsOf.l0 k (n : Int) w (s ++ [u]) ((2 ^ n : Nat) : Int) ((c + 1 : Nat) : Int)) (fun k => by simp only [impl_productsOf.l0, if_pos c1, if_pos c2, ws])) ?_
   exact To.trans (To.bind (impl_bitPoint_ev n (c : Int) (by omega))) (To.bind (impl_product_ev w _ (by unfold maxLen; omega) (by rw [bitPt_len]; omega)))
theorem prodL_len (n : Nat) (w : List Int) : (prodL n w).length = 2 ^ n := by simp [prodL]
def gapS (T ps : List Int) : Int × Int := (List.range T.length).foldl (fun (s : Int × Int) (i : Nat) => if T.getD i 0 = 1 then (mn s.1 (ps.getD i 0), s.2) else (s.1, mx s.2 (ps.getD i 0))) (1000000000, -1000000000)
theorem impl_gap_ev (T ps : List Int) (h : T.length ≤ 1000) (hp : T.length ≤ ps.length) : Ev (fun k => impl_gap.f k T ps) (gapS T ps) := by
 have hf := to_fold (L := fun i (s : Int × Int) k => impl_gap.l0 k ps s.1 s.2 T (T.length : Int) i) (n := T.length) (f := fun (i : Nat) (s : Int × Int) => if T.getD i 0 = 1 then (mn s.1 (ps.getD i 0), s.2) else (s.1, mx s.2 (ps.getD i 0))) (fun _ _ => True) (fun i s hi _ => ⟨To.step fun k => ?_, trivial⟩) (1000000000, -1000000000) trivial
 · exact hf.1 _ (Ev.step' (f := fun _ => some (gapS T ps)) (fun k => by simp only [impl_gap.l0, if_neg (Int.lt_irrefl _)]; rfl) (Ev.now _))
 · have c1 : (i : Int) < (T.length : Int) := by omega
   have c0 : 0 ≤ (i : Int) := by omega
   have c2 : (i : Int) < (ps.length : Int) := by omega
   have ws := wrap_succ hi (by omega : T.length ≤ 9223372036854775807)
   by_cases q : T.getD i 0 = 1
   · simp only [impl_gap.l0, if_pos c1, if_pos c0, rd_nat, if_pos q, if_pos c2, ws]
   · simp only [impl_gap.l0, if_pos c1, if_pos c0, rd_nat, if_neg q, if_pos c2, ws]
theorem impl_copied_eq (l : List Int) (h : l.length ≤ 1000) : impl_copied.f l = some l := by
 have c : ([] : List Int).length + l.length < 17592186044416 := by rw [List.length_nil]; omega
 simp only [impl_copied.f, Option.bind_some, if_pos c, List.nil_append]
def okW2 (n : Nat) (T x : List Int) : Bool := decide ((gapS T (prodL n x)).2 < (gapS T (prodL n x)).1)
def gstep (n : Nat) (T x : List Int) (s : List Int × Int × Int) : List Int × Int × Int := if impl_leastPlane.sum x ≥ s.2.2 then s else if (gapS T (prodL n x)).1 ≤ (gapS T (prodL n x)).2 then s else if (gapS T (prodL n x)).1 = 1000000000 then (x, wrap64 ((gapS T (prodL n x)).2 + 1), impl_leastPlane.sum x) else (x, (gapS T (prodL n x)).1, impl_leastPlane.sum x)
theorem leastPlane_step {n : Nat} (hn : n ≤ 4) {T : List Int} (hT : T.length = 2 ^ n) (x : List Int) (hx : x.length = n) (s : List Int × Int × Int) : Ev (fun j => impl_leastPlane.step j (n : Int) T x s) (gstep n T x s) := by
 have h8 : 2 ^ n ≤ 2 ^ 4 := Nat.pow_le_pow_right (by omega) hn
 have c : x.length < 1000 := by omega
 unfold impl_leastPlane.step gstep
 simp only [if_pos c]
 by_cases c1 : impl_leastPlane.sum x ≥ s.2.2
 · simp only [if_pos c1]; exact Ev.now _
 · simp only [if_neg c1]
   refine Ev.bind (impl_productsOf_ev (by omega) x hx) (Ev.bind (impl_gap_ev T (prodL n x) (by omega) (by rw [prodL_len]; omega)) ?_)
   by_cases c2 : (gapS T (prodL n x)).1 ≤ (gapS T (prodL n x)).2
   · simp only [if_pos c2]; exact Ev.now _
   · simp only [if_neg c2]
     by_cases c3 : (gapS T (prodL n x)).1 = 1000000000
     · simp only [if_pos c3]; exact Ev.now _
     · simp only [if_neg c3]; exact Ev.now _
theorem sums_small {n : Nat} (hn : n ≤ 4) : ∀ x ∈ allW 3 n, impl_leastPlane.sum x < 1000000000 := by
 have all : (List.range 5).all (fun n => (allW 3 n).all fun x => decide (impl_leastPlane.sum x < 1000000000)) = true := by decide +kernel
 intro x hx
 exact of_decide_eq_true (List.all_eq_true.1 (List.all_eq_true.1 all n (List.mem_range.2 (by omega))) x hx)
def lpM (n : Nat) (T : List Int) : List Int × Int × Int := (allW 3 n).foldl (fun s x => gstep n T x s) ([], 0, 1000000000)
theorem impl_leastPlane_full {n : Nat} (hn : n ≤ 4) {T : List Int} (hT : T.length = 2 ^ n) : Ev (fun k => impl_leastPlane.f k (n : Int) T) ((lpM n T).1, (lpM n T).2.1, (lpM n T).2.2, decide ((lpM n T).2.2 < 1000000000)) :=
 Ev.bind (impl_smallWeights_ev (n := n) (m := 3) (by omega) (by omega) (fun j x s => impl_leastPlane.step j (n : Int) T x s) (fun x s => gstep n T x s) (fun _ _ => True) (fun w s hw _ => leastPlane_step hn hT w hw s) ([], 0, 1000000000) (fun _ _ _ _ => trivial)) (Ev.now _)
def dotN (w x : List Int) (m : Nat) : Int := (List.range m).foldl (fun (s : Int) (i : Nat) => wrap64 (s + wrap64 (w.getD i 0 * x.getD i 0))) 0
theorem dotN_succ (w x : List Int) (m : Nat) : dotN w x (m + 1) = wrap64 (dotN w x m + wrap64 (w.getD m 0 * x.getD m 0)) := by unfold dotN; rw [List.range_succ, List.foldl_append]; rfl
theorem dotN_bd {w x : List Int} (hw : ∀ y ∈ w, -3 ≤ y ∧ y ≤ 3) (hl : w.length ≤ 1000) (hx : ∀ i < w.length, x.getD i 0 = 0 ∨ x.getD i 0 = 1) : ∀ m : Nat, m ≤ w.length → (-3 * (m : Int) ≤ dotN w x m ∧ dotN w x m ≤ 3 * (m : Int)) ∧ (m < w.length → dotN w x (m + 1) = dotN w x m + w.getD m 0 * x.getD m 0)
 | 0, _ => by
  refine ⟨by unfold dotN; simp, fun h => ?_⟩
  have h1 := hw _ (getD_mem h 0)
  rw [dotN_succ, show dotN w x 0 = 0 from rfl]
  rcases hx 0 h with e | e <;> rw [e] <;> simp only [Int.mul_zero, Int.mul_one] <;> unfold wrap64 <;> omega
 | m + 1, h => by
  obtain ⟨ih, ih2⟩ := dotN_bd hw hl hx m (by omega)
  have ih2 := ih2 (by omega)
  have hm := hw _ (getD_mem (by omega : m < w.length) 0)
  have bd : -3 * ((m + 1 : Nat) : Int) ≤ dotN w x (m + 1) ∧ dotN w x (m + 1) ≤ 3 * ((m + 1 : Nat) : Int) := by
   rw [ih2]
   rcases hx m (by omega) with e | e <;> rw [e] <;> simp only [Int.mul_zero, Int.mul_one] <;> omega
  refine ⟨bd, fun h => ?_⟩
  have h1 := hw _ (getD_mem h 0)
  rw [dotN_succ]
  rcases hx (m + 1) h with e | e <;> rw [e] <;> simp only [Int.mul_zero, Int.mul_one] <;> unfold wrap64 <;> omega
theorem allW_mem (m : Nat) : ∀ (d : Nat) (t : List Int), t ∈ allW m d → ∀ y ∈ t, -(m : Int) ≤ y ∧ y ≤ m
 | 0, t, h, y, hy => by rw [List.mem_singleton.1 h] at hy; cases hy
 | d + 1, t, h, y, hy => by
  obtain ⟨i, hi, h⟩ := List.mem_flatMap.1 h
  have hi := List.mem_range.1 hi
  obtain ⟨u, hu, rfl⟩ := List.mem_map.1 h
  rcases List.mem_cons.1 hy with rfl | hy
  · omega
  · exact allW_mem m d u hu y hy
theorem bitPt01 {n : Nat} (hn : n ≤ 4) {c : Nat} (hc : c < 16) (i : Nat) (hi : i < n) : (bitPt n (c : Int)).getD i 0 = 0 ∨ (bitPt n (c : Int)).getD i 0 = 1 := by
 have all : (List.range 16).all (fun c => (List.range 4).all fun b => decide (Go.bits .and .i64 (shr .i64 (c : Int) (b : Int)) 1 = 0) || decide (Go.bits .and .i64 (shr .i64 (c : Int) (b : Int)) 1 = 1)) = true := by decide +kernel
 have h := List.all_eq_true.1 (List.all_eq_true.1 all c (List.mem_range.2 hc)) i (List.mem_range.2 (by omega))
 rw [Bool.or_eq_true, decide_eq_true_eq, decide_eq_true_eq] at h
 have e : (bitPt n (c : Int)).getD i 0 = Go.bits .and .i64 (shr .i64 (c : Int) (i : Int)) 1 := by
  unfold bitPt
  rw [List.getD_eq_getElem?_getD, List.getElem?_map, List.getElem?_range hi]
  rfl
 rw [e]; exact h
theorem prodL_get {n : Nat} {w : List Int} {c : Nat} (hc : c < 2 ^ n) : (prodL n w).getD c 0 = dotW w (bitPt n (c : Int)) := by
 unfold prodL
 rw [List.getD_eq_getElem?_getD, List.getElem?_map, List.getElem?_range hc]
 rfl
theorem prodL_bd {n : Nat} (hn : n ≤ 4) {w : List Int} (hw : w ∈ allW 3 n) {c : Nat} (hc : c < 2 ^ n) : -12 ≤ (prodL n w).getD c 0 ∧ (prodL n w).getD c 0 ≤ 12 := by
 have hl := allW_len 3 n w hw
 have hm := allW_mem 3 n w hw
 have h16 : 2 ^ n ≤ 2 ^ 4 := Nat.pow_le_pow_right (by omega) hn
 have h := (dotN_bd (w := w) (x := bitPt n (c : Int)) (fun y hy => by have := hm y hy; omega) (by omega) (fun i hi => bitPt01 hn (by omega) i (by omega)) w.length (Nat.le_refl _)).1
 rw [prodL_get hc]
 change _ ≤ dotW w (bitPt n (c : Int)) ∧ dotW w (bitPt n (c : Int)) ≤ _ at h
 omega
def partG (T ps : List Int) (s : Int × Int × Int × Int) (i : Nat) : Int × Int × Int × Int :=
 if T.getD i 0 = 1 then (s.1 + 1, s.2.1, (if s.1 = 0 then ps.getD i 0 else if ps.getD i 0 < s.2.2.1 then ps.getD i 0 else s.2.2.1), s.2.2.2)
 else (s.1, s.2.1 + 1, s.2.2.1, if s.2.1 = 0 then ps.getD i 0 else if ps.getD i 0 > s.2.2.2 then ps.getD i 0 else s.2.2.2)
def partS (T ps : List Int) (m : Nat) : Int × Int × Int × Int := (List.range m).foldl (partG T ps) (0, 0, 0, 0)
def gapN (T ps : List Int) (m : Nat) : Int × Int := (List.range m).foldl (fun (s : Int × Int) (i : Nat) => if T.getD i 0 = 1 then (mn s.1 (ps.getD i 0), s.2) else (s.1, mx s.2 (ps.getD i 0))) (1000000000, -1000000000)
structure PartR (T : List Int) (m : Nat) (g : Int × Int) (s : Int × Int × Int × Int) : Prop where
 p1 : 0 ≤ s.1
 p2 : 0 ≤ s.2.1
 p3 : s.1 + s.2.1 = m
 n1 : s.1 = 0 → g.1 = 1000000000
 y1 : s.1 ≠ 0 → g.1 = s.2.2.1 ∧ -12 ≤ g.1 ∧ g.1 ≤ 12
 n2 : s.2.1 = 0 → g.2 = -1000000000
 y2 : s.2.1 ≠ 0 → g.2 = s.2.2.2 ∧ -12 ≤ g.2 ∧ g.2 ≤ 12
 h0 : s.1 = 0 → ∀ i < m, T.getD i 0 ≠ 1
 h1 : s.1 ≠ 0 → ∃ i, i < m ∧ T.getD i 0 = 1
theorem part_rel (T ps : List Int) : ∀ m : Nat, (∀ i < m, -12 ≤ ps.getD i 0 ∧ ps.getD i 0 ≤ 12) → PartR T m (gapN T ps m) (partS T ps m)
 | 0, _ => ⟨Int.le_refl _, Int.le_refl _, rfl, fun _ => rfl, fun h => absurd rfl h, fun _ => rfl, fun h => absurd rfl h, fun _ i h => absurd h (Nat.not_lt_zero _), fun h => absurd rfl h⟩
 | m + 1, hb => by
  have ih := part_rel T ps m (fun i hi => hb i (by omega))
  have hp := hb m (by omega)
  have e1 : gapN T ps (m + 1) = if T.getD m 0 = 1 then (mn (gapN T ps m).1 (ps.getD m 0), (gapN T ps m).2) else ((gapN T ps m).1, mx (gapN T ps m).2 (ps.getD m 0)) := by unfold gapN; rw [List.range_succ, List.foldl_append]; rfl
  have e2 : partS T ps (m + 1) = partG T ps (partS T ps m) m := by unfold partS; rw [List.range_succ, List.foldl_append]; rfl
  rw [e1, e2]
  generalize gapN T ps m = g at ih ⊢
  generalize partS T ps m = s at ih ⊢
  obtain ⟨g1, g2⟩ := g
  obtain ⟨s1, s2, s3, s4⟩ := s
  obtain ⟨p1, p2, p3, n1, y1, n2, y2, h0, h1⟩ := ih
  simp only at p1 p2 p3 n1 y1 n2 y2 h0 h1
  unfold partG
  by_cases q : T.getD m 0 = 1
  · simp only [if_pos q]
    refine ⟨by show 0 ≤ s1 + 1; omega, p2, by show s1 + 1 + s2 = _; omega, fun h => ?_, fun _ => ?_, n2, y2, fun h => ?_, fun _ => ⟨m, by omega, q⟩⟩
    · have h : s1 + 1 = 0 := h
      omega
    · show mn g1 (ps.getD m 0) = (if s1 = 0 then ps.getD m 0 else if ps.getD m 0 < s3 then ps.getD m 0 else s3) ∧ -12 ≤ mn g1 (ps.getD m 0) ∧ mn g1 (ps.getD m 0) ≤ 12
      generalize ps.getD m 0 = p at hp ⊢
      by_cases c : s1 = 0
      · have := n1 c; rw [if_pos c]; unfold mn; split <;> omega
      · have := y1 c; rw [if_neg c]; unfold mn; split <;> split <;> omega
    · have h : s1 + 1 = 0 := h
      omega
  · simp only [if_neg q]
    refine ⟨p1, by show 0 ≤ s2 + 1; omega, by show s1 + (s2 + 1) = _; omega, n1, y1, fun h => ?_, fun _ => ?_, fun h i hi => ?_, fun h => ?_⟩
    · have h : s2 + 1 = 0 := h
      omega
    · show mx g2 (ps.getD m 0) = (if s2 = 0 then ps.getD m 0 else if ps.getD m 0 > s4 then ps.getD m 0 else s4) ∧ -12 ≤ mx g2 (ps.getD m 0) ∧ mx g2 (ps.getD m 0) ≤ 12
      generalize ps.getD m 0 = p at hp ⊢
      by_cases c : s2 = 0
      · have := n2 c; rw [if_pos c]; unfold mx; split <;> omega
      · have := y2 c; rw [if_neg c]; unfold mx; split <;> split <;> omega
    · by_cases e : i = m
      · subst e; exact q
      · exact h0 h i (by omega)
    · obtain ⟨i, hi, hq⟩ := h1 h
      exact ⟨i, by omega, hq⟩
def partsM (T ps : List Int) : Int × Int × Bool := ((partS T ps T.length).2.2.1, (partS T ps T.length).2.2.2, decide ((gapS T ps).2 < (gapS T ps).1))
theorem allW_snoc (m : Nat) : ∀ d : Nat, allW m (d + 1) = (allW m d).flatMap fun t => (List.range (2 * m + 1)).map fun (i : Nat) => t ++ [(i : Int) - m]
 | 0 => by simp [allW, List.flatMap_cons, List.map_eq_flatMap]
 | d + 1 => by
  have ih := allW_snoc m d
  rw [show allW m (d + 1 + 1) = (List.range (2 * m + 1)).flatMap fun (i : Nat) => (allW m (d + 1)).map (((i : Int) - m) :: ·) from rfl]
  conv => lhs; rw [ih]
  rw [show allW m (d + 1) = (List.range (2 * m + 1)).flatMap fun (i : Nat) => (allW m d).map (((i : Int) - m) :: ·) from rfl]
  rw [List.flatMap_assoc]
  congr 1
  funext i
  rw [List.map_flatMap, List.flatMap_map]
  congr 1
  funext t
  rw [List.map_map]
  rfl
theorem spec_l5Parts_ev {n : Nat} (hn : n ≤ 4) {T : List Int} (hT : T.length = 2 ^ n) {w : List Int} (hw : w ∈ allW 3 n) : Ev (fun k => spec_l5Parts.f k (n : Int) T w) (partsM T (prodL n w)) := by
 have h16 : 2 ^ n ≤ 2 ^ 4 := Nat.pow_le_pow_right (by omega) hn
 have hl := allW_len 3 n w hw
 have hf := to_fold (L := fun i (s : Int × Int × Int × Int) k => spec_l5Parts.l0 k (n : Int) T w s.1 s.2.1 s.2.2.1 s.2.2.2 i) (n := T.length) (f := fun i s => partG T (prodL n w) s i) (fun i s => 0 ≤ s.1 ∧ 0 ≤ s.2.1 ∧ s.1 + s.2.1 = (i : Int)) (fun i s hi hs => ?_) (0, 0, 0, 0) ⟨by decide, by decide, by decide⟩
 · refine hf.1 _ ?_
   have hr := part_rel T (prodL n w) T.length (fun i hi => prodL_bd hn hw (by omega))
   have e : (List.range T.length).foldl (fun s i => partG T (prodL n w) s i) (0, 0, 0, 0) = partS T (prodL n w) T.length := rfl
   rw [e]
   have eg : gapN T (prodL n w) T.length = gapS T (prodL n w) := rfl
   rw [eg] at hr
   unfold partsM
   generalize partS T (prodL n w) T.length = s at hr ⊢
   generalize gapS T (prodL n w) = g at hr ⊢
   obtain ⟨p1, p2, p3, n1, y1, n2, y2, h0, h1⟩ := hr
   refine Ev.step' (f := fun _ => some (s.2.2.1, s.2.2.2, decide (g.2 < g.1))) (fun k => ?_) (Ev.now _)
   simp only [spec_l5Parts.l0, if_neg (Int.lt_irrefl _)]
   by_cases c1 : s.1 = 0
   · have := n1 c1
     have : g.2 < g.1 := by
      by_cases c2 : s.2.1 = 0
      · have := n2 c2; omega
      · have := y2 c2; omega
     rw [if_pos c1, decide_eq_true this]
   · have := y1 c1
     rw [if_neg c1]
     by_cases c2 : s.2.1 = 0
     · have := n2 c2
       rw [if_pos c2, decide_eq_true (by omega : g.2 < g.1)]
     · have := y2 c2
       rw [if_neg c2]
       have : (s.2.2.1 > s.2.2.2) ↔ g.2 < g.1 := by omega
       rw [decide_eq_decide.2 this]
 · obtain ⟨i1, i2, i3⟩ := hs
   have c1 : (i : Int) < (T.length : Int) := by omega
   have c0 : 0 ≤ (i : Int) := by omega
   have ws := wrap_succ hi (by omega : T.length ≤ 9223372036854775807)
   have w1 : wrap64 (s.1 + 1) = s.1 + 1 := wrap_id (by omega) (by omega)
   have w2 : wrap64 (s.2.1 + 1) = s.2.1 + 1 := wrap_id (by omega) (by omega)
   refine ⟨?_, ?_⟩
   · refine (To.step (f := fun k => (spec_l2BitPoint.f k (n : Int) (i : Int)).bind fun t => (spec_l2Dot.f k w t).bind fun u => if T.getD i 0 = 1 then (if s.1 = 0 then spec_l5Parts.l0 k (n : Int) T w (s.1 + 1) s.2.1 u s.2.2.2 ((i + 1 : Nat) : Int) else (if u < s.2.2.1 then spec_l5Parts.l0 k (n : Int) T w (s.1 + 1) s.2.1 u s.2.2.2 ((i + 1 : Nat) : Int) else spec_l5Parts.l0 k (n : Int) T w (s.1 + 1) s.2.1 s.2.2.1 s.2.2.2 ((i + 1 : Nat) : Int))) else (if s.2.1 = 0 then spec_l5Parts.l0 k (n : Int) T w s.1 (s.2.1 + 1) s.2.2.1 u ((i + 1 : Nat) : Int) else (if u > s.2.2.2 then spec_l5Parts.l0 k (n : Int) T w s.1 (s.2.1 + 1) s.2.2.1 u ((i + 1 : Nat) : Int) else spec_l5Parts.l0 k (n : Int) T w s.1 (s.2.1 + 1) s.2.2.1 s.2.2.2 ((i + 1 : Nat) : Int)))) (fun k => ?_)).trans ((To.bind (spec_l2BitPoint_ev n (i : Int) (by omega))).trans ((To.bind (spec_l2Dot_ev w _ (by unfold maxLen; omega) (by rw [bitPt_len]; omega))).trans (To.congr fun k => ?_)))
     · simp only [spec_l5Parts.l0, if_pos c1, if_pos c0, rd_nat, ws, w1, w2]
     · rw [← prodL_get (n := n) (w := w) (c := i) (by omega)]
       unfold partG
       by_cases q : T.getD i 0 = 1
       · simp only [if_pos q]
         by_cases c : s.1 = 0
         · simp only [if_pos c]
         · simp only [if_neg c]
           by_cases c3 : (prodL n w).getD i 0 < s.2.2.1
           · simp only [if_pos c3]
           · simp only [if_neg c3]
       · simp only [if_neg q]
         by_cases c : s.2.1 = 0
         · simp only [if_pos c]
         · simp only [if_neg c]
           by_cases c3 : (prodL n w).getD i 0 > s.2.2.2
           · simp only [if_pos c3]
           · simp only [if_neg c3]
   · show 0 ≤ (partG T (prodL n w) s i).1 ∧ 0 ≤ (partG T (prodL n w) s i).2.1 ∧ (partG T (prodL n w) s i).1 + (partG T (prodL n w) s i).2.1 = ((i + 1 : Nat) : Int)
     unfold partG
     split
     · show 0 ≤ s.1 + 1 ∧ 0 ≤ s.2.1 ∧ s.1 + 1 + s.2.1 = _; omega
     · show 0 ≤ s.1 ∧ 0 ≤ s.2.1 + 1 ∧ s.1 + (s.2.1 + 1) = _; omega
theorem spec_l1Own_eq (l : List Int) (h : l.length ≤ 1000) : spec_l1Own.f l = some l := by
 have c : ([] : List Int).length + l.length < 17592186044416 := by rw [List.length_nil]; omega
 simp only [spec_l1Own.f, Option.bind_some, if_pos c, List.nil_append]
theorem fold_flat {α β : Type} (h : α → List β) : ∀ (xs : List α) (s : List β), xs.foldl (fun s x => s ++ h x) s = s ++ xs.flatMap h
 | [], s => by simp
 | x :: xs, s => by rw [List.foldl_cons, fold_flat h xs, List.flatMap_cons, List.append_assoc]
theorem allW_cnt {d : Nat} (h : d ≤ 4) : (allW 3 d).length ≤ 2401 := by
 match d, h with
 | 0, _ => decide +kernel
 | 1, _ => decide +kernel
 | 2, _ => decide +kernel
 | 3, _ => decide +kernel
 | 4, _ => decide +kernel
 | d + 5, h => omega
theorem spec_l5Weights_row (n i j : Nat) (S : List (List Int)) (acc : List (List Int)) (hj : j < S.length) (hS : S.length ≤ 2401) (hr : ∀ x ∈ S, x.length ≤ 4) (ha : acc.length ≤ 1000000) :
 To (fun k => spec_l5Weights.l1 k (n : Int) S (i : Int) acc (j : Int)) (fun k => spec_l5Weights.l1 k (n : Int) S (i : Int) (acc ++ (List.range 7).map fun (c : Nat) => S.getD j [] ++ [(c : Int) - 3]) ((j + 1 : Nat) : Int)) := by
 have c1 : (j : Int) < (S.length : Int) := by omega
 have c0 : 0 ≤ (j : Int) := by omega
 have hx := hr _ (getD_mem hj [])
 have hf := to_fold (L := fun c (s : List (List Int)) k => spec_l5Weights.l2 k (n : Int) S (i : Int) s (j : Int) (c - 3)) (n := 7) (f := fun c s => s ++ [S.getD j [] ++ [(c : Int) - 3]]) (fun c s => s.length = acc.length + c) (fun c s hc hs => ⟨To.step fun k => ?_, by simp [hs]; omega⟩) acc (by simp)
 · refine (To.step (f := fun k => spec_l5Weights.l2 k (n : Int) S (i : Int) acc (j : Int) (0 - 3)) (fun k => by simp only [spec_l5Weights.l1, if_pos c1]; rfl)).trans (hf.1.trans (To.step fun k => ?_))
   rw [fold_append]
   have d : ¬ ((7 : Nat) : Int) - 3 ≤ 3 := by decide
   simp only [spec_l5Weights.l2, if_neg d, wrap_succ hj (by omega : S.length ≤ 9223372036854775807)]
 · have d1 : (c : Int) - 3 ≤ 3 := by omega
   have d2 : (S.getD j []).length < 17592186044416 := by omega
   have d3 : s.length < 5864062014805 := by omega
   have wc : wrap64 ((c : Int) - 3 + 1) = ((c + 1 : Nat) : Int) - 3 := by unfold wrap64; omega
   simp only [spec_l5Weights.l2, if_pos d1, if_pos c0, if_pos c1, rdL1_nat, spec_l1Own_eq _ (by omega : (S.getD j []).length ≤ 1000), Option.bind_some, if_pos d2, if_pos d3, wc]
theorem spec_l5Weights_ev {n : Nat} (hn : n ≤ 4) : Ev (fun k => spec_l5Weights.f k (n : Int)) (allW 3 n) := by
 have hf := to_fold (L := fun i (s : List (List Int)) k => spec_l5Weights.l0 k (n : Int) s i) (n := n) (f := fun _ s => s.flatMap fun t => (List.range 7).map fun (c : Nat) => t ++ [(c : Int) - 3]) (fun i s => s = allW 3 i) (fun i s hi hs => ?_) [[]] rfl
 · refine hf.1 _ ?_
   rw [hf.2]
   exact Ev.step' (f := fun _ => some (allW 3 n)) (fun k => by simp only [spec_l5Weights.l0, if_neg (Int.lt_irrefl _)]) (Ev.now _)
 · have e : (s.flatMap fun t => (List.range 7).map fun (c : Nat) => t ++ [(c : Int) - 3]) = allW 3 (i + 1) := by rw [allW_snoc, hs]; rfl
   refine ⟨?_, e⟩
   have c1 : (i : Int) < (n : Int) := by omega
   have hS : s.length ≤ 2401 := by rw [hs]; exact allW_cnt (by omega)
   have hr : ∀ x ∈ s, x.length ≤ 4 := fun x hx => by rw [hs] at hx; rw [allW_len 3 i x hx]; omega
   have hg := to_fold (L := fun j (a : List (List Int)) k => spec_l5Weights.l1 k (n : Int) s (i : Int) a j) (n := s.length) (f := fun j a => a ++ (List.range 7).map fun (c : Nat) => s.getD j [] ++ [(c : Int) - 3]) (fun j a => a.length = 7 * j) (fun j a hj ha => ⟨spec_l5Weights_row n i j s a hj hS hr (by omega), by rw [List.length_append, ha, List.length_map, List.length_range]; omega⟩) [] (by simp)
   refine (To.step (f := fun k => spec_l5Weights.l1 k (n : Int) s (i : Int) [] 0) (fun k => by simp only [spec_l5Weights.l0, if_pos c1])).trans (hg.1.trans (To.step fun k => ?_))
   have er : (List.range s.length).foldl (fun a j => a ++ (List.range 7).map fun (c : Nat) => s.getD j [] ++ [(c : Int) - 3]) [] = s.flatMap fun t => (List.range 7).map fun (c : Nat) => t ++ [(c : Int) - 3] := by
    rw [range_fold s (fun a t => a ++ (List.range 7).map fun (c : Nat) => t ++ [(c : Int) - 3]) [], fold_flat, List.nil_append]
   rw [er]
   simp only [spec_l5Weights.l1, if_neg (Int.lt_irrefl _), wrap_succ hi (by omega : n ≤ 9223372036854775807)]
def absW (x : Int) : Int := if x > wrap64 (-x) then x else wrap64 (-x)
theorem spec_l1Most_eq (x : Int) : spec_l1Most.f x (wrap64 (-x)) = some (absW x) := by
 unfold spec_l1Most.f absW
 by_cases c : x > wrap64 (-x)
 · rw [if_pos c, if_pos c]
 · rw [if_neg c, if_neg c]
def sizeM (l : List Int) (s : Int) : Int := l.foldl (fun s x => wrap64 (s + absW x)) s
theorem spec_l5Size_ev (l : List Int) (h : l.length ≤ maxLen) : Ev (fun k => spec_l5Size.f k l) (sizeM l 0) := by
 have h' : l.length ≤ 9223372036854775807 := h
 refine ev_list 0 l (fun i (s : Int) k => spec_l5Size.l0 k l s i) (fun _ ys s => sizeM ys s) (fun _ _ => True) (fun s _ => ?_) (fun i y ys s hi2 hy hm _ ih => ?_) 0 trivial
 · exact Ev.step' (f := fun _ => some s) (fun k => by simp only [spec_l5Size.l0, if_neg (Int.lt_irrefl _)]) (Ev.now _)
 · have c1 : (i : Int) < (l.length : Int) := by omega
   have c0 : 0 ≤ (i : Int) := by omega
   exact Ev.step' (fun k => by simp only [spec_l5Size.l0, if_pos c1, if_pos c0, rd_nat, hy, spec_l1Most_eq, Option.bind_some, wrap_succ hi2 h']) (ih (wrap64 (s + absW y)) trivial)
theorem sum_size (x : List Int) : impl_leastPlane.sum x = sizeM x 0 := by
 unfold impl_leastPlane.sum sizeM
 congr 1
 funext s m
 congr 2
 unfold mx absW
 split <;> split <;> omega
def boundM (n : Nat) (T x : List Int) : Int := if (gapS T (prodL n x)).1 = 1000000000 then wrap64 ((gapS T (prodL n x)).2 + 1) else (gapS T (prodL n x)).1
def sstep (n : Nat) (T x : List Int) (s : List Int × Bool) : List Int × Bool := if s.2 = true ∧ sizeM x 0 ≥ sizeM s.1 0 then s else if okW2 n T x = true then (x, true) else s
def leastS (n : Nat) (T : List Int) : List Int × Bool := (allW 3 n).foldl (fun s x => sstep n T x s) ([], false)
structure LeastR (n : Nat) (T : List Int) (s : List Int × Int × Int) (t : List Int × Bool) : Prop where
 no : t.2 = false → s.2.2 = 1000000000
 yes : t.2 = true → t.1 ∈ allW 3 n ∧ s.1 = t.1 ∧ s.2.2 = sizeM t.1 0 ∧ s.2.2 < 1000000000 ∧ s.2.1 = boundM n T t.1
theorem least_rel {n : Nat} (hn : n ≤ 4) (T : List Int) : ∀ (L : List (List Int)) (s : List Int × Int × Int) (t : List Int × Bool), (∀ x ∈ L, x ∈ allW 3 n) → LeastR n T s t → LeastR n T (L.foldl (fun s x => gstep n T x s) s) (L.foldl (fun s x => sstep n T x s) t)
 | [], _, _, _, h => h
 | x :: L, s, t, hm, h => by
  refine least_rel hn T L _ _ (fun y hy => hm y (List.mem_cons_of_mem _ hy)) ?_
  have hx := hm x (List.mem_cons_self ..)
  have hs := sums_small hn x hx
  rw [sum_size] at hs
  have hok : okW2 n T x = true ↔ ¬ (gapS T (prodL n x)).1 ≤ (gapS T (prodL n x)).2 := by unfold okW2; rw [decide_eq_true_eq]; omega
  have take : LeastR n T (if (gapS T (prodL n x)).1 ≤ (gapS T (prodL n x)).2 then s else if (gapS T (prodL n x)).1 = 1000000000 then (x, wrap64 ((gapS T (prodL n x)).2 + 1), sizeM x 0) else (x, (gapS T (prodL n x)).1, sizeM x 0)) (if okW2 n T x = true then (x, true) else t) := by
   by_cases c : (gapS T (prodL n x)).1 ≤ (gapS T (prodL n x)).2
   · rw [if_pos c, if_neg (fun h => hok.1 h c)]; exact h
   · rw [if_neg c, if_pos (hok.2 c)]
     refine ⟨fun h => Bool.noConfusion h, fun _ => ?_⟩
     unfold boundM
     by_cases e : (gapS T (prodL n x)).1 = 1000000000
     · rw [if_pos e]; exact ⟨hx, rfl, rfl, hs, by rw [if_pos e]⟩
     · rw [if_neg e]; exact ⟨hx, rfl, rfl, hs, by rw [if_neg e]⟩
  show LeastR n T (gstep n T x s) (sstep n T x t)
  unfold gstep sstep
  rw [sum_size]
  cases ht : t.2 with
  | false =>
   have h0 := h.no ht
   rw [if_neg (show ¬ sizeM x 0 ≥ s.2.2 by omega), if_neg (show ¬ (false = true ∧ sizeM x 0 ≥ sizeM t.1 0) from fun h => absurd h.1 (by decide))]
   exact take
  | true =>
   have h1 := h.yes ht
   rw [h1.2.2.1]
   by_cases c : sizeM x 0 ≥ sizeM t.1 0
   · rw [if_pos c, if_pos ⟨rfl, c⟩]; exact h
   · rw [if_neg c, if_neg (show ¬ (true = true ∧ sizeM x 0 ≥ sizeM t.1 0) from fun h => c h.2)]
     exact take
theorem leastR {n : Nat} (hn : n ≤ 4) (T : List Int) : LeastR n T (lpM n T) (leastS n T) := least_rel hn T _ _ _ (fun _ h => h) ⟨fun _ => rfl, fun h => absurd h (by decide)⟩
theorem spec_l5Least_ev {n : Nat} (hn : n ≤ 4) {T : List Int} (hT : T.length = 2 ^ n) : Ev (fun k => spec_l5Least.f k (n : Int) T) (leastS n T) := by
 refine Ev.bind (spec_l5Weights_ev hn) ?_
 have hA := allW_cnt hn
 have hf := to_fold (L := fun i (s : List Int × Bool) k => spec_l5Least.l0 k (n : Int) T (allW 3 n) s.1 s.2 i) (n := (allW 3 n).length) (f := fun i s => sstep n T ((allW 3 n).getD i []) s) (fun _ s => s.1.length ≤ 4) (fun i s hi hs => ?_) ([], false) (by simp)
 · refine hf.1 _ ?_
   have e : (List.range (allW 3 n).length).foldl (fun s i => sstep n T ((allW 3 n).getD i []) s) ([], false) = leastS n T := range_fold (allW 3 n) (fun s x => sstep n T x s) [] ([], false)
   rw [e]
   exact Ev.step' (f := fun _ => some (leastS n T)) (fun k => by simp only [spec_l5Least.l0, if_neg (Int.lt_irrefl _)]) (Ev.now _)
 · have c1 : (i : Int) < ((allW 3 n).length : Int) := by omega
   have c0 : 0 ≤ (i : Int) := by omega
   have hx := getD_mem hi []
   have hl := allW_len 3 n _ hx
   have ws := wrap_succ hi (by omega : (allW 3 n).length ≤ 9223372036854775807)
   have hJ : ∀ b : Bool, To (fun k => spec_l5Least.j1 k (n : Int) T (allW 3 n) s.1 s.2 (i : Int) b) (fun k => spec_l5Least.l0 k (n : Int) T (allW 3 n) (if b = true then s else if okW2 n T ((allW 3 n).getD i []) = true then ((allW 3 n).getD i [], true) else s).1 (if b = true then s else if okW2 n T ((allW 3 n).getD i []) = true then ((allW 3 n).getD i [], true) else s).2 ((i + 1 : Nat) : Int)) := by
    intro b
    cases b with
    | true => exact To.step fun k => by simp only [spec_l5Least.j1, if_true, ws]
    | false =>
     refine (To.step (f := fun k => (spec_l5Parts.f k (n : Int) T ((allW 3 n).getD i [])).bind fun bt => if bt.2.2 = true then spec_l5Least.l0 k (n : Int) T (allW 3 n) ((allW 3 n).getD i []) true ((i + 1 : Nat) : Int) else spec_l5Least.l0 k (n : Int) T (allW 3 n) s.1 s.2 ((i + 1 : Nat) : Int)) (fun k => by simp only [spec_l5Least.j1, Bool.false_eq_true, if_false, if_pos c0, if_pos c1, rdL1_nat, ws])).trans ((To.bind (spec_l5Parts_ev hn hT hx)).trans (To.congr fun k => ?_))
     have e : (partsM T (prodL n ((allW 3 n).getD i []))).2.2 = okW2 n T ((allW 3 n).getD i []) := rfl
     rw [e]
     cases okW2 n T ((allW 3 n).getD i []) with
     | true => simp only [Bool.false_eq_true, if_false, if_true]
     | false => simp only [Bool.false_eq_true, if_false]
   refine ⟨?_, ?_⟩
   · cases hs2 : s.2 with
     | false =>
      have h1 := hJ false
      have e : sstep n T ((allW 3 n).getD i []) s = if okW2 n T ((allW 3 n).getD i []) = true then ((allW 3 n).getD i [], true) else s := by unfold sstep; rw [hs2, if_neg (fun h => absurd h.1 (by decide))]
      rw [e]
      simp only [Bool.false_eq_true, if_false] at h1
      rw [hs2] at h1
      exact (To.step fun k => by simp only [spec_l5Least.l0, if_pos c1, Bool.false_eq_true, if_false]).trans h1
     | true =>
      have h1 := hJ (decide (sizeM ((allW 3 n).getD i []) 0 ≥ sizeM s.1 0))
      have e : sstep n T ((allW 3 n).getD i []) s = if decide (sizeM ((allW 3 n).getD i []) 0 ≥ sizeM s.1 0) = true then s else if okW2 n T ((allW 3 n).getD i []) = true then ((allW 3 n).getD i [], true) else s := by
       unfold sstep
       by_cases c : sizeM ((allW 3 n).getD i []) 0 ≥ sizeM s.1 0
       · rw [if_pos ⟨hs2, c⟩, if_pos (decide_eq_true c)]
       · rw [if_neg (fun h => c h.2)]; simp only [decide_eq_false c, Bool.false_eq_true, if_false]
      rw [e]
      rw [hs2] at h1
      refine (To.step (f := fun k => (spec_l5Size.f k ((allW 3 n).getD i [])).bind fun t => (spec_l5Size.f k s.1).bind fun u => spec_l5Least.j1 k (n : Int) T (allW 3 n) s.1 true (i : Int) (decide (t ≥ u))) (fun k => by simp only [spec_l5Least.l0, if_pos c1, if_true, if_pos c0, rdL1_nat])).trans ((To.bind (spec_l5Size_ev _ (by unfold maxLen; omega))).trans ((To.bind (spec_l5Size_ev _ (by unfold maxLen; omega))).trans h1))
   · unfold sstep
     split
     · exact hs
     · split
       · show ((allW 3 n).getD i []).length ≤ 4
         omega
       · exact hs
theorem spec_l1Has_ev (l : List Int) (v : Int) (h : l.length ≤ maxLen) : Ev (fun k => spec_l1Has.f k l v) (decide (0 < l.count v)) := by
 have h' : l.length ≤ 9223372036854775807 := h
 refine ev_list 0 l (fun i (_ : Unit) k => spec_l1Has.l0 k l v i) (fun _ ys _ => decide (0 < ys.count v)) (fun _ _ => True) (fun _ _ => ?_) (fun i x ys _ hi hx hm _ ih => ?_) () trivial
 · exact Ev.step' (f := fun _ => some false) (fun k => by simp only [spec_l1Has.l0, if_neg (Int.lt_irrefl _)]) (Ev.now _)
 · have c1 : (i : Int) < (l.length : Int) := by omega
   have c0 : 0 ≤ (i : Int) := by omega
   by_cases c : x = v
   · exact ev_eq (Ev.step' (f := fun _ => some true) (fun k => by simp only [spec_l1Has.l0, if_pos c1, if_pos c0, rd_nat, hx, if_pos c]) (Ev.now _)) (by simp [c])
   · exact ev_eq (Ev.step' (fun k => by simp only [spec_l1Has.l0, if_pos c1, if_pos c0, rd_nat, hx, if_neg c, wrap_succ hi h']) (ih () trivial)) (by simp [List.count_cons, c])
def planeM (n : Nat) (T : List Int) : List Int × Int × Bool := if (leastS n T).2 = true then ((leastS n T).1, boundM n T (leastS n T).1, true) else ([], 0, false)
theorem count_at (T : List Int) (v : Int) : decide (0 < T.count v) = true ↔ ∃ i, i < T.length ∧ T.getD i 0 = v := by
 rw [decide_eq_true_eq, List.count_pos_iff]
 constructor
 · intro h
   obtain ⟨i, hi, e⟩ := List.getElem_of_mem h
   exact ⟨i, hi, by rw [List.getD_eq_getElem?_getD, List.getElem?_eq_getElem hi, e]; rfl⟩
 · rintro ⟨i, hi, e⟩
   rw [← e]; exact getD_mem hi 0
theorem spec_l5Plane_ev {n : Nat} (hn : n ≤ 4) {T : List Int} (hT : T.length = 2 ^ n) : Ev (fun k => spec_l5Plane.f k (n : Int) T) (planeM n T) := by
 have h16 : 2 ^ n ≤ 2 ^ 4 := Nat.pow_le_pow_right (by omega) hn
 have hp : 0 < 2 ^ n := Nat.two_pow_pos n
 refine Ev.bind (spec_l5Least_ev hn hT) ?_
 have hR := leastR hn T
 unfold planeM
 generalize leastS n T = t at hR ⊢
 cases ht : t.2 with
 | false => simp only [Bool.false_eq_true, if_false]; exact Ev.now _
 | true =>
  simp only [if_true]
  have hm := (hR.yes ht).1
  refine Ev.bind (spec_l5Parts_ev hn hT hm) (Ev.bind (spec_l1Has_ev T 1 (by unfold maxLen; omega)) ?_)
  have hr := part_rel T (prodL n t.1) T.length (fun i hi => prodL_bd hn hm (by omega))
  have eg : gapN T (prodL n t.1) T.length = gapS T (prodL n t.1) := rfl
  rw [eg] at hr
  unfold partsM boundM
  generalize partS T (prodL n t.1) T.length = s at hr ⊢
  generalize gapS T (prodL n t.1) = g at hr ⊢
  obtain ⟨p1, p2, p3, n1, y1, n2, y2, h0, h1⟩ := hr
  by_cases c : s.1 = 0
  · have hz := h0 c
    have e : decide (0 < T.count 1) = false := by
     cases hd : decide (0 < T.count 1) with
     | false => rfl
     | true => obtain ⟨i, hi, e⟩ := (count_at T 1).1 hd; exact absurd e (hz i hi)
    have g1 := n1 c
    have g2 := y2 (by omega)
    simp only [e, Bool.false_eq_true, if_false, if_pos g1, g2.1]
    exact Ev.now _
  · have e : decide (0 < T.count 1) = true := (count_at T 1).2 (h1 c)
    have g1 := y1 c
    have gn : ¬ g.1 = 1000000000 := by omega
    simp only [e, if_true, if_neg gn]
    rw [g1.1]
    exact Ev.now _
theorem spec_l2Table_bits (l : List Int) (h : l.length ≤ maxLen) : Ev (fun k => spec_l2Table.l0 k l 0) (l.all (inR 0 1)) := by
 unfold maxLen at h
 have st : ∀ i : Nat, i < l.length → ∀ k, spec_l2Table.l0 (k + 1) l (i : Int) = if inR 0 1 (l.getD i 0) = true then spec_l2Table.l0 k l ((i + 1 : Nat) : Int) else some false := by
  intro i hi k
  have c1 : (i : Int) < (l.length : Int) := by omega
  have c0 : 0 ≤ (i : Int) := by omega
  simp only [spec_l2Table.l0, if_pos c1, if_pos c0, rd_nat, spec_l1In_eq, Option.bind_some, wrap_succ hi (by omega : l.length ≤ 9223372036854775807)]
 rw [← range_all l (inR 0 1) 0]
 refine ev_all (L := fun x k => spec_l2Table.l0 k l x) (n := l.length) (p := fun (x : Nat) => inR 0 1 (l.getD x 0)) (fun x hx h => To.step fun k => ?_) (fun x hx h => Ev.step' (f := fun _ => some false) (fun k => ?_) (Ev.now _)) (Ev.step' (f := fun _ => some true) (fun k => by simp only [spec_l2Table.l0, if_neg (Int.lt_irrefl _)]) (Ev.now _))
 · show spec_l2Table.l0 (k + 1) l (x : Int) = _
   rw [st x hx k, if_pos h]
 · show spec_l2Table.l0 (k + 1) l (x : Int) = _
   rw [st x hx k, if_neg (by rw [h]; decide)]
def tableB (a : Int) (l : List Int) : Bool := decide ((l.length : Int) = shl .i64 1 a) && l.all (inR 0 1)
theorem spec_l2Table_ev4 (a : Int) (l : List Int) (h : l.length ≤ maxLen) (ha : 0 ≤ a ∧ a ≤ 4) : Ev (fun k => spec_l2Table.f k a l) (tableB a l) := by
 have e : inR 0 4 a = true := (inR_iff 0 4 a).2 (by omega)
 have c : 0 ≤ a := by omega
 refine Ev.congr (g := fun k => spec_l2Table.f k a l) (f := fun k => spec_l2Table.j0 k l ((l.length : Int) != (shl .i64 1 a))) (fun k => by simp only [spec_l2Table.f, spec_l1In_eq, e, Option.bind_some, if_true, if_pos c]) ?_
 unfold tableB
 by_cases q : (l.length : Int) = shl .i64 1 a
 · rw [decide_eq_true q, Bool.true_and, show ((l.length : Int) != shl .i64 1 a) = false from by simpa using q]
   exact Ev.step' (f := fun k => spec_l2Table.l0 k l 0) (fun k => by simp only [spec_l2Table.j0, Bool.false_eq_true, if_false]) (spec_l2Table_bits l h)
 · rw [decide_eq_false q, Bool.false_and, show ((l.length : Int) != shl .i64 1 a) = true from by simpa using q]
   exact Ev.step' (f := fun _ => some false) (fun k => by simp only [spec_l2Table.j0, if_true]) (Ev.now _)
def leastM (n : Nat) (T : List Int) : List Int × Int × Bool := if tableB (n : Int) T = true then planeM n T else ([], 0, false)
theorem table_len {n : Nat} (hn : n ≤ 4) {T : List Int} (h : tableB (n : Int) T = true) : T.length = 2 ^ n := by
 unfold tableB at h
 rw [Bool.and_eq_true, decide_eq_true_eq, shl_small hn] at h
 exact Int.ofNat.inj h.1
theorem spec_LeastPlane_ev {n : Nat} (h1 : 1 ≤ n) (hn : n ≤ 4) (T : List Int) (h : T.length ≤ maxLen) : Ev (fun k => spec_LeastPlane.f k (n : Int) T) (leastM n T) := by
 refine Ev.bind (spec_l2Table_ev4 (n : Int) T h (by omega)) ?_
 unfold leastM
 cases ht : tableB (n : Int) T with
 | false => simp only [Bool.false_eq_true, if_false]; exact Ev.now _
 | true =>
  have c : ¬ (n : Int) = 0 := by omega
  simp only [if_true, if_neg c]
  exact Ev.bind (spec_l5Plane_ev hn (table_len hn ht)) (Ev.now _)
theorem spec_l2Side_ev (w : List Int) (b : Int) (x : List Int) (hw : w.length ≤ maxLen) (hx : w.length ≤ x.length) : Ev (fun k => spec_l2Side.f k w b x) (sideW w b x) := by
 refine Ev.bind (spec_l2Dot_ev w x hw hx) ?_
 unfold sideW
 by_cases c : dotW w x ≥ b
 · simp only [if_pos c]; exact Ev.now _
 · simp only [if_neg c]; exact Ev.now _
def bitS (s : Int) : Int := if s = 1 then 1 else 0
def giveM (y : List S39) (x : List Int) : List Int := y.map fun p => bitS (sideW p.f0 p.f1 x)
def runM : List (List S39) → List Int → List Int
 | [], x => x
 | y :: ys, x => runM ys (giveM y x)
theorem giveM_len (y : List S39) (x : List Int) : (giveM y x).length = y.length := List.length_map _
def okL : Nat → List (List S39) → Prop
 | _, [] => True
 | n, y :: ys => (y.length ≤ 4 ∧ ∀ p ∈ y, p.f0.length = n) ∧ okL y.length ys
theorem layB_ok : ∀ (N : List (List S39)) (n : Nat), layB n N = true → okL n N
 | [], _, _ => trivial
 | y :: ys, n, h => by
  simp only [layB, Bool.and_eq_true, List.all_eq_true, beq_iff_eq] at h
  have hl := (inR_iff _ _ _).1 h.2.1
  exact ⟨⟨by omega, fun p hp => by have := (h.1 p hp).2; omega⟩, layB_ok ys y.length h.2.2⟩
theorem netB_ok {d : Int} {N : List (List S39)} (h : netB d N = true) : (1 ≤ d ∧ d ≤ 4) ∧ (1 ≤ N.length ∧ N.length ≤ 6) ∧ okL d.toNat N := by
 unfold netB at h
 simp only [Bool.and_eq_true] at h
 have h1 := (inR_iff _ _ _).1 h.1
 have h2 := (inR_iff _ _ _).1 h.2.1
 refine ⟨h1, by omega, layB_ok N d.toNat ?_⟩
 rw [Int.toNat_of_nonneg (by omega)]
 exact h.2.2
theorem spec_l9Give_ev (y : List S39) (x : List Int) (hy : y.length ≤ 1000) (hx : x.length ≤ 1000) (hl : ∀ p ∈ y, p.f0.length = x.length) : Ev (fun k => spec_l9Give.f k y x) (giveM y x) := by
 refine ev_list z39 y (fun i (s : List Int) k => spec_l9Give.l0 k y x s i) (fun _ ys s => s ++ giveM ys x) (fun i s => s.length = i) (fun s _ => ?_) (fun i p ys s hi hp hm hs ih => ?_) [] rfl
 · exact Ev.step' (f := fun _ => some s) (fun k => by simp only [spec_l9Give.l0, if_neg (Int.lt_irrefl _)]) (by simpa [giveM] using Ev.now _)
 · have c1 : (i : Int) < (y.length : Int) := by omega
   have c0 : 0 ≤ (i : Int) := by omega
   have c2 : s.length < 17592186044416 := by omega
   have hlp := hl p hm
   refine ev_eq (Ev.step' (f := fun k => (spec_l2Side.f k p.f0 p.f1 x).bind fun t => if t = 1 then spec_l9Give.l0 k y x (s ++ [1]) ((i + 1 : Nat) : Int) else spec_l9Give.l0 k y x (s ++ [0]) ((i + 1 : Nat) : Int)) (fun k => by simp only [spec_l9Give.l0, if_pos c1, if_pos c0, if_pos c2, rdT39_nat, hp, wrap_succ hi (by omega : y.length ≤ 9223372036854775807)]) (Ev.bind (r := s ++ [bitS (sideW p.f0 p.f1 x)] ++ giveM ys x) (spec_l2Side_ev _ _ x (by unfold maxLen; omega) (by omega)) ?_)) (by simp [giveM])
   unfold bitS
   by_cases c : sideW p.f0 p.f1 x = 1
   · simp only [if_pos c]; exact ih (s ++ [1]) (by simp [hs])
   · simp only [if_neg c]; exact ih (s ++ [0]) (by simp [hs])
theorem drop_at {α : Type} {N : List α} {i : Nat} {y d : α} (hi : i < N.length) (hy : N.getD i d = y) : N.drop i = y :: N.drop (i + 1) := by
 rw [List.drop_eq_getElem_cons hi]
 rw [List.getD_eq_getElem?_getD, List.getElem?_eq_getElem hi] at hy
 simp at hy
 rw [hy]
theorem spec_l9Run_ev (d : Int) (N : List (List S39)) (x : List Int) (hN : N.length ≤ 1000) (hx : x.length ≤ 1000) (hok : okL x.length N) : Ev (fun k => spec_l9Run.f k d N x) (runM N x) := by
 refine Ev.congr (f := fun k => spec_l9Run.l0 k x 0 d N) (fun k => by simp only [spec_l9Run.f, spec_l1Own_eq x hx, Option.bind_some]) ?_
 refine ev_list [] N (fun i (s : List Int) k => spec_l9Run.l0 k s i d N) (fun _ ys s => runM ys s) (fun i s => s.length ≤ 1000 ∧ okL s.length (N.drop i)) (fun s _ => ?_) (fun i y ys s hi hy hm hs ih => ?_) x ⟨hx, hok⟩
 · exact Ev.step' (f := fun _ => some s) (fun k => by simp only [spec_l9Run.l0, if_neg (Int.lt_irrefl _)]) (Ev.now _)
 · have c1 : (i : Int) < (N.length : Int) := by omega
   have c0 : 0 ≤ (i : Int) := by omega
   obtain ⟨h1, h2⟩ := hs
   rw [drop_at hi hy] at h2
   obtain ⟨⟨h3, h4⟩, h5⟩ := h2
   refine Ev.step' (f := fun k => (spec_l9Give.f k y s).bind fun t => spec_l9Run.l0 k t ((i + 1 : Nat) : Int) d N) (fun k => by simp only [spec_l9Run.l0, if_pos c1, if_pos c0, rdL3_nat, hy, wrap_succ hi (by omega : N.length ≤ 9223372036854775807)]) (Ev.bind (spec_l9Give_ev y s (by omega) h1 h4) ?_)
   exact ih (giveM y s) ⟨by rw [giveM_len]; omega, by rw [giveM_len]; exact h5⟩
def lastL (N : List (List S39)) : List S39 := N.getD (N.length - 1) []
def addCell (g : List Int) (i : Nat) (s : List (List Int)) : List (List Int) := s.set i (s.getD i [] ++ [g.getD i 0])
def rowT (n : Nat) (g : List Int) (s : List (List Int)) : List (List Int) := (List.range n).foldl (fun s i => addCell g i s) s
def tabsM (d : Nat) (N : List (List S39)) : List (List Int) := (List.range (2 ^ d)).foldl (fun s (c : Nat) => rowT (lastL N).length (runM N (bitPt d (c : Int))) s) (List.replicate (lastL N).length [])
def RowOk (n c i : Nat) (s : List (List Int)) : Prop := s.length = n ∧ ∀ j, j < n → (s.getD j []).length = if j < i then c + 1 else c
theorem rowOk_step {n c i : Nat} {s : List (List Int)} (g : List Int) (hi : i < n) (h : RowOk n c i s) : RowOk n c (i + 1) (addCell g i s) := by
 obtain ⟨h1, h2⟩ := h
 refine ⟨by unfold addCell; rw [List.length_set]; exact h1, fun j hj => ?_⟩
 unfold addCell
 by_cases e : j = i
 · subst e
   have := h2 j hj
   rw [if_neg (Nat.lt_irrefl _)] at this
   rw [if_pos (by omega), List.getD_eq_getElem?_getD, List.getElem?_set_self (by omega), Option.getD_some, List.length_append, this]
   rfl
 · have := h2 j hj
   rw [List.getD_eq_getElem?_getD, List.getElem?_set_ne (Ne.symm e), ← List.getD_eq_getElem?_getD, this]
   by_cases c1 : j < i
   · rw [if_pos c1, if_pos (by omega)]
   · rw [if_neg c1, if_neg (by omega)]
theorem rowOk_next {n c : Nat} {s : List (List Int)} (h : RowOk n c n s) : RowOk n (c + 1) 0 s := ⟨h.1, fun j hj => by rw [h.2 j hj, if_pos hj, if_neg (by omega)]⟩
theorem runM_len : ∀ (N : List (List S39)) (x : List Int), 1 ≤ N.length → (runM N x).length = (lastL N).length
 | [y], x, _ => by simp [runM, lastL, giveM_len]
 | y :: z :: ys, x, _ => by
  have := runM_len (z :: ys) (giveM y x) (by simp)
  show (runM (z :: ys) (giveM y x)).length = _
  rw [this]
  simp [lastL]
theorem shl_pow {d : Nat} (h : d ≤ 4) : shl .i64 1 (d : Int) = ((2 ^ d : Nat) : Int) := by
 have : d = 0 ∨ d = 1 ∨ d = 2 ∨ d = 3 ∨ d = 4 := by omega
 rcases this with rfl | rfl | rfl | rfl | rfl <;> decide +kernel
theorem pow_small {d : Nat} (h : d ≤ 4) : 2 ^ d ≤ 16 := Nat.pow_le_pow_right (n := 2) (by omega) h
theorem okL_last : ∀ (N : List (List S39)) (n : Nat), 1 ≤ N.length → okL n N → (lastL N).length ≤ 4
 | [y], n, _, h => by have := h.1.1; simpa [lastL] using this
 | y :: z :: ys, n, _, h => by
  have := okL_last (z :: ys) y.length (by simp) h.2
  simpa [lastL] using this
theorem spec_l9Tables_row (d : Int) (N : List (List S39)) (n c : Nat) (g : List Int) (s : List (List Int)) (hg : g.length = n) (hn : n ≤ 1000) (hc : c ≤ 1000) (hs : RowOk n c 0 s) :
 To (fun k => spec_l9Tables.l1 k s (c : Int) g 0 d N) (fun k => spec_l9Tables.l0 k (rowT n g s) ((c + 1 : Nat) : Int) d N) ∧ RowOk n (c + 1) 0 (rowT n g s) := by
 have hf := to_fold (L := fun j (t : List (List Int)) k => spec_l9Tables.l1 k t (c : Int) g j d N) (n := n) (f := fun j t => addCell g j t) (fun j t => RowOk n c j t) (fun j t hj ht => ⟨To.step fun k => ?_, rowOk_step g hj ht⟩) s hs
 · refine ⟨hf.1.trans (To.step fun k => ?_), rowOk_next hf.2⟩
   have e : ((rowT n g s).length : Int) = (n : Int) := by have := hf.2.1; exact congrArg _ this
   show spec_l9Tables.l1 (k + 1) (rowT n g s) _ _ _ _ _ = _
   simp only [spec_l9Tables.l1, e, if_neg (Int.lt_irrefl _), wrap_succ (i := c) (n := 1001) (by omega) (by omega)]
 · have h1 : t.length = n := ht.1
   have h2 := ht.2 j hj
   rw [if_neg (Nat.lt_irrefl _)] at h2
   have c1 : (j : Int) < (t.length : Int) := by omega
   have c0 : 0 ≤ (j : Int) := by omega
   have c2 : (j : Int) < (g.length : Int) := by omega
   have c3 : (t.getD j []).length < 17592186044416 := by omega
   simp only [spec_l9Tables.l1, if_pos c1, if_pos c0, if_pos c2, rdL1_nat, if_pos c3, rd_nat, Int.toNat_natCast, wrap_succ (i := j) (n := n) hj (by omega)]
   rfl
theorem spec_l9Tables_ev (d : Int) (N : List (List S39)) (h : netB d N = true) : Ev (fun k => spec_l9Tables.f k d N) (tabsM d.toNat N) := by
 obtain ⟨h1, h2, h3⟩ := netB_ok h
 have hl := okL_last N d.toNat (by omega) h3
 have e : wrap64 ((N.length : Int) - 1) = ((N.length - 1 : Nat) : Int) := by rw [wrap_id (by omega) (by omega)]; omega
 have c0 : 0 ≤ ((N.length - 1 : Nat) : Int) := by omega
 have c1 : ((N.length - 1 : Nat) : Int) < (N.length : Int) := by omega
 have el : N.getD (N.length - 1) [] = lastL N := rfl
 have c2 : 0 ≤ ((lastL N).length : Int) := by omega
 have c3 : (lastL N).length ≤ 11728124029610 := by omega
 obtain ⟨m, rfl⟩ : ∃ m : Nat, d = (m : Int) := ⟨d.toNat, by omega⟩
 rw [Int.toNat_natCast] at h3 ⊢
 have cd : 0 ≤ (m : Int) := by omega
 have hp := pow_small (d := m) (by omega)
 refine Ev.congr (f := fun k => spec_l9Tables.l0 k (List.replicate (lastL N).length []) 0 (m : Int) N) (fun k => by simp only [spec_l9Tables.f, e, if_pos c0, if_pos c1, rdL3_nat, el, if_pos c2, Int.toNat_natCast, if_pos c3]) ?_
 have hf := to_fold (L := fun c (s : List (List Int)) k => spec_l9Tables.l0 k s c (m : Int) N) (n := 2 ^ m) (f := fun (c : Nat) s => rowT (lastL N).length (runM N (bitPt m (c : Int))) s) (fun c s => RowOk (lastL N).length c 0 s) (fun c s hc hs => ?_) (List.replicate (lastL N).length []) ⟨by simp, fun j hj => by simp [List.getElem?_replicate, hj]⟩
 · refine hf.1 _ (Ev.step' (f := fun _ => some (tabsM m N)) (fun k => ?_) (Ev.now _))
   simp only [spec_l9Tables.l0, if_pos cd, shl_pow (d := m) (by omega), if_neg (Int.lt_irrefl _)]
   rfl
 · have hbl := bitPt_len m (c : Int)
   have hr := spec_l9Tables_row (m : Int) N (lastL N).length c (runM N (bitPt m (c : Int))) s (runM_len N _ (by omega)) (by omega) (by omega) hs
   have cc : (c : Int) < ((2 ^ m : Nat) : Int) := by omega
   refine ⟨(To.step (f := fun k => (spec_l2BitPoint.f k (m : Int) (c : Int)).bind fun t => (spec_l9Run.f k (m : Int) N t).bind fun u => spec_l9Tables.l1 k s (c : Int) u 0 (m : Int) N) (fun k => ?_)).trans ((To.bind (spec_l2BitPoint_ev m (c : Int) (by omega))).trans ((To.bind (spec_l9Run_ev (m : Int) N _ (by omega) (by omega) (by rw [hbl]; exact h3))).trans hr.1)), hr.2⟩
   simp only [spec_l9Tables.l0, if_pos cd, shl_pow (d := m) (by omega), if_pos cc]
theorem tabsM_small (d : Int) (N : List (List S39)) (h : netB d N = true) : RowOk (lastL N).length (2 ^ d.toNat) 0 (tabsM d.toNat N) := by
 have hf := to_fold (α := Nat) (L := fun _ (s : List (List Int)) _ => none) (n := 2 ^ d.toNat) (f := fun (c : Nat) s => rowT (lastL N).length (runM N (bitPt d.toNat (c : Int))) s) (fun c s => RowOk (lastL N).length c 0 s) (fun c s hc hs => ⟨To.refl _, ?_⟩) (List.replicate (lastL N).length []) ⟨by simp, fun j hj => by simp [List.getElem?_replicate, hj]⟩
 · exact hf.2
 · have hg := to_fold (α := Nat) (L := fun _ (s : List (List Int)) _ => none) (n := (lastL N).length) (f := fun j t => addCell (runM N (bitPt d.toNat (c : Int))) j t) (fun j t => RowOk (lastL N).length c j t) (fun j t hj ht => ⟨To.refl _, rowOk_step _ hj ht⟩) s hs
   exact rowOk_next hg.2
def singleM (d : Int) (N : List (List S39)) : List Int × Int × Bool := if netB d N = true then (if (lastL N).length = 1 then leastM d.toNat ((tabsM d.toNat N).getD 0 []) else ([], 0, false)) else ([], 0, false)
theorem spec_SinglePlane_ev (d : Int) (N : List (List S39)) (h : N.length ≤ maxLen) (hi : ∀ x ∈ N, x.length ≤ maxLen ∧ ∀ y ∈ x, y.f0.length ≤ maxLen) : Ev (fun k => spec_SinglePlane.f k d N) (singleM d N) := by
 refine Ev.bind (spec_l9Good_ev d N h hi) ?_
 unfold singleM
 have no : Ev (fun k => spec_SinglePlane.j0 k true d N) (([] : List Int), 0, false) := Ev.step' (f := fun _ => some (([] : List Int), 0, false)) (fun k => by simp only [spec_SinglePlane.j0, if_true]) (Ev.now _)
 cases hn : netB d N with
 | false => simp only [Bool.false_eq_true, if_false]; exact no
 | true =>
  obtain ⟨h1, h2, h3⟩ := netB_ok hn
  have e : wrap64 ((N.length : Int) - 1) = ((N.length - 1 : Nat) : Int) := by rw [wrap_id (by omega) (by omega)]; omega
  have c0 : 0 ≤ ((N.length - 1 : Nat) : Int) := by omega
  have c1 : ((N.length - 1 : Nat) : Int) < (N.length : Int) := by omega
  have el : N.getD (N.length - 1) [] = lastL N := rfl
  simp only [if_true, e, if_pos c0, if_pos c1, rdL3_nat, el]
  by_cases q : (lastL N).length = 1
  · have q' : (((lastL N).length : Int) != 1) = false := by rw [q]; rfl
    rw [q', if_pos q]
    refine Ev.step' (f := fun k => (spec_l9Tables.f k d N).bind fun t => if 0 < (t.length : Int) then ((spec_LeastPlane.f k d (rd_L1 t 0)).bind fun b => some (b.1, b.2.1, b.2.2)) else none) (fun k => by simp only [spec_SinglePlane.j0, Bool.false_eq_true, if_false]) ?_
    refine Ev.bind (spec_l9Tables_ev d N hn) ?_
    have hs := tabsM_small d N hn
    have l1 := hs.1
    have l2 := hs.2 0 (by omega)
    rw [if_neg (Nat.lt_irrefl _)] at l2
    have hp : 2 ^ d.toNat ≤ 2 ^ 4 := Nat.pow_le_pow_right (by omega) (by omega)
    have cz : 0 < ((tabsM d.toNat N).length : Int) := by omega
    have er : rd_L1 (tabsM d.toNat N) 0 = (tabsM d.toNat N).getD 0 [] := by simp [rd_L1]
    simp only [if_pos cz, er]
    obtain ⟨m, rfl⟩ : ∃ m : Nat, d = (m : Int) := ⟨d.toNat, by omega⟩
    rw [Int.toNat_natCast] at *
    exact Ev.bind (spec_LeastPlane_ev (by omega) (by omega) _ (by unfold maxLen; omega)) (Ev.now _)
  · have q' : (((lastL N).length : Int) != 1) = true := by simp; omega
    rw [q', if_neg q]
    exact no
theorem laws_toIntS_ev (l : List Int) (h : l.length ≤ 1048576) : Ev (fun k => laws_toIntS.f k l) l := by
 have hw : wrap64 (l.length : Int) = l.length := wrap_id (by omega) (by omega)
 have c0 : 0 ≤ (l.length : Int) := by omega
 have e : ∀ k, laws_toIntS.f k l = laws_toIntS.l0 k l (List.replicate l.length 0) 0 := fun k => by
  simp only [laws_toIntS.f, if_pos c0, Int.toNat_natCast]; rw [if_pos (by omega)]
 refine Ev.congr e ?_
 have hf := to_fold (L := fun i (s : List Int) k => laws_toIntS.l0 k l s i) (n := l.length) (f := fun i s => s.set i (l.getD i 0)) (fun i s => s = l.take i ++ List.replicate (l.length - i) 0) (fun i s hi hs => ⟨To.step fun k => ?_, ?_⟩) (List.replicate l.length 0) (by simp)
 · refine hf.1 _ (Ev.step' (f := fun _ => some l) (fun k => ?_) (Ev.now _))
   have := hf.2
   rw [Nat.sub_self, List.take_length, List.replicate_zero, List.append_nil] at this
   show laws_toIntS.l0 (k + 1) l _ _ = _
   rw [this]
   simp only [laws_toIntS.l0, if_neg (Int.lt_irrefl _)]
 · have c1 : (i : Int) < (l.length : Int) := by omega
   have c2 : (i : Int) < (s.length : Int) := by rw [hs, List.length_append, List.length_take, List.length_replicate]; omega
   have c3 : 0 ≤ (i : Int) := by omega
   simp only [laws_toIntS.l0, if_pos c1, if_pos c2, if_pos c3, rd_nat, Int.toNat_natCast, wrap_succ hi (by omega : l.length ≤ 9223372036854775807)]
 · show List.set s i _ = _
   rw [hs]; exact set_step l 0 0 i hi
theorem laws_toPlane_ev (l : List Int) (b : Int) (h : l.length ≤ 1048576) : Ev (fun k => laws_toPlane.f k l b) (l, b) := Ev.bind (laws_toIntS_ev l h) (Ev.now _)
def cvP (x : S146) : S39 := ⟨x.f0, x.f1⟩
theorem laws_toPlaneS_ev (l : List S146) (h : l.length ≤ 1048576) (hi : ∀ x ∈ l, x.f0.length ≤ 1048576) : Ev (fun k => laws_toPlaneS.f k l) (l.map cvP) := by
 have c0 : 0 ≤ (l.length : Int) := by omega
 have e : ∀ k, laws_toPlaneS.f k l = laws_toPlaneS.l0 k l (List.replicate l.length z39) 0 := fun k => by
  simp only [laws_toPlaneS.f, if_pos c0, Int.toNat_natCast]; rw [if_pos (by omega)]
 refine Ev.congr e ?_
 have hml : (l.map cvP).length = l.length := List.length_map _
 have hf := to_fold (L := fun i (s : List S39) k => laws_toPlaneS.l0 k l s i) (n := l.length) (f := fun i s => s.set i ((l.map cvP).getD i z39)) (fun i s => s = (l.map cvP).take i ++ List.replicate ((l.map cvP).length - i) z39) (fun i s hi2 hs => ⟨?_, ?_⟩) (List.replicate l.length z39) (by simp)
 · refine hf.1 _ (Ev.step' (f := fun _ => some (l.map cvP)) (fun k => ?_) (Ev.now _))
   have := hf.2
   rw [← hml, Nat.sub_self, List.take_length, List.replicate_zero, List.append_nil] at this
   show laws_toPlaneS.l0 (k + 1) l _ _ = _
   rw [← hml, this]
   simp only [laws_toPlaneS.l0, hml, if_neg (Int.lt_irrefl _)]
 · have c1 : (i : Int) < (l.length : Int) := by omega
   have c2 : (i : Int) < (s.length : Int) := by rw [hs, List.length_append, List.length_take, List.length_replicate]; omega
   have c3 : 0 ≤ (i : Int) := by omega
   have eg : (l.map cvP).getD i z39 = cvP (l.getD i z146) := by simp [List.getD_eq_getElem?_getD, hi2]
   refine (To.step (f := fun k => (laws_toPlane.f k (l.getD i z146).f0 (l.getD i z146).f1).bind fun b => laws_toPlaneS.l0 k l (s.set i ⟨b.1, b.2⟩) ((i + 1 : Nat) : Int)) (fun k => ?_)).trans ((To.bind (laws_toPlane_ev _ _ (hi _ (getD_mem hi2 z146)))).trans (To.congr fun k => ?_))
   · simp only [laws_toPlaneS.l0, if_pos c1, if_pos c2, if_pos c3, rdT146_nat, Int.toNat_natCast, wrap_succ hi2 (by omega : l.length ≤ 9223372036854775807)]
   · rw [eg]; rfl
 · show List.set s i _ = _
   rw [hs]; exact set_step (l.map cvP) z39 z39 i (by rw [hml]; exact hi2)
theorem laws_toPlaneSS_ev (l : List (List S146)) (h : l.length ≤ 1048576) (hi : ∀ x ∈ l, x.length ≤ 1048576 ∧ ∀ y ∈ x, y.f0.length ≤ 1048576) : Ev (fun k => laws_toPlaneSS.f k l) (l.map (List.map cvP)) := by
 have c0 : 0 ≤ (l.length : Int) := by omega
 have e : ∀ k, laws_toPlaneSS.f k l = laws_toPlaneSS.l0 k l (List.replicate l.length []) 0 := fun k => by
  simp only [laws_toPlaneSS.f, if_pos c0, Int.toNat_natCast]; rw [if_pos (by omega)]
 refine Ev.congr e ?_
 have hml : (l.map (List.map cvP)).length = l.length := List.length_map _
 have hf := to_fold (L := fun i (s : List (List S39)) k => laws_toPlaneSS.l0 k l s i) (n := l.length) (f := fun i s => s.set i ((l.map (List.map cvP)).getD i [])) (fun i s => s = (l.map (List.map cvP)).take i ++ List.replicate ((l.map (List.map cvP)).length - i) []) (fun i s hi2 hs => ⟨?_, ?_⟩) (List.replicate l.length []) (by simp)
 · refine hf.1 _ (Ev.step' (f := fun _ => some (l.map (List.map cvP))) (fun k => ?_) (Ev.now _))
   have := hf.2
   rw [← hml, Nat.sub_self, List.take_length, List.replicate_zero, List.append_nil] at this
   show laws_toPlaneSS.l0 (k + 1) l _ _ = _
   rw [← hml, this]
   simp only [laws_toPlaneSS.l0, hml, if_neg (Int.lt_irrefl _)]
 · have c1 : (i : Int) < (l.length : Int) := by omega
   have c2 : (i : Int) < (s.length : Int) := by rw [hs, List.length_append, List.length_take, List.length_replicate]; omega
   have c3 : 0 ≤ (i : Int) := by omega
   have hm := hi _ (getD_mem hi2 [])
   have eg : (l.map (List.map cvP)).getD i [] = List.map cvP (l.getD i []) := by simp [List.getD_eq_getElem?_getD, hi2]
   refine (To.step (f := fun k => (laws_toPlaneS.f k (l.getD i [])).bind fun b => laws_toPlaneSS.l0 k l (s.set i b) ((i + 1 : Nat) : Int)) (fun k => ?_)).trans ((To.bind (laws_toPlaneS_ev _ hm.1 hm.2)).trans (To.congr fun k => ?_))
   · simp only [laws_toPlaneSS.l0, if_pos c1, if_pos c2, if_pos c3, rdL5_nat, Int.toNat_natCast, wrap_succ hi2 (by omega : l.length ≤ 9223372036854775807)]
   · rw [eg]
 · show List.set s i _ = _
   rw [hs]; exact set_step (l.map (List.map cvP)) [] [] i (by rw [hml]; exact hi2)
theorem laws_toNet_ev (d : Int) (l : List (List S146)) (h : l.length ≤ 1048576) (hi : ∀ x ∈ l, x.length ≤ 1048576 ∧ ∀ y ∈ x, y.f0.length ≤ 1048576) : Ev (fun k => laws_toNet.f k d l) (d, l.map (List.map cvP)) := Ev.bind (laws_toPlaneSS_ev l h hi) (Ev.now _)
theorem impl_within_eq (x a b : Int) : impl_within.f x a b = some (inR a b x) := in_tells a b x
theorem impl_allWithin_ev (l : List Int) (a b : Int) (h : l.length ≤ maxLen) : Ev (fun k => impl_allWithin.f k l a b) (l.all (inR a b)) := by
 unfold maxLen at h
 rw [← range_all l (inR a b) 0]
 refine ev_all (L := fun i k => impl_allWithin.l0 k a b l (l.length : Int) i) (fun i hi hp => To.step fun k => ?_) (fun i hi hp => Ev.step' (f := fun _ => some false) (fun k => ?_) (Ev.now _)) (Ev.step' (f := fun _ => some true) (fun k => ?_) (Ev.now _))
 · have c1 : (i : Int) < (l.length : Int) := by omega
   have c0 : 0 ≤ (i : Int) := by omega
   simp only [impl_allWithin.l0, if_pos c1, if_pos c0, impl_within_eq, rd_nat, hp, Option.bind_some, if_true, wrap_succ hi h]
 · have c1 : (i : Int) < (l.length : Int) := by omega
   have c0 : 0 ≤ (i : Int) := by omega
   simp only [impl_allWithin.l0, if_pos c1, if_pos c0, impl_within_eq, rd_nat, hp, Option.bind_some, Bool.false_eq_true, if_false]
 · simp only [impl_allWithin.l0, if_neg (Int.lt_irrefl _)]
theorem impl_isTable_ev4 (a : Int) (l : List Int) (h : l.length ≤ maxLen) (ha : 0 ≤ a ∧ a ≤ 4) : Ev (fun k => impl_isTable.f k a l) (tableB a l) := by
 have e : inR 0 4 a = true := (inR_iff 0 4 a).2 (by omega)
 have c : 0 ≤ a := by omega
 unfold tableB
 by_cases q : (l.length : Int) = shl .i64 1 a
 · rw [decide_eq_true q, Bool.true_and]
   refine Ev.congr (g := fun k => impl_isTable.f k a l) (f := fun k => (impl_allWithin.f k l 0 1).bind fun t => some t) (fun k => by simp only [impl_isTable.f, impl_within_eq, e, Option.bind_some, if_true, if_pos c, if_pos q]) ?_
   exact Ev.bind (impl_allWithin_ev l 0 1 h) (Ev.now _)
 · rw [decide_eq_false q, Bool.false_and]
   exact ev_const fun k => by simp only [impl_isTable.f, impl_within_eq, e, Option.bind_some, if_true, if_pos c, if_neg q]
theorem impl_leastPlane_plane {n : Nat} (hn : n ≤ 4) {T : List Int} (hT : T.length = 2 ^ n) : (if (decide ((lpM n T).2.2 < 1000000000)) = true then ((lpM n T).1, (lpM n T).2.1, true) else (([] : List Int), (0 : Int), false)) = planeM n T := by
 have hR := leastR hn T
 unfold planeM
 generalize leastS n T = t at hR ⊢
 generalize lpM n T = s at hR ⊢
 cases ht : t.2 with
 | false =>
  have := hR.no ht
  rw [if_neg (by rw [decide_eq_true_eq]; omega), if_neg (by decide)]
 | true =>
  obtain ⟨_, e1, _, e3, e4⟩ := hR.yes ht
  rw [if_pos (decide_eq_true e3), if_pos rfl, e1, e4]
theorem impl_LeastPlane_ev {n : Nat} (h1 : 1 ≤ n) (hn : n ≤ 4) (T : List Int) (h : T.length ≤ maxLen) : Ev (fun k => impl_LeastPlane.f k (n : Int) T) (leastM n T) := by
 have c : ¬ (n : Int) = 0 := by omega
 refine Ev.congr (g := fun k => impl_LeastPlane.f k (n : Int) T) (f := fun k => (impl_isTable.f k (n : Int) T).bind fun t => impl_LeastPlane.j0 k (n : Int) T (!t)) (fun k => by simp only [impl_LeastPlane.f, if_neg c]) ?_
 refine Ev.bind (impl_isTable_ev4 (n : Int) T h (by omega)) ?_
 unfold leastM
 cases ht : tableB (n : Int) T with
 | false => simp only [Bool.false_eq_true, if_false]; exact Ev.step' (f := fun _ => some (([] : List Int), 0, false)) (fun k => by simp only [impl_LeastPlane.j0, Bool.not_false, if_true]) (Ev.now _)
 | true =>
  simp only [if_true]
  have hT := table_len hn ht
  refine Ev.step' (f := fun k => (impl_leastPlane.f k (n : Int) T).bind fun b => if b.2.2.2 = true then some (b.1, b.2.1, true) else some (([] : List Int), 0, false)) (fun k => by simp only [impl_LeastPlane.j0, Bool.not_true, Bool.false_eq_true, if_false]) ?_
  refine Ev.bind (impl_leastPlane_full hn hT) ?_
  rw [← impl_leastPlane_plane hn hT]
  show Ev (fun _ => if decide ((lpM n T).2.2 < 1000000000) = true then some ((lpM n T).1, (lpM n T).2.1, true) else some (([] : List Int), 0, false)) _
  cases decide ((lpM n T).2.2 < 1000000000) with
  | true => exact Ev.now _
  | false => exact Ev.now _
theorem impl_IsPlane_ev (l : List Int) (b : Int) (h : l.length ≤ maxLen) : Ev (fun k => impl_IsPlane.f k l b) (planeB l b) := by
 have e : ∀ k, impl_IsPlane.f k l b = if inR 1 4 l.length = true then (impl_allWithin.f k l (-99) 99).bind (fun t => if t = true then some (inR (-99) 99 b) else some false) else some false := fun k => by
  simp only [impl_IsPlane.f, impl_within_eq, Option.bind_some]
 refine Ev.congr e ?_
 unfold planeB
 cases inR 1 4 l.length with
 | false => exact Ev.now _
 | true =>
  simp only [if_true, Bool.true_and]
  refine Ev.bind (impl_allWithin_ev l (-99) 99 h) ?_
  cases l.all (inR (-99) 99) with
  | false => exact Ev.now _
  | true => exact Ev.now _
theorem impl_IsNet_row (N : List (List S39)) (d : Int) (i : Nat) (y : List S39) (R : Bool) (hi : i < N.length) (h : N.length ≤ maxLen) (hl : y.length ≤ maxLen ∧ ∀ z ∈ y, z.f0.length ≤ maxLen) (hr : Ev (fun k => impl_IsNet.l0 k (y.length : Int) N (N.length : Int) ((i + 1 : Nat) : Int)) R) :
 Ev (fun k => impl_IsNet.l1 k d y N (N.length : Int) i y (y.length : Int) 0) (y.all (fun x => planeB x.f0 x.f1 && ((x.f0.length : Int) == d)) && R) := by
 have h' : N.length ≤ 9223372036854775807 := h
 have h2' : y.length ≤ 9223372036854775807 := hl.1
 refine ev_list z39 y (fun j (_ : Unit) k => impl_IsNet.l1 k d y N (N.length : Int) i y (y.length : Int) j) (fun _ ys _ => ys.all (fun x => planeB x.f0 x.f1 && ((x.f0.length : Int) == d)) && R) (fun _ _ => True) (fun _ _ => ?_) (fun j x ys _ hj hx hm _ ih => ?_) () trivial
 · rw [List.all_nil, Bool.true_and]
   exact Ev.step' (fun k => by simp only [impl_IsNet.l1, if_neg (Int.lt_irrefl _), wrap_succ hi h']) hr
 · have d1 : (j : Int) < (y.length : Int) := by omega
   have d0 : 0 ≤ (j : Int) := by omega
   rw [List.all_cons, Bool.and_assoc, Bool.and_assoc]
   refine Ev.step' (f := fun k => (impl_IsPlane.f k x.f0 x.f1).bind fun t => if t = true then (if (x.f0.length : Int) = d then impl_IsNet.l1 k d y N (N.length : Int) i y (y.length : Int) ((j + 1 : Nat) : Int) else some false) else some false) (fun k => by
    simp only [impl_IsNet.l1, if_pos d1, if_pos d0, rdT39_nat, hx, wrap_succ hj h2']) (Ev.bind (impl_IsPlane_ev x.f0 x.f1 (hl.2 x hm)) ?_)
   cases planeB x.f0 x.f1 with
   | false => simp only [Bool.false_eq_true, if_false, Bool.false_and]; exact Ev.now _
   | true =>
    simp only [if_true, Bool.true_and]
    by_cases c : (x.f0.length : Int) = d
    · simp only [if_pos c, beq_iff_eq.2 c, Bool.true_and]; exact ih () trivial
    · simp only [if_neg c, beq_eq_false_iff_ne.2 c, Bool.false_and]; exact Ev.now _
theorem impl_IsNet_ev (d : Int) (N : List (List S39)) (h : N.length ≤ maxLen) (hi : ∀ x ∈ N, x.length ≤ maxLen ∧ ∀ y ∈ x, y.f0.length ≤ maxLen) : Ev (fun k => impl_IsNet.f k d N) (netB d N) := by
 have no : Ev (fun k => impl_IsNet.j0 k true d N) false := Ev.step' (f := fun _ => some false) (fun k => by simp only [impl_IsNet.j0, if_true]) (Ev.now _)
 unfold netB
 refine Ev.congr (f := fun k => if inR 1 4 d = true then impl_IsNet.j0 k (!(inR 1 6 N.length)) d N else impl_IsNet.j0 k true d N) (fun k => by simp only [impl_IsNet.f, impl_within_eq, Option.bind_some]) ?_
 cases inR 1 4 d with
 | false => simp only [Bool.false_eq_true, if_false, Bool.false_and]; exact no
 | true =>
  simp only [if_true, Bool.true_and]
  cases inR 1 6 N.length with
  | false => simpa using no
  | true =>
   refine Ev.step' (f := fun k => impl_IsNet.l0 k d N (N.length : Int) 0) (fun k => by simp [impl_IsNet.j0]) ?_
   rw [Bool.true_and]
   refine ev_list [] N (fun i (e : Int) k => impl_IsNet.l0 k e N (N.length : Int) i) (fun _ ys e => layB e ys) (fun _ _ => True) (fun e _ => ?_) (fun i y ys e hi2 hy hm _ ih => ?_) d trivial
   · exact Ev.step' (f := fun _ => some true) (fun k => by simp only [impl_IsNet.l0, if_neg (Int.lt_irrefl _)]) (Ev.now _)
   · have c1 : (i : Int) < (N.length : Int) := by omega
     have c0 : 0 ≤ (i : Int) := by omega
     show Ev _ (y.all (fun x => planeB x.f0 x.f1 && ((x.f0.length : Int) == e)) && (inR 1 4 y.length && layB y.length ys))
     rw [Bool.and_left_comm]
     refine Ev.step' (f := fun k => if inR 1 4 y.length = true then impl_IsNet.l1 k e y N (N.length : Int) i y (y.length : Int) 0 else some false) (fun k => by simp only [impl_IsNet.l0, if_pos c1, if_pos c0, rdL3_nat, hy, impl_within_eq, Option.bind_some]) ?_
     cases inR 1 4 y.length with
     | false => simp only [Bool.false_eq_true, if_false, Bool.false_and]; exact Ev.now _
     | true =>
      simp only [if_true, Bool.true_and]
      exact impl_IsNet_row N e i y _ hi2 h (hi y hm) (ih _ trivial)
theorem impl_Net_last_eq (d : Int) (N : List (List S39)) (h1 : 1 ≤ N.length) (h : N.length ≤ 1000) : impl_Net_last.f d N = some (lastL N) := by
 have e : wrap64 ((N.length : Int) - 1) = ((N.length - 1 : Nat) : Int) := by rw [wrap_id (by omega) (by omega)]; omega
 have c0 : 0 ≤ ((N.length - 1 : Nat) : Int) := by omega
 have c1 : ((N.length - 1 : Nat) : Int) < (N.length : Int) := by omega
 simp only [impl_Net_last.f, e, if_pos c0, if_pos c1, rdL3_nat]
 rfl
theorem impl_Plane_side_ev (w : List Int) (b : Int) (x : List Int) (hw : w.length ≤ maxLen) (hx : w.length ≤ x.length) : Ev (fun k => impl_Plane_side.f k w b x) (sideW w b x) := by
 refine Ev.bind (impl_product_ev w x hw hx) ?_
 unfold sideW
 by_cases c : dotW w x ≥ b
 · simp only [if_pos c]; exact Ev.now _
 · simp only [if_neg c]; exact Ev.now _
theorem bit_of_side (w : List Int) (b : Int) (x : List Int) : wrap64 (Int.tdiv (wrap64 (sideW w b x + 1)) 2) = bitS (sideW w b x) := by
 unfold sideW bitS
 by_cases c : dotW w x ≥ b
 · simp only [if_pos c, if_true]
   rw [wrap_id (x := (1 : Int) + 1) (by omega) (by omega), show Int.tdiv ((1 : Int) + 1) 2 = 1 from rfl, wrap_id (by omega) (by omega)]
 · simp only [if_neg c]
   rw [if_neg (by decide), wrap_id (x := (-1 : Int) + 1) (by omega) (by omega), show Int.tdiv ((-1 : Int) + 1) 2 = 0 from rfl, wrap_id (by omega) (by omega)]
theorem impl_Net_gives_row (N : List (List S39)) (y : List S39) (x : List Int) (i : Nat) (hi : i < N.length) (hN : N.length ≤ 1000) (hy : y.length ≤ 1000) (hx : x.length ≤ 1000) (hl : ∀ p ∈ y, p.f0.length = x.length) :
 To (fun k => impl_Net_gives.l1 k x [] N (N.length : Int) i y (y.length : Int) 0) (fun k => impl_Net_gives.l0 k (giveM y x) N (N.length : Int) ((i + 1 : Nat) : Int)) := by
 have hf := to_fold (L := fun j (t : List Int) k => impl_Net_gives.l1 k x t N (N.length : Int) i y (y.length : Int) j) (n := y.length) (f := fun j t => t ++ [bitS (sideW (y.getD j z39).f0 (y.getD j z39).f1 x)]) (fun j t => t.length = j) (fun j t hj ht => ⟨?_, by simp [ht]⟩) [] rfl
 · refine hf.1.trans (To.step fun k => ?_)
   rw [fold_append, List.nil_append, range_map y (fun p => bitS (sideW p.f0 p.f1 x)) z39]
   simp only [impl_Net_gives.l1, if_neg (Int.lt_irrefl _), wrap_succ hi (by omega : N.length ≤ 9223372036854775807)]
   rfl
 · have c2 : (j : Int) < (y.length : Int) := by omega
   have c3 : 0 ≤ (j : Int) := by omega
   have c4 : t.length < 17592186044416 := by omega
   have hm := hl _ (getD_mem hj z39)
   refine (To.step (f := fun k => (impl_Plane_side.f k (y.getD j z39).f0 (y.getD j z39).f1 x).bind fun u => impl_Net_gives.l1 k x (t ++ [wrap64 (Int.tdiv (wrap64 (u + 1)) 2)]) N (N.length : Int) i y (y.length : Int) ((j + 1 : Nat) : Int)) fun k => ?_).trans ((To.bind (impl_Plane_side_ev _ _ x (by unfold maxLen; omega) (by omega))).trans (To.congr fun k => by rw [bit_of_side]))
   simp only [impl_Net_gives.l1, if_pos c2, if_pos c3, if_pos c4, rdT39_nat, wrap_succ hj (by omega : y.length ≤ 9223372036854775807)]
theorem impl_Net_gives_ev (d : Int) (N : List (List S39)) (x : List Int) (hN : N.length ≤ 1000) (hx : x.length ≤ 1000) (hok : okL x.length N) : Ev (fun k => impl_Net_gives.f k d N x) (runM N x) := by
 refine Ev.congr (f := fun k => impl_Net_gives.l0 k x N (N.length : Int) 0) (fun k => by simp only [impl_Net_gives.f, impl_copied_eq x hx, Option.bind_some]) ?_
 refine ev_list [] N (fun i (s : List Int) k => impl_Net_gives.l0 k s N (N.length : Int) i) (fun _ ys s => runM ys s) (fun i s => s.length ≤ 1000 ∧ okL s.length (N.drop i)) (fun s _ => ?_) (fun i y ys s hi hy hm hs ih => ?_) x ⟨hx, hok⟩
 · exact Ev.step' (f := fun _ => some s) (fun k => by simp only [impl_Net_gives.l0, if_neg (Int.lt_irrefl _)]) (Ev.now _)
 · have c1 : (i : Int) < (N.length : Int) := by omega
   have c0 : 0 ≤ (i : Int) := by omega
   obtain ⟨h1, h2⟩ := hs
   rw [drop_at hi hy] at h2
   obtain ⟨⟨h3, h4⟩, h5⟩ := h2
   exact Ev.step' (f := fun k => impl_Net_gives.l1 k s [] N (N.length : Int) i y (y.length : Int) 0) (fun k => by simp only [impl_Net_gives.l0, if_pos c1, if_pos c0, rdL3_nat, hy]) (impl_Net_gives_row N y s i hi hN (by omega) h1 h4 _ (ih (giveM y s) ⟨by rw [giveM_len]; omega, by rw [giveM_len]; exact h5⟩))
theorem impl_Net_tables_row (d : Int) (N : List (List S39)) (M : Int) (n c : Nat) (g : List Int) (s : List (List Int)) (hg : g.length = n) (hn : n ≤ 1000) (hc : c ≤ 1000) (hs : RowOk n c 0 s) :
 To (fun k => impl_Net_tables.l1 k s M (c : Int) g (g.length : Int) 0 d N) (fun k => impl_Net_tables.l0 k (rowT n g s) M ((c + 1 : Nat) : Int) d N) ∧ RowOk n (c + 1) 0 (rowT n g s) := by
 have hf := to_fold (L := fun j (t : List (List Int)) k => impl_Net_tables.l1 k t M (c : Int) g (g.length : Int) j d N) (n := n) (f := fun j t => addCell g j t) (fun j t => RowOk n c j t) (fun j t hj ht => ⟨To.step fun k => ?_, rowOk_step g hj ht⟩) s hs
 · refine ⟨hf.1.trans (To.step fun k => ?_), rowOk_next hf.2⟩
   simp only [impl_Net_tables.l1, hg, if_neg (Int.lt_irrefl _), wrap_succ (i := c) (n := 1001) (by omega) (by omega)]
   rfl
 · have h1 : t.length = n := ht.1
   have h2 := ht.2 j hj
   rw [if_neg (Nat.lt_irrefl _)] at h2
   have c1 : (j : Int) < (t.length : Int) := by omega
   have c0 : 0 ≤ (j : Int) := by omega
   have c2 : (j : Int) < (g.length : Int) := by omega
   have c3 : (t.getD j []).length < 17592186044416 := by omega
   simp only [impl_Net_tables.l1, if_pos c1, if_pos c0, if_pos c2, rdL1_nat, if_pos c3, rd_nat, Int.toNat_natCast, wrap_succ (i := j) (n := n) hj (by omega)]
   rfl
theorem impl_Net_tables_ev (d : Int) (N : List (List S39)) (h : netB d N = true) : Ev (fun k => impl_Net_tables.f k d N) (tabsM d.toNat N) := by
 obtain ⟨h1, h2, h3⟩ := netB_ok h
 have hl := okL_last N d.toNat (by omega) h3
 have c2 : 0 ≤ ((lastL N).length : Int) := by omega
 have c3 : (lastL N).length ≤ 11728124029610 := by omega
 obtain ⟨m, rfl⟩ : ∃ m : Nat, d = (m : Int) := ⟨d.toNat, by omega⟩
 rw [Int.toNat_natCast] at h3 ⊢
 have cd : 0 ≤ (m : Int) := by omega
 have hp := pow_small (d := m) (by omega)
 refine Ev.congr (f := fun k => impl_Net_tables.l0 k (List.replicate (lastL N).length []) ((2 ^ m : Nat) : Int) 0 (m : Int) N) (fun k => by simp only [impl_Net_tables.f, impl_Net_last_eq (m : Int) N (by omega) (by omega), Option.bind_some, if_pos c2, Int.toNat_natCast, if_pos c3, if_pos cd, shl_pow (d := m) (by omega)]) ?_
 have hf := to_fold (L := fun c (s : List (List Int)) k => impl_Net_tables.l0 k s ((2 ^ m : Nat) : Int) c (m : Int) N) (n := 2 ^ m) (f := fun (c : Nat) s => rowT (lastL N).length (runM N (bitPt m (c : Int))) s) (fun c s => RowOk (lastL N).length c 0 s) (fun c s hc hs => ?_) (List.replicate (lastL N).length []) ⟨by simp, fun j hj => by simp [List.getElem?_replicate, hj]⟩
 · refine hf.1 _ (Ev.step' (f := fun _ => some (tabsM m N)) (fun k => ?_) (Ev.now _))
   simp only [impl_Net_tables.l0, if_neg (Int.lt_irrefl _)]
   rfl
 · have hbl := bitPt_len m (c : Int)
   have hr := impl_Net_tables_row (m : Int) N ((2 ^ m : Nat) : Int) (lastL N).length c (runM N (bitPt m (c : Int))) s (runM_len N _ (by omega)) (by omega) (by omega) hs
   have cc : (c : Int) < ((2 ^ m : Nat) : Int) := by omega
   refine ⟨(To.step (f := fun k => (impl_bitPoint.f k (m : Int) (c : Int)).bind fun t => (impl_Net_gives.f k (m : Int) N t).bind fun u => impl_Net_tables.l1 k s ((2 ^ m : Nat) : Int) (c : Int) u (u.length : Int) 0 (m : Int) N) (fun k => ?_)).trans ((To.bind (impl_bitPoint_ev m (c : Int) (by omega))).trans ((To.bind (impl_Net_gives_ev (m : Int) N _ (by omega) (by omega) (by rw [hbl]; exact h3))).trans hr.1)), hr.2⟩
   simp only [impl_Net_tables.l0, if_pos cc]
theorem impl_SinglePlane_ev (d : Int) (N : List (List S39)) (h : N.length ≤ maxLen) (hi : ∀ x ∈ N, x.length ≤ maxLen ∧ ∀ y ∈ x, y.f0.length ≤ maxLen) : Ev (fun k => impl_SinglePlane.f k d N) (singleM d N) := by
 refine Ev.bind (impl_IsNet_ev d N h hi) ?_
 unfold singleM
 have no : Ev (fun k => impl_SinglePlane.j0 k true d N) (([] : List Int), 0, false) := Ev.step' (f := fun _ => some (([] : List Int), 0, false)) (fun k => by simp only [impl_SinglePlane.j0, if_true]) (Ev.now _)
 cases hn : netB d N with
 | false => simp only [Bool.false_eq_true, if_false]; exact no
 | true =>
  obtain ⟨h1, h2, h3⟩ := netB_ok hn
  simp only [if_true, impl_Net_last_eq d N (by omega) (by omega), Option.bind_some]
  by_cases q : (lastL N).length = 1
  · have q' : (((lastL N).length : Int) != 1) = false := by rw [q]; rfl
    rw [q', if_pos q]
    refine Ev.step' (f := fun k => (impl_Net_tables.f k d N).bind fun t => if 0 < (t.length : Int) then ((impl_LeastPlane.f k d (rd_L1 t 0)).bind fun b => some (b.1, b.2.1, b.2.2)) else none) (fun k => by simp only [impl_SinglePlane.j0, Bool.false_eq_true, if_false]) ?_
    refine Ev.bind (impl_Net_tables_ev d N hn) ?_
    have hs := tabsM_small d N hn
    have l1 := hs.1
    have l2 := hs.2 0 (by omega)
    rw [if_neg (Nat.lt_irrefl _)] at l2
    have hp : 2 ^ d.toNat ≤ 2 ^ 4 := Nat.pow_le_pow_right (by omega) (by omega)
    have cz : 0 < ((tabsM d.toNat N).length : Int) := by omega
    have er : rd_L1 (tabsM d.toNat N) 0 = (tabsM d.toNat N).getD 0 [] := by simp [rd_L1]
    simp only [if_pos cz, er]
    obtain ⟨m, rfl⟩ : ∃ m : Nat, d = (m : Int) := ⟨d.toNat, by omega⟩
    rw [Int.toNat_natCast] at *
    exact Ev.bind (impl_LeastPlane_ev (by omega) (by omega) _ (by unfold maxLen; omega)) (Ev.now _)
  · have q' : (((lastL N).length : Int) != 1) = true := by simp; omega
    rw [q', if_neg q]
    exact no
theorem laws_markPlane_ev (l : List Int) (b a : Int) (h0 : 0 ≤ a) (h1 : a + l.length ≤ 1000000000000) : Ev (fun k => laws_markPlane.f k l b a) (a + l.length, iota a l) := Ev.bind (laws_markIntS_ev l a h0 h1) (Ev.now _)
theorem laws_heldIntS_ev (l : List Int) (a : Int) (h0 : 0 ≤ a) (h1 : a + l.length ≤ 1000000000000) : Ev (fun k => laws_heldIntS.f k (iota a l) a) (a + l.length) := by
 have e := ev_held (0 : Int) (fun _ => 1) (fun a _ => a) l 1000000000000 (L := fun b i k => laws_heldIntS.l0 k (iota a l) b i) a (fun b i x hi hx hm ha hb => To.step fun k => by
  have c1 : (i : Int) < ((iota a l).length : Int) := by rw [iota_len]; omega
  have c3 : 0 ≤ (i : Int) := by omega
  have c4 : (iota a l).getD i 0 = b := hx
  have e : wrap64 (b + 1) = b + ((1 : Nat) : Int) := wrap_id (by omega) (by simpa using (by omega : b + 1 ≤ 9223372036854775807))
  simp only [laws_heldIntS.l0, if_pos c1, if_pos c3, rd_nat, if_pos c4, wrap_succ (i := i) (n := l.length) hi (by omega), e]) (fun b => Ev.step' (f := fun _ => some b) (fun k => by
  simp only [laws_heldIntS.l0, iota_len, if_neg (Int.lt_irrefl _)]) (Ev.now _)) h0 (by rw [sumN_one]; exact h1)
 rw [sumN_one] at e
 exact e
theorem laws_heldPlane_ev (l : List Int) (b a : Int) (h0 : 0 ≤ a) (h1 : a + l.length ≤ 1000000000000) : Ev (fun k => laws_heldPlane.f k (iota a l) b a) (a + l.length) := by
 refine Ev.bind (laws_heldIntS_ev l a h0 h1) ?_
 simp only [if_neg (show ¬ a + (l.length : Int) < 0 by omega)]
 exact Ev.now _
theorem laws_markPlaneS_ev (l : List S39) (a : Int) (h0 : 0 ≤ a) (h1 : a + sumN (fun x : S39 => x.f0.length + 1) l ≤ 1000000000000) (hl : l.length ≤ 1000000000000) : Ev (fun k => laws_markPlaneS.f k l a) (a + sumN (fun x : S39 => x.f0.length + 1) l, markL (fun x : S39 => x.f0.length + 1) markP a l) :=
  ev_mark z39 (fun x : S39 => x.f0.length + 1) markP l 1000000000000 (L := fun ys a i k => laws_markPlaneS.l0 k ys a i) (fun ys a i x hi hl hx hm ha hb r hr => by
    have hb2 : a + (x.f0.length : Int) ≤ 1000000000000 := by have : ((x.f0.length + 1 : Nat) : Int) = (x.f0.length : Int) + 1 := by omega
                                                             omega
    refine Ev.step' (f := fun k => (laws_markIntS.f k x.f0 a).bind fun b => laws_markPlaneS.l0 k (ys.set i ⟨b.2, b.1⟩) (wrap64 (b.1 + 1)) ((i + 1 : Nat) : Int)) (fun k => ?_) (Ev.bind (laws_markIntS_ev x.f0 a ha hb2) ?_)
    · have c1 : (i : Int) < (ys.length : Int) := by omega
      have c3 : 0 ≤ (i : Int) := by omega
      simp only [laws_markPlaneS.l0, if_pos c1, if_pos c3, Int.toNat_natCast, rdT39_nat, hx, wrap_succ (i := i) (n := ys.length) (by omega) (by omega)]
    · have e : wrap64 (a + (x.f0.length : Int) + 1) = a + ((x.f0.length + 1 : Nat) : Int) := by rw [wrap_id (by omega) (by omega)]; omega
      simp only [e]
      exact hr) (fun ys a hl => Ev.step' (f := fun _ => some (a, ys)) (fun k => by
    simp only [laws_markPlaneS.l0, hl, if_neg (Int.lt_irrefl _)]) (Ev.now _)) a h0 h1
theorem sum_succ : ∀ l : List S146, sumN (fun x : S39 => x.f0.length + 1) (l.map cvP) = szP l
 | [] => rfl
 | x :: l => by
  have := sum_succ l
  unfold szP at this ⊢
  simp only [List.map_cons, sumN, List.length_cons, this]
  show (x.f0.length + 1) + _ = _
  omega
theorem laws_markPlaneSS_ev (l : List (List S39)) (a : Int) (h0 : 0 ≤ a) (h1 : a + sumN wtPP l ≤ 1000000000000) (hl : l.length ≤ 1000000000000) (hi : ∀ y ∈ l, y.length ≤ 1000000000000) : Ev (fun k => laws_markPlaneSS.f k l a) (a + sumN wtPP l, markL wtPP markPP a l) :=
 ev_mark ([] : List S39) wtPP markPP l 1000000000000 (L := fun ys a i k => laws_markPlaneSS.l0 k ys a i) (fun ys a i x hi2 hl hx hm ha hb r hr => by
  refine Ev.step' (f := fun k => (laws_markPlaneS.f k x a).bind fun b => laws_markPlaneSS.l0 k (ys.set i b.2) b.1 ((i + 1 : Nat) : Int)) (fun k => ?_) (Ev.bind (laws_markPlaneS_ev x a ha hb (hi x hm)) hr)
  have c1 : (i : Int) < (ys.length : Int) := by omega
  have c3 : 0 ≤ (i : Int) := by omega
  simp only [laws_markPlaneSS.l0, if_pos c1, if_pos c3, Int.toNat_natCast, rdR_nat, hx, wrap_succ (i := i) (n := ys.length) (by omega) (by omega)]) (fun ys a hl => Ev.step' (f := fun _ => some (a, ys)) (fun k => by
  simp only [laws_markPlaneSS.l0, hl, if_neg (Int.lt_irrefl _)]) (Ev.now _)) a h0 h1
theorem sum_succ2 : ∀ l : List (List S146), sumN wtPP (l.map (List.map cvP)) = sumN szP l
 | [] => rfl
 | x :: l => by
  simp only [List.map_cons, sumN, sum_succ2 l]
  show wtPP (x.map cvP) + _ = _
  unfold wtPP
  rw [sum_succ x]
theorem laws_markNet_ev (d : Int) (l : List (List S39)) (a : Int) (h0 : 0 ≤ a) (h1 : a + sumN wtPP l ≤ 1000000000000) (hl : l.length ≤ 1000000000000) (hi : ∀ y ∈ l, y.length ≤ 1000000000000) : Ev (fun k => laws_markNet.f k d l a) (a + sumN wtPP l, markL wtPP markPP a l) := laws_markPlaneSS_ev l a h0 h1 hl hi
theorem planeM_len {n : Nat} (hn : n ≤ 4) (T : List Int) : (planeM n T).1.length ≤ 4 := by
 have hR := leastR hn T
 unfold planeM
 generalize leastS n T = t at hR ⊢
 cases ht : t.2 with
 | false => simp
 | true =>
  have := allW_len 3 n _ (hR.yes ht).1
  simp only [if_true]
  omega
theorem singleM_len (d : Int) (N : List (List S39)) : (singleM d N).1.length ≤ 4 := by
 unfold singleM
 split
 · next h =>
   obtain ⟨h1, h2, h3⟩ := netB_ok h
   split
   · unfold leastM
     split
     · exact planeM_len (by omega) _
     · simp
   · simp
 · simp

theorem pure : SFnExactSinglePlane.Pure := by
 intro d N _ ⟨h, hi0⟩
 have hi : ∀ x ∈ N, x.length ≤ maxLen ∧ ∀ y ∈ x, y.f0.length ≤ maxLen := fun x hx => ⟨(hi0 x hx).1, fun y hy => ((hi0 x hx).2 y hy).1.1⟩
 obtain ⟨K1, k1⟩ := laws_szNet_ev d N 1048576 h hi (by omega) (by omega)
 by_cases cn : lft 1048576 (szPP N) < 0
 · exact .inl ⟨K1, _, k1 K1 (by omega), cn⟩
 · have q := lft_nonneg (Int.not_lt.1 cn)
   have hs := szPP_small (l := N) (n := 1048576) (by omega)
   have hsum : sumN szP N ≤ 1048576 := by unfold szPP at q; omega
   have hm : (N.map (List.map cvP)).length ≤ maxLen := by rw [List.length_map]; exact h
   have hmi : ∀ x ∈ N.map (List.map cvP), x.length ≤ maxLen ∧ ∀ y ∈ x, y.f0.length ≤ maxLen := fun x hx => by
    obtain ⟨z, hz, rfl⟩ := List.mem_map.1 hx
    refine ⟨by rw [List.length_map]; exact (hi z hz).1, fun y hy => ?_⟩
    obtain ⟨u, hu, rfl⟩ := List.mem_map.1 hy
    exact (hi z hz).2 u hu
   have hm2 : (N.map (List.map cvP)).length ≤ 1000000000000 := by rw [List.length_map]; omega
   have hm3 : ∀ y ∈ N.map (List.map cvP), y.length ≤ 1000000000000 := fun y hy => by
    obtain ⟨z, hz, rfl⟩ := List.mem_map.1 hy
    rw [List.length_map]
    have := (hs.2 z hz).1
    omega
   have hsz := sum_succ2 N
   have hl := singleM_len d (N.map (List.map cvP))
   obtain ⟨K2, k2⟩ := laws_toNet_ev d N hs.1 hs.2
   obtain ⟨K4, k4⟩ := spec_SinglePlane_ev d _ hm hmi
   obtain ⟨K5, k5⟩ := impl_SinglePlane_ev d _ hm hmi
   obtain ⟨K6, k6⟩ := laws_eqPlane_ev (singleM d (N.map (List.map cvP))).1 (singleM d (N.map (List.map cvP))).2.1 (by unfold maxLen; omega)
   obtain ⟨K7, k7⟩ := laws_eqNet_ev d _ hm hmi
   obtain ⟨K9, k9⟩ := laws_markNet_ev d _ 1 (by omega) (by rw [hsz]; omega) hm2 hm3
   obtain ⟨K11, k11⟩ := laws_markPlane_ev (singleM d (N.map (List.map cvP))).1 (singleM d (N.map (List.map cvP))).2.1 1 (by omega) (by omega)
   obtain ⟨K12, k12⟩ := laws_heldPlane_ev (singleM d (N.map (List.map cvP))).1 (singleM d (N.map (List.map cvP))).2.1 1 (by omega) (by omega)
   let K := K1 + K2 + K4 + K5 + K6 + K7 + K9 + K11 + K12
   exact .inr ⟨K, _, _, _, (singleM d (N.map (List.map cvP))).1, (singleM d (N.map (List.map cvP))).2.1, (singleM d (N.map (List.map cvP))).2.2, _, _, _, _, k1 K (by omega), k2 K (by omega), k4 K (by omega), k5 K (by omega), k6 K (by omega), k7 K (by omega), k9 K (by omega), k11 K (by omega), k12 K (by omega), Int.not_lt.1 cn, by omega, by omega⟩
end Go.Proofs.Ytfkfahdikmfpeaa.QFnExactSinglePlane
