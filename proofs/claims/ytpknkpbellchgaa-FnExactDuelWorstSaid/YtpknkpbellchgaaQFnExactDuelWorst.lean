/- FnExactDuelWorst: what its calls come to, shown of numbers and lists alone. -/
import Derived.Test.YtpknkpbellchgaaSFnExactDuelWorst
import Derived.Test.YtpknkpbellchgaaPm
namespace Go.Proofs.Ytpknkpbellchgaa.QFnExactDuelWorst
open Go.RowKit Go.Proofs.Ytpknkpbellchgaa.KFnExactDuelWorst Go.Proofs.Ytpknkpbellchgaa.Lb Go.Proofs.Ytpknkpbellchgaa.Pm Go.Proofs.Ytpknkpbellchgaa.PFnExactDuelWorst Go.Proofs.YtpknkpbellchgaaW.PrintWords Go.Proofs.YtpknkpbellchgaaW.PrintLast Go.Proofs.YtpknkpbellchgaaW.PrintMore
set_option linter.unusedVariables false
set_option linter.unusedSimpArgs false
theorem rdL1_nat (xs : List (List Int)) (i : Nat) : rd_L1 xs (i : Int) = xs.getD i [] := by simp [rd_L1]

theorem spec_l1In_eq (x a b : Int) : spec_l1In.f x a b = some (inR a b x) := in_tells a b x

theorem spec_l11Lives_ev (l : List Int) (h : l.length ≤ maxLen) : Ev (fun k => spec_l11Lives.f k l) (livesB l) := by
  have h' : l.length ≤ 9223372036854775807 := h
  unfold livesB
  by_cases c4 : l.length ≤ 4
  · rw [show decide (l.length ≤ 4) = true from decide_eq_true c4, Bool.true_and]
    refine ev_list 0 l (fun i s k => spec_l11Lives.l0 k l s i) (fun _ ys s => ys.all (inR 0 8) && inR 1 8 (ys.foldl (fun s x => wrap64 (s + x)) s)) (fun _ _ => True) (fun s _ => ?_) (fun i x ys s hi hx _ _ ih => ?_) 0 trivial
    · refine Ev.step' (f := fun k => spec_l11Lives.j1 k l s l.length false) (fun k => by simp only [spec_l11Lives.l0, if_neg (Int.lt_irrefl _)]) ?_
      refine Ev.step' (f := fun _ => some (inR 1 8 s)) (fun k => by simp only [spec_l11Lives.j1, Bool.false_eq_true, if_false, if_pos (show (l.length : Int) ≤ 4 by omega), spec_l1In_eq, Option.bind_some]) (Ev.now _)
    · have c1 : (i : Int) < (l.length : Int) := by omega
      have c0 : 0 ≤ (i : Int) := by omega
      have ct : decide ((i : Int) ≤ 3) = true := decide_eq_true (by omega)
      refine Ev.step' (f := fun k => spec_l11Lives.j1 k l s i true) (fun k => by simp only [spec_l11Lives.l0, if_pos c1, ct]) ?_
      simp only [List.all_cons, List.foldl_cons, Bool.and_assoc]
      cases hq : inR 0 8 x with
      | false => exact Ev.step' (f := fun _ => some false) (fun k => by simp only [spec_l11Lives.j1, if_true, if_pos c1, if_pos c0, rd_nat, hx, spec_l1In_eq, hq, Option.bind_some, Bool.false_eq_true, if_false]) (Ev.now _)
      | true => exact Ev.step' (fun k => by simp only [spec_l11Lives.j1, if_true, if_pos c1, if_pos c0, rd_nat, hx, spec_l1In_eq, hq, Option.bind_some, wrap_succ hi h']) (ih _ trivial)
  · rw [show decide (l.length ≤ 4) = false from decide_eq_false c4, Bool.false_and]
    refine ev_range 4 (fun i s k => spec_l11Lives.l0 k l s i) (fun _ _ _ => false) (fun _ _ => True) (fun s _ => ?_) (fun i d s hi _ _ ih => ?_) 0 trivial
    · refine Ev.step' (f := fun k => spec_l11Lives.j1 k l s 4 false) (fun k => by simp only [spec_l11Lives.l0, if_pos (show ((4 : Nat) : Int) < (l.length : Int) by omega)] <;> rfl) ?_
      exact Ev.step' (f := fun _ => some false) (fun k => by simp only [spec_l11Lives.j1, Bool.false_eq_true, if_false, if_neg (show ¬ (l.length : Int) ≤ 4 by omega)]) (Ev.now _)
    · have c1 : (i : Int) < (l.length : Int) := by omega
      have c0 : 0 ≤ (i : Int) := by omega
      have ct : decide ((i : Int) ≤ 3) = true := decide_eq_true (by omega)
      refine Ev.step' (f := fun k => spec_l11Lives.j1 k l s i true) (fun k => by simp only [spec_l11Lives.l0, if_pos c1, ct]) ?_
      cases hq : inR 0 8 (l.getD i 0) with
      | false => exact Ev.step' (f := fun _ => some false) (fun k => by simp only [spec_l11Lives.j1, if_true, if_pos c1, if_pos c0, rd_nat, spec_l1In_eq, hq, Option.bind_some, Bool.false_eq_true, if_false]) (Ev.now _)
      | true => exact Ev.step' (fun k => by simp only [spec_l11Lives.j1, if_true, if_pos c1, if_pos c0, rd_nat, spec_l1In_eq, hq, Option.bind_some, wrap_succ (show i < l.length by omega) h']) (ih (wrap64 (s + l.getD i 0)) trivial)

def keyW (l : List Int) : Int := l.foldl (fun s x => wrap64 (wrap64 (s * 9) + x)) 0
theorem spec_l11Key_ev (l : List Int) (h : l.length ≤ maxLen) : Ev (fun k => spec_l11Key.f k l) (keyW l) := by
  have h' : l.length ≤ 9223372036854775807 := h
  refine ev_list 0 l (fun i s k => spec_l11Key.l0 k l s i) (fun _ ys s => ys.foldl (fun s x => wrap64 (wrap64 (s * 9) + x)) s) (fun _ _ => True) (fun s _ => ?_) (fun i x ys s hi hx _ _ ih => ?_) 0 trivial
  · exact Ev.step' (f := fun _ => some s) (fun k => by simp only [spec_l11Key.l0, if_neg (Int.lt_irrefl _)]) (Ev.now _)
  · have c1 : (i : Int) < (l.length : Int) := by omega
    have c0 : 0 ≤ (i : Int) := by omega
    exact Ev.step' (fun k => by simp only [spec_l11Key.l0, if_pos c1, if_pos c0, rd_nat, hx, wrap_succ hi h']) (ih _ trivial)

theorem spec_l1Own_eq (l : List Int) (h : l.length ≤ 1000) : spec_l1Own.f l = some l := by
  have c : ([] : List Int).length + l.length < 17592186044416 := by rw [List.length_nil]; omega
  simp only [spec_l1Own.f, Option.bind_some, if_pos c, List.nil_append]

def spl : List Int → List (List Int)
  | [] => [[]]
  | a :: r => (List.range (a.toNat + 1)).flatMap fun (x : Nat) => (spl r).map fun t => (x : Int) :: t
theorem flat_len {α : Type} (f : Nat → List α) (c : Nat) : ∀ n : Nat, (∀ x, (f x).length ≤ c) → ((List.range n).flatMap f).length ≤ n * c
  | 0, _ => by simp
  | n + 1, h => by
    rw [List.range_succ, List.flatMap_append, List.length_append, Nat.succ_mul]
    have := flat_len f c n h
    have h2 := h n
    simp only [List.flatMap_cons, List.flatMap_nil, List.append_nil]
    omega
theorem spl_len : ∀ (l : List Int), (∀ x ∈ l, 0 ≤ x ∧ x ≤ 8) → (spl l).length ≤ 9 ^ l.length
  | [], _ => by simp [spl]
  | a :: r, h => by
    have ih := spl_len r (fun x hx => h x (by simp [hx]))
    have ha := h a (by simp)
    have h2 := flat_len (fun (x : Nat) => (spl r).map fun t => (x : Int) :: t) (9 ^ r.length) (a.toNat + 1) (fun x => by simpa using ih)
    unfold spl
    rw [List.length_cons, Nat.pow_succ, Nat.mul_comm]
    exact Nat.le_trans h2 (Nat.mul_le_mul_right _ (by omega))
theorem own_small (l : List Int) (h : l.length < 1000) : spec_l1Own.f l = some l := by
  have c : ([] : List Int).length + l.length < 17592186044416 := by simp; omega
  simp only [spec_l1Own.f, Option.bind_some, if_pos c, List.nil_append]
theorem spec_l11Splits_ev (l : List Int) (hl : l.length ≤ 4) (h8 : ∀ x ∈ l, 0 ≤ x ∧ x ≤ 8) : ∀ (r b : List Int), b.length + r.length = l.length → l.drop b.length = r → Ev (fun k => spec_l11Splits.f k l b) ((spl r).map fun t => b ++ t)
  | [], b, hb, _ => by
    have c : (b.length : Int) = (l.length : Int) := by simp at hb; omega
    simp only [spl, List.map_cons, List.map_nil, List.append_nil]
    exact Ev.step' (f := fun _ => some _) (fun k => by simp only [spec_l11Splits.f, if_pos c]) (Ev.now _)
  | a :: r, b, hb, hd => by
    have hbl : b.length < l.length := by simp at hb; omega
    have c : ¬ (b.length : Int) = (l.length : Int) := by omega
    have ha : rd l (b.length : Int) = a := by
      rw [rd_nat, List.getD_eq_getElem?_getD, ← List.head?_drop, hd]
      rfl
    have ham : a ∈ l := List.mem_of_mem_drop (hd ▸ (List.mem_cons_self : a ∈ a :: r))
    have ha8 := h8 a ham
    have hr8 : ∀ x ∈ r, 0 ≤ x ∧ x ≤ 8 := fun x hx => h8 x (List.mem_of_mem_drop (by rw [hd]; exact List.mem_cons_of_mem _ hx : x ∈ l.drop b.length))
    have hsl := spl_len r hr8
    have hrl : r.length ≤ 4 := by simp at hb; omega
    have h9 : 9 ^ r.length ≤ 6561 := Nat.pow_le_pow_right (by decide) hrl
    have hd2 : ∀ i : Int, l.drop (b ++ [i]).length = r := fun i => by
      rw [List.length_append, List.length_singleton, ← List.drop_drop, hd]
      rfl
    have ih : ∀ i : Nat, Ev (fun k => spec_l11Splits.f k l (b ++ [(i : Int)])) ((spl r).map fun t => (b ++ [(i : Int)]) ++ t) := fun i => spec_l11Splits_ev l hl h8 r (b ++ [(i : Int)]) (by simp at hb ⊢; omega) (hd2 i)
    refine Ev.step' (f := fun k => spec_l11Splits.l0 k l b [] 0) (fun k => by simp only [spec_l11Splits.f, if_neg c]) ?_
    have t := (to_fold (L := fun i acc k => spec_l11Splits.l0 k l b acc i) (n := a.toNat + 1) (f := fun i acc => acc ++ (spl r).map fun t => (b ++ [(i : Int)]) ++ t) (fun i acc => acc.length ≤ i * 6561) (fun i acc hi hacc => ⟨(To.step (f := fun k => (spec_l11Splits.f k l (b ++ [(i : Int)])).bind fun t125 => if acc.length + t125.length < 5864062014805 then spec_l11Splits.l0 k l b (acc ++ t125) ((i + 1 : Nat) : Int) else none) fun k => by
        have c1 : 0 ≤ (b.length : Int) := Int.natCast_nonneg _
        have c2 : (b.length : Int) < (l.length : Int) := by omega
        have c3 : (i : Int) ≤ a := by omega
        have c4 : b.length < 17592186044416 := by omega
        simp only [spec_l11Splits.l0, if_pos c1, if_pos c2, ha, if_pos c3, own_small b (by omega), Option.bind_some, if_pos c4, wrap_succ hi (by omega : a.toNat + 1 ≤ 9223372036854775807)]).trans ((To.bind (f := fun k t125 => if acc.length + t125.length < 5864062014805 then spec_l11Splits.l0 k l b (acc ++ t125) ((i + 1 : Nat) : Int) else none) (ih i)).trans (To.congr fun k => by
        rw [if_pos (by rw [List.length_map]; omega)])), by
        rw [List.length_append, List.length_map, Nat.succ_mul]
        omega⟩) [] (by simp)).1
    refine t _ ?_
    have e : ∀ n : Nat, (List.range n).foldl (fun acc (i : Nat) => acc ++ (spl r).map fun t => (b ++ [(i : Int)]) ++ t) [] = ((List.range n).flatMap fun (x : Nat) => (spl r).map fun t => (x : Int) :: t).map fun t => b ++ t := by
      intro n
      induction n with
      | zero => rfl
      | succ n ih => rw [List.range_succ, List.foldl_append, ih, List.flatMap_append, List.map_append]; simp
    rw [e]
    refine Ev.step' (f := fun _ => some _) (fun k => ?_) (Ev.now _)
    have c1 : 0 ≤ (b.length : Int) := Int.natCast_nonneg _
    have c2 : (b.length : Int) < (l.length : Int) := by omega
    have c3 : ¬ ((a.toNat + 1 : Nat) : Int) ≤ a := by omega
    simp only [spec_l11Splits.l0, if_pos c1, if_pos c2, ha, if_neg c3]
    rfl

def absW (x : Int) : Int := if x > wrap64 (-x) then x else wrap64 (-x)
theorem spec_l1Most_eq (x : Int) : spec_l1Most.f x (wrap64 (-x)) = some (absW x) := by
  unfold spec_l1Most.f absW
  by_cases c : x > wrap64 (-x)
  · rw [if_pos c, if_pos c]
  · rw [if_neg c, if_neg c]
def sizeM (l : List Int) (s : Int) : Int := l.foldl (fun s x => wrap64 (s + absW x)) s
theorem size_add : ∀ (l : List Int) (s t : Int), sizeM l (wrap64 (s + t)) = wrap64 (s + sizeM l t)
  | [], s, t => rfl
  | x :: l, s, t => by
    have e : wrap64 (wrap64 (s + t) + absW x) = wrap64 (s + wrap64 (t + absW x)) := by
      generalize absW x = a
      unfold wrap64; omega
    show sizeM l (wrap64 (wrap64 (s + t) + absW x)) = wrap64 (s + sizeM l (wrap64 (t + absW x)))
    rw [e, size_add l s (wrap64 (t + absW x))]
theorem size_from (l : List Int) (s : Int) (h : wrap64 s = s) : sizeM l s = wrap64 (s + sizeM l 0) := by
  have e := size_add l s 0
  rw [Int.add_zero, h] at e
  exact e
theorem wrap_twice (x : Int) : wrap64 (wrap64 x) = wrap64 x := by unfold wrap64; omega

def restW (l s : List Int) : List Int := (List.range l.length).map fun i => wrap64 (l.getD i 0 - s.getD i 0)
theorem spec_l11Rest_ev (l s : List Int) (h : l.length ≤ 1000) (hs : l.length ≤ s.length) : Ev (fun k => spec_l11Rest.f k l s) (restW l s) := by
  have e := fold_append l.length (fun i => wrap64 (l.getD i 0 - s.getD i 0)) []
  rw [List.nil_append] at e
  have t := (to_fold (L := fun i acc k => spec_l11Rest.l0 k l s acc i) (n := l.length) (f := fun i acc => acc ++ [wrap64 (l.getD i 0 - s.getD i 0)]) (fun i acc => acc.length = i) (fun i acc hi hl => ⟨To.step fun k => by
      have c1 : (i : Int) < (l.length : Int) := by omega
      have c0 : 0 ≤ (i : Int) := by omega
      have c2 : (i : Int) < (s.length : Int) := by omega
      have c3 : acc.length < 17592186044416 := by omega
      simp only [spec_l11Rest.l0, if_pos c1, if_pos c0, if_pos c2, if_pos c3, rd_nat, wrap_succ hi (by omega : l.length ≤ 9223372036854775807)], by simp [hl]⟩) [] rfl).1
  refine t _ ?_
  rw [e]
  exact Ev.step' (f := fun _ => some _) (fun k => by simp only [spec_l11Rest.l0, if_neg (Int.lt_irrefl _)] <;> rfl) (Ev.now _)

def mostI (a b : Int) : Int := if a > b then a else b
theorem spec_l1Most_is (a b : Int) : spec_l1Most.f a b = some (mostI a b) := by
  unfold spec_l1Most.f mostI
  split <;> rfl
def greatW (l : List Int) : Int := l.foldl (fun s x => mostI s (mostI x (wrap64 (-x)))) 0
theorem spec_l4Greatest_ev (l : List Int) (h : l.length ≤ maxLen) : Ev (fun k => spec_l4Greatest.f k l) (greatW l) := by
  have h' : l.length ≤ 9223372036854775807 := h
  refine ev_list 0 l (fun i s k => spec_l4Greatest.l0 k l s i) (fun _ ys s => ys.foldl (fun s x => mostI s (mostI x (wrap64 (-x)))) s) (fun _ _ => True) (fun s _ => ?_) (fun i x ys s hi hx _ _ ih => ?_) 0 trivial
  · exact Ev.step' (f := fun _ => some s) (fun k => by simp only [spec_l4Greatest.l0, if_neg (Int.lt_irrefl _)]) (Ev.now _)
  · have c1 : (i : Int) < (l.length : Int) := by omega
    have c0 : 0 ≤ (i : Int) := by omega
    exact Ev.step' (fun k => by simp only [spec_l4Greatest.l0, if_pos c1, if_pos c0, rd_nat, hx, spec_l1Most_is, Option.bind_some, wrap_succ hi h']) (ih _ trivial)

theorem spec_l11Alive_ev (l : List Int) (h : l.length ≤ maxLen) : Ev (fun k => spec_l11Alive.f k l) (decide (greatW l > 0)) :=
  Ev.bind (spec_l4Greatest_ev l h) (Ev.now _)

def hurtW (l s : List Int) : List Int := (List.range l.length).map fun i => if i + 1 < l.length then wrap64 (wrap64 (l.getD i 0 - s.getD i 0) + s.getD (i + 1) 0) else wrap64 (l.getD i 0 - s.getD i 0)
theorem spec_l11Hurt_ev (l s : List Int) (h : l.length ≤ 1000) (hs : l.length ≤ s.length) : Ev (fun k => spec_l11Hurt.f k l s) (hurtW l s) := by
  have e := fold_append l.length (fun i => if i + 1 < l.length then wrap64 (wrap64 (l.getD i 0 - s.getD i 0) + s.getD (i + 1) 0) else wrap64 (l.getD i 0 - s.getD i 0)) []
  rw [List.nil_append] at e
  have t := (to_fold (L := fun i acc k => spec_l11Hurt.l0 k l s acc i) (n := l.length) (f := fun i acc => acc ++ [if i + 1 < l.length then wrap64 (wrap64 (l.getD i 0 - s.getD i 0) + s.getD (i + 1) 0) else wrap64 (l.getD i 0 - s.getD i 0)]) (fun i acc => acc.length = i) (fun i acc hi hl => ⟨To.step fun k => by
      have c1 : (i : Int) < (l.length : Int) := by omega
      have c0 : 0 ≤ (i : Int) := by omega
      have c2 : (i : Int) < (s.length : Int) := by omega
      have c3 : acc.length < 17592186044416 := by omega
      have c6 : 0 ≤ ((i + 1 : Nat) : Int) := by omega
      by_cases c4 : i + 1 < l.length
      · have c5 : ((i + 1 : Nat) : Int) < (l.length : Int) := by omega
        have c7 : ((i + 1 : Nat) : Int) < (s.length : Int) := by omega
        simp only [spec_l11Hurt.l0, if_pos c1, if_pos c0, if_pos c2, if_pos c3, wrap_succ hi (by omega : l.length ≤ 9223372036854775807), if_pos c5, if_pos c6, if_pos c7, rd_nat, if_pos c4]
      · have c5 : ¬ ((i + 1 : Nat) : Int) < (l.length : Int) := by omega
        simp only [spec_l11Hurt.l0, if_pos c1, if_pos c0, if_pos c2, if_pos c3, wrap_succ hi (by omega : l.length ≤ 9223372036854775807), if_neg c5, rd_nat, if_neg c4], by simp [hl]⟩) [] rfl).1
  refine t _ ?_
  rw [e]
  exact Ev.step' (f := fun _ => some _) (fun k => by simp only [spec_l11Hurt.l0, if_neg (Int.lt_irrefl _)] <;> rfl) (Ev.now _)

theorem spec_l1Least_eq (a b : Int) : spec_l1Least.f a b = some (mnI a b) := by
  unfold spec_l1Least.f mnI
  split <;> rfl

theorem spec_l11Told_ev (l : List Int) (h : l.length ≤ 4) : Ev (fun k => spec_l11Told.f k l) (List.replicate (9 ^ l.length) 0) := by
  have t := (to_fold (L := fun i s k => spec_l11Told.l0 k l s i) (n := l.length) (f := fun _ s => wrap64 (s * 9)) (fun _ _ => True) (fun i s hi _ => ⟨To.step fun k => by
      have c1 : (i : Int) < (l.length : Int) := by omega
      simp only [spec_l11Told.l0, if_pos c1, wrap_succ hi (by omega : l.length ≤ 9223372036854775807)], trivial⟩) 1 trivial).1
  refine t _ ?_
  have e : (List.range l.length).foldl (fun (s : Int) (_ : Nat) => wrap64 (s * 9)) 1 = ((9 ^ l.length : Nat) : Int) := by
    match l.length, h with
    | 0, _ => rfl
    | 1, _ => decide +kernel
    | 2, _ => decide +kernel
    | 3, _ => decide +kernel
    | 4, _ => decide +kernel
  rw [e]
  have hb : 9 ^ l.length ≤ 6561 := Nat.pow_le_pow_right (by decide) h
  refine Ev.step' (f := fun _ => some _) (fun k => ?_) (Ev.now _)
  simp only [spec_l11Told.l0, if_neg (Int.lt_irrefl _), if_pos (Int.natCast_nonneg _), Int.toNat_natCast]
  rw [if_pos (by omega)]

theorem laws_toIntS_ev (l : List Int) (h : l.length ≤ 1048576) : Ev (fun k => laws_toIntS.f k l) l := by
  have hw : wrap64 (l.length : Int) = l.length := wrap_id (by omega) (by omega)
  have c0 : 0 ≤ (l.length : Int) := by omega
  have e : ∀ k, laws_toIntS.f k l = laws_toIntS.l0 k l (List.replicate l.length 0) 0 := fun k => by
    simp only [laws_toIntS.f, if_pos c0, Int.toNat_natCast]; rw [if_pos (by omega)]
  refine Ev.congr e ?_
  have hf := to_fold (L := fun i (s : List Int) k => laws_toIntS.l0 k l s i) (n := l.length) (f := fun i s => s.set i (l.getD i 0)) (fun i s => s = l.take i ++ List.replicate (l.length - i) 0) (fun i s hi hs => ⟨To.step fun k => ?_, ?_⟩) (List.replicate l.length 0) (by simp)
  · refine hf.1 _ (Ev.step' (f := fun _ => some l) (fun k => ?_) (Ev.now _))
    have := hf.2
    rw [Nat.sub_self, List.take_length, List.replicate_zero, List.append_nil] at this
    show laws_toIntS.l0 (k + 1) l _ _ = _
    rw [this]
    simp only [laws_toIntS.l0, if_neg (Int.lt_irrefl _)]
  · have c1 : (i : Int) < (l.length : Int) := by omega
    have c2 : (i : Int) < (s.length : Int) := by rw [hs, List.length_append, List.length_take, List.length_replicate]; omega
    have c3 : 0 ≤ (i : Int) := by omega
    simp only [laws_toIntS.l0, if_pos c1, if_pos c2, if_pos c3, rd_nat, Int.toNat_natCast, wrap_succ hi (by omega : l.length ≤ 9223372036854775807)]
  · show List.set s i _ = _
    rw [hs]; exact set_step l 0 0 i hi

theorem impl_within_eq (x a b : Int) : impl_within.f x a b = some (inR a b x) := in_tells a b x

theorem impl_allWithin_ev (l : List Int) (a b : Int) (h : l.length ≤ maxLen) : Ev (fun k => impl_allWithin.f k l a b) (l.all (inR a b)) := by
  unfold maxLen at h
  rw [← range_all l (inR a b) 0]
  refine ev_all (L := fun i k => impl_allWithin.l0 k a b l (l.length : Int) i) (fun i hi hp => To.step fun k => ?_) (fun i hi hp => Ev.step' (f := fun _ => some false) (fun k => ?_) (Ev.now _)) (Ev.step' (f := fun _ => some true) (fun k => ?_) (Ev.now _))
  · have c1 : (i : Int) < (l.length : Int) := by omega
    have c0 : 0 ≤ (i : Int) := by omega
    simp only [impl_allWithin.l0, if_pos c1, if_pos c0, impl_within_eq, rd_nat, hp, Option.bind_some, if_true, wrap_succ hi h]
  · have c1 : (i : Int) < (l.length : Int) := by omega
    have c0 : 0 ≤ (i : Int) := by omega
    simp only [impl_allWithin.l0, if_pos c1, if_pos c0, impl_within_eq, rd_nat, hp, Option.bind_some, Bool.false_eq_true, if_false]
  · simp only [impl_allWithin.l0, if_neg (Int.lt_irrefl _)]

theorem impl_total_ev (l : List Int) (h : l.length ≤ maxLen) : Ev (fun k => impl_total.f k l) (sumW l) := by
  have h' : l.length ≤ 9223372036854775807 := h
  refine ev_list 0 l (fun i s k => impl_total.l0 k s l (l.length : Int) i) (fun _ ys s => ys.foldl (fun s x => wrap64 (s + x)) s) (fun _ _ => True) (fun s _ => ?_) (fun i x ys s hi hx _ _ ih => ?_) 0 trivial
  · exact Ev.step' (f := fun _ => some s) (fun k => by simp only [impl_total.l0, if_neg (Int.lt_irrefl _)]) (Ev.now _)
  · have c1 : (i : Int) < (l.length : Int) := by omega
    have c0 : 0 ≤ (i : Int) := by omega
    rw [List.foldl_cons]
    exact Ev.step' (fun k => by simp only [impl_total.l0, if_pos c1, if_pos c0, rd_nat, hx, wrap_succ hi h']) (ih _ trivial)

theorem impl_IsLives_ev (l : List Int) (h : l.length ≤ maxLen) : Ev (fun k => impl_IsLives.f k l) (livesB l) := by
  unfold livesB impl_IsLives.f
  by_cases c4 : l.length ≤ 4
  · rw [show decide (l.length ≤ 4) = true from decide_eq_true c4, Bool.true_and]
    simp only [if_pos (show (l.length : Int) ≤ 4 by omega)]
    refine Ev.bind (impl_allWithin_ev l 0 8 h) ?_
    cases l.all (inR 0 8) with
    | false => exact Ev.now _
    | true =>
      simp only [if_true, Bool.true_and, impl_within_eq, Option.bind_some]
      exact Ev.bind (impl_total_ev l h) (Ev.now _)
  · rw [show decide (l.length ≤ 4) = false from decide_eq_false c4, Bool.false_and]
    simp only [if_neg (show ¬ (l.length : Int) ≤ 4 by omega)]
    exact Ev.now _

theorem laws_eqIntS_ev (l : List Int) (h : l.length ≤ maxLen) : Ev (fun k => laws_eqIntS.f k l l) true := by
  unfold maxLen at h
  refine Ev.congr (f := fun k => laws_eqIntS.l0 k l l 0) (fun k => by simp only [laws_eqIntS.f, if_true]) ?_
  refine ev_yes (L := fun i k => laws_eqIntS.l0 k l l i) (n := l.length) (fun i hi => To.step fun k => ?_) (Ev.step' (f := fun _ => some true) (fun k => ?_) (Ev.now _))
  · have c1 : (i : Int) < (l.length : Int) := by omega
    have c0 : 0 ≤ (i : Int) := by omega
    simp only [laws_eqIntS.l0, if_pos c1, if_pos c0, if_true, wrap_succ hi h]
  · simp only [laws_eqIntS.l0, if_neg (Int.lt_irrefl _)]

def Val (n : Nat) (l : List Int) : Prop := l.length = n ∧ n ≤ 4 ∧ (∀ j, 0 ≤ l.getD j 0) ∧ l.getD 0 0 + l.getD 1 0 + l.getD 2 0 + l.getD 3 0 ≤ 8
def Sub (l s : List Int) : Prop := s.length = l.length ∧ ∀ j, 0 ≤ s.getD j 0 ∧ s.getD j 0 ≤ l.getD j 0
theorem out0 (l : List Int) (j : Nat) (h : l.length ≤ j) : l.getD j 0 = 0 := by rw [List.getD_eq_getElem?_getD, List.getElem?_eq_none h]; rfl
theorem Val.le {n : Nat} {l : List Int} (h : Val n l) (j : Nat) : l.getD j 0 ≤ 8 := by
  obtain ⟨h1, h2, h3, h4⟩ := h
  have a0 := h3 0; have a1 := h3 1; have a2 := h3 2; have a3 := h3 3
  match j with
  | 0 => omega
  | 1 => omega
  | 2 => omega
  | 3 => omega
  | j + 4 => rw [out0 l (j + 4) (by omega)]; omega
theorem Val.mem {n : Nat} {l : List Int} (h : Val n l) : ∀ x ∈ l, 0 ≤ x ∧ x ≤ 8 := by
  intro x hx
  obtain ⟨i, hi, rfl⟩ := List.getElem_of_mem hx
  have e : l.getD i 0 = l[i] := by rw [List.getD_eq_getElem?_getD, List.getElem?_eq_getElem hi]; rfl
  rw [← e]
  exact ⟨h.2.2.1 i, h.le i⟩
theorem gm (n : Nat) (f : Nat → Int) (j : Nat) : ((List.range n).map f).getD j 0 = if j < n then f j else 0 := by
  rw [List.getD_eq_getElem?_getD, List.getElem?_map]
  by_cases h : j < n
  · rw [if_pos h, List.getElem?_range h]; rfl
  · rw [if_neg h, List.getElem?_eq_none (by simpa using h)]; rfl
theorem rest_get {n : Nat} {l s : List Int} (hl : Val n l) (hs : Sub l s) (j : Nat) : (restW l s).getD j 0 = l.getD j 0 - s.getD j 0 := by
  unfold restW
  rw [gm]
  have h1 := hl.2.2.1 j; have h2 := hl.le j; have h3 := hs.2 j
  by_cases h : j < l.length
  · rw [if_pos h, wrap_id (by omega) (by omega)]
  · rw [if_neg h, out0 l j (by omega), out0 s j (by rw [hs.1]; omega)]; rfl
theorem hurt_get {n : Nat} {l s : List Int} (hl : Val n l) (hs : Sub l s) (j : Nat) : (hurtW l s).getD j 0 = l.getD j 0 - s.getD j 0 + s.getD (j + 1) 0 := by
  unfold hurtW
  rw [gm]
  have h1 := hl.2.2.1 j; have h2 := hl.le j; have h3 := hs.2 j; have h4 := hs.2 (j + 1); have h5 := hl.le (j + 1)
  by_cases h : j < l.length
  · rw [if_pos h]
    by_cases h' : j + 1 < l.length
    · rw [if_pos h', wrap_id (x := l.getD j 0 - s.getD j 0) (by omega) (by omega), wrap_id (by omega) (by omega)]
    · rw [if_neg h', wrap_id (by omega) (by omega), out0 s (j + 1) (by rw [hs.1]; omega)]; omega
  · rw [if_neg h, out0 l j (by omega), out0 s j (by rw [hs.1]; omega), out0 s (j + 1) (by rw [hs.1]; omega)]; rfl
theorem rest_val {n : Nat} {l s : List Int} (hl : Val n l) (hs : Sub l s) : Val n (restW l s) := by
  refine ⟨by simp [restW, hl.1], hl.2.1, fun j => ?_, ?_⟩
  · rw [rest_get hl hs]; have := hs.2 j; omega
  · rw [rest_get hl hs, rest_get hl hs, rest_get hl hs, rest_get hl hs]
    have h0 := hs.2 0; have h1 := hs.2 1; have h2 := hs.2 2; have h3 := hs.2 3; have := hl.2.2.2
    omega
theorem rest_sub {n : Nat} {l s : List Int} (hl : Val n l) (hs : Sub l s) : Sub l (restW l s) :=
  ⟨by simp [restW], fun j => by rw [rest_get hl hs]; have := hs.2 j; omega⟩
theorem hurt_val {n : Nat} {l s : List Int} (hl : Val n l) (hs : Sub l s) : Val n (hurtW l s) := by
  refine ⟨by simp [hurtW, hl.1], hl.2.1, fun j => ?_, ?_⟩
  · rw [hurt_get hl hs]; have := hs.2 j; have := hs.2 (j + 1); omega
  · rw [hurt_get hl hs, hurt_get hl hs, hurt_get hl hs, hurt_get hl hs]
    have h0 := hs.2 0; have h1 := hs.2 1; have h2 := hs.2 2; have h3 := hs.2 3; have := hl.2.2.2
    have e : s.getD 4 0 = 0 := out0 s 4 (by have := hs.1; have := hl.1; have := hl.2.1; omega)
    simp only [Nat.zero_add, Nat.reduceAdd]
    omega
theorem self_sub {n : Nat} {l : List Int} (hl : Val n l) : Sub l l := ⟨rfl, fun j => ⟨hl.2.2.1 j, Int.le_refl _⟩⟩
theorem st_rest {n : Nat} {l s : List Int} (hl : Val n l) (hs : Sub l s) : stOf (restW l s) = rest (stOf l) (stOf s) := by
  unfold stOf rest
  simp only [rest_get hl hs, Prod.mk.injEq]
  have h0 := hs.2 0; have h1 := hs.2 1; have h2 := hs.2 2; have h3 := hs.2 3
  omega
theorem st_hurt {n : Nat} {l s : List Int} (hl : Val n l) (hs : Sub l s) : stOf (hurtW l s) = low (stOf l) (stOf s) := by
  unfold stOf low
  have e : s.getD 4 0 = 0 := out0 s 4 (by have := hs.1; have := hl.1; have := hl.2.1; omega)
  simp only [hurt_get hl hs, Prod.mk.injEq, Nat.zero_add, Nat.reduceAdd, e]
  have h0 := hs.2 0; have h1 := hs.2 1; have h2 := hs.2 2; have h3 := hs.2 3
  omega
theorem st_le {l s : List Int} (hs : Sub l s) : le4 (stOf s) (stOf l) := by
  have h0 := hs.2 0; have h1 := hs.2 1; have h2 := hs.2 2; have h3 := hs.2 3
  unfold le4 stOf
  simp only
  omega
theorem great_iff : ∀ (l : List Int) (s : Int), 0 ≤ s → (∀ x ∈ l, 0 ≤ x ∧ x ≤ 8) → (l.foldl (fun s x => mostI s (mostI x (wrap64 (-x)))) s > 0 ↔ s > 0 ∨ ∃ x ∈ l, x > 0)
  | [], s, _, _ => by simp
  | a :: l, s, h0, h => by
    have ha := h a (by simp)
    have e : mostI a (wrap64 (-a)) = a := by
      rw [wrap_id (by omega) (by omega)]
      unfold mostI
      split <;> omega
    rw [List.foldl_cons, e, great_iff l _ (by unfold mostI; split <;> omega) (fun x hx => h x (by simp [hx]))]
    have e2 : mostI s a > 0 ↔ s > 0 ∨ a > 0 := by unfold mostI; split <;> omega
    rw [e2]
    simp only [List.mem_cons, exists_eq_or_imp, or_assoc]
theorem alive_is {n : Nat} {l : List Int} (hl : Val n l) : decide (greatW l > 0) = liv (stOf l) := by
  have h := great_iff l 0 (by decide) hl.mem
  refine Bool.eq_iff_iff.mpr ?_
  rw [decide_eq_true_eq]
  have e : liv (stOf l) = true ↔ 1 ≤ (stOf l).1 + (stOf l).2.1 + (stOf l).2.2.1 + (stOf l).2.2.2 := by
    unfold liv Dl.al
    rw [Nat.ble_eq]
    exact Iff.rfl
  rw [e]
  unfold greatW
  rw [h]
  have a0 := hl.2.2.1 0; have a1 := hl.2.2.1 1; have a2 := hl.2.2.1 2; have a3 := hl.2.2.1 3
  constructor
  · rintro (h | ⟨x, hx, h⟩)
    · exact absurd h (by decide)
    · obtain ⟨i, hi, rfl⟩ := List.getElem_of_mem hx
      have e : l.getD i 0 = l[i] := by rw [List.getD_eq_getElem?_getD, List.getElem?_eq_getElem hi]; rfl
      rw [← e] at h
      unfold stOf
      simp only
      have hi4 : i < 4 := by have := hl.1; have := hl.2.1; omega
      match i, hi4 with
      | 0, _ => omega
      | 1, _ => omega
      | 2, _ => omega
      | 3, _ => omega
  · intro h
    unfold stOf at h
    simp only at h
    have key : ∀ j, l.getD j 0 > 0 → ∃ x ∈ l, x > 0 := fun j hj => by
      have hjl : j < l.length := by
        rcases Nat.lt_or_ge j l.length with h | h
        · exact h
        · rw [out0 l j h] at hj; omega
      exact ⟨_, getD_mem hjl 0, hj⟩
    refine .inr ?_
    by_cases b0 : l.getD 0 0 > 0
    · exact key 0 b0
    by_cases b1 : l.getD 1 0 > 0
    · exact key 1 b1
    by_cases b2 : l.getD 2 0 > 0
    · exact key 2 b2
    exact key 3 (by omega)
theorem kstep {s x : Int} (h0 : 0 ≤ s) (h1 : s ≤ 100000) (h2 : 0 ≤ x) (h3 : x ≤ 8) : wrap64 (wrap64 (s * 9) + x) = s * 9 + x := by
  rw [wrap_id (x := s * 9) (by omega) (by omega), wrap_id (by omega) (by omega)]
theorem key_fold : ∀ (l : List Int) (s : Int) (m : Nat), 0 ≤ s → s < (9 ^ m : Nat) → m + l.length ≤ 5 → (∀ x ∈ l, 0 ≤ x ∧ x ≤ 8) → 0 ≤ l.foldl (fun s x => wrap64 (wrap64 (s * 9) + x)) s ∧ l.foldl (fun s x => wrap64 (wrap64 (s * 9) + x)) s < (9 ^ (m + l.length) : Nat)
  | [], s, m, h0, h1, _, _ => ⟨h0, h1⟩
  | x :: l, s, m, h0, h1, hm, h => by
    have hx := h x (by simp)
    have hp : 9 ^ m ≤ 9 ^ 5 := Nat.pow_le_pow_right (by decide) (by omega)
    have h9 : (9 ^ 5 : Nat) = 59049 := by decide
    rw [List.foldl_cons, kstep h0 (by omega) hx.1 hx.2]
    have e : (9 : Nat) ^ (m + 1) = 9 ^ m * 9 := by rw [Nat.pow_succ]
    have r := key_fold l (s * 9 + x) (m + 1) (by omega) (by omega) (by simp at hm; omega) (fun y hy => h y (by simp [hy]))
    rw [show m + (x :: l).length = m + 1 + l.length by simp; omega]
    exact r
theorem key_bd {n : Nat} {l : List Int} (hl : Val n l) : 0 ≤ keyW l ∧ keyW l < (9 ^ n : Nat) := by
  have h := key_fold l 0 0 (by decide) (by decide) (by have := hl.1; have := hl.2.1; omega) hl.mem
  rw [hl.1, Nat.zero_add] at h
  exact h
theorem key_forms {n : Nat} {l : List Int} (hl : Val n l) : (n = 0 ∧ l = []) ∨ (∃ a, n = 1 ∧ l = [a] ∧ keyW l = a) ∨ (∃ a b, n = 2 ∧ l = [a, b] ∧ keyW l = a * 9 + b) ∨ (∃ a b c, n = 3 ∧ l = [a, b, c] ∧ keyW l = (a * 9 + b) * 9 + c) ∨ (∃ a b c d, n = 4 ∧ l = [a, b, c, d] ∧ keyW l = ((a * 9 + b) * 9 + c) * 9 + d) := by
  have hm := hl.mem
  match l, hl, hm with
  | [], hl, _ => exact .inl ⟨hl.1.symm, rfl⟩
  | [a], hl, hm =>
    have ha := hm a (by simp)
    refine .inr (.inl ⟨a, hl.1.symm, rfl, ?_⟩)
    show wrap64 (wrap64 (0 * 9) + a) = _
    rw [kstep (by decide) (by decide) ha.1 ha.2]; omega
  | [a, b], hl, hm =>
    have ha := hm a (by simp); have hb := hm b (by simp)
    refine .inr (.inr (.inl ⟨a, b, hl.1.symm, rfl, ?_⟩))
    show wrap64 (wrap64 (wrap64 (wrap64 (0 * 9) + a) * 9) + b) = _
    rw [kstep (s := 0) (by decide) (by decide) ha.1 ha.2, kstep (by omega) (by omega) hb.1 hb.2]; omega
  | [a, b, c], hl, hm =>
    have ha := hm a (by simp); have hb := hm b (by simp); have hc := hm c (by simp)
    refine .inr (.inr (.inr (.inl ⟨a, b, c, hl.1.symm, rfl, ?_⟩)))
    show wrap64 (wrap64 (wrap64 (wrap64 (wrap64 (wrap64 (0 * 9) + a) * 9) + b) * 9) + c) = _
    rw [kstep (s := 0) (by decide) (by decide) ha.1 ha.2, kstep (s := 0 * 9 + a) (by omega) (by omega) hb.1 hb.2, kstep (by omega) (by omega) hc.1 hc.2]; omega
  | [a, b, c, d], hl, hm =>
    have ha := hm a (by simp); have hb := hm b (by simp); have hc := hm c (by simp); have hd := hm d (by simp)
    refine .inr (.inr (.inr (.inr ⟨a, b, c, d, hl.1.symm, rfl, ?_⟩)))
    show wrap64 (wrap64 (wrap64 (wrap64 (wrap64 (wrap64 (wrap64 (wrap64 (0 * 9) + a) * 9) + b) * 9) + c) * 9) + d) = _
    rw [kstep (s := 0) (by decide) (by decide) ha.1 ha.2, kstep (s := 0 * 9 + a) (by omega) (by omega) hb.1 hb.2, kstep (s := (0 * 9 + a) * 9 + b) (by omega) (by omega) hc.1 hc.2, kstep (by omega) (by omega) hd.1 hd.2]; omega
  | a :: b :: c :: d :: e :: r, hl, _ => have h1 := hl.1; have h2 := hl.2.1; simp at h1; omega
theorem key_inj {n : Nat} {l l' : List Int} (hl : Val n l) (hl' : Val n l') (e : keyW l = keyW l') : l = l' := by
  have hm := hl.mem; have hm' := hl'.mem
  rcases key_forms hl with ⟨h, rfl⟩ | ⟨a, h, rfl, k⟩ | ⟨a, b, h, rfl, k⟩ | ⟨a, b, c, h, rfl, k⟩ | ⟨a, b, c, d, h, rfl, k⟩ <;> subst h <;> rcases key_forms hl' with ⟨h, rfl⟩ | ⟨a', h, rfl, k'⟩ | ⟨a', b', h, rfl, k'⟩ | ⟨a', b', c', h, rfl, k'⟩ | ⟨a', b', c', d', h, rfl, k'⟩ <;> first | (exact absurd h (by decide)) | skip
  · rfl
  · rw [k, k'] at e; rw [e]
  · rw [k, k'] at e
    have ha := hm a (by simp); have hb := hm b (by simp); have ha' := hm' a' (by simp); have hb' := hm' b' (by simp)
    have e1 : a = a' := by omega
    have e2 : b = b' := by omega
    rw [e1, e2]
  · rw [k, k'] at e
    have ha := hm a (by simp); have hb := hm b (by simp); have hc := hm c (by simp); have ha' := hm' a' (by simp); have hb' := hm' b' (by simp); have hc' := hm' c' (by simp)
    have e1 : a = a' := by omega
    have e2 : b = b' := by omega
    have e3 : c = c' := by omega
    rw [e1, e2, e3]
  · rw [k, k'] at e
    have ha := hm a (by simp); have hb := hm b (by simp); have hc := hm c (by simp); have hd := hm d (by simp); have ha' := hm' a' (by simp); have hb' := hm' b' (by simp); have hc' := hm' c' (by simp); have hd' := hm' d' (by simp)
    have e1 : a = a' := by omega
    have e2 : b = b' := by omega
    have e3 : c = c' := by omega
    have e4 : d = d' := by omega
    rw [e1, e2, e3, e4]
theorem spl_sub : ∀ (l s : List Int), (∀ x ∈ l, 0 ≤ x) → s ∈ spl l → s.length = l.length ∧ ∀ j, 0 ≤ s.getD j 0 ∧ s.getD j 0 ≤ l.getD j 0
  | [], s, _, h => by
    simp only [spl, List.mem_singleton] at h
    subst h
    exact ⟨rfl, fun j => by simp⟩
  | a :: r, s, hl, h => by
    unfold spl at h
    obtain ⟨x, hx, h⟩ := List.mem_flatMap.1 h
    obtain ⟨t, ht, rfl⟩ := List.mem_map.1 h
    have ih := spl_sub r t (fun y hy => hl y (by simp [hy])) ht
    have hx2 := List.mem_range.1 hx
    have ha := hl a (by simp)
    refine ⟨by simp [ih.1], fun j => ?_⟩
    cases j with
    | zero => simp only [List.getD_cons_zero]; omega
    | succ j => simpa using ih.2 j
def TOk (n : Nat) (T : List Int) : Prop := T.length = 9 ^ n ∧ ∀ l, Val n l → okS (stOf l) = true → T.getD (keyW l).toNat 0 = 0 ∨ T.getD (keyW l).toNat 0 = (tS (stOf l) : Int) + 1
def fo (S p : St) : Nat := Dl.Fd S.1 S.2.1 S.2.2.1 S.2.2.2 p.1 p.2.1 p.2.2.1 p.2.2.2
theorem low_rest {S p : St} (hp : le4 p S) : low S (rest S p) = (p.1 + (S.2.1 - p.2.1), p.2.1 + (S.2.2.1 - p.2.2.1), p.2.2.1 + (S.2.2.2 - p.2.2.2), p.2.2.2) := by
  obtain ⟨h1, h2, h3, h4⟩ := hp
  simp only [low, rest, Prod.mk.injEq]
  omega
theorem low_self (S : St) : low S S = (S.2.1, S.2.2.1, S.2.2.2, 0) := by
  simp only [low, Prod.mk.injEq]
  omega
theorem fo_eq {S p : St} (hp : le4 p S) : fo S p = bif liv p && liv (rest S p) then (bif liv (low S p) && liv (low S (rest S p)) then Nat.succ (Dl.mn (tS (low S p)) (tS (low S (rest S p)))) else 0) else bif liv (low S S) then Nat.succ (tS (low S S)) else 0 := by
  rw [low_rest hp, low_self]
  rfl
theorem fc_eq {S p : St} (hp : le4 p S) : Dl.Fc S.1 S.2.1 S.2.2.1 S.2.2.2 p.1 p.2.1 p.2.2.1 p.2.2.2 = bif liv p && liv (rest S p) then (bif liv (low S p) && liv (low S (rest S p)) then Dl.lessd (wS S) (low S p).1 (low S p).2.1 (low S p).2.2.1 (low S p).2.2.2 && Dl.lessd (wS S) (low S (rest S p)).1 (low S (rest S p)).2.1 (low S (rest S p)).2.2.1 (low S (rest S p)).2.2.2 else true) else bif liv (low S S) then Dl.lessd (wS S) (low S S).1 (low S S).2.1 (low S S).2.2.1 (low S S).2.2.2 else true := by
  rw [low_rest hp, low_self]
  rfl
theorem fine_at {S p : St} (h : okS S = true) (hp : le4 p S) : Dl.Fc S.1 S.2.1 S.2.2.1 S.2.2.2 p.1 p.2.1 p.2.2.1 p.2.2.2 = true := by
  have hf := (one_parts h).2.1
  unfold Dl.fine at hf
  obtain ⟨h1, h2, h3, h4⟩ := hp
  have m : ∀ {x y : Nat}, x ≤ y → x ∈ Dl.rng y := fun {x y} h => List.mem_range.2 (by show x < y + 1; omega)
  exact List.all_eq_true.1 (List.all_eq_true.1 (List.all_eq_true.1 (List.all_eq_true.1 hf _ (m h1)) _ (m h2)) _ (m h3)) _ (m h4)
theorem alive_ev {n : Nat} {l : List Int} (hl : Val n l) : Ev (fun k => spec_l11Alive.f k l) (liv (stOf l)) := by
  have h := spec_l11Alive_ev l (by have := hl.1; have := hl.2.1; unfold maxLen; omega)
  rw [alive_is hl] at h
  exact h
theorem sub_val {n : Nat} {l s : List Int} (hl : Val n l) (hs : Sub l s) : Val n s := by
  refine ⟨hs.1.trans hl.1, hl.2.1, fun j => (hs.2 j).1, ?_⟩
  have h0 := hs.2 0; have h1 := hs.2 1; have h2 := hs.2 2; have h3 := hs.2 3; have := hl.2.2.2
  omega
theorem one_more {t : Nat} (ht : t ≤ 15) : wrap64 (1 + (t : Int)) = ((Nat.succ t : Nat) : Int) := by unfold wrap64; omega
theorem least_is (a b : Nat) : spec_l1Least.f (a : Int) (b : Int) = some ((Dl.mn a b : Nat) : Int) := by
  unfold spec_l1Least.f Dl.mn
  by_cases h : a ≤ b
  · rw [Nat.ble_eq.mpr h]
    show _ = some ((a : Nat) : Int)
    split
    · rfl
    · congr 1; omega
  · have h2 : Nat.ble a b = false := by rw [← Bool.not_eq_true, Nat.ble_eq]; exact h
    rw [h2, if_neg (by omega)]
    rfl
def Du (n : Nat) (l : List Int) : Prop := ∀ T, TOk n T → ∃ T', Ev (fun k => duF k l T) ((tS (stOf l) : Int), T') ∧ TOk n T'
theorem fcA_ev {n : Nat} {l T : List Int} (hl : Val n l) (hT : TOk n T) (hd : liv (low (stOf l) (stOf l)) = true → Du n (hurtW l l)) : ∃ T', Ev (fun k => fcA k l T) (((bif liv (low (stOf l) (stOf l)) then Nat.succ (tS (low (stOf l) (stOf l))) else 0 : Nat) : Int), T') ∧ TOk n T' := by
  have hs := self_sub hl
  have e1 := spec_l11Hurt_ev l l (by have := hl.1; have := hl.2.1; omega) (Nat.le_refl _)
  have e2 := alive_ev (hurt_val hl hs)
  rw [st_hurt hl hs] at e2
  cases hc : liv (low (stOf l) (stOf l)) with
  | false =>
    rw [hc] at e2
    refine ⟨T, Ev.step' (fun k => by rw [fcA]) (Ev.bind e1 (Ev.bind e2 ?_)), hT⟩
    simp only [Bool.false_eq_true, if_false]
    exact Ev.now _
  | true =>
    rw [hc] at e2
    obtain ⟨T1, e3, h1⟩ := hd hc T hT
    rw [st_hurt hl hs] at e3
    refine ⟨T1, Ev.step' (fun k => by rw [fcA]) (Ev.bind e1 (Ev.bind e2 ?_)), h1⟩
    simp only [if_true]
    refine Ev.bind e3 ?_
    simp only [one_more (tS_le _)]
    exact Ev.now _
theorem fcF_ev {n : Nat} {l s T : List Int} (hl : Val n l) (hk : okS (stOf l) = true) (hs : Sub l s) (hT : TOk n T) (ih : ∀ l', Val n l' → okS (stOf l') = true → wS (stOf l') < wS (stOf l) → Du n l') : ∃ T', Ev (fun k => fcF k l s T) ((fo (stOf l) (stOf s) : Int), T') ∧ TOk n T' := by
  have hf := fine_at hk (st_le hs)
  rw [fc_eq (st_le hs)] at hf
  rw [fo_eq (st_le hs)]
  have e1 := spec_l11Rest_ev l s (by have := hl.1; have := hl.2.1; omega) (by rw [hs.1]; exact Nat.le_refl _)
  have e2 := alive_ev (sub_val hl hs)
  have e3 := alive_ev (rest_val hl hs)
  rw [st_rest hl hs] at e3
  have hA : (liv (stOf s) && liv (rest (stOf l) (stOf s))) = false → ∃ T', Ev (fun k => fcA k l T) (((bif liv (low (stOf l) (stOf l)) then Nat.succ (tS (low (stOf l) (stOf l))) else 0 : Nat) : Int), T') ∧ TOk n T' := fun hb => by
    rw [hb] at hf
    refine fcA_ev hl hT fun hc => ?_
    rw [hc] at hf
    have hq := lessd_iff (s := low (stOf l) (stOf l)) hf
    exact ih _ (hurt_val hl (self_sub hl)) (by rw [st_hurt hl (self_sub hl)]; exact hq.1) (by rw [st_hurt hl (self_sub hl)]; exact hq.2)
  cases ha : liv (stOf s) with
  | false =>
    rw [ha] at e2 hA
    obtain ⟨T1, e4, h1⟩ := hA rfl
    refine ⟨T1, Ev.step' (fun k => by rw [fcF]) (Ev.bind e1 (Ev.bind e2 ?_)), h1⟩
    simp only [Bool.false_eq_true, if_false]
    exact e4
  | true =>
    rw [ha] at e2 hA hf
    cases hb : liv (rest (stOf l) (stOf s)) with
    | false =>
      rw [hb] at e3 hA
      obtain ⟨T1, e4, h1⟩ := hA rfl
      refine ⟨T1, Ev.step' (fun k => by rw [fcF]) (Ev.bind e1 (Ev.bind e2 ?_)), h1⟩
      simp only [if_true]
      refine Ev.bind e3 ?_
      simp only [Bool.false_eq_true, if_false]
      exact e4
    | true =>
      rw [hb] at e3 hf
      simp only [Bool.and_self, cond_true] at hf ⊢
      have e5 := spec_l11Hurt_ev l s (by have := hl.1; have := hl.2.1; omega) (by rw [hs.1]; exact Nat.le_refl _)
      have hr := rest_sub hl hs
      have e6 := spec_l11Hurt_ev l (restW l s) (by have := hl.1; have := hl.2.1; omega) (by rw [hr.1]; exact Nat.le_refl _)
      have e7 := alive_ev (hurt_val hl hs)
      have e8 := alive_ev (hurt_val hl hr)
      rw [st_hurt hl hs] at e7
      rw [st_hurt hl hr, st_rest hl hs] at e8
      cases hc : liv (low (stOf l) (stOf s)) with
      | false =>
        rw [hc] at e7
        refine ⟨T, Ev.step' (fun k => by rw [fcF]) (Ev.bind e1 (Ev.bind e2 ?_)), hT⟩
        simp only [if_true]
        refine Ev.bind e3 ?_
        simp only [if_true]
        refine Ev.bind e5 (Ev.bind e6 (Ev.bind e7 ?_))
        simp only [Bool.false_eq_true, if_false]
        exact Ev.now _
      | true =>
        rw [hc] at e7 hf
        cases hd : liv (low (stOf l) (rest (stOf l) (stOf s))) with
        | false =>
          rw [hd] at e8
          refine ⟨T, Ev.step' (fun k => by rw [fcF]) (Ev.bind e1 (Ev.bind e2 ?_)), hT⟩
          simp only [if_true]
          refine Ev.bind e3 ?_
          simp only [if_true]
          refine Ev.bind e5 (Ev.bind e6 (Ev.bind e7 ?_))
          simp only [if_true]
          refine Ev.bind e8 ?_
          simp only [Bool.false_eq_true, if_false]
          exact Ev.now _
        | true =>
          rw [hd] at e8 hf
          simp only [Bool.and_self, cond_true, Bool.and_eq_true] at hf ⊢
          have q1 := lessd_iff (s := low (stOf l) (stOf s)) hf.1
          have q2 := lessd_iff (s := low (stOf l) (rest (stOf l) (stOf s))) hf.2
          obtain ⟨T1, x1, h1⟩ := ih _ (hurt_val hl hs) (by rw [st_hurt hl hs]; exact q1.1) (by rw [st_hurt hl hs]; exact q1.2) T hT
          obtain ⟨T2, x2, h2⟩ := ih _ (hurt_val hl hr) (by rw [st_hurt hl hr, st_rest hl hs]; exact q2.1) (by rw [st_hurt hl hr, st_rest hl hs]; exact q2.2) T1 h1
          rw [st_hurt hl hs] at x1
          rw [st_hurt hl hr, st_rest hl hs] at x2
          refine ⟨T2, Ev.step' (fun k => by rw [fcF]) (Ev.bind e1 (Ev.bind e2 ?_)), h2⟩
          simp only [if_true]
          refine Ev.bind e3 ?_
          simp only [if_true]
          refine Ev.bind e5 (Ev.bind e6 (Ev.bind e7 ?_))
          simp only [if_true]
          refine Ev.bind e8 ?_
          simp only [if_true]
          refine Ev.bind x1 (Ev.bind x2 ?_)
          have hm : Dl.mn (tS (low (stOf l) (stOf s))) (tS (low (stOf l) (rest (stOf l) (stOf s)))) ≤ 15 := by
            unfold Dl.mn
            cases Nat.ble (tS (low (stOf l) (stOf s))) (tS (low (stOf l) (rest (stOf l) (stOf s)))) <;> exact tS_le _
          simp only [least_is, Option.bind_some, one_more hm]
          exact Ev.now _
theorem most_is (b x : Nat) : mostI (b : Int) (x : Int) = ((Dl.mx b x : Nat) : Int) := by
  unfold mostI Dl.mx
  by_cases h : b ≤ x
  · rw [Nat.ble_eq.mpr h]
    show _ = ((x : Nat) : Int)
    split <;> omega
  · have h2 : Nat.ble b x = false := by rw [← Bool.not_eq_true, Nat.ble_eq]; exact h
    rw [h2, if_pos (by omega)]
    rfl
theorem duL_ev {n : Nat} {l : List Int} (hl : Val n l) (hk : okS (stOf l) = true) (ih : ∀ l', Val n l' → okS (stOf l') = true → wS (stOf l') < wS (stOf l) → Du n l') (sp : List (List Int)) (hsp : ∀ s ∈ sp, Sub l s) (hlen : sp.length ≤ 6561) :
    ∀ (ss : List (List Int)) (i : Nat) (b : Nat) (T : List Int), sp.drop i = ss → i + ss.length = sp.length → TOk n T → ∃ T', Ev (fun k => duL k l sp (i : Int) (b : Int) T) (((ss.foldl (fun m s => Dl.mx m (fo (stOf l) (stOf s))) b : Nat) : Int), T') ∧ TOk n T'
  | [], i, b, T, hd, hi, hT => by
    have c : ¬ (i : Int) < (sp.length : Int) := by simp at hi; omega
    exact ⟨T, Ev.step' (f := fun _ => some ((b : Int), T)) (fun k => by simp only [duL, if_neg c]) (Ev.now _), hT⟩
  | s :: ss, i, b, T, hd, hi, hT => by
    have hi2 : i < sp.length := by simp at hi; omega
    have c : (i : Int) < (sp.length : Int) := by omega
    have c0 : 0 ≤ (i : Int) := by omega
    have hs : rd_L1 sp (i : Int) = s := by
      unfold rd_L1
      rw [Int.toNat_natCast, List.getD_eq_getElem?_getD, ← List.head?_drop, hd]
      rfl
    have hm : s ∈ sp := List.mem_of_mem_drop (hd ▸ (List.mem_cons_self : s ∈ s :: ss))
    obtain ⟨T1, e1, h1⟩ := fcF_ev hl hk (hsp s hm) hT ih
    obtain ⟨T2, e2, h2⟩ := duL_ev hl hk ih sp hsp hlen ss (i + 1) (Dl.mx b (fo (stOf l) (stOf s))) T1 (by rw [← List.drop_drop, hd]; rfl) (by simp at hi ⊢; omega) h1
    refine ⟨T2, Ev.step' (f := fun k => (fcF k l s T).bind fun xT => (spec_l1Most.f (b : Int) xT.1).bind fun b' => duL k l sp (wrap64 ((i : Int) + 1)) b' xT.2) (fun k => by simp only [duL, if_pos c, if_pos c0, hs]) (Ev.bind e1 ?_), h2⟩
    simp only [spec_l1Most_is, Option.bind_some, most_is, wrap_succ hi2 (by omega : sp.length ≤ 9223372036854775807)]
    exact e2
theorem best_is {n : Nat} {l : List Int} (hl : Val n l) (hk : okS (stOf l) = true) : (spl l).foldl (fun m s => Dl.mx m (fo (stOf l) (stOf s))) 0 = tS (stOf l) := by
  have h := (one_parts hk).1
  have hm := hl.mem
  refine Eq.trans ?_ h
  unfold Dl.best Dl.rng
  rcases key_forms hl with ⟨h, rfl⟩ | ⟨a, h, rfl, k⟩ | ⟨a, b, h, rfl, k⟩ | ⟨a, b, c, h, rfl, k⟩ | ⟨a, b, c, d, h, rfl, k⟩
  · exact absurd hk (by decide)
  · simp only [spl, List.foldl_flatMap, List.foldl_map, List.map_cons, List.map_nil, List.foldl_cons, List.foldl_nil, List.flatMap_cons, List.flatMap_nil]
    rfl
  · simp only [spl, List.foldl_flatMap, List.foldl_map, List.map_cons, List.map_nil, List.foldl_cons, List.foldl_nil, List.flatMap_cons, List.flatMap_nil]
    rfl
  · simp only [spl, List.foldl_flatMap, List.foldl_map, List.map_cons, List.map_nil, List.foldl_cons, List.foldl_nil, List.flatMap_cons, List.flatMap_nil]
    rfl
  · simp only [spl, List.foldl_flatMap, List.foldl_map, List.map_cons, List.map_nil, List.foldl_cons, List.foldl_nil, List.flatMap_cons, List.flatMap_nil]
    rfl
theorem du_ev (n : Nat) : ∀ (m : Nat) (l : List Int), wS (stOf l) < m → Val n l → okS (stOf l) = true → Du n l := by
  intro m
  induction m with
  | zero => intro l h; omega
  | succ m ihm =>
    intro l hm hl hk T hT
    have hb := key_bd hl
    have ek := spec_l11Key_ev l (by have := hl.1; have := hl.2.1; unfold maxLen; omega)
    have c0 : 0 ≤ keyW l := hb.1
    have c1 : keyW l < (T.length : Int) := by rw [hT.1]; exact hb.2
    have hr : rd T (keyW l) = T.getD (keyW l).toNat 0 := by
      have e : ((keyW l).toNat : Int) = keyW l := by omega
      rw [← rd_nat, e]
    have ht := tS_le (stOf l)
    rcases hT.2 l hl hk with h0 | h1
    · have c2 : ¬ rd T (keyW l) > 0 := by rw [hr, h0]; decide
      have es := spec_l11Splits_ev l (by have := hl.1; have := hl.2.1; omega) hl.mem l [] (by simp) rfl
      simp only [List.nil_append, List.map_id'] at es
      have hsl := spl_len l hl.mem
      have h9 : 9 ^ l.length ≤ 6561 := Nat.pow_le_pow_right (n := 9) (by decide) (by have := hl.1; have := hl.2.1; omega : l.length ≤ 4)
      obtain ⟨T1, e1, h1⟩ := duL_ev hl hk (fun l' hl' hk' hw => ihm l' (by omega) hl' hk') (spl l) (fun s hs => spl_sub l s (fun x hx => (hl.mem x hx).1) hs) (by omega) (spl l) 0 0 T rfl (by simp) hT
      rw [best_is hl hk] at e1
      have c3 : keyW l < (T1.length : Int) := by rw [h1.1]; exact hb.2
      have hw : wrap64 ((tS (stOf l) : Int) + 1) = (tS (stOf l) : Int) + 1 := wrap_id (by omega) (by omega)
      refine ⟨T1.set (keyW l).toNat ((tS (stOf l) : Int) + 1), Ev.step' (fun k => by rw [duF]) (Ev.bind ek ?_), ?_⟩
      · simp only [if_pos c0, if_pos c1, if_neg c2]
        refine Ev.bind es (Ev.bind e1 ?_)
        simp only [if_pos c3, hw]
        exact Ev.now _
      · refine ⟨by rw [List.length_set]; exact h1.1, fun l' hl' hk' => ?_⟩
        by_cases he : keyW l' = keyW l
        · obtain rfl := key_inj hl' hl he
          refine .inr ?_
          rw [List.getD_eq_getElem?_getD, List.getElem?_set_self (by omega)]
          rfl
        · have hb' := key_bd hl'
          rw [List.getD_eq_getElem?_getD, List.getElem?_set_ne (by omega), ← List.getD_eq_getElem?_getD]
          exact h1.2 l' hl' hk'
    · have c2 : rd T (keyW l) > 0 := by rw [hr, h1]; omega
      have hw : wrap64 (rd T (keyW l) - 1) = (tS (stOf l) : Int) := by rw [hr, h1, wrap_id (by omega) (by omega)]; omega
      refine ⟨T, Ev.step' (fun k => by rw [duF]) (Ev.bind ek ?_), hT⟩
      simp only [if_pos c0, if_pos c1, if_pos c2, hw]
      exact Ev.now _
theorem sumW_small {l : List Int} (h4 : l.length ≤ 4) (h : ∀ x ∈ l, 0 ≤ x ∧ x ≤ 8) : sumW l = l.getD 0 0 + l.getD 1 0 + l.getD 2 0 + l.getD 3 0 := by
  have ws : ∀ {s x : Int}, 0 ≤ s → s ≤ 100 → 0 ≤ x → x ≤ 8 → wrap64 (s + x) = s + x := fun h0 h1 h2 h3 => wrap_id (by omega) (by omega)
  match l, h4, h with
  | [], _, _ => rfl
  | [a], _, h =>
    have ha := h a (by simp)
    show wrap64 (0 + a) = a + 0 + 0 + 0
    rw [ws (by decide) (by decide) ha.1 ha.2]; omega
  | [a, b], _, h =>
    have ha := h a (by simp); have hb := h b (by simp)
    show wrap64 (wrap64 (0 + a) + b) = a + b + 0 + 0
    rw [ws (s := 0) (by decide) (by decide) ha.1 ha.2, ws (by omega) (by omega) hb.1 hb.2]; omega
  | [a, b, c], _, h =>
    have ha := h a (by simp); have hb := h b (by simp); have hc := h c (by simp)
    show wrap64 (wrap64 (wrap64 (0 + a) + b) + c) = a + b + c + 0
    rw [ws (s := 0) (by decide) (by decide) ha.1 ha.2, ws (s := 0 + a) (by omega) (by omega) hb.1 hb.2, ws (by omega) (by omega) hc.1 hc.2]; omega
  | [a, b, c, d], _, h =>
    have ha := h a (by simp); have hb := h b (by simp); have hc := h c (by simp); have hd := h d (by simp)
    show wrap64 (wrap64 (wrap64 (wrap64 (0 + a) + b) + c) + d) = a + b + c + d
    rw [ws (s := 0) (by decide) (by decide) ha.1 ha.2, ws (s := 0 + a) (by omega) (by omega) hb.1 hb.2, ws (s := 0 + a + b) (by omega) (by omega) hc.1 hc.2, ws (by omega) (by omega) hd.1 hd.2]; omega
  | a :: b :: c :: d :: e :: r, h4, _ => exact absurd h4 (by simp)
theorem lives_val {l : List Int} (h : livesB l = true) : Val l.length l ∧ okS (stOf l) = true := by
  unfold livesB at h
  simp only [Bool.and_eq_true, decide_eq_true_eq, List.all_eq_true, inR_iff] at h
  obtain ⟨h4, h8, hs⟩ := h
  rw [sumW_small h4 h8] at hs
  have h0 : ∀ j, 0 ≤ l.getD j 0 := fun j => by
    rcases Nat.lt_or_ge j l.length with hj | hj
    · exact (h8 _ (getD_mem hj 0)).1
    · rw [out0 l j hj]; decide
  refine ⟨⟨rfl, h4, h0, hs.2⟩, ?_⟩
  have a0 := h0 0; have a1 := h0 1; have a2 := h0 2; have a3 := h0 3
  unfold okS Dl.okd stOf
  simp only [Bool.and_eq_true, Nat.ble_eq, Nat.add_eq]
  omega
theorem val_good {n : Nat} {l : List Int} (hl : Val n l) (hk : okS (stOf l) = true) : goodL l = true := by
  unfold goodL
  simp only [Bool.and_eq_true, decide_eq_true_eq, List.all_eq_true]
  refine ⟨⟨⟨?_, by have := hl.1; have := hl.2.1; omega⟩, fun x hx => (hl.mem x hx).1⟩, hk⟩
  cases l with
  | nil => exact absurd hk (by decide)
  | cons a l => simp
def duelM (l : List Int) : Int × Bool := if livesB l = true then ((tS (stOf l) : Int), true) else (0, false)
theorem impl_DuelWorst_ev (l : List Int) (h : l.length ≤ maxLen) : Ev (fun k => impl_DuelWorst.f k l) (duelM l) := by
  unfold impl_DuelWorst.f duelM
  refine Ev.bind (impl_IsLives_ev l h) ?_
  cases hb : livesB l with
  | false => simp only [Bool.false_eq_true, if_false]; exact Ev.now _
  | true =>
    obtain ⟨hl, hk⟩ := lives_val hb
    simp only [if_true, if_pos (val_good hl hk)]
    exact Ev.now _
theorem spec_DuelWorst_ev (l : List Int) (h : l.length ≤ maxLen) : Ev (fun k => spec_DuelWorst.f k l) (duelM l) := by
  unfold spec_DuelWorst.f duelM
  refine Ev.bind (spec_l11Lives_ev l h) ?_
  cases hb : livesB l with
  | false => simp only [Bool.false_eq_true, if_false]; exact Ev.now _
  | true =>
    obtain ⟨hl, hk⟩ := lives_val hb
    simp only [if_true]
    refine Ev.bind (spec_l11Told_ev l hl.2.1) ?_
    have hT : TOk l.length (List.replicate (9 ^ l.length) 0) := ⟨List.length_replicate, fun l' _ _ => .inl (by
      rw [List.getD_eq_getElem?_getD, List.getElem?_replicate]
      split <;> rfl)⟩
    obtain ⟨T', e, _⟩ := du_ev l.length (wS (stOf l) + 1) l (Nat.lt_succ_self _) hl hk _ hT
    have hp : 0 < (List.replicate (9 ^ l.length) (0 : Int)).length := by rw [List.length_replicate]; exact Nat.pow_pos (by decide)
    simp only [if_pos hp]
    exact Ev.bind e (Ev.now _)
theorem pure : SFnExactDuelWorst.Pure := by
  intro l ⟨h, _⟩
  by_cases hx : l.length ≤ 1048576
  · obtain ⟨K1, k1⟩ := laws_toIntS_ev l hx
    obtain ⟨K2, k2⟩ := spec_DuelWorst_ev l h
    obtain ⟨K3, k3⟩ := impl_DuelWorst_ev l h
    obtain ⟨K4, k4⟩ := laws_eqIntS_ev l h
    let K := K1 + K2 + K3 + K4
    exact .inr ⟨K, _, _, _, k1 K (by omega), k2 K (by omega), k3 K (by omega), k4 K (by omega), by omega⟩
  · exact .inl ⟨0, by omega⟩
end Go.Proofs.Ytpknkpbellchgaa.QFnExactDuelWorst
