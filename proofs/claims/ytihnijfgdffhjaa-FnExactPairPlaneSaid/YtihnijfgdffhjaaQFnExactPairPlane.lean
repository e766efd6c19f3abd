/- FnExactPairPlane: what its calls come to, shown of numbers and lists alone. -/
import Derived.Test.YtihnijfgdffhjaaSFnExactPairPlane
import Derived.Test.YtihnijfgdffhjaaPm
namespace Go.Proofs.Ytihnijfgdffhjaa.QFnExactPairPlane
open Go.RowKit  Go.Proofs.Ytihnijfgdffhjaa.Lb Go.Proofs.Ytihnijfgdffhjaa.Pm Go.Proofs.Ytihnijfgdffhjaa.PFnExactPairPlane Go.Proofs.YtihnijfgdffhjaaW.PrintWords Go.Proofs.YtihnijfgdffhjaaW.PrintLast Go.Proofs.YtihnijfgdffhjaaW.PrintMore
set_option linter.unusedVariables false
set_option linter.unusedSimpArgs false
theorem laws_toIntS_ev (l : List Int) (h : l.length ≤ 1048576) : Ev (fun k => laws_toIntS.f k l) l := by
  have hw : wrap64 (l.length : Int) = l.length := wrap_id (by omega) (by omega)
  have c0 : 0 ≤ (l.length : Int) := by omega
  have e : ∀ k, laws_toIntS.f k l = laws_toIntS.l0 k l (List.replicate l.length 0) 0 := fun k => by
    simp only [laws_toIntS.f, if_pos c0, Int.toNat_natCast]; rw [if_pos (by omega)]
  refine Ev.congr e ?_
  have hf := to_fold (L := fun i (s : List Int) k => laws_toIntS.l0 k l s i) (n := l.length) (f := fun i s => s.set i (l.getD i 0)) (fun i s => s = l.take i ++ List.replicate (l.length - i) 0) (fun i s hi hs => ⟨To.step fun k => ?_, ?_⟩) (List.replicate l.length 0) (by simp)
  · refine hf.1 _ (Ev.step' (f := fun _ => some l) (fun k => ?_) (Ev.now _))
    have := hf.2
    rw [Nat.sub_self, List.take_length, List.replicate_zero, List.append_nil] at this
    show laws_toIntS.l0 (k + 1) l _ _ = _
    rw [this]
    simp only [laws_toIntS.l0, if_neg (Int.lt_irrefl _)]
  · have c1 : (i : Int) < (l.length : Int) := by omega
    have c2 : (i : Int) < (s.length : Int) := by rw [hs, List.length_append, List.length_take, List.length_replicate]; omega
    have c3 : 0 ≤ (i : Int) := by omega
    simp only [laws_toIntS.l0, if_pos c1, if_pos c2, if_pos c3, rd_nat, Int.toNat_natCast, wrap_succ hi (by omega : l.length ≤ 9223372036854775807)]
  · show List.set s i _ = _
    rw [hs]; exact set_step l 0 0 i hi

theorem laws_eqIntS_ev (l : List Int) (h : l.length ≤ maxLen) : Ev (fun k => laws_eqIntS.f k l l) true := by
  unfold maxLen at h
  refine Ev.congr (f := fun k => laws_eqIntS.l0 k l l 0) (fun k => by simp only [laws_eqIntS.f, if_true]) ?_
  refine ev_yes (L := fun i k => laws_eqIntS.l0 k l l i) (n := l.length) (fun i hi => To.step fun k => ?_) (Ev.step' (f := fun _ => some true) (fun k => ?_) (Ev.now _))
  · have c1 : (i : Int) < (l.length : Int) := by omega
    have c0 : 0 ≤ (i : Int) := by omega
    simp only [laws_eqIntS.l0, if_pos c1, if_pos c0, if_true, wrap_succ hi h]
  · simp only [laws_eqIntS.l0, if_neg (Int.lt_irrefl _)]

theorem laws_eqPlane_ev (l : List Int) (b : Int) (h : l.length ≤ maxLen) : Ev (fun k => laws_eqPlane.f k l b l b) true := Ev.bind (laws_eqIntS_ev l h) (Ev.congr (f := fun _ => some true) (fun k => by simp only [if_true]) (Ev.now _))

theorem spec_l1In_eq (x a b : Int) : spec_l1In.f x a b = some (inR a b x) := in_tells a b x

theorem spec_l2Numbers_ev (l : List Int) (m : Int) (h : l.length ≤ maxLen) : Ev (fun k => spec_l2Numbers.f k l m) (l.all (inR (wrap64 (-m)) m)) := by
  unfold maxLen at h
  rw [← range_all l (inR (wrap64 (-m)) m) 0]
  refine ev_all (L := fun i k => spec_l2Numbers.l0 k l m i) (fun i hi hp => To.step fun k => ?_) (fun i hi hp => Ev.step' (f := fun _ => some false) (fun k => ?_) (Ev.now _)) (Ev.step' (f := fun _ => some true) (fun k => ?_) (Ev.now _))
  · have c1 : (i : Int) < (l.length : Int) := by omega
    have c0 : 0 ≤ (i : Int) := by omega
    simp only [spec_l2Numbers.l0, if_pos c1, if_pos c0, spec_l1In_eq, rd_nat, hp, Option.bind_some, if_true, wrap_succ hi h]
  · have c1 : (i : Int) < (l.length : Int) := by omega
    have c0 : 0 ≤ (i : Int) := by omega
    simp only [spec_l2Numbers.l0, if_pos c1, if_pos c0, spec_l1In_eq, rd_nat, hp, Option.bind_some, Bool.false_eq_true, if_false]
  · simp only [spec_l2Numbers.l0, if_neg (Int.lt_irrefl _)]

theorem spec_l2Point_ev (l : List Int) (h : l.length ≤ maxLen) : Ev (fun k => spec_l2Point.f k l) (pointB l) := by
  have e : ∀ k, spec_l2Point.f k l = if inR 1 4 l.length = true then (spec_l2Numbers.f k l 9).bind (fun t => some t) else some false := fun k => by simp only [spec_l2Point.f, spec_l1In_eq, Option.bind_some]
  refine Ev.congr e ?_
  unfold pointB
  cases inR 1 4 l.length with
  | false => exact Ev.now _
  | true =>
    simp only [if_true, Bool.true_and]
    refine Ev.bind (spec_l2Numbers_ev l 9 h) ?_
    rw [show wrap64 (-9) = -9 from wrap_id (by omega) (by omega)]
    exact Ev.now _

def sameB (x y : List Int) : Bool := (List.range x.length).all fun i => x.getD i 0 == y.getD i 0
theorem spec_l1Same_ev (x y : List Int) (h : x.length ≤ maxLen) (hl : x.length = y.length) : Ev (fun k => spec_l1Same.f k x y) (sameB x y) := by
  have h' : x.length ≤ 9223372036854775807 := h
  refine Ev.congr (f := fun k => spec_l1Same.l0 k x y 0) (fun k => by simp only [spec_l1Same.f, if_pos (show (x.length : Int) = (y.length : Int) by omega)]) ?_
  refine ev_all (L := fun i k => spec_l1Same.l0 k x y i) (n := x.length) (p := fun i => x.getD i 0 == y.getD i 0) (fun i hi hp => To.step fun k => ?_) (fun i hi hp => ?_) (Ev.step' (f := fun _ => some true) (fun k => by simp only [spec_l1Same.l0, if_neg (Int.lt_irrefl _)]) (Ev.now _))
  · have c1 : (i : Int) < (x.length : Int) := by omega
    have c0 : 0 ≤ (i : Int) := by omega
    have c2 : (i : Int) < (y.length : Int) := by omega
    simp only [spec_l1Same.l0, if_pos c1, if_pos c0, if_pos c2, rd_nat, if_pos (beq_iff_eq.1 hp), wrap_succ hi h']
  · have c1 : (i : Int) < (x.length : Int) := by omega
    have c0 : 0 ≤ (i : Int) := by omega
    have c2 : (i : Int) < (y.length : Int) := by omega
    exact Ev.step' (f := fun _ => some false) (fun k => by simp only [spec_l1Same.l0, if_pos c1, if_pos c0, if_pos c2, rd_nat, if_neg (beq_eq_false_iff_ne.1 hp)]) (Ev.now _)

theorem spec_l2Dot_ev (a b : List Int) (h : a.length ≤ maxLen) (hb : a.length ≤ b.length) : Ev (fun k => spec_l2Dot.f k a b) (dotW a b) := by
  unfold maxLen at h
  have hf := to_fold (L := fun i (s : Int) k => spec_l2Dot.l0 k a b s i) (n := a.length) (f := fun i s => wrap64 (s + wrap64 (a.getD i 0 * b.getD i 0))) (fun _ _ => True) (fun i s hi _ => ⟨To.step fun k => ?_, trivial⟩) 0 trivial
  · refine hf.1 _ (Ev.step' (f := fun _ => some _) (fun k => ?_) (Ev.now _))
    simp only [spec_l2Dot.l0, if_neg (Int.lt_irrefl _)]; rfl
  · have c1 : (i : Int) < (a.length : Int) := by omega
    have c2 : (i : Int) < (b.length : Int) := by omega
    have c3 : 0 ≤ (i : Int) := by omega
    simp only [spec_l2Dot.l0, if_pos c1, if_pos c2, if_pos c3, rd_nat, wrap_succ hi h]

theorem spec_l2Plane_ev (l : List Int) (b : Int) (h : l.length ≤ maxLen) : Ev (fun k => spec_l2Plane.f k l b) (planeB l b) := by
  have e : ∀ k, spec_l2Plane.f k l b = if inR 1 4 l.length = true then (spec_l2Numbers.f k l 99).bind (fun t => if t = true then some (inR (-99) 99 b) else some false) else some false := fun k => by
    simp only [spec_l2Plane.f, spec_l1In_eq, Option.bind_some]
  refine Ev.congr e ?_
  unfold planeB
  cases inR 1 4 l.length with
  | false => exact Ev.now _
  | true =>
    simp only [if_true, Bool.true_and]
    refine Ev.bind (spec_l2Numbers_ev l 99 h) ?_
    rw [show wrap64 (-99) = -99 from wrap_id (by omega) (by omega)]
    cases l.all (inR (-99) 99) with
    | false => exact Ev.now _
    | true => exact Ev.now _

def keptM (l : List Int) (b : Int) : List Int × Int × Bool := if planeB l b = true then (l, b, true) else ([], 0, false)
theorem spec_l2KeptPlane_ev (l : List Int) (b : Int) (h : l.length ≤ maxLen) : Ev (fun k => spec_l2KeptPlane.f k l b) (keptM l b) := by
  refine Ev.bind (spec_l2Plane_ev l b h) ?_
  unfold keptM
  cases planeB l b with
  | false => simp only [Bool.false_eq_true, if_false]; exact Ev.now _
  | true => simp only [if_true]; exact Ev.now _

def pairW (x y : List Int) : List Int := (List.range x.length).map fun i => wrap64 (2 * (wrap64 (x.getD i 0 - y.getD i 0)))
def pairM (x y : List Int) : List Int × Int × Bool := if (pointB x && (pointB y && (decide (x.length = y.length) && !sameB x y))) = true then keptM (pairW x y) (wrap64 (dotW x x - dotW y y)) else ([], 0, false)
theorem spec_PairPlane_go (x y : List Int) (hx : x.length ≤ 4) (hl : x.length = y.length) : Ev (fun k => spec_PairPlane.j0 k x y false) (keptM (pairW x y) (wrap64 (dotW x x - dotW y y))) := by
  refine Ev.step' (f := fun k => (spec_l2Dot.f k x x).bind fun t => (spec_l2Dot.f k y y).bind fun u => spec_PairPlane.l0 k x y 0 [] (wrap64 (t - u))) (fun k => by simp only [spec_PairPlane.j0, Bool.false_eq_true, if_false]) ?_
  refine Ev.bind (spec_l2Dot_ev x x (by unfold maxLen; omega) (Nat.le_refl _)) (Ev.bind (spec_l2Dot_ev y y (by unfold maxLen; omega) (Nat.le_refl _)) ?_)
  have hf := to_fold (L := fun i (s : List Int) k => spec_PairPlane.l0 k x y i s (wrap64 (dotW x x - dotW y y))) (n := x.length) (f := fun i s => s ++ [wrap64 (2 * (wrap64 (x.getD i 0 - y.getD i 0)))]) (fun i s => s.length = i) (fun i s hi hs => ⟨To.step fun k => by
    have c1 : (i : Int) < (x.length : Int) := by omega
    have c0 : 0 ≤ (i : Int) := by omega
    have c2 : (i : Int) < (y.length : Int) := by omega
    have c3 : s.length < 17592186044416 := by omega
    simp only [spec_PairPlane.l0, if_pos c1, if_pos c0, if_pos c2, if_pos c3, rd_nat, wrap_succ hi (by omega : x.length ≤ 9223372036854775807)], by simp [hs]⟩) [] rfl
  refine hf.1 _ ?_
  rw [fold_append, List.nil_append]
  have hw : (pairW x y).length ≤ maxLen := by unfold pairW maxLen; rw [List.length_map, List.length_range]; omega
  refine Ev.step' (f := fun k => (spec_l2KeptPlane.f k (pairW x y) (wrap64 (dotW x x - dotW y y))).bind fun b => some (b.1, b.2.1, b.2.2)) (fun k => by simp only [spec_PairPlane.l0, if_neg (Int.lt_irrefl _)] <;> rfl) (Ev.bind (spec_l2KeptPlane_ev _ _ hw) (Ev.now _))
theorem spec_PairPlane_ev (x y : List Int) (hx : x.length ≤ maxLen) (hy : y.length ≤ maxLen) : Ev (fun k => spec_PairPlane.f k x y) (pairM x y) := by
  have no : Ev (fun k => spec_PairPlane.j0 k x y true) ([], 0, false) := Ev.step' (f := fun _ => some ([], 0, false)) (fun k => by simp only [spec_PairPlane.j0, if_true]) (Ev.now _)
  refine Ev.bind (spec_l2Point_ev x hx) ?_
  unfold pairM
  cases hp : pointB x with
  | false => simp only [Bool.false_and, Bool.false_eq_true, if_false]; exact no
  | true =>
    have hl4 := point_len hp
    simp only [Bool.true_and, if_true]
    refine Ev.bind (spec_l2Point_ev y hy) ?_
    cases pointB y with
    | false => simp only [Bool.false_and, Bool.false_eq_true, if_false]; exact no
    | true =>
      simp only [Bool.true_and, if_true]
      by_cases c : x.length = y.length
      · simp only [if_pos (show (x.length : Int) = (y.length : Int) by omega), decide_eq_true c, Bool.true_and]
        refine Ev.bind (spec_l1Same_ev x y hx c) ?_
        cases sameB x y with
        | true => simp only [Bool.not_true, Bool.false_eq_true, if_false]; exact no
        | false => simp only [Bool.not_false, if_true]; exact spec_PairPlane_go x y hl4.2 c
      · simp only [if_neg (show ¬ (x.length : Int) = (y.length : Int) by omega), decide_eq_false c, Bool.false_and, Bool.false_eq_true, if_false]
        exact no

theorem impl_within_eq (x a b : Int) : impl_within.f x a b = some (inR a b x) := in_tells a b x

theorem impl_allWithin_ev (l : List Int) (a b : Int) (h : l.length ≤ maxLen) : Ev (fun k => impl_allWithin.f k l a b) (l.all (inR a b)) := by
  unfold maxLen at h
  rw [← range_all l (inR a b) 0]
  refine ev_all (L := fun i k => impl_allWithin.l0 k a b l (l.length : Int) i) (fun i hi hp => To.step fun k => ?_) (fun i hi hp => Ev.step' (f := fun _ => some false) (fun k => ?_) (Ev.now _)) (Ev.step' (f := fun _ => some true) (fun k => ?_) (Ev.now _))
  · have c1 : (i : Int) < (l.length : Int) := by omega
    have c0 : 0 ≤ (i : Int) := by omega
    simp only [impl_allWithin.l0, if_pos c1, if_pos c0, impl_within_eq, rd_nat, hp, Option.bind_some, if_true, wrap_succ hi h]
  · have c1 : (i : Int) < (l.length : Int) := by omega
    have c0 : 0 ≤ (i : Int) := by omega
    simp only [impl_allWithin.l0, if_pos c1, if_pos c0, impl_within_eq, rd_nat, hp, Option.bind_some, Bool.false_eq_true, if_false]
  · simp only [impl_allWithin.l0, if_neg (Int.lt_irrefl _)]

theorem impl_IsPoint_ev (l : List Int) (h : l.length ≤ maxLen) : Ev (fun k => impl_IsPoint.f k l) (pointB l) := by
  have e : ∀ k, impl_IsPoint.f k l = if inR 1 4 l.length = true then (impl_allWithin.f k l (-9) 9).bind (fun t => some t) else some false := fun k => by simp only [impl_IsPoint.f, impl_within_eq, Option.bind_some]
  refine Ev.congr e ?_
  unfold pointB
  cases inR 1 4 l.length with
  | false => exact Ev.now _
  | true =>
    simp only [if_true, Bool.true_and]
    exact Ev.bind (impl_allWithin_ev l (-9) 9 h) (Ev.now _)

theorem impl_IsPlane_ev (l : List Int) (b : Int) (h : l.length ≤ maxLen) : Ev (fun k => impl_IsPlane.f k l b) (planeB l b) := by
  have e : ∀ k, impl_IsPlane.f k l b = if inR 1 4 l.length = true then (impl_allWithin.f k l (-99) 99).bind (fun t => if t = true then some (inR (-99) 99 b) else some false) else some false := fun k => by
    simp only [impl_IsPlane.f, impl_within_eq, Option.bind_some]
  refine Ev.congr e ?_
  unfold planeB
  cases inR 1 4 l.length with
  | false => exact Ev.now _
  | true =>
    simp only [if_true, Bool.true_and]
    refine Ev.bind (impl_allWithin_ev l (-99) 99 h) ?_
    cases l.all (inR (-99) 99) with
    | false => exact Ev.now _
    | true => exact Ev.now _

theorem impl_product_ev (a b : List Int) (h : a.length ≤ maxLen) (hb : a.length ≤ b.length) : Ev (fun k => impl_product.f k a b) (dotW a b) := by
  unfold maxLen at h
  have hf := to_fold (L := fun i (s : Int) k => impl_product.l0 k b s a (a.length : Int) i) (n := a.length) (f := fun i s => wrap64 (s + wrap64 (a.getD i 0 * b.getD i 0))) (fun _ _ => True) (fun i s hi _ => ⟨To.step fun k => ?_, trivial⟩) 0 trivial
  · refine hf.1 _ (Ev.step' (f := fun _ => some _) (fun k => ?_) (Ev.now _))
    simp only [impl_product.l0, if_neg (Int.lt_irrefl _)]; rfl
  · have c1 : (i : Int) < (a.length : Int) := by omega
    have c2 : (i : Int) < (b.length : Int) := by omega
    have c3 : 0 ≤ (i : Int) := by omega
    simp only [impl_product.l0, if_pos c1, if_pos c2, if_pos c3, rd_nat, wrap_succ hi h]

theorem slices_Equal_int_int_ev (x y : List Int) (h : x.length ≤ maxLen) (hl : x.length = y.length) : Ev (fun k => slices_Equal_int_int.f k x y) (sameB x y) := by
  have h' : x.length ≤ 9223372036854775807 := h
  refine Ev.congr (f := fun k => slices_Equal_int_int.l0 k x y (x.length : Int) 0) (fun k => by simp only [slices_Equal_int_int.f, if_pos (show (x.length : Int) = (y.length : Int) by omega)]) ?_
  refine ev_all (L := fun i k => slices_Equal_int_int.l0 k x y (x.length : Int) i) (n := x.length) (p := fun i => x.getD i 0 == y.getD i 0) (fun i hi hp => To.step fun k => ?_) (fun i hi hp => ?_) (Ev.step' (f := fun _ => some true) (fun k => by simp only [slices_Equal_int_int.l0, if_neg (Int.lt_irrefl _)]) (Ev.now _))
  · have c1 : (i : Int) < (x.length : Int) := by omega
    have c0 : 0 ≤ (i : Int) := by omega
    have c2 : (i : Int) < (y.length : Int) := by omega
    simp only [slices_Equal_int_int.l0, if_pos c1, if_pos c0, if_pos c2, rd_nat, if_pos (beq_iff_eq.1 hp), wrap_succ hi h']
  · have c1 : (i : Int) < (x.length : Int) := by omega
    have c0 : 0 ≤ (i : Int) := by omega
    have c2 : (i : Int) < (y.length : Int) := by omega
    exact Ev.step' (f := fun _ => some false) (fun k => by simp only [slices_Equal_int_int.l0, if_pos c1, if_pos c0, if_pos c2, rd_nat, if_neg (beq_eq_false_iff_ne.1 hp)]) (Ev.now _)

theorem impl_PairPlane_go (x y : List Int) (hx : x.length ≤ 4) (hl : x.length = y.length) : Ev (fun k => impl_PairPlane.j0 k x y false) (keptM (pairW x y) (wrap64 (dotW x x - dotW y y))) := by
  refine Ev.step' (f := fun k => (impl_product.f k x x).bind fun t => (impl_product.f k y y).bind fun u => impl_PairPlane.l0 k y x (x.length : Int) 0 [] (wrap64 (t - u))) (fun k => by simp only [impl_PairPlane.j0, Bool.false_eq_true, if_false]) ?_
  refine Ev.bind (impl_product_ev x x (by unfold maxLen; omega) (Nat.le_refl _)) (Ev.bind (impl_product_ev y y (by unfold maxLen; omega) (Nat.le_refl _)) ?_)
  have hf := to_fold (L := fun i (s : List Int) k => impl_PairPlane.l0 k y x (x.length : Int) i s (wrap64 (dotW x x - dotW y y))) (n := x.length) (f := fun i s => s ++ [wrap64 (2 * (wrap64 (x.getD i 0 - y.getD i 0)))]) (fun i s => s.length = i) (fun i s hi hs => ⟨To.step fun k => by
    have c1 : (i : Int) < (x.length : Int) := by omega
    have c0 : 0 ≤ (i : Int) := by omega
    have c2 : (i : Int) < (y.length : Int) := by omega
    have c3 : s.length < 17592186044416 := by omega
    simp only [impl_PairPlane.l0, if_pos c1, if_pos c0, if_pos c2, if_pos c3, rd_nat, wrap_succ hi (by omega : x.length ≤ 9223372036854775807)], by simp [hs]⟩) [] rfl
  refine hf.1 _ ?_
  rw [fold_append, List.nil_append]
  have hw : (pairW x y).length ≤ maxLen := by unfold pairW maxLen; rw [List.length_map, List.length_range]; omega
  refine Ev.step' (f := fun k => (impl_IsPlane.f k (pairW x y) (wrap64 (dotW x x - dotW y y))).bind fun t => if t = true then some (pairW x y, wrap64 (dotW x x - dotW y y), true) else some ([], 0, false)) (fun k => by simp only [impl_PairPlane.l0, if_neg (Int.lt_irrefl _)] <;> rfl) (Ev.bind (impl_IsPlane_ev _ _ hw) ?_)
  unfold keptM
  cases planeB (pairW x y) (wrap64 (dotW x x - dotW y y)) with
  | false => simp only [Bool.false_eq_true, if_false]; exact Ev.now _
  | true => simp only [if_true]; exact Ev.now _
theorem impl_PairPlane_ev (x y : List Int) (hx : x.length ≤ maxLen) (hy : y.length ≤ maxLen) : Ev (fun k => impl_PairPlane.f k x y) (pairM x y) := by
  have no : Ev (fun k => impl_PairPlane.j0 k x y true) ([], 0, false) := Ev.step' (f := fun _ => some ([], 0, false)) (fun k => by simp only [impl_PairPlane.j0, if_true]) (Ev.now _)
  refine Ev.bind (impl_IsPoint_ev x hx) ?_
  unfold pairM
  cases hp : pointB x with
  | false => simp only [Bool.false_and, Bool.false_eq_true, if_false]; exact no
  | true =>
    have hl4 := point_len hp
    simp only [Bool.true_and, if_true]
    refine Ev.bind (impl_IsPoint_ev y hy) ?_
    cases pointB y with
    | false => simp only [Bool.false_and, Bool.false_eq_true, if_false]; exact no
    | true =>
      simp only [Bool.true_and, if_true]
      by_cases c : x.length = y.length
      · simp only [if_pos (show (x.length : Int) = (y.length : Int) by omega), decide_eq_true c, Bool.true_and]
        refine Ev.bind (slices_Equal_int_int_ev x y hx c) ?_
        cases sameB x y with
        | true => simp only [Bool.not_true, Bool.false_eq_true, if_false]; exact no
        | false => simp only [Bool.not_false, if_true]; exact impl_PairPlane_go x y hl4.2 c
      · simp only [if_neg (show ¬ (x.length : Int) = (y.length : Int) by omega), decide_eq_false c, Bool.false_and, Bool.false_eq_true, if_false]
        exact no

theorem laws_markIntS_ev (l : List Int) (a : Int) (h0 : 0 ≤ a) (h1 : a + l.length ≤ 1000000000000) : Ev (fun k => laws_markIntS.f k l a) (a + l.length, iota a l) := by
  have e := ev_mark (0 : Int) (fun _ => 1) (fun a _ => a) l 1000000000000 (L := fun ys a i k => laws_markIntS.l0 k ys a i) (fun ys a i x hi hl hx hm ha hb => To.step fun k => by
    have c1 : (i : Int) < (ys.length : Int) := by omega
    have c3 : 0 ≤ (i : Int) := by omega
    have e : wrap64 (a + 1) = a + ((1 : Nat) : Int) := wrap_id (by omega) (by simpa using (by omega : a + 1 ≤ 9223372036854775807))
    simp only [laws_markIntS.l0, if_pos c1, if_pos c3, Int.toNat_natCast, wrap_succ (i := i) (n := ys.length) (by omega) (by omega), e]) (fun ys a hl => Ev.step' (f := fun _ => some (a, ys)) (fun k => by
    simp only [laws_markIntS.l0, hl, if_neg (Int.lt_irrefl _)]) (Ev.now _)) a h0 (by rw [sumN_one]; exact h1)
  rw [sumN_one] at e
  exact e

theorem laws_markPlane_ev (l : List Int) (b a : Int) (h0 : 0 ≤ a) (h1 : a + l.length ≤ 1000000000000) : Ev (fun k => laws_markPlane.f k l b a) (a + l.length, iota a l) := Ev.bind (laws_markIntS_ev l a h0 h1) (Ev.now _)

theorem laws_heldIntS_ev (l : List Int) (a : Int) (h0 : 0 ≤ a) (h1 : a + l.length ≤ 1000000000000) : Ev (fun k => laws_heldIntS.f k (iota a l) a) (a + l.length) := by
  have e := ev_held (0 : Int) (fun _ => 1) (fun a _ => a) l 1000000000000 (L := fun b i k => laws_heldIntS.l0 k (iota a l) b i) a (fun b i x hi hx hm ha hb => To.step fun k => by
    have c1 : (i : Int) < ((iota a l).length : Int) := by rw [iota_len]; omega
    have c3 : 0 ≤ (i : Int) := by omega
    have c4 : (iota a l).getD i 0 = b := hx
    have e : wrap64 (b + 1) = b + ((1 : Nat) : Int) := wrap_id (by omega) (by simpa using (by omega : b + 1 ≤ 9223372036854775807))
    simp only [laws_heldIntS.l0, if_pos c1, if_pos c3, rd_nat, if_pos c4, wrap_succ (i := i) (n := l.length) hi (by omega), e]) (fun b => Ev.step' (f := fun _ => some b) (fun k => by
    simp only [laws_heldIntS.l0, iota_len, if_neg (Int.lt_irrefl _)]) (Ev.now _)) h0 (by rw [sumN_one]; exact h1)
  rw [sumN_one] at e
  exact e

theorem laws_heldPlane_ev (l : List Int) (b a : Int) (h0 : 0 ≤ a) (h1 : a + l.length ≤ 1000000000000) : Ev (fun k => laws_heldPlane.f k (iota a l) b a) (a + l.length) := by
  refine Ev.bind (laws_heldIntS_ev l a h0 h1) ?_
  simp only [if_neg (show ¬ a + (l.length : Int) < 0 by omega)]
  exact Ev.now _

theorem pure : SFnExactPairPlane.Pure := by
  intro x y ⟨hx, _⟩ ⟨hy, _⟩
  by_cases q1 : x.length ≤ 1048576
  · by_cases q2 : y.length ≤ 1048576
    · have hu : (pairM x y).1.length ≤ 1048576 := by
        unfold pairM keptM
        repeat split
        all_goals first | (simp only [pairW, List.length_map, List.length_range]; omega) | simp
      obtain ⟨K1, k1⟩ := laws_toIntS_ev x q1
      obtain ⟨K2, k2⟩ := laws_toIntS_ev y q2
      obtain ⟨K3, k3⟩ := spec_PairPlane_ev x y hx hy
      obtain ⟨K4, k4⟩ := impl_PairPlane_ev x y hx hy
      obtain ⟨K5, k5⟩ := laws_eqPlane_ev (pairM x y).1 (pairM x y).2.1 (by unfold maxLen; omega)
      obtain ⟨K6, k6⟩ := laws_eqIntS_ev x hx
      obtain ⟨K7, k7⟩ := laws_eqIntS_ev y hy
      obtain ⟨K8, k8⟩ := laws_markIntS_ev x 1 (by omega) (by omega)
      obtain ⟨K9, k9⟩ := laws_markIntS_ev y (1 + x.length) (by omega) (by omega)
      obtain ⟨K10, k10⟩ := laws_markPlane_ev (pairM x y).1 (pairM x y).2.1 1 (by omega) (by omega)
      obtain ⟨K11, k11⟩ := laws_heldPlane_ev (pairM x y).1 (pairM x y).2.1 1 (by omega) (by omega)
      let K := K1 + K2 + K3 + K4 + K5 + K6 + K7 + K8 + K9 + K10 + K11
      exact .inr (.inr ⟨K, _, _, (pairM x y).1, (pairM x y).2.1, (pairM x y).2.2, _, _, _, _, _, _, k1 K (by omega), k2 K (by omega), k3 K (by omega), k4 K (by omega), k5 K (by omega), k6 K (by omega), k7 K (by omega), k8 K (by omega), k9 K (by omega), k10 K (by omega), k11 K (by omega), q1, q2, by omega, by omega, by omega⟩)
    · exact .inr (.inl ⟨0, q1, by omega⟩)
  · exact .inl ⟨0, by omega⟩
end Go.Proofs.Ytihnijfgdffhjaa.QFnExactPairPlane
