/- FnExactKernelOf: what its calls come to, shown of numbers and lists alone. -/
import Derived.Test.YtihnijfgdffhjaaSFnExactKernelOf
import Derived.Test.YtihnijfgdffhjaaPm
namespace Go.Proofs.Ytihnijfgdffhjaa.QFnExactKernelOf
open Go.RowKit Go.Proofs.Ytihnijfgdffhjaa.Lb Go.Proofs.Ytihnijfgdffhjaa.Pm Go.Proofs.Ytihnijfgdffhjaa.PFnExactKernelOf Go.Proofs.YtihnijfgdffhjaaW.PrintWords Go.Proofs.YtihnijfgdffhjaaW.PrintLast Go.Proofs.YtihnijfgdffhjaaW.PrintMore
set_option linter.unusedVariables false
set_option linter.unusedSimpArgs false
theorem laws_toIntS_ev (l : List Int) (h : l.length ≤ 1048576) : Ev (fun k => laws_toIntS.f k l) l := by
  have hw : wrap64 (l.length : Int) = l.length := wrap_id (by omega) (by omega)
  have c0 : 0 ≤ (l.length : Int) := by omega
  have e : ∀ k, laws_toIntS.f k l = laws_toIntS.l0 k l (List.replicate l.length 0) 0 := fun k => by
    simp only [laws_toIntS.f, if_pos c0, Int.toNat_natCast]; rw [if_pos (by omega)]
  refine Ev.congr e ?_
  have hf := to_fold (L := fun i (s : List Int) k => laws_toIntS.l0 k l s i) (n := l.length) (f := fun i s => s.set i (l.getD i 0)) (fun i s => s = l.take i ++ List.replicate (l.length - i) 0) (fun i s hi hs => ⟨To.step fun k => ?_, ?_⟩) (List.replicate l.length 0) (by simp)
  · refine hf.1 _ (Ev.step' (f := fun _ => some l) (fun k => ?_) (Ev.now _))
    have := hf.2
    rw [Nat.sub_self, List.take_length, List.replicate_zero, List.append_nil] at this
    show laws_toIntS.l0 (k + 1) l _ _ = _
    rw [this]
    simp only [laws_toIntS.l0, if_neg (Int.lt_irrefl _)]
  · have c1 : (i : Int) < (l.length : Int) := by omega
    have c2 : (i : Int) < (s.length : Int) := by rw [hs, List.length_append, List.length_take, List.length_replicate]; omega
    have c3 : 0 ≤ (i : Int) := by omega
    simp only [laws_toIntS.l0, if_pos c1, if_pos c2, if_pos c3, rd_nat, Int.toNat_natCast, wrap_succ hi (by omega : l.length ≤ 9223372036854775807)]
  · show List.set s i _ = _
    rw [hs]; exact set_step l 0 0 i hi

theorem laws_eqIntS_ev (l : List Int) (h : l.length ≤ maxLen) : Ev (fun k => laws_eqIntS.f k l l) true := by
  unfold maxLen at h
  refine Ev.congr (f := fun k => laws_eqIntS.l0 k l l 0) (fun k => by simp only [laws_eqIntS.f, if_true]) ?_
  refine ev_yes (L := fun i k => laws_eqIntS.l0 k l l i) (n := l.length) (fun i hi => To.step fun k => ?_) (Ev.step' (f := fun _ => some true) (fun k => ?_) (Ev.now _))
  · have c1 : (i : Int) < (l.length : Int) := by omega
    have c0 : 0 ≤ (i : Int) := by omega
    simp only [laws_eqIntS.l0, if_pos c1, if_pos c0, if_true, wrap_succ hi h]
  · simp only [laws_eqIntS.l0, if_neg (Int.lt_irrefl _)]

theorem spec_l1In_eq (x a b : Int) : spec_l1In.f x a b = some (inR a b x) := in_tells a b x

theorem spec_l2Numbers_ev (l : List Int) (m : Int) (h : l.length ≤ maxLen) : Ev (fun k => spec_l2Numbers.f k l m) (l.all (inR (wrap64 (-m)) m)) := by
  unfold maxLen at h
  rw [← range_all l (inR (wrap64 (-m)) m) 0]
  refine ev_all (L := fun i k => spec_l2Numbers.l0 k l m i) (fun i hi hp => To.step fun k => ?_) (fun i hi hp => Ev.step' (f := fun _ => some false) (fun k => ?_) (Ev.now _)) (Ev.step' (f := fun _ => some true) (fun k => ?_) (Ev.now _))
  · have c1 : (i : Int) < (l.length : Int) := by omega
    have c0 : 0 ≤ (i : Int) := by omega
    simp only [spec_l2Numbers.l0, if_pos c1, if_pos c0, spec_l1In_eq, rd_nat, hp, Option.bind_some, if_true, wrap_succ hi h]
  · have c1 : (i : Int) < (l.length : Int) := by omega
    have c0 : 0 ≤ (i : Int) := by omega
    simp only [spec_l2Numbers.l0, if_pos c1, if_pos c0, spec_l1In_eq, rd_nat, hp, Option.bind_some, Bool.false_eq_true, if_false]
  · simp only [spec_l2Numbers.l0, if_neg (Int.lt_irrefl _)]

theorem spec_l2Point_ev (l : List Int) (h : l.length ≤ maxLen) : Ev (fun k => spec_l2Point.f k l) (pointB l) := by
  have e : ∀ k, spec_l2Point.f k l = if inR 1 4 l.length = true then (spec_l2Numbers.f k l 9).bind (fun t => some t) else some false := fun k => by simp only [spec_l2Point.f, spec_l1In_eq, Option.bind_some]
  refine Ev.congr e ?_
  unfold pointB
  cases inR 1 4 l.length with
  | false => exact Ev.now _
  | true =>
    simp only [if_true, Bool.true_and]
    refine Ev.bind (spec_l2Numbers_ev l 9 h) ?_
    rw [show wrap64 (-9) = -9 from wrap_id (by omega) (by omega)]
    exact Ev.now _

theorem spec_l10Degree_eq (e : Int) : spec_l10Degree.f e = some (inR 1 3 e) := by unfold spec_l10Degree.f; rw [spec_l1In_eq]; rfl

theorem spec_l2Dot_ev (a b : List Int) (h : a.length ≤ maxLen) (hb : a.length ≤ b.length) : Ev (fun k => spec_l2Dot.f k a b) (dotW a b) := by
  unfold maxLen at h
  have hf := to_fold (L := fun i (s : Int) k => spec_l2Dot.l0 k a b s i) (n := a.length) (f := fun i s => wrap64 (s + wrap64 (a.getD i 0 * b.getD i 0))) (fun _ _ => True) (fun i s hi _ => ⟨To.step fun k => ?_, trivial⟩) 0 trivial
  · refine hf.1 _ (Ev.step' (f := fun _ => some _) (fun k => ?_) (Ev.now _))
    simp only [spec_l2Dot.l0, if_neg (Int.lt_irrefl _)]; rfl
  · have c1 : (i : Int) < (a.length : Int) := by omega
    have c2 : (i : Int) < (b.length : Int) := by omega
    have c3 : 0 ≤ (i : Int) := by omega
    simp only [spec_l2Dot.l0, if_pos c1, if_pos c2, if_pos c3, rd_nat, wrap_succ hi h]

theorem spec_l10Kernel_ev (a b : List Int) (e : Int) (h : a.length ≤ maxLen) (hb : a.length ≤ b.length) (he : inR 1 3 e = true) : Ev (fun k => spec_l10Kernel.f k a b e) (kernelW a b e) := by
  have he := (inR_iff _ _ _).1 he
  obtain ⟨n, rfl⟩ := Int.eq_ofNat_of_zero_le (show 0 ≤ e by omega)
  refine Ev.bind (spec_l2Dot_ev a b h hb) ?_
  unfold kernelW
  rw [Int.toNat_natCast]
  refine ev_range n (fun i s k => spec_l10Kernel.l0 k n (wrap64 (dotW a b + 1)) s i) (fun _ d s => powW (wrap64 (dotW a b + 1)) d s) (fun _ _ => True) (fun s _ => ?_) (fun i d s hi _ _ ih => ?_) 1 trivial
  · exact Ev.step' (f := fun _ => some s) (fun k => by simp only [spec_l10Kernel.l0, if_neg (Int.lt_irrefl _)]) (Ev.now _)
  · exact Ev.step' (fun k => by simp only [spec_l10Kernel.l0, if_pos (show (i : Int) < (n : Int) by omega), wrap_succ hi (show n ≤ 9223372036854775807 by omega)]) (ih _ trivial)

theorem spec_KernelOf_ev (x y : List Int) (e : Int) (hx : x.length ≤ maxLen) (hy : y.length ≤ maxLen) : Ev (fun k => spec_KernelOf.f k x y e) (kernelOfM x y e) := by
  unfold kernelOfM
  refine Ev.bind (spec_l2Point_ev x hx) ?_
  cases pointB x with
  | false => exact Ev.now _
  | true =>
    simp only [if_true, Bool.true_and]
    refine Ev.bind (spec_l2Point_ev y hy) ?_
    cases pointB y with
    | false => exact Ev.now _
    | true =>
      simp only [if_true, Bool.true_and]
      by_cases c : x.length = y.length
      · simp only [if_pos (show (x.length : Int) = (y.length : Int) by omega), decide_eq_true c, Bool.true_and, spec_l10Degree_eq, Option.bind_some]
        cases hq : inR 1 3 e with
        | false => exact Ev.now _
        | true =>
          simp only [if_true]
          exact Ev.bind (spec_l10Kernel_ev x y e hx (by omega) hq) (Ev.now _)
      · simp only [if_neg (show ¬ (x.length : Int) = (y.length : Int) by omega), decide_eq_false c, Bool.false_and, Bool.false_eq_true, if_false]
        exact Ev.now _

theorem impl_within_eq (x a b : Int) : impl_within.f x a b = some (inR a b x) := in_tells a b x

theorem impl_allWithin_ev (l : List Int) (a b : Int) (h : l.length ≤ maxLen) : Ev (fun k => impl_allWithin.f k l a b) (l.all (inR a b)) := by
  unfold maxLen at h
  rw [← range_all l (inR a b) 0]
  refine ev_all (L := fun i k => impl_allWithin.l0 k a b l (l.length : Int) i) (fun i hi hp => To.step fun k => ?_) (fun i hi hp => Ev.step' (f := fun _ => some false) (fun k => ?_) (Ev.now _)) (Ev.step' (f := fun _ => some true) (fun k => ?_) (Ev.now _))
  · have c1 : (i : Int) < (l.length : Int) := by omega
    have c0 : 0 ≤ (i : Int) := by omega
    simp only [impl_allWithin.l0, if_pos c1, if_pos c0, impl_within_eq, rd_nat, hp, Option.bind_some, if_true, wrap_succ hi h]
  · have c1 : (i : Int) < (l.length : Int) := by omega
    have c0 : 0 ≤ (i : Int) := by omega
    simp only [impl_allWithin.l0, if_pos c1, if_pos c0, impl_within_eq, rd_nat, hp, Option.bind_some, Bool.false_eq_true, if_false]
  · simp only [impl_allWithin.l0, if_neg (Int.lt_irrefl _)]

theorem impl_IsPoint_ev (l : List Int) (h : l.length ≤ maxLen) : Ev (fun k => impl_IsPoint.f k l) (pointB l) := by
  have e : ∀ k, impl_IsPoint.f k l = if inR 1 4 l.length = true then (impl_allWithin.f k l (-9) 9).bind (fun t => some t) else some false := fun k => by simp only [impl_IsPoint.f, impl_within_eq, Option.bind_some]
  refine Ev.congr e ?_
  unfold pointB
  cases inR 1 4 l.length with
  | false => exact Ev.now _
  | true =>
    simp only [if_true, Bool.true_and]
    exact Ev.bind (impl_allWithin_ev l (-9) 9 h) (Ev.now _)

theorem impl_isDegree_eq (e : Int) : impl_isDegree.f e = some (inR 1 3 e) := by unfold impl_isDegree.f; rw [impl_within_eq]; rfl

theorem impl_product_ev (a b : List Int) (h : a.length ≤ maxLen) (hb : a.length ≤ b.length) : Ev (fun k => impl_product.f k a b) (dotW a b) := by
  unfold maxLen at h
  have hf := to_fold (L := fun i (s : Int) k => impl_product.l0 k b s a (a.length : Int) i) (n := a.length) (f := fun i s => wrap64 (s + wrap64 (a.getD i 0 * b.getD i 0))) (fun _ _ => True) (fun i s hi _ => ⟨To.step fun k => ?_, trivial⟩) 0 trivial
  · refine hf.1 _ (Ev.step' (f := fun _ => some _) (fun k => ?_) (Ev.now _))
    simp only [impl_product.l0, if_neg (Int.lt_irrefl _)]; rfl
  · have c1 : (i : Int) < (a.length : Int) := by omega
    have c2 : (i : Int) < (b.length : Int) := by omega
    have c3 : 0 ≤ (i : Int) := by omega
    simp only [impl_product.l0, if_pos c1, if_pos c2, if_pos c3, rd_nat, wrap_succ hi h]

theorem impl_kernel_ev (a b : List Int) (e : Int) (h : a.length ≤ maxLen) (hb : a.length ≤ b.length) (he : inR 1 3 e = true) : Ev (fun k => impl_kernel.f k a b e) (kernelW a b e) := by
  have he := (inR_iff _ _ _).1 he
  obtain ⟨n, rfl⟩ := Int.eq_ofNat_of_zero_le (show 0 ≤ e by omega)
  unfold kernelW
  rw [Int.toNat_natCast]
  refine ev_range n (fun i s k => impl_kernel.l0 k a b s n i) (fun _ d s => powW (wrap64 (dotW a b + 1)) d s) (fun _ _ => True) (fun s _ => ?_) (fun i d s hi _ _ ih => ?_) 1 trivial
  · exact Ev.step' (f := fun _ => some s) (fun k => by simp only [impl_kernel.l0, if_neg (Int.lt_irrefl _)]) (Ev.now _)
  · refine Ev.step' (fun k => by simp only [impl_kernel.l0, if_pos (show (i : Int) < (n : Int) by omega), wrap_succ hi (show n ≤ 9223372036854775807 by omega)]; rfl) ?_
    exact Ev.bind (impl_product_ev a b h hb) (ih _ trivial)

theorem impl_KernelOf_ev (x y : List Int) (e : Int) (hx : x.length ≤ maxLen) (hy : y.length ≤ maxLen) : Ev (fun k => impl_KernelOf.f k x y e) (kernelOfM x y e) := by
  unfold kernelOfM
  refine Ev.bind (impl_IsPoint_ev x hx) ?_
  cases pointB x with
  | false => exact Ev.now _
  | true =>
    simp only [if_true, Bool.true_and]
    refine Ev.bind (impl_IsPoint_ev y hy) ?_
    cases pointB y with
    | false => exact Ev.now _
    | true =>
      simp only [if_true, Bool.true_and]
      by_cases c : x.length = y.length
      · simp only [if_pos (show (x.length : Int) = (y.length : Int) by omega), decide_eq_true c, Bool.true_and, impl_isDegree_eq, Option.bind_some]
        cases hq : inR 1 3 e with
        | false => exact Ev.now _
        | true =>
          simp only [if_true]
          exact Ev.bind (impl_kernel_ev x y e hx (by omega) hq) (Ev.now _)
      · simp only [if_neg (show ¬ (x.length : Int) = (y.length : Int) by omega), decide_eq_false c, Bool.false_and, Bool.false_eq_true, if_false]
        exact Ev.now _

theorem pure : SFnExactKernelOf.Pure := by
  intro x y e ⟨h, _⟩ ⟨h2, _⟩ _
  by_cases hx : x.length ≤ 1048576
  · by_cases hy : y.length ≤ 1048576
    · obtain ⟨K1, k1⟩ := laws_toIntS_ev x hx
      obtain ⟨K2, k2⟩ := laws_toIntS_ev y hy
      obtain ⟨K3, k3⟩ := spec_KernelOf_ev x y e h h2
      obtain ⟨K4, k4⟩ := impl_KernelOf_ev x y e h h2
      obtain ⟨K5, k5⟩ := laws_eqIntS_ev x h
      obtain ⟨K6, k6⟩ := laws_eqIntS_ev y h2
      let K := K1 + K2 + K3 + K4 + K5 + K6
      exact .inr (.inr ⟨K, _, _, _, _, k1 K (by omega), k2 K (by omega), k3 K (by omega), k4 K (by omega), k5 K (by omega), k6 K (by omega), hx, hy⟩)
    · exact .inr (.inl ⟨0, hx, by omega⟩)
  · exact .inl ⟨0, by omega⟩
end Go.Proofs.Ytihnijfgdffhjaa.QFnExactKernelOf
