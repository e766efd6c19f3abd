/- FnExactIsStump: what its calls come to, shown of numbers and lists alone. -/
import Derived.Test.YtihnijfgdffhjaaSFnExactIsStump
import Derived.Test.YtihnijfgdffhjaaPm
namespace Go.Proofs.Ytihnijfgdffhjaa.QFnExactIsStump
open Go.RowKit Go.Proofs.Ytihnijfgdffhjaa.Lb Go.Proofs.Ytihnijfgdffhjaa.Pm Go.Proofs.Ytihnijfgdffhjaa.PFnExactIsStump Go.Proofs.YtihnijfgdffhjaaW.PrintWords Go.Proofs.YtihnijfgdffhjaaW.PrintLast Go.Proofs.YtihnijfgdffhjaaW.PrintMore
set_option linter.unusedVariables false
set_option linter.unusedSimpArgs false
theorem laws_szIntS_eq (l : List Int) (a : Int) (h : l.length ≤ maxLen) (h0 : 0 ≤ a) (h1 : a ≤ 1048576) : laws_szIntS.f l a = some (lft a l.length) := by
  unfold maxLen at h
  have hw : wrap64 (a - (l.length : Int)) = a - l.length := wrap_id (by omega) (by omega)
  unfold laws_szIntS.f lft
  rw [hw]
  by_cases c : (l.length : Int) ≤ a
  · rw [if_neg (by omega), if_pos c]
  · rw [if_pos (by omega), if_neg c]

theorem laws_szPlane_eq (l : List Int) (b a : Int) (h : l.length ≤ maxLen) (h0 : 0 ≤ a) (h1 : a ≤ 1048576) : laws_szPlane.f l b a = some (lft a l.length) := by
  unfold laws_szPlane.f
  rw [laws_szIntS_eq l a h h0 h1]
  simp only [Option.bind_some]
  by_cases c : lft a l.length < 0
  · rw [if_pos c, lft_neg c]
  · rw [if_neg c]

theorem spec_l1In_eq (x a b : Int) : spec_l1In.f x a b = some (inR a b x) := in_tells a b x

theorem spec_l2Numbers_ev (l : List Int) (m : Int) (h : l.length ≤ maxLen) : Ev (fun k => spec_l2Numbers.f k l m) (l.all (inR (wrap64 (-m)) m)) := by
  unfold maxLen at h
  rw [← range_all l (inR (wrap64 (-m)) m) 0]
  refine ev_all (L := fun i k => spec_l2Numbers.l0 k l m i) (fun i hi hp => To.step fun k => ?_) (fun i hi hp => Ev.step' (f := fun _ => some false) (fun k => ?_) (Ev.now _)) (Ev.step' (f := fun _ => some true) (fun k => ?_) (Ev.now _))
  · have c1 : (i : Int) < (l.length : Int) := by omega
    have c0 : 0 ≤ (i : Int) := by omega
    simp only [spec_l2Numbers.l0, if_pos c1, if_pos c0, spec_l1In_eq, rd_nat, hp, Option.bind_some, if_true, wrap_succ hi h]
  · have c1 : (i : Int) < (l.length : Int) := by omega
    have c0 : 0 ≤ (i : Int) := by omega
    simp only [spec_l2Numbers.l0, if_pos c1, if_pos c0, spec_l1In_eq, rd_nat, hp, Option.bind_some, Bool.false_eq_true, if_false]
  · simp only [spec_l2Numbers.l0, if_neg (Int.lt_irrefl _)]

theorem spec_l2Plane_ev (l : List Int) (b : Int) (h : l.length ≤ maxLen) : Ev (fun k => spec_l2Plane.f k l b) (planeB l b) := by
  have e : ∀ k, spec_l2Plane.f k l b = if inR 1 4 l.length = true then (spec_l2Numbers.f k l 99).bind (fun t => if t = true then some (inR (-99) 99 b) else some false) else some false := fun k => by
    simp only [spec_l2Plane.f, spec_l1In_eq, Option.bind_some]
  refine Ev.congr e ?_
  unfold planeB
  cases inR 1 4 l.length with
  | false => exact Ev.now _
  | true =>
    simp only [if_true, Bool.true_and]
    refine Ev.bind (spec_l2Numbers_ev l 99 h) ?_
    rw [show wrap64 (-99) = -99 from wrap_id (by omega) (by omega)]
    cases l.all (inR (-99) 99) with
    | false => exact Ev.now _
    | true => exact Ev.now _

theorem spec_l8Stump_ev (w : List Int) (b : Int) (h : w.length ≤ maxLen) : Ev (fun k => spec_l8Stump.f k w b) (stumpM (fun s => planeB w b && s == 1) w 0) := by
  have h' : w.length ≤ 9223372036854775807 := h
  refine ev_list 0 w (fun i s k => spec_l8Stump.l0 k s i w b) (fun _ ys s => stumpM (fun s => planeB w b && s == 1) ys s) (fun _ _ => True) (fun s _ => ?_) (fun i x ys s hi hx _ _ ih => ?_) 0 trivial
  · refine Ev.step' (f := fun k => (spec_l2Plane.f k w b).bind fun t => if t = true then some (s == 1) else some false) (fun k => by simp only [spec_l8Stump.l0, if_neg (Int.lt_irrefl _)]) ?_
    refine Ev.bind (spec_l2Plane_ev w b h) ?_
    simp only [stumpM]
    cases planeB w b <;> exact Ev.now _
  · have c1 : (i : Int) < (w.length : Int) := by omega
    have c3 : 0 ≤ (i : Int) := by omega
    simp only [stumpM]
    by_cases e1 : x = 1
    · rw [if_pos e1]
      refine Ev.step' (f := fun k => spec_l8Stump.j1 k s i true w b) (fun k => by simp only [spec_l8Stump.l0, if_pos c1, if_pos c3, rd_nat, hx, if_pos e1]) ?_
      exact Ev.step' (fun k => by simp only [spec_l8Stump.j1, if_true, wrap_succ hi h']) (ih _ trivial)
    · rw [if_neg e1]
      refine Ev.step' (f := fun k => spec_l8Stump.j1 k s i (x == (-1)) w b) (fun k => by simp only [spec_l8Stump.l0, if_pos c1, if_pos c3, rd_nat, hx, if_neg e1]) ?_
      by_cases e2 : x = -1
      · rw [if_pos e2, e2]
        exact Ev.step' (fun k => by simp only [spec_l8Stump.j1, beq_self_eq_true, if_true, wrap_succ hi h']) (ih _ trivial)
      · rw [if_neg e2]
        have e3 : (x == (-1)) = false := beq_eq_false_iff_ne.2 e2
        rw [e3]
        by_cases e4 : x = 0
        · rw [if_pos e4]
          exact Ev.step' (fun k => by simp only [spec_l8Stump.j1, Bool.false_eq_true, if_false, if_pos c1, if_pos c3, rd_nat, hx, if_pos e4, wrap_succ hi h']) (ih _ trivial)
        · rw [if_neg e4]
          exact Ev.step' (f := fun _ => some false) (fun k => by simp only [spec_l8Stump.j1, Bool.false_eq_true, if_false, if_pos c1, if_pos c3, rd_nat, hx, if_neg e4]) (Ev.now _)

theorem spec_IsStump_ev (w : List Int) (b : Int) (h : w.length ≤ maxLen) : Ev (fun k => spec_IsStump.f k w b) (planeB w b && dotW w w == 1) := Ev.bind (ev_eq (spec_l8Stump_ev w b h) (stumpM_eq w b)) (Ev.now _)

theorem laws_toIntS_ev (l : List Int) (h : l.length ≤ 1048576) : Ev (fun k => laws_toIntS.f k l) l := by
  have hw : wrap64 (l.length : Int) = l.length := wrap_id (by omega) (by omega)
  have c0 : 0 ≤ (l.length : Int) := by omega
  have e : ∀ k, laws_toIntS.f k l = laws_toIntS.l0 k l (List.replicate l.length 0) 0 := fun k => by
    simp only [laws_toIntS.f, if_pos c0, Int.toNat_natCast]; rw [if_pos (by omega)]
  refine Ev.congr e ?_
  have hf := to_fold (L := fun i (s : List Int) k => laws_toIntS.l0 k l s i) (n := l.length) (f := fun i s => s.set i (l.getD i 0)) (fun i s => s = l.take i ++ List.replicate (l.length - i) 0) (fun i s hi hs => ⟨To.step fun k => ?_, ?_⟩) (List.replicate l.length 0) (by simp)
  · refine hf.1 _ (Ev.step' (f := fun _ => some l) (fun k => ?_) (Ev.now _))
    have := hf.2
    rw [Nat.sub_self, List.take_length, List.replicate_zero, List.append_nil] at this
    show laws_toIntS.l0 (k + 1) l _ _ = _
    rw [this]
    simp only [laws_toIntS.l0, if_neg (Int.lt_irrefl _)]
  · have c1 : (i : Int) < (l.length : Int) := by omega
    have c2 : (i : Int) < (s.length : Int) := by rw [hs, List.length_append, List.length_take, List.length_replicate]; omega
    have c3 : 0 ≤ (i : Int) := by omega
    simp only [laws_toIntS.l0, if_pos c1, if_pos c2, if_pos c3, rd_nat, Int.toNat_natCast, wrap_succ hi (by omega : l.length ≤ 9223372036854775807)]
  · show List.set s i _ = _
    rw [hs]; exact set_step l 0 0 i hi

theorem laws_toPlane_ev (l : List Int) (b : Int) (h : l.length ≤ 1048576) : Ev (fun k => laws_toPlane.f k l b) (l, b) := Ev.bind (laws_toIntS_ev l h) (Ev.now _)

theorem impl_within_eq (x a b : Int) : impl_within.f x a b = some (inR a b x) := in_tells a b x

theorem impl_allWithin_ev (l : List Int) (a b : Int) (h : l.length ≤ maxLen) : Ev (fun k => impl_allWithin.f k l a b) (l.all (inR a b)) := by
  unfold maxLen at h
  rw [← range_all l (inR a b) 0]
  refine ev_all (L := fun i k => impl_allWithin.l0 k a b l (l.length : Int) i) (fun i hi hp => To.step fun k => ?_) (fun i hi hp => Ev.step' (f := fun _ => some false) (fun k => ?_) (Ev.now _)) (Ev.step' (f := fun _ => some true) (fun k => ?_) (Ev.now _))
  · have c1 : (i : Int) < (l.length : Int) := by omega
    have c0 : 0 ≤ (i : Int) := by omega
    simp only [impl_allWithin.l0, if_pos c1, if_pos c0, impl_within_eq, rd_nat, hp, Option.bind_some, if_true, wrap_succ hi h]
  · have c1 : (i : Int) < (l.length : Int) := by omega
    have c0 : 0 ≤ (i : Int) := by omega
    simp only [impl_allWithin.l0, if_pos c1, if_pos c0, impl_within_eq, rd_nat, hp, Option.bind_some, Bool.false_eq_true, if_false]
  · simp only [impl_allWithin.l0, if_neg (Int.lt_irrefl _)]

theorem impl_IsPlane_ev (l : List Int) (b : Int) (h : l.length ≤ maxLen) : Ev (fun k => impl_IsPlane.f k l b) (planeB l b) := by
  have e : ∀ k, impl_IsPlane.f k l b = if inR 1 4 l.length = true then (impl_allWithin.f k l (-99) 99).bind (fun t => if t = true then some (inR (-99) 99 b) else some false) else some false := fun k => by
    simp only [impl_IsPlane.f, impl_within_eq, Option.bind_some]
  refine Ev.congr e ?_
  unfold planeB
  cases inR 1 4 l.length with
  | false => exact Ev.now _
  | true =>
    simp only [if_true, Bool.true_and]
    refine Ev.bind (impl_allWithin_ev l (-99) 99 h) ?_
    cases l.all (inR (-99) 99) with
    | false => exact Ev.now _
    | true => exact Ev.now _

theorem impl_product_ev (a b : List Int) (h : a.length ≤ maxLen) (hb : a.length ≤ b.length) : Ev (fun k => impl_product.f k a b) (dotW a b) := by
  unfold maxLen at h
  have hf := to_fold (L := fun i (s : Int) k => impl_product.l0 k b s a (a.length : Int) i) (n := a.length) (f := fun i s => wrap64 (s + wrap64 (a.getD i 0 * b.getD i 0))) (fun _ _ => True) (fun i s hi _ => ⟨To.step fun k => ?_, trivial⟩) 0 trivial
  · refine hf.1 _ (Ev.step' (f := fun _ => some _) (fun k => ?_) (Ev.now _))
    simp only [impl_product.l0, if_neg (Int.lt_irrefl _)]; rfl
  · have c1 : (i : Int) < (a.length : Int) := by omega
    have c2 : (i : Int) < (b.length : Int) := by omega
    have c3 : 0 ≤ (i : Int) := by omega
    simp only [impl_product.l0, if_pos c1, if_pos c2, if_pos c3, rd_nat, wrap_succ hi h]

theorem impl_IsStump_ev (w : List Int) (b : Int) (h : w.length ≤ maxLen) : Ev (fun k => impl_IsStump.f k w b) (planeB w b && dotW w w == 1) := by
  refine Ev.bind (impl_IsPlane_ev w b h) ?_
  cases planeB w b with
  | false => exact Ev.now _
  | true =>
    simp only [if_true, Bool.true_and]
    exact Ev.bind (impl_product_ev w w h (Nat.le_refl _)) (Ev.now _)

theorem laws_eqIntS_ev (l : List Int) (h : l.length ≤ maxLen) : Ev (fun k => laws_eqIntS.f k l l) true := by
  unfold maxLen at h
  refine Ev.congr (f := fun k => laws_eqIntS.l0 k l l 0) (fun k => by simp only [laws_eqIntS.f, if_true]) ?_
  refine ev_yes (L := fun i k => laws_eqIntS.l0 k l l i) (n := l.length) (fun i hi => To.step fun k => ?_) (Ev.step' (f := fun _ => some true) (fun k => ?_) (Ev.now _))
  · have c1 : (i : Int) < (l.length : Int) := by omega
    have c0 : 0 ≤ (i : Int) := by omega
    simp only [laws_eqIntS.l0, if_pos c1, if_pos c0, if_true, wrap_succ hi h]
  · simp only [laws_eqIntS.l0, if_neg (Int.lt_irrefl _)]

theorem laws_eqPlane_ev (l : List Int) (b : Int) (h : l.length ≤ maxLen) : Ev (fun k => laws_eqPlane.f k l b l b) true := Ev.bind (laws_eqIntS_ev l h) (Ev.congr (f := fun _ => some true) (fun k => by simp only [if_true]) (Ev.now _))

theorem pure : SFnExactIsStump.Pure := by
  intro w b ⟨hw, _⟩ _
  have e1 := laws_szPlane_eq w b 1048576 hw (by omega) (by omega)
  by_cases c : lft 1048576 w.length < 0
  · exact .inl ⟨0, _, e1, c⟩
  · have hl := (lft_nonneg (Int.not_lt.1 c)).1
    obtain ⟨K1, h1⟩ := laws_toPlane_ev w b (by omega)
    obtain ⟨K2, h2⟩ := spec_IsStump_ev w b hw
    obtain ⟨K3, h3⟩ := impl_IsStump_ev w b hw
    obtain ⟨K4, h4⟩ := laws_eqPlane_ev w b hw
    exact .inr ⟨K1 + K2 + K3 + K4, _, _, _, _, e1, h1 _ (by omega), h2 _ (by omega), h3 _ (by omega), h4 _ (by omega), Int.not_lt.1 c⟩
end Go.Proofs.Ytihnijfgdffhjaa.QFnExactIsStump
