/- FnExactChoiceSide: what its calls come to, shown of numbers and lists alone. -/
import Derived.Test.YtihnijfgdffhjaaSFnExactChoiceSide
import Derived.Test.YtihnijfgdffhjaaPm
namespace Go.Proofs.Ytihnijfgdffhjaa.QFnExactChoiceSide
open Go.RowKit Go.Proofs.Ytihnijfgdffhjaa.Lb Go.Proofs.Ytihnijfgdffhjaa.Pm Go.Proofs.Ytihnijfgdffhjaa.PFnExactChoiceSide Go.Proofs.YtihnijfgdffhjaaW.PrintWords Go.Proofs.YtihnijfgdffhjaaW.PrintLast Go.Proofs.YtihnijfgdffhjaaW.PrintMore
set_option linter.unusedVariables false
set_option linter.unusedSimpArgs false
theorem laws_toIntS_ev (l : List Int) (h : l.length ≤ 1048576) : Ev (fun k => laws_toIntS.f k l) l := by
  have hw : wrap64 (l.length : Int) = l.length := wrap_id (by omega) (by omega)
  have c0 : 0 ≤ (l.length : Int) := by omega
  have e : ∀ k, laws_toIntS.f k l = laws_toIntS.l0 k l (List.replicate l.length 0) 0 := fun k => by
    simp only [laws_toIntS.f, if_pos c0, Int.toNat_natCast]; rw [if_pos (by omega)]
  refine Ev.congr e ?_
  have hf := to_fold (L := fun i (s : List Int) k => laws_toIntS.l0 k l s i) (n := l.length) (f := fun i s => s.set i (l.getD i 0)) (fun i s => s = l.take i ++ List.replicate (l.length - i) 0) (fun i s hi hs => ⟨To.step fun k => ?_, ?_⟩) (List.replicate l.length 0) (by simp)
  · refine hf.1 _ (Ev.step' (f := fun _ => some l) (fun k => ?_) (Ev.now _))
    have := hf.2
    rw [Nat.sub_self, List.take_length, List.replicate_zero, List.append_nil] at this
    show laws_toIntS.l0 (k + 1) l _ _ = _
    rw [this]
    simp only [laws_toIntS.l0, if_neg (Int.lt_irrefl _)]
  · have c1 : (i : Int) < (l.length : Int) := by omega
    have c2 : (i : Int) < (s.length : Int) := by rw [hs, List.length_append, List.length_take, List.length_replicate]; omega
    have c3 : 0 ≤ (i : Int) := by omega
    simp only [laws_toIntS.l0, if_pos c1, if_pos c2, if_pos c3, rd_nat, Int.toNat_natCast, wrap_succ hi (by omega : l.length ≤ 9223372036854775807)]
  · show List.set s i _ = _
    rw [hs]; exact set_step l 0 0 i hi

theorem laws_eqIntS_ev (l : List Int) (h : l.length ≤ maxLen) : Ev (fun k => laws_eqIntS.f k l l) true := by
  unfold maxLen at h
  refine Ev.congr (f := fun k => laws_eqIntS.l0 k l l 0) (fun k => by simp only [laws_eqIntS.f, if_true]) ?_
  refine ev_yes (L := fun i k => laws_eqIntS.l0 k l l i) (n := l.length) (fun i hi => To.step fun k => ?_) (Ev.step' (f := fun _ => some true) (fun k => ?_) (Ev.now _))
  · have c1 : (i : Int) < (l.length : Int) := by omega
    have c0 : 0 ≤ (i : Int) := by omega
    simp only [laws_eqIntS.l0, if_pos c1, if_pos c0, if_true, wrap_succ hi h]
  · simp only [laws_eqIntS.l0, if_neg (Int.lt_irrefl _)]

theorem laws_szIntS_eq (l : List Int) (a : Int) (h : l.length ≤ maxLen) (h0 : 0 ≤ a) (h1 : a ≤ 1048576) : laws_szIntS.f l a = some (lft a l.length) := by
  unfold maxLen at h
  have hw : wrap64 (a - (l.length : Int)) = a - l.length := wrap_id (by omega) (by omega)
  unfold laws_szIntS.f lft
  rw [hw]
  by_cases c : (l.length : Int) ≤ a
  · rw [if_neg (by omega), if_pos c]
  · rw [if_pos (by omega), if_neg c]

theorem laws_szPlane_eq (l : List Int) (b a : Int) (h : l.length ≤ maxLen) (h0 : 0 ≤ a) (h1 : a ≤ 1048576) : laws_szPlane.f l b a = some (lft a l.length) := by
  unfold laws_szPlane.f
  rw [laws_szIntS_eq l a h h0 h1]
  simp only [Option.bind_some]
  by_cases c : lft a l.length < 0
  · rw [if_pos c, lft_neg c]
  · rw [if_neg c]

theorem laws_toPlane_ev (l : List Int) (b : Int) (h : l.length ≤ 1048576) : Ev (fun k => laws_toPlane.f k l b) (l, b) := Ev.bind (laws_toIntS_ev l h) (Ev.now _)

theorem laws_eqPlane_ev (l : List Int) (b : Int) (h : l.length ≤ maxLen) : Ev (fun k => laws_eqPlane.f k l b l b) true := Ev.bind (laws_eqIntS_ev l h) (Ev.congr (f := fun _ => some true) (fun k => by simp only [if_true]) (Ev.now _))

theorem spec_l1In_eq (x a b : Int) : spec_l1In.f x a b = some (inR a b x) := in_tells a b x

theorem spec_l2Numbers_ev (l : List Int) (m : Int) (h : l.length ≤ maxLen) : Ev (fun k => spec_l2Numbers.f k l m) (l.all (inR (wrap64 (-m)) m)) := by
  unfold maxLen at h
  rw [← range_all l (inR (wrap64 (-m)) m) 0]
  refine ev_all (L := fun i k => spec_l2Numbers.l0 k l m i) (fun i hi hp => To.step fun k => ?_) (fun i hi hp => Ev.step' (f := fun _ => some false) (fun k => ?_) (Ev.now _)) (Ev.step' (f := fun _ => some true) (fun k => ?_) (Ev.now _))
  · have c1 : (i : Int) < (l.length : Int) := by omega
    have c0 : 0 ≤ (i : Int) := by omega
    simp only [spec_l2Numbers.l0, if_pos c1, if_pos c0, spec_l1In_eq, rd_nat, hp, Option.bind_some, if_true, wrap_succ hi h]
  · have c1 : (i : Int) < (l.length : Int) := by omega
    have c0 : 0 ≤ (i : Int) := by omega
    simp only [spec_l2Numbers.l0, if_pos c1, if_pos c0, spec_l1In_eq, rd_nat, hp, Option.bind_some, Bool.false_eq_true, if_false]
  · simp only [spec_l2Numbers.l0, if_neg (Int.lt_irrefl _)]

theorem spec_l2Point_ev (l : List Int) (h : l.length ≤ maxLen) : Ev (fun k => spec_l2Point.f k l) (pointB l) := by
  have e : ∀ k, spec_l2Point.f k l = if inR 1 4 l.length = true then (spec_l2Numbers.f k l 9).bind (fun t => some t) else some false := fun k => by simp only [spec_l2Point.f, spec_l1In_eq, Option.bind_some]
  refine Ev.congr e ?_
  unfold pointB
  cases inR 1 4 l.length with
  | false => exact Ev.now _
  | true =>
    simp only [if_true, Bool.true_and]
    refine Ev.bind (spec_l2Numbers_ev l 9 h) ?_
    rw [show wrap64 (-9) = -9 from wrap_id (by omega) (by omega)]
    exact Ev.now _

theorem spec_l2Plane_ev (l : List Int) (b : Int) (h : l.length ≤ maxLen) : Ev (fun k => spec_l2Plane.f k l b) (planeB l b) := by
  have e : ∀ k, spec_l2Plane.f k l b = if inR 1 4 l.length = true then (spec_l2Numbers.f k l 99).bind (fun t => if t = true then some (inR (-99) 99 b) else some false) else some false := fun k => by
    simp only [spec_l2Plane.f, spec_l1In_eq, Option.bind_some]
  refine Ev.congr e ?_
  unfold planeB
  cases inR 1 4 l.length with
  | false => exact Ev.now _
  | true =>
    simp only [if_true, Bool.true_and]
    refine Ev.bind (spec_l2Numbers_ev l 99 h) ?_
    rw [show wrap64 (-99) = -99 from wrap_id (by omega) (by omega)]
    cases l.all (inR (-99) 99) with
    | false => exact Ev.now _
    | true => exact Ev.now _

theorem spec_l2One_ev (w : List Int) (b : Int) (x : List Int) (hw : w.length ≤ maxLen) (hx : x.length ≤ maxLen) : Ev (fun k => spec_l2One.f k w b x) (meetsB w b x) := by
  refine Ev.bind (spec_l2Plane_ev w b hw) ?_
  unfold meetsB
  cases planeB w b with
  | false => exact Ev.now _
  | true =>
    simp only [if_true, Bool.true_and]
    refine Ev.bind (spec_l2Point_ev x hx) ?_
    cases pointB x <;> exact Ev.now _

theorem spec_l2Dot_ev (a b : List Int) (h : a.length ≤ maxLen) (hb : a.length ≤ b.length) : Ev (fun k => spec_l2Dot.f k a b) (dotW a b) := by
  unfold maxLen at h
  have hf := to_fold (L := fun i (s : Int) k => spec_l2Dot.l0 k a b s i) (n := a.length) (f := fun i s => wrap64 (s + wrap64 (a.getD i 0 * b.getD i 0))) (fun _ _ => True) (fun i s hi _ => ⟨To.step fun k => ?_, trivial⟩) 0 trivial
  · refine hf.1 _ (Ev.step' (f := fun _ => some _) (fun k => ?_) (Ev.now _))
    simp only [spec_l2Dot.l0, if_neg (Int.lt_irrefl _)]; rfl
  · have c1 : (i : Int) < (a.length : Int) := by omega
    have c2 : (i : Int) < (b.length : Int) := by omega
    have c3 : 0 ≤ (i : Int) := by omega
    simp only [spec_l2Dot.l0, if_pos c1, if_pos c2, if_pos c3, rd_nat, wrap_succ hi h]

theorem spec_l2Side_ev (w : List Int) (b : Int) (x : List Int) (hw : w.length ≤ maxLen) (hx : w.length ≤ x.length) : Ev (fun k => spec_l2Side.f k w b x) (sideW w b x) := by
  refine Ev.bind (spec_l2Dot_ev w x hw hx) ?_
  unfold sideW
  by_cases c : dotW w x ≥ b
  · simp only [if_pos c]; exact Ev.now _
  · simp only [if_neg c]; exact Ev.now _

theorem spec_l8Choice_ev (r : List Int) (rb : Int) (l : List Int) (lb : Int) (g : List Int) (gb : Int) (x : List Int) (h0 : r.length ≤ maxLen) (h1 : l.length ≤ maxLen) (h2 : g.length ≤ maxLen) (e0 : r.length ≤ x.length) (e1 : l.length ≤ x.length) (e2 : g.length ≤ x.length) :
    Ev (fun k => spec_l8Choice.f k r rb l lb g gb x) (if sideW r rb x = 1 then sideW g gb x else sideW l lb x) := by
  refine Ev.bind (spec_l2Side_ev r rb x h0 e0) ?_
  by_cases c : sideW r rb x = 1
  · simp only [if_pos c]; exact Ev.bind (spec_l2Side_ev g gb x h2 e2) (Ev.now _)
  · simp only [if_neg c]; exact Ev.bind (spec_l2Side_ev l lb x h1 e1) (Ev.now _)

theorem spec_ChoiceSide_ev (r : List Int) (rb : Int) (l : List Int) (lb : Int) (g : List Int) (gb : Int) (x : List Int) (h0 : r.length ≤ maxLen) (h1 : l.length ≤ maxLen) (h2 : g.length ≤ maxLen) (h3 : x.length ≤ maxLen) :
    Ev (fun k => spec_ChoiceSide.f k r rb l lb g gb x) (choiceM r rb l lb g gb x) := by
  unfold choiceM
  refine Ev.bind (spec_l2One_ev r rb x h0 h3) ?_
  cases c0 : meetsB r rb x with
  | false => exact Ev.now _
  | true =>
    simp only [if_true, Bool.true_and]
    refine Ev.bind (spec_l2One_ev l lb x h1 h3) ?_
    cases c1 : meetsB l lb x with
    | false => exact Ev.now _
    | true =>
      simp only [if_true, Bool.true_and]
      refine Ev.bind (spec_l2One_ev g gb x h2 h3) ?_
      cases c2 : meetsB g gb x with
      | false => exact Ev.now _
      | true =>
        simp only [if_true]
        exact Ev.bind (spec_l8Choice_ev r rb l lb g gb x h0 h1 h2 (meets_len c0) (meets_len c1) (meets_len c2)) (Ev.now _)

theorem impl_within_eq (x a b : Int) : impl_within.f x a b = some (inR a b x) := in_tells a b x

theorem impl_allWithin_ev (l : List Int) (a b : Int) (h : l.length ≤ maxLen) : Ev (fun k => impl_allWithin.f k l a b) (l.all (inR a b)) := by
  unfold maxLen at h
  rw [← range_all l (inR a b) 0]
  refine ev_all (L := fun i k => impl_allWithin.l0 k a b l (l.length : Int) i) (fun i hi hp => To.step fun k => ?_) (fun i hi hp => Ev.step' (f := fun _ => some false) (fun k => ?_) (Ev.now _)) (Ev.step' (f := fun _ => some true) (fun k => ?_) (Ev.now _))
  · have c1 : (i : Int) < (l.length : Int) := by omega
    have c0 : 0 ≤ (i : Int) := by omega
    simp only [impl_allWithin.l0, if_pos c1, if_pos c0, impl_within_eq, rd_nat, hp, Option.bind_some, if_true, wrap_succ hi h]
  · have c1 : (i : Int) < (l.length : Int) := by omega
    have c0 : 0 ≤ (i : Int) := by omega
    simp only [impl_allWithin.l0, if_pos c1, if_pos c0, impl_within_eq, rd_nat, hp, Option.bind_some, Bool.false_eq_true, if_false]
  · simp only [impl_allWithin.l0, if_neg (Int.lt_irrefl _)]

theorem impl_IsPoint_ev (l : List Int) (h : l.length ≤ maxLen) : Ev (fun k => impl_IsPoint.f k l) (pointB l) := by
  have e : ∀ k, impl_IsPoint.f k l = if inR 1 4 l.length = true then (impl_allWithin.f k l (-9) 9).bind (fun t => some t) else some false := fun k => by simp only [impl_IsPoint.f, impl_within_eq, Option.bind_some]
  refine Ev.congr e ?_
  unfold pointB
  cases inR 1 4 l.length with
  | false => exact Ev.now _
  | true =>
    simp only [if_true, Bool.true_and]
    exact Ev.bind (impl_allWithin_ev l (-9) 9 h) (Ev.now _)

theorem impl_IsPlane_ev (l : List Int) (b : Int) (h : l.length ≤ maxLen) : Ev (fun k => impl_IsPlane.f k l b) (planeB l b) := by
  have e : ∀ k, impl_IsPlane.f k l b = if inR 1 4 l.length = true then (impl_allWithin.f k l (-99) 99).bind (fun t => if t = true then some (inR (-99) 99 b) else some false) else some false := fun k => by
    simp only [impl_IsPlane.f, impl_within_eq, Option.bind_some]
  refine Ev.congr e ?_
  unfold planeB
  cases inR 1 4 l.length with
  | false => exact Ev.now _
  | true =>
    simp only [if_true, Bool.true_and]
    refine Ev.bind (impl_allWithin_ev l (-99) 99 h) ?_
    cases l.all (inR (-99) 99) with
    | false => exact Ev.now _
    | true => exact Ev.now _

theorem impl_meets_ev (w : List Int) (b : Int) (x : List Int) (hw : w.length ≤ maxLen) (hx : x.length ≤ maxLen) : Ev (fun k => impl_meets.f k w b x) (meetsB w b x) := by
  refine Ev.bind (impl_IsPlane_ev w b hw) ?_
  unfold meetsB
  cases planeB w b with
  | false => exact Ev.now _
  | true =>
    simp only [if_true, Bool.true_and]
    refine Ev.bind (impl_IsPoint_ev x hx) ?_
    cases pointB x <;> exact Ev.now _

theorem impl_product_ev (a b : List Int) (h : a.length ≤ maxLen) (hb : a.length ≤ b.length) : Ev (fun k => impl_product.f k a b) (dotW a b) := by
  unfold maxLen at h
  have hf := to_fold (L := fun i (s : Int) k => impl_product.l0 k b s a (a.length : Int) i) (n := a.length) (f := fun i s => wrap64 (s + wrap64 (a.getD i 0 * b.getD i 0))) (fun _ _ => True) (fun i s hi _ => ⟨To.step fun k => ?_, trivial⟩) 0 trivial
  · refine hf.1 _ (Ev.step' (f := fun _ => some _) (fun k => ?_) (Ev.now _))
    simp only [impl_product.l0, if_neg (Int.lt_irrefl _)]; rfl
  · have c1 : (i : Int) < (a.length : Int) := by omega
    have c2 : (i : Int) < (b.length : Int) := by omega
    have c3 : 0 ≤ (i : Int) := by omega
    simp only [impl_product.l0, if_pos c1, if_pos c2, if_pos c3, rd_nat, wrap_succ hi h]

theorem impl_Plane_side_ev (w : List Int) (b : Int) (x : List Int) (hw : w.length ≤ maxLen) (hx : w.length ≤ x.length) : Ev (fun k => impl_Plane_side.f k w b x) (sideW w b x) := by
  refine Ev.bind (impl_product_ev w x hw hx) ?_
  unfold sideW
  by_cases c : dotW w x ≥ b
  · simp only [if_pos c]; exact Ev.now _
  · simp only [if_neg c]; exact Ev.now _

theorem impl_choiceSide_ev (r : List Int) (rb : Int) (l : List Int) (lb : Int) (g : List Int) (gb : Int) (x : List Int) (h0 : r.length ≤ maxLen) (h1 : l.length ≤ maxLen) (h2 : g.length ≤ maxLen) (e0 : r.length ≤ x.length) (e1 : l.length ≤ x.length) (e2 : g.length ≤ x.length) :
    Ev (fun k => impl_choiceSide.f k r rb l lb g gb x) (if sideW r rb x = 1 then sideW g gb x else sideW l lb x) := by
  refine Ev.bind (impl_Plane_side_ev r rb x h0 e0) ?_
  by_cases c : sideW r rb x = 1
  · simp only [if_pos c]; exact Ev.bind (impl_Plane_side_ev g gb x h2 e2) (Ev.now _)
  · simp only [if_neg c]; exact Ev.bind (impl_Plane_side_ev l lb x h1 e1) (Ev.now _)

theorem impl_ChoiceSide_ev (r : List Int) (rb : Int) (l : List Int) (lb : Int) (g : List Int) (gb : Int) (x : List Int) (h0 : r.length ≤ maxLen) (h1 : l.length ≤ maxLen) (h2 : g.length ≤ maxLen) (h3 : x.length ≤ maxLen) :
    Ev (fun k => impl_ChoiceSide.f k r rb l lb g gb x) (choiceM r rb l lb g gb x) := by
  unfold choiceM
  refine Ev.bind (impl_meets_ev r rb x h0 h3) ?_
  cases c0 : meetsB r rb x with
  | false => exact Ev.now _
  | true =>
    simp only [if_true, Bool.true_and]
    refine Ev.bind (impl_meets_ev l lb x h1 h3) ?_
    cases c1 : meetsB l lb x with
    | false => exact Ev.now _
    | true =>
      simp only [if_true, Bool.true_and]
      refine Ev.bind (impl_meets_ev g gb x h2 h3) ?_
      cases c2 : meetsB g gb x with
      | false => exact Ev.now _
      | true =>
        simp only [if_true]
        exact Ev.bind (impl_choiceSide_ev r rb l lb g gb x h0 h1 h2 (meets_len c0) (meets_len c1) (meets_len c2)) (Ev.now _)

theorem pure : SFnExactChoiceSide.Pure := by
  intro r rb l lb g gb x ⟨h0, _⟩ _ ⟨h1, _⟩ _ ⟨h2, _⟩ _ ⟨h3, _⟩
  by_cases hx : x.length ≤ 1048576
  · have e1 := laws_szPlane_eq r rb 1048576 h0 (by omega) (by omega)
    by_cases c1 : lft 1048576 r.length < 0
    · exact .inr (.inl ⟨0, _, e1, hx, c1⟩)
    · have d1 := lft_nonneg (Int.not_lt.1 c1)
      have e2 := laws_szPlane_eq l lb (lft 1048576 r.length) h1 (by omega) (by omega)
      by_cases c2 : lft (lft 1048576 r.length) l.length < 0
      · exact .inr (.inr (.inl ⟨0, _, _, e1, e2, hx, Int.not_lt.1 c1, c2⟩))
      · have d2 := lft_nonneg (Int.not_lt.1 c2)
        have e3 := laws_szPlane_eq g gb (lft (lft 1048576 r.length) l.length) h2 (by omega) (by omega)
        by_cases c3 : lft (lft (lft 1048576 r.length) l.length) g.length < 0
        · exact .inr (.inr (.inr (.inl ⟨0, _, _, _, e1, e2, e3, hx, Int.not_lt.1 c1, Int.not_lt.1 c2, c3⟩)))
        · have d3 := lft_nonneg (Int.not_lt.1 c3)
          obtain ⟨K1, k1⟩ := laws_toPlane_ev r rb (by omega)
          obtain ⟨K2, k2⟩ := laws_toPlane_ev l lb (by omega)
          obtain ⟨K3, k3⟩ := laws_toPlane_ev g gb (by omega)
          obtain ⟨K4, k4⟩ := laws_toIntS_ev x hx
          obtain ⟨K5, k5⟩ := spec_ChoiceSide_ev r rb l lb g gb x h0 h1 h2 h3
          obtain ⟨K6, k6⟩ := impl_ChoiceSide_ev r rb l lb g gb x h0 h1 h2 h3
          obtain ⟨K7, k7⟩ := laws_eqPlane_ev r rb h0
          obtain ⟨K8, k8⟩ := laws_eqPlane_ev l lb h1
          obtain ⟨K9, k9⟩ := laws_eqPlane_ev g gb h2
          obtain ⟨K10, k10⟩ := laws_eqIntS_ev x h3
          let K := K1 + K2 + K3 + K4 + K5 + K6 + K7 + K8 + K9 + K10
          exact .inr (.inr (.inr (.inr ⟨K, _, _, _, _, _, _, _, _, _, _, _, _, e1, e2, e3, k1 K (by omega), k2 K (by omega), k3 K (by omega), k4 K (by omega), k5 K (by omega), k6 K (by omega), k7 K (by omega), k8 K (by omega), k9 K (by omega), k10 K (by omega), hx, Int.not_lt.1 c1, Int.not_lt.1 c2, Int.not_lt.1 c3⟩)))
  · exact .inl ⟨0, by omega⟩
end Go.Proofs.Ytihnijfgdffhjaa.QFnExactChoiceSide
