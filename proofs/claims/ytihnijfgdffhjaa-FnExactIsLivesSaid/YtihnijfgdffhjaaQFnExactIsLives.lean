/- FnExactIsLives: what its calls come to, shown of numbers and lists alone. -/
import Derived.Test.YtihnijfgdffhjaaSFnExactIsLives
import Derived.Test.YtihnijfgdffhjaaPm
namespace Go.Proofs.Ytihnijfgdffhjaa.QFnExactIsLives
open Go.RowKit Go.Proofs.Ytihnijfgdffhjaa.Lb Go.Proofs.Ytihnijfgdffhjaa.Pm Go.Proofs.Ytihnijfgdffhjaa.PFnExactIsLives Go.Proofs.YtihnijfgdffhjaaW.PrintWords Go.Proofs.YtihnijfgdffhjaaW.PrintLast Go.Proofs.YtihnijfgdffhjaaW.PrintMore
set_option linter.unusedVariables false
set_option linter.unusedSimpArgs false
theorem spec_l1In_eq (x a b : Int) : spec_l1In.f x a b = some (inR a b x) := in_tells a b x

theorem spec_l11Lives_ev (l : List Int) (h : l.length ≤ maxLen) : Ev (fun k => spec_l11Lives.f k l) (livesB l) := by
  have h' : l.length ≤ 9223372036854775807 := h
  unfold livesB
  by_cases c4 : l.length ≤ 4
  · rw [show decide (l.length ≤ 4) = true from decide_eq_true c4, Bool.true_and]
    refine ev_list 0 l (fun i s k => spec_l11Lives.l0 k l s i) (fun _ ys s => ys.all (inR 0 8) && inR 1 8 (ys.foldl (fun s x => wrap64 (s + x)) s)) (fun _ _ => True) (fun s _ => ?_) (fun i x ys s hi hx _ _ ih => ?_) 0 trivial
    · refine Ev.step' (f := fun k => spec_l11Lives.j1 k l s l.length false) (fun k => by simp only [spec_l11Lives.l0, if_neg (Int.lt_irrefl _)]) ?_
      refine Ev.step' (f := fun _ => some (inR 1 8 s)) (fun k => by simp only [spec_l11Lives.j1, Bool.false_eq_true, if_false, if_pos (show (l.length : Int) ≤ 4 by omega), spec_l1In_eq, Option.bind_some]) (Ev.now _)
    · have c1 : (i : Int) < (l.length : Int) := by omega
      have c0 : 0 ≤ (i : Int) := by omega
      have ct : decide ((i : Int) ≤ 3) = true := decide_eq_true (by omega)
      refine Ev.step' (f := fun k => spec_l11Lives.j1 k l s i true) (fun k => by simp only [spec_l11Lives.l0, if_pos c1, ct]) ?_
      simp only [List.all_cons, List.foldl_cons, Bool.and_assoc]
      cases hq : inR 0 8 x with
      | false => exact Ev.step' (f := fun _ => some false) (fun k => by simp only [spec_l11Lives.j1, if_true, if_pos c1, if_pos c0, rd_nat, hx, spec_l1In_eq, hq, Option.bind_some, Bool.false_eq_true, if_false]) (Ev.now _)
      | true => exact Ev.step' (fun k => by simp only [spec_l11Lives.j1, if_true, if_pos c1, if_pos c0, rd_nat, hx, spec_l1In_eq, hq, Option.bind_some, wrap_succ hi h']) (ih _ trivial)
  · rw [show decide (l.length ≤ 4) = false from decide_eq_false c4, Bool.false_and]
    refine ev_range 4 (fun i s k => spec_l11Lives.l0 k l s i) (fun _ _ _ => false) (fun _ _ => True) (fun s _ => ?_) (fun i d s hi _ _ ih => ?_) 0 trivial
    · refine Ev.step' (f := fun k => spec_l11Lives.j1 k l s 4 false) (fun k => by simp only [spec_l11Lives.l0, if_pos (show ((4 : Nat) : Int) < (l.length : Int) by omega)]; rfl) ?_
      exact Ev.step' (f := fun _ => some false) (fun k => by simp only [spec_l11Lives.j1, Bool.false_eq_true, if_false, if_neg (show ¬ (l.length : Int) ≤ 4 by omega)]) (Ev.now _)
    · have c1 : (i : Int) < (l.length : Int) := by omega
      have c0 : 0 ≤ (i : Int) := by omega
      have ct : decide ((i : Int) ≤ 3) = true := decide_eq_true (by omega)
      refine Ev.step' (f := fun k => spec_l11Lives.j1 k l s i true) (fun k => by simp only [spec_l11Lives.l0, if_pos c1, ct]) ?_
      cases hq : inR 0 8 (l.getD i 0) with
      | false => exact Ev.step' (f := fun _ => some false) (fun k => by simp only [spec_l11Lives.j1, if_true, if_pos c1, if_pos c0, rd_nat, spec_l1In_eq, hq, Option.bind_some, Bool.false_eq_true, if_false]) (Ev.now _)
      | true => exact Ev.step' (fun k => by simp only [spec_l11Lives.j1, if_true, if_pos c1, if_pos c0, rd_nat, spec_l1In_eq, hq, Option.bind_some, wrap_succ (show i < l.length by omega) h']) (ih (wrap64 (s + l.getD i 0)) trivial)

theorem spec_IsLives_ev (l : List Int) (h : l.length ≤ maxLen) : Ev (fun k => spec_IsLives.f k l) (livesB l) := Ev.bind (spec_l11Lives_ev l h) (Ev.now _)

theorem laws_toIntS_ev (l : List Int) (h : l.length ≤ 1048576) : Ev (fun k => laws_toIntS.f k l) l := by
  have hw : wrap64 (l.length : Int) = l.length := wrap_id (by omega) (by omega)
  have c0 : 0 ≤ (l.length : Int) := by omega
  have e : ∀ k, laws_toIntS.f k l = laws_toIntS.l0 k l (List.replicate l.length 0) 0 := fun k => by
    simp only [laws_toIntS.f, if_pos c0, Int.toNat_natCast]; rw [if_pos (by omega)]
  refine Ev.congr e ?_
  have hf := to_fold (L := fun i (s : List Int) k => laws_toIntS.l0 k l s i) (n := l.length) (f := fun i s => s.set i (l.getD i 0)) (fun i s => s = l.take i ++ List.replicate (l.length - i) 0) (fun i s hi hs => ⟨To.step fun k => ?_, ?_⟩) (List.replicate l.length 0) (by simp)
  · refine hf.1 _ (Ev.step' (f := fun _ => some l) (fun k => ?_) (Ev.now _))
    have := hf.2
    rw [Nat.sub_self, List.take_length, List.replicate_zero, List.append_nil] at this
    show laws_toIntS.l0 (k + 1) l _ _ = _
    rw [this]
    simp only [laws_toIntS.l0, if_neg (Int.lt_irrefl _)]
  · have c1 : (i : Int) < (l.length : Int) := by omega
    have c2 : (i : Int) < (s.length : Int) := by rw [hs, List.length_append, List.length_take, List.length_replicate]; omega
    have c3 : 0 ≤ (i : Int) := by omega
    simp only [laws_toIntS.l0, if_pos c1, if_pos c2, if_pos c3, rd_nat, Int.toNat_natCast, wrap_succ hi (by omega : l.length ≤ 9223372036854775807)]
  · show List.set s i _ = _
    rw [hs]; exact set_step l 0 0 i hi

theorem impl_within_eq (x a b : Int) : impl_within.f x a b = some (inR a b x) := in_tells a b x

theorem impl_allWithin_ev (l : List Int) (a b : Int) (h : l.length ≤ maxLen) : Ev (fun k => impl_allWithin.f k l a b) (l.all (inR a b)) := by
  unfold maxLen at h
  rw [← range_all l (inR a b) 0]
  refine ev_all (L := fun i k => impl_allWithin.l0 k a b l (l.length : Int) i) (fun i hi hp => To.step fun k => ?_) (fun i hi hp => Ev.step' (f := fun _ => some false) (fun k => ?_) (Ev.now _)) (Ev.step' (f := fun _ => some true) (fun k => ?_) (Ev.now _))
  · have c1 : (i : Int) < (l.length : Int) := by omega
    have c0 : 0 ≤ (i : Int) := by omega
    simp only [impl_allWithin.l0, if_pos c1, if_pos c0, impl_within_eq, rd_nat, hp, Option.bind_some, if_true, wrap_succ hi h]
  · have c1 : (i : Int) < (l.length : Int) := by omega
    have c0 : 0 ≤ (i : Int) := by omega
    simp only [impl_allWithin.l0, if_pos c1, if_pos c0, impl_within_eq, rd_nat, hp, Option.bind_some, Bool.false_eq_true, if_false]
  · simp only [impl_allWithin.l0, if_neg (Int.lt_irrefl _)]

theorem impl_total_ev (l : List Int) (h : l.length ≤ maxLen) : Ev (fun k => impl_total.f k l) (sumW l) := by
  have h' : l.length ≤ 9223372036854775807 := h
  refine ev_list 0 l (fun i s k => impl_total.l0 k s l (l.length : Int) i) (fun _ ys s => ys.foldl (fun s x => wrap64 (s + x)) s) (fun _ _ => True) (fun s _ => ?_) (fun i x ys s hi hx _ _ ih => ?_) 0 trivial
  · exact Ev.step' (f := fun _ => some s) (fun k => by simp only [impl_total.l0, if_neg (Int.lt_irrefl _)]) (Ev.now _)
  · have c1 : (i : Int) < (l.length : Int) := by omega
    have c0 : 0 ≤ (i : Int) := by omega
    rw [List.foldl_cons]
    exact Ev.step' (fun k => by simp only [impl_total.l0, if_pos c1, if_pos c0, rd_nat, hx, wrap_succ hi h']) (ih _ trivial)

theorem impl_IsLives_ev (l : List Int) (h : l.length ≤ maxLen) : Ev (fun k => impl_IsLives.f k l) (livesB l) := by
  unfold livesB impl_IsLives.f
  by_cases c4 : l.length ≤ 4
  · rw [show decide (l.length ≤ 4) = true from decide_eq_true c4, Bool.true_and]
    simp only [if_pos (show (l.length : Int) ≤ 4 by omega)]
    refine Ev.bind (impl_allWithin_ev l 0 8 h) ?_
    cases l.all (inR 0 8) with
    | false => exact Ev.now _
    | true =>
      simp only [if_true, Bool.true_and, impl_within_eq, Option.bind_some]
      exact Ev.bind (impl_total_ev l h) (Ev.now _)
  · rw [show decide (l.length ≤ 4) = false from decide_eq_false c4, Bool.false_and]
    simp only [if_neg (show ¬ (l.length : Int) ≤ 4 by omega)]
    exact Ev.now _

theorem laws_eqIntS_ev (l : List Int) (h : l.length ≤ maxLen) : Ev (fun k => laws_eqIntS.f k l l) true := by
  unfold maxLen at h
  refine Ev.congr (f := fun k => laws_eqIntS.l0 k l l 0) (fun k => by simp only [laws_eqIntS.f, if_true]) ?_
  refine ev_yes (L := fun i k => laws_eqIntS.l0 k l l i) (n := l.length) (fun i hi => To.step fun k => ?_) (Ev.step' (f := fun _ => some true) (fun k => ?_) (Ev.now _))
  · have c1 : (i : Int) < (l.length : Int) := by omega
    have c0 : 0 ≤ (i : Int) := by omega
    simp only [laws_eqIntS.l0, if_pos c1, if_pos c0, if_true, wrap_succ hi h]
  · simp only [laws_eqIntS.l0, if_neg (Int.lt_irrefl _)]

theorem pure : SFnExactIsLives.Pure := by
  intro l ⟨h, _⟩
  by_cases hx : l.length ≤ 1048576
  · obtain ⟨K1, k1⟩ := laws_toIntS_ev l hx
    obtain ⟨K2, k2⟩ := spec_IsLives_ev l h
    obtain ⟨K3, k3⟩ := impl_IsLives_ev l h
    obtain ⟨K4, k4⟩ := laws_eqIntS_ev l h
    let K := K1 + K2 + K3 + K4
    exact .inr ⟨K, _, _, k1 K (by omega), k2 K (by omega), k3 K (by omega), k4 K (by omega), hx⟩
  · exact .inl ⟨0, by omega⟩
end Go.Proofs.Ytihnijfgdffhjaa.QFnExactIsLives
