/- FnExactKernelRun: what its calls come to, shown of numbers and lists alone. -/
import Derived.Test.YtniebbjbihenfaaSFnExactKernelRun
import Derived.Test.YtniebbjbihenfaaPm
namespace Go.Proofs.Ytniebbjbihenfaa.QFnExactKernelRun
open Go.RowKit Go.Proofs.Ytniebbjbihenfaa.KFnExactKernelRun Go.Proofs.Ytniebbjbihenfaa.Lb Go.Proofs.Ytniebbjbihenfaa.Pm Go.Proofs.Ytniebbjbihenfaa.PFnExactKernelRun Go.Proofs.YtniebbjbihenfaaW.PrintWords Go.Proofs.YtniebbjbihenfaaW.PrintLast Go.Proofs.YtniebbjbihenfaaW.PrintMore
set_option linter.unusedVariables false
set_option linter.unusedSimpArgs false
theorem rdL1_nat (xs : List (List Int)) (i : Nat) : rd_L1 xs (i : Int) = xs.getD i [] := by simp [rd_L1]

theorem laws_szIntS_eq (l : List Int) (a : Int) (h : l.length ≤ maxLen) (h0 : 0 ≤ a) (h1 : a ≤ 1048576) : laws_szIntS.f l a = some (lft a l.length) := by
  unfold maxLen at h
  have hw : wrap64 (a - (l.length : Int)) = a - l.length := wrap_id (by omega) (by omega)
  unfold laws_szIntS.f lft
  rw [hw]
  by_cases c : (l.length : Int) ≤ a
  · rw [if_neg (by omega), if_pos c]
  · rw [if_pos (by omega), if_neg c]

theorem laws_szIntSS_ev (l : List (List Int)) (a : Int) (h : l.length ≤ maxLen) (hi : ∀ x ∈ l, x.length ≤ maxLen) (h0 : 0 ≤ a) (h1 : a ≤ 1048576) : Ev (fun k => laws_szIntSS.f k l a) (lft a (sz2 l)) := by
  have h' : l.length ≤ 9223372036854775807 := h
  unfold sz2 laws_szIntSS.f
  rw [← lft_add a _ _ h0]
  have hw : wrap64 (a - (l.length : Int)) = a - l.length := wrap_id (by omega) (by omega)
  rw [hw]
  by_cases c : (l.length : Int) ≤ a
  · have e : lft a l.length = a - l.length := by unfold lft; rw [if_pos c]
    rw [e]
    simp only [if_neg (show ¬ a - (l.length : Int) < 0 by omega)]
    refine ev_sz [] List.length l (L := fun a i k => laws_szIntSS.l0 k l a i) (fun i a hi2 h0 h1 hn => ?_) (fun i a hi2 h0 h1 hn => ?_) (fun a => Ev.step' (f := fun _ => some a) (fun k => by simp only [laws_szIntSS.l0, if_neg (Int.lt_irrefl _)]) (Ev.now _)) _ (by omega) (by omega)
    · have c1 : (i : Int) < (l.length : Int) := by omega
      have c0 : 0 ≤ (i : Int) := by omega
      refine To.step (fun k => ?_)
      simp only [laws_szIntSS.l0, if_pos c1, if_pos c0, rdL1_nat, laws_szIntS_eq _ a (hi _ (getD_mem hi2 [])) h0 h1, Option.bind_some, if_neg (show ¬ lft a (l.getD i []).length < 0 by omega), wrap_succ hi2 h']
    · have c1 : (i : Int) < (l.length : Int) := by omega
      have c0 : 0 ≤ (i : Int) := by omega
      refine Ev.step' (f := fun _ => some (-1)) (fun k => ?_) (Ev.now _)
      simp only [laws_szIntSS.l0, if_pos c1, if_pos c0, rdL1_nat, laws_szIntS_eq _ a (hi _ (getD_mem hi2 [])) h0 h1, Option.bind_some, if_pos hn]
  · have e : lft a l.length = -1 := by unfold lft; rw [if_neg c]
    rw [e]
    simp only [if_pos (show a - (l.length : Int) < 0 by omega), if_pos (show (-1 : Int) < 0 by omega)]
    exact Ev.now _

theorem laws_szSample_ev (P : List (List Int)) (L : List Int) (a : Int) (h : P.length ≤ maxLen) (hi : ∀ x ∈ P, x.length ≤ maxLen) (hL : L.length ≤ maxLen) (h0 : 0 ≤ a) (h1 : a ≤ 1048576) : Ev (fun k => laws_szSample.f k P L a) (lft a (sz2 P + L.length)) := by
  have hle := lft_le a (sz2 P) h0
  refine Ev.bind (laws_szIntSS_ev P a h hi h0 h1) ?_
  rw [← lft_add a _ _ h0]
  by_cases c : lft a (sz2 P) < 0
  · simp only [if_pos c]; exact Ev.now _
  · simp only [if_neg c, laws_szIntS_eq L _ hL (show 0 ≤ lft a (sz2 P) by omega) (show lft a (sz2 P) ≤ 1048576 by omega), Option.bind_some]
    by_cases c2 : lft (lft a (sz2 P)) L.length < 0
    · simp only [if_pos c2, lft_neg c2]; exact Ev.now _
    · simp only [if_neg c2]; exact Ev.now _

theorem spec_l2Labels_ev (l : List Int) (h : l.length ≤ maxLen) : Ev (fun k => spec_l2Labels.f k l) (l.all isLab) := by
  have h' : l.length ≤ 9223372036854775807 := h
  refine ev_list 0 l (fun i (_ : Unit) k => spec_l2Labels.l0 k l i) (fun _ ys _ => ys.all isLab) (fun _ _ => True) (fun _ _ => ?_) (fun i x ys _ hi hx hm _ ih => ?_) () trivial
  · exact Ev.step' (f := fun _ => some true) (fun k => by simp only [spec_l2Labels.l0, if_neg (Int.lt_irrefl _)]) (Ev.now _)
  · have c1 : (i : Int) < (l.length : Int) := by omega
    have c0 : 0 ≤ (i : Int) := by omega
    have ih := ih () trivial
    simp only [List.all_cons]
    unfold isLab at ih ⊢
    by_cases e1 : x = 1
    · rw [show (decide (x = 1) || decide (x = -1)) = true by simp [e1], Bool.true_and]
      exact Ev.step' (fun k => by simp only [spec_l2Labels.l0, if_pos c1, if_pos c0, rd_nat, hx, if_pos e1, wrap_succ hi h']) ih
    · by_cases e2 : x = -1
      · rw [show (decide (x = 1) || decide (x = -1)) = true by simp [e2], Bool.true_and]
        exact Ev.step' (fun k => by simp only [spec_l2Labels.l0, if_pos c1, if_pos c0, rd_nat, hx, if_neg e1, if_pos e2, wrap_succ hi h']) ih
      · rw [show (decide (x = 1) || decide (x = -1)) = false by simp [e1, e2], Bool.false_and]
        exact Ev.step' (f := fun _ => some false) (fun k => by simp only [spec_l2Labels.l0, if_pos c1, if_pos c0, rd_nat, hx, if_neg e1, if_neg e2]) (Ev.now _)

theorem spec_l1In_eq (x a b : Int) : spec_l1In.f x a b = some (inR a b x) := in_tells a b x

theorem spec_l2Numbers_ev (l : List Int) (m : Int) (h : l.length ≤ maxLen) : Ev (fun k => spec_l2Numbers.f k l m) (l.all (inR (wrap64 (-m)) m)) := by
  unfold maxLen at h
  rw [← range_all l (inR (wrap64 (-m)) m) 0]
  refine ev_all (L := fun i k => spec_l2Numbers.l0 k l m i) (fun i hi hp => To.step fun k => ?_) (fun i hi hp => Ev.step' (f := fun _ => some false) (fun k => ?_) (Ev.now _)) (Ev.step' (f := fun _ => some true) (fun k => ?_) (Ev.now _))
  · have c1 : (i : Int) < (l.length : Int) := by omega
    have c0 : 0 ≤ (i : Int) := by omega
    simp only [spec_l2Numbers.l0, if_pos c1, if_pos c0, spec_l1In_eq, rd_nat, hp, Option.bind_some, if_true, wrap_succ hi h]
  · have c1 : (i : Int) < (l.length : Int) := by omega
    have c0 : 0 ≤ (i : Int) := by omega
    simp only [spec_l2Numbers.l0, if_pos c1, if_pos c0, spec_l1In_eq, rd_nat, hp, Option.bind_some, Bool.false_eq_true, if_false]
  · simp only [spec_l2Numbers.l0, if_neg (Int.lt_irrefl _)]

theorem spec_l2Point_ev (l : List Int) (h : l.length ≤ maxLen) : Ev (fun k => spec_l2Point.f k l) (pointB l) := by
  have e : ∀ k, spec_l2Point.f k l = if inR 1 4 l.length = true then (spec_l2Numbers.f k l 9).bind (fun t => some t) else some false := fun k => by simp only [spec_l2Point.f, spec_l1In_eq, Option.bind_some]
  refine Ev.congr e ?_
  unfold pointB
  cases inR 1 4 l.length with
  | false => exact Ev.now _
  | true =>
    simp only [if_true, Bool.true_and]
    refine Ev.bind (spec_l2Numbers_ev l 9 h) ?_
    rw [show wrap64 (-9) = -9 from wrap_id (by omega) (by omega)]
    exact Ev.now _

theorem spec_l2Sample_ev (P : List (List Int)) (L : List Int) (h : P.length ≤ maxLen) (hi : ∀ x ∈ P, x.length ≤ maxLen) (hL : L.length ≤ maxLen) : Ev (fun k => spec_l2Sample.f k P L) (sampleB P L) := by
  have h' : P.length ≤ 9223372036854775807 := h
  have no : Ev (fun k => spec_l2Sample.j0 k true P L) false := Ev.step' (f := fun _ => some false) (fun k => by simp only [spec_l2Sample.j0, if_true]) (Ev.now _)
  unfold sampleB spec_l2Sample.f
  by_cases c : P.length ≤ 16
  · rw [decide_eq_true c, Bool.true_and]
    simp only [if_neg (show ¬ (P.length : Int) > 16 by omega)]
    by_cases c2 : L.length = P.length
    · rw [decide_eq_true c2, Bool.true_and]
      simp only [if_pos (show (L.length : Int) = (P.length : Int) by omega)]
      refine Ev.bind (spec_l2Labels_ev L hL) ?_
      cases L.all isLab with
      | false => exact no
      | true =>
        refine Ev.step' (f := fun k => spec_l2Sample.l0 k 0 P L) (fun k => by simp only [spec_l2Sample.j0, Bool.not_true, Bool.false_eq_true, if_false]) ?_
        rw [Bool.true_and]
        refine ev_list [] P (fun i (_ : Unit) k => spec_l2Sample.l0 k i P L) (fun _ ys _ => ys.all (ptB P)) (fun _ _ => True) (fun _ _ => ?_) (fun i x ys _ hi2 hx hm _ ih => ?_) () trivial
        · exact Ev.step' (f := fun _ => some true) (fun k => by simp only [spec_l2Sample.l0, if_neg (Int.lt_irrefl _)]) (Ev.now _)
        · have c1 : (i : Int) < (P.length : Int) := by omega
          have c0 : 0 ≤ (i : Int) := by omega
          have cp : 0 < (P.length : Int) := by omega
          rw [List.all_cons]
          unfold ptB
          refine Ev.step' (f := fun k => (spec_l2Point.f k x).bind fun t => if t = true then (if (x.length : Int) = ((P.getD 0 []).length : Int) then spec_l2Sample.l0 k ((i + 1 : Nat) : Int) P L else some false) else some false) (fun k => by simp only [spec_l2Sample.l0, if_pos c1, if_pos c0, if_pos cp, rdL1_nat, hx, wrap_succ hi2 h'] <;> rfl) ?_
          refine Ev.bind (spec_l2Point_ev x (hi x hm)) ?_
          cases pointB x with
          | false => exact Ev.now _
          | true =>
            simp only [if_true, Bool.true_and]
            by_cases c5 : x.length = (P.getD 0 []).length
            · rw [decide_eq_true c5, Bool.true_and]
              simp only [if_pos (show (x.length : Int) = ((P.getD 0 []).length : Int) by omega)]
              exact ih () trivial
            · rw [decide_eq_false c5, Bool.false_and]
              simp only [if_neg (show ¬ (x.length : Int) = ((P.getD 0 []).length : Int) by omega)]
              exact Ev.now _
    · rw [decide_eq_false c2, Bool.false_and]
      simp only [if_neg (show ¬ (L.length : Int) = (P.length : Int) by omega)]
      exact no
  · rw [decide_eq_false c, Bool.false_and]
    simp only [if_pos (show (P.length : Int) > 16 by omega)]
    exact no

theorem spec_l10Degree_eq (e : Int) : spec_l10Degree.f e = some (inR 1 3 e) := by unfold spec_l10Degree.f; rw [spec_l1In_eq]; rfl

theorem spec_l2Dot_ev (a b : List Int) (h : a.length ≤ maxLen) (hb : a.length ≤ b.length) : Ev (fun k => spec_l2Dot.f k a b) (dotW a b) := by
  unfold maxLen at h
  have hf := to_fold (L := fun i (s : Int) k => spec_l2Dot.l0 k a b s i) (n := a.length) (f := fun i s => wrap64 (s + wrap64 (a.getD i 0 * b.getD i 0))) (fun _ _ => True) (fun i s hi _ => ⟨To.step fun k => ?_, trivial⟩) 0 trivial
  · refine hf.1 _ (Ev.step' (f := fun _ => some _) (fun k => ?_) (Ev.now _))
    simp only [spec_l2Dot.l0, if_neg (Int.lt_irrefl _)]; rfl
  · have c1 : (i : Int) < (a.length : Int) := by omega
    have c2 : (i : Int) < (b.length : Int) := by omega
    have c3 : 0 ≤ (i : Int) := by omega
    simp only [spec_l2Dot.l0, if_pos c1, if_pos c2, if_pos c3, rd_nat, wrap_succ hi h]

theorem spec_l10Kernel_ev (a b : List Int) (e : Int) (h : a.length ≤ maxLen) (hb : a.length ≤ b.length) (he : inR 1 3 e = true) : Ev (fun k => spec_l10Kernel.f k a b e) (kernelW a b e) := by
  have he := (inR_iff _ _ _).1 he
  obtain ⟨n, rfl⟩ := Int.eq_ofNat_of_zero_le (show 0 ≤ e by omega)
  refine Ev.bind (spec_l2Dot_ev a b h hb) ?_
  unfold kernelW
  rw [Int.toNat_natCast]
  refine ev_range n (fun i s k => spec_l10Kernel.l0 k n (wrap64 (dotW a b + 1)) s i) (fun _ d s => powW (wrap64 (dotW a b + 1)) d s) (fun _ _ => True) (fun s _ => ?_) (fun i d s hi _ _ ih => ?_) 1 trivial
  · exact Ev.step' (f := fun _ => some s) (fun k => by simp only [spec_l10Kernel.l0, if_neg (Int.lt_irrefl _)]) (Ev.now _)
  · exact Ev.step' (fun k => by simp only [spec_l10Kernel.l0, if_pos (show (i : Int) < (n : Int) by omega), wrap_succ hi (show n ≤ 9223372036854775807 by omega)]) (ih _ trivial)

theorem spec_l10Force_ev' (P : List (List Int)) (L c : List Int) (e : Int) (x : List Int) (hs : sampleB P L = true) (hl : c.length = P.length) (he : inR 1 3 e = true) (hx : ∀ y ∈ P, y.length = x.length) : Ev (fun k => spec_l10Force.f k P L c e x) (forceW P L c e x) := by
  obtain ⟨h16, hLP, _, hpt⟩ := sample_tell hs
  have hf := to_fold (L := fun i (s : Int) k => spec_l10Force.l0 k c e x s i P L) (n := c.length) (f := fun i s => wrap64 (s + wrap64 (wrap64 (c.getD i 0 * L.getD i 0) * kernelW (P.getD i []) x e))) (fun _ _ => True) (fun i s hi _ => ⟨?_, trivial⟩) 0 trivial
  · unfold forceW
    rw [← hl]
    exact hf.1 _ (Ev.step' (f := fun _ => some _) (fun k => by simp only [spec_l10Force.l0, if_neg (Int.lt_irrefl _)] <;> rfl) (Ev.now _))
  · have c1 : (i : Int) < (c.length : Int) := by omega
    have c2 : (i : Int) < (L.length : Int) := by omega
    have c3 : (i : Int) < (P.length : Int) := by omega
    have c0 : 0 ≤ (i : Int) := by omega
    have hm := getD_mem (xs := P) (i := i) (by omega) []
    refine (To.step (f := fun k => (spec_l10Kernel.f k (P.getD i []) x e).bind fun t => spec_l10Force.l0 k c e x (wrap64 (s + wrap64 (wrap64 (c.getD i 0 * L.getD i 0) * t))) ((i + 1 : Nat) : Int) P L) (fun k => ?_)).trans (To.bind (spec_l10Kernel_ev _ x e (by have := point_len (hpt _ hm).1; unfold maxLen; omega) (by rw [hx _ hm]; exact Nat.le_refl _) he))
    simp only [spec_l10Force.l0, if_pos c1, if_pos c2, if_pos c3, if_pos c0, rd_nat, rdL1_nat, wrap_succ hi (show c.length ≤ 9223372036854775807 by omega)]
theorem spec_l10Force_ev (P : List (List Int)) (L c : List Int) (e : Int) (x : List Int) (h : countsB P L c e = true) (hx : ∀ y ∈ P, y.length = x.length) : Ev (fun k => spec_l10Force.f k P L c e x) (forceW P L c e x) := by
  obtain ⟨hs, hl, _, he⟩ := counts_tell h
  exact spec_l10Force_ev' P L c e x hs hl he hx

theorem spec_l10Wrong_ev (P : List (List Int)) (L c : List Int) (e : Int) (i : Nat) (hs : sampleB P L = true) (hl : c.length = P.length) (he : inR 1 3 e = true) (hi : i < P.length) : Ev (fun k => spec_l10Wrong.f k P L c e i) (wrongK P L c e i) := by
  have hLP := (sample_tell hs).2.1
  have c0 : 0 ≤ (i : Int) := by omega
  have c1 : (i : Int) < (P.length : Int) := by omega
  have c2 : (i : Int) < (L.length : Int) := by omega
  refine Ev.congr (f := fun k => (spec_l10Force.f k P L c e (P.getD i [])).bind fun t => some ((decide (t ≥ 0)) != (L.getD i 0 == 1))) (fun k => by
    simp only [spec_l10Wrong.f, if_pos c0, if_pos c1, if_pos c2, rdL1_nat, rd_nat]) ?_
  exact Ev.bind (spec_l10Force_ev' P L c e _ hs hl he (sample_eq hs hi)) (Ev.now _)

theorem spec_KernelRun_row (P : List (List Int)) (L : List Int) (e : Int) (n : Nat) (hs : sampleB P L = true) (he : inR 1 3 e = true) (j : Int) (s : List Int × Int) (hl : s.1.length = P.length) :
    To (fun k => spec_KernelRun.l1 k e n s.1 s.2 j 0 P L) (fun k => spec_KernelRun.l0 k e n (rowK P L e s).1 (rowK P L e s).2 (wrap64 (j + 1)) P L) := by
  have h16 := (sample_tell hs).1
  have hLP := (sample_tell hs).2.1
  have hlab := (sample_tell hs).2.2.1
  have hf := to_fold (L := fun i (s : List Int × Int) k => spec_KernelRun.l1 k e n s.1 s.2 j i P L) (n := P.length) (f := fun i s => stepK P L e i s) (fun _ s => s.1.length = P.length) (fun i s hi hl => ⟨fun r hr => ?_, by rw [stepK_len]; exact hl⟩) s hl
  · refine hf.1.trans (To.step fun k => ?_)
    have e1 := hf.2
    unfold rowK
    simp only [spec_KernelRun.l1, e1, if_neg (Int.lt_irrefl _)]
  · have c0 : 0 ≤ (i : Int) := by omega
    have c1 : (i : Int) < (P.length : Int) := by omega
    have c2 : (i : Int) < (L.length : Int) := by omega
    have c3 : (i : Int) < (s.1.length : Int) := by omega
    have hh : wrap64 ((i : Int) + 1) = ((i + 1 : Nat) : Int) := wrap_succ hi (by omega : P.length ≤ 9223372036854775807)
    refine Ev.step' (f := fun k => (spec_l10Wrong.f k P L s.1 e i).bind fun t => if t = true then spec_KernelRun.l1 k e n (s.1.set i (wrap64 (s.1.getD i 0 + 1))) 0 j ((i + 1 : Nat) : Int) P L else spec_KernelRun.l1 k e n s.1 s.2 j ((i + 1 : Nat) : Int) P L) (fun k => by
      simp only [spec_KernelRun.l1, if_pos c0, if_pos c3, hh, Int.toNat_natCast, rd_nat]) (Ev.bind (spec_l10Wrong_ev P L s.1 e i hs hl he hi) ?_)
    unfold stepK at hr
    cases hw : wrongK P L s.1 e i with
    | false => simpa [hw] using hr
    | true => simpa [hw] using hr
theorem spec_KernelRun_go (P : List (List Int)) (L : List Int) (e : Int) (n : Nat) (hs : sampleB P L = true) (he : inR 1 3 e = true) (hn : n ≤ 10) : Ev (fun k => spec_KernelRun.j0 k e n false P L) ((runK P L e n).1, (runK P L e n).2, true) := by
  have h16 := (sample_tell hs).1
  have c0 : 0 ≤ (P.length : Int) := by omega
  have c1 : P.length ≤ 35184372088832 := by omega
  have hf := to_fold (L := fun j (s : List Int × Int) k => spec_KernelRun.l0 k e n s.1 s.2 j P L) (n := n) (f := fun _ s => rowK P L e (s.1, wrap64 (s.2 + 1))) (fun _ s => s.1.length = P.length) (fun j s hj hl => ⟨?_, by unfold rowK; rw [fold_len]; exact hl⟩) (List.replicate P.length 0, 0) (by simp)
  · refine Ev.step' (f := fun k => spec_KernelRun.l0 k e n (List.replicate P.length 0) 0 0 P L) (fun k => by simp only [spec_KernelRun.j0, Bool.false_eq_true, if_false, if_pos c0, if_pos c1, Int.toNat_natCast]) ?_
    refine hf.1 _ (Ev.step' (f := fun _ => some _) (fun k => by simp only [spec_KernelRun.l0, if_neg (Int.lt_irrefl _)] <;> rfl) (Ev.now _))
  · have c2 : (j : Int) < (n : Int) := by omega
    refine To.trans (To.step (f := fun k => spec_KernelRun.l1 k e n s.1 (wrap64 (s.2 + 1)) j 0 P L) fun k => ?_) ((spec_KernelRun_row P L e n hs he j (s.1, wrap64 (s.2 + 1)) hl).trans (To.congr fun k => ?_))
    · simp only [spec_KernelRun.l0, if_pos c2]
    · simp only [wrap_succ hj (by omega : n ≤ 9223372036854775807)]
theorem spec_KernelRun_ev (P : List (List Int)) (L : List Int) (e n : Int) (h : P.length ≤ maxLen) (hi : ∀ x ∈ P, x.length ≤ maxLen) (hL : L.length ≤ maxLen) : Ev (fun k => spec_KernelRun.f k P L e n) (kernelRunM P L e n) := by
  have no : Ev (fun k => spec_KernelRun.j0 k e n true P L) ([], 0, false) := Ev.step' (f := fun _ => some ([], 0, false)) (fun k => by simp only [spec_KernelRun.j0, if_true]) (Ev.now _)
  refine Ev.bind (spec_l2Sample_ev P L h hi hL) ?_
  unfold kernelRunM
  cases hs : sampleB P L with
  | false => simp only [Bool.false_and, Bool.false_eq_true, if_false]; exact no
  | true =>
    simp only [Bool.true_and, if_true, spec_l10Degree_eq, spec_l1In_eq, Option.bind_some]
    cases he : inR 1 3 e with
    | false => simp only [Bool.false_and, Bool.false_eq_true, if_false]; exact no
    | true =>
      simp only [Bool.true_and, if_true]
      cases hr : inR 0 10 n with
      | false => simpa using no
      | true =>
        have hb := (inR_iff _ _ _).1 hr
        obtain ⟨m, rfl⟩ : ∃ m : Nat, n = m := ⟨n.toNat, by omega⟩
        simpa using spec_KernelRun_go P L e m hs he (by omega)

theorem laws_toIntS_ev (l : List Int) (h : l.length ≤ 1048576) : Ev (fun k => laws_toIntS.f k l) l := by
  have hw : wrap64 (l.length : Int) = l.length := wrap_id (by omega) (by omega)
  have c0 : 0 ≤ (l.length : Int) := by omega
  have e : ∀ k, laws_toIntS.f k l = laws_toIntS.l0 k l (List.replicate l.length 0) 0 := fun k => by
    simp only [laws_toIntS.f, if_pos c0, Int.toNat_natCast]; rw [if_pos (by omega)]
  refine Ev.congr e ?_
  have hf := to_fold (L := fun i (s : List Int) k => laws_toIntS.l0 k l s i) (n := l.length) (f := fun i s => s.set i (l.getD i 0)) (fun i s => s = l.take i ++ List.replicate (l.length - i) 0) (fun i s hi hs => ⟨To.step fun k => ?_, ?_⟩) (List.replicate l.length 0) (by simp)
  · refine hf.1 _ (Ev.step' (f := fun _ => some l) (fun k => ?_) (Ev.now _))
    have := hf.2
    rw [Nat.sub_self, List.take_length, List.replicate_zero, List.append_nil] at this
    show laws_toIntS.l0 (k + 1) l _ _ = _
    rw [this]
    simp only [laws_toIntS.l0, if_neg (Int.lt_irrefl _)]
  · have c1 : (i : Int) < (l.length : Int) := by omega
    have c2 : (i : Int) < (s.length : Int) := by rw [hs, List.length_append, List.length_take, List.length_replicate]; omega
    have c3 : 0 ≤ (i : Int) := by omega
    simp only [laws_toIntS.l0, if_pos c1, if_pos c2, if_pos c3, rd_nat, Int.toNat_natCast, wrap_succ hi (by omega : l.length ≤ 9223372036854775807)]
  · show List.set s i _ = _
    rw [hs]; exact set_step l 0 0 i hi

theorem laws_toIntSS_ev (l : List (List Int)) (h : l.length ≤ 1048576) (hi : ∀ x ∈ l, x.length ≤ 1048576) : Ev (fun k => laws_toIntSS.f k l) l := by
  have c0 : 0 ≤ (l.length : Int) := by omega
  have e : ∀ k, laws_toIntSS.f k l = laws_toIntSS.l0 k l (List.replicate l.length []) 0 := fun k => by
    simp only [laws_toIntSS.f, if_pos c0, Int.toNat_natCast]; rw [if_pos (by omega)]
  refine Ev.congr e ?_
  have hf := to_fold (L := fun i (s : List (List Int)) k => laws_toIntSS.l0 k l s i) (n := l.length) (f := fun i s => s.set i (l.getD i [])) (fun i s => s = l.take i ++ List.replicate (l.length - i) []) (fun i s hi2 hs => ⟨?_, ?_⟩) (List.replicate l.length []) (by simp)
  · refine hf.1 _ (Ev.step' (f := fun _ => some l) (fun k => ?_) (Ev.now _))
    have := hf.2
    rw [Nat.sub_self, List.take_length, List.replicate_zero, List.append_nil] at this
    show laws_toIntSS.l0 (k + 1) l _ _ = _
    rw [this]
    simp only [laws_toIntSS.l0, if_neg (Int.lt_irrefl _)]
  · have c1 : (i : Int) < (l.length : Int) := by omega
    have c2 : (i : Int) < (s.length : Int) := by rw [hs, List.length_append, List.length_take, List.length_replicate]; omega
    have c3 : 0 ≤ (i : Int) := by omega
    refine (To.step (f := fun k => (laws_toIntS.f k (l.getD i [])).bind fun t => laws_toIntSS.l0 k l (s.set i t) ((i + 1 : Nat) : Int)) (fun k => ?_)).trans (To.bind (laws_toIntS_ev _ (hi _ (getD_mem hi2 []))))
    simp only [laws_toIntSS.l0, if_pos c1, if_pos c2, if_pos c3, rdL1_nat, Int.toNat_natCast, wrap_succ hi2 (by omega : l.length ≤ 9223372036854775807)]
  · show List.set s i _ = _
    rw [hs]; exact set_step l [] [] i hi2

theorem laws_toSample_ev (P : List (List Int)) (L : List Int) (h : P.length ≤ 1048576) (hi : ∀ x ∈ P, x.length ≤ 1048576) (hL : L.length ≤ 1048576) : Ev (fun k => laws_toSample.f k P L) (P, L) := Ev.bind (laws_toIntSS_ev P h hi) (Ev.bind (laws_toIntS_ev L hL) (Ev.now _))

theorem impl_within_eq (x a b : Int) : impl_within.f x a b = some (inR a b x) := in_tells a b x

theorem impl_allWithin_ev (l : List Int) (a b : Int) (h : l.length ≤ maxLen) : Ev (fun k => impl_allWithin.f k l a b) (l.all (inR a b)) := by
  unfold maxLen at h
  rw [← range_all l (inR a b) 0]
  refine ev_all (L := fun i k => impl_allWithin.l0 k a b l (l.length : Int) i) (fun i hi hp => To.step fun k => ?_) (fun i hi hp => Ev.step' (f := fun _ => some false) (fun k => ?_) (Ev.now _)) (Ev.step' (f := fun _ => some true) (fun k => ?_) (Ev.now _))
  · have c1 : (i : Int) < (l.length : Int) := by omega
    have c0 : 0 ≤ (i : Int) := by omega
    simp only [impl_allWithin.l0, if_pos c1, if_pos c0, impl_within_eq, rd_nat, hp, Option.bind_some, if_true, wrap_succ hi h]
  · have c1 : (i : Int) < (l.length : Int) := by omega
    have c0 : 0 ≤ (i : Int) := by omega
    simp only [impl_allWithin.l0, if_pos c1, if_pos c0, impl_within_eq, rd_nat, hp, Option.bind_some, Bool.false_eq_true, if_false]
  · simp only [impl_allWithin.l0, if_neg (Int.lt_irrefl _)]

theorem impl_IsPoint_ev (l : List Int) (h : l.length ≤ maxLen) : Ev (fun k => impl_IsPoint.f k l) (pointB l) := by
  have e : ∀ k, impl_IsPoint.f k l = if inR 1 4 l.length = true then (impl_allWithin.f k l (-9) 9).bind (fun t => some t) else some false := fun k => by simp only [impl_IsPoint.f, impl_within_eq, Option.bind_some]
  refine Ev.congr e ?_
  unfold pointB
  cases inR 1 4 l.length with
  | false => exact Ev.now _
  | true =>
    simp only [if_true, Bool.true_and]
    exact Ev.bind (impl_allWithin_ev l (-9) 9 h) (Ev.now _)

theorem impl_isLabel_eq (x : Int) : impl_isLabel.f x = some (isLab x) := by
  unfold impl_isLabel.f isLab
  by_cases e : x = 1
  · rw [if_pos e]; simp [e]
  · rw [if_neg e, decide_eq_false e, Bool.false_or]; rfl

theorem impl_IsSample_ev (P : List (List Int)) (L : List Int) (h : P.length ≤ maxLen) (hi : ∀ x ∈ P, x.length ≤ maxLen) (hL : L.length ≤ maxLen) : Ev (fun k => impl_IsSample.f k P L) (sampleB P L) := by
  have h' : P.length ≤ 9223372036854775807 := h
  have no : Ev (fun k => impl_IsSample.j0 k true P L) false := Ev.step' (f := fun _ => some false) (fun k => by simp only [impl_IsSample.j0, if_true]) (Ev.now _)
  unfold sampleB impl_IsSample.f
  by_cases c : P.length ≤ 16
  · rw [decide_eq_true c, Bool.true_and]
    simp only [if_neg (show ¬ (P.length : Int) > 16 by omega)]
    by_cases c2 : L.length = P.length
    · rw [decide_eq_true c2, Bool.true_and, show ((L.length : Int) != (P.length : Int)) = false by rw [bne_eq_false_iff_eq]; omega, Bool.and_comm]
      refine Ev.step' (f := fun k => impl_IsSample.l0 k P (P.length : Int) 0 P L) (fun k => by simp only [impl_IsSample.j0, Bool.false_eq_true, if_false]) ?_
      refine ev_list [] P (fun i (_ : Unit) k => impl_IsSample.l0 k P (P.length : Int) i P L) (fun i ys _ => ys.all (ptB P) && (L.drop i).all isLab) (fun _ _ => True) (fun _ _ => ?_) (fun i x ys _ hi2 hx hm _ ih => ?_) () trivial
      · rw [← c2, List.drop_length]
        exact Ev.step' (f := fun _ => some true) (fun k => by simp only [impl_IsSample.l0, c2, if_neg (Int.lt_irrefl _)]) (Ev.now _)
      · have c1 : (i : Int) < (P.length : Int) := by omega
        have c3 : (i : Int) < (L.length : Int) := by omega
        have c0 : 0 ≤ (i : Int) := by omega
        have cp : 0 < (P.length : Int) := by omega
        have hil : i < L.length := by omega
        rw [List.all_cons, List.drop_eq_getElem_cons hil, List.all_cons]
        unfold ptB
        refine Ev.step' (f := fun k => (impl_IsPoint.f k x).bind fun t => if t = true then (if (x.length : Int) = ((P.getD 0 []).length : Int) then (if isLab L[i] = true then impl_IsSample.l0 k P (P.length : Int) ((i + 1 : Nat) : Int) P L else some false) else some false) else some false) (fun k => by simp only [impl_IsSample.l0, if_pos c1, if_pos c0, if_pos c3, if_pos cp, rdL1_nat, rd_nat, hx, impl_isLabel_eq, Option.bind_some, wrap_succ hi2 h', List.getD_eq_getElem?_getD, List.getElem?_eq_getElem hil, Option.getD_some] <;> rfl) ?_
        refine Ev.bind (impl_IsPoint_ev x (hi x hm)) ?_
        cases pointB x with
        | false => exact Ev.now _
        | true =>
          simp only [if_true, Bool.true_and]
          by_cases c5 : x.length = (P.getD 0 []).length
          · rw [decide_eq_true c5, Bool.true_and]
            simp only [if_pos (show (x.length : Int) = ((P.getD 0 []).length : Int) by omega)]
            cases isLab L[i] with
            | false => simp only [Bool.false_and, Bool.and_false]; exact Ev.now _
            | true => simp only [if_true, Bool.true_and]; exact ih () trivial
          · rw [decide_eq_false c5, Bool.false_and, Bool.false_and]
            simp only [if_neg (show ¬ (x.length : Int) = ((P.getD 0 []).length : Int) by omega)]
            exact Ev.now _
    · rw [decide_eq_false c2, Bool.false_and, show ((L.length : Int) != (P.length : Int)) = true by rw [bne_iff_ne]; omega]
      exact no
  · rw [decide_eq_false c, Bool.false_and]
    simp only [if_pos (show (P.length : Int) > 16 by omega)]
    exact no

theorem impl_isDegree_eq (e : Int) : impl_isDegree.f e = some (inR 1 3 e) := by unfold impl_isDegree.f; rw [impl_within_eq]; rfl

theorem impl_product_ev (a b : List Int) (h : a.length ≤ maxLen) (hb : a.length ≤ b.length) : Ev (fun k => impl_product.f k a b) (dotW a b) := by
  unfold maxLen at h
  have hf := to_fold (L := fun i (s : Int) k => impl_product.l0 k b s a (a.length : Int) i) (n := a.length) (f := fun i s => wrap64 (s + wrap64 (a.getD i 0 * b.getD i 0))) (fun _ _ => True) (fun i s hi _ => ⟨To.step fun k => ?_, trivial⟩) 0 trivial
  · refine hf.1 _ (Ev.step' (f := fun _ => some _) (fun k => ?_) (Ev.now _))
    simp only [impl_product.l0, if_neg (Int.lt_irrefl _)]; rfl
  · have c1 : (i : Int) < (a.length : Int) := by omega
    have c2 : (i : Int) < (b.length : Int) := by omega
    have c3 : 0 ≤ (i : Int) := by omega
    simp only [impl_product.l0, if_pos c1, if_pos c2, if_pos c3, rd_nat, wrap_succ hi h]

theorem impl_kernel_ev (a b : List Int) (e : Int) (h : a.length ≤ maxLen) (hb : a.length ≤ b.length) (he : inR 1 3 e = true) : Ev (fun k => impl_kernel.f k a b e) (kernelW a b e) := by
  have he := (inR_iff _ _ _).1 he
  obtain ⟨n, rfl⟩ := Int.eq_ofNat_of_zero_le (show 0 ≤ e by omega)
  unfold kernelW
  rw [Int.toNat_natCast]
  refine ev_range n (fun i s k => impl_kernel.l0 k a b s n i) (fun _ d s => powW (wrap64 (dotW a b + 1)) d s) (fun _ _ => True) (fun s _ => ?_) (fun i d s hi _ _ ih => ?_) 1 trivial
  · exact Ev.step' (f := fun _ => some s) (fun k => by simp only [impl_kernel.l0, if_neg (Int.lt_irrefl _)]) (Ev.now _)
  · refine Ev.step' (fun k => by simp only [impl_kernel.l0, if_pos (show (i : Int) < (n : Int) by omega), wrap_succ hi (show n ≤ 9223372036854775807 by omega)] <;> rfl) ?_
    exact Ev.bind (impl_product_ev a b h hb) (ih _ trivial)

theorem impl_Sample_force_ev' (P : List (List Int)) (L c : List Int) (e : Int) (x : List Int) (hs : sampleB P L = true) (hl : c.length = P.length) (he : inR 1 3 e = true) (hxl : x.length ≤ maxLen) (hx : ∀ y ∈ P, y.length = x.length) : Ev (fun k => impl_Sample_force.f k P L c e x) (forceW P L c e x) := by
  obtain ⟨h16, hLP, _, hpt⟩ := sample_tell hs
  have hf := to_fold (L := fun i (s : Int) k => impl_Sample_force.l0 k c e x s P (P.length : Int) i P L) (n := P.length) (f := fun i s => wrap64 (s + wrap64 (wrap64 (c.getD i 0 * L.getD i 0) * kernelW (P.getD i []) x e))) (fun _ _ => True) (fun i s hi _ => ⟨?_, trivial⟩) 0 trivial
  · unfold forceW
    exact hf.1 _ (Ev.step' (f := fun _ => some _) (fun k => by simp only [impl_Sample_force.l0, if_neg (Int.lt_irrefl _)] <;> rfl) (Ev.now _))
  · have c1 : (i : Int) < (c.length : Int) := by omega
    have c2 : (i : Int) < (L.length : Int) := by omega
    have c3 : (i : Int) < (P.length : Int) := by omega
    have c0 : 0 ≤ (i : Int) := by omega
    have hm := getD_mem (xs := P) (i := i) (by omega) []
    rw [kernelW_comm (P.getD i []) x e (hx _ hm)]
    refine (To.step (f := fun k => (impl_kernel.f k x (P.getD i []) e).bind fun t => impl_Sample_force.l0 k c e x (wrap64 (s + wrap64 (wrap64 (c.getD i 0 * L.getD i 0) * t))) P (P.length : Int) ((i + 1 : Nat) : Int) P L) (fun k => ?_)).trans (To.bind (impl_kernel_ev x _ e hxl (by rw [hx _ hm]; exact Nat.le_refl _) he))
    simp only [impl_Sample_force.l0, if_pos c1, if_pos c2, if_pos c3, if_pos c0, rd_nat, rdL1_nat, wrap_succ hi (show P.length ≤ 9223372036854775807 by omega)]
theorem impl_Sample_force_ev (P : List (List Int)) (L c : List Int) (e : Int) (x : List Int) (h : countsB P L c e = true) (hxl : x.length ≤ maxLen) (hx : ∀ y ∈ P, y.length = x.length) : Ev (fun k => impl_Sample_force.f k P L c e x) (forceW P L c e x) := by
  obtain ⟨hs, hl, _, he⟩ := counts_tell h
  exact impl_Sample_force_ev' P L c e x hs hl he hxl hx

theorem impl_Sample_pull_ev (P : List (List Int)) (L c : List Int) (e : Int) (i : Nat) (hs : sampleB P L = true) (hl : c.length = P.length) (he : inR 1 3 e = true) (hi : i < P.length) : Ev (fun k => impl_Sample_pull.f k P L c e (P.getD i [])) (if forceW P L c e (P.getD i []) ≥ 0 then 1 else -1) := by
  have hp := point_len ((sample_tell hs).2.2.2 _ (getD_mem hi [])).1
  refine Ev.bind (impl_Sample_force_ev' P L c e _ hs hl he (by unfold maxLen; omega) (sample_eq hs hi)) ?_
  split
  · exact Ev.now _
  · exact Ev.now _
theorem pull_wrong {P : List (List Int)} {L c : List Int} {e : Int} {i : Nat} (hL : L.getD i 0 = 1 ∨ L.getD i 0 = -1) : ((if forceW P L c e (P.getD i []) ≥ 0 then (1 : Int) else -1) = L.getD i 0) ↔ wrongK P L c e i = false := by
  unfold wrongK
  by_cases c : forceW P L c e (P.getD i []) ≥ 0
  · rw [if_pos c, decide_eq_true c]
    rcases hL with h | h <;> rw [h] <;> decide
  · rw [if_neg c, decide_eq_false c]
    rcases hL with h | h <;> rw [h] <;> decide

theorem impl_KernelRun_row (P : List (List Int)) (L : List Int) (e : Int) (n : Nat) (hs : sampleB P L = true) (he : inR 1 3 e = true) (j : Int) (s : List Int × Int) (hl : s.1.length = P.length) :
    To (fun k => impl_KernelRun.l1 k e s.1 s.2 n j P (P.length : Int) 0 P L) (fun k => impl_KernelRun.l0 k e (rowK P L e s).1 (rowK P L e s).2 n (wrap64 (j + 1)) P L) := by
  have h16 := (sample_tell hs).1
  have hLP := (sample_tell hs).2.1
  have hlab := (sample_tell hs).2.2.1
  have hf := to_fold (L := fun i (s : List Int × Int) k => impl_KernelRun.l1 k e s.1 s.2 n j P (P.length : Int) i P L) (n := P.length) (f := fun i s => stepK P L e i s) (fun _ s => s.1.length = P.length) (fun i s hi hl => ⟨fun r hr => ?_, by rw [stepK_len]; exact hl⟩) s hl
  · refine hf.1.trans (To.step fun k => ?_)
    have e1 := hf.2
    unfold rowK
    simp only [impl_KernelRun.l1, e1, if_neg (Int.lt_irrefl _)]
  · have c0 : 0 ≤ (i : Int) := by omega
    have c1 : (i : Int) < (P.length : Int) := by omega
    have c2 : (i : Int) < (L.length : Int) := by omega
    have c3 : (i : Int) < (s.1.length : Int) := by omega
    have hh : wrap64 ((i : Int) + 1) = ((i + 1 : Nat) : Int) := wrap_succ hi (by omega : P.length ≤ 9223372036854775807)
    refine Ev.step' (f := fun k => (impl_Sample_pull.f k P L s.1 e (P.getD i [])).bind fun t => if t = L.getD i 0 then impl_KernelRun.l1 k e s.1 s.2 n j P (P.length : Int) ((i + 1 : Nat) : Int) P L else impl_KernelRun.l1 k e (s.1.set i (wrap64 (s.1.getD i 0 + 1))) 0 n j P (P.length : Int) ((i + 1 : Nat) : Int) P L) (fun k => by
      simp only [impl_KernelRun.l1, if_pos c0, if_pos c1, if_pos c2, if_pos c3, hh, Int.toNat_natCast, rd_nat, rdL1_nat]) (Ev.bind (impl_Sample_pull_ev P L s.1 e i hs hl he hi) ?_)
    unfold stepK at hr
    have hp := pull_wrong (P := P) (c := s.1) (e := e) (hlab _ (getD_mem (xs := L) (i := i) (by omega) 0))
    cases hw : wrongK P L s.1 e i with
    | false => simp only [if_pos (hp.2 hw)]; simpa [hw] using hr
    | true => simp only [if_neg (show ¬ ((if forceW P L s.1 e (P.getD i []) ≥ 0 then (1 : Int) else -1) = L.getD i 0) from fun h => by rw [hp.1 h] at hw; exact absurd hw (by decide))]; simpa [hw] using hr
theorem impl_KernelRun_go (P : List (List Int)) (L : List Int) (e : Int) (n : Nat) (hs : sampleB P L = true) (he : inR 1 3 e = true) (hn : n ≤ 10) : Ev (fun k => impl_KernelRun.j0 k e n false P L) ((runK P L e n).1, (runK P L e n).2, true) := by
  have h16 := (sample_tell hs).1
  have c0 : 0 ≤ (P.length : Int) := by omega
  have c1 : P.length ≤ 35184372088832 := by omega
  have hf := to_fold (L := fun j (s : List Int × Int) k => impl_KernelRun.l0 k e s.1 s.2 n j P L) (n := n) (f := fun _ s => rowK P L e (s.1, wrap64 (s.2 + 1))) (fun _ s => s.1.length = P.length) (fun j s hj hl => ⟨?_, by unfold rowK; rw [fold_len]; exact hl⟩) (List.replicate P.length 0, 0) (by simp)
  · refine Ev.step' (f := fun k => impl_KernelRun.l0 k e (List.replicate P.length 0) 0 n 0 P L) (fun k => by simp only [impl_KernelRun.j0, Bool.false_eq_true, if_false, if_pos c0, if_pos c1, Int.toNat_natCast]) ?_
    refine hf.1 _ (Ev.step' (f := fun _ => some _) (fun k => by simp only [impl_KernelRun.l0, if_neg (Int.lt_irrefl _)] <;> rfl) (Ev.now _))
  · have c2 : (j : Int) < (n : Int) := by omega
    refine To.trans (To.step (f := fun k => impl_KernelRun.l1 k e s.1 (wrap64 (s.2 + 1)) n j P (P.length : Int) 0 P L) fun k => ?_) ((impl_KernelRun_row P L e n hs he j (s.1, wrap64 (s.2 + 1)) hl).trans (To.congr fun k => ?_))
    · simp only [impl_KernelRun.l0, if_pos c2]
    · simp only [wrap_succ hj (by omega : n ≤ 9223372036854775807)]
theorem impl_KernelRun_ev (P : List (List Int)) (L : List Int) (e n : Int) (h : P.length ≤ maxLen) (hi : ∀ x ∈ P, x.length ≤ maxLen) (hL : L.length ≤ maxLen) : Ev (fun k => impl_KernelRun.f k P L e n) (kernelRunM P L e n) := by
  have no : Ev (fun k => impl_KernelRun.j0 k e n true P L) ([], 0, false) := Ev.step' (f := fun _ => some ([], 0, false)) (fun k => by simp only [impl_KernelRun.j0, if_true]) (Ev.now _)
  refine Ev.bind (impl_IsSample_ev P L h hi hL) ?_
  unfold kernelRunM
  cases hs : sampleB P L with
  | false => simp only [Bool.false_and, Bool.false_eq_true, if_false]; exact no
  | true =>
    simp only [Bool.true_and, if_true, impl_isDegree_eq, impl_within_eq, Option.bind_some]
    cases he : inR 1 3 e with
    | false => simp only [Bool.false_and, Bool.false_eq_true, if_false]; exact no
    | true =>
      simp only [Bool.true_and, if_true]
      cases hr : inR 0 10 n with
      | false => simpa using no
      | true =>
        have hb := (inR_iff _ _ _).1 hr
        obtain ⟨m, rfl⟩ : ∃ m : Nat, n = m := ⟨n.toNat, by omega⟩
        simpa using impl_KernelRun_go P L e m hs he (by omega)

theorem laws_eqIntS_ev (l : List Int) (h : l.length ≤ maxLen) : Ev (fun k => laws_eqIntS.f k l l) true := by
  unfold maxLen at h
  refine Ev.congr (f := fun k => laws_eqIntS.l0 k l l 0) (fun k => by simp only [laws_eqIntS.f, if_true]) ?_
  refine ev_yes (L := fun i k => laws_eqIntS.l0 k l l i) (n := l.length) (fun i hi => To.step fun k => ?_) (Ev.step' (f := fun _ => some true) (fun k => ?_) (Ev.now _))
  · have c1 : (i : Int) < (l.length : Int) := by omega
    have c0 : 0 ≤ (i : Int) := by omega
    simp only [laws_eqIntS.l0, if_pos c1, if_pos c0, if_true, wrap_succ hi h]
  · simp only [laws_eqIntS.l0, if_neg (Int.lt_irrefl _)]

theorem laws_eqIntSS_ev (l : List (List Int)) (h : l.length ≤ maxLen) (hi : ∀ x ∈ l, x.length ≤ maxLen) : Ev (fun k => laws_eqIntSS.f k l l) true := by
  have h' : l.length ≤ 9223372036854775807 := h
  refine Ev.congr (f := fun k => laws_eqIntSS.l0 k l l 0) (fun k => by simp only [laws_eqIntSS.f, if_true]) ?_
  refine ev_yes (L := fun i k => laws_eqIntSS.l0 k l l i) (n := l.length) (fun i hi2 => ?_) (Ev.step' (f := fun _ => some true) (fun k => ?_) (Ev.now _))
  · have c1 : (i : Int) < (l.length : Int) := by omega
    have c0 : 0 ≤ (i : Int) := by omega
    refine (To.step (f := fun k => (laws_eqIntS.f k (l.getD i []) (l.getD i [])).bind fun t => if t = true then laws_eqIntSS.l0 k l l ((i + 1 : Nat) : Int) else some false) (fun k => ?_)).trans ((To.bind (laws_eqIntS_ev _ (hi _ (getD_mem hi2 [])))).trans (To.congr fun k => by simp only [if_true]))
    simp only [laws_eqIntSS.l0, if_pos c1, if_pos c0, rdL1_nat, wrap_succ hi2 h']
  · simp only [laws_eqIntSS.l0, if_neg (Int.lt_irrefl _)]

theorem laws_eqSample_ev (P : List (List Int)) (L : List Int) (h : P.length ≤ maxLen) (hi : ∀ x ∈ P, x.length ≤ maxLen) (hL : L.length ≤ maxLen) : Ev (fun k => laws_eqSample.f k P L P L) true := by
  refine Ev.bind (laws_eqIntSS_ev P h hi) ?_
  simp only [if_true]
  refine Ev.bind (laws_eqIntS_ev L hL) ?_
  simp only [if_true]
  exact Ev.now _

theorem laws_markIntS_ev (l : List Int) (a : Int) (h0 : 0 ≤ a) (h1 : a + l.length ≤ 1000000000000) : Ev (fun k => laws_markIntS.f k l a) (a + l.length, iota a l) := by
  have e := ev_mark (0 : Int) (fun _ => 1) (fun a _ => a) l 1000000000000 (L := fun ys a i k => laws_markIntS.l0 k ys a i) (fun ys a i x hi hl hx hm ha hb => To.step fun k => by
    have c1 : (i : Int) < (ys.length : Int) := by omega
    have c3 : 0 ≤ (i : Int) := by omega
    have e : wrap64 (a + 1) = a + ((1 : Nat) : Int) := wrap_id (by omega) (by simpa using (by omega : a + 1 ≤ 9223372036854775807))
    simp only [laws_markIntS.l0, if_pos c1, if_pos c3, Int.toNat_natCast, wrap_succ (i := i) (n := ys.length) (by omega) (by omega), e]) (fun ys a hl => Ev.step' (f := fun _ => some (a, ys)) (fun k => by
    simp only [laws_markIntS.l0, hl, if_neg (Int.lt_irrefl _)]) (Ev.now _)) a h0 (by rw [sumN_one]; exact h1)
  rw [sumN_one] at e
  exact e

theorem laws_heldIntS_ev (l : List Int) (a : Int) (h0 : 0 ≤ a) (h1 : a + l.length ≤ 1000000000000) : Ev (fun k => laws_heldIntS.f k (iota a l) a) (a + l.length) := by
  have e := ev_held (0 : Int) (fun _ => 1) (fun a _ => a) l 1000000000000 (L := fun b i k => laws_heldIntS.l0 k (iota a l) b i) a (fun b i x hi hx hm ha hb => To.step fun k => by
    have c1 : (i : Int) < ((iota a l).length : Int) := by rw [iota_len]; omega
    have c3 : 0 ≤ (i : Int) := by omega
    have c4 : (iota a l).getD i 0 = b := hx
    have e : wrap64 (b + 1) = b + ((1 : Nat) : Int) := wrap_id (by omega) (by simpa using (by omega : b + 1 ≤ 9223372036854775807))
    simp only [laws_heldIntS.l0, if_pos c1, if_pos c3, rd_nat, if_pos c4, wrap_succ (i := i) (n := l.length) hi (by omega), e]) (fun b => Ev.step' (f := fun _ => some b) (fun k => by
    simp only [laws_heldIntS.l0, iota_len, if_neg (Int.lt_irrefl _)]) (Ev.now _)) h0 (by rw [sumN_one]; exact h1)
  rw [sumN_one] at e
  exact e

theorem rdR_nat {α : Type} (xs : List (List α)) (i : Nat) : rdR xs (i : Int) = xs.getD i [] := by simp [rdR]
theorem laws_markIntSS_ev (P : List (List Int)) (a : Int) (h0 : 0 ≤ a) (h1 : a + sumN List.length P ≤ 1000000000000) (hP : P.length ≤ 1000000000000) : Ev (fun k => laws_markIntSS.f k P a) (a + sumN List.length P, iota2 a P) :=
  ev_mark ([] : List Int) List.length iota P 1000000000000 (L := fun ys a i k => laws_markIntSS.l0 k ys a i) (fun ys a i x hi hl hx hm ha hb r hr => by
    refine Ev.step' (f := fun k => (laws_markIntS.f k x a).bind fun b => laws_markIntSS.l0 k (ys.set i b.2) b.1 ((i + 1 : Nat) : Int)) (fun k => ?_) (Ev.bind (laws_markIntS_ev x a ha hb) hr)
    have c1 : (i : Int) < (ys.length : Int) := by omega
    have c3 : 0 ≤ (i : Int) := by omega
    simp only [laws_markIntSS.l0, if_pos c1, if_pos c3, Int.toNat_natCast, rdR_nat, hx, wrap_succ (i := i) (n := ys.length) (by omega) (by omega)]) (fun ys a hl => Ev.step' (f := fun _ => some (a, ys)) (fun k => by
    simp only [laws_markIntSS.l0, hl, if_neg (Int.lt_irrefl _)]) (Ev.now _)) a h0 h1

theorem laws_markSample_ev (P : List (List Int)) (L : List Int) (a : Int) (h0 : 0 ≤ a) (h1 : a + sumN List.length P + L.length ≤ 1000000000000) (hP : P.length ≤ 1000000000000) : Ev (fun k => laws_markSample.f k P L a) (a + sumN List.length P + L.length, iota2 a P, iota (a + sumN List.length P) L) :=
  Ev.bind (laws_markIntSS_ev P a h0 (by omega) hP) (Ev.bind (laws_markIntS_ev L (a + sumN List.length P) (by omega) h1) (Ev.now _))

theorem pure : SFnExactKernelRun.Pure := by
  intro P L e n ⟨h, hi0⟩ ⟨hL, _⟩ _ _
  have hi : ∀ x ∈ P, x.length ≤ maxLen := fun x hx => (hi0 x hx).1
  obtain ⟨K1, k1⟩ := laws_szSample_ev P L 1048576 h hi hL (by omega) (by omega)
  by_cases cn : lft 1048576 (sz2 P + L.length) < 0
  · exact .inl ⟨K1, _, k1 K1 (by omega), cn⟩
  · have d := lft_nonneg (Int.not_lt.1 cn)
    have hs := sz2_small (l := P) (n := 1048576) (by omega)
    have hsum : sumN List.length P ≤ 1048576 := by unfold sz2 at d; omega
    have hu : (kernelRunM P L e n).1.length ≤ 1048576 := by
      unfold kernelRunM; split
      · rw [runK_len]; omega
      · simp
    obtain ⟨K2, k2⟩ := laws_toSample_ev P L hs.1 hs.2 (by omega)
    obtain ⟨K3, k3⟩ := spec_KernelRun_ev P L e n h hi hL
    obtain ⟨K4, k4⟩ := impl_KernelRun_ev P L e n h hi hL
    obtain ⟨K5, k5⟩ := laws_eqIntS_ev (kernelRunM P L e n).1 (by unfold maxLen; omega)
    obtain ⟨K6, k6⟩ := laws_eqSample_ev P L h hi hL
    obtain ⟨K7, k7⟩ := laws_markSample_ev P L 1 (by omega) (by omega) (by omega)
    obtain ⟨K8, k8⟩ := laws_markIntS_ev (kernelRunM P L e n).1 1 (by omega) (by omega)
    obtain ⟨K9, k9⟩ := laws_heldIntS_ev (kernelRunM P L e n).1 1 (by omega) (by omega)
    let K := K1 + K2 + K3 + K4 + K5 + K6 + K7 + K8 + K9
    exact .inr ⟨K, _, _, _, (kernelRunM P L e n).1, (kernelRunM P L e n).2.1, (kernelRunM P L e n).2.2, _, _, _, _, _, k1 K (by omega), k2 K (by omega), k3 K (by omega), k4 K (by omega), k5 K (by omega), k6 K (by omega), k7 K (by omega), k8 K (by omega), k9 K (by omega), Int.not_lt.1 cn, by omega, by omega⟩
end Go.Proofs.Ytniebbjbihenfaa.QFnExactKernelRun
