/- FnExactSwitchWrong: what its calls come to, shown of numbers and lists alone. -/
import Derived.Test.YtihhedemdkifhaaSFnExactSwitchWrong
import Derived.Test.YtihhedemdkifhaaPm
namespace Go.Proofs.Ytihhedemdkifhaa.QFnExactSwitchWrong
open Go.RowKit Go.Proofs.Ytihhedemdkifhaa.KFnExactSwitchWrong Go.Proofs.Ytihhedemdkifhaa.Lb Go.Proofs.Ytihhedemdkifhaa.Pm Go.Proofs.Ytihhedemdkifhaa.PFnExactSwitchWrong Go.Proofs.YtihhedemdkifhaaW.PrintWords Go.Proofs.YtihhedemdkifhaaW.PrintLast Go.Proofs.YtihhedemdkifhaaW.PrintMore
set_option linter.unusedVariables false
set_option linter.unusedSimpArgs false
theorem rdL1_nat (xs : List (List Int)) (i : Nat) : rd_L1 xs (i : Int) = xs.getD i [] := by simp [rd_L1]

theorem rdL2_nat (xs : List (List (List Int))) (i : Nat) : rd_L2 xs (i : Int) = xs.getD i [] := by simp [rd_L2]

theorem rdL4_nat (xs : List (List (List (List Int)))) (i : Nat) : rd_L4 xs (i : Int) = xs.getD i [] := by simp [rd_L4]

theorem rdT33_nat (xs : List S33) (i : Nat) : rd_T33 xs (i : Int) = xs.getD i z33 := by simp [rd_T33]

theorem laws_szIntS_eq (l : List Int) (a : Int) (h : l.length ≤ maxLen) (h0 : 0 ≤ a) (h1 : a ≤ 1048576) : laws_szIntS.f l a = some (lft a l.length) := by
  unfold maxLen at h
  have hw : wrap64 (a - (l.length : Int)) = a - l.length := wrap_id (by omega) (by omega)
  unfold laws_szIntS.f lft
  rw [hw]
  by_cases c : (l.length : Int) ≤ a
  · rw [if_neg (by omega), if_pos c]
  · rw [if_pos (by omega), if_neg c]

theorem laws_szIntSS_ev (l : List (List Int)) (a : Int) (h : l.length ≤ maxLen) (hi : ∀ x ∈ l, x.length ≤ maxLen) (h0 : 0 ≤ a) (h1 : a ≤ 1048576) : Ev (fun k => laws_szIntSS.f k l a) (lft a (sz2 l)) := by
  have h' : l.length ≤ 9223372036854775807 := h
  unfold sz2 laws_szIntSS.f
  rw [← lft_add a _ _ h0]
  have hw : wrap64 (a - (l.length : Int)) = a - l.length := wrap_id (by omega) (by omega)
  rw [hw]
  by_cases c : (l.length : Int) ≤ a
  · have e : lft a l.length = a - l.length := by unfold lft; rw [if_pos c]
    rw [e]
    simp only [if_neg (show ¬ a - (l.length : Int) < 0 by omega)]
    refine ev_sz [] List.length l (L := fun a i k => laws_szIntSS.l0 k l a i) (fun i a hi2 h0 h1 hn => ?_) (fun i a hi2 h0 h1 hn => ?_) (fun a => Ev.step' (f := fun _ => some a) (fun k => by simp only [laws_szIntSS.l0, if_neg (Int.lt_irrefl _)]) (Ev.now _)) _ (by omega) (by omega)
    · have c1 : (i : Int) < (l.length : Int) := by omega
      have c0 : 0 ≤ (i : Int) := by omega
      refine To.step (fun k => ?_)
      simp only [laws_szIntSS.l0, if_pos c1, if_pos c0, rdL1_nat, laws_szIntS_eq _ a (hi _ (getD_mem hi2 [])) h0 h1, Option.bind_some, if_neg (show ¬ lft a (l.getD i []).length < 0 by omega), wrap_succ hi2 h']
    · have c1 : (i : Int) < (l.length : Int) := by omega
      have c0 : 0 ≤ (i : Int) := by omega
      refine Ev.step' (f := fun _ => some (-1)) (fun k => ?_) (Ev.now _)
      simp only [laws_szIntSS.l0, if_pos c1, if_pos c0, rdL1_nat, laws_szIntS_eq _ a (hi _ (getD_mem hi2 [])) h0 h1, Option.bind_some, if_pos hn]
  · have e : lft a l.length = -1 := by unfold lft; rw [if_neg c]
    rw [e]
    simp only [if_pos (show a - (l.length : Int) < 0 by omega), if_pos (show (-1 : Int) < 0 by omega)]
    exact Ev.now _

theorem laws_szPanel_ev (P : List (List Int)) (L : List Int) (a : Int) (h : P.length ≤ maxLen) (hi : ∀ x ∈ P, x.length ≤ maxLen) (hL : L.length ≤ maxLen) (h0 : 0 ≤ a) (h1 : a ≤ 1048576) : Ev (fun k => laws_szPanel.f k P L a) (lft a (sz2 P + L.length)) := by
  have hle := lft_le a (sz2 P) h0
  refine Ev.bind (laws_szIntSS_ev P a h hi h0 h1) ?_
  rw [← lft_add a _ _ h0]
  by_cases c : lft a (sz2 P) < 0
  · simp only [if_pos c]; exact Ev.now _
  · simp only [if_neg c, laws_szIntS_eq L _ hL (show 0 ≤ lft a (sz2 P) by omega) (show lft a (sz2 P) ≤ 1048576 by omega), Option.bind_some]
    by_cases c2 : lft (lft a (sz2 P)) L.length < 0
    · simp only [if_pos c2, lft_neg c2]; exact Ev.now _
    · simp only [if_neg c2]; exact Ev.now _

theorem spec_l1In_eq (x a b : Int) : spec_l1In.f x a b = some (inR a b x) := in_tells a b x

theorem spec_l11Says_ev (l : List Int) (n : Int) (h : l.length ≤ maxLen) : Ev (fun k => spec_l11Says.f k l n) (l.all (inR (-1) 1) && ((l.length : Int) == n)) := by
  have h' : l.length ≤ 9223372036854775807 := h
  refine ev_list 0 l (fun i (_ : Unit) k => spec_l11Says.l0 k l n i) (fun _ ys _ => ys.all (inR (-1) 1) && ((l.length : Int) == n)) (fun _ _ => True) (fun _ _ => ?_) (fun i x ys _ hi hx hm _ ih => ?_) () trivial
  · exact Ev.step' (f := fun _ => some _) (fun k => by simp only [spec_l11Says.l0, if_neg (Int.lt_irrefl _)] <;> rfl) (Ev.now _)
  · have c1 : (i : Int) < (l.length : Int) := by omega
    have c0 : 0 ≤ (i : Int) := by omega
    simp only [List.all_cons, Bool.and_assoc]
    cases hq : inR (-1) 1 x with
    | false => exact Ev.step' (f := fun _ => some false) (fun k => by simp only [spec_l11Says.l0, if_pos c1, if_pos c0, rd_nat, hx, spec_l1In_eq, hq, Option.bind_some, Bool.false_eq_true, if_false]) (Ev.now _)
    | true => exact Ev.step' (fun k => by simp only [spec_l11Says.l0, if_pos c1, if_pos c0, rd_nat, hx, spec_l1In_eq, hq, Option.bind_some, if_true, wrap_succ hi h']) (ih () trivial)

theorem spec_l2Labels_ev (l : List Int) (h : l.length ≤ maxLen) : Ev (fun k => spec_l2Labels.f k l) (l.all isLab) := by
  have h' : l.length ≤ 9223372036854775807 := h
  refine ev_list 0 l (fun i (_ : Unit) k => spec_l2Labels.l0 k l i) (fun _ ys _ => ys.all isLab) (fun _ _ => True) (fun _ _ => ?_) (fun i x ys _ hi hx hm _ ih => ?_) () trivial
  · exact Ev.step' (f := fun _ => some true) (fun k => by simp only [spec_l2Labels.l0, if_neg (Int.lt_irrefl _)]) (Ev.now _)
  · have c1 : (i : Int) < (l.length : Int) := by omega
    have c0 : 0 ≤ (i : Int) := by omega
    have ih := ih () trivial
    simp only [List.all_cons]
    unfold isLab at ih ⊢
    by_cases e1 : x = 1
    · rw [show (decide (x = 1) || decide (x = -1)) = true by simp [e1], Bool.true_and]
      exact Ev.step' (fun k => by simp only [spec_l2Labels.l0, if_pos c1, if_pos c0, rd_nat, hx, if_pos e1, wrap_succ hi h']) ih
    · by_cases e2 : x = -1
      · rw [show (decide (x = 1) || decide (x = -1)) = true by simp [e2], Bool.true_and]
        exact Ev.step' (fun k => by simp only [spec_l2Labels.l0, if_pos c1, if_pos c0, rd_nat, hx, if_neg e1, if_pos e2, wrap_succ hi h']) ih
      · rw [show (decide (x = 1) || decide (x = -1)) = false by simp [e1, e2], Bool.false_and]
        exact Ev.step' (f := fun _ => some false) (fun k => by simp only [spec_l2Labels.l0, if_pos c1, if_pos c0, rd_nat, hx, if_neg e1, if_neg e2]) (Ev.now _)

theorem spec_l11Panel_ev (S : List (List Int)) (T : List Int) (h : S.length ≤ maxLen) (hi : ∀ x ∈ S, x.length ≤ maxLen) (hT : T.length ≤ maxLen) : Ev (fun k => spec_l11Panel.f k S T) (panelB S T) := by
  have h' : S.length ≤ 9223372036854775807 := h
  refine ev_eq (a := S.all (fun x => x.all (inR (-1) 1) && ((x.length : Int) == (T.length : Int))) && (inR 1 8 S.length && (decide (T.length ≤ 16) && T.all isLab))) ?_ (panelB_spec S T).symm
  refine ev_list [] S (fun i (_ : Unit) k => spec_l11Panel.l0 k i S T) (fun _ ys _ => ys.all (fun x => x.all (inR (-1) 1) && ((x.length : Int) == (T.length : Int))) && (inR 1 8 S.length && (decide (T.length ≤ 16) && T.all isLab))) (fun _ _ => True) (fun _ _ => ?_) (fun i x ys _ hi2 hx hm _ ih => ?_) () trivial
  · refine Ev.step' (f := fun k => if inR 1 8 S.length = true then (if (T.length : Int) ≤ 16 then (spec_l2Labels.f k T).bind (fun t => some t) else some false) else some false) (fun k => by simp only [spec_l11Panel.l0, if_neg (Int.lt_irrefl _), spec_l1In_eq, Option.bind_some]) ?_
    simp only [List.all_nil, Bool.true_and]
    cases inR 1 8 S.length with
    | false => exact Ev.now _
    | true =>
      simp only [if_true, Bool.true_and]
      by_cases c : T.length ≤ 16
      · simp only [if_pos (show (T.length : Int) ≤ 16 by omega), decide_eq_true c, Bool.true_and]
        exact Ev.bind (spec_l2Labels_ev T hT) (Ev.now _)
      · simp only [if_neg (show ¬ (T.length : Int) ≤ 16 by omega), decide_eq_false c, Bool.false_and]
        exact Ev.now _
  · have c1 : (i : Int) < (S.length : Int) := by omega
    have c0 : 0 ≤ (i : Int) := by omega
    rw [List.all_cons, Bool.and_assoc]
    refine Ev.step' (f := fun k => (spec_l11Says.f k x (T.length : Int)).bind fun t => if t = true then spec_l11Panel.l0 k ((i + 1 : Nat) : Int) S T else some false) (fun k => by simp only [spec_l11Panel.l0, if_pos c1, if_pos c0, rdL1_nat, hx, wrap_succ hi2 h']) ?_
    refine Ev.bind (spec_l11Says_ev x _ (hi x hm)) ?_
    cases (x.all (inR (-1) 1) && ((x.length : Int) == (T.length : Int))) with
    | false => exact Ev.now _
    | true => simp only [if_true, Bool.true_and]; exact ih () trivial

theorem spec_l1Least_eq (a b : Int) : spec_l1Least.f a b = some (mnI a b) := by
  unfold spec_l1Least.f mnI
  split <;> rfl

theorem spec_l11Begin_ev (g : Nat → Nat → Int) (n m : Nat) (h : 0 < n) (hn : n ≤ 1000) (hm : m ≤ 1000) : Ev (fun k => spec_l11Begin.f k ((List.range n).map (fun i => (List.range (m + 1)).map (g i))) m) (beginM (fun i => g i m) n) := by
  have hl : ((List.range n).map (fun i => (List.range (m + 1)).map (g i))).length = n := by simp
  have r1 : ∀ i, i < n → rd_L1 ((List.range n).map (fun i => (List.range (m + 1)).map (g i))) (i : Int) = (List.range (m + 1)).map (g i) := fun i hi => by rw [rdL1_nat]; exact getD_map _ _ _ hi
  have r10 : rd_L1 ((List.range n).map (fun i => (List.range (m + 1)).map (g i))) 0 = (List.range (m + 1)).map (g 0) := r1 0 h
  have rat : ∀ i, rd ((List.range (m + 1)).map (g i)) (m : Int) = g i m := fun i => by rw [rd_nat]; exact getD_mapI _ _ _ (by omega)
  generalize hF : (List.range n).map (fun i => (List.range (m + 1)).map (g i)) = F at hl r1 r10
  have c0 : 0 < (F.length : Int) := by omega
  have c1 : 0 ≤ (m : Int) := by omega
  have c2 : ∀ i, (m : Int) < (((List.range (m + 1)).map (g i)).length : Int) := fun i => by simp; omega
  refine Ev.congr (f := fun k => spec_l11Begin.l0 k F m (g 0 m) (((0 : Nat) : Int) + 1)) (fun k => by simp only [spec_l11Begin.f, if_pos c0, if_pos c1, r10, if_pos (c2 0), rat]; rfl) ?_
  have hf := to_fold (L := fun i (b : Int) k => spec_l11Begin.l0 k F m b (i + 1)) (n := n - 1) (f := fun i b => mnI b (g (i + 1) m)) (fun _ _ => True) (fun i b hi _ => ⟨To.step fun k => by
    have i1 : (i : Int) + 1 < (F.length : Int) := by omega
    have i0 : 0 ≤ (i : Int) + 1 := by omega
    have e := r1 (i + 1) (by omega)
    have e2 : ((i + 1 : Nat) : Int) = (i : Int) + 1 := by omega
    rw [e2] at e
    have ew : wrap64 ((i : Int) + 1 + 1) = ((i + 1 : Nat) : Int) + 1 := by rw [wrap_id (by omega) (by omega)]; omega
    simp only [spec_l11Begin.l0, if_pos i1, if_pos i0, if_pos c1, e, if_pos (c2 (i + 1)), rat, spec_l1Least_eq, Option.bind_some, ew], trivial⟩) (g 0 m) trivial
  refine hf.1 _ (Ev.step' (f := fun _ => some (beginM (fun i => g i m) n)) (fun k => by simp only [spec_l11Begin.l0, if_neg (show ¬ (((n - 1 : Nat) : Int) + 1 < (F.length : Int)) by omega)]; rfl) (Ev.now _))

theorem spec_l11Wrong_eq (x T : List Int) (d : Nat) : spec_l11Wrong.f (x.getD d 0) (T.getD d 0) = some (wrB x T d) := by
  unfold spec_l11Wrong.f wrB
  by_cases c : x.getD d 0 = 0
  · rw [if_pos c, if_pos c]
  · rw [if_neg c, if_neg c]

def spec_l11Switch.rowT (S : List (List Int)) (T : List Int) (m e i : Nat) : List Int := (List.range (m + 1)).map (fun left => swV S T e i left)
theorem spec_l11Switch.row_ev {S : List (List Int)} {T : List Int} (hp : panelB S T = true) (m : Nat) (hm : m ≤ 16) (d : Nat) (hd : d ≤ T.length) (out : List (List (List Int))) (hl : out.length = T.length + 1) (ho : d < T.length → out.getD (d + 1) [] = (List.range S.length).map (spec_l11Switch.rowT S T m (T.length - d - 1))) (i : Nat) (hi : i < S.length) : Ev (fun k => spec_l11Switch.row k S T m out d i) (spec_l11Switch.rowT S T m (T.length - d) i) := by
  have ht := panel_tell hp
  have hm6 : m ≤ 1000000 := by omega
  have hd6 : d ≤ 1000000 := by omega
  have g0 : 0 ≤ ((m + 1 : Nat) : Int) := by omega
  have g1 : m + 1 ≤ 35184372088832 := by omega
  refine Ev.congr (f := fun k => spec_l11Switch.r0 k m out d i (T.length : Int) (S.length : Int) (List.replicate (m + 1) 0) ((0 : Nat) : Int) S T) (fun k => by simp only [spec_l11Switch.row, w_succ hm6, if_pos g0, Int.toNat_natCast, if_pos g1]; rfl) ?_
  by_cases c : d < T.length
  · obtain ⟨e, he⟩ : ∃ e, T.length - d = e + 1 := ⟨T.length - d - 1, by omega⟩
    have hde : d = T.length - (e + 1) := by omega
    have ho2 := ho c
    rw [he, Nat.add_sub_cancel] at ho2
    rw [he]
    have r2 : rd_L2 out ((d + 1 : Nat) : Int) = (List.range S.length).map (spec_l11Switch.rowT S T m e) := by rw [rdL2_nat]; exact ho2
    have cd0 : 0 ≤ ((d + 1 : Nat) : Int) := by omega
    have cd1 : ((d + 1 : Nat) : Int) < (out.length : Int) := by omega
    have ci0 : 0 ≤ (i : Int) := by omega
    have ci1 : (i : Int) < (((List.range S.length).map (spec_l11Switch.rowT S T m e)).length : Int) := by simp; omega
    have r1 : ∀ j, j < S.length → rd_L1 ((List.range S.length).map (spec_l11Switch.rowT S T m e)) (j : Int) = spec_l11Switch.rowT S T m e j := fun j hj => by rw [rdL1_nat]; exact getD_map _ _ _ hj
    have rlen : ∀ j, (spec_l11Switch.rowT S T m e j).length = m + 1 := fun j => by simp [spec_l11Switch.rowT]
    have rat : ∀ j l, l < m + 1 → rd (spec_l11Switch.rowT S T m e j) (l : Int) = swV S T e j l := fun j l hl2 => by rw [rd_nat]; exact getD_mapI _ _ _ hl2
    have cd : decide ((d : Int) < (T.length : Int)) = true := decide_eq_true (by omega)
    have hx := ht.2.2.2.2 _ (getD_mem hi [])
    have q1 : (i : Int) < (S.length : Int) := by omega
    have q2 : 0 ≤ (d : Int) := by omega
    have q3 : (d : Int) < ((S.getD i []).length : Int) := by omega
    have q4 : (d : Int) < (T.length : Int) := by omega
    have hf := to_fold (L := fun left (s : List Int) k => spec_l11Switch.r0 k m out d i (T.length : Int) (S.length : Int) s left S T) (n := m + 1) (f := fun left s => s.set left (swV S T (e + 1) i left)) (fun left s => s.length = m + 1) (fun left s hlt hs => ⟨?_, by rw [List.length_set]; exact hs⟩) (List.replicate (m + 1) 0) List.length_replicate
    · refine hf.1 _ ?_
      rw [set_fold _ _ _ (by rw [List.length_replicate]; exact Nat.le_refl _), List.drop_of_length_le (by rw [List.length_replicate]; exact Nat.le_refl _), List.append_nil]
      refine Ev.step' (f := fun k => spec_l11Switch.rj1 k m out d i (T.length : Int) (S.length : Int) ((List.range (m + 1)).map (fun left => swV S T (e + 1) i left)) ((m + 1 : Nat) : Int) false S T) (fun k => by simp only [spec_l11Switch.r0, if_neg (show ¬ ((m + 1 : Nat) : Int) ≤ (m : Int) by omega)]) ?_
      exact Ev.step' (f := fun _ => some ((List.range (m + 1)).map (fun left => swV S T (e + 1) i left))) (fun k => by simp only [spec_l11Switch.rj1, Bool.false_eq_true, if_false]) (Ev.now _)
    · have l0 : 0 ≤ (left : Int) := by omega
      have l1 : (left : Int) < ((spec_l11Switch.rowT S T m e i).length : Int) := by rw [rlen]; omega
      have l2 : (left : Int) < (s.length : Int) := by omega
      have hl6 : left ≤ 1000000 := by omega
      have fin : ∀ (b : Int), 0 ≤ b → b ≤ e → (if wrB (S.getD i []) T d = true then wrap64 (b + 1) else b) = b + (if wrB (S.getD i []) T (T.length - (e + 1)) = true then 1 else 0) := fun b b0 b1 => by
        rw [← hde]
        split
        · exact wrap_id (by omega) (by omega)
        · omega
      refine (To.step (f := fun k => spec_l11Switch.rj1 k m out d i (T.length : Int) (S.length : Int) s (left : Int) true S T) (fun k => by simp only [spec_l11Switch.r0, if_pos (show (left : Int) ≤ (m : Int) by omega), cd])).trans ?_
      refine (To.step (f := fun k => spec_l11Switch.r1 k m out d i (T.length : Int) (S.length : Int) s (left : Int) (swV S T e i left) ((0 : Nat) : Int) S T) (fun k => by simp only [spec_l11Switch.rj1, if_true, w_succ hd6, if_pos cd0, if_pos cd1, r2, if_pos ci0, if_pos ci1, r1 i hi, if_pos l0, if_pos l1, rat i left hlt]; rfl)).trans ?_
      by_cases z : left = 0
      · subst z
        have bd := swV_bd S T e i 0
        refine To.step fun k => ?_
        have e1 : spec_l11Switch.r1 (k + 1) m out d i (T.length : Int) (S.length : Int) s ((0 : Nat) : Int) (swV S T e i 0) ((0 : Nat) : Int) S T = spec_l11Switch.r0 k m out d i (T.length : Int) (S.length : Int) (s.set 0 (if wrB (S.getD i []) T d = true then wrap64 (swV S T e i 0 + 1) else swV S T e i 0)) ((0 + 1 : Nat) : Int) S T := by
          simp only [spec_l11Switch.r1, if_pos (show ((0 : Nat) : Int) < (S.length : Int) by omega), if_neg (show ¬ ((0 : Nat) : Int) > 0 by omega), if_pos ci0, if_pos q1, if_pos q2, rdL1_nat, if_pos q3, if_pos q4, rd_nat, spec_l11Wrong_eq, Option.bind_some, if_pos l0, if_pos l2, w_succ hl6, Int.toNat_natCast]
          split <;> rfl
        rw [e1, fin _ bd.1 (by omega)]
        rw [swV, if_pos rfl]
      · have z1 : (left : Int) > 0 := by omega
        have z0 : 0 < left := by omega
        have m0 : 0 ≤ ((left - 1 : Nat) : Int) := by omega
        have hj := to_fold (L := fun j (b : Int) k => spec_l11Switch.r1 k m out d i (T.length : Int) (S.length : Int) s (left : Int) b j S T) (n := S.length) (f := fun j b => mnI b (swV S T e j (left - 1))) (fun _ _ => True) (fun j b hj _ => ⟨To.step fun k => by
          have j0 : 0 ≤ (j : Int) := by omega
          have j1 : (j : Int) < (S.length : Int) := by omega
          have j2 : (j : Int) < (((List.range S.length).map (spec_l11Switch.rowT S T m e)).length : Int) := by simp; omega
          have m1 : ((left - 1 : Nat) : Int) < ((spec_l11Switch.rowT S T m e j).length : Int) := by rw [rlen]; omega
          simp only [spec_l11Switch.r1, if_pos j1, if_pos z1, w_succ hd6, if_pos cd0, if_pos cd1, r2, if_pos j0, if_pos j2, w_pred hl6 z0, if_pos m0, r1 j hj, if_pos m1, rat j (left - 1) (by omega), spec_l1Least_eq, Option.bind_some, wrap_succ hj (by omega : S.length ≤ 9223372036854775807)], trivial⟩) (swV S T e i left) trivial
        refine hj.1.trans ?_
        have bd := fold_mnI_bd (fun j => swV S T e j (left - 1)) e (fun j => swV_bd S T e j (left - 1)) (List.range S.length) _ (swV_bd S T e i left)
        have ev : swV S T (e + 1) i left = (List.range S.length).foldl (fun b j => mnI b (swV S T e j (left - 1))) (swV S T e i left) + (if wrB (S.getD i []) T (T.length - (e + 1)) = true then 1 else 0) := by rw [swV, if_neg z]
        rw [ev]
        generalize (List.range S.length).foldl (fun b j => mnI b (swV S T e j (left - 1))) (swV S T e i left) = b at bd
        refine To.step fun k => ?_
        rw [← fin b bd.1 bd.2]
        simp only [spec_l11Switch.r1, if_neg (Int.lt_irrefl _), if_pos ci0, if_pos q1, if_pos q2, rdL1_nat, if_pos q3, if_pos q4, rd_nat, spec_l11Wrong_eq, Option.bind_some, if_pos l0, if_pos l2, w_succ hl6, Int.toNat_natCast]
        split <;> rfl
  · have e0 : T.length - d = 0 := by omega
    rw [e0]
    have er : spec_l11Switch.rowT S T m 0 i = List.replicate (m + 1) 0 := by simp [spec_l11Switch.rowT, swV, List.map_const']
    rw [er]
    have cd : decide ((d : Int) < (T.length : Int)) = false := decide_eq_false (by omega)
    refine Ev.step' (f := fun k => spec_l11Switch.rj1 k m out d i (T.length : Int) (S.length : Int) (List.replicate (m + 1) 0) ((0 : Nat) : Int) false S T) (fun k => by simp only [spec_l11Switch.r0, if_pos (show ((0 : Nat) : Int) ≤ (m : Int) by omega), cd]) ?_
    exact Ev.step' (f := fun _ => some (List.replicate (m + 1) 0)) (fun k => by simp only [spec_l11Switch.rj1, Bool.false_eq_true, if_false]) (Ev.now _)
def spec_l11Switch.tab (S : List (List Int)) (T : List Int) (m e : Nat) : List (List Int) := (List.range S.length).map (spec_l11Switch.rowT S T m e)
structure spec_l11Switch.Inv (S : List (List Int)) (T : List Int) (m c : Nat) (out : List (List (List Int))) : Prop where
  len : out.length = T.length + 1
  hi : ∀ d, c ≤ d → d ≤ T.length → out.getD d [] = spec_l11Switch.tab S T m (T.length - d)
  lo : ∀ d, d < c → out.getD d [] = []
theorem spec_l11Switch.getD_set {out : List (List (List Int))} {d : Nat} (x : List (List Int)) (h : d < out.length) (d' : Nat) : (out.set d x).getD d' [] = if d' = d then x else out.getD d' [] := by
  rw [List.getD_eq_getElem?_getD, List.getElem?_set, List.getD_eq_getElem?_getD]
  by_cases c : d = d'
  · subst c; simp [h]
  · rw [if_neg c, if_neg (fun e => c e.symm)]
theorem spec_l11Switch.o1_ev {S : List (List Int)} {T : List Int} (hp : panelB S T = true) (m : Nat) (hm : m ≤ 16) (d : Nat) (hd : d ≤ T.length) (out : List (List (List Int))) (h : spec_l11Switch.Inv S T m (d + 1) out) : ∃ out', spec_l11Switch.Inv S T m d out' ∧ Ev (fun k => spec_l11Switch.o1 k S T m out d 0) out' := by
  have ht := panel_tell hp
  have hN : S.length ≤ 17 := by omega
  have hm6 : m ≤ 1000000 := by omega
  have hd2 : d < out.length := by have := h.len; omega
  have hf := to_fold (L := fun i (s : List (List (List Int))) k => spec_l11Switch.o1 k S T m s d i) (n := S.length) (f := fun i s => s.set d (s.getD d [] ++ [spec_l11Switch.rowT S T m (T.length - d) i])) (fun i s => s.length = T.length + 1 ∧ (∀ d', d' ≠ d → s.getD d' [] = out.getD d' []) ∧ s.getD d [] = (List.range i).map (spec_l11Switch.rowT S T m (T.length - d))) (fun i s hi hs => ?_) out ⟨h.len, fun _ _ => rfl, by rw [h.lo d (by omega)]; rfl⟩
  · obtain ⟨hT, h1, h2, h3⟩ := hf
    generalize (List.range S.length).foldl (fun s i => s.set d (s.getD d [] ++ [spec_l11Switch.rowT S T m (T.length - d) i])) out = res at hT h1 h2 h3
    refine ⟨res, ⟨h1, fun d' a b => ?_, fun d' a => ?_⟩, hT _ (Ev.step' (f := fun _ => some res) (fun k => by simp only [spec_l11Switch.o1, if_neg (Int.lt_irrefl _)]) (Ev.now _))⟩
    · by_cases e : d' = d
      · subst e; exact h3
      · rw [h2 d' e]; exact h.hi d' (by omega) b
    · rw [h2 d' (by omega)]; exact h.lo d' (by omega)
  · obtain ⟨s1, s2, s3⟩ := hs
    have c1 : (i : Int) < (S.length : Int) := by omega
    have c2 : 0 ≤ (d : Int) := by omega
    have c3 : (d : Int) < (s.length : Int) := by omega
    have c4 : (s.getD d []).length < 1000000 := by rw [s3, List.length_map, List.length_range]; omega
    have hrow := spec_l11Switch.row_ev hp m hm d hd s s1 (fun q => by rw [s2 (d + 1) (by omega)]; have := h.hi (d + 1) (by omega) (by omega); rw [this]; congr 1) i hi
    refine ⟨?_, by rw [List.length_set]; exact s1, fun d' e => by rw [spec_l11Switch.getD_set _ (by omega), if_neg e]; exact s2 d' e, by rw [spec_l11Switch.getD_set _ (by omega), if_pos rfl, s3, List.range_succ, List.map_append]; rfl⟩
    refine (To.step (f := fun k => (spec_l11Switch.row k S T m s d i).bind fun y => spec_l11Switch.o1 k S T m (s.set d (s.getD d [] ++ [y])) d ((i + 1 : Nat) : Int)) (fun k => by simp only [spec_l11Switch.o1, if_pos c1, if_pos c2, if_pos c3, Int.toNat_natCast, if_pos c4, wrap_succ hi (by omega : S.length ≤ 9223372036854775807)])).trans (To.bind hrow)
theorem spec_l11Switch.o0_ev {S : List (List Int)} {T : List Int} (hp : panelB S T = true) (m : Nat) (hm : m ≤ 16) : ∀ (c : Nat) (out : List (List (List Int))), c ≤ T.length + 1 → spec_l11Switch.Inv S T m c out → ∃ out', spec_l11Switch.Inv S T m 0 out' ∧ Ev (fun k => spec_l11Switch.o0 k S T m out ((c : Int) - 1)) out'
  | 0, out, _, h => ⟨out, h, Ev.step' (f := fun _ => some out) (fun k => by simp only [spec_l11Switch.o0, if_neg (show ¬ (((0 : Nat) : Int) - 1 ≥ 0) by omega)]) (Ev.now _)⟩
  | c + 1, out, hc, h => by
    obtain ⟨o1, i1, e1⟩ := spec_l11Switch.o1_ev hp m hm c (by omega) out h
    obtain ⟨o2, i2, e2⟩ := spec_l11Switch.o0_ev hp m hm c o1 (by omega) i1
    have ht := panel_tell hp
    refine ⟨o2, i2, Ev.step' (f := fun k => (spec_l11Switch.o1 k S T m out (c : Int) 0).bind fun y => spec_l11Switch.o0 k S T m y ((c : Int) - 1)) (fun k => ?_) (Ev.bind e1 e2)⟩
    have e : (((c + 1 : Nat) : Int) - 1) = (c : Int) := by omega
    have ew : wrap64 ((c : Int) - 1) = (c : Int) - 1 := wrap_id (by omega) (by omega)
    simp only [spec_l11Switch.o0, e, if_pos (show (c : Int) ≥ 0 by omega), ew]
theorem spec_l11Switch_ev {S : List (List Int)} {T : List Int} (hp : panelB S T = true) (m : Nat) (hm : m ≤ 16) : ∃ out, 0 < out.length ∧ out.getD 0 [] = spec_l11Switch.tab S T m T.length ∧ Ev (fun k => spec_l11Switch.f k S T m) out := by
  have ht := panel_tell hp
  obtain ⟨out, hi, he⟩ := spec_l11Switch.o0_ev hp m hm (T.length + 1) (List.replicate (T.length + 1) []) (Nat.le_refl _) ⟨List.length_replicate, fun d a b => by omega, fun d a => by simp [List.getD_eq_getElem?_getD, List.getElem?_replicate, a]⟩
  refine ⟨out, by rw [hi.len]; omega, by rw [hi.hi 0 (Nat.le_refl _) (by omega), Nat.sub_zero], Ev.congr (fun k => ?_) he⟩
  have c : T.length < 1000000 := by omega
  have e : (((T.length + 1 : Nat) : Int) - 1) = (T.length : Int) := by omega
  simp only [spec_l11Switch.f, if_pos c, e]

def switchWrongM (S : List (List Int)) (T : List Int) (m : Int) : Int × Bool := if (panelB S T && inR 0 16 m) = true then (beginM (fun i => swV S T T.length i m.toNat) S.length, true) else (0, false)
theorem spec_SwitchWrong_ev (S : List (List Int)) (T : List Int) (m : Int) (h : S.length ≤ maxLen) (hi : ∀ x ∈ S, x.length ≤ maxLen) (hT : T.length ≤ maxLen) : Ev (fun k => spec_SwitchWrong.f k S T m) (switchWrongM S T m) := by
  refine Ev.bind (spec_l11Panel_ev S T h hi hT) ?_
  unfold switchWrongM
  cases hp : panelB S T with
  | false =>
    simp only [Bool.false_eq_true, if_false, Bool.false_and]
    exact Ev.step' (f := fun _ => some (0, false)) (fun k => by simp only [spec_SwitchWrong.j0, if_true]) (Ev.now _)
  | true =>
    simp only [if_true, Bool.true_and, spec_l1In_eq, Option.bind_some]
    cases hm : inR 0 16 m with
    | false =>
      simp only [Bool.false_eq_true, if_false]
      exact Ev.step' (f := fun _ => some (0, false)) (fun k => by simp only [spec_SwitchWrong.j0, Bool.not_false, if_true]) (Ev.now _)
    | true =>
      simp only [if_true]
      have h5 := (inR_iff _ _ _).1 hm
      obtain ⟨mm, rfl⟩ : ∃ mm : Nat, m = mm := ⟨m.toNat, by omega⟩
      have ht := panel_tell hp
      obtain ⟨out, o1, o2, o3⟩ := spec_l11Switch_ev hp mm (by omega)
      rw [Int.toNat_natCast]
      have c0 : 0 < (out.length : Int) := by omega
      have r2 : rd_L2 out 0 = (List.range S.length).map (fun i => (List.range (mm + 1)).map (swV S T T.length i)) := by have := rdL2_nat out 0; rw [o2] at this; exact this
      refine Ev.step' (f := fun k => (spec_l11Switch.f k S T (mm : Int)).bind fun t => if 0 < (t.length : Int) then (spec_l11Begin.f k (rd_L2 t 0) (mm : Int)).bind fun u => some (u, true) else none) (fun k => by simp only [spec_SwitchWrong.j0, Bool.not_true, Bool.false_eq_true, if_false]) ?_
      refine Ev.bind o3 ?_
      simp only [if_pos c0, r2]
      exact Ev.bind (spec_l11Begin_ev (fun i => swV S T T.length i) S.length mm (by omega) (by omega) (by omega)) (Ev.now _)

theorem laws_toIntS_ev (l : List Int) (h : l.length ≤ 1048576) : Ev (fun k => laws_toIntS.f k l) l := by
  have hw : wrap64 (l.length : Int) = l.length := wrap_id (by omega) (by omega)
  have c0 : 0 ≤ (l.length : Int) := by omega
  have e : ∀ k, laws_toIntS.f k l = laws_toIntS.l0 k l (List.replicate l.length 0) 0 := fun k => by
    simp only [laws_toIntS.f, if_pos c0, Int.toNat_natCast]; rw [if_pos (by omega)]
  refine Ev.congr e ?_
  have hf := to_fold (L := fun i (s : List Int) k => laws_toIntS.l0 k l s i) (n := l.length) (f := fun i s => s.set i (l.getD i 0)) (fun i s => s = l.take i ++ List.replicate (l.length - i) 0) (fun i s hi hs => ⟨To.step fun k => ?_, ?_⟩) (List.replicate l.length 0) (by simp)
  · refine hf.1 _ (Ev.step' (f := fun _ => some l) (fun k => ?_) (Ev.now _))
    have := hf.2
    rw [Nat.sub_self, List.take_length, List.replicate_zero, List.append_nil] at this
    show laws_toIntS.l0 (k + 1) l _ _ = _
    rw [this]
    simp only [laws_toIntS.l0, if_neg (Int.lt_irrefl _)]
  · have c1 : (i : Int) < (l.length : Int) := by omega
    have c2 : (i : Int) < (s.length : Int) := by rw [hs, List.length_append, List.length_take, List.length_replicate]; omega
    have c3 : 0 ≤ (i : Int) := by omega
    simp only [laws_toIntS.l0, if_pos c1, if_pos c2, if_pos c3, rd_nat, Int.toNat_natCast, wrap_succ hi (by omega : l.length ≤ 9223372036854775807)]
  · show List.set s i _ = _
    rw [hs]; exact set_step l 0 0 i hi

theorem laws_toIntSS_ev (l : List (List Int)) (h : l.length ≤ 1048576) (hi : ∀ x ∈ l, x.length ≤ 1048576) : Ev (fun k => laws_toIntSS.f k l) l := by
  have c0 : 0 ≤ (l.length : Int) := by omega
  have e : ∀ k, laws_toIntSS.f k l = laws_toIntSS.l0 k l (List.replicate l.length []) 0 := fun k => by
    simp only [laws_toIntSS.f, if_pos c0, Int.toNat_natCast]; rw [if_pos (by omega)]
  refine Ev.congr e ?_
  have hf := to_fold (L := fun i (s : List (List Int)) k => laws_toIntSS.l0 k l s i) (n := l.length) (f := fun i s => s.set i (l.getD i [])) (fun i s => s = l.take i ++ List.replicate (l.length - i) []) (fun i s hi2 hs => ⟨?_, ?_⟩) (List.replicate l.length []) (by simp)
  · refine hf.1 _ (Ev.step' (f := fun _ => some l) (fun k => ?_) (Ev.now _))
    have := hf.2
    rw [Nat.sub_self, List.take_length, List.replicate_zero, List.append_nil] at this
    show laws_toIntSS.l0 (k + 1) l _ _ = _
    rw [this]
    simp only [laws_toIntSS.l0, if_neg (Int.lt_irrefl _)]
  · have c1 : (i : Int) < (l.length : Int) := by omega
    have c2 : (i : Int) < (s.length : Int) := by rw [hs, List.length_append, List.length_take, List.length_replicate]; omega
    have c3 : 0 ≤ (i : Int) := by omega
    refine (To.step (f := fun k => (laws_toIntS.f k (l.getD i [])).bind fun t => laws_toIntSS.l0 k l (s.set i t) ((i + 1 : Nat) : Int)) (fun k => ?_)).trans (To.bind (laws_toIntS_ev _ (hi _ (getD_mem hi2 []))))
    simp only [laws_toIntSS.l0, if_pos c1, if_pos c2, if_pos c3, rdL1_nat, Int.toNat_natCast, wrap_succ hi2 (by omega : l.length ≤ 9223372036854775807)]
  · show List.set s i _ = _
    rw [hs]; exact set_step l [] [] i hi2

theorem laws_toPanel_ev (P : List (List Int)) (L : List Int) (h : P.length ≤ 1048576) (hi : ∀ x ∈ P, x.length ≤ 1048576) (hL : L.length ≤ 1048576) : Ev (fun k => laws_toPanel.f k P L) (P, L) := Ev.bind (laws_toIntSS_ev P h hi) (Ev.bind (laws_toIntS_ev L hL) (Ev.now _))

theorem impl_within_eq (x a b : Int) : impl_within.f x a b = some (inR a b x) := in_tells a b x

theorem impl_allWithin_ev (l : List Int) (a b : Int) (h : l.length ≤ maxLen) : Ev (fun k => impl_allWithin.f k l a b) (l.all (inR a b)) := by
  unfold maxLen at h
  rw [← range_all l (inR a b) 0]
  refine ev_all (L := fun i k => impl_allWithin.l0 k a b l (l.length : Int) i) (fun i hi hp => To.step fun k => ?_) (fun i hi hp => Ev.step' (f := fun _ => some false) (fun k => ?_) (Ev.now _)) (Ev.step' (f := fun _ => some true) (fun k => ?_) (Ev.now _))
  · have c1 : (i : Int) < (l.length : Int) := by omega
    have c0 : 0 ≤ (i : Int) := by omega
    simp only [impl_allWithin.l0, if_pos c1, if_pos c0, impl_within_eq, rd_nat, hp, Option.bind_some, if_true, wrap_succ hi h]
  · have c1 : (i : Int) < (l.length : Int) := by omega
    have c0 : 0 ≤ (i : Int) := by omega
    simp only [impl_allWithin.l0, if_pos c1, if_pos c0, impl_within_eq, rd_nat, hp, Option.bind_some, Bool.false_eq_true, if_false]
  · simp only [impl_allWithin.l0, if_neg (Int.lt_irrefl _)]

theorem impl_isLabel_eq (x : Int) : impl_isLabel.f x = some (isLab x) := by
  unfold impl_isLabel.f isLab
  by_cases e : x = 1
  · rw [if_pos e]; simp [e]
  · rw [if_neg e, decide_eq_false e, Bool.false_or]; rfl

theorem impl_areLabels_ev (l : List Int) (h : l.length ≤ maxLen) : Ev (fun k => impl_areLabels.f k l) (l.all (isLab) && true) := by
  have h' : l.length ≤ 9223372036854775807 := h
  refine ev_list 0 l (fun i (_ : Unit) k => impl_areLabels.l0 k l (l.length : Int) i) (fun _ ys _ => ys.all (isLab) && true) (fun _ _ => True) (fun _ _ => ?_) (fun i x ys _ hi hx hm _ ih => ?_) () trivial
  · exact Ev.step' (f := fun _ => some true) (fun k => by simp only [impl_areLabels.l0, if_neg (Int.lt_irrefl _)]) (Ev.now _)
  · have c1 : (i : Int) < (l.length : Int) := by omega
    have c0 : 0 ≤ (i : Int) := by omega
    simp only [List.all_cons, Bool.and_assoc]
    cases hq : (isLab) x with
    | false => exact Ev.step' (f := fun _ => some false) (fun k => by simp only [impl_areLabels.l0, if_pos c1, if_pos c0, rd_nat, hx, impl_isLabel_eq, hq, Option.bind_some, Bool.false_eq_true, if_false]) (Ev.now _)
    | true => exact Ev.step' (f := fun k => impl_areLabels.l0 k l (l.length : Int) ((i + 1 : Nat) : Int)) (fun k => by simp only [impl_areLabels.l0, if_pos c1, if_pos c0, rd_nat, hx, impl_isLabel_eq, hq, Option.bind_some, if_true, wrap_succ hi h']) (ih () trivial)

theorem impl_IsPanel_j0 (S : List (List Int)) (T : List Int) (h : S.length ≤ maxLen) (hi : ∀ x ∈ S, x.length ≤ maxLen) : Ev (fun k => impl_IsPanel.j0 k false S T) (S.all (fun x => decide (x.length = T.length) && x.all (inR (-1) 1))) := by
  have h' : S.length ≤ 9223372036854775807 := h
  refine Ev.step' (f := fun k => impl_IsPanel.l0 k S (S.length : Int) 0 S T) (fun k => by simp only [impl_IsPanel.j0, Bool.false_eq_true, if_false]) ?_
  refine ev_list [] S (fun i (_ : Unit) k => impl_IsPanel.l0 k S (S.length : Int) i S T) (fun _ ys _ => ys.all (fun x => decide (x.length = T.length) && x.all (inR (-1) 1))) (fun _ _ => True) (fun _ _ => ?_) (fun i x ys _ hi2 hx hm _ ih => ?_) () trivial
  · exact Ev.step' (f := fun _ => some true) (fun k => by simp only [impl_IsPanel.l0, if_neg (Int.lt_irrefl _)]) (Ev.now _)
  · have c1 : (i : Int) < (S.length : Int) := by omega
    have c0 : 0 ≤ (i : Int) := by omega
    rw [List.all_cons, Bool.and_assoc]
    by_cases c : x.length = T.length
    · rw [decide_eq_true c, Bool.true_and]
      refine Ev.step' (f := fun k => (impl_allWithin.f k x (-1) 1).bind fun t => if t = true then impl_IsPanel.l0 k S (S.length : Int) ((i + 1 : Nat) : Int) S T else some false) (fun k => by simp only [impl_IsPanel.l0, if_pos c1, if_pos c0, rdL1_nat, hx, if_pos (show (x.length : Int) = (T.length : Int) by omega), wrap_succ hi2 h']) ?_
      refine Ev.bind (impl_allWithin_ev x (-1) 1 (hi x hm)) ?_
      cases x.all (inR (-1) 1) with
      | false => exact Ev.now _
      | true => simp only [if_true, Bool.true_and]; exact ih () trivial
    · rw [decide_eq_false c, Bool.false_and]
      exact Ev.step' (f := fun _ => some false) (fun k => by simp only [impl_IsPanel.l0, if_pos c1, if_pos c0, rdL1_nat, hx, if_neg (show ¬ (x.length : Int) = (T.length : Int) by omega)]) (Ev.now _)
theorem impl_IsPanel_ev (S : List (List Int)) (T : List Int) (h : S.length ≤ maxLen) (hi : ∀ x ∈ S, x.length ≤ maxLen) (hT : T.length ≤ maxLen) : Ev (fun k => impl_IsPanel.f k S T) (panelB S T) := by
  have no : Ev (fun k => impl_IsPanel.j0 k true S T) false := Ev.step' (f := fun _ => some false) (fun k => by simp only [impl_IsPanel.j0, if_true]) (Ev.now _)
  unfold panelB
  refine Ev.congr (f := fun k => if inR 1 8 S.length = true then (if (T.length : Int) > 16 then impl_IsPanel.j0 k true S T else (impl_areLabels.f k T).bind fun t => impl_IsPanel.j0 k (!t) S T) else impl_IsPanel.j0 k true S T) (fun k => by simp only [impl_IsPanel.f, impl_within_eq, Option.bind_some]) ?_
  cases inR 1 8 S.length with
  | false => simp only [Bool.false_eq_true, if_false]; exact no
  | true =>
    simp only [if_true, Bool.true_and]
    by_cases c : T.length ≤ 16
    · simp only [if_neg (show ¬ (T.length : Int) > 16 by omega), decide_eq_true c, Bool.true_and]
      refine Ev.bind (ev_eq (impl_areLabels_ev T hT) (Bool.and_true _)) ?_
      cases T.all isLab with
      | false => exact no
      | true => exact impl_IsPanel_j0 S T h hi
    · simp only [if_pos (show (T.length : Int) > 16 by omega), decide_eq_false c, Bool.false_and]
      exact no

theorem slices_Min_ev (l : List Int) (r : Nat) (hr : Fst l l.length r) (h : l.length ≤ maxLen) : Ev (fun k => slices_Min_int_int.f k l) (l.getD r 0) := by
  have h' : l.length ≤ 9223372036854775807 := h
  have hr1 := hr.1
  have key : ∀ (d j : Nat) (m : Int), j + d = l.length → (∃ i, i < j ∧ l.getD i 0 = m) → (∀ i, i < j → m ≤ l.getD i 0) → Ev (fun k => slices_Min_int_int.l0 k l m j) (l.getD r 0) := by
    intro d
    induction d with
    | zero =>
      intro j m hd ⟨i, hi, he⟩ hb
      obtain rfl : j = l.length := by omega
      have e : m = l.getD r 0 := by have := hb r hr1; have := hr.2.1 i hi; omega
      rw [← e]
      exact Ev.step' (f := fun _ => some m) (fun k => by simp only [slices_Min_int_int.l0, if_neg (Int.lt_irrefl _)]) (Ev.now _)
    | succ d ih =>
      intro j m hd ⟨i, hi, he⟩ hb
      have c1 : (j : Int) < (l.length : Int) := by omega
      have c2 : 0 ≤ (j : Int) := by omega
      have hw : wrap64 ((j : Int) + 1) = ((j + 1 : Nat) : Int) := wrap_succ (by omega : j < l.length) h'
      refine Ev.step' (fun k => by simp only [slices_Min_int_int.l0, if_pos c1, if_pos c2, rd_nat, hw]) (ih (j + 1) (mn m (l.getD j 0)) (by omega) ?_ ?_)
      · unfold mn
        by_cases c : l.getD j 0 < m
        · rw [if_pos c]; exact ⟨j, by omega, rfl⟩
        · rw [if_neg c]; exact ⟨i, by omega, he⟩
      · intro q hq
        have hm : mn m (l.getD j 0) ≤ m ∧ mn m (l.getD j 0) ≤ l.getD j 0 := by
          unfold mn; split <;> omega
        by_cases e : q = j
        · subst e; exact hm.2
        · have := hb q (by omega); omega
  have c0 : ¬ (l.length : Int) < 1 := by omega
  have c1 : 0 < (l.length : Int) := by omega
  have e0 : rd l 0 = l.getD 0 0 := rd_nat l 0
  have kk := key (l.length - 1) 1 (l.getD 0 0) (by omega) ⟨0, by omega, rfl⟩ (fun i hi => by
    obtain rfl : i = 0 := (by omega)
    exact Int.le_refl _)
  exact Ev.congr (f := fun k => slices_Min_int_int.l0 k l (l.getD 0 0) ((1 : Nat) : Int)) (fun k => by
    simp only [slices_Min_int_int.f, if_neg c0, if_pos c1, e0]
    rfl) kk

theorem impl_Panel_wrong_eq (S : List (List Int)) (T : List Int) (hp : panelB S T = true) (i d : Nat) (hi : i < S.length) (hd : d < T.length) : impl_Panel_wrong.f S T i d = some (wrB (S.getD i []) T d) := by
  have ht := panel_tell hp
  have hx := ht.2.2.2.2 _ (getD_mem hi [])
  have c1 : 0 ≤ (i : Int) := by omega
  have c2 : (i : Int) < (S.length : Int) := by omega
  have c3 : 0 ≤ (d : Int) := by omega
  have c4 : (d : Int) < ((S.getD i []).length : Int) := by omega
  have c5 : (d : Int) < (T.length : Int) := by omega
  simp only [impl_Panel_wrong.f, if_pos c1, if_pos c2, if_pos c3, rdL1_nat, if_pos c4, if_pos c5, rd_nat]
  rw [wrB_alt (hx.2 _ (getD_mem (by omega) 0)) (ht.2.2.2.1 _ (getD_mem hd 0))]

def impl_Panel_switches.rowT (S : List (List Int)) (T : List Int) (m e left : Nat) : List Int := (List.range S.length).map (fun i => swV S T e i left)
theorem min_begin (g : Nat → Int) (n : Nat) (h : 0 < n) (hn : n ≤ 1000) : Ev (fun k => slices_Min_int_int.f k ((List.range n).map g)) (beginM g n) := by
  have hl : ((List.range n).map g).length = n := by simp
  obtain ⟨r, hr⟩ := fst_ex ((List.range n).map g) n h
  rw [← fst_begin g n r h hr]
  exact slices_Min_ev _ r (by rw [hl]; exact hr) (by rw [hl]; unfold maxLen; omega)
theorem impl_Panel_switches.row_ev {S : List (List Int)} {T : List Int} (hp : panelB S T = true) (m : Nat) (hm : m ≤ 16) (d : Nat) (hd : d ≤ T.length) (out : List (List (List Int))) (hl : out.length = T.length + 1) (ho : d < T.length → out.getD (d + 1) [] = (List.range (m + 1)).map (impl_Panel_switches.rowT S T m (T.length - d - 1))) (left : Nat) (hlt : left < m + 1) : Ev (fun k => impl_Panel_switches.row k S T m out d left) (impl_Panel_switches.rowT S T m (T.length - d) left) := by
  have ht := panel_tell hp
  have hd6 : d ≤ 1000000 := by omega
  have hl6 : left ≤ 1000000 := by omega
  have g0 : 0 ≤ (S.length : Int) := by omega
  have g1 : S.length ≤ 35184372088832 := by omega
  refine Ev.congr (f := fun k => impl_Panel_switches.r0 k out d (T.length : Int) left (List.replicate S.length 0) (S.length : Int) ((0 : Nat) : Int) S T) (fun k => by simp only [impl_Panel_switches.row, if_pos g0, Int.toNat_natCast, if_pos g1, Option.bind_some, List.length_replicate]; rfl) ?_
  by_cases c : d < T.length
  · obtain ⟨e, he⟩ : ∃ e, T.length - d = e + 1 := ⟨T.length - d - 1, by omega⟩
    have hde : d = T.length - (e + 1) := by omega
    have ho2 := ho c
    rw [he, Nat.add_sub_cancel] at ho2
    rw [he]
    have r2 : rd_L2 out ((d + 1 : Nat) : Int) = (List.range (m + 1)).map (impl_Panel_switches.rowT S T m e) := by rw [rdL2_nat]; exact ho2
    have cd0 : 0 ≤ ((d + 1 : Nat) : Int) := by omega
    have cd1 : ((d + 1 : Nat) : Int) < (out.length : Int) := by omega
    have r1 : ∀ l, l < m + 1 → rd_L1 ((List.range (m + 1)).map (impl_Panel_switches.rowT S T m e)) (l : Int) = impl_Panel_switches.rowT S T m e l := fun l hl2 => by rw [rdL1_nat]; exact getD_map _ _ _ hl2
    have rlen : ∀ l, (impl_Panel_switches.rowT S T m e l).length = S.length := fun l => by simp [impl_Panel_switches.rowT]
    have rat : ∀ l i, i < S.length → rd (impl_Panel_switches.rowT S T m e l) (i : Int) = swV S T e i l := fun l i hi => by rw [rd_nat]; exact getD_mapI _ _ _ hi
    have l0 : 0 ≤ (left : Int) := by omega
    have l1 : (left : Int) < (((List.range (m + 1)).map (impl_Panel_switches.rowT S T m e)).length : Int) := by simp; omega
    have nd : ¬ (d : Int) = (T.length : Int) := by omega
    have hf := to_fold (L := fun i (s : List Int) k => impl_Panel_switches.r0 k out d (T.length : Int) left s (S.length : Int) i S T) (n := S.length) (f := fun i s => s.set i (swV S T (e + 1) i left)) (fun i s => s.length = S.length) (fun i s hi hs => ⟨?_, by rw [List.length_set]; exact hs⟩) (List.replicate S.length 0) List.length_replicate
    · refine hf.1 _ ?_
      rw [set_fold _ _ _ (by rw [List.length_replicate]; exact Nat.le_refl _), List.drop_of_length_le (by rw [List.length_replicate]; exact Nat.le_refl _), List.append_nil]
      exact Ev.step' (f := fun _ => some ((List.range S.length).map (fun i => swV S T (e + 1) i left))) (fun k => by simp only [impl_Panel_switches.r0, if_neg (Int.lt_irrefl _)]) (Ev.now _)
    · have i0 : 0 ≤ (i : Int) := by omega
      have i1 : (i : Int) < (S.length : Int) := by omega
      have i2 : (i : Int) < ((impl_Panel_switches.rowT S T m e left).length : Int) := by rw [rlen]; omega
      have i3 : (i : Int) < (s.length : Int) := by omega
      have hi3 : i < s.length := by omega
      have hwrong := impl_Panel_wrong_eq S T hp i d hi c
      have rs : ∀ v : Int, rd (s.set i v) (i : Int) = v := fun v => by rw [rd_nat, List.getD_eq_getElem?_getD, List.getElem?_set]; simp [hi3]
      have fin : ∀ (b : Int), 0 ≤ b → b ≤ e → (if wrB (S.getD i []) T d = true then (s.set i b).set i (wrap64 (b + 1)) else s.set i b) = s.set i (b + (if wrB (S.getD i []) T (T.length - (e + 1)) = true then 1 else 0)) := fun b b0 b1 => by
        rw [← hde]
        split
        · rw [List.set_set, wrap_id (by omega) (by omega)]
        · rw [Int.add_zero]
      by_cases z : left = 0
      · subst z
        have bd := swV_bd S T e i 0
        refine To.step fun k => ?_
        rw [swV, if_pos rfl, ← fin _ bd.1 bd.2]
        simp only [impl_Panel_switches.r0, if_pos i1, if_neg nd, w_succ hd6, if_pos cd0, if_pos cd1, r2, if_pos l0, if_pos l1, r1 0 hlt, if_pos i0, if_pos i2, rat 0 i hi, if_pos i3, Option.bind_some, Int.toNat_natCast, if_neg (show ¬ ((0 : Nat) : Int) > 0 by omega), hwrong, rs, wrap_succ hi (by omega : S.length ≤ 9223372036854775807)]
        split <;> rfl
      · have z0 : 0 < left := by omega
        have z1 : (left : Int) > 0 := by omega
        have m0 : 0 ≤ ((left - 1 : Nat) : Int) := by omega
        have m1 : ((left - 1 : Nat) : Int) < (((List.range (m + 1)).map (impl_Panel_switches.rowT S T m e)).length : Int) := by simp; omega
        have bd := fold_mnI_bd (fun j => swV S T e j (left - 1)) e (fun j => swV_bd S T e j (left - 1)) (List.range S.length) _ (swV_bd S T e i left)
        have eb : mn (swV S T e i left) (beginM (fun j => swV S T e j (left - 1)) S.length) = (List.range S.length).foldl (fun b j => mnI b (swV S T e j (left - 1))) (swV S T e i left) := by
          obtain ⟨a1, a2, a3⟩ := fold_mnI_tell (fun j => swV S T e j (left - 1)) (swV S T e i left) S.length
          obtain ⟨b1, q, hq, b2⟩ := beginM_tell (fun j => swV S T e j (left - 1)) S.length (by omega)
          have a4 := a2 q hq
          try simp only at b1 b2 a2 a3 a4
          generalize (List.range S.length).foldl (fun b j => mnI b (swV S T e j (left - 1))) (swV S T e i left) = F at a1 a2 a3 a4
          generalize beginM (fun j => swV S T e j (left - 1)) S.length = B at b1 b2
          unfold mn
          rcases a3 with a3 | ⟨p, hp2, a3⟩
          · split <;> omega
          · have := b1 p hp2
            split <;> omega
        have ev : swV S T (e + 1) i left = (List.range S.length).foldl (fun b j => mnI b (swV S T e j (left - 1))) (swV S T e i left) + (if wrB (S.getD i []) T (T.length - (e + 1)) = true then 1 else 0) := by rw [swV, if_neg z]
        rw [ev, ← fin _ bd.1 bd.2, ← eb]
        refine (To.step (f := fun k => (slices_Min_int_int.f k (impl_Panel_switches.rowT S T m e (left - 1))).bind fun M => if wrB (S.getD i []) T d = true then impl_Panel_switches.r0 k out d (T.length : Int) left ((s.set i (mn (swV S T e i left) M)).set i (wrap64 (mn (swV S T e i left) M + 1))) (S.length : Int) ((i + 1 : Nat) : Int) S T else impl_Panel_switches.r0 k out d (T.length : Int) left (s.set i (mn (swV S T e i left) M)) (S.length : Int) ((i + 1 : Nat) : Int) S T) (fun k => ?_)).trans ?_
        · simp only [impl_Panel_switches.r0, if_pos i1, if_neg nd, w_succ hd6, if_pos cd0, if_pos cd1, r2, if_pos l0, if_pos l1, r1 left hlt, if_pos i0, if_pos i2, rat left i hi, if_pos i3, Option.bind_some, Int.toNat_natCast, if_pos z1, w_pred hl6 z0, if_pos m0, if_pos m1, r1 (left - 1) (by omega), hwrong, rs, List.set_set, wrap_succ hi (by omega : S.length ≤ 9223372036854775807)]
        · refine (To.bind (min_begin (fun j => swV S T e j (left - 1)) S.length (by omega) (by omega))).trans (To.congr fun k => ?_)
          split <;> rfl
  · have e0 : T.length - d = 0 := by omega
    rw [e0]
    have er : impl_Panel_switches.rowT S T m 0 left = List.replicate S.length 0 := by simp [impl_Panel_switches.rowT, swV, List.map_const']
    rw [er]
    have nd : (d : Int) = (T.length : Int) := by omega
    have hf := to_fold (L := fun i (s : List Int) k => impl_Panel_switches.r0 k out d (T.length : Int) left s (S.length : Int) i S T) (n := S.length) (f := fun i s => s) (fun _ _ => True) (fun i s hi _ => ⟨To.step fun k => by
      have i1 : (i : Int) < (S.length : Int) := by omega
      simp only [impl_Panel_switches.r0, if_pos i1, if_pos nd, wrap_succ hi (by omega : S.length ≤ 9223372036854775807)], trivial⟩) (List.replicate S.length 0) trivial
    have ef : (List.range S.length).foldl (fun s (_ : Nat) => s) (List.replicate S.length (0 : Int)) = List.replicate S.length 0 := by
      generalize List.range S.length = l
      induction l with
      | nil => rfl
      | cons _ _ ih => exact ih
    refine hf.1 _ ?_
    rw [ef]
    exact Ev.step' (f := fun _ => some (List.replicate S.length 0)) (fun k => by simp only [impl_Panel_switches.r0, if_neg (Int.lt_irrefl _)]) (Ev.now _)
def impl_Panel_switches.tab (S : List (List Int)) (T : List Int) (m e : Nat) : List (List Int) := (List.range (m + 1)).map (impl_Panel_switches.rowT S T m e)
structure impl_Panel_switches.Inv (S : List (List Int)) (T : List Int) (m c : Nat) (out : List (List (List Int))) : Prop where
  len : out.length = T.length + 1
  hi : ∀ d, c ≤ d → d ≤ T.length → out.getD d [] = impl_Panel_switches.tab S T m (T.length - d)
  lo : ∀ d, d < c → out.getD d [] = []
theorem impl_Panel_switches.getD_set {out : List (List (List Int))} {d : Nat} (x : List (List Int)) (h : d < out.length) (d' : Nat) : (out.set d x).getD d' [] = if d' = d then x else out.getD d' [] := by
  rw [List.getD_eq_getElem?_getD, List.getElem?_set, List.getD_eq_getElem?_getD]
  by_cases c : d = d'
  · subst c; simp [h]
  · rw [if_neg c, if_neg (fun e => c e.symm)]
theorem impl_Panel_switches.o1_ev {S : List (List Int)} {T : List Int} (hp : panelB S T = true) (m : Nat) (hm : m ≤ 16) (d : Nat) (hd : d ≤ T.length) (out : List (List (List Int))) (h : impl_Panel_switches.Inv S T m (d + 1) out) : ∃ out', impl_Panel_switches.Inv S T m d out' ∧ Ev (fun k => impl_Panel_switches.o1 k S T m out d 0) out' := by
  have ht := panel_tell hp
  have hN : (m + 1) ≤ 17 := by omega
  have hm6 : m ≤ 1000000 := by omega
  have hd2 : d < out.length := by have := h.len; omega
  have hf := to_fold (L := fun i (s : List (List (List Int))) k => impl_Panel_switches.o1 k S T m s d i) (n := (m + 1)) (f := fun i s => s.set d (s.getD d [] ++ [impl_Panel_switches.rowT S T m (T.length - d) i])) (fun i s => s.length = T.length + 1 ∧ (∀ d', d' ≠ d → s.getD d' [] = out.getD d' []) ∧ s.getD d [] = (List.range i).map (impl_Panel_switches.rowT S T m (T.length - d))) (fun i s hi hs => ?_) out ⟨h.len, fun _ _ => rfl, by rw [h.lo d (by omega)]; rfl⟩
  · obtain ⟨hT, h1, h2, h3⟩ := hf
    generalize (List.range (m + 1)).foldl (fun s i => s.set d (s.getD d [] ++ [impl_Panel_switches.rowT S T m (T.length - d) i])) out = res at hT h1 h2 h3
    refine ⟨res, ⟨h1, fun d' a b => ?_, fun d' a => ?_⟩, hT _ (Ev.step' (f := fun _ => some res) (fun k => by simp only [impl_Panel_switches.o1, w_succ hm6, if_neg (Int.lt_irrefl _)]) (Ev.now _))⟩
    · by_cases e : d' = d
      · subst e; exact h3
      · rw [h2 d' e]; exact h.hi d' (by omega) b
    · rw [h2 d' (by omega)]; exact h.lo d' (by omega)
  · obtain ⟨s1, s2, s3⟩ := hs
    have c1 : (i : Int) < ((m + 1 : Nat) : Int) := by omega
    have c2 : 0 ≤ (d : Int) := by omega
    have c3 : (d : Int) < (s.length : Int) := by omega
    have c4 : (s.getD d []).length < 1000000 := by rw [s3, List.length_map, List.length_range]; omega
    have hrow := impl_Panel_switches.row_ev hp m hm d hd s s1 (fun q => by rw [s2 (d + 1) (by omega)]; have := h.hi (d + 1) (by omega) (by omega); rw [this]; congr 1) i hi
    refine ⟨?_, by rw [List.length_set]; exact s1, fun d' e => by rw [impl_Panel_switches.getD_set _ (by omega), if_neg e]; exact s2 d' e, by rw [impl_Panel_switches.getD_set _ (by omega), if_pos rfl, s3, List.range_succ, List.map_append]; rfl⟩
    refine (To.step (f := fun k => (impl_Panel_switches.row k S T m s d i).bind fun y => impl_Panel_switches.o1 k S T m (s.set d (s.getD d [] ++ [y])) d ((i + 1 : Nat) : Int)) (fun k => by simp only [impl_Panel_switches.o1, w_succ hm6, if_pos c1, if_pos c2, if_pos c3, Int.toNat_natCast, if_pos c4, wrap_succ hi (by omega : (m + 1) ≤ 9223372036854775807)])).trans (To.bind hrow)
theorem impl_Panel_switches.o0_ev {S : List (List Int)} {T : List Int} (hp : panelB S T = true) (m : Nat) (hm : m ≤ 16) : ∀ (c : Nat) (out : List (List (List Int))), c ≤ T.length + 1 → impl_Panel_switches.Inv S T m c out → ∃ out', impl_Panel_switches.Inv S T m 0 out' ∧ Ev (fun k => impl_Panel_switches.o0 k S T m out ((c : Int) - 1)) out'
  | 0, out, _, h => ⟨out, h, Ev.step' (f := fun _ => some out) (fun k => by simp only [impl_Panel_switches.o0, if_neg (show ¬ (((0 : Nat) : Int) - 1 ≥ 0) by omega)]) (Ev.now _)⟩
  | c + 1, out, hc, h => by
    obtain ⟨o1, i1, e1⟩ := impl_Panel_switches.o1_ev hp m hm c (by omega) out h
    obtain ⟨o2, i2, e2⟩ := impl_Panel_switches.o0_ev hp m hm c o1 (by omega) i1
    have ht := panel_tell hp
    refine ⟨o2, i2, Ev.step' (f := fun k => (impl_Panel_switches.o1 k S T m out (c : Int) 0).bind fun y => impl_Panel_switches.o0 k S T m y ((c : Int) - 1)) (fun k => ?_) (Ev.bind e1 e2)⟩
    have e : (((c + 1 : Nat) : Int) - 1) = (c : Int) := by omega
    have ew : wrap64 ((c : Int) - 1) = (c : Int) - 1 := wrap_id (by omega) (by omega)
    simp only [impl_Panel_switches.o0, e, if_pos (show (c : Int) ≥ 0 by omega), ew]
theorem impl_Panel_switches_ev {S : List (List Int)} {T : List Int} (hp : panelB S T = true) (m : Nat) (hm : m ≤ 16) : ∃ out, 0 < out.length ∧ out.getD 0 [] = impl_Panel_switches.tab S T m T.length ∧ Ev (fun k => impl_Panel_switches.f k S T m) out := by
  have ht := panel_tell hp
  obtain ⟨out, hi, he⟩ := impl_Panel_switches.o0_ev hp m hm (T.length + 1) (List.replicate (T.length + 1) []) (Nat.le_refl _) ⟨List.length_replicate, fun d a b => by omega, fun d a => by simp [List.getD_eq_getElem?_getD, List.getElem?_replicate, a]⟩
  refine ⟨out, by rw [hi.len]; omega, by rw [hi.hi 0 (Nat.le_refl _) (by omega), Nat.sub_zero], Ev.congr (fun k => ?_) he⟩
  have c : T.length < 1000000 := by omega
  have e : (((T.length + 1 : Nat) : Int) - 1) = (T.length : Int) := by omega
  simp only [impl_Panel_switches.f, if_pos c, e]

theorem impl_SwitchWrong_ev (S : List (List Int)) (T : List Int) (m : Int) (h : S.length ≤ maxLen) (hi : ∀ x ∈ S, x.length ≤ maxLen) (hT : T.length ≤ maxLen) : Ev (fun k => impl_SwitchWrong.f k S T m) (switchWrongM S T m) := by
  refine Ev.bind (impl_IsPanel_ev S T h hi hT) ?_
  unfold switchWrongM
  cases hp : panelB S T with
  | false =>
    simp only [Bool.false_eq_true, if_false, Bool.false_and]
    exact Ev.step' (f := fun _ => some (0, false)) (fun k => by simp only [impl_SwitchWrong.j0, if_true]) (Ev.now _)
  | true =>
    simp only [if_true, Bool.true_and, impl_within_eq, Option.bind_some]
    cases hm : inR 0 16 m with
    | false =>
      simp only [Bool.false_eq_true, if_false]
      exact Ev.step' (f := fun _ => some (0, false)) (fun k => by simp only [impl_SwitchWrong.j0, Bool.not_false, if_true]) (Ev.now _)
    | true =>
      simp only [if_true]
      have h5 := (inR_iff _ _ _).1 hm
      obtain ⟨mm, rfl⟩ : ∃ mm : Nat, m = mm := ⟨m.toNat, by omega⟩
      have ht := panel_tell hp
      obtain ⟨out, o1, o2, o3⟩ := impl_Panel_switches_ev hp mm (by omega)
      rw [Int.toNat_natCast]
      have c0 : 0 < (out.length : Int) := by omega
      have c1 : 0 ≤ (mm : Int) := by omega
      have r2 : rd_L2 out 0 = (List.range (mm + 1)).map (impl_Panel_switches.rowT S T mm T.length) := by have := rdL2_nat out 0; rw [o2] at this; exact this
      have c2 : (mm : Int) < (((List.range (mm + 1)).map (impl_Panel_switches.rowT S T mm T.length)).length : Int) := by simp; omega
      have r1 : rd_L1 ((List.range (mm + 1)).map (impl_Panel_switches.rowT S T mm T.length)) (mm : Int) = (List.range S.length).map (fun i => swV S T T.length i mm) := by rw [rdL1_nat]; exact getD_map _ _ _ (by omega)
      refine Ev.step' (f := fun k => (impl_Panel_switches.f k S T (mm : Int)).bind fun t => if 0 < (t.length : Int) then (if 0 ≤ (mm : Int) then (if (mm : Int) < ((rd_L2 t 0).length : Int) then (slices_Min_int_int.f k (rd_L1 (rd_L2 t 0) (mm : Int))).bind fun u => some (u, true) else none) else none) else none) (fun k => by simp only [impl_SwitchWrong.j0, Bool.not_true, Bool.false_eq_true, if_false]) ?_
      refine Ev.bind o3 ?_
      simp only [if_pos c0, if_pos c1, r2, if_pos c2, r1]
      exact Ev.bind (min_begin (fun i => swV S T T.length i mm) S.length (by omega) (by omega)) (Ev.now _)

theorem laws_eqIntS_ev (l : List Int) (h : l.length ≤ maxLen) : Ev (fun k => laws_eqIntS.f k l l) true := by
  unfold maxLen at h
  refine Ev.congr (f := fun k => laws_eqIntS.l0 k l l 0) (fun k => by simp only [laws_eqIntS.f, if_true]) ?_
  refine ev_yes (L := fun i k => laws_eqIntS.l0 k l l i) (n := l.length) (fun i hi => To.step fun k => ?_) (Ev.step' (f := fun _ => some true) (fun k => ?_) (Ev.now _))
  · have c1 : (i : Int) < (l.length : Int) := by omega
    have c0 : 0 ≤ (i : Int) := by omega
    simp only [laws_eqIntS.l0, if_pos c1, if_pos c0, if_true, wrap_succ hi h]
  · simp only [laws_eqIntS.l0, if_neg (Int.lt_irrefl _)]

theorem laws_eqIntSS_ev (l : List (List Int)) (h : l.length ≤ maxLen) (hi : ∀ x ∈ l, x.length ≤ maxLen) : Ev (fun k => laws_eqIntSS.f k l l) true := by
  have h' : l.length ≤ 9223372036854775807 := h
  refine Ev.congr (f := fun k => laws_eqIntSS.l0 k l l 0) (fun k => by simp only [laws_eqIntSS.f, if_true]) ?_
  refine ev_yes (L := fun i k => laws_eqIntSS.l0 k l l i) (n := l.length) (fun i hi2 => ?_) (Ev.step' (f := fun _ => some true) (fun k => ?_) (Ev.now _))
  · have c1 : (i : Int) < (l.length : Int) := by omega
    have c0 : 0 ≤ (i : Int) := by omega
    refine (To.step (f := fun k => (laws_eqIntS.f k (l.getD i []) (l.getD i [])).bind fun t => if t = true then laws_eqIntSS.l0 k l l ((i + 1 : Nat) : Int) else some false) (fun k => ?_)).trans ((To.bind (laws_eqIntS_ev _ (hi _ (getD_mem hi2 [])))).trans (To.congr fun k => by simp only [if_true]))
    simp only [laws_eqIntSS.l0, if_pos c1, if_pos c0, rdL1_nat, wrap_succ hi2 h']
  · simp only [laws_eqIntSS.l0, if_neg (Int.lt_irrefl _)]

theorem laws_eqPanel_ev (P : List (List Int)) (L : List Int) (h : P.length ≤ maxLen) (hi : ∀ x ∈ P, x.length ≤ maxLen) (hL : L.length ≤ maxLen) : Ev (fun k => laws_eqPanel.f k P L P L) true := by
  refine Ev.bind (laws_eqIntSS_ev P h hi) ?_
  simp only [if_true]
  refine Ev.bind (laws_eqIntS_ev L hL) ?_
  simp only [if_true]
  exact Ev.now _

theorem pure : SFnExactSwitchWrong.Pure := by
  intro S T m ⟨h, hi0⟩ ⟨hT, _⟩ _
  have hi : ∀ x ∈ S, x.length ≤ maxLen := fun x hx => (hi0 x hx).1
  obtain ⟨K1, k1⟩ := laws_szPanel_ev S T 1048576 h hi hT (by omega) (by omega)
  by_cases cn : lft 1048576 (sz2 S + T.length) < 0
  · exact .inl ⟨K1, _, k1 K1 (by omega), cn⟩
  · have d := lft_nonneg (Int.not_lt.1 cn)
    have hs := sz2_small (l := S) (n := 1048576) (by omega)
    obtain ⟨K2, k2⟩ := laws_toPanel_ev S T hs.1 hs.2 (by omega)
    obtain ⟨K3, k3⟩ := spec_SwitchWrong_ev S T m h hi hT
    obtain ⟨K4, k4⟩ := impl_SwitchWrong_ev S T m h hi hT
    obtain ⟨K6, k6⟩ := laws_eqPanel_ev S T h hi hT
    let K := K1 + K2 + K3 + K4 + K6
    exact .inr ⟨K, _, _, _, (switchWrongM S T m).1, (switchWrongM S T m).2, k1 K (by omega), k2 K (by omega), k3 K (by omega), k4 K (by omega), k6 K (by omega), Int.not_lt.1 cn⟩
end Go.Proofs.Ytihhedemdkifhaa.QFnExactSwitchWrong
