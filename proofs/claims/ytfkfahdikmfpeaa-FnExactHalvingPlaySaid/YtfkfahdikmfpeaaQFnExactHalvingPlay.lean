/- FnExactHalvingPlay: what its calls come to, shown of numbers and lists alone. -/
import Derived.Test.YtfkfahdikmfpeaaSFnExactHalvingPlay
import Derived.Test.YtfkfahdikmfpeaaPm
namespace Go.Proofs.Ytfkfahdikmfpeaa.QFnExactHalvingPlay
open Go.RowKit Go.Proofs.Ytfkfahdikmfpeaa.KFnExactHalvingPlay Go.Proofs.Ytfkfahdikmfpeaa.Lb Go.Proofs.Ytfkfahdikmfpeaa.Pm Go.Proofs.Ytfkfahdikmfpeaa.PFnExactHalvingPlay Go.Proofs.YtfkfahdikmfpeaaW.PrintWords Go.Proofs.YtfkfahdikmfpeaaW.PrintLast Go.Proofs.YtfkfahdikmfpeaaW.PrintMore
set_option linter.unusedVariables false
set_option linter.unusedSimpArgs false
theorem rdL1_nat (xs : List (List Int)) (i : Nat) : rd_L1 xs (i : Int) = xs.getD i [] := by simp [rd_L1]

theorem laws_toIntS_ev (l : List Int) (h : l.length ≤ 1048576) : Ev (fun k => laws_toIntS.f k l) l := by
  have hw : wrap64 (l.length : Int) = l.length := wrap_id (by omega) (by omega)
  have c0 : 0 ≤ (l.length : Int) := by omega
  have e : ∀ k, laws_toIntS.f k l = laws_toIntS.l0 k l (List.replicate l.length 0) 0 := fun k => by
    simp only [laws_toIntS.f, if_pos c0, Int.toNat_natCast]; rw [if_pos (by omega)]
  refine Ev.congr e ?_
  have hf := to_fold (L := fun i (s : List Int) k => laws_toIntS.l0 k l s i) (n := l.length) (f := fun i s => s.set i (l.getD i 0)) (fun i s => s = l.take i ++ List.replicate (l.length - i) 0) (fun i s hi hs => ⟨To.step fun k => ?_, ?_⟩) (List.replicate l.length 0) (by simp)
  · refine hf.1 _ (Ev.step' (f := fun _ => some l) (fun k => ?_) (Ev.now _))
    have := hf.2
    rw [Nat.sub_self, List.take_length, List.replicate_zero, List.append_nil] at this
    show laws_toIntS.l0 (k + 1) l _ _ = _
    rw [this]
    simp only [laws_toIntS.l0, if_neg (Int.lt_irrefl _)]
  · have c1 : (i : Int) < (l.length : Int) := by omega
    have c2 : (i : Int) < (s.length : Int) := by rw [hs, List.length_append, List.length_take, List.length_replicate]; omega
    have c3 : 0 ≤ (i : Int) := by omega
    simp only [laws_toIntS.l0, if_pos c1, if_pos c2, if_pos c3, rd_nat, Int.toNat_natCast, wrap_succ hi (by omega : l.length ≤ 9223372036854775807)]
  · show List.set s i _ = _
    rw [hs]; exact set_step l 0 0 i hi

theorem laws_eqIntS_ev (l : List Int) (h : l.length ≤ maxLen) : Ev (fun k => laws_eqIntS.f k l l) true := by
  unfold maxLen at h
  refine Ev.congr (f := fun k => laws_eqIntS.l0 k l l 0) (fun k => by simp only [laws_eqIntS.f, if_true]) ?_
  refine ev_yes (L := fun i k => laws_eqIntS.l0 k l l i) (n := l.length) (fun i hi => To.step fun k => ?_) (Ev.step' (f := fun _ => some true) (fun k => ?_) (Ev.now _))
  · have c1 : (i : Int) < (l.length : Int) := by omega
    have c0 : 0 ≤ (i : Int) := by omega
    simp only [laws_eqIntS.l0, if_pos c1, if_pos c0, if_true, wrap_succ hi h]
  · simp only [laws_eqIntS.l0, if_neg (Int.lt_irrefl _)]

theorem laws_markIntS_ev (l : List Int) (a : Int) (h0 : 0 ≤ a) (h1 : a + l.length ≤ 1000000000000) : Ev (fun k => laws_markIntS.f k l a) (a + l.length, iota a l) := by
  have e := ev_mark (0 : Int) (fun _ => 1) (fun a _ => a) l 1000000000000 (L := fun ys a i k => laws_markIntS.l0 k ys a i) (fun ys a i x hi hl hx hm ha hb => To.step fun k => by
    have c1 : (i : Int) < (ys.length : Int) := by omega
    have c3 : 0 ≤ (i : Int) := by omega
    have e : wrap64 (a + 1) = a + ((1 : Nat) : Int) := wrap_id (by omega) (by simpa using (by omega : a + 1 ≤ 9223372036854775807))
    simp only [laws_markIntS.l0, if_pos c1, if_pos c3, Int.toNat_natCast, wrap_succ (i := i) (n := ys.length) (by omega) (by omega), e]) (fun ys a hl => Ev.step' (f := fun _ => some (a, ys)) (fun k => by
    simp only [laws_markIntS.l0, hl, if_neg (Int.lt_irrefl _)]) (Ev.now _)) a h0 (by rw [sumN_one]; exact h1)
  rw [sumN_one] at e
  exact e

theorem laws_heldIntS_ev (l : List Int) (a : Int) (h0 : 0 ≤ a) (h1 : a + l.length ≤ 1000000000000) : Ev (fun k => laws_heldIntS.f k (iota a l) a) (a + l.length) := by
  have e := ev_held (0 : Int) (fun _ => 1) (fun a _ => a) l 1000000000000 (L := fun b i k => laws_heldIntS.l0 k (iota a l) b i) a (fun b i x hi hx hm ha hb => To.step fun k => by
    have c1 : (i : Int) < ((iota a l).length : Int) := by rw [iota_len]; omega
    have c3 : 0 ≤ (i : Int) := by omega
    have c4 : (iota a l).getD i 0 = b := hx
    have e : wrap64 (b + 1) = b + ((1 : Nat) : Int) := wrap_id (by omega) (by simpa using (by omega : b + 1 ≤ 9223372036854775807))
    simp only [laws_heldIntS.l0, if_pos c1, if_pos c3, rd_nat, if_pos c4, wrap_succ (i := i) (n := l.length) hi (by omega), e]) (fun b => Ev.step' (f := fun _ => some b) (fun k => by
    simp only [laws_heldIntS.l0, iota_len, if_neg (Int.lt_irrefl _)]) (Ev.now _)) h0 (by rw [sumN_one]; exact h1)
  rw [sumN_one] at e
  exact e

theorem laws_szIntS_eq (l : List Int) (a : Int) (h : l.length ≤ maxLen) (h0 : 0 ≤ a) (h1 : a ≤ 1048576) : laws_szIntS.f l a = some (lft a l.length) := by
  unfold maxLen at h
  have hw : wrap64 (a - (l.length : Int)) = a - l.length := wrap_id (by omega) (by omega)
  unfold laws_szIntS.f lft
  rw [hw]
  by_cases c : (l.length : Int) ≤ a
  · rw [if_neg (by omega), if_pos c]
  · rw [if_pos (by omega), if_neg c]

theorem laws_szIntSS_ev (l : List (List Int)) (a : Int) (h : l.length ≤ maxLen) (hi : ∀ x ∈ l, x.length ≤ maxLen) (h0 : 0 ≤ a) (h1 : a ≤ 1048576) : Ev (fun k => laws_szIntSS.f k l a) (lft a (sz2 l)) := by
  have h' : l.length ≤ 9223372036854775807 := h
  unfold sz2 laws_szIntSS.f
  rw [← lft_add a _ _ h0]
  have hw : wrap64 (a - (l.length : Int)) = a - l.length := wrap_id (by omega) (by omega)
  rw [hw]
  by_cases c : (l.length : Int) ≤ a
  · have e : lft a l.length = a - l.length := by unfold lft; rw [if_pos c]
    rw [e]
    simp only [if_neg (show ¬ a - (l.length : Int) < 0 by omega)]
    refine ev_sz [] List.length l (L := fun a i k => laws_szIntSS.l0 k l a i) (fun i a hi2 h0 h1 hn => ?_) (fun i a hi2 h0 h1 hn => ?_) (fun a => Ev.step' (f := fun _ => some a) (fun k => by simp only [laws_szIntSS.l0, if_neg (Int.lt_irrefl _)]) (Ev.now _)) _ (by omega) (by omega)
    · have c1 : (i : Int) < (l.length : Int) := by omega
      have c0 : 0 ≤ (i : Int) := by omega
      refine To.step (fun k => ?_)
      simp only [laws_szIntSS.l0, if_pos c1, if_pos c0, rdL1_nat, laws_szIntS_eq _ a (hi _ (getD_mem hi2 [])) h0 h1, Option.bind_some, if_neg (show ¬ lft a (l.getD i []).length < 0 by omega), wrap_succ hi2 h']
    · have c1 : (i : Int) < (l.length : Int) := by omega
      have c0 : 0 ≤ (i : Int) := by omega
      refine Ev.step' (f := fun _ => some (-1)) (fun k => ?_) (Ev.now _)
      simp only [laws_szIntSS.l0, if_pos c1, if_pos c0, rdL1_nat, laws_szIntS_eq _ a (hi _ (getD_mem hi2 [])) h0 h1, Option.bind_some, if_pos hn]
  · have e : lft a l.length = -1 := by unfold lft; rw [if_neg c]
    rw [e]
    simp only [if_pos (show a - (l.length : Int) < 0 by omega), if_pos (show (-1 : Int) < 0 by omega)]
    exact Ev.now _

theorem laws_toIntSS_ev (l : List (List Int)) (h : l.length ≤ 1048576) (hi : ∀ x ∈ l, x.length ≤ 1048576) : Ev (fun k => laws_toIntSS.f k l) l := by
  have c0 : 0 ≤ (l.length : Int) := by omega
  have e : ∀ k, laws_toIntSS.f k l = laws_toIntSS.l0 k l (List.replicate l.length []) 0 := fun k => by
    simp only [laws_toIntSS.f, if_pos c0, Int.toNat_natCast]; rw [if_pos (by omega)]
  refine Ev.congr e ?_
  have hf := to_fold (L := fun i (s : List (List Int)) k => laws_toIntSS.l0 k l s i) (n := l.length) (f := fun i s => s.set i (l.getD i [])) (fun i s => s = l.take i ++ List.replicate (l.length - i) []) (fun i s hi2 hs => ⟨?_, ?_⟩) (List.replicate l.length []) (by simp)
  · refine hf.1 _ (Ev.step' (f := fun _ => some l) (fun k => ?_) (Ev.now _))
    have := hf.2
    rw [Nat.sub_self, List.take_length, List.replicate_zero, List.append_nil] at this
    show laws_toIntSS.l0 (k + 1) l _ _ = _
    rw [this]
    simp only [laws_toIntSS.l0, if_neg (Int.lt_irrefl _)]
  · have c1 : (i : Int) < (l.length : Int) := by omega
    have c2 : (i : Int) < (s.length : Int) := by rw [hs, List.length_append, List.length_take, List.length_replicate]; omega
    have c3 : 0 ≤ (i : Int) := by omega
    refine (To.step (f := fun k => (laws_toIntS.f k (l.getD i [])).bind fun t => laws_toIntSS.l0 k l (s.set i t) ((i + 1 : Nat) : Int)) (fun k => ?_)).trans (To.bind (laws_toIntS_ev _ (hi _ (getD_mem hi2 []))))
    simp only [laws_toIntSS.l0, if_pos c1, if_pos c2, if_pos c3, rdL1_nat, Int.toNat_natCast, wrap_succ hi2 (by omega : l.length ≤ 9223372036854775807)]
  · show List.set s i _ = _
    rw [hs]; exact set_step l [] [] i hi2

theorem laws_eqIntSS_ev (l : List (List Int)) (h : l.length ≤ maxLen) (hi : ∀ x ∈ l, x.length ≤ maxLen) : Ev (fun k => laws_eqIntSS.f k l l) true := by
  have h' : l.length ≤ 9223372036854775807 := h
  refine Ev.congr (f := fun k => laws_eqIntSS.l0 k l l 0) (fun k => by simp only [laws_eqIntSS.f, if_true]) ?_
  refine ev_yes (L := fun i k => laws_eqIntSS.l0 k l l i) (n := l.length) (fun i hi2 => ?_) (Ev.step' (f := fun _ => some true) (fun k => ?_) (Ev.now _))
  · have c1 : (i : Int) < (l.length : Int) := by omega
    have c0 : 0 ≤ (i : Int) := by omega
    refine (To.step (f := fun k => (laws_eqIntS.f k (l.getD i []) (l.getD i [])).bind fun t => if t = true then laws_eqIntSS.l0 k l l ((i + 1 : Nat) : Int) else some false) (fun k => ?_)).trans ((To.bind (laws_eqIntS_ev _ (hi _ (getD_mem hi2 [])))).trans (To.congr fun k => by simp only [if_true]))
    simp only [laws_eqIntSS.l0, if_pos c1, if_pos c0, rdL1_nat, wrap_succ hi2 h']
  · simp only [laws_eqIntSS.l0, if_neg (Int.lt_irrefl _)]

theorem spec_l1In_eq (x a b : Int) : spec_l1In.f x a b = some (inR a b x) := in_tells a b x

theorem ev_allh {L : Int → Nat → Option Bool} {n : Nat} {p : Nat → Bool} {R : Bool} (hT : ∀ i : Nat, i < n → (∀ j, j < i → p j = true) → p i = true → To (L i) (L ((i + 1 : Nat) : Int))) (hF : ∀ i : Nat, i < n → (∀ j, j < i → p j = true) → p i = false → Ev (L i) false) (hN : (∀ j, j < n → p j = true) → Ev (L n) R) : Ev (L 0) ((List.range n).all p && R) := by
  have key : ∀ (d i : Nat), i + d = n → (∀ j, j < i → p j = true) → Ev (L i) ((List.range' i d).all p && R) := by
    intro d
    induction d with
    | zero =>
      intro i hd hI
      obtain rfl : i = n := by omega
      simpa using hN hI
    | succ d ih =>
      intro i hd hI
      have hi : i < n := by omega
      rw [List.range'_succ, List.all_cons]
      cases hp : p i with
      | false => simpa using hF i hi hI hp
      | true =>
        rw [Bool.true_and]
        exact hT i hi hI hp _ (ih (i + 1) (by omega) (fun j hj => by
          by_cases e : j = i
          · exact e ▸ hp
          · exact hI j (by omega)))
  rw [List.range_eq_range']
  exact key n 0 (by omega) (fun j hj => absurd hj (Nat.not_lt_zero _))
theorem drop_get {l : List Int} {i : Nat} (h : i < l.length) : l.drop i = l.getD i 0 :: l.drop (i + 1) := by
  rw [List.drop_eq_getElem_cons h, List.getD_eq_getElem?_getD, List.getElem?_eq_getElem h]; rfl
/-- The first list is before the second one (both of one length). -/
def befB : List Int → List Int → Bool
  | x :: xs, y :: ys => if x = y then befB xs ys else decide (x < y)
  | _, _ => false
theorem spec_l7Before_ev (a b : List Int) (h : a.length ≤ maxLen) (hl : a.length = b.length) : Ev (fun k => spec_l7Before.f k a b) (befB a b) := by
  have h' : a.length ≤ 9223372036854775807 := h
  refine ev_eq (ev_list 0 a (fun i (_ : Unit) k => spec_l7Before.l0 k a b i) (fun i ys _ => befB ys (b.drop i)) (fun _ _ => True) (fun _ _ => ?_) (fun i x ys _ hi hx hm _ ih => ?_) () trivial) (by rw [List.drop_zero])
  · exact Ev.step' (f := fun _ => some false) (fun k => by simp only [spec_l7Before.l0, if_neg (Int.lt_irrefl _)]) (ev_eq (Ev.now _) (by simp [befB]))
  · show Ev (fun k => spec_l7Before.l0 k a b (i : Int)) (befB (x :: ys) (b.drop i))
    have c1 : (i : Int) < (a.length : Int) := by omega
    have c0 : 0 ≤ (i : Int) := by omega
    have c2 : (i : Int) < (b.length : Int) := by omega
    rw [drop_get (by omega)]
    by_cases c : x = b.getD i 0
    · simp only [befB, if_pos c]
      exact Ev.step' (fun k => by simp only [spec_l7Before.l0, if_pos c1, if_pos c0, if_pos c2, rd_nat, hx, if_pos c, wrap_succ hi h']) (ih () trivial)
    · simp only [befB, if_neg c]
      exact Ev.step' (f := fun _ => some (decide (x < b.getD i 0))) (fun k => by simp only [spec_l7Before.l0, if_pos c1, if_pos c0, if_pos c2, rd_nat, hx, if_neg c]) (Ev.now _)

theorem spec_l2Labels_ev (l : List Int) (h : l.length ≤ maxLen) : Ev (fun k => spec_l2Labels.f k l) (l.all isLab) := by
  have h' : l.length ≤ 9223372036854775807 := h
  refine ev_list 0 l (fun i (_ : Unit) k => spec_l2Labels.l0 k l i) (fun _ ys _ => ys.all isLab) (fun _ _ => True) (fun _ _ => ?_) (fun i x ys _ hi hx hm _ ih => ?_) () trivial
  · exact Ev.step' (f := fun _ => some true) (fun k => by simp only [spec_l2Labels.l0, if_neg (Int.lt_irrefl _)]) (Ev.now _)
  · have c1 : (i : Int) < (l.length : Int) := by omega
    have c0 : 0 ≤ (i : Int) := by omega
    have ih := ih () trivial
    simp only [List.all_cons]
    unfold isLab at ih ⊢
    by_cases e1 : x = 1
    · rw [show (decide (x = 1) || decide (x = -1)) = true by simp [e1], Bool.true_and]
      exact Ev.step' (fun k => by simp only [spec_l2Labels.l0, if_pos c1, if_pos c0, rd_nat, hx, if_pos e1, wrap_succ hi h']) ih
    · by_cases e2 : x = -1
      · rw [show (decide (x = 1) || decide (x = -1)) = true by simp [e2], Bool.true_and]
        exact Ev.step' (fun k => by simp only [spec_l2Labels.l0, if_pos c1, if_pos c0, rd_nat, hx, if_neg e1, if_pos e2, wrap_succ hi h']) ih
      · rw [show (decide (x = 1) || decide (x = -1)) = false by simp [e1, e2], Bool.false_and]
        exact Ev.step' (f := fun _ => some false) (fun k => by simp only [spec_l2Labels.l0, if_pos c1, if_pos c0, rd_nat, hx, if_neg e1, if_neg e2]) (Ev.now _)

def stepB (C : List (List Int)) (i : Nat) : Bool := decide ((C.getD i []).length = (C.getD 0 []).length) && ((C.getD i []).all isLab && (decide (i = 0) || befB (C.getD (i - 1) []) (C.getD i [])))
def classB (C : List (List Int)) : Bool := (List.range C.length).all (fun i => decide ((C.getD i []).length ≤ 8) && stepB C i) && inR 1 256 C.length
theorem wrap_pred {i : Nat} (h : 0 < i) (hn : i ≤ 9223372036854775807) : wrap64 ((i : Int) - 1) = ((i - 1 : Nat) : Int) := by unfold wrap64; omega
theorem stepB_iff (C : List (List Int)) (i : Nat) : stepB C i = true ↔ (C.getD i []).length = (C.getD 0 []).length ∧ (C.getD i []).all isLab = true ∧ (i = 0 ∨ befB (C.getD (i - 1) []) (C.getD i []) = true) := by
  simp only [stepB, Bool.and_eq_true, Bool.or_eq_true, decide_eq_true_eq]
theorem spec_l7Class_ev (C : List (List Int)) (h : C.length ≤ maxLen) (hi : ∀ x ∈ C, x.length ≤ maxLen) : Ev (fun k => spec_l7Class.f k C) (classB C) := by
  have h' : C.length ≤ 9223372036854775807 := h
  have e0 : rd_L1 C 0 = C.getD 0 [] := rdL1_nat C 0
  refine ev_allh (L := fun i k => spec_l7Class.l0 k C i) (n := C.length) (p := fun i => decide ((C.getD i []).length ≤ 8) && stepB C i) (R := inR 1 256 C.length) (fun i hi2 hI hp => ?_) (fun i hi2 hI hp => ?_) (fun _ => Ev.step' (f := fun _ => some (inR 1 256 C.length)) (fun k => by simp only [spec_l7Class.l0, if_neg (Int.lt_irrefl _), spec_l1In_eq, Option.bind_some]) (Ev.now _))
  · simp only [Bool.and_eq_true, decide_eq_true_eq, stepB_iff] at hp hI
    obtain ⟨h8, hl, hlab, hb⟩ := hp
    have c1 : (i : Int) < (C.length : Int) := by omega
    have c0 : 0 ≤ (i : Int) := by omega
    have c2 : 0 < (C.length : Int) := by omega
    have n8 : ¬ ((C.getD i []).length : Int) > 8 := by omega
    have el : ((C.getD i []).length : Int) = ((C.getD 0 []).length : Int) := by omega
    refine (To.step (f := fun k => (spec_l2Labels.f k (C.getD i [])).bind fun t => spec_l7Class.j1 k C i (!t)) (fun k => ?_)).trans ((To.bind (spec_l2Labels_ev _ (hi _ (getD_mem hi2 [])))).trans ?_)
    · simp only [spec_l7Class.l0, if_pos c1, if_pos c0, rdL1_nat, if_neg n8, if_pos c2, e0, if_pos el]
    · simp only [hlab, Bool.not_true]
      by_cases z : i = 0
      · refine To.step fun k => ?_
        simp only [spec_l7Class.j1, Bool.false_eq_true, if_false, if_neg (show ¬ ((i : Int) > 0) by omega), wrap_succ hi2 h']
      · have hb := hb.resolve_left z
        have c3 : (i : Int) > 0 := by omega
        have c4 : 0 ≤ ((i - 1 : Nat) : Int) := by omega
        have c5 : ((i - 1 : Nat) : Int) < (C.length : Int) := by omega
        have hl1 := (hI (i - 1) (by omega)).2.1
        refine (To.step (f := fun k => (spec_l7Before.f k (C.getD (i - 1) []) (C.getD i [])).bind fun t => if t = true then spec_l7Class.l0 k C ((i + 1 : Nat) : Int) else some false) (fun k => ?_)).trans ((To.bind (spec_l7Before_ev _ _ (hi _ (getD_mem (by omega) [])) (by omega))).trans (To.congr fun k => by simp only [hb, if_true]))
        simp only [spec_l7Class.j1, Bool.false_eq_true, if_false, if_pos c3, wrap_pred (show 0 < i by omega) (by omega), if_pos c4, if_pos c5, if_pos c0, if_pos c1, rdL1_nat, wrap_succ hi2 h']
  · have c1 : (i : Int) < (C.length : Int) := by omega
    have c0 : 0 ≤ (i : Int) := by omega
    have c2 : 0 < (C.length : Int) := by omega
    by_cases n8 : ((C.getD i []).length : Int) > 8
    · exact Ev.step' (f := fun k => spec_l7Class.j1 k C i true) (fun k => by simp only [spec_l7Class.l0, if_pos c1, if_pos c0, rdL1_nat, if_pos n8]) (Ev.step' (f := fun _ => some false) (fun k => by simp only [spec_l7Class.j1, if_true]) (Ev.now _))
    · by_cases el : ((C.getD i []).length : Int) = ((C.getD 0 []).length : Int)
      · refine Ev.step' (f := fun k => (spec_l2Labels.f k (C.getD i [])).bind fun t => spec_l7Class.j1 k C i (!t)) (fun k => ?_) (Ev.bind (spec_l2Labels_ev _ (hi _ (getD_mem hi2 []))) ?_)
        · simp only [spec_l7Class.l0, if_pos c1, if_pos c0, rdL1_nat, if_neg n8, if_pos c2, e0, if_pos el]
        · cases hlab : (C.getD i []).all isLab with
          | false => exact Ev.step' (f := fun _ => some false) (fun k => by simp only [spec_l7Class.j1, Bool.not_false, if_true]) (Ev.now _)
          | true =>
            have q : ¬ (i = 0 ∨ befB (C.getD (i - 1) []) (C.getD i []) = true) := fun q => by
              have : (decide ((C.getD i []).length ≤ 8) && stepB C i) = true := by
                rw [Bool.and_eq_true, decide_eq_true_eq, stepB_iff]
                exact ⟨by omega, by omega, hlab, q⟩
              rw [this] at hp
              exact absurd hp (by decide)
            have z : i ≠ 0 := fun z => q (.inl z)
            have hb : befB (C.getD (i - 1) []) (C.getD i []) = false := by
              cases hb : befB (C.getD (i - 1) []) (C.getD i []) with
              | false => rfl
              | true => exact absurd (.inr hb) q
            have c3 : (i : Int) > 0 := by omega
            have c4 : 0 ≤ ((i - 1 : Nat) : Int) := by omega
            have c5 : ((i - 1 : Nat) : Int) < (C.length : Int) := by omega
            have hl1 := hI (i - 1) (by omega)
            simp only [Bool.and_eq_true, decide_eq_true_eq, stepB_iff] at hl1
            refine Ev.step' (f := fun k => (spec_l7Before.f k (C.getD (i - 1) []) (C.getD i [])).bind fun t => if t = true then spec_l7Class.l0 k C ((i + 1 : Nat) : Int) else some false) (fun k => ?_) (Ev.bind (spec_l7Before_ev _ _ (hi _ (getD_mem (by omega) [])) (by omega)) (Ev.congr (f := fun _ => some false) (fun k => by simp only [hb, Bool.false_eq_true, if_false]) (Ev.now _)))
            simp only [spec_l7Class.j1, Bool.not_true, Bool.false_eq_true, if_false, if_pos c3, wrap_pred (show 0 < i by omega) (by omega), if_pos c4, if_pos c5, if_pos c0, if_pos c1, rdL1_nat, wrap_succ hi2 h']
      · exact Ev.step' (f := fun k => spec_l7Class.j1 k C i true) (fun k => by simp only [spec_l7Class.l0, if_pos c1, if_pos c0, rdL1_nat, if_neg n8, if_pos c2, e0, if_neg el]) (Ev.step' (f := fun _ => some false) (fun k => by simp only [spec_l7Class.j1, if_true]) (Ev.now _))

theorem spec_l1Has_ev (l : List Int) (v : Int) (h : l.length ≤ maxLen) : Ev (fun k => spec_l1Has.f k l v) (decide (0 < l.count v)) := by
  have h' : l.length ≤ 9223372036854775807 := h
  refine ev_list 0 l (fun i (_ : Unit) k => spec_l1Has.l0 k l v i) (fun _ ys _ => decide (0 < ys.count v)) (fun _ _ => True) (fun _ _ => ?_) (fun i x ys _ hi hx hm _ ih => ?_) () trivial
  · exact Ev.step' (f := fun _ => some false) (fun k => by simp only [spec_l1Has.l0, if_neg (Int.lt_irrefl _)]) (Ev.now _)
  · have c1 : (i : Int) < (l.length : Int) := by omega
    have c0 : 0 ≤ (i : Int) := by omega
    by_cases c : x = v
    · exact ev_eq (Ev.step' (f := fun _ => some true) (fun k => by simp only [spec_l1Has.l0, if_pos c1, if_pos c0, rd_nat, hx, if_pos c]) (Ev.now _)) (by simp [c])
    · exact ev_eq (Ev.step' (fun k => by simp only [spec_l1Has.l0, if_pos c1, if_pos c0, rd_nat, hx, if_neg c, wrap_succ hi h']) (ih () trivial)) (by simp [List.count_cons, c])

def orderB (O : List Int) (m : Nat) : Bool := (List.range O.length).all fun i => inR 0 ((m : Int) - 1) (O.getD i 0) && !decide (0 < (O.take i).count (O.getD i 0))
theorem spec_l7Order_ev (C : List (List Int)) (O : List Int) (h0 : 1 ≤ C.length) (hm : (C.getD 0 []).length ≤ maxLen) (h : O.length ≤ maxLen) : Ev (fun k => spec_l7Order.f k C O) (orderB O (C.getD 0 []).length) := by
  have h' : O.length ≤ 9223372036854775807 := h
  have hm' : (C.getD 0 []).length ≤ 9223372036854775807 := hm
  have e0 : rd_L1 C 0 = C.getD 0 [] := rdL1_nat C 0
  have c2 : 0 < (C.length : Int) := by omega
  have ew : wrap64 (((C.getD 0 []).length : Int) - 1) = ((C.getD 0 []).length : Int) - 1 := wrap_id (by omega) (by omega)
  have et : ∀ i : Nat, (O.take ((i : Int)).toNat) = O.take i := fun i => by rw [Int.toNat_natCast]
  have hl : ∀ i : Nat, (O.take i).length ≤ maxLen := fun i => by rw [List.length_take]; omega
  refine ev_all (L := fun i k => spec_l7Order.l0 k C O i) (n := O.length) (fun i hi hp => ?_) (fun i hi hp => ?_) (Ev.step' (f := fun _ => some true) (fun k => by simp only [spec_l7Order.l0, if_neg (Int.lt_irrefl _)]) (Ev.now _))
  · simp only [Bool.and_eq_true, Bool.not_eq_true'] at hp
    have c1 : (i : Int) < (O.length : Int) := by omega
    have c0 : 0 ≤ (i : Int) := by omega
    have c3 : (i : Int) ≤ (O.length : Int) := by omega
    refine (To.step (f := fun k => (spec_l1Has.f k (O.take i) (O.getD i 0)).bind fun t => if t = true then some false else spec_l7Order.l0 k C O ((i + 1 : Nat) : Int)) (fun k => ?_)).trans ((To.bind (spec_l1Has_ev _ _ (hl i))).trans (To.congr fun k => by simp only [hp.2, Bool.false_eq_true, if_false]))
    simp only [spec_l7Order.l0, if_pos c1, if_pos c0, if_pos c2, if_pos c3, rd_nat, e0, ew, spec_l1In_eq, hp.1, Option.bind_some, if_true, et, wrap_succ hi h']
  · have c1 : (i : Int) < (O.length : Int) := by omega
    have c0 : 0 ≤ (i : Int) := by omega
    have c3 : (i : Int) ≤ (O.length : Int) := by omega
    cases hin : inR 0 (((C.getD 0 []).length : Int) - 1) (O.getD i 0) with
    | false => exact Ev.step' (f := fun _ => some false) (fun k => by simp only [spec_l7Order.l0, if_pos c1, if_pos c0, if_pos c2, rd_nat, e0, ew, spec_l1In_eq, hin, Option.bind_some, Bool.false_eq_true, if_false]) (Ev.now _)
    | true =>
      have hc : decide (0 < (O.take i).count (O.getD i 0)) = true := by rw [hin, Bool.true_and] at hp; simpa using hp
      refine Ev.step' (f := fun k => (spec_l1Has.f k (O.take i) (O.getD i 0)).bind fun t => if t = true then some false else spec_l7Order.l0 k C O ((i + 1 : Nat) : Int)) (fun k => ?_) (Ev.bind (spec_l1Has_ev _ _ (hl i)) (Ev.congr (f := fun _ => some false) (fun k => by simp only [hc, if_true]) (Ev.now _)))
      simp only [spec_l7Order.l0, if_pos c1, if_pos c0, if_pos c2, if_pos c3, rd_nat, e0, ew, spec_l1In_eq, hin, Option.bind_some, if_true, et, wrap_succ hi h']

def atM (row set : List Int) : List Int := set.map fun x => row.getD x.toNat 0
theorem atM_len (row set : List Int) : (atM row set).length = set.length := List.length_map _
theorem spec_l7At_ev (row set : List Int) (h : set.length ≤ 1048576) (hx : ∀ x ∈ set, 0 ≤ x ∧ x < (row.length : Int)) : Ev (fun k => spec_l7At.f k row set) (atM row set) := by
  have hf := to_fold (L := fun j (s : List Int) k => spec_l7At.l0 k row set s j) (n := set.length) (f := fun j s => s ++ [row.getD (set.getD j 0).toNat 0]) (fun j s => s.length = j) (fun j s hj hs => ⟨To.step fun k => by
    have c1 : (j : Int) < (set.length : Int) := by omega
    have c0 : 0 ≤ (j : Int) := by omega
    have q := hx _ (getD_mem hj 0)
    have c3 : s.length < 17592186044416 := by omega
    have e : rd row (set.getD j 0) = row.getD (set.getD j 0).toNat 0 := rfl
    simp only [spec_l7At.l0, if_pos c1, if_pos c0, rd_nat, if_pos q.1, if_pos q.2, if_pos c3, e, wrap_succ hj (show set.length ≤ 9223372036854775807 by omega)], by rw [List.length_append, hs]; rfl⟩) [] rfl
  refine ev_eq (hf.1 _ (Ev.step' (f := fun _ => some ((List.range set.length).foldl (fun s i => s ++ [row.getD (set.getD i 0).toNat 0]) [])) (fun k => by simp only [spec_l7At.l0, if_neg (Int.lt_irrefl _)]) (Ev.now _))) ?_
  rw [fold_append, List.nil_append]
  exact range_map set (fun x => row.getD x.toNat 0) 0

def sameB (x y : List Int) : Bool := (List.range x.length).all fun i => x.getD i 0 == y.getD i 0
theorem spec_l1Same_ev (x y : List Int) (h : x.length ≤ maxLen) (hl : x.length = y.length) : Ev (fun k => spec_l1Same.f k x y) (sameB x y) := by
  have h' : x.length ≤ 9223372036854775807 := h
  refine Ev.congr (f := fun k => spec_l1Same.l0 k x y 0) (fun k => by simp only [spec_l1Same.f, if_pos (show (x.length : Int) = (y.length : Int) by omega)]) ?_
  refine ev_all (L := fun i k => spec_l1Same.l0 k x y i) (n := x.length) (p := fun i => x.getD i 0 == y.getD i 0) (fun i hi hp => To.step fun k => ?_) (fun i hi hp => ?_) (Ev.step' (f := fun _ => some true) (fun k => by simp only [spec_l1Same.l0, if_neg (Int.lt_irrefl _)]) (Ev.now _))
  · have c1 : (i : Int) < (x.length : Int) := by omega
    have c0 : 0 ≤ (i : Int) := by omega
    have c2 : (i : Int) < (y.length : Int) := by omega
    simp only [spec_l1Same.l0, if_pos c1, if_pos c0, if_pos c2, rd_nat, if_pos (beq_iff_eq.1 hp), wrap_succ hi h']
  · have c1 : (i : Int) < (x.length : Int) := by omega
    have c0 : 0 ≤ (i : Int) := by omega
    have c2 : (i : Int) < (y.length : Int) := by omega
    exact Ev.step' (f := fun _ => some false) (fun k => by simp only [spec_l1Same.l0, if_pos c1, if_pos c0, if_pos c2, rd_nat, if_neg (beq_eq_false_iff_ne.1 hp)]) (Ev.now _)

def verL (C : List (List Int)) (set lab : List Int) : List Int := (List.range C.length).foldl (fun s (i : Nat) => if sameB (atM (C.getD i []) set) lab = true then s ++ [(i : Int)] else s) []
theorem pick_ok (p : Nat → Bool) : ∀ n : Nat, ((List.range n).foldl (fun s (i : Nat) => if p i = true then s ++ [(i : Int)] else s) ([] : List Int)).length ≤ n ∧ ∀ x ∈ (List.range n).foldl (fun s (i : Nat) => if p i = true then s ++ [(i : Int)] else s) ([] : List Int), 0 ≤ x ∧ x < (n : Int)
  | 0 => ⟨Nat.le_refl _, fun x hx => by simp at hx⟩
  | n + 1 => by
    obtain ⟨h1, h2⟩ := pick_ok p n
    rw [List.range_succ, List.foldl_append, List.foldl_cons, List.foldl_nil]
    split
    · refine ⟨by rw [List.length_append]; simp only [List.length_cons, List.length_nil]; omega, fun x hx => ?_⟩
      rcases List.mem_append.1 hx with h | h
      · have := h2 x h; omega
      · have : x = (n : Int) := by simpa using h
        omega
    · exact ⟨by omega, fun x hx => by have := h2 x hx; omega⟩
theorem spec_l7Version_ev (C : List (List Int)) (set lab : List Int) (hC : C.length ≤ 1048576) (h : set.length ≤ 1048576) (hl : set.length = lab.length) (hx : ∀ r ∈ C, ∀ x ∈ set, 0 ≤ x ∧ x < (r.length : Int)) : Ev (fun k => spec_l7Version.f k C set lab) (verL C set lab) := by
  have hf := to_fold (L := fun j (s : List Int) k => spec_l7Version.l0 k C set lab s j) (n := C.length) (f := fun (j : Nat) s => if sameB (atM (C.getD j []) set) lab = true then s ++ [(j : Int)] else s) (fun j s => s.length ≤ j) (fun j s hj hs => ⟨by
    have c1 : (j : Int) < (C.length : Int) := by omega
    have c0 : 0 ≤ (j : Int) := by omega
    have c3 : s.length < 17592186044416 := by omega
    have hs1 := spec_l1Same_ev (atM (C.getD j []) set) lab (by rw [atM_len]; unfold maxLen; omega) (by rw [atM_len]; exact hl)
    refine (To.step (f := fun k => (spec_l7At.f k (C.getD j []) set).bind fun t => (spec_l1Same.f k t lab).bind fun u => if u = true then (if s.length < 17592186044416 then spec_l7Version.l0 k C set lab (s ++ [(j : Int)]) ((j + 1 : Nat) : Int) else none) else spec_l7Version.l0 k C set lab s ((j + 1 : Nat) : Int)) (fun k => ?_)).trans ((To.bind (spec_l7At_ev _ _ h (hx _ (getD_mem hj [])))).trans ((To.bind hs1).trans (To.congr fun k => ?_)))
    · simp only [spec_l7Version.l0, if_pos c1, if_pos c0, rdL1_nat, wrap_succ hj (show C.length ≤ 9223372036854775807 by omega)]
    · cases hb : sameB (atM (C.getD j []) set) lab <;> simp only [if_true, Bool.false_eq_true, if_false, if_pos c3], by
    show (if sameB (atM (C.getD j []) set) lab = true then s ++ [(j : Int)] else s).length ≤ j + 1
    split
    · rw [List.length_append]; simp only [List.length_cons, List.length_nil]; omega
    · omega⟩) [] (Nat.le_refl _)
  exact hf.1 _ (Ev.step' (f := fun _ => some (verL C set lab)) (fun k => by simp only [spec_l7Version.l0, if_neg (Int.lt_irrefl _)]; rfl) (Ev.now _))

def sumL (C : List (List Int)) (V : List Int) (i : Int) : Int := (List.range V.length).foldl (fun s (j : Nat) => wrap64 (s + (C.getD (V.getD j 0).toNat []).getD i.toNat 0)) 0
def verAt (C : List (List Int)) (t : Int) (O : List Int) (i : Nat) : List Int := verL C (O.take i) (atM (C.getD t.toNat []) (O.take i))
def wrongB (C : List (List Int)) (t : Int) (O : List Int) (i : Nat) : Bool := decide (sumL C (verAt C t O i) (O.getD i 0) ≥ 0) != ((C.getD t.toNat []).getD (O.getD i 0).toNat 0 == 1)
def playL (C : List (List Int)) (t : Int) (O : List Int) : List Int := (List.range O.length).foldl (fun s (i : Nat) => if wrongB C t O i = true then s ++ [O.getD i 0] else s) []
def playM (C : List (List Int)) (t : Int) (O : List Int) : List Int × Bool := if (classB C && (inR 0 ((C.length : Int) - 1) t && orderB O (C.getD 0 []).length)) = true then (playL C t O, true) else ([], false)
theorem classB_ok {C : List (List Int)} (h : classB C = true) : 1 ≤ C.length ∧ C.length ≤ 256 ∧ (C.getD 0 []).length ≤ 8 ∧ ∀ r ∈ C, r.length = (C.getD 0 []).length ∧ ∀ x ∈ r, isLab x = true := by
  simp only [classB, Bool.and_eq_true, List.all_eq_true, List.mem_range, decide_eq_true_eq, stepB_iff] at h
  obtain ⟨h1, h2⟩ := h
  have h3 := (inR_iff _ _ _).1 h2
  refine ⟨by omega, by omega, (h1 0 (by omega)).1, fun r hr => ?_⟩
  obtain ⟨i, hi, rfl⟩ := List.mem_iff_getElem.1 hr
  have := h1 i hi
  rw [show C.getD i [] = C[i] from by rw [List.getD_eq_getElem?_getD, List.getElem?_eq_getElem hi]; rfl] at this
  exact ⟨this.2.1, this.2.2.1⟩
theorem orderB_in {O : List Int} {m : Nat} (h : orderB O m = true) : ∀ x ∈ O, 0 ≤ x ∧ x < (m : Int) := by
  simp only [orderB, List.all_eq_true, List.mem_range, Bool.and_eq_true] at h
  intro x hx
  obtain ⟨i, hi, rfl⟩ := List.mem_iff_getElem.1 hx
  have := (inR_iff _ _ _).1 (h i hi).1
  rw [show O.getD i 0 = O[i] from by rw [List.getD_eq_getElem?_getD, List.getElem?_eq_getElem hi]; rfl] at this
  omega
theorem spec_HalvingPlay_ev (C : List (List Int)) (t : Int) (O : List Int) (hC : C.length ≤ 1048576) (hr : ∀ r ∈ C, r.length ≤ maxLen) (hO : O.length ≤ 1048576) : Ev (fun k => spec_HalvingPlay.f k C t O) (playM C t O) := by
  have hCm : C.length ≤ maxLen := by unfold maxLen; omega
  have hOm : O.length ≤ maxLen := by unfold maxLen; omega
  have ew : wrap64 ((C.length : Int) - 1) = (C.length : Int) - 1 := wrap_id (by omega) (by omega)
  have no : Ev (fun k => spec_HalvingPlay.j0 k C t O [] true) ([], false) := Ev.step' (f := fun _ => some ([], false)) (fun k => by simp only [spec_HalvingPlay.j0, if_true]) (Ev.now _)
  refine Ev.congr (f := fun k => (spec_l7Class.f k C).bind fun t170 => (if t170 = true then (if inR 0 ((C.length : Int) - 1) t = true then ((spec_l7Order.f k C O).bind fun t172 => (spec_HalvingPlay.j0 k C t O [] (!t172))) else (spec_HalvingPlay.j0 k C t O [] true)) else (spec_HalvingPlay.j0 k C t O [] true))) (fun k => by simp only [spec_HalvingPlay.f, Option.bind_some, spec_l1In_eq, ew]) ?_
  refine Ev.bind (spec_l7Class_ev C hCm hr) ?_
  cases hc : classB C with
  | false => exact ev_eq (Ev.congr (fun k => by simp only [Bool.false_eq_true, if_false]) no) (by simp only [playM, hc, Bool.false_and, Bool.false_eq_true, if_false])
  | true =>
    simp only [if_true]
    cases ht : inR 0 ((C.length : Int) - 1) t with
    | false => exact ev_eq (Ev.congr (fun k => by simp only [Bool.false_eq_true, if_false]) no) (by simp only [playM, ht, Bool.false_and, Bool.and_false, Bool.false_eq_true, if_false])
    | true =>
      simp only [if_true]
      obtain ⟨h1, h2, h3, h4⟩ := classB_ok hc
      refine Ev.bind (spec_l7Order_ev C O h1 (by unfold maxLen; omega) hOm) ?_
      cases ho : orderB O (C.getD 0 []).length with
      | false => exact ev_eq no (by simp only [playM, ho, Bool.and_false, Bool.false_eq_true, if_false])
      | true =>
        have hin := orderB_in ho
        have htI := (inR_iff _ _ _).1 ht
        have t1 : t < (C.length : Int) := by omega
        have htm : C.getD t.toNat [] ∈ C := getD_mem (by omega) []
        have hx : ∀ i : Nat, ∀ r ∈ C, ∀ x ∈ O.take i, 0 ≤ x ∧ x < (r.length : Int) := fun i r hr x hx => by
          have := hin x (List.mem_of_mem_take hx)
          have := (h4 r hr).1
          omega
        have hlt : ∀ i : Nat, (O.take i).length ≤ 1048576 := fun i => by rw [List.length_take]; omega
        have eL : ∀ z : Int, rd_L1 C z = C.getD z.toNat [] := fun _ => rfl
        have er : ∀ (xs : List Int) (z : Int), rd xs z = xs.getD z.toNat 0 := fun _ _ => rfl
        refine ev_eq (b := playM C t O) (a := (playL C t O, true)) (Ev.step' (f := fun k => spec_HalvingPlay.l0 k C t O [] 0) (fun k => by simp only [spec_HalvingPlay.j0, Bool.not_true, Bool.false_eq_true, if_false]) ?_) (by simp only [playM, hc, ht, ho, Bool.and_self, if_true])
        have hf := to_fold (L := fun i (s : List Int) k => spec_HalvingPlay.l0 k C t O s i) (n := O.length) (f := fun (i : Nat) s => if wrongB C t O i = true then s ++ [O.getD i 0] else s) (fun i s => s.length ≤ i) (fun i s hi hs => ⟨by
          have c1 : (i : Int) < (O.length : Int) := by omega
          have c0 : 0 ≤ (i : Int) := by omega
          have c3 : (i : Int) ≤ (O.length : Int) := by omega
          have c4 : s.length < 17592186044416 := by omega
          have et : O.take ((i : Int)).toNat = O.take i := by rw [Int.toNat_natCast]
          have hoi := hin _ (getD_mem hi 0)
          have hv := pick_ok (fun j => sameB (atM (C.getD j []) (O.take i)) (atM (C.getD t.toNat []) (O.take i))) C.length
          have hv2 : (verAt C t O i).length ≤ C.length ∧ ∀ x ∈ verAt C t O i, 0 ≤ x ∧ x < (C.length : Int) := hv
          have el := (h4 _ htm).1
          refine (To.step (f := fun k => (spec_l7At.f k (C.getD t.toNat []) (O.take i)).bind fun a => (spec_l7Version.f k C (O.take i) a).bind fun b => spec_HalvingPlay.l1 k C t O s i b 0 0) (fun k => ?_)).trans ((To.bind (spec_l7At_ev _ _ (hlt i) (hx i _ htm))).trans ((To.bind (spec_l7Version_ev C (O.take i) (atM (C.getD t.toNat []) (O.take i)) hC (hlt i) (by rw [atM_len]) (hx i))).trans ?_))
          · simp only [spec_HalvingPlay.l0, if_pos c1, if_pos c0, if_pos c3, if_pos htI.1, if_pos t1, et, eL]
          · have hg := to_fold (L := fun j (u : Int) k => spec_HalvingPlay.l1 k C t O s i (verAt C t O i) u j) (n := (verAt C t O i).length) (f := fun (j : Nat) u => wrap64 (u + (C.getD ((verAt C t O i).getD j 0).toNat []).getD (O.getD i 0).toNat 0)) (fun _ _ => True) (fun j u hj _ => ⟨To.step fun k => by
              have d1 : (j : Int) < ((verAt C t O i).length : Int) := by omega
              have d0 : 0 ≤ (j : Int) := by omega
              have dv := hv2.2 _ (getD_mem hj 0)
              have dl : O.getD i 0 < (((C.getD ((verAt C t O i).getD j 0).toNat [])).length : Int) := by
                have := (h4 _ (getD_mem (xs := C) (i := ((verAt C t O i).getD j 0).toNat) (by omega) [])).1
                omega
              simp only [spec_HalvingPlay.l1, if_pos d1, if_pos d0, rd_nat, er, Int.toNat_natCast, if_pos dv.1, if_pos dv.2, if_pos c0, if_pos c1, if_pos hoi.1, eL, if_pos dl, er, wrap_succ hj (show (verAt C t O i).length ≤ 9223372036854775807 by omega)], trivial⟩) 0 trivial
            refine hg.1.trans ?_
            have ml : O.getD i 0 < ((C.getD t.toNat []).length : Int) := by omega
            have es : (List.range (verAt C t O i).length).foldl (fun u (j : Nat) => wrap64 (u + (C.getD ((verAt C t O i).getD j 0).toNat []).getD (O.getD i 0).toNat 0)) 0 = sumL C (verAt C t O i) (O.getD i 0) := rfl
            have ewr : (decide (sumL C (verAt C t O i) (O.getD i 0) ≥ 0) != ((C.getD t.toNat []).getD (O.getD i 0).toNat 0 == 1)) = wrongB C t O i := rfl
            refine To.step fun k => ?_
            simp only [spec_HalvingPlay.l1, if_neg (Int.lt_irrefl _), if_pos htI.1, if_pos t1, if_pos c0, if_pos c1, rd_nat, er, Int.toNat_natCast, if_pos hoi.1, eL, if_pos ml, es, ewr, if_pos c4, wrap_succ hi (show O.length ≤ 9223372036854775807 by omega)]
            cases wrongB C t O i <;> simp only [if_true, Bool.false_eq_true, if_false], by
          show (if wrongB C t O i = true then s ++ [O.getD i 0] else s).length ≤ i + 1
          split
          · rw [List.length_append]; simp only [List.length_cons, List.length_nil]; omega
          · omega⟩) [] (Nat.le_refl _)
        exact hf.1 _ (Ev.step' (f := fun _ => some (playL C t O, true)) (fun k => by simp only [spec_HalvingPlay.l0, if_neg (Int.lt_irrefl _)]; rfl) (Ev.now _))

theorem impl_copied_eq (l : List Int) (h : l.length ≤ 1000) : impl_copied.f l = some l := by
  have c : ([] : List Int).length + l.length < 17592186044416 := by rw [List.length_nil]; omega
  simp only [impl_copied.f, Option.bind_some, if_pos c, List.nil_append]

theorem impl_within_eq (x a b : Int) : impl_within.f x a b = some (inR a b x) := in_tells a b x

theorem cmp_isNaN_int_eq (x : Int) : cmp_isNaN_int.f x = some false := by simp [cmp_isNaN_int.f]

def cmpZ (x y : Int) : Int := if x < y then -1 else if x > y then 1 else 0
theorem cmp_Compare_int_eq (x y : Int) : cmp_Compare_int.f x y = some (cmpZ x y) := by
  simp only [cmp_Compare_int.f, cmp_isNaN_int_eq, Option.bind_some, Bool.false_eq_true, if_false, cmpZ]
  split
  · rfl
  · split <;> rfl

def cmpL : List Int → List Int → Int
  | x :: xs, y :: ys => if cmpZ x y = 0 then cmpL xs ys else cmpZ x y
  | _, _ => 0
theorem cmpL_bef : ∀ a b : List Int, a.length = b.length → (cmpL a b ≥ 0 ↔ befB a b = false)
  | [], b, _ => by simp [cmpL, befB]
  | x :: xs, [], h => by simp at h
  | x :: xs, y :: ys, h => by
    have ih := cmpL_bef xs ys (by simpa using h)
    unfold cmpL befB cmpZ
    by_cases c : x < y
    · have n : ¬ x = y := by omega
      simp [c, n]
    · by_cases d : x > y
      · have n : ¬ x = y := by omega
        simp [c, d, n]
      · have e : x = y := by omega
        simp [e, ih]
theorem slices_Compare_int_int_ev (a b : List Int) (h : a.length ≤ maxLen) (hl : a.length = b.length) : Ev (fun k => slices_Compare_int_int.f k a b) (cmpL a b) := by
  have h' : a.length ≤ 9223372036854775807 := h
  refine ev_eq (ev_list 0 a (fun i (_ : Unit) k => slices_Compare_int_int.l0 k a b a (a.length : Int) i) (fun i ys _ => cmpL ys (b.drop i)) (fun _ _ => True) (fun _ _ => ?_) (fun i x ys _ hi hx hm _ ih => ?_) () trivial) (by rw [List.drop_zero])
  · exact Ev.step' (f := fun _ => some 0) (fun k => by simp only [slices_Compare_int_int.l0, if_neg (Int.lt_irrefl _), if_neg (show ¬ (a.length : Int) < (b.length : Int) by omega)]) (ev_eq (Ev.now _) (by simp [cmpL]))
  · show Ev (fun k => slices_Compare_int_int.l0 k a b a (a.length : Int) (i : Int)) (cmpL (x :: ys) (b.drop i))
    have c1 : (i : Int) < (a.length : Int) := by omega
    have c0 : 0 ≤ (i : Int) := by omega
    have c2 : (i : Int) < (b.length : Int) := by omega
    have c3 : ¬ (i : Int) ≥ (b.length : Int) := by omega
    rw [drop_get (by omega)]
    by_cases c : cmpZ x (b.getD i 0) = 0
    · simp only [cmpL, if_pos c]
      exact Ev.step' (fun k => by simp only [slices_Compare_int_int.l0, if_pos c1, if_pos c0, if_pos c2, if_neg c3, rd_nat, hx, cmp_Compare_int_eq, Option.bind_some, if_pos c, wrap_succ hi h']) (ih () trivial)
    · simp only [cmpL, if_neg c]
      exact Ev.step' (f := fun _ => some (cmpZ x (b.getD i 0))) (fun k => by simp only [slices_Compare_int_int.l0, if_pos c1, if_pos c0, if_pos c2, if_neg c3, rd_nat, hx, cmp_Compare_int_eq, Option.bind_some, if_neg c]) (Ev.now _)

theorem impl_isLabel_eq (x : Int) : impl_isLabel.f x = some (isLab x) := by
  unfold impl_isLabel.f isLab
  by_cases e : x = 1
  · rw [if_pos e]; simp [e]
  · rw [if_neg e, decide_eq_false e, Bool.false_or]; rfl

theorem impl_areLabels_ev (l : List Int) (h : l.length ≤ maxLen) : Ev (fun k => impl_areLabels.f k l) (l.all (isLab) && true) := by
  have h' : l.length ≤ 9223372036854775807 := h
  refine ev_list 0 l (fun i (_ : Unit) k => impl_areLabels.l0 k l (l.length : Int) i) (fun _ ys _ => ys.all (isLab) && true) (fun _ _ => True) (fun _ _ => ?_) (fun i x ys _ hi hx hm _ ih => ?_) () trivial
  · exact Ev.step' (f := fun _ => some true) (fun k => by simp only [impl_areLabels.l0, if_neg (Int.lt_irrefl _)]) (Ev.now _)
  · have c1 : (i : Int) < (l.length : Int) := by omega
    have c0 : 0 ≤ (i : Int) := by omega
    simp only [List.all_cons, Bool.and_assoc]
    cases hq : (isLab) x with
    | false => exact Ev.step' (f := fun _ => some false) (fun k => by simp only [impl_areLabels.l0, if_pos c1, if_pos c0, rd_nat, hx, impl_isLabel_eq, hq, Option.bind_some, Bool.false_eq_true, if_false]) (Ev.now _)
    | true => exact Ev.step' (f := fun k => impl_areLabels.l0 k l (l.length : Int) ((i + 1 : Nat) : Int)) (fun k => by simp only [impl_areLabels.l0, if_pos c1, if_pos c0, rd_nat, hx, impl_isLabel_eq, hq, Option.bind_some, if_true, wrap_succ hi h']) (ih () trivial)

theorem class_eq (C : List (List Int)) (h8 : (C.getD 0 []).length ≤ 8) : (List.range C.length).all (fun i => decide ((C.getD i []).length ≤ 8) && stepB C i) = (List.range C.length).all (stepB C) := by
  rw [Bool.eq_iff_iff]
  simp only [List.all_eq_true, List.mem_range, Bool.and_eq_true, decide_eq_true_eq]
  exact ⟨fun h i hi => (h i hi).2, fun h i hi => ⟨by have := ((stepB_iff C i).1 (h i hi)).1; omega, h i hi⟩⟩
theorem impl_IsClass_ev (C : List (List Int)) (h : C.length ≤ maxLen) (hi : ∀ x ∈ C, x.length ≤ maxLen) : Ev (fun k => impl_IsClass.f k C) (classB C) := by
  have h' : C.length ≤ 9223372036854775807 := h
  have e0 : rd_L1 C 0 = C.getD 0 [] := rdL1_nat C 0
  have no : Ev (fun k => impl_IsClass.j0 k C true) false := Ev.step' (f := fun _ => some false) (fun k => by simp only [impl_IsClass.j0, if_true]) (Ev.now _)
  cases hn : inR 1 256 (C.length : Int) with
  | false => exact ev_eq (Ev.congr (fun k => by simp only [impl_IsClass.f, impl_within_eq, hn, Option.bind_some, Bool.false_eq_true, if_false]) no) (by simp [classB, hn])
  | true =>
    have hI := (inR_iff _ _ _).1 hn
    have c2 : 0 < (C.length : Int) := by omega
    by_cases n8 : ((C.getD 0 []).length : Int) > 8
    · refine ev_eq (Ev.congr (fun k => by simp only [impl_IsClass.f, impl_within_eq, hn, Option.bind_some, if_true, if_pos c2, e0, decide_eq_true n8]) no) ?_
      have : ¬ (List.range C.length).all (fun i => decide ((C.getD i []).length ≤ 8) && stepB C i) = true := fun q => by
        simp only [List.all_eq_true, List.mem_range, Bool.and_eq_true, decide_eq_true_eq] at q
        have := (q 0 (by omega)).1
        omega
      simp only [classB, Bool.eq_false_iff.mpr this, Bool.false_and]
    · refine Ev.congr (f := fun k => impl_IsClass.j0 k C false) (fun k => by simp only [impl_IsClass.f, impl_within_eq, hn, Option.bind_some, if_true, if_pos c2, e0, decide_eq_false n8]) ?_
      refine Ev.step' (f := fun k => impl_IsClass.l0 k C C (C.length : Int) 0) (fun k => by simp only [impl_IsClass.j0, Bool.false_eq_true, if_false]) ?_
      refine ev_eq (a := ((List.range C.length).all (stepB C) && true)) ?_ (by rw [classB, class_eq C (by omega), hn])
      refine ev_allh (L := fun i k => impl_IsClass.l0 k C C (C.length : Int) i) (n := C.length) (p := stepB C) (R := true) (fun i hi2 hI hp => ?_) (fun i hi2 hI hp => ?_) (fun _ => Ev.step' (f := fun _ => some true) (fun k => by simp only [impl_IsClass.l0, if_neg (Int.lt_irrefl _)]) (Ev.now _))
      · obtain ⟨hl, hlab, hb⟩ := (stepB_iff C i).1 hp
        have c1 : (i : Int) < (C.length : Int) := by omega
        have c0 : 0 ≤ (i : Int) := by omega
        have el : ((C.getD i []).length : Int) = ((C.getD 0 []).length : Int) := by omega
        have hlab2 : ((C.getD i []).all isLab && true) = true := by rw [hlab]; rfl
        by_cases z : i = 0
        · refine (To.step (f := fun k => (impl_areLabels.f k (C.getD i [])).bind fun t => if t = true then impl_IsClass.l0 k C C (C.length : Int) ((i + 1 : Nat) : Int) else some false) (fun k => ?_)).trans ((To.bind (impl_areLabels_ev _ (hi _ (getD_mem hi2 [])))).trans (To.congr fun k => by simp only [hlab2, if_true]))
          simp only [impl_IsClass.l0, if_pos c1, if_pos c0, if_pos c2, rdL1_nat, e0, if_pos el, if_neg (show ¬ ((i : Int) > 0) by omega), wrap_succ hi2 h']
        · have hb := hb.resolve_left z
          have c3 : (i : Int) > 0 := by omega
          have c4 : 0 ≤ ((i - 1 : Nat) : Int) := by omega
          have c5 : ((i - 1 : Nat) : Int) < (C.length : Int) := by omega
          have hl1 := ((stepB_iff C (i - 1)).1 (hI (i - 1) (by omega))).1
          have hlen : (C.getD (i - 1) []).length = (C.getD i []).length := by omega
          have nb : ¬ cmpL (C.getD (i - 1) []) (C.getD i []) ≥ 0 := fun q => by
            have := (cmpL_bef _ _ hlen).1 q
            rw [this] at hb
            exact absurd hb (by decide)
          refine (To.step (f := fun k => (impl_areLabels.f k (C.getD i [])).bind fun t => if t = true then ((slices_Compare_int_int.f k (C.getD (i - 1) []) (C.getD i [])).bind fun u => if u ≥ 0 then some false else impl_IsClass.l0 k C C (C.length : Int) ((i + 1 : Nat) : Int)) else some false) (fun k => ?_)).trans ((To.bind (impl_areLabels_ev _ (hi _ (getD_mem hi2 [])))).trans ((To.congr (f := fun k => (slices_Compare_int_int.f k (C.getD (i - 1) []) (C.getD i [])).bind fun u => if u ≥ 0 then some false else impl_IsClass.l0 k C C (C.length : Int) ((i + 1 : Nat) : Int)) fun k => by simp only [hlab2, if_true]).trans ((To.bind (slices_Compare_int_int_ev _ _ (hi _ (getD_mem (by omega) [])) hlen)).trans (To.congr fun k => by simp only [if_neg nb]))))
          simp only [impl_IsClass.l0, if_pos c1, if_pos c0, if_pos c2, rdL1_nat, e0, if_pos el, if_pos c3, wrap_pred (show 0 < i by omega) (by omega), if_pos c4, if_pos c5, wrap_succ hi2 h']
      · have c1 : (i : Int) < (C.length : Int) := by omega
        have c0 : 0 ≤ (i : Int) := by omega
        by_cases el : ((C.getD i []).length : Int) = ((C.getD 0 []).length : Int)
        · cases hlab : (C.getD i []).all isLab with
          | false =>
            have hlab2 : ((C.getD i []).all isLab && true) = false := by rw [hlab]; rfl
            by_cases z : i = 0
            · refine Ev.step' (f := fun k => (impl_areLabels.f k (C.getD i [])).bind fun t => if t = true then impl_IsClass.l0 k C C (C.length : Int) ((i + 1 : Nat) : Int) else some false) (fun k => ?_) (Ev.bind (impl_areLabels_ev _ (hi _ (getD_mem hi2 []))) (Ev.congr (f := fun _ => some false) (fun k => by simp only [hlab2, Bool.false_eq_true, if_false]) (Ev.now _)))
              simp only [impl_IsClass.l0, if_pos c1, if_pos c0, if_pos c2, rdL1_nat, e0, if_pos el, if_neg (show ¬ ((i : Int) > 0) by omega), wrap_succ hi2 h']
            · have c3 : (i : Int) > 0 := by omega
              have c4 : 0 ≤ ((i - 1 : Nat) : Int) := by omega
              have c5 : ((i - 1 : Nat) : Int) < (C.length : Int) := by omega
              refine Ev.step' (f := fun k => (impl_areLabels.f k (C.getD i [])).bind fun t => if t = true then ((slices_Compare_int_int.f k (C.getD (i - 1) []) (C.getD i [])).bind fun u => if u ≥ 0 then some false else impl_IsClass.l0 k C C (C.length : Int) ((i + 1 : Nat) : Int)) else some false) (fun k => ?_) (Ev.bind (impl_areLabels_ev _ (hi _ (getD_mem hi2 []))) (Ev.congr (f := fun _ => some false) (fun k => by simp only [hlab2, Bool.false_eq_true, if_false]) (Ev.now _)))
              simp only [impl_IsClass.l0, if_pos c1, if_pos c0, if_pos c2, rdL1_nat, e0, if_pos el, if_pos c3, wrap_pred (show 0 < i by omega) (by omega), if_pos c4, if_pos c5, wrap_succ hi2 h']
          | true =>
            have hlab2 : ((C.getD i []).all isLab && true) = true := by rw [hlab]; rfl
            have q : ¬ (i = 0 ∨ befB (C.getD (i - 1) []) (C.getD i []) = true) := fun q => by
              rw [(stepB_iff C i).2 ⟨by omega, hlab, q⟩] at hp
              exact absurd hp (by decide)
            have z : i ≠ 0 := fun z => q (.inl z)
            have hb : befB (C.getD (i - 1) []) (C.getD i []) = false := by
              cases hb : befB (C.getD (i - 1) []) (C.getD i []) with
              | false => rfl
              | true => exact absurd (.inr hb) q
            have c3 : (i : Int) > 0 := by omega
            have c4 : 0 ≤ ((i - 1 : Nat) : Int) := by omega
            have c5 : ((i - 1 : Nat) : Int) < (C.length : Int) := by omega
            have hl1 := ((stepB_iff C (i - 1)).1 (hI (i - 1) (by omega))).1
            have hlen : (C.getD (i - 1) []).length = (C.getD i []).length := by omega
            have nb : cmpL (C.getD (i - 1) []) (C.getD i []) ≥ 0 := (cmpL_bef _ _ hlen).2 hb
            refine Ev.step' (f := fun k => (impl_areLabels.f k (C.getD i [])).bind fun t => if t = true then ((slices_Compare_int_int.f k (C.getD (i - 1) []) (C.getD i [])).bind fun u => if u ≥ 0 then some false else impl_IsClass.l0 k C C (C.length : Int) ((i + 1 : Nat) : Int)) else some false) (fun k => ?_) (Ev.bind (impl_areLabels_ev _ (hi _ (getD_mem hi2 []))) (Ev.congr (f := fun k => (slices_Compare_int_int.f k (C.getD (i - 1) []) (C.getD i [])).bind fun u => if u ≥ 0 then some false else impl_IsClass.l0 k C C (C.length : Int) ((i + 1 : Nat) : Int)) (fun k => by simp only [hlab2, if_true]) (Ev.bind (slices_Compare_int_int_ev _ _ (hi _ (getD_mem (by omega) [])) hlen) (Ev.congr (f := fun _ => some false) (fun k => by simp only [if_pos nb]) (Ev.now _)))))
            simp only [impl_IsClass.l0, if_pos c1, if_pos c0, if_pos c2, rdL1_nat, e0, if_pos el, if_pos c3, wrap_pred (show 0 < i by omega) (by omega), if_pos c4, if_pos c5, wrap_succ hi2 h']
        · exact Ev.step' (f := fun _ => some false) (fun k => by simp only [impl_IsClass.l0, if_pos c1, if_pos c0, if_pos c2, rdL1_nat, e0, if_neg el]) (Ev.now _)

theorem impl_allWithin_ev (l : List Int) (a b : Int) (h : l.length ≤ maxLen) : Ev (fun k => impl_allWithin.f k l a b) (l.all (inR a b)) := by
  unfold maxLen at h
  rw [← range_all l (inR a b) 0]
  refine ev_all (L := fun i k => impl_allWithin.l0 k a b l (l.length : Int) i) (fun i hi hp => To.step fun k => ?_) (fun i hi hp => Ev.step' (f := fun _ => some false) (fun k => ?_) (Ev.now _)) (Ev.step' (f := fun _ => some true) (fun k => ?_) (Ev.now _))
  · have c1 : (i : Int) < (l.length : Int) := by omega
    have c0 : 0 ≤ (i : Int) := by omega
    simp only [impl_allWithin.l0, if_pos c1, if_pos c0, impl_within_eq, rd_nat, hp, Option.bind_some, if_true, wrap_succ hi h]
  · have c1 : (i : Int) < (l.length : Int) := by omega
    have c0 : 0 ≤ (i : Int) := by omega
    simp only [impl_allWithin.l0, if_pos c1, if_pos c0, impl_within_eq, rd_nat, hp, Option.bind_some, Bool.false_eq_true, if_false]
  · simp only [impl_allWithin.l0, if_neg (Int.lt_irrefl _)]

def riseB (l : List Int) : Bool := (List.range (l.length - 1)).all fun i => decide (l.getD i 0 < l.getD (i + 1) 0)
theorem impl_rising_ev (l : List Int) (h : l.length ≤ maxLen) : Ev (fun k => impl_rising.f k l) (riseB l) := by
  unfold maxLen at h
  refine Ev.congr (f := fun k => impl_rising.l0 k l ((0 : Int) + 1)) (fun k => rfl) ?_
  refine ev_all (L := fun i k => impl_rising.l0 k l (i + 1)) (n := l.length - 1) (fun i hi hp => ?_) (fun i hi hp => ?_) ?_
  · have c1 : (i : Int) + 1 < (l.length : Int) := by omega
    have c0 : 0 ≤ (i : Int) := by omega
    have c2 : (i : Int) < (l.length : Int) := by omega
    have c3 : 0 ≤ (i : Int) + 1 := by omega
    have e1 : wrap64 ((i : Int) + 1 - 1) = (i : Int) := by rw [wrap_id] <;> omega
    have e2 : wrap64 ((i : Int) + 1 + 1) = ((i + 1 : Nat) : Int) + 1 := by rw [wrap_id] <;> omega
    have r1 : rd l ((i : Int) + 1) = l.getD (i + 1) 0 := rd_nat l (i + 1)
    have hp := of_decide_eq_true hp
    refine To.step fun k => ?_
    simp only [impl_rising.l0, if_pos c1, e1, if_pos c0, if_pos c2, if_pos c3, rd_nat, r1, if_neg (show ¬ l.getD i 0 ≥ l.getD (i + 1) 0 by omega), e2]
  · have c1 : (i : Int) + 1 < (l.length : Int) := by omega
    have c0 : 0 ≤ (i : Int) := by omega
    have c2 : (i : Int) < (l.length : Int) := by omega
    have c3 : 0 ≤ (i : Int) + 1 := by omega
    have e1 : wrap64 ((i : Int) + 1 - 1) = (i : Int) := by rw [wrap_id] <;> omega
    have r1 : rd l ((i : Int) + 1) = l.getD (i + 1) 0 := rd_nat l (i + 1)
    have hp := of_decide_eq_false hp
    exact Ev.step' (f := fun _ => some false) (fun k => by simp only [impl_rising.l0, if_pos c1, e1, if_pos c0, if_pos c2, if_pos c3, rd_nat, r1, if_pos (show l.getD i 0 ≥ l.getD (i + 1) 0 by omega)]) (Ev.now _)
  · exact Ev.step' (f := fun _ => some true) (fun k => by simp only [impl_rising.l0, if_neg (show ¬ (((l.length - 1 : Nat) : Int) + 1 < (l.length : Int)) by omega)]) (Ev.now _)

def setB (l : List Int) (m : Nat) : Bool := riseB l && l.all (inR 0 ((m : Int) - 1))
theorem impl_isSet_ev (l : List Int) (m : Nat) (h : l.length ≤ maxLen) (hm : m ≤ maxLen) : Ev (fun k => impl_isSet.f k l (m : Int)) (setB l m) := by
  unfold maxLen at hm
  have ew : wrap64 ((m : Int) - 1) = (m : Int) - 1 := wrap_id (by omega) (by omega)
  refine Ev.congr (f := fun k => (impl_rising.f k l).bind fun t217 => (if t217 = true then ((impl_allWithin.f k l 0 ((m : Int) - 1)).bind fun t218 => (some t218)) else (some false))) (fun k => by simp only [impl_isSet.f, ew]) ?_
  refine Ev.bind (impl_rising_ev l h) ?_
  unfold setB
  cases riseB l with
  | false => exact Ev.congr (f := fun _ => some false) (fun k => by simp only [Bool.false_eq_true, if_false]) (Ev.now _)
  | true =>
    simp only [if_true, Bool.true_and]
    exact Ev.bind (impl_allWithin_ev l _ _ h) (Ev.now _)

theorem impl_isClassSet_ev (C : List (List Int)) (l : List Int) (h : C.length ≤ maxLen) (hi : ∀ x ∈ C, x.length ≤ maxLen) (hl : l.length ≤ maxLen) : Ev (fun k => impl_isClassSet.f k C l) (classB C && setB l (C.getD 0 []).length) := by
  have e0 : rd_L1 C 0 = C.getD 0 [] := rdL1_nat C 0
  refine Ev.bind (impl_IsClass_ev C h hi) ?_
  cases hc : classB C with
  | false => exact Ev.congr (f := fun _ => some false) (fun k => by simp only [Bool.false_eq_true, if_false]) (Ev.now _)
  | true =>
    have h1 := (classB_ok hc).1
    have c2 : 0 < (C.length : Int) := by omega
    simp only [if_true, if_pos c2, e0, Bool.true_and]
    exact Ev.bind (impl_isSet_ev l _ hl (hi _ (getD_mem h1 []))) (Ev.now _)

def sortL (l : List Int) : List Int := l.mergeSort fun x y => decide (x ≤ y)
theorem slices_Sort_int_int_eq (l : List Int) (h : l.length ≤ 1048576) : slices_Sort_int_int.f l = some (sortL l) := by
  simp only [slices_Sort_int_int.f, if_pos (show l.length < 4611686018427387904 by omega), sortL]
theorem sortL_perm (l : List Int) : (sortL l).Perm l := List.mergeSort_perm _ _
theorem sortL_le (l : List Int) : (sortL l).Pairwise (· ≤ ·) := by
  have h := List.pairwise_mergeSort (le := fun x y : Int => decide (x ≤ y)) (fun a b c hab hbc => by simp only [decide_eq_true_eq] at *; omega) (fun a b => by simp only [Bool.or_eq_true, decide_eq_true_eq]; omega) l
  exact h.imp (fun hab => of_decide_eq_true hab)
theorem getD_at {l : List Int} {i : Nat} (h : i < l.length) : l.getD i 0 = l[i] := by rw [List.getD_eq_getElem?_getD, List.getElem?_eq_getElem h]; rfl
theorem rise_iff {l : List Int} (hs : l.Pairwise (· ≤ ·)) : riseB l = true ↔ l.Nodup := by
  simp only [riseB, List.all_eq_true, List.mem_range, decide_eq_true_eq]
  constructor
  · intro h
    have lt : ∀ d i : Nat, (hj : i + d + 1 < l.length) → l.getD i 0 < l.getD (i + d + 1) 0 := by
      intro d
      induction d with
      | zero => intro i hj; exact h i (by omega)
      | succ d ih =>
        intro i hj
        have h1 := ih i (by omega)
        have h2 := h (i + d + 1) (by omega)
        exact Int.lt_trans h1 h2
    refine List.pairwise_iff_getElem.2 (fun i j hi hj hij e => ?_)
    have := lt (j - i - 1) i (by omega)
    rw [show i + (j - i - 1) + 1 = j by omega, getD_at hi, getD_at hj, e] at this
    exact Int.lt_irrefl _ this
  · intro h i hi
    have h1 := List.pairwise_iff_getElem.1 hs i (i + 1) (by omega) (by omega) (by omega)
    have h2 := List.pairwise_iff_getElem.1 h i (i + 1) (by omega) (by omega) (by omega)
    rw [getD_at (by omega), getD_at (by omega)]
    omega
theorem order_iff (O : List Int) (m : Nat) : orderB O m = true ↔ O.Nodup ∧ ∀ x ∈ O, inR 0 ((m : Int) - 1) x = true := by
  simp only [orderB, List.all_eq_true, List.mem_range, Bool.and_eq_true, Bool.not_eq_true', decide_eq_false_iff_not]
  constructor
  · intro h
    refine ⟨List.pairwise_iff_getElem.2 (fun i j hi hj hij e => ?_), fun x hx => ?_⟩
    · have h1 := (h j hj).2
      rw [getD_at hj, List.count_pos_iff] at h1
      exact h1 (List.mem_take_iff_getElem.2 ⟨i, by omega, e⟩)
    · obtain ⟨i, hi, rfl⟩ := List.mem_iff_getElem.1 hx
      rw [← getD_at hi]
      exact (h i hi).1
  · rintro ⟨h1, h2⟩ i hi
    refine ⟨h2 _ (getD_mem hi 0), fun q => ?_⟩
    rw [List.count_pos_iff] at q
    obtain ⟨j, hj, e⟩ := List.mem_take_iff_getElem.1 q
    have := List.pairwise_iff_getElem.1 h1 j i (by omega) hi (by omega)
    rw [getD_at hi] at e
    exact this e
theorem set_order (O : List Int) (m : Nat) : setB (sortL O) m = orderB O m := by
  rw [Bool.eq_iff_iff, order_iff, setB, Bool.and_eq_true, rise_iff (sortL_le O), (sortL_perm O).nodup_iff, List.all_eq_true]
  exact ⟨fun ⟨a, b⟩ => ⟨a, fun x hx => b x ((sortL_perm O).mem_iff.2 hx)⟩, fun ⟨a, b⟩ => ⟨a, fun x hx => b x ((sortL_perm O).mem_iff.1 hx)⟩⟩

theorem impl_at_ev (row set : List Int) (h : set.length ≤ 1048576) (hx : ∀ x ∈ set, 0 ≤ x ∧ x < (row.length : Int)) : Ev (fun k => impl_at.f k row set) (atM row set) := by
  have hf := to_fold (L := fun j (s : List Int) k => impl_at.l0 k row s set (set.length : Int) j) (n := set.length) (f := fun j s => s ++ [row.getD (set.getD j 0).toNat 0]) (fun j s => s.length = j) (fun j s hj hs => ⟨To.step fun k => by
    have c1 : (j : Int) < (set.length : Int) := by omega
    have c0 : 0 ≤ (j : Int) := by omega
    have q := hx _ (getD_mem hj 0)
    have c3 : s.length < 17592186044416 := by omega
    have e : rd row (set.getD j 0) = row.getD (set.getD j 0).toNat 0 := rfl
    simp only [impl_at.l0, if_pos c1, if_pos c0, rd_nat, if_pos q.1, if_pos q.2, if_pos c3, e, wrap_succ hj (show set.length ≤ 9223372036854775807 by omega)], by rw [List.length_append, hs]; rfl⟩) [] rfl
  refine ev_eq (hf.1 _ (Ev.step' (f := fun _ => some ((List.range set.length).foldl (fun s i => s ++ [row.getD (set.getD i 0).toNat 0]) [])) (fun k => by simp only [impl_at.l0, if_neg (Int.lt_irrefl _)]) (Ev.now _))) ?_
  rw [fold_append, List.nil_append]
  exact range_map set (fun x => row.getD x.toNat 0) 0

theorem slices_Equal_int_int_ev (x y : List Int) (h : x.length ≤ maxLen) (hl : x.length = y.length) : Ev (fun k => slices_Equal_int_int.f k x y) (sameB x y) := by
  have h' : x.length ≤ 9223372036854775807 := h
  refine Ev.congr (f := fun k => slices_Equal_int_int.l0 k x y (x.length : Int) 0) (fun k => by simp only [slices_Equal_int_int.f, if_pos (show (x.length : Int) = (y.length : Int) by omega)]) ?_
  refine ev_all (L := fun i k => slices_Equal_int_int.l0 k x y (x.length : Int) i) (n := x.length) (p := fun i => x.getD i 0 == y.getD i 0) (fun i hi hp => To.step fun k => ?_) (fun i hi hp => ?_) (Ev.step' (f := fun _ => some true) (fun k => by simp only [slices_Equal_int_int.l0, if_neg (Int.lt_irrefl _)]) (Ev.now _))
  · have c1 : (i : Int) < (x.length : Int) := by omega
    have c0 : 0 ≤ (i : Int) := by omega
    have c2 : (i : Int) < (y.length : Int) := by omega
    simp only [slices_Equal_int_int.l0, if_pos c1, if_pos c0, if_pos c2, rd_nat, if_pos (beq_iff_eq.1 hp), wrap_succ hi h']
  · have c1 : (i : Int) < (x.length : Int) := by omega
    have c0 : 0 ≤ (i : Int) := by omega
    have c2 : (i : Int) < (y.length : Int) := by omega
    exact Ev.step' (f := fun _ => some false) (fun k => by simp only [slices_Equal_int_int.l0, if_pos c1, if_pos c0, if_pos c2, rd_nat, if_neg (beq_eq_false_iff_ne.1 hp)]) (Ev.now _)

theorem impl_version_ev (C : List (List Int)) (set lab : List Int) (hC : C.length ≤ 1048576) (h : set.length ≤ 1048576) (hl : set.length = lab.length) (hx : ∀ r ∈ C, ∀ x ∈ set, 0 ≤ x ∧ x < (r.length : Int)) : Ev (fun k => impl_version.f k C set lab) (verL C set lab) := by
  have hf := to_fold (L := fun j (s : List Int) k => impl_version.l0 k set lab s C (C.length : Int) j) (n := C.length) (f := fun (j : Nat) s => if sameB (atM (C.getD j []) set) lab = true then s ++ [(j : Int)] else s) (fun j s => s.length ≤ j) (fun j s hj hs => ⟨by
    have c1 : (j : Int) < (C.length : Int) := by omega
    have c0 : 0 ≤ (j : Int) := by omega
    have c3 : s.length < 17592186044416 := by omega
    have hs1 := slices_Equal_int_int_ev (atM (C.getD j []) set) lab (by rw [atM_len]; unfold maxLen; omega) (by rw [atM_len]; exact hl)
    refine (To.step (f := fun k => (impl_at.f k (C.getD j []) set).bind fun t => (slices_Equal_int_int.f k t lab).bind fun u => if u = true then (if s.length < 17592186044416 then impl_version.l0 k set lab (s ++ [(j : Int)]) C (C.length : Int) ((j + 1 : Nat) : Int) else none) else impl_version.l0 k set lab s C (C.length : Int) ((j + 1 : Nat) : Int)) (fun k => ?_)).trans ((To.bind (impl_at_ev _ _ h (hx _ (getD_mem hj [])))).trans ((To.bind hs1).trans (To.congr fun k => ?_)))
    · simp only [impl_version.l0, if_pos c1, if_pos c0, rdL1_nat, wrap_succ hj (show C.length ≤ 9223372036854775807 by omega)]
    · cases hb : sameB (atM (C.getD j []) set) lab <;> simp only [if_true, Bool.false_eq_true, if_false, if_pos c3], by
    show (if sameB (atM (C.getD j []) set) lab = true then s ++ [(j : Int)] else s).length ≤ j + 1
    split
    · rw [List.length_append]; simp only [List.length_cons, List.length_nil]; omega
    · omega⟩) [] (Nat.le_refl _)
  exact hf.1 _ (Ev.step' (f := fun _ => some (verL C set lab)) (fun k => by simp only [impl_version.l0, if_neg (Int.lt_irrefl _)]; rfl) (Ev.now _))

theorem copied_all (l : List Int) (h : l.length ≤ 1048576) : impl_copied.f l = some l := by
  have c : ([] : List Int).length + l.length < 17592186044416 := by rw [List.length_nil]; omega
  simp only [impl_copied.f, Option.bind_some, if_pos c, List.nil_append]
theorem impl_HalvingPlay_ev (C : List (List Int)) (t : Int) (O : List Int) (hC : C.length ≤ 1048576) (hr : ∀ r ∈ C, r.length ≤ maxLen) (hO : O.length ≤ 1048576) : Ev (fun k => impl_HalvingPlay.f k C t O) (playM C t O) := by
  have hCm : C.length ≤ maxLen := by unfold maxLen; omega
  have hSl : (sortL O).length ≤ maxLen := by rw [(sortL_perm O).length_eq]; unfold maxLen; omega
  have ew : wrap64 ((C.length : Int) - 1) = (C.length : Int) - 1 := wrap_id (by omega) (by omega)
  have no : Ev (fun k => impl_HalvingPlay.j0 k C t O true) ([], false) := Ev.step' (f := fun _ => some ([], false)) (fun k => by simp only [impl_HalvingPlay.j0, if_true]) (Ev.now _)
  refine Ev.congr (f := fun k => (impl_isClassSet.f k C (sortL O)).bind fun t247 => (if t247 = true then (impl_HalvingPlay.j0 k C t O (!(inR 0 ((C.length : Int) - 1) t))) else (impl_HalvingPlay.j0 k C t O true))) (fun k => by simp only [impl_HalvingPlay.f, copied_all O hO, slices_Sort_int_int_eq O hO, Option.bind_some, impl_within_eq, ew]) ?_
  refine Ev.bind (impl_isClassSet_ev C (sortL O) hCm hr hSl) ?_
  rw [set_order]
  cases hc : classB C with
  | false => exact ev_eq (Ev.congr (fun k => by simp only [Bool.false_and, Bool.false_eq_true, if_false]) no) (by simp only [playM, hc, Bool.false_and, Bool.false_eq_true, if_false])
  | true =>
    cases ho : orderB O (C.getD 0 []).length with
    | false => exact ev_eq (Ev.congr (fun k => by simp only [Bool.and_false, Bool.false_eq_true, if_false]) no) (by simp only [playM, ho, Bool.and_false, Bool.false_eq_true, if_false])
    | true =>
      cases ht : inR 0 ((C.length : Int) - 1) t with
      | false => exact ev_eq (Ev.congr (fun k => by simp only [Bool.and_true, Bool.not_false, if_true]) no) (by simp only [playM, ht, Bool.false_and, Bool.and_false, Bool.false_eq_true, if_false])
      | true =>
        obtain ⟨h1, h2, h3, h4⟩ := classB_ok hc
        have hin := orderB_in ho
        have htI := (inR_iff _ _ _).1 ht
        have t1 : t < (C.length : Int) := by omega
        have htm : C.getD t.toNat [] ∈ C := getD_mem (by omega) []
        have hx : ∀ i : Nat, ∀ r ∈ C, ∀ x ∈ O.take i, 0 ≤ x ∧ x < (r.length : Int) := fun i r hr x hx => by
          have := hin x (List.mem_of_mem_take hx)
          have := (h4 r hr).1
          omega
        have hlt : ∀ i : Nat, (O.take i).length ≤ 1048576 := fun i => by rw [List.length_take]; omega
        have eL : ∀ z : Int, rd_L1 C z = C.getD z.toNat [] := fun _ => rfl
        have er : ∀ (xs : List Int) (z : Int), rd xs z = xs.getD z.toNat 0 := fun _ _ => rfl
        refine ev_eq (b := playM C t O) (a := (playL C t O, true)) (Ev.congr (f := fun k => impl_HalvingPlay.j0 k C t O false) (fun k => by simp only [Bool.and_true, Bool.not_true, if_true]) (Ev.step' (f := fun k => impl_HalvingPlay.l0 k C t O [] O (O.length : Int) 0) (fun k => by simp only [impl_HalvingPlay.j0, Bool.false_eq_true, if_false]) ?_)) (by simp only [playM, hc, ht, ho, Bool.and_self, if_true])
        have hf := to_fold (L := fun i (s : List Int) k => impl_HalvingPlay.l0 k C t O s O (O.length : Int) i) (n := O.length) (f := fun (i : Nat) s => if wrongB C t O i = true then s ++ [O.getD i 0] else s) (fun i s => s.length ≤ i) (fun i s hi hs => ⟨by
          have c1 : (i : Int) < (O.length : Int) := by omega
          have c0 : 0 ≤ (i : Int) := by omega
          have c3 : (i : Int) ≤ (O.length : Int) := by omega
          have c4 : s.length < 17592186044416 := by omega
          have et : O.take ((i : Int)).toNat = O.take i := by rw [Int.toNat_natCast]
          have hoi := hin _ (getD_mem hi 0)
          have hv := pick_ok (fun j => sameB (atM (C.getD j []) (O.take i)) (atM (C.getD t.toNat []) (O.take i))) C.length
          have hv2 : (verAt C t O i).length ≤ C.length ∧ ∀ x ∈ verAt C t O i, 0 ≤ x ∧ x < (C.length : Int) := hv
          have el := (h4 _ htm).1
          have ml : O.getD i 0 < ((C.getD t.toNat []).length : Int) := by omega
          refine (To.step (f := fun k => (impl_at.f k (C.getD t.toNat []) (O.take i)).bind fun a => (impl_version.f k C (O.take i) a).bind fun b => impl_HalvingPlay.l1 k C t O s (O.getD i 0) 0 O (O.length : Int) i b (b.length : Int) 0) (fun k => ?_)).trans ((To.bind (impl_at_ev _ _ (hlt i) (hx i _ htm))).trans ((To.bind (impl_version_ev C (O.take i) (atM (C.getD t.toNat []) (O.take i)) hC (hlt i) (by rw [atM_len]) (hx i))).trans ?_))
          · simp only [impl_HalvingPlay.l0, if_pos c1, if_pos c0, if_pos c3, if_pos htI.1, if_pos t1, et, eL, rd_nat]
          · have hg := to_fold (L := fun j (u : Int) k => impl_HalvingPlay.l1 k C t O s (O.getD i 0) u O (O.length : Int) i (verAt C t O i) ((verAt C t O i).length : Int) j) (n := (verAt C t O i).length) (f := fun (j : Nat) u => wrap64 (u + (C.getD ((verAt C t O i).getD j 0).toNat []).getD (O.getD i 0).toNat 0)) (fun _ _ => True) (fun j u hj _ => ⟨To.step fun k => by
              have d1 : (j : Int) < ((verAt C t O i).length : Int) := by omega
              have d0 : 0 ≤ (j : Int) := by omega
              have dv := hv2.2 _ (getD_mem hj 0)
              have dl : O.getD i 0 < (((C.getD ((verAt C t O i).getD j 0).toNat [])).length : Int) := by
                have := (h4 _ (getD_mem (xs := C) (i := ((verAt C t O i).getD j 0).toNat) (by omega) [])).1
                omega
              simp only [impl_HalvingPlay.l1, if_pos d1, if_pos d0, rd_nat, er, Int.toNat_natCast, if_pos dv.1, if_pos dv.2, if_pos hoi.1, eL, if_pos dl, er, wrap_succ hj (show (verAt C t O i).length ≤ 9223372036854775807 by omega)], trivial⟩) 0 trivial
            refine hg.1.trans ?_
            have es : (List.range (verAt C t O i).length).foldl (fun u (j : Nat) => wrap64 (u + (C.getD ((verAt C t O i).getD j 0).toNat []).getD (O.getD i 0).toNat 0)) 0 = sumL C (verAt C t O i) (O.getD i 0) := rfl
            have hlab := (h4 _ htm).2 _ (getD_mem (xs := C.getD t.toNat []) (i := (O.getD i 0).toNat) (by omega) 0)
            have hlab2 : (C.getD t.toNat []).getD (O.getD i 0).toNat 0 = 1 ∨ (C.getD t.toNat []).getD (O.getD i 0).toNat 0 = -1 := by simpa [isLab] using hlab
            have ewr : wrongB C t O i = (decide (sumL C (verAt C t O i) (O.getD i 0) ≥ 0) != ((C.getD t.toNat []).getD (O.getD i 0).toNat 0 == 1)) := rfl
            refine To.step fun k => ?_
            simp only [impl_HalvingPlay.l1, if_neg (Int.lt_irrefl _), if_pos htI.1, if_pos t1, if_pos hoi.1, eL, if_pos ml, er, es, if_pos c4, wrap_succ hi (show O.length ≤ 9223372036854775807 by omega), ewr]
            by_cases ng : sumL C (verAt C t O i) (O.getD i 0) < 0
            · have nd : decide (sumL C (verAt C t O i) (O.getD i 0) ≥ 0) = false := decide_eq_false (by omega)
              rcases hlab2 with q | q <;> (simp only [if_pos ng, nd, q]; rfl)
            · have nd : decide (sumL C (verAt C t O i) (O.getD i 0) ≥ 0) = true := decide_eq_true (by omega)
              rcases hlab2 with q | q <;> (simp only [if_neg ng, nd, q]; rfl), by
          show (if wrongB C t O i = true then s ++ [O.getD i 0] else s).length ≤ i + 1
          split
          · rw [List.length_append]; simp only [List.length_cons, List.length_nil]; omega
          · omega⟩) [] (Nat.le_refl _)
        exact hf.1 _ (Ev.step' (f := fun _ => some (playL C t O, true)) (fun k => by simp only [impl_HalvingPlay.l0, if_neg (Int.lt_irrefl _)]; rfl) (Ev.now _))

theorem laws_markIntSS_ev (P : List (List Int)) (a : Int) (h0 : 0 ≤ a) (h1 : a + sumN List.length P ≤ 1000000000000) (hP : P.length ≤ 1000000000000) : Ev (fun k => laws_markIntSS.f k P a) (a + sumN List.length P, iota2 a P) :=
  ev_mark ([] : List Int) List.length iota P 1000000000000 (L := fun ys a i k => laws_markIntSS.l0 k ys a i) (fun ys a i x hi hl hx hm ha hb r hr => by
    refine Ev.step' (f := fun k => (laws_markIntS.f k x a).bind fun b => laws_markIntSS.l0 k (ys.set i b.2) b.1 ((i + 1 : Nat) : Int)) (fun k => ?_) (Ev.bind (laws_markIntS_ev x a ha hb) hr)
    have c1 : (i : Int) < (ys.length : Int) := by omega
    have c3 : 0 ≤ (i : Int) := by omega
    simp only [laws_markIntSS.l0, if_pos c1, if_pos c3, Int.toNat_natCast, rdR_nat, hx, wrap_succ (i := i) (n := ys.length) (by omega) (by omega)]) (fun ys a hl => Ev.step' (f := fun _ => some (a, ys)) (fun k => by
    simp only [laws_markIntSS.l0, hl, if_neg (Int.lt_irrefl _)]) (Ev.now _)) a h0 h1

theorem playM_len (C : List (List Int)) (t : Int) (O : List Int) : (playM C t O).1.length ≤ O.length := by
  unfold playM
  split
  · show (playL C t O).length ≤ O.length
    have h : ∀ n : Nat, ((List.range n).foldl (fun s (i : Nat) => if wrongB C t O i = true then s ++ [O.getD i 0] else s) ([] : List Int)).length ≤ n := by
      intro n
      induction n with
      | zero => exact Nat.le_refl _
      | succ n ih =>
        rw [List.range_succ, List.foldl_append, List.foldl_cons, List.foldl_nil]
        split
        · rw [List.length_append]; simp only [List.length_cons, List.length_nil]; omega
        · omega
    exact h O.length
  · exact Nat.zero_le _
theorem pure : SFnExactHalvingPlay.Pure := by
  intro C t O ⟨h, hi0⟩ _ ⟨hO, _⟩
  by_cases big : 1048576 < O.length
  · exact .inl ⟨0, big⟩
  · have hi : ∀ x ∈ C, x.length ≤ maxLen := fun x hx => (hi0 x hx).1
    obtain ⟨K1, k1⟩ := laws_szIntSS_ev C 1048576 h hi (by omega) (by omega)
    by_cases cn : lft 1048576 (sz2 C) < 0
    · exact .inr (.inl ⟨K1, _, k1 K1 (by omega), by omega, cn⟩)
    · have d := lft_nonneg (Int.not_lt.1 cn)
      have hs := sz2_small (l := C) (n := 1048576) (by omega)
      have hsum : sumN List.length C ≤ 1048576 := by unfold sz2 at d; omega
      have hu : (playM C t O).1.length ≤ 1048576 := by have := playM_len C t O; omega
      obtain ⟨K2, k2⟩ := laws_toIntSS_ev C hs.1 hs.2
      obtain ⟨K3, k3⟩ := laws_toIntS_ev O (by omega)
      obtain ⟨K4, k4⟩ := spec_HalvingPlay_ev C t O hs.1 hi (by omega)
      obtain ⟨K5, k5⟩ := impl_HalvingPlay_ev C t O hs.1 hi (by omega)
      obtain ⟨K6, k6⟩ := laws_eqIntS_ev (playM C t O).1 (by unfold maxLen; omega)
      obtain ⟨K7, k7⟩ := laws_eqIntSS_ev C h hi
      obtain ⟨K8, k8⟩ := laws_eqIntS_ev O hO
      obtain ⟨K9, k9⟩ := laws_markIntSS_ev C 1 (by omega) (by omega) (by omega)
      obtain ⟨K10, k10⟩ := laws_markIntS_ev O (1 + (sumN List.length C : Int)) (by omega) (by omega)
      obtain ⟨K11, k11⟩ := laws_markIntS_ev (playM C t O).1 1 (by omega) (by omega)
      obtain ⟨K12, k12⟩ := laws_heldIntS_ev (playM C t O).1 1 (by omega) (by omega)
      let K := K1 + K2 + K3 + K4 + K5 + K6 + K7 + K8 + K9 + K10 + K11 + K12
      exact .inr (.inr ⟨K, _, _, _, (playM C t O).1, (playM C t O).2, _, _, _, _, _, _, k1 K (by omega), k2 K (by omega), k3 K (by omega), k4 K (by omega), k5 K (by omega), k6 K (by omega), k7 K (by omega), k8 K (by omega), k9 K (by omega), k10 K (by omega), k11 K (by omega), k12 K (by omega), by omega, Int.not_lt.1 cn, by omega, by omega, by omega⟩)
end Go.Proofs.Ytfkfahdikmfpeaa.QFnExactHalvingPlay
