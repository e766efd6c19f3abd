/- FnExactVapnikNumber: what its calls come to, shown of numbers and lists alone. -/
import Derived.Test.YtfkfahdikmfpeaaDoorSFnExactVapnikNumber
import Derived.Test.YtfkfahdikmfpeaaDoorLb
namespace Go.Proofs.YtfkfahdikmfpeaaDoor.QFnExactVapnikNumber
open Go.RowKit Go.Proofs.YtfkfahdikmfpeaaDoor.KFnExactVapnikNumber Go.Proofs.YtfkfahdikmfpeaaDoor.Lb Go.Proofs.YtfkfahdikmfpeaaDoor.PFnExactVapnikNumber Go.Proofs.YtfkfahdikmfpeaaDoorW.PrintWords Go.Proofs.YtfkfahdikmfpeaaDoorW.PrintLast Go.Proofs.YtfkfahdikmfpeaaDoorW.PrintMore
set_option linter.unusedVariables false
set_option linter.unusedSimpArgs false
def isLab (x : Int) : Bool := decide (x = 1) || decide (x = -1)
def sz2 (l : List (List Int)) : Nat := l.length + sumN List.length l
theorem sz2_small {l : List (List Int)} {n : Nat} (h : sz2 l ≤ n) : l.length ≤ n ∧ ∀ x ∈ l, x.length ≤ n := by
 unfold sz2 at h
 exact ⟨by omega, fun x hx => by have := sumN_mem List.length hx; omega⟩
def atM (h p : List Int) : List Int := p.map (rd h)
def sameB (x y : List Int) : Bool := (List.range x.length).all fun i => x.getD i 0 == y.getD i 0
theorem rdL1_nat (xs : List (List Int)) (i : Nat) : rd_L1 xs (i : Int) = xs.getD i [] := by simp [rd_L1]
theorem laws_szIntS_eq (l : List Int) (a : Int) (h : l.length ≤ maxLen) (h0 : 0 ≤ a) (h1 : a ≤ 1048576) : laws_szIntS.f l a = some (lft a l.length) := by
 unfold maxLen at h
 have hw : wrap64 (a - (l.length : Int)) = a - l.length := wrap_id (by omega) (by omega)
 unfold laws_szIntS.f lft
 rw [hw]
 by_cases c : (l.length : Int) ≤ a
 · rw [if_neg (by omega), if_pos c]
 · rw [if_pos (by omega), if_neg c]
theorem laws_szIntSS_ev (l : List (List Int)) (a : Int) (h : l.length ≤ maxLen) (hi : ∀ x ∈ l, x.length ≤ maxLen) (h0 : 0 ≤ a) (h1 : a ≤ 1048576) : Ev (fun k => laws_szIntSS.f k l a) (lft a (sz2 l)) := by
 have h' : l.length ≤ 9223372036854775807 := h
 unfold sz2 laws_szIntSS.f
 rw [← lft_add a _ _ h0]
 have hw : wrap64 (a - (l.length : Int)) = a - l.length := wrap_id (by omega) (by omega)
 rw [hw]
 by_cases c : (l.length : Int) ≤ a
 · have e : lft a l.length = a - l.length := by unfold lft; rw [if_pos c]
   rw [e]
   simp only [if_neg (show ¬ a - (l.length : Int) < 0 by omega)]
   refine ev_sz [] List.length l (L := fun a i k => laws_szIntSS.l0 k l a i) (fun i a hi2 h0 h1 hn => ?_) (fun i a hi2 h0 h1 hn => ?_) (fun a => Ev.step' (f := fun _ => some a) (fun k => by simp only [laws_szIntSS.l0, if_neg (Int.lt_irrefl _)]) (Ev.now _)) _ (by omega) (by omega)
   · have c1 : (i : Int) < (l.length : Int) := by omega
     have c0 : 0 ≤ (i : Int) := by omega
     refine To.step (fun k => ?_)
     simp only [laws_szIntSS.l0, if_pos c1, if_pos c0, rdL1_nat, laws_szIntS_eq _ a (hi _ (getD_mem hi2 [])) h0 h1, Option.bind_some, if_neg (show ¬ lft a (l.getD i []).length < 0 by omega), wrap_succ hi2 h']
   · have c1 : (i : Int) < (l.length : Int) := by omega
     have c0 : 0 ≤ (i : Int) := by omega
     refine Ev.step' (f := fun _ => some (-1)) (fun k => ?_) (Ev.now _)
     simp only [laws_szIntSS.l0, if_pos c1, if_pos c0, rdL1_nat, laws_szIntS_eq _ a (hi _ (getD_mem hi2 [])) h0 h1, Option.bind_some, if_pos hn]
 · have e : lft a l.length = -1 := by unfold lft; rw [if_neg c]
   rw [e]
   simp only [if_pos (show a - (l.length : Int) < 0 by omega), if_pos (show (-1 : Int) < 0 by omega)]
   exact Ev.now _
theorem spec_l2Labels_ev (l : List Int) (h : l.length ≤ maxLen) : Ev (fun k => spec_l2Labels.f k l) (l.all isLab) := by
 have h' : l.length ≤ 9223372036854775807 := h
 refine ev_list 0 l (fun i (_ : Unit) k => spec_l2Labels.l0 k l i) (fun _ ys _ => ys.all isLab) (fun _ _ => True) (fun _ _ => ?_) (fun i x ys _ hi hx hm _ ih => ?_) () trivial
 · exact Ev.step' (f := fun _ => some true) (fun k => by simp only [spec_l2Labels.l0, if_neg (Int.lt_irrefl _)]) (Ev.now _)
 · have c1 : (i : Int) < (l.length : Int) := by omega
   have c0 : 0 ≤ (i : Int) := by omega
   have ih := ih () trivial
   simp only [List.all_cons]
   unfold isLab at ih ⊢
   by_cases e1 : x = 1
   · rw [show (decide (x = 1) || decide (x = -1)) = true by simp [e1], Bool.true_and]
     exact Ev.step' (fun k => by simp only [spec_l2Labels.l0, if_pos c1, if_pos c0, rd_nat, hx, if_pos e1, wrap_succ hi h']) ih
   · by_cases e2 : x = -1
     · rw [show (decide (x = 1) || decide (x = -1)) = true by simp [e2], Bool.true_and]
       exact Ev.step' (fun k => by simp only [spec_l2Labels.l0, if_pos c1, if_pos c0, rd_nat, hx, if_neg e1, if_pos e2, wrap_succ hi h']) ih
     · rw [show (decide (x = 1) || decide (x = -1)) = false by simp [e1, e2], Bool.false_and]
       exact Ev.step' (f := fun _ => some false) (fun k => by simp only [spec_l2Labels.l0, if_pos c1, if_pos c0, rd_nat, hx, if_neg e1, if_neg e2]) (Ev.now _)
theorem ev_allh {L : Int → Nat → Option Bool} {n : Nat} {p : Nat → Bool} {R : Bool} (hT : ∀ i : Nat, i < n → (∀ j, j < i → p j = true) → p i = true → To (L i) (L ((i + 1 : Nat) : Int))) (hF : ∀ i : Nat, i < n → (∀ j, j < i → p j = true) → p i = false → Ev (L i) false) (hN : (∀ j, j < n → p j = true) → Ev (L n) R) : Ev (L 0) ((List.range n).all p && R) := by
 have key : ∀ (d i : Nat), i + d = n → (∀ j, j < i → p j = true) → Ev (L i) ((List.range' i d).all p && R) := by
  intro d
  induction d with
  | zero =>
   intro i hd hI
   obtain rfl : i = n := by omega
   simpa using hN hI
  | succ d ih =>
   intro i hd hI
   have hi : i < n := by omega
   rw [List.range'_succ, List.all_cons]
   cases hp : p i with
   | false => simpa using hF i hi hI hp
   | true =>
    rw [Bool.true_and]
    exact hT i hi hI hp _ (ih (i + 1) (by omega) (fun j hj => by
     by_cases e : j = i
     · exact e ▸ hp
     · exact hI j (by omega)))
 rw [List.range_eq_range']
 exact key n 0 (by omega) (fun j hj => absurd hj (Nat.not_lt_zero _))
theorem drop_get {l : List Int} {i : Nat} (h : i < l.length) : l.drop i = l.getD i 0 :: l.drop (i + 1) := by
 rw [List.drop_eq_getElem_cons h, List.getD_eq_getElem?_getD, List.getElem?_eq_getElem h]; rfl
def befB : List Int → List Int → Bool
 | x :: xs, y :: ys => if x = y then befB xs ys else decide (x < y)
 | _, _ => false
theorem spec_l7Before_ev (a b : List Int) (h : a.length ≤ maxLen) (hl : a.length = b.length) : Ev (fun k => spec_l7Before.f k a b) (befB a b) := by
 have h' : a.length ≤ 9223372036854775807 := h
 refine ev_eq (ev_list 0 a (fun i (_ : Unit) k => spec_l7Before.l0 k a b i) (fun i ys _ => befB ys (b.drop i)) (fun _ _ => True) (fun _ _ => ?_) (fun i x ys _ hi hx hm _ ih => ?_) () trivial) (by rw [List.drop_zero])
 · exact Ev.step' (f := fun _ => some false) (fun k => by simp only [spec_l7Before.l0, if_neg (Int.lt_irrefl _)]) (ev_eq (Ev.now _) (by simp [befB]))
 · show Ev (fun k => spec_l7Before.l0 k a b (i : Int)) (befB (x :: ys) (b.drop i))
   have c1 : (i : Int) < (a.length : Int) := by omega
   have c0 : 0 ≤ (i : Int) := by omega
   have c2 : (i : Int) < (b.length : Int) := by omega
   rw [drop_get (by omega)]
   by_cases c : x = b.getD i 0
   · simp only [befB, if_pos c]
     exact Ev.step' (fun k => by simp only [spec_l7Before.l0, if_pos c1, if_pos c0, if_pos c2, rd_nat, hx, if_pos c, wrap_succ hi h']) (ih () trivial)
   · simp only [befB, if_neg c]
     exact Ev.step' (f := fun _ => some (decide (x < b.getD i 0))) (fun k => by simp only [spec_l7Before.l0, if_pos c1, if_pos c0, if_pos c2, rd_nat, hx, if_neg c]) (Ev.now _)
theorem spec_l1In_eq (x a b : Int) : spec_l1In.f x a b = some (inR a b x) := in_tells a b x
def stepB (C : List (List Int)) (i : Nat) : Bool := decide ((C.getD i []).length = (C.getD 0 []).length) && ((C.getD i []).all isLab && (decide (i = 0) || befB (C.getD (i - 1) []) (C.getD i [])))
def classB (C : List (List Int)) : Bool := (List.range C.length).all (fun i => decide ((C.getD i []).length ≤ 8) && stepB C i) && inR 1 256 C.length
theorem wrap_pred {i : Nat} (h : 0 < i) (hn : i ≤ 9223372036854775807) : wrap64 ((i : Int) - 1) = ((i - 1 : Nat) : Int) := by unfold wrap64; omega
theorem stepB_iff (C : List (List Int)) (i : Nat) : stepB C i = true ↔ (C.getD i []).length = (C.getD 0 []).length ∧ (C.getD i []).all isLab = true ∧ (i = 0 ∨ befB (C.getD (i - 1) []) (C.getD i []) = true) := by
 simp only [stepB, Bool.and_eq_true, Bool.or_eq_true, decide_eq_true_eq]
theorem spec_l7Class_ev (C : List (List Int)) (h : C.length ≤ maxLen) (hi : ∀ x ∈ C, x.length ≤ maxLen) : Ev (fun k => spec_l7Class.f k C) (classB C) := by
 have h' : C.length ≤ 9223372036854775807 := h
 have e0 : rd_L1 C 0 = C.getD 0 [] := rdL1_nat C 0
 refine ev_allh (L := fun i k => spec_l7Class.l0 k C i) (n := C.length) (p := fun i => decide ((C.getD i []).length ≤ 8) && stepB C i) (R := inR 1 256 C.length) (fun i hi2 hI hp => ?_) (fun i hi2 hI hp => ?_) (fun _ => Ev.step' (f := fun _ => some (inR 1 256 C.length)) (fun k => by simp only [spec_l7Class.l0, if_neg (Int.lt_irrefl _), spec_l1In_eq, Option.bind_some]) (Ev.now _))
 · simp only [Bool.and_eq_true, decide_eq_true_eq, stepB_iff] at hp hI
   obtain ⟨h8, hl, hlab, hb⟩ := hp
   have c1 : (i : Int) < (C.length : Int) := by omega
   have c0 : 0 ≤ (i : Int) := by omega
   have c2 : 0 < (C.length : Int) := by omega
   have n8 : ¬ ((C.getD i []).length : Int) > 8 := by omega
   have el : ((C.getD i []).length : Int) = ((C.getD 0 []).length : Int) := by omega
   refine (To.step (f := fun k => (spec_l2Labels.f k (C.getD i [])).bind fun t => spec_l7Class.j1 k C i (!t)) (fun k => ?_)).trans ((To.bind (spec_l2Labels_ev _ (hi _ (getD_mem hi2 [])))).trans ?_)
   · simp only [spec_l7Class.l0, if_pos c1, if_pos c0, rdL1_nat, if_neg n8, if_pos c2, e0, if_pos el]
   · simp only [hlab, Bool.not_true]
     by_cases z : i = 0
     · refine To.step fun k => ?_
       simp only [spec_l7Class.j1, Bool.false_eq_true, if_false, if_neg (show ¬ ((i : Int) > 0) by omega), wrap_succ hi2 h']
     · have hb := hb.resolve_left z
       have c3 : (i : Int) > 0 := by omega
       have c4 : 0 ≤ ((i - 1 : Nat) : Int) := by omega
       have c5 : ((i - 1 : Nat) : Int) < (C.length : Int) := by omega
       have hl1 := (hI (i - 1) (by omega)).2.1
       refine (To.step (f := fun k => (spec_l7Before.f k (C.getD (i - 1) []) (C.getD i [])).bind fun t => if t = true then spec_l7Class.l0 k C ((i + 1 : Nat) : Int) else some false) (fun k => ?_)).trans ((To.bind (spec_l7Before_ev _ _ (hi _ (getD_mem (by omega) [])) (by omega))).trans (To.congr fun k => by simp only [hb, if_true]))
       simp only [spec_l7Class.j1, Bool.false_eq_true, if_false, if_pos c3, wrap_pred (show 0 < i by omega) (by omega), if_pos c4, if_pos c5, if_pos c0, if_pos c1, rdL1_nat, wrap_succ hi2 h']
 · have c1 : (i : Int) < (C.length : Int) := by omega
   have c0 : 0 ≤ (i : Int) := by omega
   have c2 : 0 < (C.length : Int) := by omega
   by_cases n8 : ((C.getD i []).length : Int) > 8
   · exact Ev.step' (f := fun k => spec_l7Class.j1 k C i true) (fun k => by simp only [spec_l7Class.l0, if_pos c1, if_pos c0, rdL1_nat, if_pos n8]) (Ev.step' (f := fun _ => some false) (fun k => by simp only [spec_l7Class.j1, if_true]) (Ev.now _))
   · by_cases el : ((C.getD i []).length : Int) = ((C.getD 0 []).length : Int)
     · refine Ev.step' (f := fun k => (spec_l2Labels.f k (C.getD i [])).bind fun t => spec_l7Class.j1 k C i (!t)) (fun k => ?_) (Ev.bind (spec_l2Labels_ev _ (hi _ (getD_mem hi2 []))) ?_)
       · simp only [spec_l7Class.l0, if_pos c1, if_pos c0, rdL1_nat, if_neg n8, if_pos c2, e0, if_pos el]
       · cases hlab : (C.getD i []).all isLab with
         | false => exact Ev.step' (f := fun _ => some false) (fun k => by simp only [spec_l7Class.j1, Bool.not_false, if_true]) (Ev.now _)
         | true =>
          have q : ¬ (i = 0 ∨ befB (C.getD (i - 1) []) (C.getD i []) = true) := fun q => by
           have : (decide ((C.getD i []).length ≤ 8) && stepB C i) = true := by
            rw [Bool.and_eq_true, decide_eq_true_eq, stepB_iff]
            exact ⟨by omega, by omega, hlab, q⟩
           rw [this] at hp
           exact absurd hp (by decide)
          have z : i ≠ 0 := fun z => q (.inl z)
          have hb : befB (C.getD (i - 1) []) (C.getD i []) = false := by
           cases hb : befB (C.getD (i - 1) []) (C.getD i []) with
           | false => rfl
           | true => exact absurd (.inr hb) q
          have c3 : (i : Int) > 0 := by omega
          have c4 : 0 ≤ ((i - 1 : Nat) : Int) := by omega
          have c5 : ((i - 1 : Nat) : Int) < (C.length : Int) := by omega
          have hl1 := hI (i - 1) (by omega)
          simp only [Bool.and_eq_true, decide_eq_true_eq, stepB_iff] at hl1
          refine Ev.step' (f := fun k => (spec_l7Before.f k (C.getD (i - 1) []) (C.getD i [])).bind fun t => if t = true then spec_l7Class.l0 k C ((i + 1 : Nat) : Int) else some false) (fun k => ?_) (Ev.bind (spec_l7Before_ev _ _ (hi _ (getD_mem (by omega) [])) (by omega)) (Ev.congr (f := fun _ => some false) (fun k => by simp only [hb, Bool.false_eq_true, if_false]) (Ev.now _)))
          simp only [spec_l7Class.j1, Bool.not_true, Bool.false_eq_true, if_false, if_pos c3, wrap_pred (show 0 < i by omega) (by omega), if_pos c4, if_pos c5, if_pos c0, if_pos c1, rdL1_nat, wrap_succ hi2 h']
     · exact Ev.step' (f := fun k => spec_l7Class.j1 k C i true) (fun k => by simp only [spec_l7Class.l0, if_pos c1, if_pos c0, rdL1_nat, if_neg n8, if_pos c2, e0, if_neg el]) (Ev.step' (f := fun _ => some false) (fun k => by simp only [spec_l7Class.j1, if_true]) (Ev.now _))
theorem classB_ok {C : List (List Int)} (h : classB C = true) : 1 ≤ C.length ∧ C.length ≤ 256 ∧ (C.getD 0 []).length ≤ 8 ∧ ∀ r ∈ C, r.length = (C.getD 0 []).length ∧ ∀ x ∈ r, isLab x = true := by
 simp only [classB, Bool.and_eq_true, List.all_eq_true, List.mem_range, decide_eq_true_eq, stepB_iff] at h
 obtain ⟨h1, h2⟩ := h
 have h3 := (inR_iff _ _ _).1 h2
 refine ⟨by omega, by omega, (h1 0 (by omega)).1, fun r hr => ?_⟩
 obtain ⟨i, hi, rfl⟩ := List.mem_iff_getElem.1 hr
 have := h1 i hi
 rw [show C.getD i [] = C[i] from by rw [List.getD_eq_getElem?_getD, List.getElem?_eq_getElem hi]; rfl] at this
 exact ⟨this.2.1, this.2.2.1⟩
def setsT (m : Nat) : List (List Int) := (spec_l7Sets.f 30000 (m : Int)).getD []
set_option maxHeartbeats 4000000 in
set_option maxRecDepth 1000000 in
theorem sets_run (k : Nat) : (List.range 9).map (fun m => spec_l7Sets.f (k + 30000) ((m : Nat) : Int)) = (List.range 9).map (fun m => some (setsT m)) := by kernel_rfl
theorem spec_l7Sets_ev (m : Nat) (h : m ≤ 8) : Ev (fun k => spec_l7Sets.f k (m : Int)) (setsT m) := ⟨30000, fun k hk => by
 have := List.map_inj_left.1 (sets_run (k - 30000)) m (List.mem_range.2 (by omega))
 rwa [Nat.sub_add_cancel hk] at this⟩
theorem atM_len (row set : List Int) : (atM row set).length = set.length := List.length_map _
theorem spec_l7At_ev (row set : List Int) (h : set.length ≤ 1048576) (hx : ∀ x ∈ set, 0 ≤ x ∧ x < (row.length : Int)) : Ev (fun k => spec_l7At.f k row set) (atM row set) := by
 have hf := to_fold (L := fun j (s : List Int) k => spec_l7At.l0 k row set s j) (n := set.length) (f := fun j s => s ++ [row.getD (set.getD j 0).toNat 0]) (fun j s => s.length = j) (fun j s hj hs => ⟨To.step fun k => by
  have c1 : (j : Int) < (set.length : Int) := by omega
  have c0 : 0 ≤ (j : Int) := by omega
  have q := hx _ (getD_mem hj 0)
  have c3 : s.length < 17592186044416 := by omega
  have e : rd row (set.getD j 0) = row.getD (set.getD j 0).toNat 0 := rfl
  simp only [spec_l7At.l0, if_pos c1, if_pos c0, rd_nat, if_pos q.1, if_pos q.2, if_pos c3, e, wrap_succ hj (show set.length ≤ 9223372036854775807 by omega)], by rw [List.length_append, hs]; rfl⟩) [] rfl
 refine ev_eq (hf.1 _ (Ev.step' (f := fun _ => some ((List.range set.length).foldl (fun s i => s ++ [row.getD (set.getD i 0).toNat 0]) [])) (fun k => by simp only [spec_l7At.l0, if_neg (Int.lt_irrefl _)]) (Ev.now _))) ?_
 rw [fold_append, List.nil_append]
 exact range_map set (fun x => row.getD x.toNat 0) 0
theorem befB_irrefl : ∀ a : List Int, befB a a = false
 | [] => rfl
 | x :: xs => by simp [befB, befB_irrefl xs]
theorem befB_trans : ∀ a b c : List Int, a.length = b.length → b.length = c.length → befB a b = true → befB b c = true → befB a c = true
 | [], _, _, _, _, h, _ => by simp [befB] at h
 | x :: xs, [], _, h, _, _, _ => by simp at h
 | x :: xs, y :: ys, [], _, h, _, _ => by simp at h
 | x :: xs, y :: ys, z :: zs, h1, h2, h3, h4 => by
  have ih := befB_trans xs ys zs (by simpa using h1) (by simpa using h2)
  unfold befB at h3 h4 ⊢
  by_cases e : x = y
  · rw [if_pos e] at h3
    by_cases f : y = z
    · rw [if_pos f] at h4
      rw [if_pos (e.trans f)]
      exact ih h3 h4
    · rw [if_neg f] at h4
      rw [if_neg (by omega)]
      have := of_decide_eq_true h4
      exact decide_eq_true (by omega)
  · rw [if_neg e] at h3
    have g3 := of_decide_eq_true h3
    by_cases f : y = z
    · rw [if_neg (by omega)]
      exact decide_eq_true (by omega)
    · rw [if_neg f] at h4
      have := of_decide_eq_true h4
      rw [if_neg (by omega)]
      exact decide_eq_true (by omega)
theorem befB_tri : ∀ a b : List Int, a.length = b.length → befB a b = true ∨ befB b a = true ∨ a = b
 | [], [], _ => .inr (.inr rfl)
 | [], y :: ys, h => by simp at h
 | x :: xs, [], h => by simp at h
 | x :: xs, y :: ys, h => by
  have ih := befB_tri xs ys (by simpa using h)
  unfold befB
  by_cases e : x = y
  · subst e
    rw [if_pos rfl, if_pos rfl]
    rcases ih with i | i | i
    · exact .inl i
    · exact .inr (.inl i)
    · exact .inr (.inr (by rw [i]))
  · rw [if_neg e, if_neg (fun h => e h.symm)]
    by_cases f : x < y
    · exact .inl (decide_eq_true f)
    · exact .inr (.inl (decide_eq_true (by omega)))
theorem befB_asymm {a b : List Int} (h : a.length = b.length) (h1 : befB a b = true) : befB b a = false := by
 cases e : befB b a with
 | false => rfl
 | true =>
  have := befB_trans a b a h h.symm h1 e
  rw [befB_irrefl] at this
  exact this.symm
theorem sorted_same {n : Nat} {A B : List (List Int)} (ha : ∀ x ∈ A, x.length = n) (hA : A.Pairwise (fun a b => befB a b = true)) (hB : B.Pairwise (fun a b => befB a b = true)) (h : ∀ x, x ∈ A ↔ x ∈ B) : A = B := by
 have nd : ∀ L : List (List Int), L.Pairwise (fun a b => befB a b = true) → L.Nodup := fun L hL => hL.imp fun {a b} hab e => by subst e; rw [befB_irrefl] at hab; cases hab
 refine List.Perm.eq_of_pairwise (le := fun a b => befB a b = true) (fun a b h1 h2 h3 h4 => ?_) hA hB ((List.perm_ext_iff_of_nodup (nd _ hA) (nd _ hB)).2 h)
 have := befB_asymm (a := a) (b := b) (by rw [ha a h1, ha b ((h b).2 h2)]) h3
 rw [this] at h4
 cases h4
def posN (row : List Int) (out : List (List Int)) : Nat → Nat
 | 0 => 0
 | m + 1 => if befB row (out.getD m []) = true then posN row out m else m + 1
theorem posN_le (row : List Int) (out : List (List Int)) : ∀ m, posN row out m ≤ m
 | 0 => Nat.le_refl _
 | m + 1 => by
  unfold posN
  have := posN_le row out m
  split <;> omega
theorem posN_hi (row : List Int) (out : List (List Int)) : ∀ m j, posN row out m ≤ j → j < m → befB row (out.getD j []) = true
 | 0, _, _, h => absurd h (Nat.not_lt_zero _)
 | m + 1, j, h1, h2 => by
  unfold posN at h1
  by_cases e : befB row (out.getD m []) = true
  · rw [if_pos e] at h1
    by_cases f : j = m
    · rw [f]; exact e
    · exact posN_hi row out m j h1 (by omega)
  · rw [if_neg e] at h1
    omega
theorem posN_lo (row : List Int) (out : List (List Int)) : ∀ m, 0 < posN row out m → befB row (out.getD (posN row out m - 1) []) = false
 | 0, h => by unfold posN at h; exact absurd h (Nat.lt_irrefl 0)
 | m + 1, h => by
  unfold posN at h ⊢
  by_cases e : befB row (out.getD m []) = true
  · rw [if_pos e] at h ⊢
    exact posN_lo row out m h
  · rw [if_neg e]
    exact Bool.eq_false_iff.2 e
def insAt (row : List Int) (out : List (List Int)) (m : Nat) : List (List Int) := if posN row out m = 0 ∨ befB (out.getD (posN row out m - 1) []) row = true then out.take (posN row out m) ++ [row] ++ out.drop (posN row out m) else out
def tracesM (C : List (List Int)) (S : List Int) : List (List Int) := (C.map fun r => atM r S).foldl (fun out row => insAt row out out.length) []
theorem insAt_ok {n : Nat} {row : List Int} {out : List (List Int)} (hr : row.length = n) (ho : ∀ x ∈ out, x.length = n) (hs : out.Pairwise (fun a b => befB a b = true)) : (insAt row out out.length).Pairwise (fun a b => befB a b = true) ∧ ∀ x, x ∈ insAt row out out.length ↔ x = row ∨ x ∈ out := by
 have hle := posN_le row out out.length
 have hhi := posN_hi row out out.length
 have hlo := posN_lo row out out.length
 unfold insAt
 generalize posN row out out.length = p at hle hhi hlo ⊢
 have gd : ∀ j (hj : j < out.length), out.getD j [] = out[j] := fun j hj => by rw [List.getD_eq_getElem?_getD, List.getElem?_eq_getElem hj]; rfl
 have hs' := hs
 rw [List.pairwise_iff_getElem] at hs'
 by_cases c : p = 0 ∨ befB (out.getD (p - 1) []) row = true
 · rw [if_pos c]
   have hsp := hs
   rw [← List.take_append_drop p out, List.pairwise_append] at hsp
   obtain ⟨t1, t2, t3⟩ := hsp
   have b1 : ∀ a ∈ out.take p, befB a row = true := by
    intro a ha
    obtain ⟨i, hi, rfl⟩ := List.mem_iff_getElem.1 ha
    rw [List.getElem_take]
    rw [List.length_take] at hi
    have hp : p ≠ 0 := by omega
    have h1 := c.resolve_left hp
    rw [gd (p - 1) (by omega)] at h1
    by_cases e : i = p - 1
    · subst e; exact h1
    · have h2 := hs' i (p - 1) (by omega) (by omega) (by omega)
      exact befB_trans _ _ _ (by rw [ho _ (List.getElem_mem _), ho _ (List.getElem_mem _)]) (by rw [ho _ (List.getElem_mem _), hr]) h2 h1
   have b2 : ∀ b ∈ out.drop p, befB row b = true := by
    intro b hb
    obtain ⟨i, hi, rfl⟩ := List.mem_iff_getElem.1 hb
    rw [List.getElem_drop]
    rw [List.length_drop] at hi
    have := hhi (p + i) (by omega) (by omega)
    rwa [gd (p + i) (by omega)] at this
   refine ⟨?_, fun x => ?_⟩
   · rw [List.pairwise_append, List.pairwise_append]
     refine ⟨⟨t1, List.pairwise_singleton _ _, fun a ha b hb => ?_⟩, t2, fun a ha b hb => ?_⟩
     · rw [List.mem_singleton.1 hb]; exact b1 a ha
     · rcases List.mem_append.1 ha with h | h
       · exact t3 a h b hb
       · rw [List.mem_singleton.1 h]; exact b2 b hb
   · rw [List.mem_append, List.mem_append, List.mem_singleton]
     have : x ∈ out ↔ x ∈ out.take p ∨ x ∈ out.drop p := by rw [← List.mem_append, List.take_append_drop]
     rw [this]
     constructor
     · rintro ((h | h) | h)
       · exact .inr (.inl h)
       · exact .inl h
       · exact .inr (.inr h)
     · rintro (h | h | h)
       · exact .inl (.inr h)
       · exact .inl (.inl h)
       · exact .inr h
 · rw [if_neg c]
   refine ⟨hs, fun x => ⟨fun h => .inr h, fun h => ?_⟩⟩
   rcases h with h | h
   · have hp : p ≠ 0 := fun e => c (.inl e)
     have h1 : ¬ befB (out.getD (p - 1) []) row = true := fun e => c (.inr e)
     have h2 := hlo (by omega)
     rw [gd (p - 1) (by omega)] at h1 h2
     have hm : out[p - 1]'(by omega) ∈ out := List.getElem_mem _
     rcases befB_tri row (out[p - 1]'(by omega)) (by rw [hr, ho _ hm]) with e | e | e
     · rw [h2] at e; cases e
     · exact absurd e h1
     · rw [h, e]; exact hm
   · exact h
theorem insAt_len (row : List Int) (out : List (List Int)) (m : Nat) : (insAt row out m).length ≤ out.length + 1 := by
 unfold insAt
 split
 · simp only [List.length_append, List.length_take, List.length_drop, List.length_cons, List.length_nil]
   omega
 · omega
theorem tracesM_ok (C : List (List Int)) (S : List Int) : (∀ x ∈ tracesM C S, x.length = S.length) ∧ (tracesM C S).Pairwise (fun a b => befB a b = true) ∧ (∀ x, x ∈ tracesM C S ↔ x ∈ C.map fun r => atM r S) ∧ (tracesM C S).length ≤ C.length := by
 have key : ∀ (L : List (List Int)) (out : List (List Int)), (∀ x ∈ L, x.length = S.length) → (∀ x ∈ out, x.length = S.length) → out.Pairwise (fun a b => befB a b = true) → (∀ x ∈ L.foldl (fun out row => insAt row out out.length) out, x.length = S.length) ∧ (L.foldl (fun out row => insAt row out out.length) out).Pairwise (fun a b => befB a b = true) ∧ (∀ x, x ∈ L.foldl (fun out row => insAt row out out.length) out ↔ x ∈ out ∨ x ∈ L) ∧ (L.foldl (fun out row => insAt row out out.length) out).length ≤ out.length + L.length := by
  intro L
  induction L with
  | nil => exact fun out _ ho hs => ⟨ho, hs, fun x => by simp, by simp⟩
  | cons r L ih =>
   intro out hL ho hs
   obtain ⟨i1, i2⟩ := insAt_ok (hL r List.mem_cons_self) ho hs
   have i3 := insAt_len r out out.length
   have hL' : ∀ x ∈ L, x.length = S.length := fun x hx => hL x (List.mem_cons_of_mem _ hx)
   have ho' : ∀ x ∈ insAt r out out.length, x.length = S.length := by
    intro x hx
    rcases (i2 x).1 hx with e | e
    · rw [e]; exact hL r List.mem_cons_self
    · exact ho x e
   obtain ⟨j1, j2, j3, j4⟩ := ih (insAt r out out.length) hL' ho' i1
   refine ⟨j1, j2, fun x => ?_, ?_⟩
   · rw [List.foldl_cons, j3 x, i2 x, List.mem_cons]
     constructor
     · rintro ((h | h) | h)
       · exact .inr (.inl h)
       · exact .inl h
       · exact .inr (.inr h)
     · rintro (h | h | h)
       · exact .inl (.inr h)
       · exact .inl (.inl h)
       · exact .inr h
   · rw [List.foldl_cons, List.length_cons]
     omega
 have hl : ∀ x ∈ C.map fun r => atM r S, x.length = S.length := by
  intro x hx
  obtain ⟨r, _, rfl⟩ := List.mem_map.1 hx
  exact atM_len r S
 obtain ⟨k1, k2, k3, k4⟩ := key (C.map fun r => atM r S) [] hl (fun x hx => absurd hx (by simp)) List.Pairwise.nil
 exact ⟨k1, k2, fun x => by unfold tracesM; rw [k3 x]; simp, by unfold tracesM; simpa using k4⟩
theorem spec_l7Traces_to (C : List (List Int)) (S : List Int) (out : List (List Int)) (i : Nat) (row : List Int) (n : Nat) (hn : n ≤ 1048576) (hr : row.length = n) (ho : ∀ x ∈ out, x.length = n) (hl : out.length ≤ 1048576) (hi : i < 1048576) : ∀ m, m ≤ out.length → To (fun k => spec_l7Traces.l1 k C S out i row (m : Int)) (fun k => spec_l7Traces.l0 k C S (insAt row out m) ((i + 1 : Nat) : Int)) := by
 have ew : wrap64 ((i : Int) + 1) = ((i + 1 : Nat) : Int) := wrap_succ hi (by omega)
 have eL : ∀ z : Int, rd_L1 out z = out.getD z.toNat [] := fun _ => rfl
 have hlen : ∀ j, j < out.length → (out.getD j []).length = n := fun j hj => ho _ (getD_mem hj [])
 have mx : n ≤ maxLen := by unfold maxLen; omega
 intro m
 induction m with
 | zero =>
  intro hm
  refine To.step fun k => ?_
  have c1 : ¬ (((0 : Nat) : Int) > 0) := by omega
  have c2 : ((0 : Nat) : Int) = 0 := rfl
  have c3 : (0 : Int) ≤ ((0 : Nat) : Int) := by omega
  have c4 : ((0 : Nat) : Int) ≤ (out.length : Int) := by omega
  have c5 : ([] : List (List Int)).length + (out.take 0).length < 5864062014805 := by simp
  have c6 : (([] : List (List Int)) ++ out.take 0).length + [row].length < 5864062014805 := by simp
  have c7 : ((([] : List (List Int)) ++ out.take 0) ++ [row]).length + (out.drop 0).length < 5864062014805 := by simp; omega
  have e1 : (((0 : Nat) : Int)).toNat = 0 := rfl
  have e2 : insAt row out 0 = (([] : List (List Int)) ++ out.take 0) ++ [row] ++ out.drop 0 := by unfold insAt; rw [if_pos (.inl rfl)]; rfl
  simp only [spec_l7Traces.l1, if_neg c1, if_pos c2, if_pos c3, if_pos c4, e1, Option.bind_some, if_pos c5, if_pos c6, if_pos c7, ew, e2]
 | succ m ih =>
  intro hm
  have c1 : ((m + 1 : Nat) : Int) > 0 := by omega
  have w1 : wrap64 (((m + 1 : Nat) : Int) - 1) = (m : Int) := by rw [wrap_id] <;> omega
  have c2 : 0 ≤ (m : Int) := by omega
  have c3 : (m : Int) < (out.length : Int) := by omega
  have c4 : ¬ ((m + 1 : Nat) : Int) = 0 := by omega
  have c5 : (0 : Int) ≤ ((m + 1 : Nat) : Int) := by omega
  have c6 : ((m + 1 : Nat) : Int) ≤ (out.length : Int) := by omega
  have e1 : (((m + 1 : Nat) : Int)).toNat = m + 1 := rfl
  have hb1 := spec_l7Before_ev row (out.getD m []) (by rw [hr]; exact mx) (by rw [hr, hlen m (by omega)])
  have hb2 := spec_l7Before_ev (out.getD m []) row (by rw [hlen m (by omega)]; exact mx) (by rw [hr, hlen m (by omega)])
  have c7 : ([] : List (List Int)).length + (out.take (m + 1)).length < 5864062014805 := by simp; omega
  have c8 : (([] : List (List Int)) ++ out.take (m + 1)).length + [row].length < 5864062014805 := by simp; omega
  have c9 : ((([] : List (List Int)) ++ out.take (m + 1)) ++ [row]).length + (out.drop (m + 1)).length < 5864062014805 := by simp; omega
  refine To.trans (To.step (f := fun k => (spec_l7Before.f k row (out.getD m [])).bind fun b => if b = true then spec_l7Traces.l1 k C S out i row (m : Int) else (spec_l7Before.f k (out.getD m []) row).bind fun b2 => if b2 = true then spec_l7Traces.l0 k C S ((([] : List (List Int)) ++ out.take (m + 1)) ++ [row] ++ out.drop (m + 1)) ((i + 1 : Nat) : Int) else spec_l7Traces.l0 k C S out ((i + 1 : Nat) : Int)) (fun k => ?_)) ((To.bind hb1).trans ?_)
  · simp only [spec_l7Traces.l1, if_pos c1, w1, if_pos c2, if_pos c3, eL, Int.toNat_natCast, if_neg c4, if_pos c5, if_pos c6, e1, Option.bind_some, if_pos c7, if_pos c8, if_pos c9, ew]
  · cases hc : befB row (out.getD m []) with
    | true =>
     have e2 : insAt row out (m + 1) = insAt row out m := by unfold insAt; rw [show posN row out (m + 1) = posN row out m from by rw [posN, if_pos hc]]
     rw [e2]
     exact (To.congr fun k => by rw [if_pos rfl]).trans (ih (by omega))
    | false =>
     have ep : posN row out (m + 1) = m + 1 := by rw [posN, if_neg (by rw [hc]; simp)]
     refine (To.congr fun k => by rw [if_neg (by simp)]).trans ((To.bind hb2).trans (To.congr fun k => ?_))
     unfold insAt
     rw [ep, show m + 1 - 1 = m from rfl]
     cases hd : befB (out.getD m []) row with
     | true => rw [if_pos rfl, if_pos (.inr rfl)]; rfl
     | false => rw [if_neg (by simp), if_neg (by simp)]
theorem spec_l7Traces_ev (C : List (List Int)) (S : List Int) (hC : C.length ≤ 1048576) (hS : S.length ≤ 1048576) (hx : ∀ r ∈ C, ∀ x ∈ S, 0 ≤ x ∧ x < (r.length : Int)) : Ev (fun k => spec_l7Traces.f k C S) (tracesM C S) := by
 have hf := to_fold (L := fun i (out : List (List Int)) k => spec_l7Traces.l0 k C S out i) (n := C.length) (f := fun (i : Nat) out => insAt (atM (C.getD i []) S) out out.length) (fun i out => out.length ≤ i ∧ ∀ x ∈ out, x.length = S.length) (fun i out hi hs => ⟨by
  have c1 : (i : Int) < (C.length : Int) := by omega
  have c0 : 0 ≤ (i : Int) := by omega
  have eL : ∀ z : Int, rd_L1 C z = C.getD z.toNat [] := fun _ => rfl
  refine (To.step (f := fun k => (spec_l7At.f k (C.getD i []) S).bind fun a => spec_l7Traces.l1 k C S out i a (out.length : Int)) (fun k => ?_)).trans ((To.bind (spec_l7At_ev _ _ hS (hx _ (getD_mem hi [])))).trans (spec_l7Traces_to C S out i _ S.length hS (atM_len _ _) hs.2 (by have := hs.1; omega) (by omega) out.length (Nat.le_refl _)))
  simp only [spec_l7Traces.l0, if_pos c1, if_pos c0, eL, Int.toNat_natCast], by
  refine ⟨by have h1 := insAt_len (atM (C.getD i []) S) out out.length; have h2 := hs.1; show (insAt _ out out.length).length ≤ i + 1; omega, fun x hx => ?_⟩
  have hx : x ∈ insAt (atM (C.getD i []) S) out out.length := hx
  unfold insAt at hx
  split at hx
  · rw [List.mem_append, List.mem_append, List.mem_singleton] at hx
    rcases hx with (h | h) | h
    · exact hs.2 x (List.mem_of_mem_take h)
    · rw [h]; exact atM_len _ _
    · exact hs.2 x (List.mem_of_mem_drop h)
  · exact hs.2 x hx⟩) [] ⟨Nat.le_refl _, fun x hx => absurd hx (by simp)⟩
 refine ev_eq (hf.1 _ (Ev.step' (f := fun _ => some ((List.range C.length).foldl (fun out i => insAt (atM (C.getD i []) S) out out.length) [])) (fun k => by simp only [spec_l7Traces.l0, if_neg (Int.lt_irrefl _)]) (Ev.now _))) ?_
 rw [range_fold C (fun out r => insAt (atM r S) out out.length) []]
 unfold tracesM
 rw [List.foldl_map]
def shB (C : List (List Int)) (S : List Int) : Bool := decide ((tracesM C S).length = 2 ^ S.length)
theorem shl_two : ∀ n, n ≤ 8 → shl .i64 1 ((n : Nat) : Int) = ((2 ^ n : Nat) : Int) := fun n h => by
 have e : (List.range 9).all (fun n => decide (shl .i64 1 ((n : Nat) : Int) = ((2 ^ n : Nat) : Int))) = true := by kernel_rfl
 exact of_decide_eq_true (List.all_eq_true.1 e n (List.mem_range.2 (by omega)))
theorem sh_eq (C : List (List Int)) (S : List Int) (h8 : S.length ≤ 8) : ((((tracesM C S).length : Int)) == (shl .i64 1 (S.length : Int))) = shB C S := by
 rw [shl_two S.length h8]
 unfold shB
 rw [Bool.eq_iff_iff, beq_iff_eq, decide_eq_true_eq]
 omega
theorem spec_l7Shatters_ev (C : List (List Int)) (S : List Int) (hC : C.length ≤ 1048576) (h8 : S.length ≤ 8) (hx : ∀ r ∈ C, ∀ x ∈ S, 0 ≤ x ∧ x < (r.length : Int)) : Ev (fun k => spec_l7Shatters.f k C S) (shB C S) := by
 refine Ev.bind (spec_l7Traces_ev C S hC (by omega) hx) ?_
 rw [sh_eq C S h8]
 exact Ev.now _
def setOkB (m : Nat) (s : List Int) : Bool := decide (s.length ≤ 8) && s.all fun x => decide (0 ≤ x) && decide (x < (m : Int))
set_option maxHeartbeats 4000000 in
set_option maxRecDepth 1000000 in
theorem sets_ok : (List.range 9).all (fun m => decide ((setsT m).length ≤ 256) && (setsT m).all (setOkB m)) = true := by kernel_rfl
theorem setsT_ok (m : Nat) (h : m ≤ 8) : (setsT m).length ≤ 256 ∧ ∀ s ∈ setsT m, s.length ≤ 8 ∧ ∀ x ∈ s, 0 ≤ x ∧ x < (m : Int) := by
 have e := List.all_eq_true.1 sets_ok m (List.mem_range.2 (by omega))
 rw [Bool.and_eq_true, decide_eq_true_eq] at e
 refine ⟨e.1, fun s hs => ?_⟩
 have := List.all_eq_true.1 e.2 s hs
 unfold setOkB at this
 rw [Bool.and_eq_true, decide_eq_true_eq] at this
 refine ⟨this.1, fun x hx => ?_⟩
 have := List.all_eq_true.1 this.2 x hx
 rwa [Bool.and_eq_true, decide_eq_true_eq, decide_eq_true_eq] at this
def shatM (C : List (List Int)) : List (List Int) := (setsT (C.getD 0 []).length).filter (shB C)
theorem spec_l7Shattered_ev (C : List (List Int)) (h1 : 1 ≤ C.length) (hC : C.length ≤ 1048576) (h8 : (C.getD 0 []).length ≤ 8) (hl : ∀ r ∈ C, r.length = (C.getD 0 []).length) : Ev (fun k => spec_l7Shattered.f k C) (shatM C) := by
 have e0 : rd_L1 C 0 = C.getD 0 [] := rdL1_nat C 0
 have c1 : 0 < (C.length : Int) := by omega
 obtain ⟨s1, s2⟩ := setsT_ok _ h8
 refine Ev.congr (f := fun k => (spec_l7Sets.f k ((C.getD 0 []).length : Int)).bind fun t => spec_l7Shattered.l0 k C [] t 0) (fun k => by simp only [spec_l7Shattered.f, if_pos c1, e0]) ?_
 refine Ev.bind (spec_l7Sets_ev _ h8) ?_
 unfold shatM
 generalize setsT (C.getD 0 []).length = T at s1 s2
 have key := ev_list ([] : List Int) T (fun i (out : List (List Int)) k => spec_l7Shattered.l0 k C out T i) (fun _ ys out => out ++ ys.filter (shB C)) (fun i out => out.length ≤ i) (fun out _ => ?_) (fun i x ys out hi hx hm ho ih => ?_) [] (Nat.le_refl _)
 · simpa using key
 · exact Ev.step' (f := fun _ => some out) (fun k => by simp only [spec_l7Shattered.l0, if_neg (Int.lt_irrefl _)]) (ev_eq (Ev.now _) (by simp))
 · have c2 : (i : Int) < (T.length : Int) := by omega
   have c3 : 0 ≤ (i : Int) := by omega
   have c4 : out.length < 5864062014805 := by omega
   have eL : rd_L1 T (i : Int) = x := (rdL1_nat T i).trans hx
   have hs := spec_l7Shatters_ev C x hC (s2 x hm).1 (fun r hr y hy => by have := (s2 x hm).2 y hy; rw [hl r hr]; exact this)
   refine Ev.step' (f := fun k => (spec_l7Shatters.f k C x).bind fun t280 => (if t280 = true then (spec_l7Shattered.l0 k C (out ++ [x]) T ((i + 1 : Nat) : Int)) else (spec_l7Shattered.l0 k C out T ((i + 1 : Nat) : Int)))) (fun k => by simp only [spec_l7Shattered.l0, if_pos c2, if_pos c3, eL, if_pos c4, wrap_succ hi (show T.length ≤ 9223372036854775807 by omega)]) (Ev.bind hs ?_)
   cases hb : shB C x with
   | true =>
    simp only [if_true]
    exact ev_eq (ih (out ++ [x]) (by rw [List.length_append]; simp only [List.length_cons, List.length_nil]; omega)) (by rw [List.filter_cons, hb]; simp)
   | false =>
    simp only [Bool.false_eq_true, if_false]
    exact ev_eq (ih out (by omega)) (by rw [List.filter_cons, hb]; simp)
def shatteredM (C : List (List Int)) : List (List Int) × Bool := if classB C = true then (shatM C, true) else ([], false)
theorem shB_nil (C : List (List Int)) (h1 : 1 ≤ C.length) : shB C [] = true := by
 obtain ⟨t1, t2, t3, _⟩ := tracesM_ok C []
 unfold shB
 rw [decide_eq_true_eq]
 have ne : [] ∈ tracesM C [] := (t3 []).2 (List.mem_map.2 ⟨C[0], List.getElem_mem (by omega), rfl⟩)
 cases hT : tracesM C [] with
 | nil => rw [hT] at ne; cases ne
 | cons a L =>
  cases L with
  | nil => rfl
  | cons b L =>
   rw [hT] at t1 t2
   have ha : a = [] := List.eq_nil_of_length_eq_zero (t1 a List.mem_cons_self)
   have hb : b = [] := List.eq_nil_of_length_eq_zero (t1 b (List.mem_cons_of_mem _ List.mem_cons_self))
   have := (List.pairwise_cons.1 t2).1 b List.mem_cons_self
   rw [ha, hb] at this
   cases this
set_option maxHeartbeats 4000000 in
set_option maxRecDepth 1000000 in
theorem sets_nil : (List.range 9).all (fun m => decide ([] ∈ setsT m)) = true := by kernel_rfl
theorem shatM_pos (C : List (List Int)) (h1 : 1 ≤ C.length) (h8 : (C.getD 0 []).length ≤ 8) : 0 < (shatM C).length ∧ (shatM C).length ≤ 256 :=
 ⟨List.length_pos_of_mem (List.mem_filter.2 ⟨of_decide_eq_true (List.all_eq_true.1 sets_nil _ (List.mem_range.2 (by omega))), shB_nil C h1⟩), Nat.le_trans (List.length_filter_le _ _) (setsT_ok _ h8).1⟩
def vapM (C : List (List Int)) : Int × Bool := if classB C = true then ((((shatM C).getD ((shatM C).length - 1) []).length : Int), true) else (0, false)
theorem vap_last (T : List (List Int)) (h0 : 0 < T.length) (h1 : T.length ≤ 256) : 0 ≤ wrap64 ((T.length : Int) - 1) ∧ wrap64 ((T.length : Int) - 1) < (T.length : Int) ∧ rd_L1 T (wrap64 ((T.length : Int) - 1)) = T.getD (T.length - 1) [] := by
 have e : wrap64 ((T.length : Int) - 1) = ((T.length - 1 : Nat) : Int) := by rw [wrap_id] <;> omega
 rw [e]
 exact ⟨by omega, by omega, rdL1_nat T _⟩
theorem spec_VapnikNumber_ev (C : List (List Int)) (hC : C.length ≤ 1048576) (hi : ∀ x ∈ C, x.length ≤ maxLen) : Ev (fun k => spec_VapnikNumber.f k C) (vapM C) := by
 refine Ev.bind (spec_l7Class_ev C (by unfold maxLen; omega) hi) ?_
 unfold vapM
 cases hc : classB C with
 | false => exact Ev.congr (f := fun _ => some (0, false)) (fun k => by simp only [Bool.false_eq_true, if_false]) (Ev.now _)
 | true =>
  obtain ⟨h1, _, h8, h4⟩ := classB_ok hc
  obtain ⟨p0, p1⟩ := shatM_pos C h1 h8
  obtain ⟨q0, q1, q2⟩ := vap_last (shatM C) p0 p1
  simp only [if_true]
  refine Ev.bind (spec_l7Shattered_ev C h1 hC h8 (fun r hr => (h4 r hr).1)) ?_
  simp only [if_pos q0, if_pos q1, q2]
  exact Ev.now _
theorem laws_toIntS_ev (l : List Int) (h : l.length ≤ 1048576) : Ev (fun k => laws_toIntS.f k l) l := by
 have hw : wrap64 (l.length : Int) = l.length := wrap_id (by omega) (by omega)
 have c0 : 0 ≤ (l.length : Int) := by omega
 have e : ∀ k, laws_toIntS.f k l = laws_toIntS.l0 k l (List.replicate l.length 0) 0 := fun k => by
  simp only [laws_toIntS.f, if_pos c0, Int.toNat_natCast]; rw [if_pos (by omega)]
 refine Ev.congr e ?_
 have hf := to_fold (L := fun i (s : List Int) k => laws_toIntS.l0 k l s i) (n := l.length) (f := fun i s => s.set i (l.getD i 0)) (fun i s => s = l.take i ++ List.replicate (l.length - i) 0) (fun i s hi hs => ⟨To.step fun k => ?_, ?_⟩) (List.replicate l.length 0) (by simp)
 · refine hf.1 _ (Ev.step' (f := fun _ => some l) (fun k => ?_) (Ev.now _))
   have := hf.2
   rw [Nat.sub_self, List.take_length, List.replicate_zero, List.append_nil] at this
   show laws_toIntS.l0 (k + 1) l _ _ = _
   rw [this]
   simp only [laws_toIntS.l0, if_neg (Int.lt_irrefl _)]
 · have c1 : (i : Int) < (l.length : Int) := by omega
   have c2 : (i : Int) < (s.length : Int) := by rw [hs, List.length_append, List.length_take, List.length_replicate]; omega
   have c3 : 0 ≤ (i : Int) := by omega
   simp only [laws_toIntS.l0, if_pos c1, if_pos c2, if_pos c3, rd_nat, Int.toNat_natCast, wrap_succ hi (by omega : l.length ≤ 9223372036854775807)]
 · show List.set s i _ = _
   rw [hs]; exact set_step l 0 0 i hi
theorem laws_toIntSS_ev (l : List (List Int)) (h : l.length ≤ 1048576) (hi : ∀ x ∈ l, x.length ≤ 1048576) : Ev (fun k => laws_toIntSS.f k l) l := by
 have c0 : 0 ≤ (l.length : Int) := by omega
 have e : ∀ k, laws_toIntSS.f k l = laws_toIntSS.l0 k l (List.replicate l.length []) 0 := fun k => by
  simp only [laws_toIntSS.f, if_pos c0, Int.toNat_natCast]; rw [if_pos (by omega)]
 refine Ev.congr e ?_
 have hf := to_fold (L := fun i (s : List (List Int)) k => laws_toIntSS.l0 k l s i) (n := l.length) (f := fun i s => s.set i (l.getD i [])) (fun i s => s = l.take i ++ List.replicate (l.length - i) []) (fun i s hi2 hs => ⟨?_, ?_⟩) (List.replicate l.length []) (by simp)
 · refine hf.1 _ (Ev.step' (f := fun _ => some l) (fun k => ?_) (Ev.now _))
   have := hf.2
   rw [Nat.sub_self, List.take_length, List.replicate_zero, List.append_nil] at this
   show laws_toIntSS.l0 (k + 1) l _ _ = _
   rw [this]
   simp only [laws_toIntSS.l0, if_neg (Int.lt_irrefl _)]
 · have c1 : (i : Int) < (l.length : Int) := by omega
   have c2 : (i : Int) < (s.length : Int) := by rw [hs, List.length_append, List.length_take, List.length_replicate]; omega
   have c3 : 0 ≤ (i : Int) := by omega
   refine (To.step (f := fun k => (laws_toIntS.f k (l.getD i [])).bind fun t => laws_toIntSS.l0 k l (s.set i t) ((i + 1 : Nat) : Int)) (fun k => ?_)).trans (To.bind (laws_toIntS_ev _ (hi _ (getD_mem hi2 []))))
   simp only [laws_toIntSS.l0, if_pos c1, if_pos c2, if_pos c3, rdL1_nat, Int.toNat_natCast, wrap_succ hi2 (by omega : l.length ≤ 9223372036854775807)]
 · show List.set s i _ = _
   rw [hs]; exact set_step l [] [] i hi2
theorem impl_within_eq (x a b : Int) : impl_within.f x a b = some (inR a b x) := in_tells a b x
theorem impl_isLabel_eq (x : Int) : impl_isLabel.f x = some (isLab x) := by
 unfold impl_isLabel.f isLab
 by_cases e : x = 1
 · rw [if_pos e]; simp [e]
 · rw [if_neg e, decide_eq_false e, Bool.false_or]; rfl
theorem impl_areLabels_ev (l : List Int) (h : l.length ≤ maxLen) : Ev (fun k => impl_areLabels.f k l) (l.all (isLab) && true) := by
 have h' : l.length ≤ 9223372036854775807 := h
 refine ev_list 0 l (fun i (_ : Unit) k => impl_areLabels.l0 k l (l.length : Int) i) (fun _ ys _ => ys.all (isLab) && true) (fun _ _ => True) (fun _ _ => ?_) (fun i x ys _ hi hx hm _ ih => ?_) () trivial
 · exact Ev.step' (f := fun _ => some true) (fun k => by simp only [impl_areLabels.l0, if_neg (Int.lt_irrefl _)]) (Ev.now _)
 · have c1 : (i : Int) < (l.length : Int) := by omega
   have c0 : 0 ≤ (i : Int) := by omega
   simp only [List.all_cons, Bool.and_assoc]
   cases hq : (isLab) x with
   | false => exact Ev.step' (f := fun _ => some false) (fun k => by simp only [impl_areLabels.l0, if_pos c1, if_pos c0, rd_nat, hx, impl_isLabel_eq, hq, Option.bind_some, Bool.false_eq_true, if_false]) (Ev.now _)
   | true => exact Ev.step' (f := fun k => impl_areLabels.l0 k l (l.length : Int) ((i + 1 : Nat) : Int)) (fun k => by simp only [impl_areLabels.l0, if_pos c1, if_pos c0, rd_nat, hx, impl_isLabel_eq, hq, Option.bind_some, if_true, wrap_succ hi h']) (ih () trivial)
theorem cmp_isNaN_int_eq (x : Int) : cmp_isNaN_int.f x = some false := by simp [cmp_isNaN_int.f]
def cmpZ (x y : Int) : Int := if x < y then -1 else if x > y then 1 else 0
theorem cmp_Compare_int_eq (x y : Int) : cmp_Compare_int.f x y = some (cmpZ x y) := by
 simp only [cmp_Compare_int.f, cmp_isNaN_int_eq, Option.bind_some, Bool.false_eq_true, if_false, cmpZ]
 split
 · rfl
 · split <;> rfl
def cmpL : List Int → List Int → Int
 | x :: xs, y :: ys => if cmpZ x y = 0 then cmpL xs ys else cmpZ x y
 | _, _ => 0
theorem cmpL_bef : ∀ a b : List Int, a.length = b.length → (cmpL a b ≥ 0 ↔ befB a b = false)
 | [], b, _ => by simp [cmpL, befB]
 | x :: xs, [], h => by simp at h
 | x :: xs, y :: ys, h => by
  have ih := cmpL_bef xs ys (by simpa using h)
  unfold cmpL befB cmpZ
  by_cases c : x < y
  · have n : ¬ x = y := by omega
    simp [c, n]
  · by_cases d : x > y
    · have n : ¬ x = y := by omega
      simp [c, d, n]
    · have e : x = y := by omega
      simp [e, ih]
theorem slices_Compare_int_int_ev (a b : List Int) (h : a.length ≤ maxLen) (hl : a.length = b.length) : Ev (fun k => slices_Compare_int_int.f k a b) (cmpL a b) := by
 have h' : a.length ≤ 9223372036854775807 := h
 refine ev_eq (ev_list 0 a (fun i (_ : Unit) k => slices_Compare_int_int.l0 k a b a (a.length : Int) i) (fun i ys _ => cmpL ys (b.drop i)) (fun _ _ => True) (fun _ _ => ?_) (fun i x ys _ hi hx hm _ ih => ?_) () trivial) (by rw [List.drop_zero])
 · exact Ev.step' (f := fun _ => some 0) (fun k => by simp only [slices_Compare_int_int.l0, if_neg (Int.lt_irrefl _), if_neg (show ¬ (a.length : Int) < (b.length : Int) by omega)]) (ev_eq (Ev.now _) (by simp [cmpL]))
 · show Ev (fun k => slices_Compare_int_int.l0 k a b a (a.length : Int) (i : Int)) (cmpL (x :: ys) (b.drop i))
   have c1 : (i : Int) < (a.length : Int) := by omega
   have c0 : 0 ≤ (i : Int) := by omega
   have c2 : (i : Int) < (b.length : Int) := by omega
   have c3 : ¬ (i : Int) ≥ (b.length : Int) := by omega
   rw [drop_get (by omega)]
   by_cases c : cmpZ x (b.getD i 0) = 0
   · simp only [cmpL, if_pos c]
     exact Ev.step' (fun k => by simp only [slices_Compare_int_int.l0, if_pos c1, if_pos c0, if_pos c2, if_neg c3, rd_nat, hx, cmp_Compare_int_eq, Option.bind_some, if_pos c, wrap_succ hi h']) (ih () trivial)
   · simp only [cmpL, if_neg c]
     exact Ev.step' (f := fun _ => some (cmpZ x (b.getD i 0))) (fun k => by simp only [slices_Compare_int_int.l0, if_pos c1, if_pos c0, if_pos c2, if_neg c3, rd_nat, hx, cmp_Compare_int_eq, Option.bind_some, if_neg c]) (Ev.now _)
theorem class_eq (C : List (List Int)) (h8 : (C.getD 0 []).length ≤ 8) : (List.range C.length).all (fun i => decide ((C.getD i []).length ≤ 8) && stepB C i) = (List.range C.length).all (stepB C) := by
 rw [Bool.eq_iff_iff]
 simp only [List.all_eq_true, List.mem_range, Bool.and_eq_true, decide_eq_true_eq]
 exact ⟨fun h i hi => (h i hi).2, fun h i hi => ⟨by have := ((stepB_iff C i).1 (h i hi)).1; omega, h i hi⟩⟩
theorem impl_IsClass_ev (C : List (List Int)) (h : C.length ≤ maxLen) (hi : ∀ x ∈ C, x.length ≤ maxLen) : Ev (fun k => impl_IsClass.f k C) (classB C) := by
 have h' : C.length ≤ 9223372036854775807 := h
 have e0 : rd_L1 C 0 = C.getD 0 [] := rdL1_nat C 0
 have no : Ev (fun k => impl_IsClass.j0 k C true) false := Ev.step' (f := fun _ => some false) (fun k => by simp only [impl_IsClass.j0, if_true]) (Ev.now _)
 cases hn : inR 1 256 (C.length : Int) with
 | false => exact ev_eq (Ev.congr (fun k => by simp only [impl_IsClass.f, impl_within_eq, hn, Option.bind_some, Bool.false_eq_true, if_false]) no) (by simp [classB, hn])
 | true =>
  have hI := (inR_iff _ _ _).1 hn
  have c2 : 0 < (C.length : Int) := by omega
  by_cases n8 : ((C.getD 0 []).length : Int) > 8
  · refine ev_eq (Ev.congr (fun k => by simp only [impl_IsClass.f, impl_within_eq, hn, Option.bind_some, if_true, if_pos c2, e0, decide_eq_true n8]) no) ?_
    have : ¬ (List.range C.length).all (fun i => decide ((C.getD i []).length ≤ 8) && stepB C i) = true := fun q => by
     simp only [List.all_eq_true, List.mem_range, Bool.and_eq_true, decide_eq_true_eq] at q
     have := (q 0 (by omega)).1
     omega
    simp only [classB, Bool.eq_false_iff.mpr this, Bool.false_and]
  · refine Ev.congr (f := fun k => impl_IsClass.j0 k C false) (fun k => by simp only [impl_IsClass.f, impl_within_eq, hn, Option.bind_some, if_true, if_pos c2, e0, decide_eq_false n8]) ?_
    refine Ev.step' (f := fun k => impl_IsClass.l0 k C C (C.length : Int) 0) (fun k => by simp only [impl_IsClass.j0, Bool.false_eq_true, if_false]) ?_
    refine ev_eq (a := ((List.range C.length).all (stepB C) && true)) ?_ (by rw [classB, class_eq C (by omega), hn])
    refine ev_allh (L := fun i k => impl_IsClass.l0 k C C (C.length : Int) i) (n := C.length) (p := stepB C) (R := true) (fun i hi2 hI hp => ?_) (fun i hi2 hI hp => ?_) (fun _ => Ev.step' (f := fun _ => some true) (fun k => by simp only [impl_IsClass.l0, if_neg (Int.lt_irrefl _)]) (Ev.now _))
    · obtain ⟨hl, hlab, hb⟩ := (stepB_iff C i).1 hp
      have c1 : (i : Int) < (C.length : Int) := by omega
      have c0 : 0 ≤ (i : Int) := by omega
      have el : ((C.getD i []).length : Int) = ((C.getD 0 []).length : Int) := by omega
      have hlab2 : ((C.getD i []).all isLab && true) = true := by rw [hlab]; rfl
      by_cases z : i = 0
      · refine (To.step (f := fun k => (impl_areLabels.f k (C.getD i [])).bind fun t => if t = true then impl_IsClass.l0 k C C (C.length : Int) ((i + 1 : Nat) : Int) else some false) (fun k => ?_)).trans ((To.bind (impl_areLabels_ev _ (hi _ (getD_mem hi2 [])))).trans (To.congr fun k => by simp only [hlab2, if_true]))
        simp only [impl_IsClass.l0, if_pos c1, if_pos c0, if_pos c2, rdL1_nat, e0, if_pos el, if_neg (show ¬ ((i : Int) > 0) by omega), wrap_succ hi2 h']
      · have hb := hb.resolve_left z
        have c3 : (i : Int) > 0 := by omega
        have c4 : 0 ≤ ((i - 1 : Nat) : Int) := by omega
        have c5 : ((i - 1 : Nat) : Int) < (C.length : Int) := by omega
        have hl1 := ((stepB_iff C (i - 1)).1 (hI (i - 1) (by omega))).1
        have hlen : (C.getD (i - 1) []).length = (C.getD i []).length := by omega
        have nb : ¬ cmpL (C.getD (i - 1) []) (C.getD i []) ≥ 0 := fun q => by
         have := (cmpL_bef _ _ hlen).1 q
         rw [this] at hb
         exact absurd hb (by decide)
        refine (To.step (f := fun k => (impl_areLabels.f k (C.getD i [])).bind fun t => if t = true then ((slices_Compare_int_int.f k (C.getD (i - 1) []) (C.getD i [])).bind fun u => if u ≥ 0 then some false else impl_IsClass.l0 k C C (C.length : Int) ((i + 1 : Nat) : Int)) else some false) (fun k => ?_)).trans ((To.bind (impl_areLabels_ev _ (hi _ (getD_mem hi2 [])))).trans ((To.congr (f := fun k => (slices_Compare_int_int.f k (C.getD (i - 1) []) (C.getD i [])).bind fun u => if u ≥ 0 then some false else impl_IsClass.l0 k C C (C.length : Int) ((i + 1 : Nat) : Int)) fun k => by simp only [hlab2, if_true]).trans ((To.bind (slices_Compare_int_int_ev _ _ (hi _ (getD_mem (by omega) [])) hlen)).trans (To.congr fun k => by simp only [if_neg nb]))))
        simp only [impl_IsClass.l0, if_pos c1, if_pos c0, if_pos c2, rdL1_nat, e0, if_pos el, if_pos c3, wrap_pred (show 0 < i by omega) (by omega), if_pos c4, if_pos c5, wrap_succ hi2 h']
    · have c1 : (i : Int) < (C.length : Int) := by omega
      have c0 : 0 ≤ (i : Int) := by omega
      by_cases el : ((C.getD i []).length : Int) = ((C.getD 0 []).length : Int)
      · cases hlab : (C.getD i []).all isLab with
        | false =>
         have hlab2 : ((C.getD i []).all isLab && true) = false := by rw [hlab]; rfl
         by_cases z : i = 0
         · refine Ev.step' (f := fun k => (impl_areLabels.f k (C.getD i [])).bind fun t => if t = true then impl_IsClass.l0 k C C (C.length : Int) ((i + 1 : Nat) : Int) else some false) (fun k => ?_) (Ev.bind (impl_areLabels_ev _ (hi _ (getD_mem hi2 []))) (Ev.congr (f := fun _ => some false) (fun k => by simp only [hlab2, Bool.false_eq_true, if_false]) (Ev.now _)))
           simp only [impl_IsClass.l0, if_pos c1, if_pos c0, if_pos c2, rdL1_nat, e0, if_pos el, if_neg (show ¬ ((i : Int) > 0) by omega), wrap_succ hi2 h']
         · have c3 : (i : Int) > 0 := by omega
           have c4 : 0 ≤ ((i - 1 : Nat) : Int) := by omega
           have c5 : ((i - 1 : Nat) : Int) < (C.length : Int) := by omega
           refine Ev.step' (f := fun k => (impl_areLabels.f k (C.getD i [])).bind fun t => if t = true then ((slices_Compare_int_int.f k (C.getD (i - 1) []) (C.getD i [])).bind fun u => if u ≥ 0 then some false else impl_IsClass.l0 k C C (C.length : Int) ((i + 1 : Nat) : Int)) else some false) (fun k => ?_) (Ev.bind (impl_areLabels_ev _ (hi _ (getD_mem hi2 []))) (Ev.congr (f := fun _ => some false) (fun k => by simp only [hlab2, Bool.false_eq_true, if_false]) (Ev.now _)))
           simp only [impl_IsClass.l0, if_pos c1, if_pos c0, if_pos c2, rdL1_nat, e0, if_pos el, if_pos c3, wrap_pred (show 0 < i by omega) (by omega), if_pos c4, if_pos c5, wrap_succ hi2 h']
        | true =>
         have hlab2 : ((C.getD i []).all isLab && true) = true := by rw [hlab]; rfl
         have q : ¬ (i = 0 ∨ befB (C.getD (i - 1) []) (C.getD i []) = true) := fun q => by
          rw [(stepB_iff C i).2 ⟨by omega, hlab, q⟩] at hp
          exact absurd hp (by decide)
         have z : i ≠ 0 := fun z => q (.inl z)
         have hb : befB (C.getD (i - 1) []) (C.getD i []) = false := by
          cases hb : befB (C.getD (i - 1) []) (C.getD i []) with
          | false => rfl
          | true => exact absurd (.inr hb) q
         have c3 : (i : Int) > 0 := by omega
         have c4 : 0 ≤ ((i - 1 : Nat) : Int) := by omega
         have c5 : ((i - 1 : Nat) : Int) < (C.length : Int) := by omega
         have hl1 := ((stepB_iff C (i - 1)).1 (hI (i - 1) (by omega))).1
         have hlen : (C.getD (i - 1) []).length = (C.getD i []).length := by omega
         have nb : cmpL (C.getD (i - 1) []) (C.getD i []) ≥ 0 := (cmpL_bef _ _ hlen).2 hb
         refine Ev.step' (f := fun k => (impl_areLabels.f k (C.getD i [])).bind fun t => if t = true then ((slices_Compare_int_int.f k (C.getD (i - 1) []) (C.getD i [])).bind fun u => if u ≥ 0 then some false else impl_IsClass.l0 k C C (C.length : Int) ((i + 1 : Nat) : Int)) else some false) (fun k => ?_) (Ev.bind (impl_areLabels_ev _ (hi _ (getD_mem hi2 []))) (Ev.congr (f := fun k => (slices_Compare_int_int.f k (C.getD (i - 1) []) (C.getD i [])).bind fun u => if u ≥ 0 then some false else impl_IsClass.l0 k C C (C.length : Int) ((i + 1 : Nat) : Int)) (fun k => by simp only [hlab2, if_true]) (Ev.bind (slices_Compare_int_int_ev _ _ (hi _ (getD_mem (by omega) [])) hlen) (Ev.congr (f := fun _ => some false) (fun k => by simp only [if_pos nb]) (Ev.now _)))))
         simp only [impl_IsClass.l0, if_pos c1, if_pos c0, if_pos c2, rdL1_nat, e0, if_pos el, if_pos c3, wrap_pred (show 0 < i by omega) (by omega), if_pos c4, if_pos c5, wrap_succ hi2 h']
      · exact Ev.step' (f := fun _ => some false) (fun k => by simp only [impl_IsClass.l0, if_pos c1, if_pos c0, if_pos c2, rdL1_nat, e0, if_neg el]) (Ev.now _)
def memT (s : Nat) : List Int := (impl_members.f 20 (s : Int)).getD []
set_option maxHeartbeats 4000000 in
set_option maxRecDepth 1000000 in
theorem mem_run (k : Nat) : (List.range 256).map (fun s => impl_members.f (k + 20) ((s : Nat) : Int)) = (List.range 256).map (fun s => some (memT s)) := by kernel_rfl
theorem impl_members_ev (s : Nat) (h : s < 256) : Ev (fun k => impl_members.f k (s : Int)) (memT s) := ⟨20, fun k hk => by
 have := List.map_inj_left.1 (mem_run (k - 20)) s (List.mem_range.2 h)
 rwa [Nat.sub_add_cancel hk] at this⟩
theorem impl_at_ev (row set : List Int) (h : set.length ≤ 1048576) (hx : ∀ x ∈ set, 0 ≤ x ∧ x < (row.length : Int)) : Ev (fun k => impl_at.f k row set) (atM row set) := by
 have hf := to_fold (L := fun j (s : List Int) k => impl_at.l0 k row s set (set.length : Int) j) (n := set.length) (f := fun j s => s ++ [row.getD (set.getD j 0).toNat 0]) (fun j s => s.length = j) (fun j s hj hs => ⟨To.step fun k => by
  have c1 : (j : Int) < (set.length : Int) := by omega
  have c0 : 0 ≤ (j : Int) := by omega
  have q := hx _ (getD_mem hj 0)
  have c3 : s.length < 17592186044416 := by omega
  have e : rd row (set.getD j 0) = row.getD (set.getD j 0).toNat 0 := rfl
  simp only [impl_at.l0, if_pos c1, if_pos c0, rd_nat, if_pos q.1, if_pos q.2, if_pos c3, e, wrap_succ hj (show set.length ≤ 9223372036854775807 by omega)], by rw [List.length_append, hs]; rfl⟩) [] rfl
 refine ev_eq (hf.1 _ (Ev.step' (f := fun _ => some ((List.range set.length).foldl (fun s i => s ++ [row.getD (set.getD i 0).toNat 0]) [])) (fun k => by simp only [impl_at.l0, if_neg (Int.lt_irrefl _)]) (Ev.now _))) ?_
 rw [fold_append, List.nil_append]
 exact range_map set (fun x => row.getD x.toNat 0) 0
theorem slices_Equal_int_int_ev (x y : List Int) (h : x.length ≤ maxLen) (hl : x.length = y.length) : Ev (fun k => slices_Equal_int_int.f k x y) (sameB x y) := by
 have h' : x.length ≤ 9223372036854775807 := h
 refine Ev.congr (f := fun k => slices_Equal_int_int.l0 k x y (x.length : Int) 0) (fun k => by simp only [slices_Equal_int_int.f, if_pos (show (x.length : Int) = (y.length : Int) by omega)]) ?_
 refine ev_all (L := fun i k => slices_Equal_int_int.l0 k x y (x.length : Int) i) (n := x.length) (p := fun i => x.getD i 0 == y.getD i 0) (fun i hi hp => To.step fun k => ?_) (fun i hi hp => ?_) (Ev.step' (f := fun _ => some true) (fun k => by simp only [slices_Equal_int_int.l0, if_neg (Int.lt_irrefl _)]) (Ev.now _))
 · have c1 : (i : Int) < (x.length : Int) := by omega
   have c0 : 0 ≤ (i : Int) := by omega
   have c2 : (i : Int) < (y.length : Int) := by omega
   simp only [slices_Equal_int_int.l0, if_pos c1, if_pos c0, if_pos c2, rd_nat, if_pos (beq_iff_eq.1 hp), wrap_succ hi h']
 · have c1 : (i : Int) < (x.length : Int) := by omega
   have c0 : 0 ≤ (i : Int) := by omega
   have c2 : (i : Int) < (y.length : Int) := by omega
   exact Ev.step' (f := fun _ => some false) (fun k => by simp only [slices_Equal_int_int.l0, if_pos c1, if_pos c0, if_pos c2, rd_nat, if_neg (beq_eq_false_iff_ne.1 hp)]) (Ev.now _)
theorem sameB_iff : ∀ x y : List Int, x.length = y.length → (sameB x y = true ↔ x = y) := by
 intro x y h
 unfold sameB
 rw [List.all_eq_true]
 constructor
 · intro q
   refine List.ext_getElem h fun i h1 h2 => ?_
   have := q i (List.mem_range.2 h1)
   rw [List.getD_eq_getElem?_getD, List.getD_eq_getElem?_getD, List.getElem?_eq_getElem h1, List.getElem?_eq_getElem h2] at this
   simpa using this
 · rintro rfl i _
   simp
theorem ev_mem {α β : Type} {g : α → Nat → Option β} {v : α → β} : ∀ xs : List α, (∀ x ∈ xs, Ev (g x) (v x)) → ∃ K, ∀ k, K ≤ k → ∀ x ∈ xs, g x k = some (v x)
 | [], _ => ⟨0, fun _ _ x hx => absurd hx (by simp)⟩
 | x :: xs, h => by
  obtain ⟨K1, h1⟩ := h x List.mem_cons_self
  obtain ⟨K2, h2⟩ := ev_mem xs (fun y hy => h y (List.mem_cons_of_mem _ hy))
  refine ⟨max K1 K2, fun k hk y hy => ?_⟩
  rcases List.mem_cons.1 hy with e | e
  · subst e; exact h1 k (by omega)
  · exact h2 k (by omega) y e
theorem ev_mem2 {α β : Type} {g : α → α → Nat → Option β} {v : α → α → β} (xs : List α) (h : ∀ x ∈ xs, ∀ y ∈ xs, Ev (g x y) (v x y)) : ∃ K, ∀ k, K ≤ k → ∀ x ∈ xs, ∀ y ∈ xs, g x y k = some (v x y) := by
 have key : ∀ ys : List α, (∀ y ∈ ys, y ∈ xs) → ∃ K, ∀ k, K ≤ k → ∀ x ∈ ys, ∀ y ∈ xs, g x y k = some (v x y) := by
  intro ys
  induction ys with
  | nil => exact fun _ => ⟨0, fun _ _ x hx => absurd hx (by simp)⟩
  | cons z ys ih =>
   intro hs
   obtain ⟨K1, h1⟩ := ih (fun y hy => hs y (List.mem_cons_of_mem _ hy))
   obtain ⟨K2, h2⟩ := ev_mem xs (h z (hs z List.mem_cons_self))
   refine ⟨max K1 K2, fun k hk x hx => ?_⟩
   rcases List.mem_cons.1 hx with e | e
   · subst e; exact h2 k (by omega)
   · exact h1 k (by omega) x e
 exact key xs (fun _ h => h)
theorem compactBy_ok {n : Nat} {eqf : List Int → List Int → Bool} {L : List (List Int)} (hl : ∀ x ∈ L, x.length = n) (he : ∀ x ∈ L, ∀ y ∈ L, (eqf x y = true ↔ x = y)) (hs : L.Pairwise (fun a b => befB b a = false)) : (Rs.compactBy eqf L).Pairwise (fun a b => befB a b = true) ∧ ∀ x, x ∈ Rs.compactBy eqf L ↔ x ∈ L := by
 have gb : ∀ j (hj : j < L.length), L.toArray[j]! = L[j] := fun j hj => by rw [getElem!_pos L.toArray j (by simpa using hj)]; simp
 have hs' := hs
 rw [List.pairwise_iff_getElem] at hs'
 have kp : ∀ j (hj : j < L.length), kpf eqf L.toArray j = true ↔ (j = 0 ∨ L[j] ≠ L[j - 1]'(by omega)) := by
  intro j hj
  unfold kpf
  rw [Bool.or_eq_true, decide_eq_true_eq, Bool.not_eq_true', gb j hj, gb (j - 1) (by omega)]
  refine or_congr Iff.rfl ?_
  rw [Bool.eq_false_iff]
  exact not_congr (he _ (List.getElem_mem _) _ (List.getElem_mem _))
 unfold Rs.compactBy Go.Lib.keptUpTo
 refine ⟨?_, fun x => ?_⟩
 · rw [List.pairwise_map]
   refine ((List.pairwise_lt_range (n := L.length)).filter _).imp_of_mem fun {i j} hi hj hij => ?_
   obtain ⟨hi1, _⟩ := List.mem_filter.1 hi
   obtain ⟨hj1, hj2⟩ := List.mem_filter.1 hj
   have hi1 := List.mem_range.1 hi1
   have hj1 := List.mem_range.1 hj1
   rw [gb i hi1, gb j hj1]
   have h1 := ((kp j hj1).1 hj2).resolve_left (by omega)
   have h2 := hs' (j - 1) j (by omega) hj1 (by omega)
   have hln : ∀ q (hq : q < L.length), L[q].length = n := fun q hq => hl _ (List.getElem_mem _)
   have h3 : befB (L[j - 1]'(by omega)) L[j] = true := by
    rcases befB_tri (L[j - 1]'(by omega)) L[j] (by rw [hln, hln]) with e | e | e
    · exact e
    · rw [h2] at e; cases e
    · exact absurd e.symm h1
   by_cases e : i = j - 1
   · subst e; exact h3
   · have h4 := hs' i (j - 1) hi1 (by omega) (by omega)
     rcases befB_tri L[i] (L[j - 1]'(by omega)) (by rw [hln, hln]) with e | e | e
     · exact befB_trans _ _ _ (by rw [hln, hln]) (by rw [hln, hln]) e h3
     · rw [h4] at e; cases e
     · rw [e]; exact h3
 · rw [List.mem_map]
   constructor
   · rintro ⟨j, hj, rfl⟩
     have hj1 := List.mem_range.1 (List.mem_filter.1 hj).1
     rw [gb j hj1]
     exact List.getElem_mem _
   · intro hx
     obtain ⟨i, hi, rfl⟩ := List.mem_iff_getElem.1 hx
     clear hx
     induction i with
     | zero => exact ⟨0, List.mem_filter.2 ⟨List.mem_range.2 hi, (kp 0 hi).2 (.inl rfl)⟩, gb 0 hi⟩
     | succ i ih =>
      by_cases e : L[i + 1] = L[i]
      · obtain ⟨j, hj, hj2⟩ := ih (by omega)
        exact ⟨j, hj, by rw [hj2, e]⟩
      · exact ⟨i + 1, List.mem_filter.2 ⟨List.mem_range.2 hi, (kp (i + 1) hi).2 (.inr e)⟩, gb (i + 1) hi⟩
theorem impl_traces_res {n : Nat} (xs : List (List Int)) (hne : 0 < xs.length) (hc : xs.length ≤ 1048576) (hn : n ≤ 1048576) (hl : ∀ x ∈ xs, x.length = n) (T : List (List Int)) (hT : T.Pairwise (fun a b => befB a b = true)) (hm : ∀ x, x ∈ T ↔ x ∈ xs) : Ev (fun k => impl_traces.res k xs) T := by
 have mx : n ≤ maxLen := by unfold maxLen; omega
 obtain ⟨K1, h1⟩ := ev_mem2 (g := fun x y k => slices_Compare_int_int.f k x y) (v := cmpL) xs (fun x hx y hy => slices_Compare_int_int_ev x y (by rw [hl x hx]; exact mx) (by rw [hl x hx, hl y hy]))
 have hEq : ∀ x ∈ [] :: xs, ∀ y ∈ [] :: xs, Ev (fun k => slices_Equal_int_int.f k x y) (decide (x = y)) := by
  intro x hx y hy
  have hxl : x.length ≤ maxLen := by
   rcases List.mem_cons.1 hx with e | e
   · rw [e]; exact Nat.zero_le _
   · rw [hl x e]; exact mx
  by_cases e : x.length = y.length
  · refine ev_eq (slices_Equal_int_int_ev x y hxl e) ?_
    rw [Bool.eq_iff_iff, sameB_iff x y e, decide_eq_true_eq]
  · refine ev_eq (Ev.congr (f := fun _ => some false) (fun k => by simp only [slices_Equal_int_int.f, if_neg (show ¬ (x.length : Int) = (y.length : Int) by omega)]) (Ev.now _)) ?_
    rw [eq_comm, decide_eq_false_iff_not]
    rintro rfl
    exact e rfl
 obtain ⟨K2, h2⟩ := ev_mem2 (g := fun x y k => slices_Equal_int_int.f k x y) (v := fun x y => decide (x = y)) ([] :: xs) hEq
 refine ⟨max K1 K2, fun k hk => ?_⟩
 have g1 := h1 k (by omega)
 have g2 := h2 k (by omega)
 have ecf : ∀ x ∈ xs, ∀ y ∈ xs, impl_traces.cf k x y = cmpL x y := fun x hx y hy => by unfold impl_traces.cf; rw [g1 x hx y hy]; rfl
 have lt : ∀ x ∈ xs, ∀ y ∈ xs, (impl_traces.cf k x y < 0 ↔ befB x y = true) := fun x hx y hy => by
  rw [ecf x hx y hy]
  have := cmpL_bef x y (by rw [hl x hx, hl y hy])
  cases hb : befB x y with
  | true => rw [hb] at this; simp only [Bool.true_eq_false, iff_false] at this; exact ⟨fun _ => rfl, fun _ => by omega⟩
  | false => rw [hb] at this; simp only [iff_true] at this; exact ⟨fun h => by omega, fun h => by cases h⟩
 have eqn : ∀ x ∈ xs, ∀ y ∈ xs, x.length = y.length := fun x hx y hy => by rw [hl x hx, hl y hy]
 have hok : impl_traces.ok k xs := by
  refine ⟨hne, by omega, fun x hx y hy => ⟨by rw [g1 x hx y hy]; rfl, ?_, ?_, fun z hz => ⟨?_, ?_⟩⟩, fun x hx y hy => by rw [g2 x hx y hy]; rfl⟩
  · rw [lt x hx y hy, lt y hy x hx]
    exact befB_tri x y (eqn x hx y hy)
  · rw [lt x hx y hy, lt y hy x hx]
    rintro ⟨a, b⟩
    rw [befB_asymm (eqn x hx y hy) a] at b
    cases b
  · rw [lt x hx y hy, lt y hy z hz, lt x hx z hz]
    exact befB_trans x y z (eqn x hx y hy) (eqn y hy z hz)
  · rw [lt x hx y hy, lt y hy z hz, lt x hx z hz]
    intro a b c
    rcases befB_tri y x (eqn y hy x hx) with e | e | e
    · exact b (befB_trans y x z (eqn y hy x hx) (eqn x hx z hz) e c)
    · exact a e
    · rw [e] at b; exact b c
 have hres : impl_traces.res k xs = some (Rs.compactBy (impl_traces.eqf k) (xs.mergeSort (impl_traces.le k))) := by unfold impl_traces.res; rw [if_pos hok]
 show impl_traces.res k xs = some T
 rw [hres]
 congr 1
 have hp : ∀ x, x ∈ xs.mergeSort (impl_traces.le k) ↔ x ∈ xs := fun x => (List.mergeSort_perm xs _).mem_iff
 have hpw := Rs.sort_pw (impl_traces.le k) xs (fun a ha b hb c hc e1 e2 => by
  simp only [impl_traces.le, Bool.not_eq_true', decide_eq_false_iff_not, lt b hb a ha, lt c hc b hb, lt c hc a ha] at e1 e2 ⊢
  exact ((hok.2.2.1 c hc b hb).2.2.2 a ha).2 (by rw [lt c hc b hb]; exact e2) (by rw [lt b hb a ha]; exact e1) |> fun q => by rwa [lt c hc a ha] at q) (fun a ha b hb => by
  simp only [impl_traces.le, Bool.or_eq_true, Bool.not_eq_true', decide_eq_false_iff_not, lt b hb a ha, lt a ha b hb]
  cases e : befB b a with
  | false => exact .inl (by simp)
  | true => exact .inr (by rw [befB_asymm (eqn b hb a ha) e]; simp))
 obtain ⟨q1, q2⟩ := compactBy_ok (n := n) (eqf := impl_traces.eqf k) (L := xs.mergeSort (impl_traces.le k)) (fun x hx => hl x ((hp x).1 hx)) (fun x hx y hy => by
  have hx' := List.mem_cons_of_mem [] ((hp x).1 hx)
  have hy' := List.mem_cons_of_mem [] ((hp y).1 hy)
  unfold impl_traces.eqf
  rw [g2 x hx' y hy']
  simp) (hpw.imp_of_mem fun {a b} ha hb hab => by
  simp only [impl_traces.le, Bool.not_eq_true', decide_eq_false_iff_not, lt b ((hp b).1 hb) a ((hp a).1 ha)] at hab
  exact Bool.eq_false_iff.2 hab)
 exact sorted_same (n := n) (fun x hx => hl x ((hp x).1 ((q2 x).1 hx))) q1 hT (fun x => by rw [q2 x, hp x, hm x])
theorem impl_traces_ev (C : List (List Int)) (S : List Int) (h1 : 1 ≤ C.length) (hC : C.length ≤ 1048576) (hS : S.length ≤ 1048576) (hx : ∀ r ∈ C, ∀ x ∈ S, 0 ≤ x ∧ x < (r.length : Int)) : Ev (fun k => impl_traces.f k C S) (tracesM C S) := by
 obtain ⟨t1, t2, t3, _⟩ := tracesM_ok C S
 have hf := to_fold (L := fun i (out : List (List Int)) k => impl_traces.l0 k S out C (C.length : Int) i) (n := C.length) (f := fun (i : Nat) out => out ++ [atM (C.getD i []) S]) (fun i out => out.length = i) (fun i out hi hs => ⟨by
  have c1 : (i : Int) < (C.length : Int) := by omega
  have c0 : 0 ≤ (i : Int) := by omega
  have c2 : out.length < 5864062014805 := by omega
  have eL : ∀ z : Int, rd_L1 C z = C.getD z.toNat [] := fun _ => rfl
  refine (To.step (f := fun k => (impl_at.f k (C.getD i []) S).bind fun a => impl_traces.l0 k S (out ++ [a]) C (C.length : Int) ((i + 1 : Nat) : Int)) (fun k => ?_)).trans (To.bind (impl_at_ev _ _ hS (hx _ (getD_mem hi []))))
  simp only [impl_traces.l0, if_pos c1, if_pos c0, eL, Int.toNat_natCast, if_pos c2, wrap_succ hi (show C.length ≤ 9223372036854775807 by omega)], by rw [List.length_append, hs]; rfl⟩) [] rfl
 have e : (List.range C.length).foldl (fun out i => out ++ [atM (C.getD i []) S]) [] = C.map fun r => atM r S := by
  rw [fold_append, List.nil_append]
  exact range_map C (fun r => atM r S) []
 refine hf.1 _ (Ev.step' (f := fun k => impl_traces.res k (C.map fun r => atM r S)) (fun k => ?_) ?_)
 · simp only [impl_traces.l0, if_neg (Int.lt_irrefl _)]
   rw [e]
 · exact impl_traces_res (n := S.length) _ (by rw [List.length_map]; omega) (by rw [List.length_map]; exact hC) hS (fun x hx => by obtain ⟨r, _, rfl⟩ := List.mem_map.1 hx; exact atM_len r S) _ t2 t3
theorem impl_shatters_ev (C : List (List Int)) (S : List Int) (h1 : 1 ≤ C.length) (hC : C.length ≤ 1048576) (h8 : S.length ≤ 8) (hx : ∀ r ∈ C, ∀ x ∈ S, 0 ≤ x ∧ x < (r.length : Int)) : Ev (fun k => impl_shatters.f k C S) (shB C S) := by
 refine Ev.bind (impl_traces_ev C S h1 hC (by omega) hx) ?_
 rw [sh_eq C S h8]
 exact Ev.now _
def cmpS (x y : List Int) : Int := if x.length = y.length then cmpL x y else (x.length : Int) - (y.length : Int)
def csB (x y : List Int) : Bool := decide (x.length < y.length) || (decide (x.length = y.length) && befB x y)
theorem csB_iff (x y : List Int) : csB x y = true ↔ x.length < y.length ∨ (x.length = y.length ∧ befB x y = true) := by
 unfold csB
 rw [Bool.or_eq_true, Bool.and_eq_true, decide_eq_true_eq, decide_eq_true_eq]
theorem csB_trans {x y z : List Int} (h1 : csB x y = true) (h2 : csB y z = true) : csB x z = true := by
 rw [csB_iff] at h1 h2 ⊢
 rcases h1 with h1 | ⟨h1, g1⟩
 · rcases h2 with h2 | ⟨h2, _⟩
   · exact .inl (by omega)
   · exact .inl (by omega)
 · rcases h2 with h2 | ⟨h2, g2⟩
   · exact .inl (by omega)
   · exact .inr ⟨h1.trans h2, befB_trans x y z h1 h2 g1 g2⟩
theorem csB_irrefl (x : List Int) : csB x x = false := by
 unfold csB
 rw [befB_irrefl, Bool.and_false, Bool.or_false, decide_eq_false (Nat.lt_irrefl _)]
theorem csB_tri (x y : List Int) : csB x y = true ∨ csB y x = true ∨ x = y := by
 rw [csB_iff, csB_iff]
 rcases Nat.lt_trichotomy x.length y.length with h | h | h
 · exact .inl (.inl h)
 · rcases befB_tri x y h with g | g | g
   · exact .inl (.inr ⟨h, g⟩)
   · exact .inr (.inl (.inr ⟨h.symm, g⟩))
   · exact .inr (.inr g)
 · exact .inr (.inl (.inl h))
theorem csB_asymm {x y : List Int} (h : csB x y = true) : ¬ csB y x = true := fun g => by
 have := csB_trans h g
 rw [csB_irrefl] at this
 cases this
theorem cmpS_lt (x y : List Int) : cmpS x y < 0 ↔ csB x y = true := by
 rw [csB_iff]
 unfold cmpS
 by_cases e : x.length = y.length
 · rw [if_pos e]
   have := cmpL_bef x y e
   constructor
   · intro h
     refine .inr ⟨e, ?_⟩
     cases hb : befB x y with
     | true => rfl
     | false => have := this.2 hb; omega
   · rintro (h | ⟨_, h⟩)
     · omega
     · rw [h] at this
       simp only [Bool.true_eq_false, iff_false] at this
       omega
 · rw [if_neg e]
   constructor
   · exact fun h => .inl (by omega)
   · rintro (h | ⟨h, _⟩)
     · omega
     · exact absurd h e
theorem impl_compareSets_ev (x y : List Int) (hx : x.length ≤ 1048576) (hy : y.length ≤ 1048576) : Ev (fun k => impl_compareSets.f k x y) (cmpS x y) := by
 unfold cmpS
 by_cases e : x.length = y.length
 · rw [if_pos e]
   refine Ev.congr (f := fun k => (slices_Compare_int_int.f k x y).bind fun t => some t) (fun k => by simp only [impl_compareSets.f, if_pos (show (x.length : Int) = (y.length : Int) by omega)]) ?_
   exact Ev.bind (slices_Compare_int_int_ev x y (by unfold maxLen; omega) e) (Ev.now _)
 · rw [if_neg e]
   have ew : wrap64 ((x.length : Int) - (y.length : Int)) = (x.length : Int) - (y.length : Int) := wrap_id (by omega) (by omega)
   exact Ev.congr (f := fun _ => some ((x.length : Int) - (y.length : Int))) (fun k => by simp only [impl_compareSets.f, if_neg (show ¬ (x.length : Int) = (y.length : Int) by omega), ew]) (Ev.now _)
def pwB : List (List Int) → Bool
 | [] => true
 | x :: xs => xs.all (csB x) && pwB xs
theorem pwB_ok : ∀ L, pwB L = true → L.Pairwise (fun a b => csB a b = true)
 | [], _ => List.Pairwise.nil
 | x :: xs, h => by
  unfold pwB at h
  rw [Bool.and_eq_true, List.all_eq_true] at h
  exact List.Pairwise.cons h.1 (pwB_ok xs h.2)
def memsT (m : Nat) : List (List Int) := (List.range (2 ^ m)).map memT
set_option maxHeartbeats 4000000 in
set_option maxRecDepth 1000000 in
theorem sets_mem : (List.range 9).all (fun m => pwB (setsT m) && ((setsT m).isPerm (memsT m) && decide ([] ∈ setsT m))) = true := by kernel_rfl
theorem setsT_mem (m : Nat) (h : m ≤ 8) : (setsT m).Pairwise (fun a b => csB a b = true) ∧ (setsT m).Perm (memsT m) ∧ [] ∈ setsT m := by
 have e := List.all_eq_true.1 sets_mem m (List.mem_range.2 (by omega))
 rw [Bool.and_eq_true, Bool.and_eq_true, decide_eq_true_eq] at e
 exact ⟨pwB_ok _ e.1, List.isPerm_iff.1 e.2.1, e.2.2⟩
theorem impl_ShatteredSets_res (xs T : List (List Int)) (hne : 0 < xs.length) (hc : xs.length ≤ 1048576) (hl : ∀ x ∈ xs, x.length ≤ 1048576) (hT : T.Pairwise (fun a b => csB a b = true)) (hp : T.Perm xs) : Ev (fun k => impl_ShatteredSets.res k xs) T := by
 obtain ⟨K1, h1⟩ := ev_mem2 (g := fun x y k => impl_compareSets.f k x y) (v := cmpS) xs (fun x hx y hy => impl_compareSets_ev x y (hl x hx) (hl y hy))
 refine ⟨K1, fun k hk => ?_⟩
 have g1 := h1 k hk
 have lt : ∀ x ∈ xs, ∀ y ∈ xs, (impl_ShatteredSets.cf k x y < 0 ↔ csB x y = true) := fun x hx y hy => by
  unfold impl_ShatteredSets.cf
  rw [g1 x hx y hy]
  exact cmpS_lt x y
 have hok : impl_ShatteredSets.ok k xs := by
  refine ⟨hne, by omega, fun x hx y hy => ⟨by rw [g1 x hx y hy]; rfl, ?_, ?_, fun z hz => ⟨?_, ?_⟩⟩⟩
  · rw [lt x hx y hy, lt y hy x hx]
    exact csB_tri x y
  · rw [lt x hx y hy, lt y hy x hx]
    rintro ⟨a, b⟩
    exact csB_asymm a b
  · rw [lt x hx y hy, lt y hy z hz, lt x hx z hz]
    exact csB_trans
  · rw [lt x hx y hy, lt y hy z hz, lt x hx z hz]
    intro a b c
    rcases csB_tri y x with e | e | e
    · exact b (csB_trans e c)
    · exact a e
    · rw [e] at b; exact b c
 show impl_ShatteredSets.res k xs = some T
 unfold impl_ShatteredSets.res
 rw [if_pos hok]
 congr 1
 have hpm : ∀ x, x ∈ T → x ∈ xs := fun x hx => hp.mem_iff.1 hx
 refine (Rs.sort_unique (impl_ShatteredSets.le k) xs T (fun a ha b hb c hc e1 e2 => ?_) (fun a ha b hb => ?_) (fun a ha b hb e1 e2 => ?_) hp (hT.imp_of_mem fun {a b} ha hb hab => ?_)).symm
 · simp only [impl_ShatteredSets.le, Bool.not_eq_true', decide_eq_false_iff_not] at e1 e2 ⊢
   exact ((hok.2.2 c hc b hb).2.2.2 a ha).2 e2 e1
 · simp only [impl_ShatteredSets.le, Bool.or_eq_true, Bool.not_eq_true', decide_eq_false_iff_not]
   have := (hok.2.2 a ha b hb).2.2.1
   by_cases e : impl_ShatteredSets.cf k b a < 0
   · exact .inr fun e2 => this ⟨e2, e⟩
   · exact .inl e
 · simp only [impl_ShatteredSets.le, Bool.not_eq_true', decide_eq_false_iff_not] at e1 e2
   rcases (hok.2.2 a ha b hb).2.1 with e | e | e
   · exact absurd e e2
   · exact absurd e e1
   · exact e
 · simp only [impl_ShatteredSets.le, Bool.not_eq_true', decide_eq_false_iff_not]
   rw [lt b (hpm b hb) a (hpm a ha)]
   exact csB_asymm hab
theorem impl_ShatteredSets_ev (C : List (List Int)) (hC : C.length ≤ 1048576) (hi : ∀ x ∈ C, x.length ≤ maxLen) : Ev (fun k => impl_ShatteredSets.f k C) (shatteredM C) := by
 have e0 : rd_L1 C 0 = C.getD 0 [] := rdL1_nat C 0
 refine Ev.bind (impl_IsClass_ev C (by unfold maxLen; omega) hi) ?_
 unfold shatteredM
 cases hc : classB C with
 | false => exact Ev.congr (f := fun _ => some ([], false)) (fun k => by simp only [Bool.false_eq_true, if_false]) (Ev.now _)
 | true =>
  obtain ⟨h1, _, h8, h4⟩ := classB_ok hc
  have c2 : 0 < (C.length : Int) := by omega
  obtain ⟨s1, s2⟩ := setsT_ok _ h8
  obtain ⟨p1, p2, p3⟩ := setsT_mem _ h8
  simp only [if_true, if_pos c2, e0, shl_two _ h8]
  unfold shatM
  generalize hm : (C.getD 0 []).length = m at *
  have hpow : 2 ^ m ≤ 256 := by
   have : 2 ^ m ≤ 2 ^ 8 := Nat.pow_le_pow_right (by decide) h8
   simpa using this
  have sm : ∀ s, s < 2 ^ m → (memT s).length ≤ 8 ∧ ∀ x ∈ memT s, 0 ≤ x ∧ x < (m : Int) := fun s hs => s2 _ (p2.mem_iff.2 (List.mem_map.2 ⟨s, List.mem_range.2 hs, rfl⟩))
  have key := ev_range (2 ^ m) (fun i (out : List (List Int)) k => impl_ShatteredSets.l0 k C out ((2 ^ m : Nat) : Int) i) (fun _ _ _ => ((setsT m).filter (shB C), true)) (fun i out => out = ((List.range i).map memT).filter (shB C)) (fun out ho => ?_) (fun i d out hi hd ho ih => ?_) [] rfl
  · exact key
  · subst ho
    have hp : ((setsT m).filter (shB C)).Perm (((List.range (2 ^ m)).map memT).filter (shB C)) := p2.filter _
    have hin : ([] : List Int) ∈ (setsT m).filter (shB C) := List.mem_filter.2 ⟨p3, shB_nil C h1⟩
    have hlen : (((List.range (2 ^ m)).map memT).filter (shB C)).length ≤ 256 := by
     refine Nat.le_trans (List.length_filter_le _ _) ?_
     rw [List.length_map, List.length_range]
     exact hpow
    refine Ev.step' (f := fun k => (impl_ShatteredSets.res k (((List.range (2 ^ m)).map memT).filter (shB C))).bind fun t_ => some (t_, true)) (fun k => by simp only [impl_ShatteredSets.l0, if_neg (Int.lt_irrefl _)]) (Ev.bind (impl_ShatteredSets_res _ _ (List.length_pos_of_mem (hp.mem_iff.1 hin)) (by omega) (fun x hx => ?_) (p1.filter _) hp) (Ev.now _))
    have := (s2 x (List.mem_filter.1 (hp.mem_iff.2 hx)).1).1
    omega
  · have c3 : (i : Int) < ((2 ^ m : Nat) : Int) := by omega
    have hs := sm i hi
    have hlen : out.length ≤ 256 := by
     rw [ho]
     refine Nat.le_trans (List.length_filter_le _ _) ?_
     rw [List.length_map, List.length_range]
     omega
    have c4 : out.length < 5864062014805 := by omega
    have hsh := impl_shatters_ev C (memT i) h1 hC hs.1 (fun r hr y hy => by have := hs.2 y hy; rw [(h4 r hr).1]; exact this)
    have hnext : ((List.range (i + 1)).map memT).filter (shB C) = (if shB C (memT i) = true then out ++ [memT i] else out) := by
     rw [List.range_succ, List.map_append, List.filter_append, ← ho]
     simp only [List.map_cons, List.map_nil]
     by_cases hb : shB C (memT i) = true
     · rw [if_pos hb, List.filter_cons, if_pos hb]; rfl
     · rw [if_neg hb, List.filter_cons, if_neg hb]; simp
    refine Ev.step' (f := fun k => (impl_members.f k (i : Int)).bind fun t332 => ((impl_shatters.f k C t332).bind fun t335 => (if t335 = true then (impl_ShatteredSets.l0 k C (out ++ [t332]) ((2 ^ m : Nat) : Int) ((i + 1 : Nat) : Int)) else (impl_ShatteredSets.l0 k C out ((2 ^ m : Nat) : Int) ((i + 1 : Nat) : Int))))) (fun k => by simp only [impl_ShatteredSets.l0, if_pos c3, if_pos c4, wrap_succ hi (show 2 ^ m ≤ 9223372036854775807 by omega)]) (Ev.bind (impl_members_ev i (by omega)) (Ev.bind hsh ?_))
    by_cases hb : shB C (memT i) = true
    · simp only [hb, if_true]
      exact ih (out ++ [memT i]) (by rw [hnext, if_pos hb])
    · simp only [Bool.eq_false_iff.2 hb, Bool.false_eq_true, if_false]
      exact ih out (by rw [hnext, if_neg hb])
theorem impl_VapnikNumber_ev (C : List (List Int)) (hC : C.length ≤ 1048576) (hi : ∀ x ∈ C, x.length ≤ maxLen) : Ev (fun k => impl_VapnikNumber.f k C) (vapM C) := by
 refine Ev.bind (impl_ShatteredSets_ev C hC hi) ?_
 unfold vapM shatteredM
 cases hc : classB C with
 | false => exact Ev.congr (f := fun _ => some (0, false)) (fun k => by simp only [Bool.false_eq_true, if_false]) (Ev.now _)
 | true =>
  obtain ⟨h1, _, h8, h4⟩ := classB_ok hc
  obtain ⟨p0, p1⟩ := shatM_pos C h1 h8
  obtain ⟨q0, q1, q2⟩ := vap_last (shatM C) p0 p1
  simp only [if_true, if_pos q0, if_pos q1, q2]
  exact Ev.now _
theorem laws_eqIntS_ev (l : List Int) (h : l.length ≤ maxLen) : Ev (fun k => laws_eqIntS.f k l l) true := by
 unfold maxLen at h
 refine Ev.congr (f := fun k => laws_eqIntS.l0 k l l 0) (fun k => by simp only [laws_eqIntS.f, if_true]) ?_
 refine ev_yes (L := fun i k => laws_eqIntS.l0 k l l i) (n := l.length) (fun i hi => To.step fun k => ?_) (Ev.step' (f := fun _ => some true) (fun k => ?_) (Ev.now _))
 · have c1 : (i : Int) < (l.length : Int) := by omega
   have c0 : 0 ≤ (i : Int) := by omega
   simp only [laws_eqIntS.l0, if_pos c1, if_pos c0, if_true, wrap_succ hi h]
 · simp only [laws_eqIntS.l0, if_neg (Int.lt_irrefl _)]
theorem laws_eqIntSS_ev (l : List (List Int)) (h : l.length ≤ maxLen) (hi : ∀ x ∈ l, x.length ≤ maxLen) : Ev (fun k => laws_eqIntSS.f k l l) true := by
 have h' : l.length ≤ 9223372036854775807 := h
 refine Ev.congr (f := fun k => laws_eqIntSS.l0 k l l 0) (fun k => by simp only [laws_eqIntSS.f, if_true]) ?_
 refine ev_yes (L := fun i k => laws_eqIntSS.l0 k l l i) (n := l.length) (fun i hi2 => ?_) (Ev.step' (f := fun _ => some true) (fun k => ?_) (Ev.now _))
 · have c1 : (i : Int) < (l.length : Int) := by omega
   have c0 : 0 ≤ (i : Int) := by omega
   refine (To.step (f := fun k => (laws_eqIntS.f k (l.getD i []) (l.getD i [])).bind fun t => if t = true then laws_eqIntSS.l0 k l l ((i + 1 : Nat) : Int) else some false) (fun k => ?_)).trans ((To.bind (laws_eqIntS_ev _ (hi _ (getD_mem hi2 [])))).trans (To.congr fun k => by simp only [if_true]))
   simp only [laws_eqIntSS.l0, if_pos c1, if_pos c0, rdL1_nat, wrap_succ hi2 h']
 · simp only [laws_eqIntSS.l0, if_neg (Int.lt_irrefl _)]

theorem pure : SFnExactVapnikNumber.Pure := by
 intro C ⟨h, hi0⟩
 have hi : ∀ x ∈ C, x.length ≤ maxLen := fun x hx => (hi0 x hx).1
 obtain ⟨K1, k1⟩ := laws_szIntSS_ev C 1048576 h hi (by omega) (by omega)
 by_cases cn : lft 1048576 (sz2 C) < 0
 · exact .inl ⟨K1, _, k1 K1 (by omega), cn⟩
 · have d := lft_nonneg (Int.not_lt.1 cn)
   have hs := sz2_small (l := C) (n := 1048576) (by omega)
   obtain ⟨K2, k2⟩ := laws_toIntSS_ev C hs.1 hs.2
   obtain ⟨K4, k4⟩ := spec_VapnikNumber_ev C hs.1 hi
   obtain ⟨K5, k5⟩ := impl_VapnikNumber_ev C hs.1 hi
   obtain ⟨K7, k7⟩ := laws_eqIntSS_ev C h hi
   let K := K1 + K2 + K4 + K5 + K7
   exact .inr ⟨K, _, _, (vapM C).1, (vapM C).2, k1 K (by omega), k2 K (by omega), k4 K (by omega), k5 K (by omega), k7 K (by omega), Int.not_lt.1 cn⟩
end Go.Proofs.YtfkfahdikmfpeaaDoor.QFnExactVapnikNumber
