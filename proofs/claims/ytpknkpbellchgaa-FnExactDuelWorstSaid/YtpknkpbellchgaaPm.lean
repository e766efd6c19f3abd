/- The models: what the program's functions come to, on lists and numbers; and plain facts about them. -/
import Derived.Test.YtpknkpbellchgaaLb
namespace Go.Proofs.Ytpknkpbellchgaa.Pm
open Go.RowKit Go.Proofs.Ytpknkpbellchgaa.Lb Go.Proofs.YtpknkpbellchgaaW.PrintWords
set_option linter.unusedVariables false
def isLab (x : Int) : Bool := decide (x = 1) || decide (x = -1)
def pointB (x : List Int) : Bool := inR 1 4 x.length && x.all (inR (-9) 9)
def planeB (w : List Int) (b : Int) : Bool := inR 1 4 w.length && (w.all (inR (-99) 99) && inR (-99) 99 b)
def sumW (l : List Int) : Int := l.foldl (fun s x => wrap64 (s + x)) 0
def livesB (l : List Int) : Bool := decide (l.length ≤ 4) && (l.all (inR 0 8) && inR 1 8 (sumW l))
def powW (b : Int) : Nat → Int → Int
  | 0, s => s
  | n + 1, s => powW b n (wrap64 (s * b))
def kernelW (a b : List Int) (e : Int) : Int := powW (wrap64 (dotW a b + 1)) e.toNat 1
def kernelOfM (x y : List Int) (e : Int) : Int × Bool := if (pointB x && (pointB y && (decide (x.length = y.length) && inR 1 3 e))) = true then (kernelW x y e, true) else (0, false)
/-- How many values a row of rows has. -/
def sz2 (l : List (List Int)) : Nat := l.length + sumN List.length l
theorem sz2_small {l : List (List Int)} {n : Nat} (h : sz2 l ≤ n) : l.length ≤ n ∧ ∀ x ∈ l, x.length ≤ n := by
  unfold sz2 at h
  exact ⟨by omega, fun x hx => by have := sumN_mem List.length hx; omega⟩
def panelB (S : List (List Int)) (T : List Int) : Bool := inR 1 8 S.length && (decide (T.length ≤ 16) && (T.all isLab && S.all (fun x => decide (x.length = T.length) && x.all (inR (-1) 1))))
theorem panelB_spec (S : List (List Int)) (T : List Int) : panelB S T = (S.all (fun x => x.all (inR (-1) 1) && ((x.length : Int) == (T.length : Int))) && (inR 1 8 S.length && (decide (T.length ≤ 16) && T.all isLab))) := by
  have e : (fun x : List Int => decide (x.length = T.length) && x.all (inR (-1) 1)) = (fun x : List Int => x.all (inR (-1) 1) && ((x.length : Int) == (T.length : Int))) := by
    funext x
    rw [Bool.and_comm]
    congr 1
    rw [Bool.eq_iff_iff, decide_eq_true_iff, beq_iff_eq]
    omega
  unfold panelB
  rw [e]
  cases S.all (fun x => x.all (inR (-1) 1) && ((x.length : Int) == (T.length : Int))) <;> cases inR 1 8 (S.length : Int) <;> cases decide (T.length ≤ 16) <;> cases T.all isLab <;> rfl
def meetsB (w : List Int) (b : Int) (x : List Int) : Bool := planeB w b && (pointB x && ((x.length : Int) == (w.length : Int)))
theorem meets_len {w : List Int} {b : Int} {x : List Int} (h : meetsB w b x = true) : w.length ≤ x.length := by
  unfold meetsB at h
  simp only [Bool.and_eq_true, beq_iff_eq] at h
  omega
def sideW (w : List Int) (b : Int) (x : List Int) : Int := if dotW w x ≥ b then 1 else -1
def choiceM (r : List Int) (rb : Int) (l : List Int) (lb : Int) (g : List Int) (gb : Int) (x : List Int) : Int × Bool :=
  if (meetsB r rb x && (meetsB l lb x && meetsB g gb x)) = true then (if sideW r rb x = 1 then sideW g gb x else sideW l lb x, true) else (0, false)
/-- The sum of the products, place by place. -/
def dotZ : List Int → List Int → Int
  | x :: xs, y :: ys => x * y + dotZ xs ys
  | _, _ => 0
theorem range_zip {σ : Type} (g : σ → Int → Int → σ) : ∀ (a b : List Int) (s : σ), a.length ≤ b.length → (List.range a.length).foldl (fun s i => g s (a.getD i 0) (b.getD i 0)) s = (a.zip b).foldl (fun s p => g s p.1 p.2) s
  | [], _, _, _ => rfl
  | x :: xs, [], _, h => by simp at h
  | x :: xs, y :: ys, s, h => by
    rw [List.length_cons, List.range_succ_eq_map, List.foldl_cons, List.foldl_map, List.zip_cons_cons, List.foldl_cons]
    simp only [List.getD_cons_zero, List.getD_cons_succ]
    exact range_zip g xs ys _ (by simpa using h)
def Near (B : Int) (l : List Int) : Prop := ∀ x ∈ l, -B ≤ x ∧ x ≤ B
theorem mul_near {x y B C : Int} (hx : -B ≤ x ∧ x ≤ B) (hy : -C ≤ y ∧ y ≤ C) (hB : 0 ≤ B) (hC : 0 ≤ C) : -(B * C) ≤ x * y ∧ x * y ≤ B * C := by
  have h1 : (x * y).natAbs ≤ (B * C).natAbs := by
    rw [Int.natAbs_mul, Int.natAbs_mul]
    exact Nat.mul_le_mul (by omega) (by omega)
  have h2 : 0 ≤ B * C := Int.mul_nonneg hB hC
  omega
theorem fold_dot (B C : Int) (hB : 0 ≤ B) (hC : 0 ≤ C) (hBC : B * C ≤ 1000000000000) : ∀ (a b : List Int) (s : Int), Near B a → Near C b → a.length ≤ b.length → a.length ≤ 1000 → -1000000000000000 ≤ s - (a.length * (B * C)) → s + a.length * (B * C) ≤ 1000000000000000 →
    (a.zip b).foldl (fun s p => wrap64 (s + wrap64 (p.1 * p.2))) s = s + dotZ a b
  | [], b, s, _, _, _, _, _, _ => by simp [dotZ]
  | x :: xs, [], s, _, _, h, _, _, _ => by simp at h
  | x :: xs, y :: ys, s, ha, hb, hl, hn, h0, h1 => by
    have hxy := mul_near (ha x List.mem_cons_self) (hb y List.mem_cons_self) hB hC
    have hl' : xs.length ≤ ys.length := by simpa using hl
    have hn' : xs.length ≤ 999 := by simp at hn; omega
    have e : ((x :: xs).length : Int) * (B * C) = xs.length * (B * C) + B * C := by rw [List.length_cons]; push_cast; rw [Int.add_mul, Int.one_mul]
    rw [e] at h0 h1
    have hp : 0 ≤ (xs.length : Int) * (B * C) := Int.mul_nonneg (by omega) (Int.mul_nonneg hB hC)
    rw [List.zip_cons_cons, List.foldl_cons, wrap_id (x := x * y) (by omega) (by omega), wrap_id (x := s + x * y) (by omega) (by omega)]
    rw [fold_dot B C hB hC hBC xs ys (s + x * y) (fun z hz => ha z (List.mem_cons_of_mem _ hz)) (fun z hz => hb z (List.mem_cons_of_mem _ hz)) hl' (by omega) (by omega) (by omega)]
    simp only [dotZ]; omega
theorem dotW_eq (B C : Int) (hB : 0 ≤ B) (hC : 0 ≤ C) (hBC : B * C ≤ 1000000) (a b : List Int) (ha : Near B a) (hb : Near C b) (hl : a.length ≤ b.length) (hn : a.length ≤ 1000) : dotW a b = dotZ a b := by
  unfold dotW
  have h2 : 0 ≤ B * C := Int.mul_nonneg hB hC
  have h3 : (a.length : Int) * (B * C) ≤ 1000 * 1000000 := Int.mul_le_mul (by omega) hBC h2 (by omega)
  have h4 : 0 ≤ (a.length : Int) * (B * C) := Int.mul_nonneg (by omega) h2
  rw [range_zip (fun s x y => wrap64 (s + wrap64 (x * y))) a b 0 hl, fold_dot B C hB hC (by omega) a b 0 ha hb hl hn (by omega) (by omega)]
  omega
theorem near_of {B : Int} {l : List Int} (h : l.all (inR (-B) B) = true) : Near B l := fun x hx => (inR_iff _ _ _).1 (List.all_eq_true.1 h x hx)
/-- Stumps. -/
def stumpM (fin : Int → Bool) : List Int → Int → Bool
  | [], s => fin s
  | x :: ys, s => if x = 1 then stumpM fin ys (wrap64 (s + 1)) else if x = -1 then stumpM fin ys (wrap64 (s + 1)) else if x = 0 then stumpM fin ys s else false
theorem stumpM_no : ∀ (ys : List Int) (s : Int), stumpM (fun _ => false) ys s = false
  | [], _ => rfl
  | x :: ys, s => by
    simp only [stumpM, stumpM_no ys]
    repeat (first | rfl | split)
theorem sq_big {x : Int} (h0 : ¬ x = 0) (h1 : ¬ x = 1) (h2 : ¬ x = -1) : 4 ≤ x * x := by
  have : 2 * 2 ≤ x.natAbs * x.natAbs := Nat.mul_le_mul (by omega) (by omega)
  rw [← Int.natAbs_mul] at this
  have hp : 0 ≤ x * x := by rcases Int.le_total 0 x with h | h; exact Int.mul_nonneg h h; exact Int.mul_nonneg_of_nonpos_of_nonpos h h
  omega
theorem sq_nonneg (x : Int) : 0 ≤ x * x := by rcases Int.le_total 0 x with h | h; exact Int.mul_nonneg h h; exact Int.mul_nonneg_of_nonpos_of_nonpos h h
theorem dotZ_nonneg : ∀ a : List Int, 0 ≤ dotZ a a
  | [] => Int.le_refl _
  | x :: xs => by have := sq_nonneg x; have := dotZ_nonneg xs; simp only [dotZ]; omega
theorem stumpM_one : ∀ (ys : List Int) (s : Int), 0 ≤ s → s + ys.length ≤ 1000 → stumpM (fun s => s == 1) ys s = (s + dotZ ys ys == 1)
  | [], s, _, _ => by simp [stumpM, dotZ]
  | x :: ys, s, h0, h1 => by
    have hl : s + 1 + ys.length ≤ 1000 := by simp at h1; omega
    have hw : wrap64 (s + 1) = s + 1 := wrap_id (by omega) (by omega)
    have hn := dotZ_nonneg ys
    simp only [stumpM, dotZ, hw]
    by_cases e1 : x = 1
    · rw [if_pos e1, stumpM_one ys (s + 1) (by omega) hl, e1]; congr 1; omega
    · rw [if_neg e1]
      by_cases e2 : x = -1
      · rw [if_pos e2, stumpM_one ys (s + 1) (by omega) hl, e2]; congr 1; omega
      · rw [if_neg e2]
        by_cases e3 : x = 0
        · rw [if_pos e3, stumpM_one ys s h0 (by omega), e3]; congr 1; omega
        · rw [if_neg e3]
          have := sq_big e3 e1 e2
          exact (beq_eq_false_iff_ne.2 (by omega)).symm
theorem stumpM_eq (w : List Int) (b : Int) : stumpM (fun s => planeB w b && s == 1) w 0 = (planeB w b && dotW w w == 1) := by
  cases h : planeB w b with
  | false => simp only [Bool.false_and]; exact stumpM_no w 0
  | true =>
    simp only [Bool.true_and]
    unfold planeB at h
    simp only [Bool.and_eq_true] at h
    have hl := (inR_iff _ _ _).1 h.1
    have hn := near_of h.2.1
    rw [stumpM_one w 0 (by omega) (by omega), dotW_eq 99 99 (by omega) (by omega) (by omega) w w hn hn (Nat.le_refl _) (by omega)]
    congr 1; omega
theorem point_len {x : List Int} (h : pointB x = true) : 1 ≤ x.length ∧ x.length ≤ 4 := by
  unfold pointB at h
  simp only [Bool.and_eq_true] at h
  have := (inR_iff _ _ _).1 h.1
  omega
theorem point_near {x : List Int} (h : pointB x = true) : Near 9 x := by
  unfold pointB at h
  simp only [Bool.and_eq_true] at h
  exact near_of h.2
def ptB (P : List (List Int)) (x : List Int) : Bool := pointB x && decide (x.length = (P.getD 0 []).length)
def sampleB (P : List (List Int)) (L : List Int) : Bool := decide (P.length ≤ 16) && (decide (L.length = P.length) && (L.all isLab && P.all (ptB P)))
theorem sample_tell {P : List (List Int)} {L : List Int} (h : sampleB P L = true) : P.length ≤ 16 ∧ L.length = P.length ∧ (∀ l ∈ L, l = 1 ∨ l = -1) ∧ ∀ x ∈ P, pointB x = true ∧ x.length = (P.getD 0 []).length := by
  unfold sampleB at h
  simp only [Bool.and_eq_true, decide_eq_true_eq, List.all_eq_true] at h
  refine ⟨h.1, h.2.1, fun l hl => ?_, fun x hx => ?_⟩
  · have := h.2.2.1 l hl
    unfold isLab at this
    simpa using this
  · have := h.2.2.2 x hx
    unfold ptB at this
    simpa using this
def countsB (P : List (List Int)) (L c : List Int) (e : Int) : Bool := sampleB P L && (decide (c.length = P.length) && (c.all (inR 0 999) && inR 1 3 e))
theorem countsB_spec (P : List (List Int)) (L c : List Int) (e : Int) : countsB P L c e = (c.all (inR 0 999) && (sampleB P L && (decide (c.length = P.length) && inR 1 3 e))) := by
  unfold countsB
  cases sampleB P L <;> cases c.all (inR 0 999) <;> cases decide (c.length = P.length) <;> cases inR 1 3 e <;> rfl
theorem counts_tell {P : List (List Int)} {L c : List Int} {e : Int} (h : countsB P L c e = true) : sampleB P L = true ∧ c.length = P.length ∧ (∀ n ∈ c, 0 ≤ n ∧ n ≤ 999) ∧ inR 1 3 e = true := by
  unfold countsB at h
  simp only [Bool.and_eq_true, decide_eq_true_eq, List.all_eq_true] at h
  exact ⟨h.1, h.2.1, fun n hn => (inR_iff _ _ _).1 (h.2.2.1 n hn), h.2.2.2⟩
theorem foldl_congr_mem {α β : Type} {f g : β → α → β} : ∀ (l : List α) (s : β), (∀ s x, x ∈ l → f s x = g s x) → l.foldl f s = l.foldl g s
  | [], _, _ => rfl
  | x :: xs, s, h => by rw [List.foldl_cons, List.foldl_cons, h s x List.mem_cons_self]; exact foldl_congr_mem xs _ (fun s y hy => h s y (List.mem_cons_of_mem _ hy))
theorem dotW_comm (a b : List Int) (h : a.length = b.length) : dotW a b = dotW b a := by
  unfold dotW
  rw [h]
  exact foldl_congr_mem _ _ (fun s i _ => by rw [Int.mul_comm])
theorem kernelW_comm (a b : List Int) (e : Int) (h : a.length = b.length) : kernelW a b e = kernelW b a e := by unfold kernelW; rw [dotW_comm a b h]
def forceW (P : List (List Int)) (L c : List Int) (e : Int) (x : List Int) : Int := (List.range P.length).foldl (fun s i => wrap64 (s + wrap64 (wrap64 (c.getD i 0 * L.getD i 0) * kernelW (P.getD i []) x e))) 0
def forceOfM (P : List (List Int)) (L c : List Int) (e : Int) (x : List Int) : Int × Bool :=
  if (countsB P L c e && (pointB x && (decide (P.length = 0) || decide ((P.getD 0 []).length = x.length)))) = true then (forceW P L c e x, true) else (0, false)
def squareM (P : List (List Int)) (L c : List Int) (e : Int) : Int × Bool :=
  if countsB P L c e = true then ((List.range P.length).foldl (fun s i => wrap64 (s + wrap64 (wrap64 (c.getD i 0 * L.getD i 0) * forceW P L c e (P.getD i [])))) 0, true) else (0, false)
def suitsB (P : List (List Int)) (L w : List Int) (b : Int) : Bool := sampleB P L && (planeB w b && (decide (P.length = 0) || (((P.getD 0 []).length : Int) == (w.length : Int))))
theorem suits_tell {P : List (List Int)} {L w : List Int} {b : Int} (h : suitsB P L w b = true) : sampleB P L = true ∧ planeB w b = true ∧ ∀ x ∈ P, x.length = w.length := by
  unfold suitsB at h
  simp only [Bool.and_eq_true, Bool.or_eq_true, decide_eq_true_eq, beq_iff_eq] at h
  refine ⟨h.1, h.2.1, fun x hx => ?_⟩
  rcases h.2.2 with h0 | h0
  · rw [List.length_eq_zero_iff.1 h0] at hx; cases hx
  · rw [((sample_tell h.1).2.2.2 x hx).2]; omega
def heftsB (P : List (List Int)) (c : List Int) : Bool := c.all (inR 0 1000000) && ((c.length : Int) == (P.length : Int))
theorem hefts_len {P : List (List Int)} {c : List Int} (h : heftsB P c = true) : c.length = P.length := by
  unfold heftsB at h
  simp only [Bool.and_eq_true, beq_iff_eq] at h
  omega
/-- The weighted mistakes from point i on. -/
def weighM (L c w : List Int) (b : Int) : Nat → List (List Int) → Int → Int
  | _, [], s => s
  | i, x :: ys, s => if sideW w b x = L.getD i 0 then weighM L c w b (i + 1) ys s else weighM L c w b (i + 1) ys (wrap64 (s + c.getD i 0))
/-- The places of the mistakes from point i on. -/
def missM (L w : List Int) (b : Int) : Nat → List (List Int) → List Int
  | _, [] => []
  | i, x :: ys => if sideW w b x = L.getD i 0 then missM L w b (i + 1) ys else (i : Int) :: missM L w b (i + 1) ys
def atM (h p : List Int) : List Int := p.map (rd h)
theorem missM_mem (L w : List Int) (b : Int) : ∀ (ys : List (List Int)) (i : Nat) (j : Int), j ∈ missM L w b i ys → (i : Int) ≤ j ∧ j < i + ys.length
  | [], _, _, h => by simp [missM] at h
  | x :: ys, i, j, h => by
    simp only [missM] at h
    split at h
    · have := missM_mem L w b ys (i + 1) j h; rw [List.length_cons]; omega
    · rcases List.mem_cons.1 h with rfl | h
      · rw [List.length_cons]; omega
      · have := missM_mem L w b ys (i + 1) j h; rw [List.length_cons]; omega
theorem missM_len (L w : List Int) (b : Int) : ∀ (ys : List (List Int)) (i : Nat), (missM L w b i ys).length ≤ ys.length
  | [], _ => by simp [missM]
  | x :: ys, i => by
    have := missM_len L w b ys (i + 1)
    simp only [missM]
    split <;> simp only [List.length_cons] <;> omega
theorem weigh_eq (L c w : List Int) (b : Int) : ∀ (ys : List (List Int)) (i : Nat) (s : Int), (atM c (missM L w b i ys)).foldl (fun s x => wrap64 (s + x)) s = weighM L c w b i ys s
  | [], _, _ => rfl
  | x :: ys, i, s => by
    simp only [missM, weighM]
    split
    · exact weigh_eq L c w b ys (i + 1) s
    · rw [atM, List.map_cons, List.foldl_cons, rd_nat]; exact weigh_eq L c w b ys (i + 1) _
/-- Panels: on which days an expert is wrong. -/
theorem panel_tell {S : List (List Int)} {T : List Int} (h : panelB S T = true) : 1 ≤ S.length ∧ S.length ≤ 8 ∧ T.length ≤ 16 ∧ (∀ t ∈ T, t = 1 ∨ t = -1) ∧ ∀ x ∈ S, x.length = T.length ∧ ∀ v ∈ x, -1 ≤ v ∧ v ≤ 1 := by
  unfold panelB at h
  simp only [Bool.and_eq_true, decide_eq_true_eq, List.all_eq_true] at h
  have hl := (inR_iff _ _ _).1 h.1
  refine ⟨by omega, by omega, h.2.1, fun t ht => ?_, fun x hx => ⟨(h.2.2.2 x hx).1, fun v hv => (inR_iff _ _ _).1 ((h.2.2.2 x hx).2 v hv)⟩⟩
  have := h.2.2.1 t ht
  unfold isLab at this
  simpa using this
def wrB (x T : List Int) (d : Nat) : Bool := if x.getD d 0 = 0 then false else x.getD d 0 != T.getD d 0
def wrongsM (x T : List Int) (n : Nat) : Int := (List.range n).foldl (fun s d => if wrB x T d = true then wrap64 (s + 1) else s) 0
def daysM (S : List (List Int)) (T : List Int) (n : Nat) : List Int := S.map fun x => wrongsM x T n
def wrongDaysM (S : List (List Int)) (T : List Int) : List Int × Bool := if panelB S T = true then (daysM S T T.length, true) else ([], false)
theorem wrB_alt {x T : List Int} {d : Nat} (hx : -1 ≤ x.getD d 0 ∧ x.getD d 0 ≤ 1) (ht : T.getD d 0 = 1 ∨ T.getD d 0 = -1) : (x.getD d 0 == wrap64 (-(T.getD d 0))) = wrB x T d := by
  have e : wrap64 (-(T.getD d 0)) = -(T.getD d 0) := wrap_id (by omega) (by omega)
  unfold wrB
  rw [e]
  by_cases c : x.getD d 0 = 0
  · rw [if_pos c, c]
    exact beq_eq_false_iff_ne.2 (by omega)
  · rw [if_neg c, Bool.eq_iff_iff, beq_iff_eq, bne_iff_ne]
    omega
theorem fold_set (i : Nat) (p : Nat → Bool) : ∀ (l : List Nat) (s : List Int), i < s.length → l.foldl (fun s d => if p d = true then s.set i (wrap64 (s.getD i 0 + 1)) else s) s = s.set i (l.foldl (fun v d => if p d = true then wrap64 (v + 1) else v) (s.getD i 0))
  | [], s, h => by
    apply List.ext_getElem?
    intro j
    by_cases hj : i = j
    · subst hj; simp [List.getD_eq_getElem?_getD, h]
    · simp [hj]
  | d :: l, s, h => by
    have hg : ∀ v, (s.set i v).getD i 0 = v := fun v => by simp [List.getD_eq_getElem?_getD, h]
    simp only [List.foldl_cons]
    cases p d with
    | false => simp only [Bool.false_eq_true, if_false]; exact fold_set i p l s h
    | true => simp only [if_true]; rw [fold_set i p l _ (by simpa using h), hg, List.set_set]
theorem days_step {S : List (List Int)} {T : List Int} {n i : Nat} {s : List Int} (hi : i < S.length) (hs : s = (daysM S T n).take i ++ List.replicate (S.length - i) 0) : (s.length = S.length ∧ s.getD i 0 = 0) ∧ s.set i (wrongsM (S.getD i []) T n) = (daysM S T n).take (i + 1) ++ List.replicate (S.length - (i + 1)) 0 := by
  have hl : (daysM S T n).length = S.length := by simp [daysM]
  have ht : ((daysM S T n).take i).length = i := by rw [List.length_take]; omega
  refine ⟨⟨by rw [hs, List.length_append, ht, List.length_replicate]; omega, ?_⟩, ?_⟩
  · rw [hs, List.getD_eq_getElem?_getD, List.getElem?_append_right (by omega), ht, Nat.sub_self, List.getElem?_replicate]
    split <;> rfl
  · have e := set_step (daysM S T n) 0 0 i (by omega)
    have e2 : (daysM S T n).getD i 0 = wrongsM (S.getD i []) T n := by
      simp [daysM, List.getD_eq_getElem?_getD, hi]
    rw [hl, e2] at e
    rw [hs]; exact e
/-- The kernel's run. -/
def wrongK (P : List (List Int)) (L c : List Int) (e : Int) (i : Nat) : Bool := decide (forceW P L c e (P.getD i []) ≥ 0) != (L.getD i 0 == 1)
def stepK (P : List (List Int)) (L : List Int) (e : Int) (i : Nat) (s : List Int × Int) : List Int × Int := if wrongK P L s.1 e i = true then (s.1.set i (wrap64 (s.1.getD i 0 + 1)), 0) else s
def rowK (P : List (List Int)) (L : List Int) (e : Int) (s : List Int × Int) : List Int × Int := (List.range P.length).foldl (fun s i => stepK P L e i s) s
def runK (P : List (List Int)) (L : List Int) (e : Int) (n : Nat) : List Int × Int := (List.range n).foldl (fun s _ => rowK P L e (s.1, wrap64 (s.2 + 1))) (List.replicate P.length 0, 0)
def kernelRunM (P : List (List Int)) (L : List Int) (e n : Int) : List Int × Int × Bool := if (sampleB P L && (inR 1 3 e && inR 0 10 n)) = true then ((runK P L e n.toNat).1, (runK P L e n.toNat).2, true) else ([], 0, false)
theorem stepK_len (P : List (List Int)) (L : List Int) (e : Int) (i : Nat) (s : List Int × Int) : (stepK P L e i s).1.length = s.1.length := by
  unfold stepK; split
  · rw [List.length_set]
  · rfl
theorem sample_eq {P : List (List Int)} {L : List Int} (h : sampleB P L = true) {i : Nat} (hi : i < P.length) : ∀ y ∈ P, y.length = (P.getD i []).length := by
  have ht := (sample_tell h).2.2.2
  intro y hy
  rw [(ht y hy).2, (ht _ (getD_mem hi [])).2]
theorem fold_len {P : List (List Int)} {L : List Int} {e : Int} : ∀ (l : List Nat) (s : List Int × Int), (l.foldl (fun s i => stepK P L e i s) s).1.length = s.1.length
  | [], _ => rfl
  | i :: l, s => by rw [List.foldl_cons, fold_len l, stepK_len]
theorem runK_len (P : List (List Int)) (L : List Int) (e : Int) (n : Nat) : (runK P L e n).1.length = P.length := by
  unfold runK
  have key : ∀ (l : List Nat) (s : List Int × Int), s.1.length = P.length → (l.foldl (fun s _ => rowK P L e (s.1, wrap64 (s.2 + 1))) s).1.length = P.length := by
    intro l
    induction l with
    | nil => intro s h; exact h
    | cons a l ih => intro s h; rw [List.foldl_cons]; exact ih _ (by unfold rowK; rw [fold_len]; exact h)
  exact key _ _ (by simp)
/-- Sums of the points with a label, and how many they are. -/
def addAt (x s : List Int) : List Int := (List.range x.length).foldl (fun s k => s.set k (wrap64 (s.getD k 0 + x.getD k 0))) s
theorem addAt_len (x s : List Int) : (addAt x s).length = s.length := by
  unfold addAt
  have key : ∀ (l : List Nat) (s : List Int), (l.foldl (fun s k => s.set k (wrap64 (s.getD k 0 + x.getD k 0))) s).length = s.length := by
    intro l
    induction l with
    | nil => intro s; rfl
    | cons a l ih => intro s; rw [List.foldl_cons, ih, List.length_set]
  exact key _ _
def sumStep (P : List (List Int)) (L : List Int) (lab : Int) (i : Nat) (s : Int × List Int) : Int × List Int := if L.getD i 0 = lab then (wrap64 (s.1 + 1), addAt (P.getD i []) s.2) else s
def sumsM (P : List (List Int)) (L : List Int) (lab : Int) (d : Nat) : Int × List Int := (List.range P.length).foldl (fun s i => sumStep P L lab i s) (0, List.replicate d 0)
theorem sumStep_len (P : List (List Int)) (L : List Int) (lab : Int) (i : Nat) (s : Int × List Int) : (sumStep P L lab i s).2.length = s.2.length := by
  unfold sumStep; split
  · exact addAt_len _ _
  · rfl
theorem sumsM_len (P : List (List Int)) (L : List Int) (lab : Int) (d : Nat) : (sumsM P L lab d).2.length = d := by
  have key : ∀ (l : List Nat) (s : Int × List Int), (l.foldl (fun s i => sumStep P L lab i s) s).2.length = s.2.length := by
    intro l
    induction l with
    | nil => intro s; rfl
    | cons a l ih => intro s; rw [List.foldl_cons, ih, sumStep_len]
  unfold sumsM
  rw [key]; simp
theorem count_fold (v : Int) : ∀ (L : List Int) (c : Int), 0 ≤ c → c + L.length ≤ 1000000 → L.foldl (fun c x => if x = v then wrap64 (c + 1) else c) c = c + L.count v
  | [], c, _, _ => by simp
  | x :: L, c, h0, h1 => by
    have e : wrap64 (c + 1) = c + 1 := wrap_id (by omega) (by simp at h1; omega)
    rw [List.foldl_cons, List.count_cons]
    by_cases h : x = v
    · rw [if_pos h, e, count_fold v L (c + 1) (by omega) (by simp at h1; omega), h]; simp; omega
    · rw [if_neg h, count_fold v L c h0 (by simp at h1; omega)]; simp [h]
theorem sumsM_fst (P : List (List Int)) (L : List Int) (lab : Int) (d : Nat) (hl : L.length = P.length) (h : P.length ≤ 16) : (sumsM P L lab d).1 = L.count lab := by
  have key : ∀ (l : List Nat) (s : Int × List Int), (l.foldl (fun s i => sumStep P L lab i s) s).1 = l.foldl (fun c i => if L.getD i 0 = lab then wrap64 (c + 1) else c) s.1 := by
    intro l
    induction l with
    | nil => intro s; rfl
    | cons a l ih =>
      intro s
      rw [List.foldl_cons, List.foldl_cons, ih]
      congr 1
      unfold sumStep
      split <;> rfl
  unfold sumsM
  rw [key, ← hl, range_fold L (fun c x => if x = lab then wrap64 (c + 1) else c) 0 0, count_fold lab L 0 (by omega) (by omega)]
  omega
/-- The places of a label. -/
def withL (v : Int) : Nat → List Int → List Int
  | _, [] => []
  | i, x :: xs => if x = v then (i : Int) :: withL v (i + 1) xs else withL v (i + 1) xs
theorem withL_len (v : Int) : ∀ (L : List Int) (i : Nat), (withL v i L).length = L.count v
  | [], _ => rfl
  | x :: xs, i => by
    rw [List.count_cons]
    by_cases h : x = v
    · simp [withL, h, withL_len v xs]
    · simp [withL, h, withL_len v xs]
def meanW (p q : Int) (a b : List Int) : List Int := (List.range a.length).map fun k => wrap64 ((wrap64 ((wrap64 (2 * p)) * q)) * (wrap64 ((wrap64 (q * a.getD k 0)) - (wrap64 (p * b.getD k 0)))))
def biasW (p q : Int) (a b : List Int) : Int := wrap64 ((wrap64 ((wrap64 (q * q)) * dotW a a)) - (wrap64 ((wrap64 (p * p)) * dotW b b)))
def meanOf (p q : Int) (a b : List Int) : List Int × Int × Bool := (meanW p q a b, biasW p q a b, true)
def meanM (P : List (List Int)) (L : List Int) : List Int × Int × Bool :=
  if (sampleB P L && (decide (0 < L.count 1) && decide (0 < L.count (-1)))) = true then meanOf (L.count 1) (L.count (-1)) (sumsM P L 1 (P.getD 0 []).length).2 (sumsM P L (-1) (P.getD 0 []).length).2 else ([], 0, false)
theorem rd_cons (c : Int) (s : List Int) (j : Nat) : rd (c :: s) ((j : Int) + 1) = s.getD j 0 := by
  have e : (j : Int) + 1 = ((j + 1 : Nat) : Int) := by omega
  rw [e, rd_nat]; rfl
def someB (P : List (List Int)) (L : List Int) : Bool := sampleB P L && decide (0 < P.length)
theorem some_tell {P : List (List Int)} {L : List Int} (h : someB P L = true) : sampleB P L = true ∧ 0 < P.length := by
  unfold someB at h
  simpa using h
def sqStep (x y : List Int) (s : Int) (i : Nat) : Int := wrap64 (s + wrap64 (wrap64 (x.getD i 0 - y.getD i 0) * wrap64 (x.getD i 0 - y.getD i 0)))
def sqW (x y : List Int) : Int := (List.range x.length).foldl (sqStep x y) 0
/-- Places in the order of their distances: p is put behind all that are no farther. -/
def insM (d : Int → Int) (p : Int) : List Int → List Int
  | [] => [p]
  | y :: ys => if d y ≤ d p then y :: insM d p ys else p :: y :: ys
def nearM (d : Int → Int) (q : List Int) : List Int := q.foldl (fun out p => insM d p out) []
def dstM (P : List (List Int)) (x : List Int) (i : Int) : Int := sqW (P.getD i.toNat []) x
def before (d : Int → Int) (a b : Int) : Prop := d a < d b ∨ (d a = d b ∧ a < b)
theorem insM_mem (d : Int → Int) (p z : Int) : ∀ l : List Int, z ∈ insM d p l ↔ z = p ∨ z ∈ l
  | [] => by simp [insM]
  | y :: ys => by
    unfold insM
    split
    · rw [List.mem_cons, insM_mem d p z ys, List.mem_cons]; constructor <;> (intro h; rcases h with h | h | h <;> simp [h])
    · simp
theorem insM_len (d : Int → Int) (p : Int) : ∀ l : List Int, (insM d p l).length = l.length + 1
  | [] => rfl
  | y :: ys => by
    unfold insM
    split
    · rw [List.length_cons, insM_len d p ys]; rfl
    · rfl
theorem insM_srt (d : Int → Int) (p : Int) : ∀ l : List Int, l.Pairwise (before d) → (∀ y ∈ l, y < p) → (insM d p l).Pairwise (before d)
  | [], _, _ => by simp [insM]
  | y :: ys, h, hp => by
    have hc := List.pairwise_cons.1 h
    unfold insM
    split
    · next e =>
      refine List.pairwise_cons.2 ⟨fun z hz => ?_, insM_srt d p ys hc.2 (fun z hz => hp z (List.mem_cons_of_mem _ hz))⟩
      rcases (insM_mem d p z ys).1 hz with rfl | hz
      · have := hp y List.mem_cons_self
        unfold before; omega
      · exact hc.1 z hz
    · next e =>
      refine List.pairwise_cons.2 ⟨fun z hz => ?_, h⟩
      rcases List.mem_cons.1 hz with rfl | hz
      · unfold before; omega
      · have := hc.1 z hz
        unfold before at this ⊢; omega
theorem nearM_tell (d : Int → Int) (q : List Int) (h : q.Pairwise (· < ·)) : (nearM d q).Pairwise (before d) ∧ (∀ z, z ∈ nearM d q ↔ z ∈ q) ∧ (nearM d q).length = q.length := by
  have key : ∀ (q out : List Int), q.Pairwise (· < ·) → out.Pairwise (before d) → (∀ y ∈ out, ∀ z ∈ q, y < z) → (q.foldl (fun out p => insM d p out) out).Pairwise (before d) ∧ (∀ z, z ∈ q.foldl (fun out p => insM d p out) out ↔ z ∈ out ∨ z ∈ q) ∧ (q.foldl (fun out p => insM d p out) out).length = out.length + q.length := by
    intro q
    induction q with
    | nil => intro out _ ho _; exact ⟨ho, fun z => by simp, by simp⟩
    | cons p q ih =>
      intro out hq ho hy
      have hc := List.pairwise_cons.1 hq
      rw [List.foldl_cons]
      obtain ⟨h1, h2, h3⟩ := ih (insM d p out) hc.2 (insM_srt d p out ho (fun y hy2 => hy y hy2 p List.mem_cons_self)) (fun y hy2 z hz => by
        rcases (insM_mem d p y out).1 hy2 with rfl | h
        · exact hc.1 z hz
        · exact hy y h z (List.mem_cons_of_mem _ hz))
      refine ⟨h1, fun z => ?_, by rw [h3, insM_len, List.length_cons]; omega⟩
      rw [h2 z, insM_mem, List.mem_cons]
      exact ⟨fun h => h.elim (fun h => h.elim (fun h => .inr (.inl h)) .inl) (fun h => .inr (.inr h)), fun h => h.elim (fun h => .inl (.inr h)) (fun h => h.elim (fun h => .inl (.inl h)) .inr)⟩
  have := key q [] h List.Pairwise.nil (fun _ h => by cases h)
  exact ⟨this.1, fun z => by rw [nearM, this.2.1]; simp, by rw [nearM, this.2.2]; simp⟩
theorem before_ext (d : Int → Int) : ∀ (a b : List Int), a.Pairwise (before d) → b.Pairwise (before d) → (∀ x, x ∈ a ↔ x ∈ b) → a = b
  | [], [], _, _, _ => rfl
  | [], y :: ys, _, _, h => absurd ((h y).2 List.mem_cons_self) (by simp)
  | x :: xs, [], _, _, h => absurd ((h x).1 List.mem_cons_self) (by simp)
  | x :: xs, y :: ys, ha, hb, h => by
    have pa := List.pairwise_cons.1 ha
    have pb := List.pairwise_cons.1 hb
    have irr : ∀ z, ¬ before d z z := fun z => by unfold before; omega
    have e : x = y := by
      rcases List.mem_cons.1 ((h x).1 List.mem_cons_self) with e | e
      · exact e
      · rcases List.mem_cons.1 ((h y).2 List.mem_cons_self) with e2 | e2
        · exact e2.symm
        · have h1 := pb.1 x e
          have h2 := pa.1 y e2
          unfold before at h1 h2; omega
    subst e
    rw [before_ext d xs ys pa.2 pb.2 (fun z => ⟨fun hz => ?_, fun hz => ?_⟩)]
    · rcases List.mem_cons.1 ((h z).1 (List.mem_cons_of_mem _ hz)) with e | e
      · subst e; exact absurd (pa.1 z hz) (irr z)
      · exact e
    · rcases List.mem_cons.1 ((h z).2 (List.mem_cons_of_mem _ hz)) with e | e
      · subst e; exact absurd (pb.1 z hz) (irr z)
      · exact e
theorem rdI_nat (rdx : List (List Int) → Int → List Int) (P : List (List Int)) (h : ∀ i : Nat, rdx P (i : Int) = P.getD i []) {p : Int} (hp : 0 ≤ p) : rdx P p = P.getD p.toNat [] := by
  obtain ⟨m, rfl⟩ : ∃ m : Nat, p = m := ⟨p.toNat, by omega⟩
  rw [h, Int.toNat_natCast]
theorem rdI_zero (rdx : List (List Int) → Int → List Int) (P : List (List Int)) (h : ∀ i : Nat, rdx P (i : Int) = P.getD i []) : rdx P 0 = P.getD 0 [] := h 0
def pointOfB (P : List (List Int)) (L : List Int) (x : List Int) : Bool := someB P L && (pointB x && decide (x.length = (P.getD 0 []).length))
/-- The numbers below n that a list lacks. -/
def leftM (n : Nat) (l : List Int) : List Int := (List.range n).foldl (fun s (i : Nat) => if 0 < l.count (i : Int) then s else s ++ [(i : Int)]) []
theorem leftM_succ (n : Nat) (l : List Int) : leftM (n + 1) l = if 0 < l.count (n : Int) then leftM n l else leftM n l ++ [(n : Int)] := by
  unfold leftM
  rw [List.range_succ, List.foldl_append]; rfl
theorem leftM_mem (l : List Int) (z : Int) : ∀ n : Nat, z ∈ leftM n l ↔ 0 ≤ z ∧ z < n ∧ l.count z = 0
  | 0 => by simp [leftM]; omega
  | n + 1 => by
    rw [leftM_succ]
    by_cases c : 0 < l.count (n : Int)
    · rw [if_pos c, leftM_mem l z n]
      constructor
      · omega
      · rintro ⟨h1, h2, h3⟩
        refine ⟨h1, ?_, h3⟩
        have : z ≠ n := fun e => by rw [e] at h3; omega
        omega
    · rw [if_neg c, List.mem_append, leftM_mem l z n, List.mem_singleton]
      constructor
      · rintro (h | rfl)
        · omega
        · omega
      · rintro ⟨h1, h2, h3⟩
        by_cases e : z = n
        · exact .inr e
        · exact .inl ⟨h1, by omega, h3⟩
theorem leftM_rise (l : List Int) : ∀ n : Nat, (leftM n l).Pairwise (· < ·)
  | 0 => by simp [leftM]
  | n + 1 => by
    rw [leftM_succ]
    by_cases c : 0 < l.count (n : Int)
    · rw [if_pos c]; exact leftM_rise l n
    · rw [if_neg c, List.pairwise_append]
      refine ⟨leftM_rise l n, by simp, fun a ha b hb => ?_⟩
      rw [List.mem_singleton] at hb
      subst hb
      exact ((leftM_mem l a n).1 ha).2.1
theorem leftM_le (l : List Int) : ∀ n : Nat, (leftM n l).length ≤ n
  | 0 => by simp [leftM]
  | n + 1 => by
    have := leftM_le l n
    rw [leftM_succ]
    split <;> simp <;> omega
theorem leftM_all : ∀ n : Nat, (leftM n []).length = n
  | 0 => by simp [leftM]
  | n + 1 => by
    rw [leftM_succ, if_neg (by simp), List.length_append, leftM_all n]; rfl
theorem leftM_one (i : Nat) : ∀ n : Nat, n ≤ (leftM n [(i : Int)]).length + (if i < n then 1 else 0)
  | 0 => by simp
  | n + 1 => by
    have h := leftM_one i n
    rw [leftM_succ]
    by_cases e : i = n
    · subst e
      rw [if_pos (by simp)]
      simp at h ⊢
      omega
    · have c : ¬ 0 < ([(i : Int)] : List Int).count (n : Int) := by
        rw [List.count_cons]; simp; omega
      rw [if_neg c, List.length_append]
      simp only [List.length_cons, List.length_nil]
      by_cases e2 : i < n
      · rw [if_pos e2] at h; rw [if_pos (by omega)]; omega
      · rw [if_neg e2] at h; rw [if_neg (by omega)]; omega
def labelM (P : List (List Int)) (L q x : List Int) (m : Int) : Int := if 0 ≤ sumW (atM L ((nearM (dstM P x) q).take m.toNat)) then 1 else -1
theorem take_fold {σ : Type} (N : List Int) (g : σ → Int → σ) (s : σ) : ∀ mm : Nat, mm ≤ N.length → (List.range mm).foldl (fun s i => g s (N.getD i 0)) s = (N.take mm).foldl g s
  | 0, _ => by simp
  | mm + 1, h => by
    have hl : mm < N.length := by omega
    have e : N.getD mm 0 = N[mm] := by rw [List.getD_eq_getElem?_getD, List.getElem?_eq_getElem hl]; rfl
    rw [List.range_succ, List.foldl_append, take_fold N g s mm (by omega), List.take_succ_eq_append_getElem hl, List.foldl_append, List.foldl_cons, List.foldl_nil, List.foldl_cons, List.foldl_nil, e]
theorem near_len {d : Int → Int} {q : List Int} (hr : q.Pairwise (· < ·)) : (nearM d q).length = q.length := (nearM_tell d q hr).2.2
theorem near_mem {d : Int → Int} {q : List Int} (hr : q.Pairwise (· < ·)) {z : Int} (h : z ∈ nearM d q) : z ∈ q := ((nearM_tell d q hr).2.1 z).1 h
theorem pointOf_tell {P : List (List Int)} {L x : List Int} (h : pointOfB P L x = true) : sampleB P L = true ∧ 0 < P.length ∧ P.length ≤ 16 ∧ x.length = (P.getD 0 []).length := by
  unfold pointOfB at h
  simp only [Bool.and_eq_true, decide_eq_true_eq] at h
  have h2 := some_tell h.1
  have h3 := sample_tell h2.1
  exact ⟨h2.1, h2.2, by have := h3.1; omega, h.2.2⟩
theorem left_valid (n : Nat) (l : List Int) : ∀ i ∈ leftM n l, 0 ≤ i ∧ i < (n : Int) := fun i hi => by
  have := (leftM_mem l i n).1 hi
  omega
theorem left_one_len (n i : Nat) : (n : Int) - 1 ≤ (leftM n [(i : Int)]).length := by
  have := leftM_one i n
  split at this <;> omega
theorem left_nodup (n : Nat) (l : List Int) : (leftM n l).Nodup := (leftM_rise l n).imp (fun h => by omega)
/-- b is the first place of the least number of the first j. -/
def Fst (l : List Int) (j b : Nat) : Prop := b < j ∧ (∀ i, i < j → l.getD b 0 ≤ l.getD i 0) ∧ ∀ i, i < b → l.getD b 0 < l.getD i 0
def riseB (l : List Int) : Bool := (List.range (l.length - 1)).all fun i => decide (l.getD i 0 < l.getD (i + 1) 0)
def setB (l : List Int) (m : Nat) : Bool := riseB l && l.all (inR 0 ((m : Int) - 1))
/-- The least of two numbers, as spec.l1Least tells it. -/
def mnI (a b : Int) : Int := if a < b then a else b
/-- The fewest wrong days of the last e days, beginning with expert i, with some switches left. -/
def swV (S : List (List Int)) (T : List Int) : Nat → Nat → Nat → Int
  | 0, _, _ => 0
  | e + 1, i, left => (if left = 0 then swV S T e i 0 else (List.range S.length).foldl (fun b j => mnI b (swV S T e j (left - 1))) (swV S T e i left)) + (if wrB (S.getD i []) T (T.length - (e + 1)) = true then 1 else 0)
theorem w_succ {d : Nat} (h : d ≤ 1000000) : wrap64 ((d : Int) + 1) = ((d + 1 : Nat) : Int) := by unfold wrap64; omega
theorem w_pred {d : Nat} (h : d ≤ 1000000) (h0 : 0 < d) : wrap64 ((d : Int) - 1) = ((d - 1 : Nat) : Int) := by unfold wrap64; omega
theorem fold_mnI_bd (g : Nat → Int) (e : Int) (hg : ∀ j, 0 ≤ g j ∧ g j ≤ e) : ∀ (l : List Nat) (b : Int), 0 ≤ b ∧ b ≤ e → 0 ≤ l.foldl (fun b j => mnI b (g j)) b ∧ l.foldl (fun b j => mnI b (g j)) b ≤ e
  | [], b, h => h
  | x :: l, b, h => by
    rw [List.foldl_cons]
    refine fold_mnI_bd g e hg l _ ?_
    have := hg x
    unfold mnI; split <;> omega
theorem swV_bd (S : List (List Int)) (T : List Int) : ∀ e i left : Nat, 0 ≤ swV S T e i left ∧ swV S T e i left ≤ e
  | 0, _, _ => by simp [swV]
  | e + 1, i, left => by
    have h1 : 0 ≤ (if left = 0 then swV S T e i 0 else (List.range S.length).foldl (fun b j => mnI b (swV S T e j (left - 1))) (swV S T e i left)) ∧ (if left = 0 then swV S T e i 0 else (List.range S.length).foldl (fun b j => mnI b (swV S T e j (left - 1))) (swV S T e i left)) ≤ e := by
      split
      · exact swV_bd S T e i 0
      · exact fold_mnI_bd (fun j => swV S T e j (left - 1)) e (fun j => swV_bd S T e j (left - 1)) _ _ (swV_bd S T e i left)
    rw [swV]
    split <;> omega
theorem set_fold (g : Nat → Int) : ∀ (N : Nat) (s : List Int), N ≤ s.length → (List.range N).foldl (fun s i => s.set i (g i)) s = (List.range N).map g ++ s.drop N
  | 0, s, _ => by simp
  | N + 1, s, h => by
    rw [List.range_succ, List.foldl_append, List.foldl_cons, List.foldl_nil, set_fold g N s (by omega), List.map_append, List.map_cons, List.map_nil]
    have hd : s.drop N = s[N] :: s.drop (N + 1) := List.drop_eq_getElem_cons (by omega)
    rw [hd, List.set_append_right _ _ (by simp), List.length_map, List.length_range, Nat.sub_self, List.set_cons_zero]
    simp
theorem getD_map (g : Nat → List Int) (N i : Nat) (h : i < N) : ((List.range N).map g).getD i [] = g i := by
  rw [List.getD_eq_getElem?_getD, List.getElem?_map, List.getElem?_range h]; rfl
theorem getD_mapI (g : Nat → Int) (N i : Nat) (h : i < N) : ((List.range N).map g).getD i 0 = g i := by
  rw [List.getD_eq_getElem?_getD, List.getElem?_map, List.getElem?_range h]; rfl
theorem fold_mnI_tell (g : Nat → Int) (b : Int) : ∀ n : Nat, (List.range n).foldl (fun b j => mnI b (g j)) b ≤ b ∧ (∀ i, i < n → (List.range n).foldl (fun b j => mnI b (g j)) b ≤ g i) ∧ ((List.range n).foldl (fun b j => mnI b (g j)) b = b ∨ ∃ i, i < n ∧ (List.range n).foldl (fun b j => mnI b (g j)) b = g i)
  | 0 => by simp
  | n + 1 => by
    obtain ⟨h1, h2, h3⟩ := fold_mnI_tell g b n
    rw [List.range_succ, List.foldl_append, List.foldl_cons, List.foldl_nil]
    generalize (List.range n).foldl (fun b j => mnI b (g j)) b = z at h1 h2 h3
    unfold mnI
    by_cases c : z < g n
    · rw [if_pos c]
      refine ⟨h1, fun i hi => ?_, ?_⟩
      · by_cases e : i = n
        · subst e; omega
        · exact h2 i (by omega)
      · rcases h3 with h3 | ⟨i, hi, h3⟩
        · exact .inl h3
        · exact .inr ⟨i, by omega, h3⟩
    · rw [if_neg c]
      refine ⟨by omega, fun i hi => ?_, .inr ⟨n, by omega, rfl⟩⟩
      by_cases e : i = n
      · subst e; exact Int.le_refl _
      · have := h2 i (by omega); omega
theorem fst_ex (l : List Int) : ∀ n : Nat, 0 < n → ∃ r, Fst l n r
  | 0, h => absurd h (by omega)
  | n + 1, _ => by
    by_cases c : n = 0
    · subst c
      exact ⟨0, by omega, fun i hi => by obtain rfl : i = 0 := (by omega); exact Int.le_refl _, fun i hi => by omega⟩
    · obtain ⟨r, h1, h2, h3⟩ := fst_ex l n (by omega)
      by_cases q : l.getD n 0 < l.getD r 0
      · refine ⟨n, by omega, fun i hi => ?_, fun i hi => ?_⟩
        · by_cases e : i = n
          · subst e; exact Int.le_refl _
          · have := h2 i (by omega); omega
        · have := h2 i hi; omega
      · refine ⟨r, by omega, fun i hi => ?_, h3⟩
        by_cases e : i = n
        · subst e; omega
        · exact h2 i (by omega)
def beginM (g : Nat → Int) (n : Nat) : Int := (List.range (n - 1)).foldl (fun b j => mnI b (g (j + 1))) (g 0)
theorem beginM_tell (g : Nat → Int) (n : Nat) (h : 0 < n) : (∀ i, i < n → beginM g n ≤ g i) ∧ ∃ i, i < n ∧ beginM g n = g i := by
  obtain ⟨h1, h2, h3⟩ := fold_mnI_tell (fun j => g (j + 1)) (g 0) (n - 1)
  refine ⟨fun i hi => ?_, ?_⟩
  · by_cases e : i = 0
    · subst e; exact h1
    · have := h2 (i - 1) (by omega)
      rw [show i - 1 + 1 = i by omega] at this
      exact this
  · rcases h3 with h3 | ⟨i, hi, h3⟩
    · exact ⟨0, h, h3⟩
    · exact ⟨i + 1, by omega, h3⟩
theorem fst_begin (g : Nat → Int) (n r : Nat) (h : 0 < n) (hr : Fst ((List.range n).map g) n r) : ((List.range n).map g).getD r 0 = beginM g n := by
  obtain ⟨b1, i, hi, b2⟩ := beginM_tell g n h
  have h1 := hr.2.1 i hi
  have h2 := b1 r hr.1
  rw [getD_mapI g n r hr.1, getD_mapI g n i hi] at h1
  rw [getD_mapI g n r hr.1]
  omega
def sameB (x y : List Int) : Bool := (List.range x.length).all fun i => x.getD i 0 == y.getD i 0
end Go.Proofs.Ytpknkpbellchgaa.Pm
