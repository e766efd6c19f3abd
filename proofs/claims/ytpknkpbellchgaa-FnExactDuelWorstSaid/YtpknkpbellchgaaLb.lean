/- Plain lemmas about rounds, lists and 64-bit numbers. -/
import Derived.Test.YtpknkpbellchgaaWWords
import Derived.Test.YtpknkpbellchgaaWMore
namespace Go.Proofs.Ytpknkpbellchgaa.Lb
open Go.RowKit Go.Proofs.YtpknkpbellchgaaW.PrintWords Go.Proofs.YtpknkpbellchgaaW.PrintMore

/-- g comes to what h comes to. -/
def To {α : Type} (g h : Nat → Option α) : Prop := ∀ r, Ev h r → Ev g r
theorem To.refl {α : Type} (g : Nat → Option α) : To g g := fun _ h => h
theorem To.trans {α : Type} {g h i : Nat → Option α} (a : To g h) (b : To h i) : To g i := fun r k => a r (b r k)
theorem To.step {α : Type} {g f : Nat → Option α} (h : ∀ k, g (k + 1) = f k) : To g f := fun _ k => Ev.step h k
theorem To.bind {α β : Type} {g : Nat → Option α} {f : Nat → α → Option β} {a : α} (h : Ev g a) : To (fun n => (g n).bind (f n)) (fun n => f n a) := fun _ k => Ev.bind h k
theorem To.congr {α : Type} {g f : Nat → Option α} (h : ∀ k, g k = f k) : To g f := fun _ k => Ev.congr h k
theorem Ev.step' {α : Type} {g f : Nat → Option α} {r : α} (h : ∀ k, g (k + 1) = f k) (k : Ev f r) : Ev g r := Ev.step h k
theorem ev_const {α : Type} {g : Nat → Option α} {r : α} (h : ∀ k, g k = some r) : Ev g r := ⟨0, fun k _ => h k⟩
theorem ev_one {α : Type} {o : Option α} {r : α} (h : o = some r) : Ev (fun _ => o) r := ⟨0, fun _ _ => h⟩
theorem ev_both {α β : Type} {g : Nat → Option α} {h : Nat → Option β} {a : α} {b : β} (x : Ev g a) (y : Ev h b) : ∃ k, g k = some a ∧ h k = some b := by
  obtain ⟨K, x⟩ := x
  obtain ⟨L, y⟩ := y
  exact ⟨max K L, x _ (Nat.le_max_left _ _), y _ (Nat.le_max_right _ _)⟩

theorem getD_mem {α : Type} {xs : List α} {i : Nat} (h : i < xs.length) (d : α) : xs.getD i d ∈ xs := by
  rw [List.getD_eq_getElem?_getD, List.getElem?_eq_getElem h]
  exact List.getElem_mem h

/-- A loop that asks each element, and ends at the first that says no. -/
theorem ev_all {L : Int → Nat → Option Bool} {n : Nat} {p : Nat → Bool} (hT : ∀ i : Nat, i < n → p i = true → To (L i) (L ((i + 1 : Nat) : Int))) (hF : ∀ i : Nat, i < n → p i = false → Ev (L i) false) (hN : Ev (L n) true) : Ev (L 0) ((List.range n).all p) := by
  have key : ∀ d i : Nat, i + d = n → Ev (L i) ((List.range' i d).all p) := by
    intro d
    induction d with
    | zero =>
      intro i hi
      obtain rfl : i = n := by omega
      exact hN
    | succ d ih =>
      intro i hi
      rw [List.range'_succ, List.all_cons]
      cases hp : p i with
      | true => exact hT i (by omega) hp _ (ih (i + 1) (by omega))
      | false => exact hF i (by omega) hp
  have := key n 0 (by omega)
  rw [List.range_eq_range']
  exact this

/-- A loop that goes over all i < n and turns a state. -/
theorem to_fold {α σ : Type} {L : Int → σ → Nat → Option α} {n : Nat} {f : Nat → σ → σ} (Inv : Nat → σ → Prop) (h : ∀ (i : Nat) s, i < n → Inv i s → To (L i s) (L ((i + 1 : Nat) : Int) (f i s)) ∧ Inv (i + 1) (f i s)) (s0 : σ) (h0 : Inv 0 s0) :
    To (L 0 s0) (L n ((List.range n).foldl (fun s i => f i s) s0)) ∧ Inv n ((List.range n).foldl (fun s i => f i s) s0) := by
  have key : ∀ d i : Nat, i + d = n → ∀ s, Inv i s → To (L i s) (L n ((List.range' i d).foldl (fun s i => f i s) s)) ∧ Inv n ((List.range' i d).foldl (fun s i => f i s) s) := by
    intro d
    induction d with
    | zero =>
      intro i hi s hs
      obtain rfl : i = n := by omega
      exact ⟨To.refl _, hs⟩
    | succ d ih =>
      intro i hi s hs
      rw [List.range'_succ, List.foldl_cons]
      obtain ⟨a, b⟩ := h i s (by omega) hs
      obtain ⟨c, e⟩ := ih (i + 1) (by omega) _ b
      exact ⟨a.trans c, e⟩
  rw [List.range_eq_range']
  exact key n 0 (by omega) s0 h0

theorem range_all {α : Type} (xs : List α) (q : α → Bool) (d : α) : ((List.range xs.length).all fun i => q (xs.getD i d)) = xs.all q := by
  rw [Bool.eq_iff_iff, List.all_eq_true, List.all_eq_true]
  constructor
  · intro h x hx
    obtain ⟨i, hi, rfl⟩ := List.mem_iff_getElem.1 hx
    have := h i (List.mem_range.2 hi)
    rwa [List.getD_eq_getElem?_getD, List.getElem?_eq_getElem hi] at this
  · intro h i hi
    have hi := List.mem_range.1 hi
    rw [List.getD_eq_getElem?_getD, List.getElem?_eq_getElem hi]
    exact h _ (List.getElem_mem hi)

theorem range_fold {α σ : Type} (xs : List α) (g : σ → α → σ) (d : α) (s : σ) : (List.range xs.length).foldl (fun s i => g s (xs.getD i d)) s = xs.foldl g s := by
  have : xs = (List.range xs.length).map (fun i => xs.getD i d) := by
    apply List.ext_getElem?
    intro i
    by_cases hi : i < xs.length
    · simp [hi]
    · simp [hi]
  conv => rhs; rw [this, List.foldl_map]

theorem range_map {α β : Type} (xs : List α) (g : α → β) (d : α) : (List.range xs.length).map (fun i => g (xs.getD i d)) = xs.map g := by
  apply List.ext_getElem?
  intro i
  by_cases hi : i < xs.length
  · simp [hi]
  · simp [hi]

theorem fold_append {α : Type} (n : Nat) (g : Nat → α) (s : List α) : (List.range n).foldl (fun s i => s ++ [g i]) s = s ++ (List.range n).map g := by
  induction n with
  | zero => simp
  | succ n ih => rw [List.range_succ, List.foldl_append, ih]; simp

theorem wrap_id {x : Int} (h0 : -9223372036854775808 ≤ x) (h1 : x ≤ 9223372036854775807) : wrap64 x = x := by unfold wrap64; omega
theorem wrap_succ {i n : Nat} (h : i < n) (hn : n ≤ 9223372036854775807) : wrap64 ((i : Int) + 1) = ((i + 1 : Nat) : Int) := by unfold wrap64; omega
theorem rd_nat (xs : List Int) (i : Nat) : rd xs (i : Int) = xs.getD i 0 := by simp [rd]

theorem ev_yes {α : Type} {L : Int → Nat → Option α} {n : Nat} {r : α} (hT : ∀ i : Nat, i < n → To (L i) (L ((i + 1 : Nat) : Int))) (hN : Ev (L n) r) : Ev (L 0) r := by
  have key : ∀ d i : Nat, i + d = n → Ev (L i) r := by
    intro d
    induction d with
    | zero =>
      intro i hi
      obtain rfl : i = n := by omega
      exact hN
    | succ d ih => intro i hi; exact hT i (by omega) _ (ih (i + 1) (by omega))
  exact key n 0 (by omega)

theorem set_step {α : Type} (l : List α) (z d : α) (i : Nat) (h : i < l.length) : (l.take i ++ List.replicate (l.length - i) z).set i (l.getD i d) = l.take (i + 1) ++ List.replicate (l.length - (i + 1)) z := by
  have hi : (l.take i).length = i := by rw [List.length_take]; omega
  rw [List.set_append_right _ _ (by omega), hi, Nat.sub_self]
  obtain ⟨m, hm⟩ : ∃ m, l.length - i = m + 1 := ⟨l.length - i - 1, by omega⟩
  rw [hm, List.replicate_succ, List.set_cons_zero, List.getD_eq_getElem?_getD, List.getElem?_eq_getElem h, show l.length - (i + 1) = m by omega, Option.getD_some]
  have e := List.take_succ_eq_append_getElem h
  rw [e, List.append_assoc]; rfl

/-- What is left of a when n are taken: -1 if they are too many. -/
def lft (a : Int) (n : Nat) : Int := if (n : Int) ≤ a then a - n else -1
theorem lft_add (a : Int) (m n : Nat) (_ha : 0 ≤ a) : (if lft a m < 0 then -1 else lft (lft a m) n) = lft a (m + n) := by
  unfold lft
  by_cases h : (m : Int) ≤ a
  · rw [if_pos h, if_neg (by omega)]
    by_cases h2 : (n : Int) ≤ a - m
    · rw [if_pos h2, if_pos (by omega)]; omega
    · rw [if_neg h2, if_neg (by omega)]
  · rw [if_neg h, if_pos (by omega), if_neg (by omega)]
theorem lft_zero (a : Int) (ha : 0 ≤ a) : lft a 0 = a := by unfold lft; rw [if_pos (by omega)]; omega
theorem lft_le (a : Int) (n : Nat) (ha : 0 ≤ a) : lft a n ≤ a ∧ -1 ≤ lft a n := by unfold lft; split <;> omega
theorem lft_nonneg {a : Int} {n : Nat} (h : 0 ≤ lft a n) : (n : Int) ≤ a ∧ lft a n = a - n := by
  unfold lft at h ⊢
  by_cases c : (n : Int) ≤ a
  · rw [if_pos c]; exact ⟨c, rfl⟩
  · rw [if_neg c] at h; omega
theorem lft_neg {a : Int} {n : Nat} (h : lft a n < 0) : lft a n = -1 := by
  unfold lft at h ⊢
  by_cases c : (n : Int) ≤ a
  · rw [if_pos c] at h; omega
  · rw [if_neg c]
/-- The sum of what g tells of all elements. -/
def sumN {α : Type} (g : α → Nat) : List α → Nat
  | [] => 0
  | x :: xs => g x + sumN g xs
theorem sumN_mem {α : Type} (g : α → Nat) : ∀ {xs : List α} {x : α}, x ∈ xs → g x ≤ sumN g xs
  | y :: ys, x, h => by
    rcases List.mem_cons.1 h with rfl | h
    · simp only [sumN]; omega
    · have := sumN_mem g h; simp only [sumN]; omega
/-- A loop that takes what each element weighs off what is left. -/
theorem ev_sz {α : Type} (d : α) (g : α → Nat) (xs : List α) {L : Int → Int → Nat → Option Int} (hS : ∀ (i : Nat) (a : Int), i < xs.length → 0 ≤ a → a ≤ 1048576 → 0 ≤ lft a (g (xs.getD i d)) → To (L a i) (L (lft a (g (xs.getD i d))) ((i + 1 : Nat) : Int)))
    (hF : ∀ (i : Nat) (a : Int), i < xs.length → 0 ≤ a → a ≤ 1048576 → lft a (g (xs.getD i d)) < 0 → Ev (L a i) (-1)) (hN : ∀ a, Ev (L a xs.length) a) (a : Int) (h0 : 0 ≤ a) (h1 : a ≤ 1048576) : Ev (L a 0) (lft a (sumN g xs)) := by
  have key : ∀ (ys : List α) (i : Nat) (a : Int), xs.drop i = ys → i + ys.length = xs.length → 0 ≤ a → a ≤ 1048576 → Ev (L a i) (lft a (sumN g ys)) := by
    intro ys
    induction ys with
    | nil =>
      intro i a hd hl h0 h1
      simp only [sumN, lft_zero a h0]
      have : i = xs.length := by simpa using hl
      rw [this]
      exact hN a
    | cons y ys ih =>
      intro i a hd hl h0 h1
      have hi : i < xs.length := by simp at hl; omega
      have hy : xs.getD i d = y := by
        rw [List.getD_eq_getElem?_getD, ← List.head?_drop, hd]; rfl
      simp only [sumN]
      rw [← lft_add a _ _ h0]
      by_cases hn : lft a (g y) < 0
      · rw [if_pos hn]
        exact hF i a hi h0 h1 (by rw [hy]; exact hn)
      · rw [if_neg hn]
        have hle := lft_le a (g y) h0
        have := ih (i + 1) (lft a (g y)) (by rw [← List.drop_drop, hd]; rfl) (by simp at hl ⊢; omega) (by omega) (by omega)
        have st := hS i a hi h0 h1 (by rw [hy]; omega)
        rw [hy] at st
        exact st _ this
  exact key xs 0 a rfl (by simp) h0 h1

/-- A loop over a list: M tells what it comes to from element i on. -/
theorem ev_list {α σ ρ : Type} (d0 : α) (xs : List α) (L : Int → σ → Nat → Option ρ) (M : Nat → List α → σ → ρ) (Inv : Nat → σ → Prop) (hN : ∀ s, Inv xs.length s → Ev (L xs.length s) (M xs.length [] s))
    (hS : ∀ (i : Nat) (x : α) (ys : List α) (s : σ), i < xs.length → xs.getD i d0 = x → x ∈ xs → Inv i s → (∀ s', Inv (i + 1) s' → Ev (L ((i + 1 : Nat) : Int) s') (M (i + 1) ys s')) → Ev (L i s) (M i (x :: ys) s)) :
    ∀ s, Inv 0 s → Ev (L 0 s) (M 0 xs s) := by
  have key : ∀ (ys : List α) (i : Nat), xs.drop i = ys → i + ys.length = xs.length → ∀ s, Inv i s → Ev (L i s) (M i ys s) := by
    intro ys
    induction ys with
    | nil =>
      intro i hd hl s hs
      obtain rfl : i = xs.length := by simpa using hl
      exact hN s hs
    | cons y ys ih =>
      intro i hd hl s hs
      have hi : i < xs.length := by simp at hl; omega
      have hy : xs.getD i d0 = y := by rw [List.getD_eq_getElem?_getD, ← List.head?_drop, hd]; rfl
      refine hS i y ys s hi hy (hy ▸ getD_mem hi d0) hs (fun s' hs' => ih (i + 1) ?_ (by simp at hl ⊢; omega) s' hs')
      rw [← List.drop_drop, hd]; rfl
  intro s hs
  exact key xs 0 rfl (by simp) s hs
/-- The same, for all i < n. -/
theorem ev_range {σ ρ : Type} (n : Nat) (L : Int → σ → Nat → Option ρ) (M : Nat → Nat → σ → ρ) (Inv : Nat → σ → Prop) (hN : ∀ s, Inv n s → Ev (L n s) (M n 0 s))
    (hS : ∀ (i d : Nat) (s : σ), i < n → i + d + 1 = n → Inv i s → (∀ s', Inv (i + 1) s' → Ev (L ((i + 1 : Nat) : Int) s') (M (i + 1) d s')) → Ev (L i s) (M i (d + 1) s)) :
    ∀ s, Inv 0 s → Ev (L 0 s) (M 0 n s) := by
  have key : ∀ (d i : Nat), i + d = n → ∀ s, Inv i s → Ev (L i s) (M i d s) := by
    intro d
    induction d with
    | zero =>
      intro i hd s hs
      obtain rfl : i = n := by omega
      exact hN s hs
    | succ d ih => intro i hd s hs; exact hS i d s (by omega) (by omega) hs (fun s' hs' => ih (i + 1) (by omega) s' hs')
  intro s hs
  exact key n 0 (by omega) s hs
/-- Marks: each element is written over; the mark goes on by what the element weighs. -/
def markL {α : Type} (wt : α → Nat) (g : Int → α → α) : Int → List α → List α
  | _, [] => []
  | a, x :: xs => g a x :: markL wt g (a + wt x) xs
theorem markL_len {α : Type} (wt : α → Nat) (g : Int → α → α) : ∀ (xs : List α) (a : Int), (markL wt g a xs).length = xs.length
  | [], _ => rfl
  | x :: xs, a => by simp only [markL, List.length_cons, markL_len wt g xs]
theorem markL_mem {α : Type} (wt : α → Nat) (g : Int → α → α) : ∀ (xs : List α) (a : Int) (y : α), y ∈ markL wt g a xs → ∃ b, ∃ x ∈ xs, y = g b x
  | [], _, y, h => by simp [markL] at h
  | x :: xs, a, y, h => by
    simp only [markL, List.mem_cons] at h
    rcases h with h | h
    · exact ⟨a, x, List.mem_cons_self, h⟩
    · obtain ⟨b, z, hz, e⟩ := markL_mem wt g xs _ y h
      exact ⟨b, z, List.mem_cons_of_mem _ hz, e⟩
theorem getD_mid {α : Type} (pre : List α) (x : α) (rest : List α) (d : α) : (pre ++ x :: rest).getD pre.length d = x := by
  rw [List.getD_eq_getElem?_getD, List.getElem?_append_right (Nat.le_refl _)]; simp
theorem set_mid {α : Type} (pre : List α) (x v : α) (rest : List α) : (pre ++ x :: rest).set pre.length v = (pre ++ [v]) ++ rest := by
  rw [List.set_append_right _ _ (Nat.le_refl _), Nat.sub_self, List.set_cons_zero, List.append_assoc]; rfl
theorem ev_mark {α : Type} (d : α) (wt : α → Nat) (g : Int → α → α) (xs : List α) (B : Int) {L : List α → Int → Int → Nat → Option (Int × List α)}
    (hS : ∀ (ys : List α) (a : Int) (i : Nat) (x : α), i < xs.length → ys.length = xs.length → ys.getD i d = x → x ∈ xs → 0 ≤ a → a + wt x ≤ B → To (L ys a i) (L (ys.set i (g a x)) (a + wt x) ((i + 1 : Nat) : Int)))
    (hN : ∀ (ys : List α) (a : Int), ys.length = xs.length → Ev (L ys a xs.length) (a, ys)) (a : Int) (h0 : 0 ≤ a) (h1 : a + sumN wt xs ≤ B) : Ev (L xs a 0) (a + sumN wt xs, markL wt g a xs) := by
  have key : ∀ (rest pre : List α) (a : Int), pre.length + rest.length = xs.length → (∀ x ∈ rest, x ∈ xs) → 0 ≤ a → a + sumN wt rest ≤ B → Ev (L (pre ++ rest) a pre.length) (a + sumN wt rest, pre ++ markL wt g a rest) := by
    intro rest
    induction rest with
    | nil =>
      intro pre a hl hm h0 h1
      have e : pre.length = xs.length := by simpa using hl
      simp only [sumN, markL, List.append_nil]
      rw [e]
      have := hN pre a e
      simpa using this
    | cons x rest ih =>
      intro pre a hl hm h0 h1
      simp only [sumN, List.length_cons] at h1 hl
      have t := hS (pre ++ x :: rest) a pre.length x (by omega) (by simp; omega) (getD_mid pre x rest d) (hm x List.mem_cons_self) h0 (by omega)
      refine t _ ?_
      rw [set_mid]
      have r := ih (pre ++ [g a x]) (a + wt x) (by simp; omega) (fun y hy => hm y (List.mem_cons_of_mem _ hy)) (by omega) (by omega)
      have e1 : (a + (wt x : Int)) + (sumN wt rest : Int) = a + (sumN wt (x :: rest) : Nat) := by simp only [sumN]; omega
      rw [e1] at r
      simpa [markL] using r
  simpa using key xs [] a (by simp) (fun _ h => h) h0 h1
theorem ev_held {α : Type} (d : α) (wt : α → Nat) (g : Int → α → α) (xs : List α) (B : Int) {L : Int → Int → Nat → Option Int} (a0 : Int)
    (hS : ∀ (a : Int) (i : Nat) (x : α), i < xs.length → (markL wt g a0 xs).getD i d = g a x → x ∈ xs → 0 ≤ a → a + wt x ≤ B → To (L a i) (L (a + wt x) ((i + 1 : Nat) : Int)))
    (hN : ∀ (a : Int), Ev (L a xs.length) a) (h0 : 0 ≤ a0) (h1 : a0 + sumN wt xs ≤ B) : Ev (L a0 0) (a0 + sumN wt xs) := by
  have key : ∀ (rest : List α) (pre : List α) (a : Int), markL wt g a0 xs = pre ++ markL wt g a rest → pre.length + rest.length = xs.length → (∀ x ∈ rest, x ∈ xs) → 0 ≤ a → a + sumN wt rest ≤ B → Ev (L a pre.length) (a + sumN wt rest) := by
    intro rest
    induction rest with
    | nil =>
      intro pre a hz hl hm h0 h1
      have e : pre.length = xs.length := by simpa using hl
      simp only [sumN]
      rw [e]
      simpa using hN a
    | cons x rest ih =>
      intro pre a hz hl hm h0 h1
      simp only [sumN, List.length_cons] at h1 hl
      have t := hS a pre.length x (by omega) (by rw [hz]; exact getD_mid pre (g a x) _ d) (hm x List.mem_cons_self) h0 (by omega)
      refine t _ ?_
      have r := ih (pre ++ [g a x]) (a + wt x) (by rw [hz]; simp [markL]) (by simp; omega) (fun y hy => hm y (List.mem_cons_of_mem _ hy)) (by omega) (by omega)
      have e1 : (a + (wt x : Int)) + (sumN wt rest : Int) = a + (sumN wt (x :: rest) : Nat) := by simp only [sumN]; omega
      rw [e1] at r
      simpa using r
  simpa using key xs [] a0 rfl (by simp) (fun _ h => h) h0 h1
theorem sumN_one {α : Type} : ∀ xs : List α, sumN (fun _ => 1) xs = xs.length
  | [] => rfl
  | _ :: xs => by simp only [sumN, sumN_one xs, List.length_cons]; omega
/-- a, a + 1, .. as many as the list has. -/
def iota (a : Int) (l : List Int) : List Int := markL (fun _ => 1) (fun a _ => a) a l
theorem iota_len (a : Int) (l : List Int) : (iota a l).length = l.length := markL_len _ _ _ _
/-- The same over rows. -/
def iota2 (a : Int) (P : List (List Int)) : List (List Int) := markL List.length iota a P
theorem map_const {α : Type} (a : α) (n : Nat) : (List.range n).map (fun _ => a) = List.replicate n a := by
  apply List.ext_getElem <;> simp
theorem ev_eq {α : Type} {g : Nat → Option α} {a b : α} (h : Ev g a) (e : a = b) : Ev g b := e ▸ h
/-- The product of two lists, as it is reckoned. -/
def dotW (a b : List Int) : Int := (List.range a.length).foldl (fun s i => wrap64 (s + wrap64 (a.getD i 0 * b.getD i 0))) 0

/-- A number between two others. -/
def inR (a b x : Int) : Bool := decide (a ≤ x) && decide (x ≤ b)
theorem inR_iff (a b x : Int) : inR a b x = true ↔ a ≤ x ∧ x ≤ b := by simp [inR]
theorem in_tells (a b x : Int) : (if x ≥ a then (some (decide (x ≤ b))) else (some false)) = some (inR a b x) := by
  unfold inR
  by_cases h : a ≤ x
  · rw [if_pos h]; simp [h]
  · rw [if_neg h]; simp [h]
/-- The sum of a list. -/
def sumZ (xs : List Int) : Int := xs.foldl (· + ·) 0
end Go.Proofs.Ytpknkpbellchgaa.Lb
