/- Rows of rows that lie apart, sorted and made compact in place by the library's own texts: the same rows in another order, some of them dropped. -/
import Derived.Test.YtfkfahdikmfpeaaDoorSrt
import Derived.Test.YtfkfahdikmfpeaaDoorCpf
import Derived.Test.YtfkfahdikmfpeaaDoorWApart
import Derived.Test.YtfkfahdikmfpeaaDoorWKept
import Derived.Lib.OwnBridge
namespace Go.Proofs.YtfkfahdikmfpeaaDoor.Rs
open Go Go.Proofs Go.Proofs.YtfkfahdikmfpeaaDoorW.PrintWords Go.RowKit Go.Sort
variable {β : Type}
/-- A header beside what its row holds. -/
structure T (R : β → List Value → Prop) : Type where
  enc : Value
  con : β
  fits : R con [enc]
  one : enc.oneCell' = true
def enc {R : β → List Value → Prop} (p : T R) : Value := p.enc
def con {R : β → List Value → Prop} (p : T R) : β := p.con
theorem one {R : β → List Value → Prop} : OneCell (enc (R := R)) := fun p => p.one
theorem lift {R : β → List Value → Prop} (h1 : ∀ y c, R y c → ∀ u ∈ c, u.oneCell' = true) {ys : List β} {inner : List Value} (h : Reps R 1 ys inner) : ∃ L : List (T R), L.map enc = inner ∧ L.map con = ys := by
  have hl : inner.length = ys.length := by have := h.1; omega
  have key : ∀ (i : Nat) (hi : i < ys.length), R ys[i] [inner[i]'(by omega)] := by
    intro i hi
    have e : R ys[i] ((inner.drop (i * 1)).take 1) := h.2 i ys[i] (List.getElem?_eq_getElem hi)
    rw [Nat.mul_one, List.drop_eq_getElem_cons (show i < inner.length by omega)] at e
    exact e
  have hz : ∀ p : Nat × Nat, True := fun _ => trivial
  clear hz
  obtain ⟨L, hL⟩ : ∃ L : List (T R), L = List.ofFn (n := ys.length) fun i => ⟨inner[i.1]'(by have := i.2; omega), ys[i.1], key i.1 i.2, h1 _ _ (key i.1 i.2) _ (List.mem_singleton.2 rfl)⟩ := ⟨_, rfl⟩
  have hlen : L.length = ys.length := by rw [hL, List.length_ofFn]
  refine ⟨L, List.ext_getElem (by rw [List.length_map]; omega) fun i h1 h2 => ?_, List.ext_getElem (by rw [List.length_map]; omega) fun i h1 h2 => ?_⟩
  · rw [List.getElem_map]
    subst hL
    rw [List.getElem_ofFn]
    rfl
  · rw [List.getElem_map]
    subst hL
    rw [List.getElem_ofFn]
    rfl
theorem lower {R : β → List Value → Prop} (L : List (T R)) : Reps R 1 (L.map con) (L.map enc) := by
  refine ⟨by simp, fun j p hp => ?_⟩
  rw [List.getElem?_map] at hp
  obtain ⟨q, hq, rfl⟩ := Option.map_eq_some_iff.1 hp
  obtain ⟨hj, rfl⟩ := List.getElem?_eq_some_iff.1 hq
  rw [Nat.mul_one, ← List.map_drop, List.drop_eq_getElem_cons hj]
  exact L[j].fits
theorem map_con {γ : Type} {R : β → List Value → Prop} (h : β → γ) (L : List (T R)) : (L.map fun p => h (con p)) = (L.map con).map h := by
  rw [List.map_map]
  rfl
theorem grownBy {α : Type} [Inhabited α] {e : α → Value} {w : World} {g n : Nat} {os : Array Obj} (d : Array α) : w.grownBy (grow (putRow e (Sort.ahead w n) g 0 d) os) (some g) := by
  refine ⟨rfl, rfl, rfl, by simp, fun k hk hne => ?_⟩
  rw [heap_grow_old _ _ (by simpa using hk)]
  have : g ≠ k := fun e => hne (by rw [e])
  simp [putRow, mapBlock, Sort.ahead, Array.getElem?_modify, this]
theorem owns_grow {w : World} {base n : Nat} {e : TypeId} {v : Value} {zs : List Value} (h : w.ownsRow base e 1 v n zs) (os : Array Obj) : (grow w os).ownsRow base e 1 v n zs := by
  refine ⟨h.1, ?_⟩
  rcases h.2 with h2 | ⟨g, cap, cur, hv, hb, hg, h3⟩
  · exact .inl h2
  · exact .inr ⟨g, cap, cur, hv, hb, by rw [heap_grow_old _ _ (Array.getElem?_eq_some_iff.1 hg).1]; exact hg, h3⟩
/-- The rows of an S row, one by one, beside their marks; and back. -/
abbrev RR (w : World) (base : Nat) (ok : Nat → Prop) (f : Nat → Nat) : List Int × Nat → List Value → Prop := (Kd.tag f (Kd.slice 3 (Kd.int .i64))).M w base ok
theorem opens {w : World} {base : Nat} {ok : Nat → Prop} {v : Value} {xs : List (List Int)} (h : Kd.S (Kd.slice 3 (Kd.int .i64)) 32 w base ok v xs) (hne : xs ≠ []) :
    ∃ (f : Nat → Nat) (g cap : Nat) (L : List (T (RR w base (fun k => ok k ∧ some k ≠ some g) f))), v = .slice (some ⟨g, 0, none⟩) xs.length cap ∧ ok g ∧ w.ownsRow base 32 1 v xs.length (L.map enc) ∧ L.map con = xs.zipIdx ∧ L.length = xs.length := by
  obtain ⟨f, h0, inner, ho, hr⟩ := h
  rw [List.length_zipIdx] at ho
  have ho2 := ho.2
  rcases ho2 with ⟨_, hn⟩ | ⟨g, cap, cur, hv, _⟩
  · exact absurd (List.length_eq_zero_iff.1 hn) hne
  · subst hv
    obtain ⟨L, e1, e2⟩ := lift (R := RR w base (fun k => ok k ∧ some k ≠ some g) f) (fun y c hM => (Kd.tag f (Kd.slice 3 (Kd.int .i64))).K_one ((Kd.tag f (Kd.slice 3 (Kd.int .i64))).K_of_M hM)) hr
    refine ⟨f, g, cap, L, rfl, h0 g rfl, ?_, e2, ?_⟩
    · rw [e1]; exact ho
    · have := congrArg List.length e2
      rwa [List.length_map, List.length_zipIdx] at this
theorem closes {w w1 : World} {base : Nat} {ok : Nat → Prop} {f : Nat → Nat} {g cap m : Nat} (L : List (T (RR w base (fun k => ok k ∧ some k ≠ some g) f))) (hg : ok g) (hown : w1.ownsRow base 32 1 (.slice (some ⟨g, 0, none⟩) m cap) m (L.map enc)) (hm : L.length = m)
    (hnd : (L.map fun p => (con p).2).Nodup) (hgr : w.grownBy w1 (some g)) : Kd.S (Kd.slice 3 (Kd.int .i64)) 32 w1 base ok (.slice (some ⟨g, 0, none⟩) m cap) (L.map fun p => (con p).1) := by
  refine ⟨fun k => (L.map fun p => (con p).2).idxOf (f k), fun k hk => by injection hk with hk; subst hk; exact hg, L.map enc, ?_, ?_⟩
  · rw [List.length_zipIdx, List.length_map, hm]; exact hown
  · refine ⟨by simp [Kd.tag, Kd.slice], fun j p hp => ?_⟩
    have hj : j < L.length := by
      have := List.getElem?_eq_some_iff.1 hp
      obtain ⟨h1, _⟩ := this
      simpa using h1
    have e : p = ((con L[j]).1, j) := by
      rw [List.getElem?_zipIdx, List.getElem?_map, List.getElem?_eq_getElem hj] at hp
      simpa using hp.symm
    subst e
    rw [show ((Kd.tag (fun k => (L.map fun p => (con p).2).idxOf (f k)) (Kd.slice 3 (Kd.int .i64)))).sz = 1 from rfl, Nat.mul_one, ← List.map_drop, List.drop_eq_getElem_cons hj]
    have hM := L[j].fits
    refine (Kd.slice 3 (Kd.int .i64)).M_mono (ok := fun k => (ok k ∧ some k ≠ some g) ∧ f k = (con L[j]).2) (fun k hk => ⟨⟨hk.1.1, hk.1.2⟩, ?_⟩) ?_
    · show (L.map fun p => (con p).2).idxOf (f k) = j
      rw [hk.2]
      have := List.Nodup.idxOf_getElem hnd j (by simpa using hj)
      rwa [List.getElem_map] at this
    · obtain ⟨u, hu, hR⟩ := hM
      exact ⟨u, hu, Kd.R_grown hR hgr (fun k hk => hk.1.2)⟩
/-- What a row's header reads as, in a world that has turned but the row of headers. -/
theorem reads {w w1 : World} {base : Nat} {ok : Nat → Prop} {f : Nat → Nat} {g : Nat} (p : T (RR w base (fun k => ok k ∧ some k ≠ some g) f)) (hgr : w.grownBy w1 (some g)) : ∃ A c, enc p = .slice A (con p).1.length c ∧ (con p).1.length ≤ c ∧ Kd.C (Kd.int .i64) w1 A (con p).1.length (con p).1 := by
  obtain ⟨u, hu, hR⟩ := p.fits
  have hR1 := Kd.R_grown hR hgr (fun k hk => hk.1.2)
  obtain ⟨A, c, e, hl, hC⟩ := Kd.R_reads hR1
  refine ⟨A, c, ?_, hl, hC⟩
  have : p.enc = u := by simpa using hu
  exact this.trans e
theorem sortS (cf : List Int → List Int → Int) (Q : List Int → Prop) (h1 : ∀ x, Q x → ¬ cf x x < 0) (h2 : ∀ x y z, Q x → Q y → Q z → cf x y < 0 → cf y z < 0 → cf x z < 0) (h3 : ∀ x y z, Q x → Q y → Q z → ¬ cf x y < 0 → ¬ cf y z < 0 → ¬ cf x z < 0)
    (g : Nat) (eg : ∀ args w, (callFunc g args).run Tryd.prog w = .ok (.enter g args) w)
    (hg : ∀ (W : World) (A : Option Addr) (c : Nat) (l : List Int) (A' : Option Addr) (c' : Nat) (l' : List Int), Q l → Q l' → Kd.C (Kd.int .i64) W A l.length l → l.length ≤ c → Kd.C (Kd.int .i64) W A' l'.length l' → l'.length ≤ c' → Calls Tryd.prog g #[.slice A l.length c, .slice A' l'.length c'] W fun e w' => e = .returned (.int .i64 (cf l l')) ∧ Drawn0 W w')
    {w : World} {base : Nat} {ok : Nat → Prop} {v : Value} {xs : List (List Int)} (h : Kd.S (Kd.slice 3 (Kd.int .i64)) 32 w base ok v xs) (hne : xs ≠ []) (hQ : ∀ x ∈ xs, Q x) (hsz : xs.length < 4611686018427387904) :
    Calls Tryd.prog 22 #[v, .func (.func g) #[] #[]] w fun e w' => e = .returned (.tuple #[]) ∧ ∃ ys, ys.Perm xs ∧ ys.Pairwise (fun a b => ¬ cf b a < 0) ∧ Kd.S (Kd.slice 3 (Kd.int .i64)) 32 w' base ok v ys ∧ ∃ row, v.ownBlock = some row ∧ w.grownBy w' (some row) := by
  obtain ⟨f, b, cap, L0, rfl, hb, hown, hcon, hlen⟩ := opens h hne
  -- the rows that are told to be of Q
  obtain ⟨R, hR⟩ : ∃ R : List Int × Nat → List Value → Prop, R = fun y c => RR w base (fun k => ok k ∧ some k ≠ some b) f y c ∧ Q y.1 := ⟨_, rfl⟩
  have hRe : ∀ y c, R y c → RR w base (fun k => ok k ∧ some k ≠ some b) f y c ∧ Q y.1 := fun y c h => by rwa [hR] at h
  have hLQ : ∀ p ∈ L0, Q (con p).1 := by
    intro p hp
    have : con p ∈ xs.zipIdx := by rw [← hcon]; exact List.mem_map_of_mem hp
    exact hQ _ (List.fst_mem_of_mem_zipIdx this)
  obtain ⟨L, hL1, hL2⟩ : ∃ L : List (T R), L.map enc = L0.map enc ∧ L.map con = xs.zipIdx := by
    refine ⟨L0.attach.map fun p => ⟨p.1.enc, p.1.con, by rw [hR]; exact ⟨p.1.fits, hLQ p.1 p.2⟩, p.1.one⟩, ?_, ?_⟩
    · rw [List.map_map]
      exact List.attach_map_val (l := L0) (f := enc)
    · rw [List.map_map, ← hcon]
      exact List.attach_map_val (l := L0) (f := con)
  have toRR : ∀ L' : List (T R), ∃ L'' : List (T (RR w base (fun k => ok k ∧ some k ≠ some b) f)), L''.map enc = L'.map enc ∧ L''.map con = L'.map con := by
    intro L'
    refine ⟨L'.map fun p => ⟨p.enc, p.con, (hRe _ _ p.fits).1, p.one⟩, ?_, ?_⟩
    · rw [List.map_map]; rfl
    · rw [List.map_map]; rfl
  have hQ' : ∀ p : T R, Q (con p).1 := fun p => (hRe _ _ p.fits).2
  have hlen2 : L.length = xs.length := by have := congrArg List.length hL2; simpa using this
  cases L with
  | nil => exact absurd (List.eq_nil_of_length_eq_zero (by simpa using hlen2.symm)) hne
  | cons a0 L' =>
    haveI : Inhabited (T R) := ⟨a0⟩
    rw [← hL1] at hown
    generalize hLL : a0 :: L' = LL at *
    have hH : Holds enc w b 0 LL.toArray := by
      obtain ⟨g1, cap1, e1, _, _, _, _, _, hH⟩ := Go.Lib.holds_of_ownsRow hown (by simp)
      injection e1 with e1 _ _
      injection e1 with e1
      injection e1 with e1
      subst e1
      exact hH
    have hblk : b < w.heap.size := by
      rcases hown.2 with ⟨e1, _⟩ | ⟨g1, cap1, cur, e1, _, hgb, _⟩
      · cases e1
      · injection e1 with e1 _ _
        injection e1 with e1
        injection e1 with e1
        subst e1
        exact (Array.getElem?_eq_some_iff.1 hgb).1
    have hO : SWO (ltOf fun p q : T R => cf (con p).1 (con q).1) := by
      refine ⟨fun x => ?_, fun x y z => ?_, fun x y z => ?_⟩
      · exact decide_eq_false (h1 _ (hQ' x))
      · intro hx hy
        exact decide_eq_true (h2 _ _ _ (hQ' x) (hQ' y) (hQ' z) (of_decide_eq_true hx) (of_decide_eq_true hy))
      · intro hx hy
        exact decide_eq_false (h3 _ _ _ (hQ' x) (hQ' y) (hQ' z) (of_decide_eq_false hx) (of_decide_eq_false hy))
    have hsize : LL.toArray.size = xs.length := by simpa using hlen2
    have hcmp : CmpLays1 Tryd.prog g #[] enc (fun p q : T R => cf (con p).1 (con q).1) b 0 LL.toArray.size w := by
      intro m os dk hs x y
      have hgr : w.grownBy (sortWorld enc w b 0 m dk os) (some b) := grownBy dk
      obtain ⟨Lx, hx1, hx2⟩ := toRR [x, y]
      obtain ⟨px, py, rfl⟩ : ∃ px py, Lx = [px, py] := by
        have := congrArg List.length hx1
        match Lx, this with
        | [p, q], _ => exact ⟨p, q, rfl⟩
      simp only [List.map_cons, List.map_nil, List.cons.injEq, and_true] at hx1 hx2
      obtain ⟨A, c, ex, hl, hC⟩ := reads px hgr
      obtain ⟨A', c', ey, hl', hC'⟩ := reads py hgr
      rw [hx1.1, hx2.1] at ex
      rw [hx2.1] at hl hC
      rw [hx1.2, hx2.2] at ey
      rw [hx2.2] at hl' hC'
      rw [ex, ey]
      refine (hg _ A c _ A' c' _ (hQ' x) (hQ' y) hC hl hC' hl').mono ?_
      rintro e w' ⟨rfl, ⟨q, rfl⟩⟩
      exact ⟨rfl, q, #[], by rw [grow_empty]⟩
    have hcall := Tryd.slices_SortFunc enc one (fun p q : T R => cf (con p).1 (con q).1) hO g #[] b 0 cap LL.toArray w eg hcmp hH hblk (by omega)
    rw [hsize] at hcall
    refine hcall.mono ?_
    rintro e w' ⟨rfl, d', m, os, ⟨hds, _, hperm⟩, hsrt, rfl⟩
    have hd : d'.size = xs.length := hds.trans hsize
    have hperm' : d'.toList.Perm LL := by
      try rw [hsize] at hperm
      have e1 : d'.extract 0 xs.length = d' := by rw [← hd]; simp
      have e2 : LL.toArray.extract 0 xs.length = LL.toArray := by rw [← hsize]; simp
      rw [e1, e2] at hperm
      simpa using hperm
    obtain ⟨L2, hl1, hl2⟩ := toRR d'.toList
    have hlen3 : L2.length = xs.length := by have := congrArg List.length hl1; simp only [List.length_map, Array.length_toList] at this; omega
    have hgr : w.grownBy (sortWorld enc w b 0 m d' os) (some b) := grownBy d'
    have hS := closes (w1 := sortWorld enc w b 0 m d' os) (m := xs.length) (cap := cap) L2 hb (by
      have := Go.Lib.ownsRow_putRow (q := m) (ys := d'.toList) hown (by simpa using hd) (Nat.le_refl _)
      rw [List.take_of_length_le (by simp; omega), ← hl1, Array.toArray_toList] at this
      exact owns_grow this os) hlen3 (by
      rw [map_con Prod.snd L2, hl2]
      have := (hperm'.map con).map Prod.snd
      refine this.nodup_iff.2 ?_
      rw [hL2]
      rw [List.zipIdx_eq_zip_range', List.map_snd_zip (by simp)]
      exact List.nodup_range' 1 (by decide)) hgr
    have hys : (L2.map fun p => (con p).1) = (d'.toList.map fun p => (con p).1) := by
      rw [map_con Prod.fst L2, hl2, map_con Prod.fst]
    rw [hys] at hS
    refine ⟨rfl, _, ?_, ?_, hS, b, rfl, hgr⟩
    · have := (hperm'.map con).map Prod.fst
      rw [hL2] at this
      rw [List.map_map] at this
      refine this.trans ?_
      simp
    · rw [List.pairwise_map, List.pairwise_iff_getElem]
      intro i j hi hj hij
      have := hsrt i j (Nat.zero_le _) hij (by simpa [hd] using hj)
      rw [getElem!_pos d' j (by simpa using hj), getElem!_pos d' i (by simpa using hi)] at this
      simpa using of_decide_eq_false this
/-- What a row of rows is cut down to: of rows that stand one behind the other and are told to be equal the first. -/
def compactBy (eqf : List Int → List Int → Bool) (xs : List (List Int)) : List (List Int) := Go.Lib.keptUpTo (kpf eqf xs.toArray) xs.toArray xs.length
theorem keptUpTo_map {α γ : Type} [Inhabited α] [Inhabited γ] (h : α → γ) (kp : Nat → Bool) (d : Array α) (d2 : Array γ) (n : Nat) (hd : ∀ j, j < n → d2[j]! = h d[j]!) : Go.Lib.keptUpTo kp d2 n = (Go.Lib.keptUpTo kp d n).map h := by
  unfold Go.Lib.keptUpTo
  rw [List.map_map]
  refine List.map_congr_left fun j hj => ?_
  have := List.mem_range.1 (List.mem_filter.1 hj).1
  exact hd j this
theorem keptUpTo_congr {α : Type} [Inhabited α] (kp kp' : Nat → Bool) (d : Array α) (n : Nat) (h : ∀ j, j < n → kp j = kp' j) : Go.Lib.keptUpTo kp d n = Go.Lib.keptUpTo kp' d n := by
  unfold Go.Lib.keptUpTo
  congr 1
  exact List.filter_congr fun j hj => h j (List.mem_range.1 hj)
theorem keptUpTo_sub {α : Type} [Inhabited α] (kp : Nat → Bool) (L : List α) : (Go.Lib.keptUpTo kp L.toArray L.length).Sublist L := by
  have e : (List.range L.length).map (fun j => L.toArray[j]!) = L := by
    refine List.ext_getElem (by simp) fun i h1 h2 => ?_
    rw [List.getElem_map, List.getElem_range, getElem!_pos L.toArray i (by simpa using h2)]
    simp
  unfold Go.Lib.keptUpTo
  have h := (List.filter_sublist (p := kp) (l := List.range L.length)).map (fun j => L.toArray[j]!)
  rw [e] at h
  exact h
set_option maxHeartbeats 1000000 in
theorem compactS (eqf : List Int → List Int → Bool) (Q : List Int → Prop) (hQ0 : Q [])
    (g : Nat) (eg : ∀ args w, (callFunc g args).run Tryd.prog w = .ok (.enter g args) w)
    (hg : ∀ (W : World) (A : Option Addr) (c : Nat) (l : List Int) (A' : Option Addr) (c' : Nat) (l' : List Int), Q l → Q l' → Kd.C (Kd.int .i64) W A l.length l → l.length ≤ c → Kd.C (Kd.int .i64) W A' l'.length l' → l'.length ≤ c' → Calls Tryd.prog g #[.slice A l.length c, .slice A' l'.length c'] W fun e w' => e = .returned (.bool (eqf l l')) ∧ Drawn0 W w')
    {w : World} {base : Nat} {ok : Nat → Prop} {v : Value} {xs : List (List Int)} (h : Kd.S (Kd.slice 3 (Kd.int .i64)) 32 w base ok v xs) (hne : xs ≠ []) (hQ : ∀ x ∈ xs, Q x) :
    Calls Tryd.prog 44 #[v, .func (.func g) #[] #[]] w fun e w' => ∃ v1, e = .returned v1 ∧ v1.ownBlock = v.ownBlock ∧ Kd.S (Kd.slice 3 (Kd.int .i64)) 32 w' base ok v1 (compactBy eqf xs) ∧ ∃ row, v.ownBlock = some row ∧ w.grownBy w' (some row) := by
  obtain ⟨f, b, cap, L0, rfl, hb, hown, hcon, hlen⟩ := opens h hne
  obtain ⟨R, hR⟩ : ∃ R : List Int × Nat → List Value → Prop, R = fun y c => RR w base (fun k => ok k ∧ some k ≠ some b) f y c ∧ Q y.1 := ⟨_, rfl⟩
  have hRe : ∀ y c, R y c → RR w base (fun k => ok k ∧ some k ≠ some b) f y c ∧ Q y.1 := fun y c h => by rwa [hR] at h
  have hLQ : ∀ p ∈ L0, Q (con p).1 := by
    intro p hp
    have : con p ∈ xs.zipIdx := by rw [← hcon]; exact List.mem_map_of_mem hp
    exact hQ _ (List.fst_mem_of_mem_zipIdx this)
  obtain ⟨L, hL1, hL2⟩ : ∃ L : List (T R), L.map enc = L0.map enc ∧ L.map con = xs.zipIdx := by
    refine ⟨L0.attach.map fun p => ⟨p.1.enc, p.1.con, by rw [hR]; exact ⟨p.1.fits, hLQ p.1 p.2⟩, p.1.one⟩, ?_, ?_⟩
    · rw [List.map_map]
      exact List.attach_map_val (l := L0) (f := enc)
    · rw [List.map_map, ← hcon]
      exact List.attach_map_val (l := L0) (f := con)
  have toRR : ∀ L' : List (T R), ∃ L'' : List (T (RR w base (fun k => ok k ∧ some k ≠ some b) f)), L''.map enc = L'.map enc ∧ L''.map con = L'.map con := by
    intro L'
    refine ⟨L'.map fun p => ⟨p.enc, p.con, (hRe _ _ p.fits).1, p.one⟩, ?_, ?_⟩
    · rw [List.map_map]; rfl
    · rw [List.map_map]; rfl
  have hQ' : ∀ p : T R, Q (con p).1 := fun p => (hRe _ _ p.fits).2
  have hlen2 : L.length = xs.length := by have := congrArg List.length hL2; simpa using this
  obtain ⟨zr, hz⟩ : ∃ zr : T R, enc zr = .slice none 0 0 := ⟨⟨.slice none 0 0, ([], 0), by rw [hR]; exact ⟨⟨_, rfl, Kd.R_nil _ _ _ _ _⟩, hQ0⟩, rfl⟩, rfl⟩
  haveI : Inhabited (T R) := ⟨zr⟩
  rw [← hL1] at hown
  have hH : Holds enc w b 0 L.toArray := by
    obtain ⟨g1, cap1, e1, _, _, _, _, _, hH⟩ := Go.Lib.holds_of_ownsRow hown (by simp)
    injection e1 with e1 _ _
    injection e1 with e1
    injection e1 with e1
    subst e1
    exact hH
  obtain ⟨hcap, hbig⟩ : xs.length ≤ cap ∧ cap ≤ maxLen := by
    rcases hown.2 with ⟨e1, _⟩ | ⟨g1, cap1, cur, e1, _, _, hn, hm, _⟩
    · cases e1
    · injection e1 with _ _ e3
      subst e3
      exact ⟨hn, hm⟩
  have hsize : L.toArray.size = xs.length := by simpa using hlen2
  have hE : ∀ (q : Nat) (dk : Array (T R)), dk.size = L.toArray.size → ∀ x y : T R, Calls Tryd.prog g #[enc x, enc y] (putRow enc (Sort.ahead w q) b 0 dk) fun e w' => e = .returned (.bool ((fun p q : T R => eqf (con p).1 (con q).1) x y)) ∧ ∃ qq, w' = (putRow enc (Sort.ahead w q) b 0 dk).drewN qq := by
    intro m dk hs x y
    have hgr : w.grownBy (putRow enc (Sort.ahead w m) b 0 dk) (some b) := by have := grownBy (e := enc) (w := w) (g := b) (n := m) (os := #[]) dk; rwa [grow_empty] at this
    obtain ⟨Lx, hx1, hx2⟩ := toRR [x, y]
    obtain ⟨px, py, rfl⟩ : ∃ px py, Lx = [px, py] := by
      have := congrArg List.length hx1
      match Lx, this with
      | [p, q], _ => exact ⟨p, q, rfl⟩
    simp only [List.map_cons, List.map_nil, List.cons.injEq, and_true] at hx1 hx2
    obtain ⟨A, c, ex, hl, hC⟩ := reads px hgr
    obtain ⟨A', c', ey, hl', hC'⟩ := reads py hgr
    rw [hx1.1, hx2.1] at ex
    rw [hx2.1] at hl hC
    rw [hx1.2, hx2.2] at ey
    rw [hx2.2] at hl' hC'
    rw [ex, ey]
    refine (hg _ A c _ A' c' _ (hQ' x) (hQ' y) hC hl hC' hl').mono ?_
    rintro e w' ⟨rfl, ⟨q, rfl⟩⟩
    exact ⟨rfl, q, rfl⟩
  have hcall := Tryd.slices_CompactFunc enc one (fun p q : T R => eqf (con p).1 (con q).1) g eg zr hz b 0 cap L.toArray w hE hH (by rw [hsize]; exact Nat.le_trans hcap hbig) (by rw [hsize]; exact hcap)
  rw [hsize] at hcall
  refine hcall.mono ?_
  obtain ⟨K, hK⟩ : ∃ K, K = Go.Lib.keptUpTo (kpf (fun p q : T R => eqf (con p).1 (con q).1) L.toArray) L.toArray xs.length := ⟨_, rfl⟩
  rw [← hK]
  have hsub : K.Sublist L := by
    rw [hK, ← hlen2]
    exact keptUpTo_sub _ L
  have hKle : K.length ≤ xs.length := by have := hsub.length_le; omega
  have hKc : K.map (fun p => (con p).1) = compactBy eqf xs := by
    have hd : ∀ j, j < xs.length → xs.toArray[j]! = (con L.toArray[j]!).1 := by
      intro j hj
      have hj2 : j < L.length := by omega
      rw [getElem!_pos xs.toArray j (by simpa using hj), getElem!_pos L.toArray j (by simpa using hj2)]
      have := congrArg (fun z : List (List Int × Nat) => (z[j]?).map Prod.fst) hL2
      simp only [List.getElem?_map, List.getElem?_eq_getElem hj2, List.getElem?_zipIdx, List.getElem?_eq_getElem hj, Option.map_some, Option.some.injEq] at this
      simpa using this.symm
    unfold compactBy
    rw [keptUpTo_map (fun p : T R => (con p).1) _ L.toArray xs.toArray xs.length hd, hK]
    congr 1
    refine keptUpTo_congr _ _ _ _ fun j hj => ?_
    unfold kpf
    by_cases h0 : j = 0
    · rw [decide_eq_true h0, Bool.true_or, Bool.true_or]
    · rw [hd j hj, hd (j - 1) (by omega)]
  rintro e w' ⟨rfl, q, rfl⟩
  obtain ⟨L2, hl1, hl2⟩ := toRR K
  have hgr : w.grownBy (putRow enc (Sort.ahead w q) b 0 (K ++ List.replicate (xs.length - K.length) zr).toArray) (some b) := by have := grownBy (e := enc) (w := w) (g := b) (n := q) (os := #[]) (K ++ List.replicate (xs.length - K.length) zr).toArray; rwa [grow_empty] at this
  have hS := closes (w1 := putRow enc (Sort.ahead w q) b 0 (K ++ List.replicate (xs.length - K.length) zr).toArray) (m := K.length) (cap := cap) L2 hb (by
    have := Go.Lib.ownsRow_putRow (q := q) (k := K.length) (ys := K ++ List.replicate (xs.length - K.length) zr) hown (by simp; omega) hKle
    rw [List.take_left, ← hl1] at this
    exact this) (by have := congrArg List.length hl1; simpa using this) (by
    rw [map_con Prod.snd L2, hl2]
    have h1 : ((L.map con).map Prod.snd).Nodup := by
      rw [hL2]
      rw [List.zipIdx_eq_zip_range', List.map_snd_zip (by simp)]
      exact List.nodup_range' 1 (by decide)
    exact List.Nodup.sublist ((hsub.map con).map Prod.snd) h1) hgr
  have hys : (L2.map fun p => (con p).1) = (K.map fun p => (con p).1) := by
    rw [map_con Prod.fst L2, hl2, map_con Prod.fst]
  rw [hys, hKc] at hS
  exact ⟨_, rfl, rfl, hS, b, rfl, hgr⟩
theorem sort_pw {α : Type} (le : α → α → Bool) (xs : List α) (ht : ∀ a ∈ xs, ∀ b ∈ xs, ∀ c ∈ xs, le a b = true → le b c = true → le a c = true) (htot : ∀ a ∈ xs, ∀ b ∈ xs, (le a b || le b a) = true) : (xs.mergeSort le).Pairwise (fun a b => le a b = true) := by
  have e : xs.mergeSort le = (xs.attach.mergeSort (fun a b => le a.1 b.1)).map Subtype.val := by
    rw [List.map_mergeSort (s := le) (fun a _ b _ => rfl), List.attach_map_subtype_val]
  rw [e, List.pairwise_map]
  exact List.pairwise_mergeSort (le := fun a b : { x // x ∈ xs } => le a.1 b.1) (fun a b c => ht a.1 a.2 b.1 b.2 c.1 c.2) (fun a b => htot a.1 a.2 b.1 b.2) _
/-- There is but one sorted order of rows no two of which are alike in rank. -/
theorem sort_unique {α : Type} (le : α → α → Bool) (xs ys : List α) (ht : ∀ a ∈ xs, ∀ b ∈ xs, ∀ c ∈ xs, le a b = true → le b c = true → le a c = true) (htot : ∀ a ∈ xs, ∀ b ∈ xs, (le a b || le b a) = true) (anti : ∀ a ∈ xs, ∀ b ∈ xs, le a b = true → le b a = true → a = b) (hp : ys.Perm xs) (hs : ys.Pairwise (fun a b => le a b = true)) : ys = xs.mergeSort le :=
  List.Perm.eq_of_pairwise (fun a b ha hb => anti a (hp.mem_iff.1 ha) b ((List.mergeSort_perm xs le).mem_iff.1 hb)) hs (sort_pw le xs ht htot) (hp.trans (List.mergeSort_perm xs le).symm)
end Go.Proofs.YtfkfahdikmfpeaaDoor.Rs
