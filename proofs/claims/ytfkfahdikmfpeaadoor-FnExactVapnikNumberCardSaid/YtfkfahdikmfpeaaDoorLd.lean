/- What the row's listed tables give: the library's table of math/bits, cell by cell; and a world in which both are laid. -/
import Derived.Test.YtfkfahdikmfpeaaDoorRows
import Derived.Test.YtfkfahdikmfpeaaDoorTb
import Derived.LaidLaws
import Derived.Handed
import Derived.FnData
namespace Go.Proofs.YtfkfahdikmfpeaaDoor.Ld
open Go Go.Proofs Go.RowKit Go.Proofs.YtfkfahdikmfpeaaDoor Go.Proofs.YtfkfahdikmfpeaaDoorW.PrintWords
theorem mapM_get {α β : Type} {f : α → Option β} : ∀ (l : List α) (r : List β), l.mapM f = some r → ∀ i (h : i < l.length), ∃ y, r[i]? = some y ∧ f l[i] = some y
  | [], _, _, i, h => absurd h (Nat.not_lt_zero _)
  | a :: l, r, hr, i, h => by
    simp only [List.mapM_cons, Option.bind_eq_bind, Option.bind_eq_some_iff, Option.pure_def, Option.some.injEq] at hr
    obtain ⟨y, hy, ys, hys, rfl⟩ := hr
    cases i with
    | zero => exact ⟨y, rfl, hy⟩
    | succ i => exact mapM_get l ys hys i (by simpa using h)
theorem int_of_trod {H : Type} {enc : TypeId × Value → H} {P : Program} {w : World} {base : Nat} {sp : Nat → Bool} {held : Bool} {fuel : Nat} {t : TypeId} {k : IntKind} {c : Value} {y : DataW H × List MemPlace}
    (ht : P.underlying t = some (.int k)) (h : DataW.trod enc P w base sp held fuel t [c] = some y) : ∃ n, c = .int k n ∧ y = (.lit (.int k n), []) := by
  cases fuel with
  | zero => simp [DataW.trod] at h
  | succ fuel =>
    cases c <;> simp [DataW.trod, ht] at h
    rename_i k' n
    obtain ⟨⟨rfl, _⟩, rfl⟩ := h
    exact ⟨n, rfl, rfl⟩
theorem named : Tryd.prog.globalNamed "math/bits.deBruijn64tab" = some 1 := by kernel_rfl
theorem typed : (Tryd.prog.globals[1]?).map (·.type) = some 62 := by kernel_rfl
theorem cells62 : Tryd.prog.cellsOf 62 = 64 := by kernel_rfl
theorem cells5 : Tryd.prog.cellsOf 5 = 1 := by kernel_rfl
theorem datum : (Rows.laid_math_bits_deBruijn64tab : DataW Unit) = .agg (Go.Lib.deBruijn64tab.map fun n : Nat => .lit (.int .u8 (n : Int))) := by kernel_rfl
theorem tab_of_laid {W : World} (h : laidMet Tryd.prog [("math/bits.deBruijn32tab", Rows.laid_math_bits_deBruijn32tab), ("math/bits.deBruijn64tab", Rows.laid_math_bits_deBruijn64tab)] W) : TabAt 1 Go.Lib.deBruijn64tab W := by
  obtain ⟨ps, ⟨g0, t0, cs0, fuel0, p0, q0, _, _, _, _, ⟨g, t, cs, fuel, p, q, hg, ht, hvar, hd, _, _⟩, _⟩, _⟩ := h
  obtain rfl := Option.some.inj (named.symm.trans hg)
  obtain rfl := Option.some.inj (typed.symm.trans ht)
  intro j hj
  have hj64 : j < 64 := hj
  rw [World.var?_cell named hvar j]
  rw [datum] at hd
  cases fuel with
  | zero => simp [DataW.trod] at hd
  | succ fuel =>
    simp only [DataW.trod, Tryd.underlying62, cells62, cells5] at hd
    split at hd
    · next hl =>
      simp only [Option.map_eq_some_iff] at hd
      obtain ⟨xs, hm, hx⟩ := hd
      injection hx with hx _
      injection hx with hx
      obtain ⟨y, hy, hf⟩ := mapM_get _ _ hm j (by simpa using hj64)
      rw [List.getElem_range, Nat.mul_one, List.drop_eq_getElem_cons (show j < cs.toList.length by rw [hl]; exact hj64)] at hf
      obtain ⟨n, hc, rfl⟩ := int_of_trod Tryd.underlying5 hf
      have e1 := congrArg (fun z : List (DataW Unit) => z[j]?) hx
      simp only [List.getElem?_map, hy, Option.map_some] at e1
      rw [List.getElem?_eq_getElem hj, Option.map_some] at e1
      have e2 := Option.some.inj e1
      injection e2 with e2
      injection e2 with _ e2
      rw [← Array.getElem?_toList, List.getElem?_eq_getElem (show j < cs.toList.length by rw [hl]; exact hj64), hc, e2, List.getD_eq_getElem?_getD, List.getElem?_eq_getElem hj]
      rfl
    · cases hd
def put (tab : List Nat) : Obj → Obj
  | .cells _ t frozen => .cells (tab.map fun n : Nat => Value.int .u8 (n : Int)).toArray t frozen
  | o => o
/-- The settled world, both tables in their places. -/
noncomputable def laidWorld (os : Os) : World :=
  { World.holding Tryd.prog os ⟨#[], #[], []⟩ with heap := ((World.holding Tryd.prog os ⟨#[], #[], []⟩).heap.modify 0 (put Go.Lib.deBruijn32tab)).modify 1 (put Go.Lib.deBruijn64tab) }
theorem laid_met (os : Os) (args : Array Value) : laidMet Tryd.prog [("math/bits.deBruijn32tab", Rows.laid_math_bits_deBruijn32tab), ("math/bits.deBruijn64tab", Rows.laid_math_bits_deBruijn64tab)] ((laidWorld os).forCall (fun _ _ => 0) ⟨#[], args, []⟩).memory :=
  laidMet_of_run' 8 (by kernel_rfl) (by kernel_rfl)
end Go.Proofs.YtfkfahdikmfpeaaDoor.Ld
