/- slices.CompactFunc at rows of rows (elements of one cell, the function value a quiet one): what it hands back and what the row holds behind it. 44: its number; 22, 32: the types of the row and of its elements. -/
import Derived.Shelf.SlicesE.Kit
import Derived.Shelf.RegionOpenPlain
import Derived.WalkKit
import Derived.Deep.LoopGhost
import Derived.Deep.Draws
import Derived.Deep.QuietTactic
import Derived.Lib.Walk
import Derived.Lib.SliceRun
import Derived.Lib.SlKept
import Derived.Sort.WalkA
import Derived.Sort.WalkB12
import Derived.Test.YtfkfahdikmfpeaaDoorWWords
import Derived.Test.YtfkfahdikmfpeaaDoorProg
namespace Go.Proofs
open Go.Shelf Go.RowKit Go.Lib Go.Sort Go.Proofs.YtfkfahdikmfpeaaDoorW.PrintWords
/-- Place j is kept: it is the first, or the function tells it from the place before it. -/
def kpf {α : Type} [Inhabited α] (eqf : α → α → Bool) (d : Array α) (j : Nat) : Bool := decide (j = 0) || !eqf d[j]! d[j - 1]!
theorem kpf_one {α : Type} [Inhabited α] (eqf : α → α → Bool) (d : Array α) : ∀ j, j < 1 → kpf eqf d j = true := fun j hj => by
  obtain rfl : j = 0 := by omega
  rfl
theorem kpf_at {α : Type} [Inhabited α] {eqf : α → α → Bool} {d : Array α} {j : Nat} {x y : α} {b : Bool} (h0 : 0 < j) (hx : d[j]! = x) (hy : d[j - 1]! = y) (h : eqf x y = b) : kpf eqf d j = !b := by
  unfold kpf
  rw [hx, hy, h, decide_eq_false (by omega), Bool.false_or]
theorem put_store {α : Type} [Inhabited α] (enc : α → Value) {w wr : World} {n blk off : Nat} {dk : Array α} {i : Nat} (hi : i < dk.size) (hwr : wr = putRow enc (Sort.ahead w n) blk off dk) (q : Nat) (x : α) :
    ((wr.drewN q).setCell ⟨blk, off + i, none⟩ (enc x)) = putRow enc (Sort.ahead w (n + q)) blk off (dk.setIfInBounds i x) := by
  subst hwr
  rw [show (putRow enc (Sort.ahead w n) blk off dk).drewN q = putRow enc (Sort.ahead w (n + q)) blk off dk from putRow_drewN _ _ _ _ _ _ _, putRow_set enc _ blk off dk i x hi]
set_option maxHeartbeats 4000000 in
set_option maxRecDepth 1000000 in
theorem Tryd.slices_CompactFunc {α : Type} [Inhabited α] (enc : α → Value) (hO : OneCell enc) (eqf : α → α → Bool) (g : Nat) (eg : ∀ args w, (callFunc g args).run Tryd.prog w = .ok (.enter g args) w) (zr : α) (hz : enc zr = .slice none 0 0) (blk off cap : Nat) (d : Array α) (w : World)
    (hE : ∀ (q : Nat) (dk : Array α), dk.size = d.size → ∀ x y : α, Calls Tryd.prog g #[enc x, enc y] (putRow enc (Sort.ahead w q) blk off dk) fun e w' => e = .returned (.bool (eqf x y)) ∧ ∃ qq, w' = (putRow enc (Sort.ahead w q) blk off dk).drewN qq)
    (hH : Holds enc w blk off d) (hsz : d.size ≤ 9223372036854775807) (hcap : d.size ≤ cap) :
    Calls Tryd.prog 44 #[.slice (some ⟨blk, off, none⟩) d.size cap, .func (.func g) #[] #[]] w fun e w' => e = .returned (.slice (some ⟨blk, off, none⟩) (keptUpTo (kpf eqf d) d d.size).length cap) ∧ ∃ q, w' = putRow enc (Sort.ahead w q) blk off (keptUpTo (kpf eqf d) d d.size ++ List.replicate (d.size - (keptUpTo (kpf eqf d) d d.size).length) zr).toArray := by
  have hcl0 := hO.cells
  simp only [Value.cells] at hcl0
  have hst := hO.store Tryd.prog
  have same : ∀ q, (∀ j, j < d.size → kpf eqf d j = true) → (keptUpTo (kpf eqf d) d d.size).length = d.size ∧ w.drewN q = putRow enc (Sort.ahead w q) blk off (keptUpTo (kpf eqf d) d d.size ++ List.replicate (d.size - (keptUpTo (kpf eqf d) d d.size).length) zr).toArray := by
    intro q hall
    have e : keptUpTo (kpf eqf d) d d.size = d.toList := by rw [keptUpTo_all _ d _ hall, range_map_get]
    rw [e]
    refine ⟨by simp, ?_⟩
    simp only [Array.length_toList, Nat.sub_self, List.replicate_zero, List.append_nil, Array.toArray_toList]
    exact (putRow_self enc (Sort.ahead w q) blk off d (holds_ahead enc w q blk off d hH)).symm
  have HS := Aside0.mk same
  clear same
  have HE := Aside0.mk hE
  clear hE
  by_cases h2 : d.size < 2
  · clear hH
    go_enter Tryd.func44, Tryd.ntmps44
    go_wp2
    go_ret
    obtain ⟨e1, e2⟩ := HS.out 0 (fun j hj => kpf_one _ d j (by omega))
    exact ⟨by rw [e1]; rfl, 0, e2⟩
  · go_enter Tryd.func44, Tryd.ntmps44
    go_wp2
    go_loopg [5] d.size (fun gg s5 wr => ∃ k q : Nat, 1 ≤ k ∧ k ≤ d.size ∧ d.size - k ≤ gg ∧ s5 = .int .i64 k ∧ wr = w.drewN q ∧ ∀ j, j < k → kpf eqf d j = true)
    case atStart => exact ⟨1, 0, Nat.le_refl _, by omega, by omega, rfl, rfl, kpf_one _ d⟩
    case round =>
      obtain ⟨k, q, hk1, hk, hg, rfl, hwr, hall⟩ := hrel
      have W1 := Aside0.mk hwr
      have HH := Aside0.mk hH
      have hHr : Holds enc wr blk off d := by rw [hwr]; exact holds_ahead enc w q blk off d hH
      clear hH
      by_cases hlt : k < d.size
      · obtain ⟨c1, f1⟩ := hHr k hlt
        obtain ⟨c0, f0⟩ := hHr (k - 1) (by omega)
        have A := Aside0.mk hall
        clear hall
        have hcall : ∀ n, Calls Tryd.prog g #[enc d[k]!, enc d[k - 1]!] (wr.drewN n) fun e w' => e = .returned (.bool (eqf d[k]! d[k - 1]!)) ∧ ∃ qq, w' = wr.drewN qq := by
          intro n
          have h := HE.out (q + n) d rfl d[k]! d[k - 1]!
          rw [putRow_self enc (Sort.ahead w (q + n)) blk off d (holds_ahead enc w (q + n) blk off d HH.out), show Sort.ahead w (q + n) = (w.drewN q).drewN n from (World.drewN_drewN ..).symm, ← hwr] at h
          exact h.mono (fun _ _ ⟨e, qq, h2⟩ => ⟨e, n + qq, by rw [h2, World.drewN_drewN]⟩)
        clear hwr hHr
        generalize hx : d[k]! = x at c1 hcall
        generalize hy : d[k - 1]! = y at c0 hcall
        have B := Aside0.mk (And.intro hx hy)
        clear hx hy
        cases hdup : eqf x y with
        | true =>
          rw [hdup] at hcall
          go_wp2_with fail
          go_quiet (first | (go_at_fn g; exact hcall _))
          clear c0 c1 f0 f1 hcall
          go_wp2
          go_loopg [5, 7] d.size (fun gg s5 s7 wr => ∃ (kk k2 q2 : Nat) (dk : Array α), s5 = .int .i64 kk ∧ s7 = .int .i64 k2 ∧ 1 ≤ k2 ∧ k + k2 ≤ d.size ∧ d.size - (k + k2) ≤ gg ∧ wr = putRow enc (Sort.ahead w q2) blk off dk ∧ KeptInv (kpf eqf d) d (k + k2) kk dk)
          case atStart => exact ⟨k, 1, q + nq, d, rfl, rfl, Nat.le_refl _, by omega, by omega, by rw [W1.out, World.drewN_drewN]; exact (putRow_self enc (Sort.ahead w (q + nq)) blk off d (holds_ahead enc w (q + nq) blk off d HH.out)).symm, KeptInv.start A.out (by rw [kpf_at (by omega) B.out.1 B.out.2 hdup]; rfl)⟩
          case round =>
            obtain ⟨kk, k2, q2, dk, rfl, rfl, h1, hle, hg2, hwr, hI⟩ := hrel
            have hkk := hI.lt
            have hds := hI.size
            have hHk : Holds enc wr blk off dk := by rw [hwr]; exact holds_putRow enc _ blk off d dk (holds_ahead enc w q2 blk off d HH.out) hds
            have W2 := Aside0.mk hwr
            have I2 := Aside0.mk hI
            by_cases hlt2 : k + k2 < d.size
            · have hcall2 : ∀ (x y : α) (n : Nat), Calls Tryd.prog g #[enc x, enc y] (wr.drewN n) fun e w' => e = .returned (.bool (eqf x y)) ∧ ∃ qq, w' = wr.drewN qq := by
                intro x y n
                have h := HE.out (q2 + n) dk hds x y
                rw [← show (putRow enc (Sort.ahead w q2) blk off dk).drewN n = putRow enc (Sort.ahead w (q2 + n)) blk off dk from putRow_drewN _ _ _ _ _ _ _, ← hwr] at h
                exact h.mono (fun _ _ ⟨e, qq, h2⟩ => ⟨e, n + qq, by rw [h2, World.drewN_drewN]⟩)
              clear hwr
              obtain ⟨cm, _⟩ := hHk (k + k2) (by omega)
              obtain ⟨cp, _⟩ := hHk (k + k2 - 1) (by omega)
              obtain ⟨ck, fk⟩ := hHk kk (by omega)
              rw [hI.high (k + k2) (by omega), show off + (k + k2) = off + k + k2 by omega] at cm
              rw [hI.high (k + k2 - 1) (by omega), show off + (k + k2 - 1) = off + k + (k2 - 1) by omega] at cp
              clear hHk hI
              generalize hu : d[k + k2]! = u at cm
              generalize hv : d[k + k2 - 1]! = v at cp
              generalize dk[kk]! = old at ck
              have C := Aside0.mk (And.intro hu hv)
              clear hu hv
              have hc := hcall2 u v
              clear hcall2
              cases huv : eqf u v with
              | true =>
                rw [huv] at hc
                go_wp2_with fail
                go_quiet (first | (go_at_fn g; exact hc _))
                go_wp2
                go_roundg (d.size - (k + (k2 + 1)))
                case measure => omega
                case rel => exact ⟨kk, k2 + 1, q2 + nq, dk, rfl, by go_num, by omega, by omega, Nat.le_refl _, by rw [W2.out]; exact putRow_drewN _ _ _ _ _ _ _, I2.out.skip (by rw [kpf_at (by omega) C.out.1 C.out.2 huv]; rfl)⟩
              | false =>
                rw [huv] at hc
                go_wp2_with fail
                go_quiet (first | (go_at_fn g; exact hc _))
                go_wp2
                go_roundg (d.size - (k + (k2 + 1)))
                case measure => omega
                case rel => exact ⟨kk + 1, k2 + 1, q2 + nq, dk.setIfInBounds kk u, by go_num, by go_num, by omega, by omega, Nat.le_refl _, put_store enc (by omega) W2.out nq u, by have := I2.out.keep hlt2 (by rw [kpf_at (by omega) C.out.1 C.out.2 huv]; rfl); rwa [C.out.1] at this⟩
            · have hend : k + k2 = d.size := by omega
              have hcl : ∀ ty, (Builtin.clear_ #[22] ty #[.slice (some ⟨blk, off + kk, none⟩) (d.size - kk) (cap - kk)]).run Tryd.prog wr = .ok (.tuple #[]) (wr.setCells blk (off + kk) (List.replicate (d.size - kk) (enc zr))) :=
                fun ty => Lib.run_clear_slice wr _ _ ty _ Tryd.underlying22 (fun w => by rw [hz]; rfl) (hO.cells zr) (hO zr) blk (off + kk) _ _ (by omega) (fun j hj => by rw [show off + kk + j = off + (kk + j) by omega, (hHk (kk + j) (by omega)).1]; rfl) (fun j hj => by rw [show off + kk + j = off + (kk + j) by omega]; exact (hHk (kk + j) (by omega)).2)
              clear hHk hI hwr
              go_wp2
              go_ret
              have hI := I2.out
              rw [hend] at hI
              refine ⟨by rw [hI.len]; rfl, q2, ?_⟩
              rw [hI.len, ← hI.done zr, ← putRow_setCells enc _ blk off _ dk kk (by simp; omega), ← W2.out, List.map_replicate, hz]
        | false =>
          rw [hdup] at hcall
          go_wp2_with fail
          go_quiet (first | (go_at_fn g; exact hcall _))
          go_wp2
          go_roundg (d.size - (k + 1))
          case measure => omega
          case rel =>
            refine ⟨k + 1, q + nq, by omega, by omega, Nat.le_refl _, by go_num, by rw [W1.out, World.drewN_drewN], fun j hj => ?_⟩
            by_cases e : j = k
            · subst e
              exact kpf_at (by omega) B.out.1 B.out.2 hdup
            · exact A.out j (by omega)
      · have : k = d.size := by omega
        subst this
        clear hHr hwr
        go_wp2
        go_ret
        obtain ⟨e1, e2⟩ := HS.out q hall
        exact ⟨by rw [e1]; rfl, q, W1.out.trans e2⟩
end Go.Proofs
