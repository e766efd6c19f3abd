/- Small lemmas about blocks, and about rows that lie between two sizes of the memory. -/
import Derived.Test.YtpknkpbellchgaaWNEv
import Derived.Test.YtpknkpbellchgaaWMore
import Derived.Test.YtpknkpbellchgaaWKept
import Derived.Test.YtpknkpbellchgaaWApart
namespace Go.Proofs.Ytpknkpbellchgaa.Mc
open Go.RowKit Go.Proofs.YtpknkpbellchgaaW.PrintWords
theorem blk_at {w : World} (o : Obj) {n : Nat} (h : n = w.heap.size) : (w.alloc o).heap[n]? = some o := by subst h; exact blk_new w o
theorem R_ivl {α : Type} {d : Kd α} {e base b0 : Nat} {w : World} {ok : Nat → Prop} {v : Value} {xs : List α} (h : Kd.R d e w base ok v xs) (hb : b0 ≤ base) : Kd.R d e w b0 (fun k => ok k ∧ b0 ≤ k ∧ k < w.heap.size) v xs :=
  Kd.R_lower (Kd.R_mono (Kd.R_bound h) (fun _ hk => ⟨hk.1, by have := hk.2.1; omega, hk.2.2.1⟩)) hb
theorem S_ivl {α : Type} {d : Kd α} {e base b0 : Nat} {w : World} {ok : Nat → Prop} {v : Value} {xs : List α} (h : Kd.S d e w base ok v xs) (hb : b0 ≤ base) : Kd.S d e w b0 (fun k => ok k ∧ b0 ≤ k ∧ k < w.heap.size) v xs :=
  Kd.S_lower (Kd.S_mono (Kd.S_bound h) (fun _ hk => ⟨hk.1, by have := hk.2.1; omega, hk.2.2.1⟩)) hb
theorem V_ivl {α : Type} {d : Kd α} {e base b0 : Nat} {w : World} {v : Value} {xs : List α} (h : Kd.V d e w base (fun k => base ≤ k) v xs) (hb : b0 ≤ base) : Kd.V d e w b0 (fun k => True ∧ b0 ≤ k ∧ k < w.heap.size) v xs :=
  Kd.V_lower (Kd.V_mono (Kd.V_bound h) (fun _ hk => ⟨trivial, Nat.le_trans hb hk.1, hk.2⟩)) hb
theorem N_ivl {α : Type} {d : Kd α} {e base b0 : Nat} {w : World} {v : Value} {xs : List α} (h : Kd.N d e w base (fun k => base ≤ k) v xs) (hb : b0 ≤ base) : Kd.N d e w b0 (fun k => True ∧ b0 ≤ k ∧ k < w.heap.size) v xs :=
  Kd.N_lower (Kd.N_mono (Kd.N_bound h) (fun k hk => ⟨trivial, by have := hk.1; omega, hk.2⟩)) hb
end Go.Proofs.Ytpknkpbellchgaa.Mc
