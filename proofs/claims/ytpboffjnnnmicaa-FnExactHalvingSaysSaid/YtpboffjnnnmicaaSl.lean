/- Rows of rows of rows: an element is a row whose own elements lie apart. -/
import Derived.Test.YtpboffjnnnmicaaWMore
import Derived.Test.YtpboffjnnnmicaaWNEv
import Derived.Test.YtpboffjnnnmicaaWKept
import Derived.Test.YtpboffjnnnmicaaSh
namespace Go.Proofs.Ytpboffjnnnmicaa.Sl
open Go.RowKit Go.Proofs.Ytpboffjnnnmicaa.Sh Go.Proofs.YtpboffjnnnmicaaW.PrintWords Go.Proofs.YtpboffjnnnmicaaW.PrintLast Go.Proofs.YtpboffjnnnmicaaW.PrintMore
set_option linter.unusedVariables false
/-- A slice whose elements' rows lie apart. -/
def Kd.sliceS {α : Type} (e : Nat) (d : Kd α) : Kd (List α) where
  sz := 1
  E := e :: d.E
  K := fun w xs cs => ∃ A c, cs = [.slice A xs.length c] ∧ xs.length ≤ c ∧ d.C w A xs.length xs
  M := fun w base ok xs cs => ∃ v, cs = [v] ∧ Kd.S d e w base ok v xs
  K_len := by
    rintro w x cs ⟨A, c, rfl, _⟩
    rfl
  K_one := by
    rintro w x cs ⟨A, c, rfl, _⟩ u hu
    rw [List.mem_singleton.1 hu]
    rfl
  K_below := by
    rintro w w1 x cs hb ⟨A, c, rfl, hl, hr⟩
    exact ⟨A, c, rfl, hl, Kd.C_below hr hb⟩
  K_of_M := by
    rintro w base ok x cs ⟨v, rfl, h⟩
    obtain ⟨A, c, rfl, hl, hr⟩ := Kd.S_reads h
    exact ⟨A, c, rfl, hl, hr⟩
  M_mono := by
    rintro w base ok ok' x cs hok ⟨v, rfl, h⟩
    exact ⟨v, rfl, Kd.S_mono h hok⟩
  M_bound := by
    rintro w base ok x cs ⟨v, rfl, h⟩
    exact ⟨v, rfl, Kd.S_bound h⟩
  M_move := by
    rintro w w1 base ok x cs hm ⟨v, rfl, h⟩
    exact ⟨v, rfl, Kd.S_move h hm⟩
  M_lower := by
    rintro w base base' ok x cs hb ⟨v, rfl, h⟩
    exact ⟨v, rfl, Kd.S_lower h hb⟩
section
variable {α : Type} {d : Kd α} {e e' g n cap : Nat} {w w1 W : World} {base : Nat} {ok ok' okp : Nat → Prop} {u v : Value} {xs : List (List α)} {ys : List α} {i : Int}
/-- Element i is put anew, by a row that was made just now. -/
theorem put_new (ho : Kd.S (Kd.sliceS e d) e' W base (fun _ => True) (.slice (some ⟨g, 0, none⟩) n cap) xs) (hn : Kd.S d e w1 W.heap.size (fun _ => True) v ys) (hb : Below W.heap.size W w1) (hbase : base ≤ W.heap.size) (h0 : 0 ≤ i) (h1 : i < n) :
    (∃ c, w1.cell? ⟨g, i.toNat, none⟩ = some c) ∧ w1.frozen? ⟨g, i.toNat, none⟩ = false ∧ base ≤ g ∧
      Kd.S (Kd.sliceS e d) e' (w1.setCell ⟨g, i.toNat, none⟩ v) base (fun _ => True) (.slice (some ⟨g, 0, none⟩) n cap) (xs.set i.toNat ys) ∧ w1.grownBy (w1.setCell ⟨g, i.toNat, none⟩ v) (some g) := by
  have hO := Kd.S_old ho hb
  have hgo : (Value.slice (some ⟨g, 0, none⟩) n cap).ownBlock = some g := by simp [Value.ownBlock]
  have hgl : g < W.heap.size := ((Kd.S_R hO).1 g hgo).2
  have hgb := Kd.S_base ho g hgo
  obtain ⟨oki, c, hcl, hM, hcc, hfr, hoki, hH⟩ := Kd.S_elem hO [] i h0 h1
  obtain ⟨u0, rfl, hu0⟩ := hM
  have hsz : (Kd.sliceS e d).sz = 1 := rfl
  have hc0 := hcc 0 u0 rfl
  have hf0 := hfr 0
  rw [hsz, Nat.mul_one, Nat.add_zero] at hc0 hf0
  have hp := Kd.S_seg (okg := fun k => W.heap.size ≤ k) (ok := fun _ => True) (Kd.H_mono hH (ok' := fun k => True ∧ ¬ W.heap.size ≤ k) (fun k hk => ⟨trivial, by have := hk.2; omega⟩)) h0 h1 (seg := [v]) (j := 0) (show 0 + 1 ≤ 1 from by decide) (x' := ys)
    (show (Kd.sliceS e d).M w1 base (fun k => W.heap.size ≤ k) ys [v] from ⟨v, rfl, Kd.S_lower (Kd.S_mono (Kd.S_bound hn) (fun k hk => hk.2.1)) hbase⟩) (fun k hk => .inr hk) (fun k hk => ⟨trivial, by omega⟩)
  rw [hsz, Nat.mul_one, Nat.add_zero] at hp
  exact ⟨⟨_, hc0⟩, hf0, hgb, hp.1, hp.2⟩
end
end Go.Proofs.Ytpboffjnnnmicaa.Sl
