/- Closures: a call of a function value; an append to a row that is full; what a call keeps when a captured variable is written. -/
import Derived.Test.YtpknkpbellchgaaWMore
import Derived.Test.YtpknkpbellchgaaWNEv
import Derived.Test.YtpknkpbellchgaaWKept
import Derived.Test.YtpknkpbellchgaaWLast
import Derived.Test.YtpknkpbellchgaaSh
import Derived.ArgAppend
import Derived.Maps.AppendAt
import Derived.Laws.Slices
namespace Go.Proofs.Ytpknkpbellchgaa.Cl
open Go.RowKit Go.Proofs.Ytpknkpbellchgaa.Sh Go.Proofs.YtpknkpbellchgaaW.PrintWords Go.Proofs.YtpknkpbellchgaaW.PrintLast Go.Proofs.YtpknkpbellchgaaW.PrintMore
set_option linter.unusedVariables false
set_option linter.unusedSimpArgs false
/-- The arguments of a call of a function value, its captured ones behind them. -/
theorem aV {P : Prop} (f : P := by (try simp only [List.map_toArray, List.map_cons, List.map_nil, List.append_toArray, List.cons_append, List.nil_append]); rfl) : P := f
theorem store_func (P : Program) : ∀ (w : World) (a : Addr) (m : Mode) (fn : Fn) (first captured : Array Value), (store a (.func fn first captured) m).run P w = stored P w a (.func fn first captured) m := fun w a m _ _ _ => run_store P w a _ m rfl
section
variable {P : Program} {ops : Array Oper} {Q : Exit → Act → World → Prop}
/-- A call of a function value in a region that draws. -/
theorem goesV_ {oi : Oper} {N : Option Tmp} {a : Act} {w : World} {K : Act → World → Prop} {f : FuncId} {fn : Func} {x : Operand} {as : Array Operand} {ts : Array TypeId} (cb : Array Value) (hf : P.funcs[f]? = some fn) (hname : (fn.name == "runtime.NumGoroutine") = false) (hb : fn.body.isSome = true) (args : Array Value)
    (hw : Region.wanted oi (yielded ops a.tmps) = true) (hN : oi.dst = N) (hop : oi.op = .call { callee := .value x, args := as, argTypes := ts }) (hx : a.eval x = .func (.func f) #[] cb) (hargs : as.map a.eval ++ cb = args)
    (h : Calls P f args w fun e w' => ∃ v, e = .returned v ∧ K (a.put N v) w') : if Region.wanted oi (yielded ops a.tmps) = true then Oper.wp P oi a w K Q else K (a.put N undef) w := by
  refine call_ f args hw hN ?_ h
  have he := enters_ hf hname hb args w
  unfold execOp
  simp [hop, resolve, Deferred.ofValue, invoke, hx, hargs, he]
/-- .. and in a plain one. -/
theorem goesVL_ {rest : List Oper} {oi : Oper} {a : Act} {w : World} (N : Option Tmp) (hd : oi.dst = N) (hg : oi.guard = none) {f : FuncId} {fn : Func} {x : Operand} {as : Array Operand} {ts : Array TypeId} (cb : Array Value) (hf : P.funcs[f]? = some fn) (hname : (fn.name == "runtime.NumGoroutine") = false) (hb : fn.body.isSome = true) (args : Array Value)
    (hop : oi.op = .call { callee := .value x, args := as, argTypes := ts }) (hx : a.eval x = .func (.func f) #[] cb) (hargs : as.map a.eval ++ cb = args)
    (h : Calls P f args w fun e w' => ∃ v, e = .returned v ∧ wpList P ops Q rest (a.put N v) w') : wpList P ops Q (oi :: rest) a w := by
  refine wpList_plain hg fun K hK => ?_
  have he := enters_ hf hname hb args w
  have hrun : (execOp a.eval oi).run P w = .ok (.enter f args) w := by
    unfold execOp
    simp [hop, resolve, Deferred.ofValue, invoke, hx, hargs, he]
  unfold Oper.wp
  rw [hrun, Oper.upon_enter]
  refine h.mono fun e w'' hh => ?_
  obtain ⟨v, rfl, hk⟩ := hh
  subst hd
  exact hK _ _ hk
/-- s[:len(s):len(s)] -/
theorem cut_full (t e : TypeId) {i : TypeInfo} (ht : P.underlying t = some (.slice e)) (hi : P.info? e = some i) (A : Option Addr) (n c : Nat) (hc : n ≤ c) :
    ∀ W : World, (Instr.slice t (.slice A n c) none (some (.int .i64 (n : Int))) (some (.int .i64 (n : Int)))).run P W = .ok (.slice A n n) W := by
  intro W
  have hel : P.elem t = e := by simp [Program.elem, ht]
  have hu : P.underlying t = some (.slice (P.elem t)) := by rw [hel]; exact ht
  have ha : (A.map fun x => x.add 0) = A := by cases A <;> simp [Addr.add]
  rw [run_slice_hm W t A n c hu .i64 .i64 n n (by omega) (by omega) (by omega), hel]
  simp [sizeOf, typeInfo, hi, sliced, Result.andThen, ha]
/-- A number behind a row that is full: always a new row. -/
theorem app_full {W : World} (t ty e : TypeId) (bytes : Nat) (ht : P.underlying t = some (.slice e)) (hinfo : (P.info? e).map (fun i => (i.zero, i.size, i.bytes)) = some (some (.int .i64 0), 1, bytes)) (hb0 : 0 < bytes)
    (A : Option Addr) (xs : List Int) (y : Int) (HC : (Kd.int .i64).C W A xs.length xs) (hA : xs = [] → A = none ∨ ∃ b, A = some b) (hl : (xs.length + 1) * bytes ≤ 140737488355328) :
    ∃ v1 w1, (Builtin.append_ #[t, t] ty #[.slice A xs.length xs.length, .slice (some ⟨W.heap.size, 0, none⟩) 1 1]).run P (W.alloc (.cells #[.int .i64 y] e)) = .ok v1 w1 ∧ (Kd.int .i64).R e w1 W.heap.size (fun _ => True) v1 (xs ++ [y]) ∧ Below W.heap.size W w1 := by
  obtain ⟨i0, hi, hzz⟩ := Option.map_eq_some_iff.1 hinfo
  simp only [Prod.mk.injEq] at hzz
  obtain ⟨hz0, hz1, hz2⟩ := hzz
  have hlen : xs.length + 1 ≤ 140737488355328 := Nat.le_trans (Nat.le_mul_of_pos_right _ hb0) hl
  have hnews := World.news_of_block (cs := #[Value.int .i64 y]) (t := e) (fr := (0, 0)) (heap_alloc_new W (.cells #[.int .i64 y] e))
  have hba : Below W.heap.size W (W.alloc (.cells #[.int .i64 y] e)) := below_alloc (Below.refl _ _) _
  have fin : ∀ v1 w1, w1.ownsRow (W.alloc (.cells #[.int .i64 y] e)).heap.size e 1 v1 (xs.length + 1) (encs (Value.int .i64) xs ++ [.int .i64 y]) → Below W.heap.size W w1 →
      (Kd.int .i64).R e w1 W.heap.size (fun _ => True) v1 (xs ++ [y]) ∧ Below W.heap.size W w1 := by
    intro v1 w1 hown hb
    refine ⟨Kd.R_of_own (enc := Value.int .i64) (h1 := fun _ => rfl) (own_weaken ?_ (by simp : W.heap.size ≤ (W.alloc (.cells #[.int .i64 y] e)).heap.size)) (fun _ _ => trivial), hb⟩
    simpa [encs] using hown
  cases A with
  | none =>
    have h0 : xs = [] := by
      cases xs with
      | nil => rfl
      | cons a l => obtain ⟨ad, he, _⟩ := HC.2.2 (by simp); cases he
    subst h0
    obtain ⟨v1, w1, hr, hown, hg, _, hat⟩ := run_append_own_at (P := P) (W.alloc (.cells #[.int .i64 y] e)) (W.alloc (.cells #[.int .i64 y] e)).heap.size t ty e i0 (.int .i64 0) 1 bytes ht hi hz0 hz1 hz2 rfl (by decide) (.slice none 0 0) 0 [] (own_nil _ _ _ _) ⟨W.heap.size, 0, none⟩ 1 1 [.int .i64 y] rfl hnews (by intro u hu; rw [List.mem_singleton.1 hu]; rfl) (by simp only [maxLen]; omega) (by simpa using hl) (Nat.le_refl _)
    exact ⟨v1, w1, hr, fin v1 w1 (by simpa [encs] using hown) (hba.grown hg (by simp) (by intro k hk; simp [Value.ownBlock] at hk))⟩
  | some b =>
    have hcell : ∀ j u, (encs (Value.int .i64) xs)[j]? = some u → (W.alloc (.cells #[.int .i64 y] e)).cell? (b.add j) = some u := by
      intro j u hu
      have hj : j < xs.length := by have := (List.getElem?_eq_some_iff.1 hu).1; rwa [encs_length] at this
      obtain ⟨ad, he, hc⟩ := (Kd.reads_of_C (d := (0 : Int)) HC).2.2 (by omega)
      obtain rfl : b = ad := by injection he
      rw [encs_get (enc := Value.int .i64) (d := (0 : Int)) xs j hj] at hu
      exact pw_cell_below hba ((hc j hj).trans hu)
    obtain ⟨v1, w1, hr, hown, hg⟩ := run_append_arg_grows (P := P) (w := W.alloc (.cells #[.int .i64 y] e)) t ty e i0 (.int .i64 0) 1 bytes ht hi hz0 hz1 hz2 rfl (by decide) b xs.length xs.length (encs (Value.int .i64) xs) (by simp [encs_length]) hcell ⟨W.heap.size, 0, none⟩ 1 1 [.int .i64 y] rfl hnews (by omega) (by simp only [maxLen]; omega) hl
    exact ⟨v1, w1, hr, fin v1 w1 hown (hba.grown hg (by simp) (by intro k hk; simp at hk))⟩
theorem app_full_step {a : Act} {o : Oper} {Kc : Act → World → Prop} {W : World} (hw : Region.wanted o (yielded ops a.tmps) = true) (s x : Operand) (t e : TypeId) (bytes : Nat)
    (ho : o.op = .call { callee := .builtin .append, args := #[s, x], argTypes := #[t, t] }) (ht : P.underlying t = some (.slice e)) (hinfo : (P.info? e).map (fun i => (i.zero, i.size, i.bytes)) = some (some (.int .i64 0), 1, bytes)) (hb0 : 0 < bytes)
    (A : Option Addr) (xs : List Int) (y : Int) (hs : a.eval s = .slice A xs.length xs.length) (hx : a.eval x = .slice (some ⟨W.heap.size, 0, none⟩) 1 1) (HC : (Kd.int .i64).C W A xs.length xs) (hl : (xs.length + 1) * bytes ≤ 140737488355328)
    (h : ∀ v1 w1, (Kd.int .i64).R e w1 W.heap.size (fun _ => True) v1 (xs ++ [y]) → Below W.heap.size W w1 → Kc (a.put o.dst v1) w1) :
    if Region.wanted o (yielded ops a.tmps) = true then Oper.wp P o a (W.alloc (.cells #[.int .i64 y] e)) Kc Q else Kc (a.put o.dst undef) (W.alloc (.cells #[.int .i64 y] e)) := by
  obtain ⟨v1, w1, hr, hR, hB⟩ := app_full (W := W) t o.type e bytes ht hinfo hb0 A xs y HC (fun _ => by cases A <;> simp) hl
  rw [if_pos hw]
  unfold Oper.wp execOp
  simp only [ho, resolve, invoke, builtin, Sem.run_bind, Sem.run_pure, Result.andThen_ok, List.map_toArray, List.map_cons, List.map_nil, hs, hx, hr]
  exact h v1 w1 hR hB
end
section
variable {w W W2 : World} {S : Nat → Prop}
theorem kept_C {α : Type} {d : Kd α} (hd : Kd.Heap d) {A : Option Addr} {n : Nat} {xs : List α} (h : d.C w A n xs) (hh : ∀ k, k < w.heap.size → W.heap[k]? = w.heap[k]?) : d.C W A n xs := hd.C hh h
/-- A row that came in before w, kept since. -/
theorem kept_in {α : Type} {d : Kd α} (hd : Kd.Heap d) {w0 : World} {A : Option Addr} {n : Nat} {xs : List α} (h : d.C w0 A n xs) (hk : Kept w W S) (hb : Below w0.heap.size w0 w) (hS : ∀ k, S k → w0.heap.size ≤ k) : d.C W A n xs :=
  hd.C (fun k hlt => (hk.2 k (Nat.lt_of_lt_of_le hlt hb.size) (fun h2 => by have := hS k h2; omega)).trans (hb.block k hlt)) h
/-- What a call keeps that hands on a closure: all that was there before w00, and since w all but the captured blocks of S. -/
def Bk (w00 w : World) (S : Nat → Prop) (W : World) : Prop := Below w00.heap.size w00 W ∧ Kept w W S
theorem Bk.step {w00 : World} (h : Bk w00 w S W) (hb : Below W.heap.size W W2) : Bk w00 w S W2 := ⟨below_step h.1 hb, h.2.below hb⟩
theorem Bk.set {w00 : World} {g j : Nat} {v : Value} (h : Bk w00 w S W) (hg : w.heap.size ≤ g) (hw : w00.heap.size ≤ w.heap.size) : Bk w00 w S (W.setCell ⟨g, j, none⟩ v) := ⟨below_set h.1 (Nat.le_trans hw hg), h.2.setCell (p := ⟨g, j, none⟩) (.inr hg) v⟩
theorem Bk.call {w00 : World} (h : Bk w00 w S W) (hB : Below w00.heap.size w00 W2) (hk : Kept W W2 S) : Bk w00 w S W2 := ⟨hB, h.2.then_ hk (fun _ h2 => .inl h2)⟩
theorem Bk.start {w00 : World} (h0 : Below w00.heap.size w00 w) (h : Below w.heap.size w W) : Bk w00 w S W := ⟨below_step h0 h, Kept.of_below h S⟩
theorem Bk.grown {w00 : World} {g : Nat} (h : Bk w00 w S W) (hg : W.grownBy W2 (some g)) (hS : S g) (hw : w00.heap.size ≤ g) : Bk w00 w S W2 :=
  ⟨pw_below_grown h.1 _ h.1.size hg (fun k e => by injection e with e; omega), Kept.of_grown hg h.2 (fun k e => by injection e with e; subst e; exact .inl hS)⟩
theorem aA {P : Prop} (f : P := by (try simp only [List.map_toArray, List.map_cons, List.map_nil]); rfl) : P := f
end
end Go.Proofs.Ytpknkpbellchgaa.Cl
