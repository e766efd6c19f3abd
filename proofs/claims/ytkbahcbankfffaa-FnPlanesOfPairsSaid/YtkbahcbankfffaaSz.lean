/- More short names for steps that the printed walks take again and again. -/
import Derived.Test.YtkbahcbankfffaaSh
import Derived.Test.YtkbahcbankfffaaWLast
import Derived.Test.YtkbahcbankfffaaWMore
import Derived.KernelRfl
namespace Go.Proofs.Ytkbahcbankfffaa.Sh
open Go Go.RowKit Go.Proofs.YtkbahcbankfffaaW.PrintWords Go.Proofs.YtkbahcbankfffaaW.PrintLast Go.Proofs.YtkbahcbankfffaaW.PrintMore
set_option linter.unusedVariables false
theorem bS {α β:Type} {o:Option α} {f:α→Option β} {r:β} (h:o.bind f=some r):∃ t,Aside0 (o=some t)∧f t=some r:=by
  obtain ⟨t,h1,h2⟩:=Option.bind_eq_some_iff.mp h; exact ⟨t,⟨h1⟩,h2⟩
theorem yH {α:Type} {y e:α} {P Q:Prop} (hy:y=e) (H:P) (f:y=e→P→Q:=by intro hy_ H_;first|(rw[hy_];with_reducible exact H_)|(have H2_:=(Option.bind_some _ _).symm.trans H_;rw[hy_];with_reducible exact H2_)|(have H2_:=(Option.bind_some _ _).symm.trans H_;with_reducible exact H2_)|with_reducible exact H_|(rw[hy_];exact H_)|exact H_):Q:=f hy H
theorem qT {α:Type} [BEq α] [LawfulBEq α] {a b:α} (h:a=b):(a==b)=true:=beq_iff_eq.mpr h
theorem qF {α:Type} [BEq α] [LawfulBEq α] {a b:α} (h:¬ a=b):(a==b)=false:=beq_eq_false_iff_ne.mpr h
theorem nT {α:Type} [BEq α] [LawfulBEq α] {a b:α} (h:¬ a=b):(a != b)=true:=bne_iff_ne.mpr h
theorem nF {α:Type} [BEq α] [LawfulBEq α] {a b:α} (h:a=b):(a != b)=false:=bne_eq_false_iff_eq.mpr h
theorem iP {α:Type} {c:Prop} [Decidable c] {a b:Option α} {r:Option α} (h:c) (H:(if c then a else b)=r):a=r:=by rw[if_pos h] at H;exact H
theorem iN {α:Type} {c:Prop} [Decidable c] {a b:Option α} {r:Option α} (h:¬ c) (H:(if c then a else b)=r):b=r:=by rw[if_neg h] at H;exact H
theorem iT {α:Type} {a b:Option α} {r:Option α} {d:Decidable (true=true)} (H:(@ite _ (true=true) d a b)=r):a=r:=by rw[if_pos rfl] at H;exact H
theorem iF {α:Type} {a b:Option α} {r:Option α} {d:Decidable (false=true)} (H:(@ite _ (false=true) d a b)=r):b=r:=by rw[if_neg (fun h=>Bool.noConfusion h)] at H;exact H
theorem dR {P:Prop} (f:P:=by repeat (first|exact Drawn0.refl _|apply Drawn0.step)):P:=f
theorem hC {w W:World} {p:Addr} {v:Value} (hb:Aside0 (Below w.heap.size w W)) (h:w.cell? p=some v):W.cell? p=some v:=(hb.out.cell (World.block_lt_of_cell? w _ h)).trans h
theorem gS {g:Nat} {w W:World} (hg:g=W.heap.size) (hb:Below w.heap.size w W):Aside0 (w.heap.size≤g):=⟨by rw[hg];exact below_size hb⟩
theorem gN {g b:Nat} {u W:World} {o:Obj} (hg:g=W.heap.size) (h:Aside0 (u.heap[b]? = some o)) (f:u.heap[b]? = some o→W.heap[b]? = some o:=by intro h_;(with_reducible repeat (first|refine blk_drewN ?_ _|refine blk_drew ?_|refine blk_alloc ?_ _));exact h_):Aside0 (b≠g):=⟨by rw[hg];exact Nat.ne_of_lt (blk_lt (f h.out))⟩
theorem gM {g b:Nat} {u W:World} {o:Obj} (hg:g=W.heap.size) (h:Aside0 (u.heap[b]? = some o)) (f:u.heap[b]? = some o→W.heap[b]? = some o:=by intro h_;(with_reducible repeat (first|refine blk_drewN ?_ _|refine blk_drew ?_|refine blk_alloc ?_ _));exact h_):Aside0 (g≠b):=⟨by rw[hg];exact Nat.ne_of_gt (blk_lt (f h.out))⟩
theorem kM {k n:Nat} {Q:Prop} (h:Aside0 (k≤n)) (f:k≤n→Q:=by intro h_;omega):Q:=f h.out
theorem i0 {P Q:Prop} (h:Aside0 P) (f:P→Q:=by intro h_;repeat (first|(with_reducible first|exact h_|apply IsS81.alloc|apply IsS81.drewN|apply IsS81.drew|apply IsS81.set_1|apply IsS81.set_2)|exact h_)):Q:=f h.out
theorem i1 {P Q:Prop} {R0:Prop} (h:Aside0 P) (g0_:Aside0 R0) (f:P→R0→Q:=by intro h_ g0;repeat (first|(with_reducible first|exact h_|apply IsS81.alloc|apply IsS81.drewN|apply IsS81.drew|apply IsS81.set_1|apply IsS81.set_2|refine IsS81.far ?_ g0 _)|exact h_)):Q:=f h.out g0_.out
theorem i2 {P Q:Prop} {R0:Prop} {R1:Prop} (h:Aside0 P) (g0_:Aside0 R0) (g1_:Aside0 R1) (f:P→R0→R1→Q:=by intro h_ g0 g1;repeat (first|(with_reducible first|exact h_|apply IsS81.alloc|apply IsS81.drewN|apply IsS81.drew|apply IsS81.set_1|apply IsS81.set_2|refine IsS81.far ?_ g0 _|refine IsS81.far ?_ g1 _)|exact h_)):Q:=f h.out g0_.out g1_.out
theorem i3 {P Q:Prop} {R0:Prop} {R1:Prop} {R2:Prop} (h:Aside0 P) (g0_:Aside0 R0) (g1_:Aside0 R1) (g2_:Aside0 R2) (f:P→R0→R1→R2→Q:=by intro h_ g0 g1 g2;repeat (first|(with_reducible first|exact h_|apply IsS81.alloc|apply IsS81.drewN|apply IsS81.drew|apply IsS81.set_1|apply IsS81.set_2|refine IsS81.far ?_ g0 _|refine IsS81.far ?_ g1 _|refine IsS81.far ?_ g2 _)|exact h_)):Q:=f h.out g0_.out g1_.out g2_.out
theorem k0 {P Q:Prop} (h:Aside0 P) (f:P→Q:=by intro h_;repeat (first|(with_reducible first|exact h_|apply KeepBut.set_|apply keep_drewN|apply keep_drew|apply keep_alloc)|exact h_)):Q:=f h.out
theorem k1 {P Q:Prop} {R0:Prop} (h:Aside0 P) (g0_:Aside0 R0) (f:P→R0→Q:=by intro h_ g0;repeat (first|(with_reducible first|exact h_|apply KeepBut.set_|apply keep_drewN|apply keep_drew|apply keep_alloc|refine keep_far ?_ g0 _)|exact h_)):Q:=f h.out g0_.out
theorem k2 {P Q:Prop} {R0:Prop} {R1:Prop} (h:Aside0 P) (g0_:Aside0 R0) (g1_:Aside0 R1) (f:P→R0→R1→Q:=by intro h_ g0 g1;repeat (first|(with_reducible first|exact h_|apply KeepBut.set_|apply keep_drewN|apply keep_drew|apply keep_alloc|refine keep_far ?_ g0 _|refine keep_far ?_ g1 _)|exact h_)):Q:=f h.out g0_.out g1_.out
theorem k3 {P Q:Prop} {R0:Prop} {R1:Prop} {R2:Prop} (h:Aside0 P) (g0_:Aside0 R0) (g1_:Aside0 R1) (g2_:Aside0 R2) (f:P→R0→R1→R2→Q:=by intro h_ g0 g1 g2;repeat (first|(with_reducible first|exact h_|apply KeepBut.set_|apply keep_drewN|apply keep_drew|apply keep_alloc|refine keep_far ?_ g0 _|refine keep_far ?_ g1 _|refine keep_far ?_ g2 _)|exact h_)):Q:=f h.out g0_.out g1_.out g2_.out
theorem d1 {P Q:Prop} {R0:Prop} (h:Aside0 P) (g0_:Aside0 R0) (f:P→R0→Q:=by intro h_ g0;repeat (first|(with_reducible first|exact h_|apply below_alloc|apply pw_below_drewN|apply below_drew1|refine below_set ?_ (IsS81.ge g0))|exact h_)):Q:=f h.out g0_.out
theorem d2 {P Q:Prop} {R0:Prop} {R1:Prop} (h:Aside0 P) (g0_:Aside0 R0) (g1_:Aside0 R1) (f:P→R0→R1→Q:=by intro h_ g0 g1;repeat (first|(with_reducible first|exact h_|apply below_alloc|apply pw_below_drewN|apply below_drew1|refine below_set ?_ (IsS81.ge g0)|refine below_set ?_ g1)|exact h_)):Q:=f h.out g0_.out g1_.out
theorem d3 {P Q:Prop} {R0:Prop} {R1:Prop} {R2:Prop} (h:Aside0 P) (g0_:Aside0 R0) (g1_:Aside0 R1) (g2_:Aside0 R2) (f:P→R0→R1→R2→Q:=by intro h_ g0 g1 g2;repeat (first|(with_reducible first|exact h_|apply below_alloc|apply pw_below_drewN|apply below_drew1|refine below_set ?_ (IsS81.ge g0)|refine below_set ?_ g1|refine below_set ?_ g2)|exact h_)):Q:=f h.out g0_.out g1_.out g2_.out
theorem d4 {P Q:Prop} {R0:Prop} {R1:Prop} {R2:Prop} {R3:Prop} (h:Aside0 P) (g0_:Aside0 R0) (g1_:Aside0 R1) (g2_:Aside0 R2) (g3_:Aside0 R3) (f:P→R0→R1→R2→R3→Q:=by intro h_ g0 g1 g2 g3;repeat (first|(with_reducible first|exact h_|apply below_alloc|apply pw_below_drewN|apply below_drew1|refine below_set ?_ (IsS81.ge g0)|refine below_set ?_ g1|refine below_set ?_ g2|refine below_set ?_ g3)|exact h_)):Q:=f h.out g0_.out g1_.out g2_.out g3_.out
theorem i4 {P Q:Prop} {R0:Prop} {R1:Prop} {R2:Prop} {R3:Prop} (h:Aside0 P) (g0_:Aside0 R0) (g1_:Aside0 R1) (g2_:Aside0 R2) (g3_:Aside0 R3) (f:P→R0→R1→R2→R3→Q:=by intro h_ g0 g1 g2 g3;repeat (first|(with_reducible first|exact h_|apply IsS81.alloc|apply IsS81.drewN|apply IsS81.drew|apply IsS81.set_1|apply IsS81.set_2|refine IsS81.far ?_ g0 _|refine IsS81.far ?_ g1 _|refine IsS81.far ?_ g2 _|refine IsS81.far ?_ g3 _)|exact h_)):Q:=f h.out g0_.out g1_.out g2_.out g3_.out
theorem k4 {P Q:Prop} {R0:Prop} {R1:Prop} {R2:Prop} {R3:Prop} (h:Aside0 P) (g0_:Aside0 R0) (g1_:Aside0 R1) (g2_:Aside0 R2) (g3_:Aside0 R3) (f:P→R0→R1→R2→R3→Q:=by intro h_ g0 g1 g2 g3;repeat (first|(with_reducible first|exact h_|apply KeepBut.set_|apply keep_drewN|apply keep_drew|apply keep_alloc|refine keep_far ?_ g0 _|refine keep_far ?_ g1 _|refine keep_far ?_ g2 _|refine keep_far ?_ g3 _)|exact h_)):Q:=f h.out g0_.out g1_.out g2_.out g3_.out
theorem d5 {P Q:Prop} {R0:Prop} {R1:Prop} {R2:Prop} {R3:Prop} {R4:Prop} (h:Aside0 P) (g0_:Aside0 R0) (g1_:Aside0 R1) (g2_:Aside0 R2) (g3_:Aside0 R3) (g4_:Aside0 R4) (f:P→R0→R1→R2→R3→R4→Q:=by intro h_ g0 g1 g2 g3 g4;repeat (first|(with_reducible first|exact h_|apply below_alloc|apply pw_below_drewN|apply below_drew1|refine below_set ?_ (IsS81.ge g0)|refine below_set ?_ g1|refine below_set ?_ g2|refine below_set ?_ g3|refine below_set ?_ g4)|exact h_)):Q:=f h.out g0_.out g1_.out g2_.out g3_.out g4_.out
section
variable {P:Program} {ops:Array Oper} {rest:List Oper} {o:Oper} {a:Act} {Q:Exit→Act→World→Prop}
theorem gC (f:FuncId) {W:World} {as:Array Operand} {ts:Array TypeId} (h:wpList P ops Q (o::rest) a W) (ho:o.op = .call {callee := .value (.func f),args:=as,argTypes:=ts}:=by with_reducible rfl):wpList P ops Q (o::rest) a W:=h
theorem gD (N:Tmp) {W:World} (h:wpList P ops Q (o::rest) a W) (ho:o.dst=some N:=by with_reducible rfl):wpList P ops Q (o::rest) a W:=h
theorem gL {w:World} (N:Tmp) {f:FuncId} {fn:Func} {as:Array Operand} {ts:Array TypeId} (hf:P.funcs[f]? = some fn) (args:Array Value) (h:Calls P f args w fun e w' => ∃ v,e = .returned v∧wpList P ops Q rest (a.put (some N) v) w') (hd:o.dst=some N:=by rfl) (hg:o.guard=none:=by rfl) (hop:o.op = .call {callee := .value (.func f),args:=as,argTypes:=ts}:=by rfl) (hname:(fn.name == "runtime.NumGoroutine")=false:=by kernel_rfl) (hb:fn.body.isSome=true:=by rfl) (hargs:as.map a.eval=args:=by (try simp only[List.map_toArray,List.map_cons,List.map_nil]);first|done|rfl|(simp only[List.length_drop,List.length_take];rfl)):wpList P ops Q (o::rest) a w :=
  goesL_ (some N) hd hg hf hname hb args hop hargs h
end
theorem xB {P Q:Prop} (h:P) (f:P→Q:=by intro h_;(with_reducible repeat (first|refine blk_drewN ?_ _|refine blk_drew ?_|refine blk_alloc ?_ _));exact h_):Q:=f h
theorem xR {P Q:Prop} (h:P) (f:P→Q:=by intro h_;(with_reducible repeat (first|apply Kd.R_alloc|apply Kd.R_drewN|apply Kd.R_drew));exact h_):Q:=f h
theorem xV {P Q:Prop} (h:P) (f:P→Q:=by intro h_;(with_reducible repeat (first|apply Kd.V_alloc|apply Kd.V_drewN|apply Kd.V_drew));exact h_):Q:=f h
theorem xN {P Q:Prop} (h:P) (f:P→Q:=by intro h_;(with_reducible repeat (first|apply Kd.N_alloc|apply Kd.N_drewN|apply Kd.N_drew));exact h_):Q:=f h
theorem xS {P Q:Prop} (h:P) (f:P→Q:=by intro h_;(with_reducible repeat (first|apply Kd.S_alloc|apply Kd.S_drewN|apply Kd.S_drew));exact h_):Q:=f h
end Go.Proofs.Ytkbahcbankfffaa.Sh
