/- A literal of two elements whose rows lie apart, and what they may lie in told. -/
import Derived.Test.YtkbahcbankfffaaSl
namespace Go.Proofs.Ytkbahcbankfffaa.Sl
open Go.RowKit Go.Proofs.Ytkbahcbankfffaa.Sh Go.Proofs.YtkbahcbankfffaaW.PrintWords Go.Proofs.YtkbahcbankfffaaW.PrintLast Go.Proofs.YtkbahcbankfffaaW.PrintMore
set_option linter.unusedVariables false
section
variable {P:Program} {ops:Array Oper} {rest:List Oper} {o:Oper} {a:Act} {Q:Exit→Act→World→Prop} {α:Type}
theorem lit2k (d:Kd α) {W:World} (base e:Nat) (hgd:o.guard=none) {N:Tmp} (_hd:o.dst=some N) {x y:α} {ix iy inner:List Value} {okx oky ok:Nat→Prop} (hin:inner=ix++iy)
    (hrun:(execOp a.eval o).run P W = .ok (.value (.slice (some ⟨W.heap.size,0,none⟩) 2 2)) (W.alloc (.cells inner.toArray e)))
    (hx:d.M W base okx x ix) (hy:d.M W base oky y iy) (hxy:∀ k,okx k→¬ oky k) (hox:∀ k,okx k→ok k) (hoy:∀ k,oky k→ok k) (hfresh:ok W.heap.size) (hbase:base≤W.heap.size)
    (h:∀ v1 w1,Kd.S d e w1 base ok v1 [x,y]→Below W.heap.size W w1→(∀ k,v1.ownBlock=some k→W.heap.size≤k)→wpList P ops Q rest (a.put o.dst v1) w1):wpList P ops Q (o::rest) a W:=by
  have hlx:ix.length=d.sz:=d.K_len (d.K_of_M hx)
  have hly:iy.length=d.sz:=d.K_len (d.K_of_M hy)
  obtain ⟨f,hr⟩:=Kd.reps_tag (d:=d) (w:=W) (base:=base) (ok:=ok) (xs:=[x,y]) (inner:=inner) (fun j k=>(j=0∧okx k)∨(j=1∧oky k))
    (fun i j k hi hj=>by
      rcases hi with ⟨rfl,hi⟩|⟨rfl,hi⟩ <;> rcases hj with ⟨rfl,hj⟩|⟨rfl,hj⟩
      · rfl
      · exact absurd hj (hxy k hi)
      · exact absurd hi (hxy k hj)
      · rfl) (fun j k hk=>hk.elim (fun h=>hox k h.2) (fun h=>hoy k h.2)) (by rw[hin,List.length_append,hlx,hly];simp;omega)
    (fun j z hz=>by
      have hj:j<2:=(List.getElem?_eq_some_iff.1 hz).1
      have hj2:j=0∨j=1:=by omega
      rcases hj2 with rfl|rfl
      · have e:z=x:=by simpa using hz.symm
        subst e
        rw[hin,Nat.zero_mul,List.drop_zero,List.take_append_of_le_length (by omega),List.take_of_length_le (by omega)]
        exact d.M_mono (fun k hk => .inl ⟨rfl,hk⟩) hx
      · have e:z=y:=by simpa using hz.symm
        subst e
        rw[hin,Nat.one_mul,List.drop_append_of_le_length (by omega),List.drop_of_length_le (by omega),List.nil_append,List.take_of_length_le (by omega)]
        exact d.M_mono (fun k hk => .inr ⟨rfl,hk⟩) hy)
  refine Kd.event_run hgd hrun (h _ _ ⟨f,R_of_reps (Kd.tag f d) hr hfresh hbase (by simp)⟩ (below_alloc (Below.refl _ _) _) (fun k hk => ?_))
  have:W.heap.size=k:=by simpa [Value.ownBlock] using hk
  omega
theorem R_sub {d d' : Kd α} {e base:Nat} {w:World} {ok:Nat→Prop} {v:Value} {xs:List α} (hsz:d.sz=d'.sz) (hM:∀ (w:World) (base:Nat) (ok:Nat→Prop) (x:α) (cs:List Value),d.M w base ok x cs→d'.M w base ok x cs) (h:d.R e w base ok v xs):d'.R e w base ok v xs:=by
  obtain ⟨h0,inner,ho,hr⟩:=h
  exact ⟨h0,inner,by rw[← hsz];exact ho,by rw[← hsz];exact hr.imp_ (fun p c hp=>hM _ _ _ _ _ hp)⟩
/-- Rows of rows that lie apart are rows of rows. -/
theorem R_of_SS {d:Kd α} {e e' base:Nat} {w:World} {ok:Nat→Prop} {v:Value} {xs:List (List α)} (h:Kd.S (Kd.sliceS e d) e' w base ok v xs):Kd.R (Kd.slice e d) e' w base ok v xs :=
  R_sub (d:=Kd.sliceS e d) (d' := Kd.slice e d) rfl (fun w base ok x cs ⟨v,hc,hs⟩=>⟨v,hc,Kd.S_R hs⟩) (Kd.S_R h)
end
end Go.Proofs.Ytkbahcbankfffaa.Sl
