/- Rows of rows of rows: an element is a row whose own elements lie apart. -/
import Derived.Test.YtkbahcbankfffaaWMore
import Derived.Test.YtkbahcbankfffaaWNEv
import Derived.Test.YtkbahcbankfffaaWKept
import Derived.Test.YtkbahcbankfffaaSh
namespace Go.Proofs.Ytkbahcbankfffaa.Sl
open Go.RowKit Go.Proofs.Ytkbahcbankfffaa.Sh Go.Proofs.YtkbahcbankfffaaW.PrintWords Go.Proofs.YtkbahcbankfffaaW.PrintLast Go.Proofs.YtkbahcbankfffaaW.PrintMore
set_option linter.unusedVariables false
/-- A slice whose elements' rows lie apart. -/
def Kd.sliceS {α:Type} (e:Nat) (d:Kd α):Kd (List α) where
  sz:=1
  E:=e::d.E
  K:=fun w xs cs=>∃ A c,cs=[.slice A xs.length c]∧xs.length≤c∧d.C w A xs.length xs
  M:=fun w base ok xs cs=>∃ v,cs=[v]∧Kd.S d e w base ok v xs
  K_len:=by
    rintro w x cs ⟨A,c,rfl,_⟩
    rfl
  K_one:=by
    rintro w x cs ⟨A,c,rfl,_⟩ u hu
    rw[List.mem_singleton.1 hu]
    rfl
  K_below:=by
    rintro w w1 x cs hb ⟨A,c,rfl,hl,hr⟩
    exact ⟨A,c,rfl,hl,Kd.C_below hr hb⟩
  K_of_M:=by
    rintro w base ok x cs ⟨v,rfl,h⟩
    obtain ⟨A,c,rfl,hl,hr⟩:=Kd.S_reads h
    exact ⟨A,c,rfl,hl,hr⟩
  M_mono:=by
    rintro w base ok ok' x cs hok ⟨v,rfl,h⟩
    exact ⟨v,rfl,Kd.S_mono h hok⟩
  M_bound:=by
    rintro w base ok x cs ⟨v,rfl,h⟩
    exact ⟨v,rfl,Kd.S_bound h⟩
  M_move:=by
    rintro w w1 base ok x cs hm ⟨v,rfl,h⟩
    exact ⟨v,rfl,Kd.S_move h hm⟩
  M_lower:=by
    rintro w base base' ok x cs hb ⟨v,rfl,h⟩
    exact ⟨v,rfl,Kd.S_lower h hb⟩
section
variable {α:Type} {d:Kd α} {e e' g n cap:Nat} {w w1 W:World} {base:Nat} {ok ok' okp:Nat→Prop} {u v:Value} {xs:List (List α)} {ys:List α} {i:Int}
/-- Element i is put anew, by a row that was made just now. -/
theorem put_new (ho:Kd.S (Kd.sliceS e d) e' W base (fun _=>True) (.slice (some ⟨g,0,none⟩) n cap) xs) (hn:Kd.S d e w1 W.heap.size (fun _=>True) v ys) (hb:Below W.heap.size W w1) (hbase:base≤W.heap.size) (h0:0≤i) (h1:i<n) :
    (∃ c,w1.cell? ⟨g,i.toNat,none⟩=some c)∧w1.frozen? ⟨g,i.toNat,none⟩=false∧base≤g ∧
      Kd.S (Kd.sliceS e d) e' (w1.setCell ⟨g,i.toNat,none⟩ v) base (fun _=>True) (.slice (some ⟨g,0,none⟩) n cap) (xs.set i.toNat ys)∧w1.grownBy (w1.setCell ⟨g,i.toNat,none⟩ v) (some g):=by
  have hO:=Kd.S_old ho hb
  have hgo:(Value.slice (some ⟨g,0,none⟩) n cap).ownBlock=some g:=by simp[Value.ownBlock]
  have hgl:g<W.heap.size:=((Kd.S_R hO).1 g hgo).2
  have hgb:=Kd.S_base ho g hgo
  obtain ⟨oki,c,hcl,hM,hcc,hfr,hoki,hH⟩:=Kd.S_elem hO [] i h0 h1
  obtain ⟨u0,rfl,hu0⟩:=hM
  have hsz:(Kd.sliceS e d).sz=1:=rfl
  have hc0:=hcc 0 u0 rfl
  have hf0:=hfr 0
  rw[hsz,Nat.mul_one,Nat.add_zero] at hc0 hf0
  have hp:=Kd.S_seg (okg:=fun k=>W.heap.size≤k) (ok:=fun _=>True) (Kd.H_mono hH (ok' := fun k=>True∧¬ W.heap.size≤k) (fun k hk=>⟨trivial,by have:=hk.2;omega⟩)) h0 h1 (seg:=[v]) (j:=0) (show 0+1≤1 from by decide) (x' := ys)
    (show (Kd.sliceS e d).M w1 base (fun k=>W.heap.size≤k) ys [v] from ⟨v,rfl,Kd.S_lower (Kd.S_mono (Kd.S_bound hn) (fun k hk=>hk.2.1)) hbase⟩) (fun k hk => .inr hk) (fun k hk=>⟨trivial,by omega⟩)
  rw[hsz,Nat.mul_one,Nat.add_zero] at hp
  exact ⟨⟨_,hc0⟩,hf0,hgb,hp.1,hp.2⟩
end
section
variable {P:Program} {ops:Array Oper} {rest:List Oper} {o:Oper} {a:Act} {Q:Exit→Act→World→Prop} {α:Type}
/-- A row of one element, made just now. -/
theorem S_one {d:Kd α} {e base:Nat} {w:World} {ok:Nat→Prop} {v:Value} {x:α} (h:d.R e w base ok v [x]):Kd.S d e w base ok v [x]:=by
  obtain ⟨h0,inner,ho,hr⟩:=h
  refine ⟨fun _=>0,h0,inner,ho,⟨(show inner.length=[x].zipIdx.length*d.sz from by simpa using hr.1),fun j p hj => ?_⟩⟩
  have hj0:j=0:=by
    have:=(List.getElem?_eq_some_iff.1 hj).1
    simp at this
    exact this
  subst hj0
  have hp:p=(x,0):=by simpa using hj.symm
  subst hp
  exact d.M_mono (fun k hk=>⟨hk,rfl⟩) (hr.2 0 x rfl)
theorem lit1 (d:Kd α) {W:World} (base e:Nat) (hgd:o.guard=none) {N:Tmp} (_hd:o.dst=some N) {x:α} {inner:List Value} {ok okx:Nat→Prop}
    (hrun:(execOp a.eval o).run P W = .ok (.value (.slice (some ⟨W.heap.size,0,none⟩) 1 1)) (W.alloc (.cells inner.toArray e)))
    (hM:d.M W base okx x inner) (hok:∀ k,okx k→ok k) (hfresh:ok W.heap.size) (hbase:base≤W.heap.size)
    (h:∀ v1 w1,Kd.S d e w1 base ok v1 [x]→Below W.heap.size W w1→(∀ k,v1.ownBlock=some k→W.heap.size≤k)→wpList P ops Q rest (a.put o.dst v1) w1):wpList P ops Q (o::rest) a W:=by
  have hlen:inner.length=d.sz:=d.K_len (d.K_of_M hM)
  have hrep:Reps (d.M W base okx) d.sz [x] inner:=⟨by simpa using hlen,fun j p hj=>by
    have hj0:j=0:=by
      have:=(List.getElem?_eq_some_iff.1 hj).1
      simp at this
      exact this
    subst hj0
    have hp:p=x:=by simpa using hj.symm
    subst hp
    rw[Nat.zero_mul,List.drop_zero,List.take_of_length_le (by omega)]
    exact hM⟩
  refine Kd.event_run hgd hrun (h _ _ (S_one ⟨fun k hk => ?_,inner,?_,?_⟩) (below_alloc (Below.refl _ _) _) (fun k hk => ?_))
  · have:W.heap.size=k:=by simpa [Value.ownBlock] using hk
    subst this
    exact hfresh
  · have h2:=World.ownsRow_lit (base:=base) (e:=e) (size:=d.sz) W inner.toArray 1 hbase (by simp[maxLen]) (by simpa using hlen)
    simpa using h2
  · refine hrep.imp_ (fun p c hp=>d.M_mono (fun k hk=>⟨hok k hk.1,fun he => ?_⟩) (Kd.M_below (d.M_bound hp) (below_alloc (Below.refl _ _) _)))
    have h3:k=W.heap.size:=by simpa [Value.ownBlock] using he
    have:=hk.2.2.1
    omega
  · have:W.heap.size=k:=by simpa [Value.ownBlock] using hk
    omega
theorem R_of_reps (d:Kd α) {W:World} {base e:Nat} {xs:List α} {inner:List Value} {ok:Nat→Prop} (hrep:Reps (d.M W base ok) d.sz xs inner) (hfresh:ok W.heap.size) (hbase:base≤W.heap.size) (hm:xs.length≤9223372036854775807) :
    d.R e (W.alloc (.cells inner.toArray e)) base ok (.slice (some ⟨W.heap.size,0,none⟩) xs.length xs.length) xs:=by
  refine ⟨fun k hk => ?_,inner,?_,?_⟩
  · have:W.heap.size=k:=by simpa [Value.ownBlock] using hk
    subst this
    exact hfresh
  · have h2:=World.ownsRow_lit (base:=base) (e:=e) (size:=d.sz) W inner.toArray xs.length hbase (by simpa [maxLen] using hm) (by simpa using hrep.1)
    simpa using h2
  · refine hrep.imp_ (fun p c hp=>d.M_mono (fun k hk=>⟨hk.1,fun he => ?_⟩) (Kd.M_below (d.M_bound hp) (below_alloc (Below.refl _ _) _)))
    have h3:k=W.heap.size:=by simpa [Value.ownBlock] using he
    have:=hk.2.2.1
    omega
theorem lit2 (d:Kd α) {W:World} (base e:Nat) (hgd:o.guard=none) {N:Tmp} (_hd:o.dst=some N) {x y:α} {ix iy inner:List Value} {okx oky:Nat→Prop} (hin:inner=ix++iy)
    (hrun:(execOp a.eval o).run P W = .ok (.value (.slice (some ⟨W.heap.size,0,none⟩) 2 2)) (W.alloc (.cells inner.toArray e)))
    (hx:d.M W base okx x ix) (hy:d.M W base oky y iy) (hxy:∀ k,okx k→¬ oky k) (hbase:base≤W.heap.size)
    (h:∀ v1 w1,Kd.S d e w1 base (fun _=>True) v1 [x,y]→Below W.heap.size W w1→(∀ k,v1.ownBlock=some k→W.heap.size≤k)→wpList P ops Q rest (a.put o.dst v1) w1):wpList P ops Q (o::rest) a W:=by
  have hlx:ix.length=d.sz:=d.K_len (d.K_of_M hx)
  have hly:iy.length=d.sz:=d.K_len (d.K_of_M hy)
  obtain ⟨f,hr⟩:=Kd.reps_tag (d:=d) (w:=W) (base:=base) (ok:=fun _=>True) (xs:=[x,y]) (inner:=inner) (fun j k=>(j=0∧okx k)∨(j=1∧oky k))
    (fun i j k hi hj=>by
      rcases hi with ⟨rfl,hi⟩|⟨rfl,hi⟩ <;> rcases hj with ⟨rfl,hj⟩|⟨rfl,hj⟩
      · rfl
      · exact absurd hj (hxy k hi)
      · exact absurd hi (hxy k hj)
      · rfl) (fun _ _ _=>trivial) (by rw[hin,List.length_append,hlx,hly];simp;omega)
    (fun j z hz=>by
      have hj:j<2:=(List.getElem?_eq_some_iff.1 hz).1
      have hj2:j=0∨j=1:=by omega
      rcases hj2 with rfl|rfl
      · have e:z=x:=by simpa using hz.symm
        subst e
        rw[hin,Nat.zero_mul,List.drop_zero,List.take_append_of_le_length (by omega),List.take_of_length_le (by omega)]
        exact d.M_mono (fun k hk => .inl ⟨rfl,hk⟩) hx
      · have e:z=y:=by simpa using hz.symm
        subst e
        rw[hin,Nat.one_mul,List.drop_append_of_le_length (by omega),List.drop_of_length_le (by omega),List.nil_append,List.take_of_length_le (by omega)]
        exact d.M_mono (fun k hk => .inr ⟨rfl,hk⟩) hy)
  refine Kd.event_run hgd hrun (h _ _ ⟨f,R_of_reps (Kd.tag f d) hr trivial hbase (by simp)⟩ (below_alloc (Below.refl _ _) _) (fun k hk => ?_))
  have:W.heap.size=k:=by simpa [Value.ownBlock] using hk
  omega
theorem cut_R {d:Kd α} {e base n c m:Nat} {w:World} {ok:Nat→Prop} {A:Option Addr} {xs ys:List α} (h:d.R e w base ok (.slice A n c) xs) (hy:ys=xs.take m) (hl:ys.length=m):d.R e w base ok (.slice A ys.length c) ys:=by
  subst hy
  have hm:m≤xs.length:=by rw[List.length_take] at hl;omega
  rw[hl]
  exact Kd.R_take h hm
end
end Go.Proofs.Ytkbahcbankfffaa.Sl
