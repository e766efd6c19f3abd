/- A map of the call's own, from numbers to truth values, told as a function. -/
import Derived.Maps.OwnSet
import Derived.Maps.Views
import Derived.Test.YtkbahcbankfffaaWMore
namespace Go.Proofs.Ytkbahcbankfffaa.Mp
open Go.RowKit Go.Maps Go.Proofs.YtkbahcbankfffaaW.PrintWords
section
variable {P:Program} {t k e:TypeId} {w w' : World} {b n:Nat} {m:Int→Bool}
def MapB (P:Program) (k e:TypeId) (w:World) (b n:Nat) (m:Int→Bool):Prop:=∃ D:DataW Unit,w.ownsMap P k (plainElem P e) b n D∧IsMap D∧∀ q,(Lit.int .i64 q).wf=true→D.atKey (.int .i64 q) (.lit (.bool false)) = .lit (.bool (m q))
theorem MapB.made (w:World) (P:Program) (k e:TypeId):MapB P k e (w.alloc (.map #[] 0)) w.heap.size 0 (fun _=>false) :=
  ⟨.map [],World.ownsMap_made w P k (plainElem P e),isMap_empty,fun _ _=>rfl⟩
theorem MapB.lt (h:MapB P k e w b n m):b<w.heap.size:=by obtain ⟨D,h1,_⟩:=h;exact h1.lt
theorem MapB.move (h:MapB P k e w b n m) (hm:w'.heap[b]? = w.heap[b]?):MapB P k e w' b n m:=by
  obtain ⟨D,⟨es,clock,hb,F,hs,hD⟩,h2⟩:=h
  exact ⟨D,⟨es,clock,hm.trans hb,F,hs,hD⟩,h2⟩
theorem MapB.grown {row:Option Nat} {q:Nat} (h:MapB P k e w b n m) (hg:w.grownBy w' row) (ht:∀ i,row=some i→∃ cells,w.heap[i]? = some (.cells cells q (0,0))):MapB P k e w' b n m:=by
  obtain ⟨D,⟨es,clock,hb,F,hs,hD⟩,h2⟩:=h
  refine ⟨D,⟨es,clock,(hg.block b (blk_lt hb) (fun he => ?_)).trans hb,F,hs,hD⟩,h2⟩
  obtain ⟨cells,hc⟩:=ht b he.symm
  rw[hb] at hc
  cases hc
theorem plainElem_bool_inv {H:Type} {P:Program} {e:TypeId} (he:P.underlying e=some .bool) {v:Value} {z:DataW H×List MemPlace} (h:plainElem P e v=some z):∃ x,v = .bool x∧z=(.lit (.bool x),[]):=by
  unfold plainElem at h
  rw[he] at h
  cases v <;> simp at h
  exact ⟨_,rfl,h.symm⟩
theorem MapB.update (h:MapB P k e w b n m) (hk:P.underlying k=some (.int .i64)) (he:P.underlying e=some .bool) (ht:P.underlying t=some (.map k e)) (hn:n<maxLen) (x:Int) (hx:(Lit.int .i64 x).wf=true) :
    ∃ w',(Instr.mapUpdate t (.map (some b)) (.int .i64 x) (.bool true)).run P w = .ok () w' ∧ MapB P k e w' b (n+1) (fun q=>if q=x then true else m q)∧w.grownBy w' (some b):=by
  obtain ⟨D,h1,h2,h3⟩:=h
  have hkey:=keyOf_int_mk hk hx
  obtain ⟨w',hrun,hown,hg⟩:=h1.update (int_keyed hk) ht hn hkey (plainElem_bool he true)
  refine ⟨w',hrun,⟨_,hown,h2.put _ _,fun q hq => ?_⟩,hg⟩
  by_cases e1:q=x
  · subst e1
    rw[atKey_put_same h2 ((int_keyed hk).key hkey)]
    simp
  · rw[atKey_put_other (by intro h;injection h with _ h;exact e1 h),h3 q hq]
    simp[e1]
theorem MapB.look (h:MapB P k e w b n m) (hk:P.underlying k=some (.int .i64)) (he:P.underlying e=some .bool) (ht:P.underlying t=some (.map k e)) (hz:(zeroValue e).run P w = .ok (.bool false) w) (x:Int) (hx:(Lit.int .i64 x).wf=true) :
    (Instr.lookup t (.map (some b)) (.int .i64 x) false).run P w = .ok (.bool (m x)) w:=by
  obtain ⟨D,h1,h2,h3⟩:=h
  obtain ⟨v,ps,hrun,hv⟩:=h1.lookup (int_keyed hk) ht hz (plainElem_bool he false) (keyOf_int_mk hk hx)
  obtain ⟨y,rfl,hy⟩:=plainElem_bool_inv he hv
  rw[hrun]
  have:=h3 x hx
  simp only[Prod.mk.injEq] at hy
  rw[hy.1] at this
  injection this with this
  injection this with this
  rw[this]
theorem store_map (P:Program):∀ (w:World) (a:Addr) (m:Mode) (v:Option Nat),(store a (.map v) m).run P w=stored P w a (.map v) m:=fun w a m _=>run_store P w a _ m rfl
end
theorem map_event {P:Program} {ops:Array Oper} {rest:List Oper} {o:Oper} {a:Act} {Q:Exit→Act→World→Prop} {W:World} (k e:TypeId) (hgd:o.guard=none)
    (hrun:(execOp a.eval o).run P W = .ok (.value (.map (some W.heap.size))) (W.alloc (.map #[] 0)))
    (h:∀ g,g=W.heap.size→∀ w1,MapB P k e w1 g 0 (fun _=>false)→Below W.heap.size W w1→wpList P ops Q rest (a.put o.dst (.map (some g))) w1):wpList P ops Q (o::rest) a W :=
  Kd.event_run hgd hrun (h _ rfl _ (MapB.made W P k e) (below_alloc (Below.refl _ _) _))
end Go.Proofs.Ytkbahcbankfffaa.Mp
