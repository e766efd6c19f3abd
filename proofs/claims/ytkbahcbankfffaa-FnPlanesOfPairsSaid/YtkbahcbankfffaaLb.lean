/- Plain lemmas about rounds, lists and 64-bit numbers. -/
import Derived.Test.YtkbahcbankfffaaWWords
import Derived.Test.YtkbahcbankfffaaWMore
namespace Go.Proofs.Ytkbahcbankfffaa.Lb
open Go.RowKit Go.Proofs.YtkbahcbankfffaaW.PrintWords Go.Proofs.YtkbahcbankfffaaW.PrintMore
/-- g comes to what h comes to. -/
def To {α:Type} (g h:Nat→Option α):Prop:=∀ r,Ev h r→Ev g r
theorem To.refl {α:Type} (g:Nat→Option α):To g g:=fun _ h=>h
theorem To.trans {α:Type} {g h i:Nat→Option α} (a:To g h) (b:To h i):To g i:=fun r k=>a r (b r k)
theorem To.step {α:Type} {g f:Nat→Option α} (h:∀ k,g (k+1)=f k):To g f:=fun _ k=>Ev.step h k
theorem To.bind {α β:Type} {g:Nat→Option α} {f:Nat→α→Option β} {a:α} (h:Ev g a):To (fun n=>(g n).bind (f n)) (fun n=>f n a):=fun _ k=>Ev.bind h k
theorem To.congr {α:Type} {g f:Nat→Option α} (h:∀ k,g k=f k):To g f:=fun _ k=>Ev.congr h k
theorem Ev.step' {α:Type} {g f:Nat→Option α} {r:α} (h:∀ k,g (k+1)=f k) (k:Ev f r):Ev g r:=Ev.step h k
theorem ev_const {α:Type} {g:Nat→Option α} {r:α} (h:∀ k,g k=some r):Ev g r:=⟨0,fun k _=>h k⟩
theorem getD_mem {α:Type} {xs:List α} {i:Nat} (h:i<xs.length) (d:α):xs.getD i d∈xs:=by
  rw[List.getD_eq_getElem?_getD,List.getElem?_eq_getElem h]
  exact List.getElem_mem h
/-- A loop that asks each element, and ends at the first that says no. -/
theorem ev_all {L:Int→Nat→Option Bool} {n:Nat} {p:Nat→Bool} (hT:∀ i:Nat,i<n→p i=true→To (L i) (L ((i+1:Nat):Int))) (hF:∀ i:Nat,i<n→p i=false→Ev (L i) false) (hN:Ev (L n) true):Ev (L 0) ((List.range n).all p):=by
  have key:∀ d i:Nat,i+d=n→Ev (L i) ((List.range' i d).all p):=by
    intro d
    induction d with
    | zero =>
      intro i hi
      obtain rfl:i=n:=by omega
      exact hN
    | succ d ih =>
      intro i hi
      rw[List.range'_succ,List.all_cons]
      cases hp:p i with
      | true=>exact hT i (by omega) hp _ (ih (i+1) (by omega))
      | false=>exact hF i (by omega) hp
  have:=key n 0 (by omega)
  rw[List.range_eq_range']
  exact this
/-- A loop that goes over all i < n and turns a state. -/
theorem to_fold {α σ:Type} {L:Int→σ→Nat→Option α} {n:Nat} {f:Nat→σ→σ} (Inv:Nat→σ→Prop) (h:∀ (i:Nat) s,i<n→Inv i s→To (L i s) (L ((i+1:Nat):Int) (f i s))∧Inv (i+1) (f i s)) (s0:σ) (h0:Inv 0 s0) :
    To (L 0 s0) (L n ((List.range n).foldl (fun s i=>f i s) s0))∧Inv n ((List.range n).foldl (fun s i=>f i s) s0):=by
  have key:∀ d i:Nat,i+d=n→∀ s,Inv i s→To (L i s) (L n ((List.range' i d).foldl (fun s i=>f i s) s))∧Inv n ((List.range' i d).foldl (fun s i=>f i s) s):=by
    intro d
    induction d with
    | zero =>
      intro i hi s hs
      obtain rfl:i=n:=by omega
      exact ⟨To.refl _,hs⟩
    | succ d ih =>
      intro i hi s hs
      rw[List.range'_succ,List.foldl_cons]
      obtain ⟨a,b⟩:=h i s (by omega) hs
      obtain ⟨c,e⟩:=ih (i+1) (by omega) _ b
      exact ⟨a.trans c,e⟩
  rw[List.range_eq_range']
  exact key n 0 (by omega) s0 h0
theorem range_all {α:Type} (xs:List α) (q:α→Bool) (d:α):((List.range xs.length).all fun i=>q (xs.getD i d))=xs.all q:=by
  rw[Bool.eq_iff_iff,List.all_eq_true,List.all_eq_true]
  constructor
  · intro h x hx
    obtain ⟨i,hi,rfl⟩:=List.mem_iff_getElem.1 hx
    have:=h i (List.mem_range.2 hi)
    rwa [List.getD_eq_getElem?_getD,List.getElem?_eq_getElem hi] at this
  · intro h i hi
    have hi:=List.mem_range.1 hi
    rw[List.getD_eq_getElem?_getD,List.getElem?_eq_getElem hi]
    exact h _ (List.getElem_mem hi)
theorem range_fold {α σ:Type} (xs:List α) (g:σ→α→σ) (d:α) (s:σ):(List.range xs.length).foldl (fun s i=>g s (xs.getD i d)) s=xs.foldl g s:=by
  have:xs=(List.range xs.length).map (fun i=>xs.getD i d):=by
    apply List.ext_getElem?
    intro i
    by_cases hi:i<xs.length
    · simp[hi]
    · simp[hi]
  conv=>rhs;rw[this,List.foldl_map]
theorem range_map {α β:Type} (xs:List α) (g:α→β) (d:α):(List.range xs.length).map (fun i=>g (xs.getD i d))=xs.map g:=by
  apply List.ext_getElem?
  intro i
  by_cases hi:i<xs.length
  · simp[hi]
  · simp[hi]
theorem fold_append {α:Type} (n:Nat) (g:Nat→α) (s:List α):(List.range n).foldl (fun s i=>s++[g i]) s=s++(List.range n).map g:=by
  induction n with
  | zero=>simp
  | succ n ih=>rw[List.range_succ,List.foldl_append,ih];simp
theorem wrap_id {x:Int} (h0 : -9223372036854775808≤x) (h1:x≤9223372036854775807):wrap64 x=x:=by unfold wrap64;omega
theorem wrap_succ {i n:Nat} (h:i<n) (hn:n≤9223372036854775807):wrap64 ((i:Int)+1)=((i+1:Nat):Int):=by unfold wrap64;omega
theorem rd_nat (xs:List Int) (i:Nat):rd xs (i:Int)=xs.getD i 0:=by simp[rd]
theorem ev_yes {α:Type} {L:Int→Nat→Option α} {n:Nat} {r:α} (hT:∀ i:Nat,i<n→To (L i) (L ((i+1:Nat):Int))) (hN:Ev (L n) r):Ev (L 0) r:=by
  have key:∀ d i:Nat,i+d=n→Ev (L i) r:=by
    intro d
    induction d with
    | zero =>
      intro i hi
      obtain rfl:i=n:=by omega
      exact hN
    | succ d ih=>intro i hi;exact hT i (by omega) _ (ih (i+1) (by omega))
  exact key n 0 (by omega)
theorem set_step {α:Type} (l:List α) (z d:α) (i:Nat) (h:i<l.length):(l.take i++List.replicate (l.length-i) z).set i (l.getD i d)=l.take (i+1)++List.replicate (l.length-(i+1)) z:=by
  have hi:(l.take i).length=i:=by rw[List.length_take];omega
  rw[List.set_append_right _ _ (by omega),hi,Nat.sub_self]
  obtain ⟨m,hm⟩:∃ m,l.length-i=m+1:=⟨l.length-i-1,by omega⟩
  rw[hm,List.replicate_succ,List.set_cons_zero,List.getD_eq_getElem?_getD,List.getElem?_eq_getElem h,show l.length-(i+1)=m by omega,Option.getD_some]
  have e:=List.take_succ_eq_append_getElem h
  rw[e,List.append_assoc];rfl
/-- A loop over a list: M tells what it comes to from element i on. -/
theorem ev_list {α σ ρ:Type} (d0:α) (xs:List α) (L:Int→σ→Nat→Option ρ) (M:Nat→List α→σ→ρ) (Inv:Nat→σ→Prop) (hN:∀ s,Inv xs.length s→Ev (L xs.length s) (M xs.length [] s))
    (hS:∀ (i:Nat) (x:α) (ys:List α) (s:σ),i<xs.length→xs.getD i d0=x→x∈xs→Inv i s→(∀ s',Inv (i+1) s' → Ev (L ((i+1:Nat):Int) s') (M (i+1) ys s'))→Ev (L i s) (M i (x::ys) s)) :
    ∀ s,Inv 0 s→Ev (L 0 s) (M 0 xs s):=by
  have key:∀ (ys:List α) (i:Nat),xs.drop i=ys→i+ys.length=xs.length→∀ s,Inv i s→Ev (L i s) (M i ys s):=by
    intro ys
    induction ys with
    | nil =>
      intro i hd hl s hs
      obtain rfl:i=xs.length:=by simpa using hl
      exact hN s hs
    | cons y ys ih =>
      intro i hd hl s hs
      have hi:i<xs.length:=by simp at hl;omega
      have hy:xs.getD i d0=y:=by rw[List.getD_eq_getElem?_getD,← List.head?_drop,hd];rfl
      refine hS i y ys s hi hy (hy▸getD_mem hi d0) hs (fun s' hs' => ih (i+1) ?_ (by simp at hl ⊢;omega) s' hs')
      rw[← List.drop_drop,hd];rfl
  intro s hs
  exact key xs 0 rfl (by simp) s hs
theorem map_const {α:Type} (a:α) (n:Nat):(List.range n).map (fun _=>a)=List.replicate n a:=by
  apply List.ext_getElem <;> simp
theorem ev_eq {α:Type} {g:Nat→Option α} {a b:α} (h:Ev g a) (e:a=b):Ev g b:=e▸h
/-- The product of two lists, as it is reckoned. -/
def dotW (a b:List Int):Int:=(List.range a.length).foldl (fun s i=>wrap64 (s+wrap64 (a.getD i 0*b.getD i 0))) 0
/-- A number between two others. -/
def inR (a b x:Int):Bool:=decide (a≤x) && decide (x≤b)
theorem inR_iff (a b x:Int):inR a b x=true↔a≤x∧x≤b:=by simp[inR]
theorem in_tells (a b x:Int):(if x≥a then (some (decide (x≤b))) else (some false))=some (inR a b x):=by
  unfold inR
  by_cases h:a≤x
  · rw[if_pos h];simp[h]
  · rw[if_neg h];simp[h]
end Go.Proofs.Ytkbahcbankfffaa.Lb
