import Derived.Test.YtkbahcbankfffaaPFnPairsx
import Derived.Test.YtkbahcbankfffaaLb
import Derived.Test.YtkbahcbankfffaaQFnPairsa
namespace Go.Proofs.Ytkbahcbankfffaa.QFnPairs
open Go.RowKit  Go.Proofs.Ytkbahcbankfffaa.Lb Go.Proofs.Ytkbahcbankfffaa.PFnPairs Go.Proofs.YtkbahcbankfffaaW.PrintWords Go.Proofs.YtkbahcbankfffaaW.PrintLast Go.Proofs.YtkbahcbankfffaaW.PrintMore
set_option linter.unusedVariables false
set_option linter.unusedSimpArgs false
structure PlOk (n:Nat) (T:List Int):Prop where
 wt:(leastS n T).1∈allW 3 n
 bd : -12≤boundM n T (leastS n T).1∧boundM n T (leastS n T).1≤13
 pl:planeM n T=((leastS n T).1,boundM n T (leastS n T).1,true)
 on:∀ c<2 ^ n,T.getD c 0=1→boundM n T (leastS n T).1≤dotW (leastS n T).1 (bitPt n (c:Int))
 off:∀ c<2 ^ n,¬ T.getD c 0=1→dotW (leastS n T).1 (bitPt n (c:Int))<boundM n T (leastS n T).1
theorem plOk {n:Nat} (h:1≤n∧n≤3) {T:List Int} (hT:T.length=2 ^ n) (hB:Bits T) (hq:noTr n T=true):PlOk n T:=by
 have h4:n≤4:=by omega
 have hp:0<2 ^ n:=Nat.two_pow_pos n;have hy:(leastS n T).2=true:=by
  have:=least_noTr h hT hB;rw[hq] at this;obtain ⟨x,hx,e⟩:=List.any_eq_true.1 this;exact leastS_yes n T _ _ (.inr ⟨x,hx,e⟩)
 have hok:=leastS_ok n T (allW 3 n) ([],false) (fun h=>Bool.noConfusion h) hy;have hR:=leastR h4 T;have hm:=(hR.yes hy).1;have e0:(allW 3 n).foldl (fun s x=>sstep n T x s) ([],false)=leastS n T:=rfl;rw[e0] at hok;have hpl:planeM n T=((leastS n T).1,boundM n T (leastS n T).1,true):=by unfold planeM;rw[if_pos hy]
 obtain ⟨x,hx⟩:∃ x,(leastS n T).1=x:=⟨_,rfl⟩;rw[hx] at hok hm hpl;have hr:=part_rel T (prodL n x) T.length (fun i hi=>prodL_bd h4 hm (by omega));have eg:gapN T (prodL n x) T.length=gapS T (prodL n x):=rfl;rw[eg] at hr;have gt:=gap_tell T (prodL n x) T.length;have eg2:(List.range T.length).foldl (fun (s:Int×Int) (i:Nat)=>if T.getD i 0=1 then (mn s.1 ((prodL n x).getD i 0),s.2) else (s.1,mx s.2 ((prodL n x).getD i 0))) (1000000000,-1000000000)=gapS T (prodL n x):=rfl;rw[eg2] at gt;have hlt:(gapS T (prodL n x)).2<(gapS T (prodL n x)).1:=of_decide_eq_true hok;have hb:boundM n T x=if (gapS T (prodL n x)).1=1000000000 then wrap64 ((gapS T (prodL n x)).2+1) else (gapS T (prodL n x)).1:=rfl;obtain ⟨p1,p2,p3,n1,y1,n2,y2,h0,h1⟩:=hr;have cases:(-12≤boundM n T x∧boundM n T x≤13)∧((gapS T (prodL n x)).2<boundM n T x)∧((∃ i,i<T.length∧T.getD i 0=1)→boundM n T x≤(gapS T (prodL n x)).1):=by
  by_cases c:(partS T (prodL n x) T.length).1=0
  · have g1:=n1 c;have g2:=y2 (by omega);have e:wrap64 ((gapS T (prodL n x)).2+1)=(gapS T (prodL n x)).2+1:=wrap_id (by omega) (by omega);rw[hb,if_pos g1,e];refine ⟨by omega,by omega,fun ⟨i,hi,q⟩=>absurd q (h0 c i hi)⟩
  · have g1:=y1 c;rw[hb,if_neg (by omega)];exact ⟨by omega,hlt,fun _=>Int.le_refl _⟩
 obtain ⟨cb,c1,c2⟩:=cases;refine ⟨by rw[hx];exact hm,by rw[hx];exact cb,by rw[hx];exact hpl,fun c hc q => ?_,fun c hc q => ?_⟩
 · rw[hx];have a1:=(gt c (by omega)).1 q;have a2:=c2 ⟨c,by omega,q⟩;rw[prodL_get hc] at a1;exact Int.le_trans a2 a1
 · rw[hx];have a1:=(gt c (by omega)).2 q;rw[prodL_get hc] at a1;exact Int.lt_of_le_of_lt a1 c1
theorem plM_f0 (n:Nat) (T:List Int):(plM n T).f0=(planeM n T).1:=rfl
theorem plM_f1 (n:Nat) (T:List Int):(plM n T).f1=(planeM n T).2.1:=rfl
theorem PlOk.side {n:Nat} {T:List Int} (h:PlOk n T) (hT:T.length=2 ^ n) (hB:Bits T) {c:Nat} (hc:c<2 ^ n):bitS (sideW (plM n T).f0 (plM n T).f1 (bitPt n (c:Int)))=T.getD c 0:=by
  rw[plM_f0,plM_f1,h.pl]
  show bitS (sideW (leastS n T).1 (boundM n T (leastS n T).1) (bitPt n (c:Int)))=_
  unfold bitS sideW
  rcases bits_at hB (by omega:c<T.length) with e|e
  · have:=h.off c hc (by rw[e];decide)
    rw[if_neg (by omega:¬ _≥_),e];rfl
  · have:=h.on c hc e
    rw[if_pos (by omega:_≥_),e];rfl
theorem PlOk.good {n:Nat} (h3:1≤n∧n≤3) {T:List Int} (h:PlOk n T):planeB (plM n T).f0 (plM n T).f1=true∧(plM n T).f0.length=n:=by
  rw[plM_f0,plM_f1,h.pl]
  show planeB (leastS n T).1 (boundM n T (leastS n T).1)=true∧(leastS n T).1.length=n
  have hl:=allW_len 3 n _ h.wt
  refine ⟨?_,hl⟩
  unfold planeB
  rw[Bool.and_eq_true,Bool.and_eq_true,inR_iff,inR_iff,List.all_eq_true]
  refine ⟨by omega,fun y hy=>(inR_iff _ _ _).2 ?_,by have:=h.bd;omega⟩
  have:=allW_mem 3 n _ h.wt y hy
  omega
theorem net_good {n:Nat} (h:1≤n∧n≤3) {a b c:List Int} (ha:PlOk n a) (hb:PlOk n b) (hc:PlOk 2 c):netB (n:Int) (netOf n [a,b,c])=true:=by
 obtain ⟨a1,a2⟩:=ha.good h;obtain ⟨b1,b2⟩:=hb.good h;obtain ⟨c1,c2⟩:=hc.good (by omega);have e:netOf n [a,b,c]=[[plM n a,plM n b],[plM 2 c]]:=rfl;rw[e];have ea:(((plM n a).f0.length:Int)==(n:Int))=true:=by rw[a2];exact beq_self_eq_true _
 have eb:(((plM n b).f0.length:Int)==(n:Int))=true:=by rw[b2];exact beq_self_eq_true _
 have ec:(((plM 2 c).f0.length:Int)==((2:Nat):Int))=true:=by rw[c2];rfl
 have r1:inR 1 4 (n:Int)=true:=(inR_iff _ _ _).2 (by omega);generalize plM n a=pa at *;generalize plM n b=pb at *;generalize plM 2 c=pc at *;have e3:layB ((2:Nat):Int) [[pc]]=true:=by
  simp only[layB,List.all_cons,List.all_nil,c1,ec,Bool.true_and,Bool.and_true];first|rfl|exact (inR_iff 1 4 _).2 ⟨by simp,by simp⟩
 have e2:layB (n:Int) [[pa,pb],[pc]]=true:=by
  have e4:layB (([pa,pb].length:Nat):Int) [[pc]]=true:=e3;rw[show layB (n:Int) [[pa,pb],[pc]]=(([pa,pb].all fun x=>planeB x.f0 x.f1 && ((x.f0.length:Int)==(n:Int))) && (inR 1 4 ([pa,pb].length:Int) && layB ([pa,pb].length:Int) [[pc]])) from rfl,e4];simp only[List.all_cons,List.all_nil,a1,b1,ea,eb,Bool.true_and,Bool.and_true];first|rfl|exact (inR_iff 1 4 _).2 ⟨by simp,by simp⟩
 unfold netB;rw[r1,e2];first|rfl|simp[inR]
theorem net_run {n:Nat} (h:1≤n∧n≤3) {a b c l:List Int} (ha:PlOk n a) (hb:PlOk n b) (hc:PlOk 2 c) (la:a.length=2 ^ n∧Bits a) (lb:b.length=2 ^ n∧Bits b) (lc:c.length=2 ^ 2∧Bits c) (hl:l.length=2 ^ n) (hj:joinB l a b c=true) {k:Nat} (hk:k<2 ^ n):runM (netOf n [a,b,c]) (bitPt n (k:Int))=[l.getD k 0]:=by
 have sa:=ha.side la.1 la.2 hk;have sb:=hb.side lb.1 lb.2 hk;have e:netOf n [a,b,c]=[[plM n a,plM n b],[plM 2 c]]:=rfl;have hj2:c.getD (a.getD k 0+2*b.getD k 0).toNat 0=l.getD k 0:=by
  unfold joinB at hj;exact of_decide_eq_true (List.all_eq_true.1 hj k (List.mem_range.2 (by omega)))
 rw[e,← hj2];show [bitS (sideW (plM 2 c).f0 (plM 2 c).f1 [bitS (sideW (plM n a).f0 (plM n a).f1 (bitPt n (k:Int))),bitS (sideW (plM n b).f0 (plM n b).f1 (bitPt n (k:Int)))])]=_
 rw[sa,sb];have key:∀ v:Nat,v<4→bitS (sideW (plM 2 c).f0 (plM 2 c).f1 (bitPt 2 (v:Int)))=c.getD v 0:=fun v hv=>hc.side lc.1 lc.2 (by omega)
 have p0:bitPt 2 ((0:Nat):Int)=[0,0]:=by decide +kernel
 have p1:bitPt 2 ((1:Nat):Int)=[1,0]:=by decide +kernel
 have p2:bitPt 2 ((2:Nat):Int)=[0,1]:=by decide +kernel
 have p3:bitPt 2 ((3:Nat):Int)=[1,1]:=by decide +kernel
 have k0:=key 0 (by omega);have k1:=key 1 (by omega);have k2:=key 2 (by omega);have k3:=key 3 (by omega);rw[p0] at k0;rw[p1] at k1;rw[p2] at k2;rw[p3] at k3;rcases bits_at la.2 (by omega:k<a.length) with ea|ea <;> rcases bits_at lb.2 (by omega:k<b.length) with eb|eb <;> rw[ea,eb]
 · exact congrArg (fun z=>[z]) k0
 · exact congrArg (fun z=>[z]) k2
 · exact congrArg (fun z=>[z]) k1
 · exact congrArg (fun z=>[z]) k3
theorem net_tabs {n:Nat} {N:List (List S47)} {l:List Int} (hl:l.length=2 ^ n) (h1:(lastL N).length=1) (hr:∀ k:Nat,k<2 ^ n→runM N (bitPt n (k:Int))=[l.getD k 0]):tabsM n N=[l]:=by
 have key:∀ m:Nat,m≤2 ^ n→(List.range m).foldl (fun s (c:Nat)=>rowT (lastL N).length (runM N (bitPt n (c:Int))) s) (List.replicate (lastL N).length [])=[l.take m]:=by
  intro m;induction m with
  | zero=>intro _;rw[h1];rfl
  | succ m ih =>
   intro hm;rw[List.range_succ,List.foldl_append,ih (by omega),h1];show rowT 1 (runM N (bitPt n (m:Int))) [l.take m]=_
   rw[hr m (by omega)];show [l.take m++[l.getD m 0]]=[l.take (m+1)]
   rw[List.take_add_one,List.getElem?_eq_getElem (by omega),List.getD_eq_getElem?_getD,List.getElem?_eq_getElem (by omega)];rfl
 have:=key (2 ^ n) (Nat.le_refl _);rw[List.take_of_length_le (by omega)] at this;exact this
theorem joinM_join {l a b c:List Int} {r:List (List Int)} (h:joinM l a b c=some r):joinB l a b c=true:=by
 unfold joinM at h;split at h
 · next e=>exact e
 · cases h
theorem pairM_join {T T2:List (List Int)} {l:List Int} {r:List (List Int)} (h:pairM T T2 l=some r):∃ a b c,a∈T∧b∈T∧c∈T2∧r=[a,b,c]∧joinB l a b c=true:=by
 obtain ⟨a,ha,h⟩:=List.exists_of_findSome?_eq_some h;obtain ⟨b,hb,h⟩:=List.exists_of_findSome?_eq_some h;obtain ⟨c,hc,h⟩:=List.exists_of_findSome?_eq_some h;exact ⟨a,b,c,ha,hb,hc,joinM_tell h,joinM_join h⟩
theorem pairM_some {T T2:List (List Int)} {l a b c:List Int} (ha:a∈T) (hb:b∈T) (hc:c∈T2) (hj:joinB l a b c=true):(pairM T T2 l).isSome=true:=by
 cases hp:pairM T T2 l with
 | some r=>rfl
 | none =>
  exfalso
  have h1:=List.findSome?_eq_none_iff.1 hp a ha;have h2:=List.findSome?_eq_none_iff.1 h1 b hb;have h3:=List.findSome?_eq_none_iff.1 h2 c hc;unfold joinM at h3;rw[if_pos hj] at h3;cases h3
theorem fold_filter (p:Nat→Bool) (g:Nat→List Int):∀ (L:List Nat) (s:List (List Int)) (T:List Int),T∈L.foldl (fun (T:List (List Int)) c=>if p c=true then T++[g c] else T) s↔T∈s∨∃ c∈L,p c=true∧T=g c
 | [],s,T=>by simp
 | c::L,s,T=>by
  rw[List.foldl_cons,fold_filter p g L];by_cases h:p c=true
  · rw[if_pos h,List.mem_append,List.mem_singleton];constructor
    · rintro ((h1|h1)|⟨d,hd,h1⟩)
      · exact .inl h1
      · exact .inr ⟨c,List.mem_cons_self ..,h,h1⟩
      · exact .inr ⟨d,List.mem_cons_of_mem _ hd,h1⟩
    · rintro (h1|⟨d,hd,h1,h2⟩)
      · exact .inl (.inl h1)
      · rcases List.mem_cons.1 hd with rfl|hd
        · exact .inl (.inr h2)
        · exact .inr ⟨d,hd,h1,h2⟩
  · rw[if_neg h];constructor
    · rintro (h1|⟨d,hd,h1⟩)
      · exact .inl h1
      · exact .inr ⟨d,List.mem_cons_of_mem _ hd,h1⟩
    · rintro (h1|⟨d,hd,h1,h2⟩)
      · exact .inl h1
      · rcases List.mem_cons.1 hd with rfl|hd
        · exact absurd h1 h
        · exact .inr ⟨d,hd,h1,h2⟩
theorem thr_iff (n:Nat) (T:List Int):T∈thrT n↔∃ c<2 ^ 2 ^ n,noTr n T=true∧T=rowOf (2 ^ n) c:=by
 unfold thrT;rw[fold_filter (fun c=>noTr n (rowOf (2 ^ n) c)) (rowOf (2 ^ n))];constructor
 · rintro (h|⟨c,hc,h1,rfl⟩)
   · cases h
   · exact ⟨c,List.mem_range.1 hc,h1,rfl⟩
 · rintro ⟨c,hc,h1,rfl⟩;exact .inr ⟨c,List.mem_range.2 hc,h1,rfl⟩
def codeT (T:List Int):Nat:=T.foldl (fun s x=>2*s+x.toNat) 0
def codeOk (n:Nat):Bool:=(allB (2 ^ n)).all fun T=>decide (codeT T<2 ^ 2 ^ n) && decide (T=rowOf (2 ^ n) (codeT T))
theorem codeOk1:codeOk 1=true:=by decide +kernel
theorem codeOk2:codeOk 2=true:=by decide +kernel
theorem codeOk3:codeOk 3=true:=by decide +kernel
theorem thr_of_noTr {n:Nat} (h:1≤n∧n≤3) {T:List Int} (hT:T.length=2 ^ n) (hB:Bits T) (hq:noTr n T=true):T∈thrT n:=by
 have ok:codeOk n=true:=by
  match n,h with
  | 1,_=>exact codeOk1
  | 2,_=>exact codeOk2
  | 3,_=>exact codeOk3
  | 0,h=>omega
  | n+4,h=>omega
 have hm:=allB_mem T hB;rw[hT] at hm;have h1:=List.all_eq_true.1 ok T hm;rw[Bool.and_eq_true,decide_eq_true_eq,decide_eq_true_eq] at h1;exact (thr_iff n T).2 ⟨codeT T,h1.1,hq,h1.2⟩
theorem and_thr:[0,0,0,1]∈thrT 2:=by decide +kernel
theorem noTr_pair {n:Nat} (h:1≤n∧n≤3) {T:List Int} (hT:T.length=2 ^ n) (hB:Bits T) (hq:noTr n T=true):(pairM (thrT n) (thrT 2) T).isSome=true:=by
 have hm:=thr_of_noTr h hT hB hq;refine pairM_some hm hm and_thr ?_;unfold joinB;refine List.all_eq_true.2 fun x hx => ?_
 rcases bits_at hB (List.mem_range.1 hx) with e|e <;> rw[e] <;> decide
def par3:List Int:=[0,1,1,0,1,0,0,1]
theorem par3_noTr:noTr 3 par3=false:=by decide +kernel
def mixN (m:Nat):Bool := !(Nat.beq (Nat.land m 105) 0) && !(Nat.beq (Nat.land m 150) 0)
def badN (a b:Nat):Bool:=mixN (a &&& b)||(mixN (a &&& (255 ^^^ b))||(mixN ((255 ^^^ a) &&& b)||mixN ((255 ^^^ a) &&& (255 ^^^ b))))
def thrN:Nat:=114774088598426388869345543170584872251251517579821845869595883549889770814911
theorem thrN_ok:((List.range 256).all fun c => !(noTr 3 (rowOf 8 c))||thrN.testBit c)=true:=by decide +kernel
theorem badN_ok:((List.range 256).all fun a => !(thrN.testBit a)||(List.range 256).all fun b => !(thrN.testBit b)||badN a b)=true:=by decide +kernel
theorem row_bit:∀ c:Nat,c<256→∀ y:Nat,y<8→(rowOf 8 c).getD (7-y) 0=if c.testBit y=true then 1 else 0:=by decide +kernel
theorem par_bit:∀ y:Nat,y<8→par3.getD (7-y) 0=if Nat.testBit 105 y=true then 1 else 0:=by decide +kernel
theorem bit_off:∀ y:Nat,y<8→Nat.testBit 150 y=true→Nat.testBit 105 y=false:=by decide +kernel
theorem bit_neg (c:Nat):∀ y:Nat,y<8→(255 ^^^ c).testBit y = !c.testBit y:=by
 have h:∀ y:Nat,y<8→Nat.testBit 255 y=true:=by decide +kernel
 intro y hy;rw[Nat.testBit_xor,h y hy,Bool.true_xor]
theorem land_bit {m q:Nat} (hq:q<256) (h:Nat.beq (Nat.land m q) 0=false):∃ y,y<8∧m.testBit y=true∧q.testBit y=true:=by
 have h0:m &&& q≠0:=fun e=>by
  have e2:Nat.land m q=0:=e;rw[e2] at h;exact Bool.noConfusion h
 obtain ⟨y,hy⟩:=Nat.exists_testBit_of_ne_zero h0;rw[Nat.testBit_and,Bool.and_eq_true] at hy;refine ⟨y,?_,hy.1,hy.2⟩;apply Classical.byContradiction
 intro c;have:2 ^ 8≤2 ^ y:=Nat.pow_le_pow_right (by decide) (by omega);have hz:q.testBit y=false:=Nat.testBit_lt_two_pow (by omega);rw[hz] at hy;exact Bool.noConfusion hy.2
theorem mix_no {ca cb m:Nat} {c:List Int} {u v:Bool} (ha:ca<256) (hb:cb<256) (hm:∀ y,y<8→m.testBit y=true→ca.testBit y=u∧cb.testBit y=v) (hj:joinB par3 (rowOf 8 ca) (rowOf 8 cb) c=true):mixN m=false:=by
 apply Bool.eq_false_iff.2
 intro h;unfold mixN at h;rw[Bool.and_eq_true,Bool.not_eq_true',Bool.not_eq_true'] at h;obtain ⟨y,hy,y1,y2⟩:=land_bit (by omega) h.1;obtain ⟨z,hz,z1,z2⟩:=land_bit (by omega) h.2;have J:∀ x,x<8→c.getD ((rowOf 8 ca).getD x 0+2*(rowOf 8 cb).getD x 0).toNat 0=par3.getD x 0:=fun x hx=>by
  unfold joinB at hj;exact of_decide_eq_true (List.all_eq_true.1 hj x (List.mem_range.2 hx))
 have j1:=J (7-y) (by omega);have j2:=J (7-z) (by omega);rw[row_bit ca ha y hy,row_bit cb hb y hy,par_bit y hy,(hm y hy y1).1,(hm y hy y1).2,y2] at j1;rw[row_bit ca ha z hz,row_bit cb hb z hz,par_bit z hz,(hm z hz z1).1,(hm z hz z1).2,bit_off z hz z2] at j2;rw[j1] at j2;simp at j2
theorem par3_pair:(pairM (thrT 3) (thrT 2) par3).isNone=true:=by
 cases hp:pairM (thrT 3) (thrT 2) par3 with
 | none=>rfl
 | some r =>
  exfalso
  obtain ⟨a,b,c,hma,hmb,_,_,hj⟩:=pairM_join hp;obtain ⟨ca,ha,na,rfl⟩:=(thr_iff 3 a).1 hma;obtain ⟨cb,hb,nb,rfl⟩:=(thr_iff 3 b).1 hmb;have ha:ca<256:=ha;have hb:cb<256:=hb;have hj:joinB par3 (rowOf 8 ca) (rowOf 8 cb) c=true:=hj;have na:noTr 3 (rowOf 8 ca)=true:=na;have nb:noTr 3 (rowOf 8 cb)=true:=nb;have ta:=List.all_eq_true.1 thrN_ok ca (List.mem_range.2 ha);have tb:=List.all_eq_true.1 thrN_ok cb (List.mem_range.2 hb);rw[na,Bool.not_true,Bool.false_or] at ta;rw[nb,Bool.not_true,Bool.false_or] at tb;have h1:=List.all_eq_true.1 badN_ok ca (List.mem_range.2 ha);rw[ta,Bool.not_true,Bool.false_or] at h1;have h2:=List.all_eq_true.1 h1 cb (List.mem_range.2 hb);rw[tb,Bool.not_true,Bool.false_or] at h2;unfold badN at h2;rw[mix_no (u:=true) (v:=true) ha hb (fun y hy h=>by rw[Nat.testBit_and,Bool.and_eq_true] at h;exact h) hj] at h2;rw[mix_no (u:=true) (v:=false) ha hb (fun y hy h=>by rw[Nat.testBit_and,Bool.and_eq_true,bit_neg cb y hy,Bool.not_eq_true'] at h;exact h) hj] at h2;rw[mix_no (u:=false) (v:=true) ha hb (fun y hy h=>by rw[Nat.testBit_and,Bool.and_eq_true,bit_neg ca y hy,Bool.not_eq_true'] at h;exact h) hj] at h2;rw[mix_no (u:=false) (v:=false) ha hb (fun y hy h=>by rw[Nat.testBit_and,Bool.and_eq_true,bit_neg ca y hy,bit_neg cb y hy,Bool.not_eq_true',Bool.not_eq_true'] at h;exact h) hj] at h2;exact Bool.noConfusion h2
theorem par3_tabs:netTablesM 3 (parM 3).2.1=([par3],true):=by decide +kernel
theorem vInts_any (x y:List Int) (h:x.length=y.length) (hl:x.length≤1000):∃ r,Ev (fun k=>laws_vInts.f k x y) r∧(r=true→x=y):=by
 have key:∀ d i:Nat,i+d=x.length→(∀ j,j<i→x.getD j 0=y.getD j 0)→∃ r,Ev (fun k=>laws_vInts.l0 k x y (i:Int)) r∧(r=true→x=y):=by
  intro d;induction d with
  | zero =>
   intro i hi hj;have c1:¬ (i:Int)<(x.length:Int):=by omega
   refine ⟨true,Ev.step' (f:=fun _=>some true) (fun k=>by simp only[laws_vInts.l0,if_neg c1]) (Ev.now _),fun _=>List.ext_getElem h fun j h1 h2 => ?_⟩;have:=hj j (by omega);rw[List.getD_eq_getElem?_getD,List.getD_eq_getElem?_getD,List.getElem?_eq_getElem h1,List.getElem?_eq_getElem h2] at this;exact this
  | succ d ih =>
   intro i hi hj;have c1:(i:Int)<(x.length:Int):=by omega
   have c2:(i:Int)<(y.length:Int):=by omega
   have c0:0≤(i:Int):=by omega
   by_cases e:x.getD i 0=y.getD i 0
   · obtain ⟨r,g1,g2⟩:=ih (i+1) (by omega) (fun j hlt=>by
      by_cases q:j=i
      · rw[q];exact e
      · exact hj j (by omega))
     exact ⟨r,Ev.step' (fun k=>by simp only[laws_vInts.l0,if_pos c1,if_pos c0,if_pos c2,rd_nat,if_pos e,wrap_succ (show i<x.length by omega) (by omega:x.length≤9223372036854775807)]) g1,g2⟩
   · exact ⟨false,Ev.step' (f:=fun _=>some false) (fun k=>by simp only[laws_vInts.l0,if_pos c1,if_pos c0,if_pos c2,rd_nat,if_neg e]) (Ev.now _),fun q=>Bool.noConfusion q⟩
 obtain ⟨r,g1,g2⟩:=key x.length 0 (by omega) (fun j hj=>absurd hj (Nat.not_lt_zero j));have c:(x.length:Int)=(y.length:Int):=by omega
 exact ⟨r,Ev.congr (fun k=>by simp only[laws_vInts.f,if_pos c];rfl) g1,g2⟩
theorem pairs_l0 {n:Nat} (h:1≤n∧n≤3) {l a b c:List Int} (hl:l.length=2 ^ n) (la:a.length=2 ^ n∧Bits a) (lb:b.length=2 ^ n∧Bits b) (lc:c.length=2 ^ 2∧Bits c) (hj:joinB l a b c=true) (d:Int) (N:List (List S47)) (hn:Ev (fun k=>impl_NetTables.f k d N) ([l],true)):Ev (fun k=>laws_FnPairs.l0 k l [a,b,c] 0 d N) true:=by
 have e0:rd_L3 [a,b,c] 0=a:=by simp[rd_L3]
 have e1:rd_L3 [a,b,c] 1=b:=by simp[rd_L3]
 have e2:rd_L3 [a,b,c] 2=c:=by simp[rd_L3]
 have h8:=(two_small h.2).1;have l4:c.length=4:=lc.1;refine ev_yes (L:=fun i k=>laws_FnPairs.l0 k l [a,b,c] i d N) (n:=l.length) (fun i hi=>To.step fun k => ?_) ?_
 · have c1:(i:Int)<(l.length:Int):=by omega
   have c0:0≤(i:Int):=by omega
   have ca:(i:Int)<(a.length:Int):=by omega
   have cb:(i:Int)<(b.length:Int):=by omega
   have hj2:c.getD (a.getD i 0+2*b.getD i 0).toNat 0=l.getD i 0:=by
    unfold joinB at hj;exact of_decide_eq_true (List.all_eq_true.1 hj i (List.mem_range.2 hi))
   have h1:=bits_at la.2 (by omega:i<a.length);have h2:=bits_at lb.2 (by omega:i<b.length);have k0:(0:Int)<([a,b,c].length:Int):=by simp
   have k1:(1:Int)<([a,b,c].length:Int):=by simp
   have k2:(2:Int)<([a,b,c].length:Int):=by simp
   have hw:wrap64 (a.getD i 0+wrap64 (2*b.getD i 0))=((a.getD i 0+2*b.getD i 0).toNat:Int):=by unfold wrap64;omega
   have hi2:((a.getD i 0+2*b.getD i 0).toNat:Int)<(c.length:Int):=by omega
   have hp:0≤((a.getD i 0+2*b.getD i 0).toNat:Int):=by omega
   simp only[laws_FnPairs.l0,if_pos c1,if_pos k0,if_pos k1,if_pos k2,e0,e1,e2,if_pos c0,if_pos ca,if_pos cb,rd_nat,hw,if_pos hp,if_pos hi2,hj2,if_true,wrap_succ hi (by omega:l.length≤9223372036854775807)]
 · refine Ev.step' (f:=fun k=>(impl_NetTables.f k d N).bind fun bt=>(if bt.2=true then (if (bt.1.length:Int)=1 then (if 0<(bt.1.length:Int) then ((laws_vInts.f k (rd_L3 bt.1 0) l).bind fun t=>(some t)) else (none)) else (some false)) else (some false))) (fun k=>by simp only[laws_FnPairs.l0,if_neg (Int.lt_irrefl _)]) (Ev.bind hn ?_);have q1:(([l]:List (List Int)).length:Int)=1:=rfl;have q0:0<(([l]:List (List Int)).length:Int):=by simp
   have q2:rd_L3 [l] 0=l:=by simp[rd_L3]
   simp only[if_true,if_pos q1,if_pos q0,q2];exact Ev.bind (laws_vInts_ev l (by unfold maxLen;omega)) (Ev.now _)
theorem pairs_j0 {a:Int} {l:List Int} {P:List (List Int)} {is ok:Bool} {g d:Int} {N:List (List S47)} (th:Ev (fun k=>impl_IsThreshold.f k a l) (is,true)) (f1:(is != (g==1))=false) (f2:is=true→ok=true) (f3:(decide (g<3) != ok)=false) (hh:Ev (fun k=>laws_FnPairs.j1 k a l P ok g false d N) true):Ev (fun k=>laws_FnPairs.j0 k a l P ok g true false d N) true:=by
 refine Ev.step' (f:=fun k=>(impl_IsThreshold.f k a l).bind fun bt=>(if bt.2=true then (if (bt.1 != (g==1))=true then (laws_FnPairs.j1 k a l P ok g true d N) else (if bt.1=true then (if ok=true then (laws_FnPairs.j1 k a l P ok g ((decide (g<3)) != ok) d N) else (laws_FnPairs.j1 k a l P ok g true d N)) else (laws_FnPairs.j1 k a l P ok g ((decide (g<3)) != ok) d N))) else (laws_FnPairs.j1 k a l P ok g true d N))) (fun k=>by simp only[laws_FnPairs.j0,Bool.false_eq_true,if_false,if_true]) (Ev.bind th ?_);simp only[if_true,f1,f3,Bool.false_eq_true,if_false];cases is with
 | false=>simp only[Bool.false_eq_true,if_false];exact hh
 | true=>simp only[if_pos (f2 rfl),if_true];exact hh
theorem pairs_j1 {a:Int} {l:List Int} {P:List (List Int)} {ok:Bool} {g d:Int} {N:List (List S47)} (ha:1≤a∧a≤3) (hl:a=3→l.length=8) (f4:a=3→par3=l→g=3) (hh:Ev (fun k=>laws_FnPairs.j3 k l P ok d N) true):Ev (fun k=>laws_FnPairs.j1 k a l P ok g false d N) true:=by
 have hp:(parM a).2.2=true:=by unfold parM;rw[if_pos ((inR_iff 1 4 a).2 (by omega))]
 refine Ev.step' (f:=fun k=>(impl_ParityNet.f k a).bind fun bt=>(if bt.2.2=true then (laws_FnPairs.j2 k l P ok g (a==3) d N bt.1 bt.2.1) else (laws_FnPairs.j2 k l P ok g false d N bt.1 bt.2.1))) (fun k=>by simp only[laws_FnPairs.j1,Bool.false_eq_true,if_false]) (Ev.bind (impl_ParityNet_ev a) ?_);simp only[hp,if_true];by_cases e:a=3
 · subst e;have e1:(parM 3).1=3:=by decide +kernel
   have e2:((3:Int)==3)=true:=rfl;have sm:(parM 3).2.1.length≤maxLen∧∀ y∈(parM 3).2.1,y.length≤maxLen∧∀ x∈y,x.f0.length≤maxLen:=by decide +kernel
   obtain ⟨r,g1,g2⟩:=vInts_any par3 l (by rw[hl rfl];rfl) (by decide);rw[e1,e2];refine Ev.step' (f:=fun k=>(impl_NetTables.f k 3 (parM 3).2.1).bind fun bt=>(if 0<(bt.1.length:Int) then ((laws_vInts.f k (rd_L3 bt.1 0) l).bind fun t=>(if t=true then (if g=3 then (laws_FnPairs.j3 k l P ok d N) else (some false)) else (laws_FnPairs.j3 k l P ok d N))) else (none))) (fun k=>by simp only[laws_FnPairs.j2,if_true]) (Ev.bind (impl_NetTables_ev 3 _ sm.1 sm.2) ?_);rw[par3_tabs];have q0:0<(([par3]:List (List Int)).length:Int):=by simp
   have q2:rd_L3 [par3] 0=par3:=by simp[rd_L3]
   simp only[if_pos q0,q2];refine Ev.bind g1 ?_;cases r with
   | false=>simp only[Bool.false_eq_true,if_false];exact hh
   | true=>simp only[if_true,if_pos (f4 rfl (g2 rfl))];exact hh
 · have e2:(a==3)=false:=beq_eq_false_iff_ne.2 e;rw[e2];exact Ev.step' (f:=fun k=>laws_FnPairs.j3 k l P ok d N) (fun k=>by simp only[laws_FnPairs.j2,Bool.false_eq_true,if_false]) hh
theorem thr_noTr {n:Nat} {T:List Int} (h:T∈thrT n):noTr n T=true:=by
 obtain ⟨c,_,h1,rfl⟩:=(thr_iff n T).1 h;exact h1
theorem netM_sm (a:Int) (l:List Int):(netM a l).2.1.length≤maxLen∧∀ y∈(netM a l).2.1,y.length≤maxLen∧∀ x∈y,x.f0.length≤maxLen:=by
 unfold netM;cases hq:threeB a l with
 | false=>simp
 | true =>
  obtain ⟨n,rfl,h1,h3,hl,hB⟩:=three_tell hq;cases hp:pairM (thrT ((n:Int)).toNat) (thrT 2) l with
  | none=>simp
  | some r =>
   obtain ⟨x,y,z,hx,hy,hz,rfl,hj⟩:=pairM_join hp;rw[Int.toNat_natCast] at hx hy;have b1:=(tabs ⟨h1,h3⟩).rows x hx;have b2:=(tabs ⟨h1,h3⟩).rows y hy;have b3:=tabs2.rows z hz;have p1:=((plOk ⟨h1,h3⟩ b1.1 b1.2 (thr_noTr hx)).good ⟨h1,h3⟩).2;have p2:=((plOk ⟨h1,h3⟩ b2.1 b2.2 (thr_noTr hy)).good ⟨h1,h3⟩).2;have p3:=((plOk (n:=2) (by omega) b3.1 b3.2 (thr_noTr hz)).good (by omega)).2;simp only[if_true,Int.toNat_natCast];show ([[plM n x,plM n y],[plM 2 z]]:List (List S47)).length≤maxLen∧∀ Y∈([[plM n x,plM n y],[plM 2 z]]:List (List S47)),Y.length≤maxLen∧∀ X∈Y,X.f0.length≤maxLen
   generalize plM n x=u1 at *;generalize plM n y=u2 at *;generalize plM 2 z=u3 at *;simp only[List.mem_cons,List.not_mem_nil,or_false,List.length_cons,List.length_nil,maxLen];refine ⟨by omega,fun Y hY => ?_⟩;rcases hY with rfl|rfl
   · refine ⟨by simp,fun X hX => ?_⟩;simp only[List.mem_cons,List.not_mem_nil,or_false] at hX;rcases hX with rfl|rfl <;> omega
   · refine ⟨by simp,fun X hX => ?_⟩;rw[List.mem_singleton.1 hX];omega
theorem pairs_j3 (a:Int) (l:List Int) (hq:threeB a l=true):Ev (fun k=>laws_FnPairs.j3 k l (pairOut a l).1 (pairOut a l).2 (netM a l).1 (netM a l).2.1) true:=by
 have sm:=netM_sm a l;obtain ⟨n,rfl,h1,h3,hl,hB⟩:=three_tell hq;cases hp:pairM (thrT n) (thrT 2) l with
 | none =>
  have p:pairOut (n:Int) l=([],false):=by unfold pairOut;rw[hq,Int.toNat_natCast,hp];rfl
  rw[p];exact Ev.step' (f:=fun _=>some true) (fun k=>by simp only[laws_FnPairs.j3,Bool.false_eq_true,if_false]) (Ev.now _)
 | some r =>
  have p:pairOut (n:Int) l=(r,true):=by unfold pairOut;rw[hq,Int.toNat_natCast,hp];rfl
  have q:netM (n:Int) l=((n:Int),netOf n r,true):=by unfold netM;rw[hq,Int.toNat_natCast,hp];rfl
  rw[q] at sm;rw[p,q];obtain ⟨x,y,z,hx,hy,hz,rfl,hj⟩:=pairM_join hp;have b1:=(tabs ⟨h1,h3⟩).rows x hx;have b2:=(tabs ⟨h1,h3⟩).rows y hy;have b3:=tabs2.rows z hz;have p1:=plOk ⟨h1,h3⟩ b1.1 b1.2 (thr_noTr hx);have p2:=plOk ⟨h1,h3⟩ b2.1 b2.2 (thr_noTr hy);have p3:=plOk (n:=2) (by omega) b3.1 b3.2 (thr_noTr hz);have c3:(([x,y,z]:List (List Int)).length:Int)=3:=rfl;refine Ev.step' (f:=fun k=>laws_FnPairs.l0 k l [x,y,z] 0 (n:Int) (netOf n [x,y,z])) (fun k=>by simp only[laws_FnPairs.j3,if_true,if_pos c3]) ?_;refine pairs_l0 ⟨h1,h3⟩ hl b1 b2 b3 hj _ _ ?_;have hn:=impl_NetTables_ev (n:Int) (netOf n [x,y,z]) sm.1 sm.2;have e:netTablesM (n:Int) (netOf n [x,y,z])=([l],true):=by
   have hr:∀ k:Nat,k<2 ^ n→runM (netOf n [x,y,z]) (bitPt n (k:Int))=[l.getD k 0]:=fun k hk=>net_run ⟨h1,h3⟩ p1 p2 p3 b1 b2 b3 hl hj hk
   have hg:=net_good ⟨h1,h3⟩ p1 p2 p3;have hL:(lastL (netOf n [x,y,z])).length=1:=by
    show (lastL [[plM n x,plM n y],[plM 2 z]]).length=1
    generalize plM n x=u1;generalize plM n y=u2;generalize plM 2 z=u3;rfl
   generalize netOf n [x,y,z]=N at hr hg hL ⊢;unfold netTablesM;rw[if_pos hg,Int.toNat_natCast,net_tabs hl hL hr]
  rw[e] at hn;exact hn
theorem pairs_main (a:Int) (l:List Int) (h:l.length≤33):Ev (fun k=>laws_FnPairs.j0 k a l (pairOut a l).1 (pairOut a l).2 (gatesM a l).1 (gatesM a l).2 false (netM a l).1 (netM a l).2.1) true:=by
 cases hq:threeB a l with
 | false =>
  have p:pairOut a l=([],false):=by unfold pairOut;rw[hq];rfl
  have g:gatesM a l=(0,false):=by unfold gatesM;rw[hq];rfl
  rw[p,g];exact Ev.step' (f:=fun k=>laws_FnPairs.j3 k l [] false (netM a l).1 (netM a l).2.1) (fun k=>by simp only[laws_FnPairs.j0,Bool.false_eq_true,if_false]) (Ev.step' (f:=fun _=>some true) (fun k=>by simp only[laws_FnPairs.j3,Bool.false_eq_true,if_false]) (Ev.now _))
 | true =>
  have hth:=impl_IsThreshold_yes a l (by unfold maxLen;omega) hq;have h3j:=pairs_j3 a l hq;obtain ⟨n,rfl,h1,h3,hl,hB⟩:=three_tell hq;rw[Int.toNat_natCast] at hth;have facts:(gatesM (n:Int) l).2=true∧(noTr n l != ((gatesM (n:Int) l).1==1))=false∧(noTr n l=true→(pairOut (n:Int) l).2=true)∧(decide ((gatesM (n:Int) l).1<3) != (pairOut (n:Int) l).2)=false:=by
   unfold gatesM pairOut;rw[hq,Int.toNat_natCast];cases hn:noTr n l with
   | true =>
    obtain ⟨r,hr⟩:=Option.isSome_iff_exists.1 (noTr_pair ⟨h1,h3⟩ hl hB hn);rw[hr];exact ⟨rfl,rfl,fun _=>rfl,rfl⟩
   | false =>
    cases hp:pairM (thrT n) (thrT 2) l with
    | none=>exact ⟨rfl,rfl,fun q=>Bool.noConfusion q,rfl⟩
    | some r=>exact ⟨rfl,rfl,fun _=>rfl,rfl⟩
  obtain ⟨g1,g2,g3,g4⟩:=facts;have f4:(n:Int)=3→par3=l→(gatesM (n:Int) l).1=3:=by
   intro e e2;have:n=3:=by omega
   subst this;unfold gatesM;rw[hq,Int.toNat_natCast,← e2,par3_noTr];rw[Option.isNone_iff_eq_none.1 par3_pair];rfl
  rw[g1];exact pairs_j0 hth g2 g3 g4 (pairs_j1 (by omega) (fun e=>by
   have:n=3:=by omega
   subst this;exact hl) f4 h3j)
theorem pairOut_sm (a:Int) (l:List Int):(pairOut a l).1.length≤maxLen∧∀ x∈(pairOut a l).1,x.length≤maxLen:=by
 unfold pairOut maxLen;cases hq:threeB a l with
 | false=>simp
 | true =>
  obtain ⟨n,rfl,h1,h3,hl,hB⟩:=three_tell hq;rw[Int.toNat_natCast];cases hp:pairM (thrT n) (thrT 2) l with
  | none=>simp
  | some r =>
   obtain ⟨x,y,z,hx,hy,hz,rfl,hj⟩:=pairM_join hp;have h8:=(two_small h3).1;have b1:=((tabs ⟨h1,h3⟩).rows x hx).1;have b2:=((tabs ⟨h1,h3⟩).rows y hy).1;have b3:z.length=4:=(tabs2.rows z hz).1;simp only[if_true];refine ⟨by simp,fun w hw => ?_⟩;simp only[List.mem_cons,List.not_mem_nil,or_false] at hw;rcases hw with rfl|rfl|rfl <;> omega
theorem pair_net (a:Int) (l:List Int):((pairOut a l).2 != (netM a l).2.2)=false:=by
 unfold pairOut netM;cases threeB a l with
 | false=>rfl
 | true=>cases pairM (thrT a.toNat) (thrT 2) l <;> rfl
theorem pure:laws_FnPairs.Pure:=by
 intro l hl hz hw;have hb:byteL l:=fun x hx=>by
  have h:=hw x hx;have e0:IntKind.u8.min=0:=by decide
  have e1:IntKind.u8.max=255:=by decide
  simp only[Lit.wf,Bool.and_eq_true,decide_eq_true_eq,e0,e1] at h;exact h
 suffices h:Ev (fun k=>laws_FnPairs.f k l) true by
  obtain ⟨K,hK⟩:=h;exact ⟨K,hK K (Nat.le_refl _)⟩
 by_cases big:(l.length:Int)>65536
 · exact Ev.congr (f:=fun _=>some true) (fun k=>by simp only[laws_FnPairs.f,laws_vBig_eq,Option.bind_some,decide_eq_true big,if_true]) (Ev.now _)
 · obtain ⟨n,T,hn,hn4,hT⟩:=spec_DrawFindPair_tells l hb;have hm:T.length≤maxLen:=by unfold maxLen;omega
   have s1:=pairOut_sm (n:Int) T;have s2:=netM_sm (n:Int) T;simp only[laws_FnPairs.f,laws_vBig_eq,Option.bind_some,decide_eq_false big,Bool.false_eq_true,if_false];refine Ev.bind hn (Ev.bind (impl_FindPair_ev _ _ hm) (Ev.bind (spec_FindPair_ev _ _ hm) (Ev.bind (impl_GatesNeeded_ev _ _ hm) (Ev.bind (spec_GatesNeeded_ev _ _ hm) (Ev.bind (impl_NetOfPair_ev _ _ hm) (Ev.bind (spec_NetOfPair_ev _ _ hm) ?_))))));simp only[bne_self_eq_false,Bool.false_eq_true,if_false];refine Ev.bind (laws_vTable_ev _ s1.1 s1.2) ?_;simp only[if_true];refine Ev.bind (laws_vNet_ev _ _ s2.1 s2.2) ?_;simp only[if_true,pair_net];exact pairs_main n T hT
end Go.Proofs.Ytkbahcbankfffaa.QFnPairs
