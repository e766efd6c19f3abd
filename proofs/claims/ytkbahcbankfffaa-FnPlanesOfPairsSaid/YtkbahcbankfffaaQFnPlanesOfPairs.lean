/- FnPlanesOfPairs: what its calls come to, shown of numbers and lists alone. -/
import Derived.Test.YtkbahcbankfffaaPFnPlanesOfPairsx
import Derived.Test.YtkbahcbankfffaaLb
import Derived.Test.YtkbahcbankfffaaLb
namespace Go.Proofs.Ytkbahcbankfffaa.QFnPlanesOfPairs
open Go.RowKit  Go.Proofs.Ytkbahcbankfffaa.Lb Go.Proofs.Ytkbahcbankfffaa.PFnPlanesOfPairs Go.Proofs.YtkbahcbankfffaaW.PrintWords Go.Proofs.YtkbahcbankfffaaW.PrintLast Go.Proofs.YtkbahcbankfffaaW.PrintMore
set_option linter.unusedVariables false
set_option linter.unusedSimpArgs false
def isLab (x:Int):Bool:=decide (x=1)||decide (x = -1)
def pointB (x:List Int):Bool:=inR 1 4 x.length && x.all (inR (-9) 9)
def planeB (w:List Int) (b:Int):Bool:=inR 1 4 w.length && (w.all (inR (-99) 99) && inR (-99) 99 b)
def sumW (l:List Int):Int:=l.foldl (fun s x=>wrap64 (s+x)) 0
def meetsB (w:List Int) (b:Int) (x:List Int):Bool:=planeB w b && (pointB x && ((x.length:Int)==(w.length:Int)))
theorem meets_len {w:List Int} {b:Int} {x:List Int} (h:meetsB w b x=true):w.length≤x.length:=by
 unfold meetsB at h
 simp only[Bool.and_eq_true,beq_iff_eq] at h
 omega
def sideW (w:List Int) (b:Int) (x:List Int):Int:=if dotW w x≥b then 1 else -1
def Near (B:Int) (l:List Int):Prop:=∀ x∈l,-B≤x∧x≤B
theorem mul_near {x y B C:Int} (hx : -B≤x∧x≤B) (hy : -C≤y∧y≤C) (hB:0≤B) (hC:0≤C) : -(B*C)≤x*y∧x*y≤B*C:=by
 have h1:(x*y).natAbs≤(B*C).natAbs:=by
  rw[Int.natAbs_mul,Int.natAbs_mul]
  exact Nat.mul_le_mul (by omega) (by omega)
 have h2:0≤B*C:=Int.mul_nonneg hB hC
 omega
theorem near_of {B:Int} {l:List Int} (h:l.all (inR (-B) B)=true):Near B l:=fun x hx=>(inR_iff _ _ _).1 (List.all_eq_true.1 h x hx)
theorem point_len {x:List Int} (h:pointB x=true):1≤x.length∧x.length≤4:=by
 unfold pointB at h
 simp only[Bool.and_eq_true] at h
 have:=(inR_iff _ _ _).1 h.1
 omega
theorem point_near {x:List Int} (h:pointB x=true):Near 9 x:=by
 unfold pointB at h
 simp only[Bool.and_eq_true] at h
 exact near_of h.2
def ptB (P:List (List Int)) (x:List Int):Bool:=pointB x && decide (x.length=(P.getD 0 []).length)
def sampleB (P:List (List Int)) (L:List Int):Bool:=decide (P.length≤16) && (decide (L.length=P.length) && (L.all isLab && P.all (ptB P)))
theorem sample_tell {P:List (List Int)} {L:List Int} (h:sampleB P L=true):P.length≤16∧L.length=P.length∧(∀ l∈L,l=1∨l = -1)∧∀ x∈P,pointB x=true∧x.length=(P.getD 0 []).length:=by
 unfold sampleB at h
 simp only[Bool.and_eq_true,decide_eq_true_eq,List.all_eq_true] at h
 refine ⟨h.1,h.2.1,fun l hl => ?_,fun x hx => ?_⟩
 · have:=h.2.2.1 l hl
   unfold isLab at this
   simpa using this
 · have:=h.2.2.2 x hx
   unfold ptB at this
   simpa using this
def atM (h p:List Int):List Int:=p.map (rd h)
theorem sample_eq {P:List (List Int)} {L:List Int} (h:sampleB P L=true) {i:Nat} (hi:i<P.length):∀ y∈P,y.length=(P.getD i []).length:=by
 have ht:=(sample_tell h).2.2.2
 intro y hy
 rw[(ht y hy).2,(ht _ (getD_mem hi [])).2]
def addAt (x s:List Int):List Int:=(List.range x.length).foldl (fun s k=>s.set k (wrap64 (s.getD k 0+x.getD k 0))) s
theorem addAt_len (x s:List Int):(addAt x s).length=s.length:=by
 unfold addAt
 have key:∀ (l:List Nat) (s:List Int),(l.foldl (fun s k=>s.set k (wrap64 (s.getD k 0+x.getD k 0))) s).length=s.length:=by
  intro l
  induction l with
  | nil=>intro s;rfl
  | cons a l ih=>intro s;rw[List.foldl_cons,ih,List.length_set]
 exact key _ _
def sumStep (P:List (List Int)) (L:List Int) (lab:Int) (i:Nat) (s:Int×List Int):Int×List Int:=if L.getD i 0=lab then (wrap64 (s.1+1),addAt (P.getD i []) s.2) else s
def sumsM (P:List (List Int)) (L:List Int) (lab:Int) (d:Nat):Int×List Int:=(List.range P.length).foldl (fun s i=>sumStep P L lab i s) (0,List.replicate d 0)
theorem sumStep_len (P:List (List Int)) (L:List Int) (lab:Int) (i:Nat) (s:Int×List Int):(sumStep P L lab i s).2.length=s.2.length:=by
 unfold sumStep;split
 · exact addAt_len _ _
 · rfl
theorem sumsM_len (P:List (List Int)) (L:List Int) (lab:Int) (d:Nat):(sumsM P L lab d).2.length=d:=by
 have key:∀ (l:List Nat) (s:Int×List Int),(l.foldl (fun s i=>sumStep P L lab i s) s).2.length=s.2.length:=by
  intro l
  induction l with
  | nil=>intro s;rfl
  | cons a l ih=>intro s;rw[List.foldl_cons,ih,sumStep_len]
 unfold sumsM
 rw[key];simp
theorem count_fold (v:Int):∀ (L:List Int) (c:Int),0≤c→c+L.length≤1000000→L.foldl (fun c x=>if x=v then wrap64 (c+1) else c) c=c+L.count v
 | [],c,_,_=>by simp
 | x::L,c,h0,h1=>by
  have e:wrap64 (c+1)=c+1:=wrap_id (by omega) (by simp at h1;omega)
  rw[List.foldl_cons,List.count_cons]
  by_cases h:x=v
  · rw[if_pos h,e,count_fold v L (c+1) (by omega) (by simp at h1;omega),h];simp;omega
  · rw[if_neg h,count_fold v L c h0 (by simp at h1;omega)];simp[h]
theorem sumsM_fst (P:List (List Int)) (L:List Int) (lab:Int) (d:Nat) (hl:L.length=P.length) (h:P.length≤16):(sumsM P L lab d).1=L.count lab:=by
 have key:∀ (l:List Nat) (s:Int×List Int),(l.foldl (fun s i=>sumStep P L lab i s) s).1=l.foldl (fun c i=>if L.getD i 0=lab then wrap64 (c+1) else c) s.1:=by
  intro l
  induction l with
  | nil=>intro s;rfl
  | cons a l ih =>
   intro s
   rw[List.foldl_cons,List.foldl_cons,ih]
   congr 1
   unfold sumStep
   split <;> rfl
 unfold sumsM
 rw[key,← hl,range_fold L (fun c x=>if x=lab then wrap64 (c+1) else c) 0 0,count_fold lab L 0 (by omega) (by omega)]
 omega
def withL (v:Int):Nat→List Int→List Int
 | _,[]=>[]
 | i,x::xs=>if x=v then (i:Int)::withL v (i+1) xs else withL v (i+1) xs
theorem withL_len (v:Int):∀ (L:List Int) (i:Nat),(withL v i L).length=L.count v
 | [],_=>rfl
 | x::xs,i=>by
  rw[List.count_cons]
  by_cases h:x=v
  · simp[withL,h,withL_len v xs]
  · simp[withL,h,withL_len v xs]
def meanW (p q:Int) (a b:List Int):List Int:=(List.range a.length).map fun k=>wrap64 ((wrap64 ((wrap64 (2*p))*q))*(wrap64 ((wrap64 (q*a.getD k 0))-(wrap64 (p*b.getD k 0)))))
def biasW (p q:Int) (a b:List Int):Int:=wrap64 ((wrap64 ((wrap64 (q*q))*dotW a a))-(wrap64 ((wrap64 (p*p))*dotW b b)))
def meanOf (p q:Int) (a b:List Int):List Int×Int×Bool:=(meanW p q a b,biasW p q a b,true)
def meanM (P:List (List Int)) (L:List Int):List Int×Int×Bool :=
 if (sampleB P L && (decide (0<L.count 1) && decide (0<L.count (-1))))=true then meanOf (L.count 1) (L.count (-1)) (sumsM P L 1 (P.getD 0 []).length).2 (sumsM P L (-1) (P.getD 0 []).length).2 else ([],0,false)
theorem rd_cons (c:Int) (s:List Int) (j:Nat):rd (c::s) ((j:Int)+1)=s.getD j 0:=by
 have e:(j:Int)+1=((j+1:Nat):Int):=by omega
 rw[e,rd_nat];rfl
def someB (P:List (List Int)) (L:List Int):Bool:=sampleB P L && decide (0<P.length)
theorem some_tell {P:List (List Int)} {L:List Int} (h:someB P L=true):sampleB P L=true∧0<P.length:=by
 unfold someB at h
 simpa using h
def sqStep (x y:List Int) (s:Int) (i:Nat):Int:=wrap64 (s+wrap64 (wrap64 (x.getD i 0-y.getD i 0)*wrap64 (x.getD i 0-y.getD i 0)))
def sqW (x y:List Int):Int:=(List.range x.length).foldl (sqStep x y) 0
def insM (d:Int→Int) (p:Int):List Int→List Int
 | []=>[p]
 | y::ys=>if d y≤d p then y::insM d p ys else p::y::ys
def nearM (d:Int→Int) (q:List Int):List Int:=q.foldl (fun out p=>insM d p out) []
def dstM (P:List (List Int)) (x:List Int) (i:Int):Int:=sqW (P.getD i.toNat []) x
def before (d:Int→Int) (a b:Int):Prop:=d a<d b∨(d a=d b∧a<b)
theorem insM_mem (d:Int→Int) (p z:Int):∀ l:List Int,z∈insM d p l↔z=p∨z∈l
 | []=>by simp[insM]
 | y::ys=>by
  unfold insM
  split
  · rw[List.mem_cons,insM_mem d p z ys,List.mem_cons];constructor <;> (intro h;rcases h with h|h|h <;> simp[h])
  · simp
theorem insM_len (d:Int→Int) (p:Int):∀ l:List Int,(insM d p l).length=l.length+1
 | []=>rfl
 | y::ys=>by
  unfold insM
  split
  · rw[List.length_cons,insM_len d p ys];rfl
  · rfl
theorem insM_srt (d:Int→Int) (p:Int):∀ l:List Int,l.Pairwise (before d)→(∀ y∈l,y<p)→(insM d p l).Pairwise (before d)
 | [],_,_=>by simp[insM]
 | y::ys,h,hp=>by
  have hc:=List.pairwise_cons.1 h
  unfold insM
  split
  · next e =>
    refine List.pairwise_cons.2 ⟨fun z hz => ?_,insM_srt d p ys hc.2 (fun z hz=>hp z (List.mem_cons_of_mem _ hz))⟩
    rcases (insM_mem d p z ys).1 hz with rfl|hz
    · have:=hp y List.mem_cons_self
      unfold before;omega
    · exact hc.1 z hz
  · next e =>
    refine List.pairwise_cons.2 ⟨fun z hz => ?_,h⟩
    rcases List.mem_cons.1 hz with rfl|hz
    · unfold before;omega
    · have:=hc.1 z hz
      unfold before at this ⊢;omega
theorem nearM_tell (d:Int→Int) (q:List Int) (h:q.Pairwise (· < ·)):(nearM d q).Pairwise (before d)∧(∀ z,z∈nearM d q↔z∈q)∧(nearM d q).length=q.length:=by
 have key:∀ (q out:List Int),q.Pairwise (· < ·)→out.Pairwise (before d)→(∀ y∈out,∀ z∈q,y<z)→(q.foldl (fun out p=>insM d p out) out).Pairwise (before d)∧(∀ z,z∈q.foldl (fun out p=>insM d p out) out↔z∈out∨z∈q)∧(q.foldl (fun out p=>insM d p out) out).length=out.length+q.length:=by
  intro q
  induction q with
  | nil=>intro out _ ho _;exact ⟨ho,fun z=>by simp,by simp⟩
  | cons p q ih =>
   intro out hq ho hy
   have hc:=List.pairwise_cons.1 hq
   rw[List.foldl_cons]
   obtain ⟨h1,h2,h3⟩:=ih (insM d p out) hc.2 (insM_srt d p out ho (fun y hy2=>hy y hy2 p List.mem_cons_self)) (fun y hy2 z hz=>by
    rcases (insM_mem d p y out).1 hy2 with rfl|h
    · exact hc.1 z hz
    · exact hy y h z (List.mem_cons_of_mem _ hz))
   refine ⟨h1,fun z => ?_,by rw[h3,insM_len,List.length_cons];omega⟩
   rw[h2 z,insM_mem,List.mem_cons]
   exact ⟨fun h=>h.elim (fun h=>h.elim (fun h => .inr (.inl h)) .inl) (fun h => .inr (.inr h)),fun h=>h.elim (fun h => .inl (.inr h)) (fun h=>h.elim (fun h => .inl (.inl h)) .inr)⟩
 have:=key q [] h List.Pairwise.nil (fun _ h=>by cases h)
 exact ⟨this.1,fun z=>by rw[nearM,this.2.1];simp,by rw[nearM,this.2.2];simp⟩
theorem before_ext (d:Int→Int):∀ (a b:List Int),a.Pairwise (before d)→b.Pairwise (before d)→(∀ x,x∈a↔x∈b)→a=b
 | [],[],_,_,_=>rfl
 | [],y::ys,_,_,h=>absurd ((h y).2 List.mem_cons_self) (by simp)
 | x::xs,[],_,_,h=>absurd ((h x).1 List.mem_cons_self) (by simp)
 | x::xs,y::ys,ha,hb,h=>by
  have pa:=List.pairwise_cons.1 ha
  have pb:=List.pairwise_cons.1 hb
  have irr:∀ z,¬ before d z z:=fun z=>by unfold before;omega
  have e:x=y:=by
   rcases List.mem_cons.1 ((h x).1 List.mem_cons_self) with e|e
   · exact e
   · rcases List.mem_cons.1 ((h y).2 List.mem_cons_self) with e2|e2
     · exact e2.symm
     · have h1:=pb.1 x e
       have h2:=pa.1 y e2
       unfold before at h1 h2;omega
  subst e
  rw[before_ext d xs ys pa.2 pb.2 (fun z=>⟨fun hz => ?_,fun hz => ?_⟩)]
  · rcases List.mem_cons.1 ((h z).1 (List.mem_cons_of_mem _ hz)) with e|e
    · subst e;exact absurd (pa.1 z hz) (irr z)
    · exact e
  · rcases List.mem_cons.1 ((h z).2 (List.mem_cons_of_mem _ hz)) with e|e
    · subst e;exact absurd (pb.1 z hz) (irr z)
    · exact e
theorem rdI_nat (rdx:List (List Int)→Int→List Int) (P:List (List Int)) (h:∀ i:Nat,rdx P (i:Int)=P.getD i []) {p:Int} (hp:0≤p):rdx P p=P.getD p.toNat []:=by
 obtain ⟨m,rfl⟩:∃ m:Nat,p=m:=⟨p.toNat,by omega⟩
 rw[h,Int.toNat_natCast]
theorem rdI_zero (rdx:List (List Int)→Int→List Int) (P:List (List Int)) (h:∀ i:Nat,rdx P (i:Int)=P.getD i []):rdx P 0=P.getD 0 []:=h 0
def pointOfB (P:List (List Int)) (L:List Int) (x:List Int):Bool:=someB P L && (pointB x && decide (x.length=(P.getD 0 []).length))
def leftM (n:Nat) (l:List Int):List Int:=(List.range n).foldl (fun s (i:Nat)=>if 0<l.count (i:Int) then s else s++[(i:Int)]) []
theorem leftM_succ (n:Nat) (l:List Int):leftM (n+1) l=if 0<l.count (n:Int) then leftM n l else leftM n l++[(n:Int)]:=by
 unfold leftM
 rw[List.range_succ,List.foldl_append];rfl
theorem leftM_mem (l:List Int) (z:Int):∀ n:Nat,z∈leftM n l↔0≤z∧z<n∧l.count z=0
 | 0=>by simp[leftM];omega
 | n+1=>by
  rw[leftM_succ]
  by_cases c:0<l.count (n:Int)
  · rw[if_pos c,leftM_mem l z n]
    constructor
    · omega
    · rintro ⟨h1,h2,h3⟩
      refine ⟨h1,?_,h3⟩
      have:z≠n:=fun e=>by rw[e] at h3;omega
      omega
  · rw[if_neg c,List.mem_append,leftM_mem l z n,List.mem_singleton]
    constructor
    · rintro (h|rfl)
      · omega
      · omega
    · rintro ⟨h1,h2,h3⟩
      by_cases e:z=n
      · exact .inr e
      · exact .inl ⟨h1,by omega,h3⟩
theorem leftM_rise (l:List Int):∀ n:Nat,(leftM n l).Pairwise (· < ·)
 | 0=>by simp[leftM]
 | n+1=>by
  rw[leftM_succ]
  by_cases c:0<l.count (n:Int)
  · rw[if_pos c];exact leftM_rise l n
  · rw[if_neg c,List.pairwise_append]
    refine ⟨leftM_rise l n,by simp,fun a ha b hb => ?_⟩
    rw[List.mem_singleton] at hb
    subst hb
    exact ((leftM_mem l a n).1 ha).2.1
theorem leftM_all:∀ n:Nat,(leftM n []).length=n
 | 0=>by simp[leftM]
 | n+1=>by
  rw[leftM_succ,if_neg (by simp),List.length_append,leftM_all n];rfl
def labelM (P:List (List Int)) (L q x:List Int) (m:Int):Int:=if 0≤sumW (atM L ((nearM (dstM P x) q).take m.toNat)) then 1 else -1
theorem near_len {d:Int→Int} {q:List Int} (hr:q.Pairwise (· < ·)):(nearM d q).length=q.length:=(nearM_tell d q hr).2.2
theorem near_mem {d:Int→Int} {q:List Int} (hr:q.Pairwise (· < ·)) {z:Int} (h:z∈nearM d q):z∈q:=((nearM_tell d q hr).2.1 z).1 h
theorem pointOf_tell {P:List (List Int)} {L x:List Int} (h:pointOfB P L x=true):sampleB P L=true∧0<P.length∧P.length≤16∧x.length=(P.getD 0 []).length:=by
 unfold pointOfB at h
 simp only[Bool.and_eq_true,decide_eq_true_eq] at h
 have h2:=some_tell h.1
 have h3:=sample_tell h2.1
 exact ⟨h2.1,h2.2,by have:=h3.1;omega,h.2.2⟩
theorem left_valid (n:Nat) (l:List Int):∀ i∈leftM n l,0≤i∧i<(n:Int):=fun i hi=>by
 have:=(leftM_mem l i n).1 hi
 omega
theorem left_nodup (n:Nat) (l:List Int):(leftM n l).Nodup:=(leftM_rise l n).imp (fun h=>by omega)
def mnI (a b:Int):Int:=if a<b then a else b
def sameB (x y:List Int):Bool:=(List.range x.length).all fun i=>x.getD i 0==y.getD i 0
theorem rdL3_nat (xs:List (List Int)) (i:Nat):rd_L3 xs (i:Int)=xs.getD i []:=by simp[rd_L3]
theorem laws_rBig_eq (l:List Int):laws_rBig.f l=some (decide ((l.length:Int)>65536)):=rfl
theorem and255 (x:Int):0≤Go.bits .and .u64 x 255∧Go.bits .and .u64 x 255≤255:=by
 have h:(BitVec.ofInt 64 x &&& BitVec.ofInt 64 255).toNat≤255:=by
  rw[BitVec.toNat_and]
  exact Nat.and_le_right
 have e:Go.bits .and .u64 x 255=IntKind.u64.wrap (((BitVec.ofInt 64 x &&& BitVec.ofInt 64 255).toNat:Nat):Int):=rfl
 have w:∀ z:Int,IntKind.u64.wrap z=z%18446744073709551616:=fun z=>by simp[IntKind.wrap,IntKind.bits,IntKind.signed]
 rw[e,w]
 omega
def byteL (l:List Int):Prop:=∀ x∈l,0≤x∧x≤255
theorem spec_l1Cur_next_tells (l:List Int) (p s:Int) (hp:0≤p) (hb:byteL l):∃ v t,spec_l1Cur_next.f l p s=some (v,wrap64 (p+1),t)∧0≤v∧v≤255:=by
 unfold spec_l1Cur_next.f
 by_cases c:p<(l.length:Int)
 · have hx:0≤rd l p∧rd l p≤255:=by
    have h1:p.toNat<l.length:=by omega
    simp only[rd]
    exact hb _ (getD_mem h1 0)
   rw[if_pos c,if_pos hp]
   split
   · refine ⟨_,_,rfl,?_⟩
     rw[wrap_id (by omega) (by omega)];exact hx
   · refine ⟨_,_,rfl,?_⟩
     rw[wrap_id (by have:=and255 (IntKind.u64.wrap ((IntKind.u64.wrap ((IntKind.u64.wrap (s*6364136223846793005))+(IntKind.u64.wrap (wrap64 (rd l p)))))+462197) / 1099511627776);omega) (by have:=and255 (IntKind.u64.wrap ((IntKind.u64.wrap ((IntKind.u64.wrap (s*6364136223846793005))+(IntKind.u64.wrap (wrap64 (rd l p)))))+462197) / 1099511627776);omega)]
     exact and255 _
 · rw[if_neg c]
   split
   · exact ⟨0,_,rfl,by omega,by omega⟩
   · refine ⟨_,_,rfl,?_⟩
     rw[wrap_id (by have:=and255 (IntKind.u64.wrap ((IntKind.u64.wrap (IntKind.u64.wrap (s*6364136223846793005)))+462197) / 1099511627776);omega) (by have:=and255 (IntKind.u64.wrap ((IntKind.u64.wrap (IntKind.u64.wrap (s*6364136223846793005)))+462197) / 1099511627776);omega)]
     exact and255 _
theorem tmod_in (x a:Int) (hx:0≤x) (ha:1≤a):0≤Int.tmod x a∧Int.tmod x a<a:=⟨Int.tmod_nonneg _ hx,Int.tmod_lt_of_pos _ (by omega)⟩
theorem spec_l1Cur_pick_tells (l:List Int) (p s a:Int) (hp:0≤p) (hp2:p≤9223372036854775800) (ha:1≤a) (hb:byteL l):∃ v q t,spec_l1Cur_pick.f l p s a=some (v,q,t)∧0≤v∧v<a∧p≤q∧q≤p+2:=by
 unfold spec_l1Cur_pick.f
 by_cases c:a≤1
 · rw[if_pos c]
   exact ⟨0,p,s,rfl,by omega,by omega,by omega,by omega⟩
 · rw[if_neg c]
   obtain ⟨v,t,e,h0,h1⟩:=spec_l1Cur_next_tells l p s hp hb
   rw[e,Option.bind_some,wrap_id (by omega) (by omega)]
   by_cases c2:a>200
   · rw[if_pos c2]
     obtain ⟨v2,t2,e2,h2,h3⟩:=spec_l1Cur_next_tells l (p+1) t (by omega) hb
     simp only[e2,Option.bind_some]
     rw[if_neg (by omega),wrap_id (x:=p+1+1) (by omega) (by omega),wrap_id (x:=v*256) (by omega) (by omega),wrap_id (x:=v*256+v2) (by omega) (by omega)]
     exact ⟨_,_,_,rfl,(tmod_in _ _ (by omega) ha).1,(tmod_in _ _ (by omega) ha).2,by omega,by omega⟩
   · rw[if_neg c2,if_neg (by omega)]
     exact ⟨_,_,_,rfl,(tmod_in _ _ h0 ha).1,(tmod_in _ _ h0 ha).2,(by show p≤p+1;omega),(by show p+1≤p+2;omega)⟩
theorem spec_l1Cur_among_tells (l:List Int) (p s:Int) (m:List Int) (hp:0≤p) (hp2:p≤9223372036854775800) (hm:1≤m.length) (hb:byteL l):∃ v q t,spec_l1Cur_among.f l p s m=some (v,q,t)∧v∈m∧p≤q∧q≤p+2:=by
 unfold spec_l1Cur_among.f
 obtain ⟨v,q,t,e,h0,h1,h2,h3⟩:=spec_l1Cur_pick_tells l p s (m.length:Int) hp hp2 (by omega) hb
 rw[e,Option.bind_some,if_pos h0,if_pos h1]
 refine ⟨_,_,_,rfl,?_,h2,h3⟩
 simp only[rd]
 exact getD_mem (by omega) 0
theorem spec_l1Cur_space_tells (l:List Int) (p s:Int) (hp:0≤p) (hp2:p≤9223372036854775800) (hb:byteL l):∃ (n:Nat) (q t:Int),spec_l1Cur_space.f l p s=some ((n:Int),q,t)∧1≤n∧n≤4∧p≤q∧q≤p+2:=by
 obtain ⟨v,q,t,e,hm,h2,h3⟩:=spec_l1Cur_among_tells l p s [2,2,3,1,2,4] hp hp2 (by decide) hb
 have hv:1≤v∧v≤4:=by
  simp only[List.mem_cons,List.not_mem_nil,or_false] at hm
  omega
 obtain ⟨n,rfl⟩:=Int.eq_ofNat_of_zero_le (by omega:0≤v)
 exact ⟨n,q,t,by simp only[spec_l1Cur_space.f,e,Option.bind_some],by omega,by omega,h2,h3⟩
theorem spec_l1Cur_one_tells (l:List Int) (p s a:Int) (hp:0≤p) (hp2:p≤9223372036854775800) (ha:1≤a) (hb:byteL l):∃ v q t,spec_l1Cur_one.f l p s a=some (v,q,t)∧p≤q∧q≤p+2:=by
 obtain ⟨v,q,t,e,_,_,h2,h3⟩:=spec_l1Cur_pick_tells l p s a hp hp2 ha hb
 exact ⟨v==0,q,t,by simp only[spec_l1Cur_one.f,e,Option.bind_some],h2,h3⟩
theorem point_last (l:List Int) (hb:byteL l) (n:Nat) (hn:n≤8) (c:Bool) (hc:c=true→0<n) (p s:Int) (w:List Int) (hw:w.length=n) (hp:0≤p) (hp2:p≤4000000000):∃ w' q t,Ev (fun k=>spec_l1Cur_point.j1 k (n:Int) w c l p s) (w',q,t)∧w'.length≤n+1∧p≤q∧q≤p+10:=by
 cases c with
 | true =>
  have hn0:=hc rfl
  obtain ⟨v1,q1,t1,e1,a1,a2,a3,a4⟩:=spec_l1Cur_pick_tells l p s (n:Int) hp (by omega) (by omega) hb
  obtain ⟨v2,q2,t2,e2,_,b3,b4⟩:=spec_l1Cur_among_tells l q1 t1 [10,(-10),9,(-9),4611686018427387904] (by omega) (by omega) (by decide) hb
  obtain ⟨v3,q3,t3,e3,d3,d4⟩:=spec_l1Cur_one_tells l q2 t2 80 (by omega) (by omega) (by omega) hb
  have c1:v1<(w.length:Int):=by omega
  cases v3 with
  | true =>
   have c2:(w.set v1.toNat v2).length<17592186044416:=by rw[List.length_set];omega
   exact ⟨w.set v1.toNat v2++[0],q3,t3,Ev.step' (f:=fun _=>some (w.set v1.toNat v2++[0],q3,t3)) (fun k=>by simp only[spec_l1Cur_point.j1,if_true,e1,Option.bind_some,e2,if_pos a1,if_pos c1,e3,if_pos c2]) (Ev.now _),by rw[List.length_append,List.length_set];simp only[List.length_cons,List.length_nil];omega,by omega,by omega⟩
  | false=>exact ⟨w.set v1.toNat v2,q3,t3,Ev.step' (f:=fun _=>some (w.set v1.toNat v2,q3,t3)) (fun k=>by simp only[spec_l1Cur_point.j1,if_true,e1,Option.bind_some,e2,if_pos a1,if_pos c1,e3,Bool.false_eq_true,if_false]) (Ev.now _),by rw[List.length_set];omega,by omega,by omega⟩
 | false =>
  obtain ⟨v3,q3,t3,e3,d3,d4⟩:=spec_l1Cur_one_tells l p s 80 (by omega) (by omega) (by omega) hb
  cases v3 with
  | true =>
   have c2:w.length<17592186044416:=by omega
   exact ⟨w++[0],q3,t3,Ev.step' (f:=fun _=>some (w++[0],q3,t3)) (fun k=>by simp only[spec_l1Cur_point.j1,Bool.false_eq_true,if_false,e3,Option.bind_some,if_true,if_pos c2]) (Ev.now _),by rw[List.length_append];simp only[List.length_cons,List.length_nil];omega,by omega,by omega⟩
  | false=>exact ⟨w,q3,t3,Ev.step' (f:=fun _=>some (w,q3,t3)) (fun k=>by simp only[spec_l1Cur_point.j1,Bool.false_eq_true,if_false,e3,Option.bind_some]) (Ev.now _),by omega,by omega,by omega⟩
theorem point_loop (l:List Int) (hb:byteL l) (n:Nat) (hn:n≤8) (g:Int) (hg:1≤g∧g≤20) (B:Int) (hB:B≤3000000000) (d:Nat):∀ (i:Nat) (p s:Int) (w:List Int),i+d=n→w.length=i→0≤p→p≤B-2*(d:Int)→∃ w' q t,Ev (fun k=>spec_l1Cur_point.l0 k (n:Int) w g (i:Int) l p s) (w',q,t)∧w'.length≤n+1∧p≤q∧q≤p+2*d+12:=by
 induction d with
 | zero =>
  intro i p s w hi hw hp hp2
  have c1:¬ (i:Int)<(n:Int):=by omega
  by_cases h2:(n:Int)>0
  · obtain ⟨v3,q3,t3,e3,d3,d4⟩:=spec_l1Cur_one_tells l p s 60 (by omega) (by omega) (by omega) hb
    obtain ⟨w',q,t,h1,h3,h4,h5⟩:=point_last l hb n hn v3 (fun _=>by omega) q3 t3 w (by omega) (by omega) (by omega)
    exact ⟨w',q,t,Ev.step' (fun k=>by simp only[spec_l1Cur_point.l0,if_neg c1,if_pos h2,e3,Option.bind_some]) h1,h3,by omega,by omega⟩
  · obtain ⟨w',q,t,h1,h3,h4,h5⟩:=point_last l hb n hn false (fun h=>Bool.noConfusion h) p s w (by omega) (by omega) (by omega)
    exact ⟨w',q,t,Ev.step' (fun k=>by simp only[spec_l1Cur_point.l0,if_neg c1,if_neg h2]) h1,h3,by omega,by omega⟩
 | succ d ih =>
  intro i p s w hi hw hp hp2
  have c1:(i:Int)<(n:Int):=by omega
  have c2:w.length<17592186044416:=by omega
  obtain ⟨v1,q1,t1,e1,_,_,a3,a4⟩:=spec_l1Cur_pick_tells l p s (wrap64 (wrap64 (2*g)+1)) hp (by omega) (by rw[wrap_id (x:=2*g) (by omega) (by omega),wrap_id (by omega) (by omega)];omega) hb
  obtain ⟨w',q,t,h1,h2,h3,h4⟩:=ih (i+1) q1 t1 (w++[wrap64 (v1-g)]) (by omega) (by rw[List.length_append,hw];rfl) (by omega) (by omega)
  exact ⟨w',q,t,Ev.step' (fun k=>by simp only[spec_l1Cur_point.l0,if_pos c1,e1,Option.bind_some,if_pos c2,wrap_succ (show i<n by omega) (show n≤9223372036854775807 by omega)]) h1,h2,by omega,by omega⟩
theorem spec_l1Cur_point_tells (l:List Int) (p s:Int) (n:Nat) (hn:n≤8) (hp:0≤p) (hp2:p≤1000000000) (hb:byteL l):∃ w q t,Ev (fun k=>spec_l1Cur_point.f k l p s (n:Int)) (w,q,t)∧w.length≤n+1∧p≤q∧q≤p+100:=by
 obtain ⟨g,q1,t1,e1,hm,a3,a4⟩:=spec_l1Cur_among_tells l p s [2,3,5,9] hp (by omega) (by decide) hb
 have hg:1≤g∧g≤20:=by
  simp only[List.mem_cons,List.not_mem_nil,or_false] at hm
  omega
 obtain ⟨w,q,t,h1,h2,h3,h4⟩:=point_loop l hb n hn g hg 2000000000 (by omega) n 0 q1 t1 [] (by omega) rfl (by omega) (by omega)
 exact ⟨w,q,t,Ev.congr (fun k=>by simp only[spec_l1Cur_point.f,e1,Option.bind_some];rfl) h1,h2,by omega,by omega⟩
theorem spec_l1Own_eq (l:List Int) (h:l.length≤1000):spec_l1Own.f l=some l:=by
 have c:([]:List Int).length+l.length<17592186044416:=by rw[List.length_nil];omega
 simp only[spec_l1Own.f,Option.bind_some,if_pos c,List.nil_append]
theorem spec_DrawPairPlane_c_tells (l:List Int) (hb:byteL l):∃ (x y:List Int) (q t:Int),Ev (fun k=>spec_DrawPairPlane_c.f k l 0 0) (x,y,q,t)∧x.length≤5∧y.length≤5:=by
 obtain ⟨n,q1,t1,e1,n1,n2,a3,a4⟩:=spec_l1Cur_space_tells l 0 0 (by omega) (by omega) hb
 obtain ⟨x,q2,t2,e2,b2,b3,b4⟩:=spec_l1Cur_point_tells l q1 t1 n (by omega) (by omega) (by omega) hb
 obtain ⟨v,q3,t3,e3,d3,d4⟩:=spec_l1Cur_one_tells l q2 t2 12 (by omega) (by omega) (by omega) hb
 simp only[spec_DrawPairPlane_c.f,e1,Option.bind_some]
 cases v with
 | true =>
  refine ⟨x,x,q3,t3,Ev.bind e2 ?_,by omega,by omega⟩
  simp only[e3,Option.bind_some,if_true,spec_l1Own_eq x (by omega)]
  exact Ev.now _
 | false =>
  obtain ⟨y,q4,t4,e4,f2,f3,f4⟩:=spec_l1Cur_point_tells l q3 t3 n (by omega) (by omega) (by omega) hb
  refine ⟨x,y,q4,t4,Ev.bind e2 ?_,by omega,by omega⟩
  simp only[e3,Option.bind_some,Bool.false_eq_true,if_false]
  exact Ev.bind e4 (Ev.now _)
theorem spec_DrawPairPlane_tells (l:List Int) (hb:byteL l):∃ (x y:List Int),Ev (fun k=>spec_DrawPairPlane.f k l) (x,y)∧x.length≤5∧y.length≤5:=by
 obtain ⟨x,y,q,t,h,h1,h2⟩:=spec_DrawPairPlane_c_tells l hb
 exact ⟨x,y,Ev.bind h (Ev.now _),h1,h2⟩
theorem impl_within_eq (x a b:Int):impl_within.f x a b=some (inR a b x):=in_tells a b x
theorem impl_allWithin_ev (l:List Int) (a b:Int) (h:l.length≤maxLen):Ev (fun k=>impl_allWithin.f k l a b) (l.all (inR a b)):=by
 unfold maxLen at h
 rw[← range_all l (inR a b) 0]
 refine ev_all (L:=fun i k=>impl_allWithin.l0 k a b l (l.length:Int) i) (fun i hi hp=>To.step fun k => ?_) (fun i hi hp=>Ev.step' (f:=fun _=>some false) (fun k => ?_) (Ev.now _)) (Ev.step' (f:=fun _=>some true) (fun k => ?_) (Ev.now _))
 · have c1:(i:Int)<(l.length:Int):=by omega
   have c0:0≤(i:Int):=by omega
   simp only[impl_allWithin.l0,if_pos c1,if_pos c0,impl_within_eq,rd_nat,hp,Option.bind_some,if_true,wrap_succ hi h]
 · have c1:(i:Int)<(l.length:Int):=by omega
   have c0:0≤(i:Int):=by omega
   simp only[impl_allWithin.l0,if_pos c1,if_pos c0,impl_within_eq,rd_nat,hp,Option.bind_some,Bool.false_eq_true,if_false]
 · simp only[impl_allWithin.l0,if_neg (Int.lt_irrefl _)]
theorem impl_IsPoint_ev (l:List Int) (h:l.length≤maxLen):Ev (fun k=>impl_IsPoint.f k l) (pointB l):=by
 have e:∀ k,impl_IsPoint.f k l=if inR 1 4 l.length=true then (impl_allWithin.f k l (-9) 9).bind (fun t=>some t) else some false:=fun k=>by simp only[impl_IsPoint.f,impl_within_eq,Option.bind_some]
 refine Ev.congr e ?_
 unfold pointB
 cases inR 1 4 l.length with
 | false=>exact Ev.now _
 | true =>
  simp only[if_true,Bool.true_and]
  exact Ev.bind (impl_allWithin_ev l (-9) 9 h) (Ev.now _)
theorem slices_Equal_int_int_ev (x y:List Int) (h:x.length≤maxLen) (hl:x.length=y.length):Ev (fun k=>slices_Equal_int_int.f k x y) (sameB x y):=by
 have h' : x.length≤9223372036854775807:=h
 refine Ev.congr (f:=fun k=>slices_Equal_int_int.l0 k x y (x.length:Int) 0) (fun k=>by simp only[slices_Equal_int_int.f,if_pos (show (x.length:Int)=(y.length:Int) by omega)]) ?_
 refine ev_all (L:=fun i k=>slices_Equal_int_int.l0 k x y (x.length:Int) i) (n:=x.length) (p:=fun i=>x.getD i 0==y.getD i 0) (fun i hi hp=>To.step fun k => ?_) (fun i hi hp => ?_) (Ev.step' (f:=fun _=>some true) (fun k=>by simp only[slices_Equal_int_int.l0,if_neg (Int.lt_irrefl _)]) (Ev.now _))
 · have c1:(i:Int)<(x.length:Int):=by omega
   have c0:0≤(i:Int):=by omega
   have c2:(i:Int)<(y.length:Int):=by omega
   simp only[slices_Equal_int_int.l0,if_pos c1,if_pos c0,if_pos c2,rd_nat,if_pos (beq_iff_eq.1 hp),wrap_succ hi h']
 · have c1:(i:Int)<(x.length:Int):=by omega
   have c0:0≤(i:Int):=by omega
   have c2:(i:Int)<(y.length:Int):=by omega
   exact Ev.step' (f:=fun _=>some false) (fun k=>by simp only[slices_Equal_int_int.l0,if_pos c1,if_pos c0,if_pos c2,rd_nat,if_neg (beq_eq_false_iff_ne.1 hp)]) (Ev.now _)
theorem impl_product_ev (a b:List Int) (h:a.length≤maxLen) (hb:a.length≤b.length):Ev (fun k=>impl_product.f k a b) (dotW a b):=by
 unfold maxLen at h
 have hf:=to_fold (L:=fun i (s:Int) k=>impl_product.l0 k b s a (a.length:Int) i) (n:=a.length) (f:=fun i s=>wrap64 (s+wrap64 (a.getD i 0*b.getD i 0))) (fun _ _=>True) (fun i s hi _=>⟨To.step fun k => ?_,trivial⟩) 0 trivial
 · refine hf.1 _ (Ev.step' (f:=fun _=>some _) (fun k => ?_) (Ev.now _))
   simp only[impl_product.l0,if_neg (Int.lt_irrefl _)];rfl
 · have c1:(i:Int)<(a.length:Int):=by omega
   have c2:(i:Int)<(b.length:Int):=by omega
   have c3:0≤(i:Int):=by omega
   simp only[impl_product.l0,if_pos c1,if_pos c2,if_pos c3,rd_nat,wrap_succ hi h]
theorem impl_IsPlane_ev (l:List Int) (b:Int) (h:l.length≤maxLen):Ev (fun k=>impl_IsPlane.f k l b) (planeB l b):=by
 have e:∀ k,impl_IsPlane.f k l b=if inR 1 4 l.length=true then (impl_allWithin.f k l (-99) 99).bind (fun t=>if t=true then some (inR (-99) 99 b) else some false) else some false:=fun k=>by
  simp only[impl_IsPlane.f,impl_within_eq,Option.bind_some]
 refine Ev.congr e ?_
 unfold planeB
 cases inR 1 4 l.length with
 | false=>exact Ev.now _
 | true =>
  simp only[if_true,Bool.true_and]
  refine Ev.bind (impl_allWithin_ev l (-99) 99 h) ?_
  cases l.all (inR (-99) 99) with
  | false=>exact Ev.now _
  | true=>exact Ev.now _
theorem spec_l1In_eq (x a b:Int):spec_l1In.f x a b=some (inR a b x):=in_tells a b x
theorem spec_l2Numbers_ev (l:List Int) (m:Int) (h:l.length≤maxLen):Ev (fun k=>spec_l2Numbers.f k l m) (l.all (inR (wrap64 (-m)) m)):=by
 unfold maxLen at h
 rw[← range_all l (inR (wrap64 (-m)) m) 0]
 refine ev_all (L:=fun i k=>spec_l2Numbers.l0 k l m i) (fun i hi hp=>To.step fun k => ?_) (fun i hi hp=>Ev.step' (f:=fun _=>some false) (fun k => ?_) (Ev.now _)) (Ev.step' (f:=fun _=>some true) (fun k => ?_) (Ev.now _))
 · have c1:(i:Int)<(l.length:Int):=by omega
   have c0:0≤(i:Int):=by omega
   simp only[spec_l2Numbers.l0,if_pos c1,if_pos c0,spec_l1In_eq,rd_nat,hp,Option.bind_some,if_true,wrap_succ hi h]
 · have c1:(i:Int)<(l.length:Int):=by omega
   have c0:0≤(i:Int):=by omega
   simp only[spec_l2Numbers.l0,if_pos c1,if_pos c0,spec_l1In_eq,rd_nat,hp,Option.bind_some,Bool.false_eq_true,if_false]
 · simp only[spec_l2Numbers.l0,if_neg (Int.lt_irrefl _)]
theorem spec_l2Plane_ev (l:List Int) (b:Int) (h:l.length≤maxLen):Ev (fun k=>spec_l2Plane.f k l b) (planeB l b):=by
 have e:∀ k,spec_l2Plane.f k l b=if inR 1 4 l.length=true then (spec_l2Numbers.f k l 99).bind (fun t=>if t=true then some (inR (-99) 99 b) else some false) else some false:=fun k=>by
  simp only[spec_l2Plane.f,spec_l1In_eq,Option.bind_some]
 refine Ev.congr e ?_
 unfold planeB
 cases inR 1 4 l.length with
 | false=>exact Ev.now _
 | true =>
  simp only[if_true,Bool.true_and]
  refine Ev.bind (spec_l2Numbers_ev l 99 h) ?_
  rw[show wrap64 (-99) = -99 from wrap_id (by omega) (by omega)]
  cases l.all (inR (-99) 99) with
  | false=>exact Ev.now _
  | true=>exact Ev.now _
def keptM (l:List Int) (b:Int):List Int×Int×Bool:=if planeB l b=true then (l,b,true) else ([],0,false)
theorem spec_l2KeptPlane_ev (l:List Int) (b:Int) (h:l.length≤maxLen):Ev (fun k=>spec_l2KeptPlane.f k l b) (keptM l b):=by
 refine Ev.bind (spec_l2Plane_ev l b h) ?_
 unfold keptM
 cases planeB l b with
 | false=>simp only[Bool.false_eq_true,if_false];exact Ev.now _
 | true=>simp only[if_true];exact Ev.now _
theorem spec_l2Point_ev (l:List Int) (h:l.length≤maxLen):Ev (fun k=>spec_l2Point.f k l) (pointB l):=by
 have e:∀ k,spec_l2Point.f k l=if inR 1 4 l.length=true then (spec_l2Numbers.f k l 9).bind (fun t=>some t) else some false:=fun k=>by simp only[spec_l2Point.f,spec_l1In_eq,Option.bind_some]
 refine Ev.congr e ?_
 unfold pointB
 cases inR 1 4 l.length with
 | false=>exact Ev.now _
 | true =>
  simp only[if_true,Bool.true_and]
  refine Ev.bind (spec_l2Numbers_ev l 9 h) ?_
  rw[show wrap64 (-9) = -9 from wrap_id (by omega) (by omega)]
  exact Ev.now _
theorem spec_l1Same_ev (x y:List Int) (h:x.length≤maxLen) (hl:x.length=y.length):Ev (fun k=>spec_l1Same.f k x y) (sameB x y):=by
 have h' : x.length≤9223372036854775807:=h
 refine Ev.congr (f:=fun k=>spec_l1Same.l0 k x y 0) (fun k=>by simp only[spec_l1Same.f,if_pos (show (x.length:Int)=(y.length:Int) by omega)]) ?_
 refine ev_all (L:=fun i k=>spec_l1Same.l0 k x y i) (n:=x.length) (p:=fun i=>x.getD i 0==y.getD i 0) (fun i hi hp=>To.step fun k => ?_) (fun i hi hp => ?_) (Ev.step' (f:=fun _=>some true) (fun k=>by simp only[spec_l1Same.l0,if_neg (Int.lt_irrefl _)]) (Ev.now _))
 · have c1:(i:Int)<(x.length:Int):=by omega
   have c0:0≤(i:Int):=by omega
   have c2:(i:Int)<(y.length:Int):=by omega
   simp only[spec_l1Same.l0,if_pos c1,if_pos c0,if_pos c2,rd_nat,if_pos (beq_iff_eq.1 hp),wrap_succ hi h']
 · have c1:(i:Int)<(x.length:Int):=by omega
   have c0:0≤(i:Int):=by omega
   have c2:(i:Int)<(y.length:Int):=by omega
   exact Ev.step' (f:=fun _=>some false) (fun k=>by simp only[spec_l1Same.l0,if_pos c1,if_pos c0,if_pos c2,rd_nat,if_neg (beq_eq_false_iff_ne.1 hp)]) (Ev.now _)
theorem spec_l2Dot_ev (a b:List Int) (h:a.length≤maxLen) (hb:a.length≤b.length):Ev (fun k=>spec_l2Dot.f k a b) (dotW a b):=by
 unfold maxLen at h
 have hf:=to_fold (L:=fun i (s:Int) k=>spec_l2Dot.l0 k a b s i) (n:=a.length) (f:=fun i s=>wrap64 (s+wrap64 (a.getD i 0*b.getD i 0))) (fun _ _=>True) (fun i s hi _=>⟨To.step fun k => ?_,trivial⟩) 0 trivial
 · refine hf.1 _ (Ev.step' (f:=fun _=>some _) (fun k => ?_) (Ev.now _))
   simp only[spec_l2Dot.l0,if_neg (Int.lt_irrefl _)];rfl
 · have c1:(i:Int)<(a.length:Int):=by omega
   have c2:(i:Int)<(b.length:Int):=by omega
   have c3:0≤(i:Int):=by omega
   simp only[spec_l2Dot.l0,if_pos c1,if_pos c2,if_pos c3,rd_nat,wrap_succ hi h]
def pairW (x y:List Int):List Int:=(List.range x.length).map fun i=>wrap64 (2*(wrap64 (x.getD i 0-y.getD i 0)))
def pairM (x y:List Int):List Int×Int×Bool:=if (pointB x && (pointB y && (decide (x.length=y.length) && !sameB x y)))=true then keptM (pairW x y) (wrap64 (dotW x x-dotW y y)) else ([],0,false)
theorem spec_PairPlane_go (x y:List Int) (hx:x.length≤4) (hl:x.length=y.length):Ev (fun k=>spec_PairPlane.j0 k x y false) (keptM (pairW x y) (wrap64 (dotW x x-dotW y y))):=by
 refine Ev.step' (f:=fun k=>(spec_l2Dot.f k x x).bind fun t=>(spec_l2Dot.f k y y).bind fun u=>spec_PairPlane.l0 k x y 0 [] (wrap64 (t-u))) (fun k=>by simp only[spec_PairPlane.j0,Bool.false_eq_true,if_false]) ?_
 refine Ev.bind (spec_l2Dot_ev x x (by unfold maxLen;omega) (Nat.le_refl _)) (Ev.bind (spec_l2Dot_ev y y (by unfold maxLen;omega) (Nat.le_refl _)) ?_)
 have hf:=to_fold (L:=fun i (s:List Int) k=>spec_PairPlane.l0 k x y i s (wrap64 (dotW x x-dotW y y))) (n:=x.length) (f:=fun i s=>s++[wrap64 (2*(wrap64 (x.getD i 0-y.getD i 0)))]) (fun i s=>s.length=i) (fun i s hi hs=>⟨To.step fun k=>by
  have c1:(i:Int)<(x.length:Int):=by omega
  have c0:0≤(i:Int):=by omega
  have c2:(i:Int)<(y.length:Int):=by omega
  have c3:s.length<17592186044416:=by omega
  simp only[spec_PairPlane.l0,if_pos c1,if_pos c0,if_pos c2,if_pos c3,rd_nat,wrap_succ hi (by omega:x.length≤9223372036854775807)],by simp[hs]⟩) [] rfl
 refine hf.1 _ ?_
 rw[fold_append,List.nil_append]
 have hw:(pairW x y).length≤maxLen:=by unfold pairW maxLen;rw[List.length_map,List.length_range];omega
 refine Ev.step' (f:=fun k=>(spec_l2KeptPlane.f k (pairW x y) (wrap64 (dotW x x-dotW y y))).bind fun b=>some (b.1,b.2.1,b.2.2)) (fun k=>by simp only[spec_PairPlane.l0,if_neg (Int.lt_irrefl _)] <;> rfl) (Ev.bind (spec_l2KeptPlane_ev _ _ hw) (Ev.now _))
theorem spec_PairPlane_ev (x y:List Int) (hx:x.length≤maxLen) (hy:y.length≤maxLen):Ev (fun k=>spec_PairPlane.f k x y) (pairM x y):=by
 have no:Ev (fun k=>spec_PairPlane.j0 k x y true) ([],0,false):=Ev.step' (f:=fun _=>some ([],0,false)) (fun k=>by simp only[spec_PairPlane.j0,if_true]) (Ev.now _)
 refine Ev.bind (spec_l2Point_ev x hx) ?_
 unfold pairM
 cases hp:pointB x with
 | false=>simp only[Bool.false_and,Bool.false_eq_true,if_false];exact no
 | true =>
  have hl4:=point_len hp
  simp only[Bool.true_and,if_true]
  refine Ev.bind (spec_l2Point_ev y hy) ?_
  cases pointB y with
  | false=>simp only[Bool.false_and,Bool.false_eq_true,if_false];exact no
  | true =>
   simp only[Bool.true_and,if_true]
   by_cases c:x.length=y.length
   · simp only[if_pos (show (x.length:Int)=(y.length:Int) by omega),decide_eq_true c,Bool.true_and]
     refine Ev.bind (spec_l1Same_ev x y hx c) ?_
     cases sameB x y with
     | true=>simp only[Bool.not_true,Bool.false_eq_true,if_false];exact no
     | false=>simp only[Bool.not_false,if_true];exact spec_PairPlane_go x y hl4.2 c
   · simp only[if_neg (show ¬ (x.length:Int)=(y.length:Int) by omega),decide_eq_false c,Bool.false_and,Bool.false_eq_true,if_false]
     exact no
theorem impl_PairPlane_go (x y:List Int) (hx:x.length≤4) (hl:x.length=y.length):Ev (fun k=>impl_PairPlane.j0 k x y false) (keptM (pairW x y) (wrap64 (dotW x x-dotW y y))):=by
 refine Ev.step' (f:=fun k=>(impl_product.f k x x).bind fun t=>(impl_product.f k y y).bind fun u=>impl_PairPlane.l0 k y x (x.length:Int) 0 [] (wrap64 (t-u))) (fun k=>by simp only[impl_PairPlane.j0,Bool.false_eq_true,if_false]) ?_
 refine Ev.bind (impl_product_ev x x (by unfold maxLen;omega) (Nat.le_refl _)) (Ev.bind (impl_product_ev y y (by unfold maxLen;omega) (Nat.le_refl _)) ?_)
 have hf:=to_fold (L:=fun i (s:List Int) k=>impl_PairPlane.l0 k y x (x.length:Int) i s (wrap64 (dotW x x-dotW y y))) (n:=x.length) (f:=fun i s=>s++[wrap64 (2*(wrap64 (x.getD i 0-y.getD i 0)))]) (fun i s=>s.length=i) (fun i s hi hs=>⟨To.step fun k=>by
  have c1:(i:Int)<(x.length:Int):=by omega
  have c0:0≤(i:Int):=by omega
  have c2:(i:Int)<(y.length:Int):=by omega
  have c3:s.length<17592186044416:=by omega
  simp only[impl_PairPlane.l0,if_pos c1,if_pos c0,if_pos c2,if_pos c3,rd_nat,wrap_succ hi (by omega:x.length≤9223372036854775807)],by simp[hs]⟩) [] rfl
 refine hf.1 _ ?_
 rw[fold_append,List.nil_append]
 have hw:(pairW x y).length≤maxLen:=by unfold pairW maxLen;rw[List.length_map,List.length_range];omega
 refine Ev.step' (f:=fun k=>(impl_IsPlane.f k (pairW x y) (wrap64 (dotW x x-dotW y y))).bind fun t=>if t=true then some (pairW x y,wrap64 (dotW x x-dotW y y),true) else some ([],0,false)) (fun k=>by simp only[impl_PairPlane.l0,if_neg (Int.lt_irrefl _)] <;> rfl) (Ev.bind (impl_IsPlane_ev _ _ hw) ?_)
 unfold keptM
 cases planeB (pairW x y) (wrap64 (dotW x x-dotW y y)) with
 | false=>simp only[Bool.false_eq_true,if_false];exact Ev.now _
 | true=>simp only[if_true];exact Ev.now _
theorem impl_PairPlane_ev (x y:List Int) (hx:x.length≤maxLen) (hy:y.length≤maxLen):Ev (fun k=>impl_PairPlane.f k x y) (pairM x y):=by
 have no:Ev (fun k=>impl_PairPlane.j0 k x y true) ([],0,false):=Ev.step' (f:=fun _=>some ([],0,false)) (fun k=>by simp only[impl_PairPlane.j0,if_true]) (Ev.now _)
 refine Ev.bind (impl_IsPoint_ev x hx) ?_
 unfold pairM
 cases hp:pointB x with
 | false=>simp only[Bool.false_and,Bool.false_eq_true,if_false];exact no
 | true =>
  have hl4:=point_len hp
  simp only[Bool.true_and,if_true]
  refine Ev.bind (impl_IsPoint_ev y hy) ?_
  cases pointB y with
  | false=>simp only[Bool.false_and,Bool.false_eq_true,if_false];exact no
  | true =>
   simp only[Bool.true_and,if_true]
   by_cases c:x.length=y.length
   · simp only[if_pos (show (x.length:Int)=(y.length:Int) by omega),decide_eq_true c,Bool.true_and]
     refine Ev.bind (slices_Equal_int_int_ev x y hx c) ?_
     cases sameB x y with
     | true=>simp only[Bool.not_true,Bool.false_eq_true,if_false];exact no
     | false=>simp only[Bool.not_false,if_true];exact impl_PairPlane_go x y hl4.2 c
   · simp only[if_neg (show ¬ (x.length:Int)=(y.length:Int) by omega),decide_eq_false c,Bool.false_and,Bool.false_eq_true,if_false]
     exact no
theorem laws_rInts_ev (a b:List Int) (h:a.length≤maxLen):Ev (fun k=>laws_rInts.f k a b) (decide (a=b)):=by
 have h' : a.length≤9223372036854775807:=h
 unfold laws_rInts.f
 by_cases c:a.length=b.length
 · simp only[if_pos (show (a.length:Int)=(b.length:Int) by omega)]
   refine ev_eq (ev_list 0 a (fun i (_:Unit) k=>laws_rInts.l0 k a b i) (fun i ys _=>decide (ys=b.drop i)) (fun _ _=>True) (fun _ _ => ?_) (fun i x ys _ hi hx hm _ ih => ?_) () trivial) ?_
   · have c1:¬ (a.length:Int)<(a.length:Int):=by omega
     refine ev_eq (Ev.step' (f:=fun _=>some true) (fun k=>by simp only[laws_rInts.l0,if_neg c1]) (Ev.now _)) ?_
     rw[c,List.drop_length];simp
   · have c1:(i:Int)<(a.length:Int):=by omega
     have c2:0≤(i:Int):=by omega
     have c3:(i:Int)<(b.length:Int):=by omega
     have hib:i<b.length:=by omega
     have eb:b.getD i 0=b[i]:=by simp[List.getD_eq_getElem?_getD,hib]
     by_cases e:x=b.getD i 0
     · refine ev_eq (Ev.step' (fun k=>by simp only[laws_rInts.l0,if_pos c1,if_pos c2,if_pos c3,rd_nat,hx,if_pos e,wrap_succ hi h']) (ih () trivial)) ?_
       rw[List.drop_eq_getElem_cons hib,← eb,← e];simp
     · refine ev_eq (Ev.step' (f:=fun _=>some false) (fun k=>by simp only[laws_rInts.l0,if_pos c1,if_pos c2,if_pos c3,rd_nat,hx,if_neg e]) (Ev.now _)) ?_
       rw[List.drop_eq_getElem_cons hib,← eb]
       symm
       apply decide_eq_false
       intro hh
       exact e (List.cons.inj hh).1
   · simp
 · simp only[if_neg (show ¬ (a.length:Int)=(b.length:Int) by omega)]
   refine ev_eq (Ev.now _) ?_
   symm
   apply decide_eq_false
   rintro rfl
   exact c rfl
theorem laws_rPlane_ev (a:List Int) (x:Int) (b:List Int) (y:Int) (h:a.length≤maxLen):Ev (fun k=>laws_rPlane.f k a x b y) (decide (x=y) && decide (a=b)):=by
 unfold laws_rPlane.f
 by_cases c:x=y
 · simp only[if_pos c,decide_eq_true c,Bool.true_and]
   exact Ev.bind (laws_rInts_ev a b h) (Ev.now _)
 · simp only[if_neg c,decide_eq_false c,Bool.false_and]
   exact Ev.now _
theorem spec_l2Labels_ev (l:List Int) (h:l.length≤maxLen):Ev (fun k=>spec_l2Labels.f k l) (l.all isLab):=by
 have h' : l.length≤9223372036854775807:=h
 refine ev_list 0 l (fun i (_:Unit) k=>spec_l2Labels.l0 k l i) (fun _ ys _=>ys.all isLab) (fun _ _=>True) (fun _ _ => ?_) (fun i x ys _ hi hx hm _ ih => ?_) () trivial
 · exact Ev.step' (f:=fun _=>some true) (fun k=>by simp only[spec_l2Labels.l0,if_neg (Int.lt_irrefl _)]) (Ev.now _)
 · have c1:(i:Int)<(l.length:Int):=by omega
   have c0:0≤(i:Int):=by omega
   have ih:=ih () trivial
   simp only[List.all_cons]
   unfold isLab at ih ⊢
   by_cases e1:x=1
   · rw[show (decide (x=1)||decide (x = -1))=true by simp[e1],Bool.true_and]
     exact Ev.step' (fun k=>by simp only[spec_l2Labels.l0,if_pos c1,if_pos c0,rd_nat,hx,if_pos e1,wrap_succ hi h']) ih
   · by_cases e2:x = -1
     · rw[show (decide (x=1)||decide (x = -1))=true by simp[e2],Bool.true_and]
       exact Ev.step' (fun k=>by simp only[spec_l2Labels.l0,if_pos c1,if_pos c0,rd_nat,hx,if_neg e1,if_pos e2,wrap_succ hi h']) ih
     · rw[show (decide (x=1)||decide (x = -1))=false by simp[e1,e2],Bool.false_and]
       exact Ev.step' (f:=fun _=>some false) (fun k=>by simp only[spec_l2Labels.l0,if_pos c1,if_pos c0,rd_nat,hx,if_neg e1,if_neg e2]) (Ev.now _)
theorem spec_l2Sample_ev (P:List (List Int)) (L:List Int) (h:P.length≤maxLen) (hi:∀ x∈P,x.length≤maxLen) (hL:L.length≤maxLen):Ev (fun k=>spec_l2Sample.f k P L) (sampleB P L):=by
 have h' : P.length≤9223372036854775807:=h
 have no:Ev (fun k=>spec_l2Sample.j0 k true P L) false:=Ev.step' (f:=fun _=>some false) (fun k=>by simp only[spec_l2Sample.j0,if_true]) (Ev.now _)
 unfold sampleB spec_l2Sample.f
 by_cases c:P.length≤16
 · rw[decide_eq_true c,Bool.true_and]
   simp only[if_neg (show ¬ (P.length:Int)>16 by omega)]
   by_cases c2:L.length=P.length
   · rw[decide_eq_true c2,Bool.true_and]
     simp only[if_pos (show (L.length:Int)=(P.length:Int) by omega)]
     refine Ev.bind (spec_l2Labels_ev L hL) ?_
     cases L.all isLab with
     | false=>exact no
     | true =>
      refine Ev.step' (f:=fun k=>spec_l2Sample.l0 k 0 P L) (fun k=>by simp only[spec_l2Sample.j0,Bool.not_true,Bool.false_eq_true,if_false]) ?_
      rw[Bool.true_and]
      refine ev_list [] P (fun i (_:Unit) k=>spec_l2Sample.l0 k i P L) (fun _ ys _=>ys.all (ptB P)) (fun _ _=>True) (fun _ _ => ?_) (fun i x ys _ hi2 hx hm _ ih => ?_) () trivial
      · exact Ev.step' (f:=fun _=>some true) (fun k=>by simp only[spec_l2Sample.l0,if_neg (Int.lt_irrefl _)]) (Ev.now _)
      · have c1:(i:Int)<(P.length:Int):=by omega
        have c0:0≤(i:Int):=by omega
        have cp:0<(P.length:Int):=by omega
        rw[List.all_cons]
        unfold ptB
        refine Ev.step' (f:=fun k=>(spec_l2Point.f k x).bind fun t=>if t=true then (if (x.length:Int)=((P.getD 0 []).length:Int) then spec_l2Sample.l0 k ((i+1:Nat):Int) P L else some false) else some false) (fun k=>by simp only[spec_l2Sample.l0,if_pos c1,if_pos c0,if_pos cp,rdL3_nat,hx,wrap_succ hi2 h'] <;> rfl) ?_
        refine Ev.bind (spec_l2Point_ev x (hi x hm)) ?_
        cases pointB x with
        | false=>exact Ev.now _
        | true =>
         simp only[if_true,Bool.true_and]
         by_cases c5:x.length=(P.getD 0 []).length
         · rw[decide_eq_true c5,Bool.true_and]
           simp only[if_pos (show (x.length:Int)=((P.getD 0 []).length:Int) by omega)]
           exact ih () trivial
         · rw[decide_eq_false c5,Bool.false_and]
           simp only[if_neg (show ¬ (x.length:Int)=((P.getD 0 []).length:Int) by omega)]
           exact Ev.now _
   · rw[decide_eq_false c2,Bool.false_and]
     simp only[if_neg (show ¬ (L.length:Int)=(P.length:Int) by omega)]
     exact no
 · rw[decide_eq_false c,Bool.false_and]
   simp only[if_pos (show (P.length:Int)>16 by omega)]
   exact no
theorem plane_loop (l:List Int) (hb:byteL l) (n:Nat) (hn:n≤8) (g:Int) (hg:1≤g∧g≤20) (B:Int) (hB:B≤4000000000) (d:Nat):∀ (i:Nat) (p s:Int) (w:List Int),i+d=n→w.length=i→0≤p→p≤B-2*(d:Int)→∃ w' b q t,Ev (fun k=>spec_l1Cur_plane.l0 k (n:Int) g (i:Int) l p s w 0) (w',b,q,t)∧w'.length≤n+1∧p≤q∧q≤p+2*d+10:=by
 induction d with
 | zero =>
  intro i p s w hi hw hp hp2
  have c1:¬ (i:Int)<(n:Int):=by omega
  obtain ⟨v1,q1,t1,e1,a1,a2,a3,a4⟩:=spec_l1Cur_pick_tells l p s (wrap64 (wrap64 (2*g)+3)) hp (by omega) (by rw[wrap_id (x:=2*g) (by omega) (by omega),wrap_id (by omega) (by omega)];omega) hb
  obtain ⟨v2,q2,t2,e2,b1,b2,b3,b4⟩:=spec_l1Cur_pick_tells l q1 t1 60 (by omega) (by omega) (by omega) hb
  by_cases h0:v2=0
  · obtain ⟨v3,q3,t3,e3,_,d3,d4⟩:=spec_l1Cur_among_tells l q2 t2 [99,(-99),100,(-100),4611686018427387904] (by omega) (by omega) (by decide) hb
    exact ⟨w,v3,q3,t3,Ev.step' (f:=fun _=>some (w,v3,q3,t3)) (fun k=>by simp only[spec_l1Cur_plane.l0,if_neg c1,e1,Option.bind_some,e2,if_pos h0,e3]) (Ev.now _),by omega,by omega,by omega⟩
  · by_cases h1:v2=1
    · by_cases h2:(n:Int)>0
      · obtain ⟨v4,q4,t4,e4,f1,f2,f3,f4⟩:=spec_l1Cur_pick_tells l q2 t2 (n:Int) (by omega) (by omega) (by omega) hb
        obtain ⟨v5,q5,t5,e5,_,g3,g4⟩:=spec_l1Cur_among_tells l q4 t4 [99,(-99),100,(-100)] (by omega) (by omega) (by decide) hb
        have c5:v4<(w.length:Int):=by omega
        exact ⟨w.set v4.toNat v5,wrap64 (wrap64 (v1-g)-1),q5,t5,Ev.step' (f:=fun _=>some (w.set v4.toNat v5,wrap64 (wrap64 (v1-g)-1),q5,t5)) (fun k=>by simp only[spec_l1Cur_plane.l0,if_neg c1,e1,Option.bind_some,e2,if_neg h0,if_pos h1,if_pos h2,e4,e5,if_pos f1,if_pos c5]) (Ev.now _),by rw[List.length_set];omega,by omega,by omega⟩
      · exact ⟨w,wrap64 (wrap64 (v1-g)-1),q2,t2,Ev.step' (f:=fun _=>some (w,wrap64 (wrap64 (v1-g)-1),q2,t2)) (fun k=>by simp only[spec_l1Cur_plane.l0,if_neg c1,e1,Option.bind_some,e2,if_neg h0,if_pos h1,if_neg h2]) (Ev.now _),by omega,by omega,by omega⟩
    · by_cases h2:v2=2
      · have c6:w.length<17592186044416:=by omega
        exact ⟨w++[1],wrap64 (wrap64 (v1-g)-1),q2,t2,Ev.step' (f:=fun _=>some (w++[1],wrap64 (wrap64 (v1-g)-1),q2,t2)) (fun k=>by simp only[spec_l1Cur_plane.l0,if_neg c1,e1,Option.bind_some,e2,if_neg h0,if_neg h1,if_pos h2,if_pos c6]) (Ev.now _),by rw[List.length_append];simp only[List.length_cons,List.length_nil];omega,by omega,by omega⟩
      · exact ⟨w,wrap64 (wrap64 (v1-g)-1),q2,t2,Ev.step' (f:=fun _=>some (w,wrap64 (wrap64 (v1-g)-1),q2,t2)) (fun k=>by simp only[spec_l1Cur_plane.l0,if_neg c1,e1,Option.bind_some,e2,if_neg h0,if_neg h1,if_neg h2]) (Ev.now _),by omega,by omega,by omega⟩
 | succ d ih =>
  intro i p s w hi hw hp hp2
  have c1:(i:Int)<(n:Int):=by omega
  have c2:w.length<17592186044416:=by omega
  obtain ⟨v1,q1,t1,e1,_,_,a3,a4⟩:=spec_l1Cur_pick_tells l p s (wrap64 (wrap64 (2*g)+1)) hp (by omega) (by rw[wrap_id (x:=2*g) (by omega) (by omega),wrap_id (by omega) (by omega)];omega) hb
  obtain ⟨w',b,q,t,h1,h2,h3,h4⟩:=ih (i+1) q1 t1 (w++[wrap64 (v1-g)]) (by omega) (by rw[List.length_append,hw];rfl) (by omega) (by omega)
  exact ⟨w',b,q,t,Ev.step' (fun k=>by simp only[spec_l1Cur_plane.l0,if_pos c1,e1,Option.bind_some,if_pos c2,wrap_succ (show i<n by omega) (show n≤9223372036854775807 by omega)]) h1,h2,by omega,by omega⟩
theorem spec_l1Cur_plane_tells (l:List Int) (p s:Int) (n:Nat) (hn:n≤8) (hp:0≤p) (hp2:p≤1000000000) (hb:byteL l):∃ w b q t,Ev (fun k=>spec_l1Cur_plane.f k l p s (n:Int)) (w,b,q,t)∧w.length≤n+1∧p≤q∧q≤p+100:=by
 obtain ⟨g,q1,t1,e1,hm,a3,a4⟩:=spec_l1Cur_among_tells l p s [1,3,5,20] hp (by omega) (by decide) hb
 have hg:1≤g∧g≤20:=by
  simp only[List.mem_cons,List.not_mem_nil,or_false] at hm
  omega
 obtain ⟨w,b,q,t,h1,h2,h3,h4⟩:=plane_loop l hb n hn g hg 2000000000 (by omega) n 0 q1 t1 [] (by omega) rfl (by omega) (by omega)
 exact ⟨w,b,q,t,Ev.congr (fun k=>by simp only[spec_l1Cur_plane.f,e1,Option.bind_some];rfl) h1,h2,by omega,by omega⟩
theorem spec_l2Side_ev (w:List Int) (b:Int) (x:List Int) (hw:w.length≤maxLen) (hx:w.length≤x.length):Ev (fun k=>spec_l2Side.f k w b x) (sideW w b x):=by
 refine Ev.bind (spec_l2Dot_ev w x hw hx) ?_
 unfold sideW
 by_cases c:dotW w x≥b
 · simp only[if_pos c];exact Ev.now _
 · simp only[if_neg c];exact Ev.now _
theorem spec_l1Least_eq (a b:Int):spec_l1Least.f a b=some (mnI a b):=by
 unfold spec_l1Least.f mnI
 split <;> rfl
theorem spec_l2One_ev (w:List Int) (b:Int) (x:List Int) (hw:w.length≤maxLen) (hx:x.length≤maxLen):Ev (fun k=>spec_l2One.f k w b x) (meetsB w b x):=by
 refine Ev.bind (spec_l2Plane_ev w b hw) ?_
 unfold meetsB
 cases planeB w b with
 | false=>exact Ev.now _
 | true =>
  simp only[if_true,Bool.true_and]
  refine Ev.bind (spec_l2Point_ev x hx) ?_
  cases pointB x <;> exact Ev.now _
def Few (P:List (List Int)) (L:List Int):Prop:=P.length≤17∧L.length≤18∧∀ x∈P,x.length≤9
theorem Few.add {P:List (List Int)} {L:List Int} {x:List Int} (hP:∀ x∈P,x.length≤9) (hx:x.length≤9):∀ y∈P++[x],y.length≤9:=fun y hy=>by
 rcases List.mem_append.1 hy with h|h
 · exact hP y h
 · rw[List.mem_singleton.1 h];exact hx
theorem sample_fill (l:List Int) (d:Nat) (hd:d≤8) (q t:Int) (m:Nat):∀ (P:List (List Int)) (L:List Int),P.length+m=17→L.length=P.length→(∀ x∈P,x.length≤9)→∃ P' L',Ev (fun k=>spec_l1Cur_someSample.l1 k (d:Int) l q t P L) (P',L',q,t)∧Few P' L' := by
 induction m with
 | zero =>
  intro P L h1 h2 h3
  have c1:¬ (P.length:Int)<17:=by omega
  exact ⟨P,L,Ev.step' (f:=fun _=>some (P,L,q,t)) (fun k=>by simp only[spec_l1Cur_someSample.l1,if_neg c1]) (Ev.now _),by omega,by omega,h3⟩
 | succ m ih =>
  intro P L h1 h2 h3
  have c1:(P.length:Int)<17:=by omega
  have c2:0≤(d:Int):=by omega
  have c3:d≤35184372088832:=by omega
  have c4:P.length<5864062014805:=by omega
  have c5:L.length<17592186044416:=by omega
  obtain ⟨P',L',h4,h5⟩:=ih (P++[List.replicate d 0]) (L++[1]) (by simp;omega) (by simp;omega) (Few.add (L:=L) h3 (by rw[List.length_replicate];omega))
  exact ⟨P',L',Ev.step' (fun k=>by simp only[spec_l1Cur_someSample.l1,if_pos c1,if_pos c2,Int.toNat_natCast,if_pos c3,if_pos c4,if_pos c5]) h4,h5⟩
theorem sample_last (l:List Int) (hb:byteL l) (d:Nat) (hd:d≤8) (n:Nat) (hn:n≤16) (p s:Int) (P:List (List Int)) (L:List Int) (h1:P.length=n) (h2:L.length=n) (h3:∀ x∈P,x.length≤9) (hp:0≤p) (hp2:p≤4000000000):∃ P' L' q t,Ev (fun k=>spec_l1Cur_someSample.j2 k (d:Int) (n:Int) l p s P L) (P',L',q,t)∧Few P' L' ∧ p≤q∧q≤p+10:=by
 obtain ⟨v2,q2,t2,e2,b1,b2,b3,b4⟩:=spec_l1Cur_pick_tells l p s 50 (by omega) (by omega) (by omega) hb
 have c5:L.length<17592186044416:=by omega
 by_cases h0:v2=0
 · exact ⟨P,L++[1],q2,t2,Ev.step' (f:=fun _=>some (P,L++[1],q2,t2)) (fun k=>by simp only[spec_l1Cur_someSample.j2,e2,Option.bind_some,if_pos h0,if_pos c5]) (Ev.now _),⟨by omega,by simp;omega,h3⟩,by omega,by omega⟩
 · by_cases h1' : v2=1
   · by_cases h4:(n:Int)>0
     · obtain ⟨v4,q4,t4,e4,f1,f2,f3,f4⟩:=spec_l1Cur_pick_tells l q2 t2 (n:Int) (by omega) (by omega) (by omega) hb
       obtain ⟨v5,q5,t5,e5,_,g3,g4⟩:=spec_l1Cur_among_tells l q4 t4 [0,2,(-2),1] (by omega) (by omega) (by decide) hb
       have c6:v4<(L.length:Int):=by omega
       exact ⟨P,L.set v4.toNat v5,q5,t5,Ev.step' (f:=fun _=>some (P,L.set v4.toNat v5,q5,t5)) (fun k=>by simp only[spec_l1Cur_someSample.j2,e2,Option.bind_some,if_neg h0,if_pos h1',if_pos h4,e4,e5,if_pos f1,if_pos c6]) (Ev.now _),⟨by omega,by rw[List.length_set];omega,h3⟩,by omega,by omega⟩
     · exact ⟨P,L,q2,t2,Ev.step' (f:=fun _=>some (P,L,q2,t2)) (fun k=>by simp only[spec_l1Cur_someSample.j2,e2,Option.bind_some,if_neg h0,if_pos h1',if_neg h4]) (Ev.now _),⟨by omega,by omega,h3⟩,by omega,by omega⟩
   · by_cases h4:v2=2
     · obtain ⟨P',L',h5,h6⟩:=sample_fill l d hd q2 t2 (17-n) P L (by omega) (by omega) h3
       exact ⟨P',L',q2,t2,Ev.step' (fun k=>by simp only[spec_l1Cur_someSample.j2,e2,Option.bind_some,if_neg h0,if_neg h1',if_pos h4]) h5,h6,by omega,by omega⟩
     · exact ⟨P,L,q2,t2,Ev.step' (f:=fun _=>some (P,L,q2,t2)) (fun k=>by simp only[spec_l1Cur_someSample.j2,e2,Option.bind_some,if_neg h0,if_neg h1',if_neg h4]) (Ev.now _),⟨by omega,by omega,h3⟩,by omega,by omega⟩
theorem sample_swap (l:List Int) (hb:byteL l) (d:Nat) (hd:d≤8) (n:Nat) (hn:n≤16) (c:Bool) (hc:c=true→1<n) (p s:Int) (P:List (List Int)) (L:List Int) (h1:P.length=n) (h2:L.length=n) (h3:∀ x∈P,x.length≤9) (hp:0≤p) (hp2:p≤4000000000):∃ P' L' q t,Ev (fun k=>spec_l1Cur_someSample.j1 k (d:Int) (n:Int) c l p s P L) (P',L',q,t)∧Few P' L' ∧ p≤q∧q≤p+10:=by
 cases c with
 | false =>
  obtain ⟨P',L',q,t,h4,h5⟩:=sample_last l hb d hd n hn p s P L h1 h2 h3 hp hp2
  exact ⟨P',L',q,t,Ev.step' (fun k=>by simp only[spec_l1Cur_someSample.j1,Bool.false_eq_true,if_false]) h4,h5⟩
 | true =>
  have hn1:=hc rfl
  have hx:(P.getD 1 []).length≤9:=h3 _ (getD_mem (by omega) [])
  obtain ⟨P',L',q,t,h4,h5⟩:=sample_last l hb d hd n hn p s (P.set 0 (P.getD 1 [])) L (by rw[List.length_set];omega) h2 (fun y hy=>by
   rcases List.mem_or_eq_of_mem_set hy with h|h
   · exact h3 y h
   · rw[h];exact hx) hp hp2
  have c1:1<(P.length:Int):=by omega
  have c2:0<(P.length:Int):=by omega
  exact ⟨P',L',q,t,Ev.step' (fun k=>by simp only[spec_l1Cur_someSample.j1,if_true,if_pos c1,if_pos c2];exact congrArg (fun o=>Option.bind o (fun t=>spec_l1Cur_someSample.j2 k (d:Int) (n:Int) l p s (P.set 0 t) L)) (spec_l1Own_eq (P.getD 1 []) (by omega))) h4,h5⟩
theorem sample_loop (l:List Int) (hb:byteL l) (d:Nat) (hd:d≤8) (n:Nat) (hn:n≤16) (fits:Bool) (pw:List Int) (pb:Int) (hpw:pw.length≤maxLen) (B:Int) (hB:B≤3000000000) (m:Nat):∀ (i:Nat) (p s:Int) (P:List (List Int)) (L:List Int),i+m=n→P.length=i→L.length=i→(∀ x∈P,x.length≤9)→0≤p→p≤B-200*(m:Int)→p≤1000000000-200*(m:Int)→∃ P' L' q t,Ev (fun k=>spec_l1Cur_someSample.l0 k (d:Int) (n:Int) fits (i:Int) l p s P L pw pb) (P',L',q,t)∧Few P' L' ∧ p≤q∧q≤p+200*m+20:=by
 induction m with
 | zero =>
  intro i p s P L hi h1 h2 h3 hp hp2 hp3
  have c1:¬ (i:Int)<(n:Int):=by omega
  by_cases c2:(n:Int)>1
  · obtain ⟨v3,q3,t3,e3,d3,d4⟩:=spec_l1Cur_one_tells l p s 10 (by omega) (by omega) (by omega) hb
    obtain ⟨P',L',q,t,h4,h5,h6,h7⟩:=sample_swap l hb d hd n hn v3 (fun _=>by omega) q3 t3 P L (by omega) (by omega) h3 (by omega) (by omega)
    exact ⟨P',L',q,t,Ev.step' (fun k=>by simp only[spec_l1Cur_someSample.l0,if_neg c1,if_pos c2,e3,Option.bind_some]) h4,h5,by omega,by omega⟩
  · obtain ⟨P',L',q,t,h4,h5,h6,h7⟩:=sample_swap l hb d hd n hn false (fun h=>Bool.noConfusion h) p s P L (by omega) (by omega) h3 (by omega) (by omega)
    exact ⟨P',L',q,t,Ev.step' (fun k=>by simp only[spec_l1Cur_someSample.l0,if_neg c1,if_neg c2]) h4,h5,by omega,by omega⟩
 | succ m ih =>
  intro i p s P L hi h1 h2 h3 hp hp2 hp3
  have c1:(i:Int)<(n:Int):=by omega
  have c4:P.length<5864062014805:=by omega
  have c5:L.length<17592186044416:=by omega
  obtain ⟨x,q1,t1,e1,b2,b3,b4⟩:=spec_l1Cur_point_tells l p s d (by omega) (by omega) (by omega) hb
  obtain ⟨v2,q2,t2,e2,_,_,d3,d4⟩:=spec_l1Cur_pick_tells l q1 t1 2 (by omega) (by omega) (by omega) hb
  have hx:x.length≤maxLen:=by unfold maxLen;omega
  have rest:∀ y:Int,∃ P' L' q t,Ev (fun k=>spec_l1Cur_someSample.l0 k (d:Int) (n:Int) fits ((i+1:Nat):Int) l q2 t2 (P++[x]) (L++[y]) pw pb) (P',L',q,t)∧Few P' L' ∧ q2≤q∧q≤q2+200*m+20:=fun y=>ih (i+1) q2 t2 (P++[x]) (L++[y]) (by omega) (by rw[List.length_append,h1];rfl) (by rw[List.length_append,h2];rfl) (Few.add (L:=L) h3 (by omega)) (by omega) (by omega) (by omega)
  obtain ⟨P0,L0,q0,t0,r1,r2,r3,r4⟩:=rest (wrap64 (1-wrap64 (2*v2)))
  have hw:wrap64 ((i:Int)+1)=((i+1:Nat):Int):=wrap_succ (show i<n by omega) (show n≤9223372036854775807 by omega)
  cases fits with
  | false =>
   refine ⟨P0,L0,q0,t0,Ev.step' (fun k=>by simp only[spec_l1Cur_someSample.l0,if_pos c1,Bool.false_eq_true,if_false,if_pos c4,if_pos c5,hw];rfl) (Ev.bind e1 ?_),r2,by omega,by omega⟩
   simp only[e2,Option.bind_some]
   exact r1
  | true =>
   cases hm:meetsB pw pb x with
   | false =>
    refine ⟨P0,L0,q0,t0,Ev.step' (fun k=>by simp only[spec_l1Cur_someSample.l0,if_pos c1,if_true,if_pos c4,if_pos c5,hw];rfl) (Ev.bind e1 ?_),r2,by omega,by omega⟩
    simp only[e2,Option.bind_some]
    refine Ev.bind (spec_l2One_ev pw pb x hpw hx) ?_
    simp only[hm,Bool.false_eq_true,if_false]
    exact r1
   | true =>
    obtain ⟨P3,L3,q3,t3,u1,u2,u3,u4⟩:=rest (sideW pw pb x)
    refine ⟨P3,L3,q3,t3,Ev.step' (fun k=>by simp only[spec_l1Cur_someSample.l0,if_pos c1,if_true,if_pos c4,if_pos c5,hw];rfl) (Ev.bind e1 ?_),u2,by omega,by omega⟩
    simp only[e2,Option.bind_some]
    refine Ev.bind (spec_l2One_ev pw pb x hpw hx) ?_
    simp only[hm,if_true]
    exact Ev.bind (spec_l2Side_ev pw pb x hpw (meets_len hm)) u1
theorem spec_l1Cur_someSample_tells (l:List Int) (p s:Int) (d:Nat) (hd:d≤8) (m:Int) (hm:0≤m) (hp:0≤p) (hp2:p≤100000000) (hb:byteL l):∃ P L q t,Ev (fun k=>spec_l1Cur_someSample.f k l p s (d:Int) m) (P,L,q,t)∧Few P L∧p≤q∧q≤p+4000:=by
 obtain ⟨g,q1,t1,e1,hg,a3,a4⟩:=spec_l1Cur_among_tells l p s [4,6,3,5,2,8,1,0,12,16] hp (by omega) (by decide) hb
 have hg2:0≤g∧g≤16:=by
  simp only[List.mem_cons,List.not_mem_nil,or_false] at hg
  omega
 have hmn:0≤mnI g m∧mnI g m≤16:=by unfold mnI;split <;> omega
 obtain ⟨n,hn⟩:=Int.eq_ofNat_of_zero_le hmn.1
 have hn2:n≤16:=by omega
 have el:spec_l1Least.f g m=some (n:Int):=by rw[spec_l1Least_eq,hn]
 obtain ⟨w,b,q2,t2,e2,b2,b3,b4⟩:=spec_l1Cur_plane_tells l q1 t1 d hd (by omega) (by omega) hb
 obtain ⟨v3,q3,t3,e3,d3,d4⟩:=spec_l1Cur_one_tells l q2 t2 3 (by omega) (by omega) (by omega) hb
 obtain ⟨P,L,q,t,h1,h2,h3,h4⟩:=sample_loop l hb d hd n hn2 (!v3) w b (by unfold maxLen;omega) 1000000000 (by omega) n 0 q3 t3 [] [] (by omega) rfl rfl (fun _ h=>by cases h) (by omega) (by omega) (by omega)
 refine ⟨P,L,q,t,?_,h2,by omega,by omega⟩
 simp only[spec_l1Cur_someSample.f,e1,Option.bind_some,el]
 refine Ev.bind e2 ?_
 simp only[e3,Option.bind_some]
 exact h1
theorem mixed_last (l:List Int) (hb:byteL l) (c:Bool) (p s:Int) (P:List (List Int)) (L:List Int) (hc:c=true→0<P.length∧L.length=P.length) (hF:Few P L) (hp:0≤p) (hp2:p≤4000000000):∃ P' L' q t,Ev (fun k=>spec_l1Cur_mixed.j0 k (P.length:Int) c l p s P L) (P',L',q,t)∧Few P' L' ∧ p≤q∧q≤p+10:=by
 cases c with
 | false=>exact ⟨P,L,p,s,Ev.step' (f:=fun _=>some (P,L,p,s)) (fun k=>by simp only[spec_l1Cur_mixed.j0,Bool.false_eq_true,if_false]) (Ev.now _),hF,by omega,by omega⟩
 | true =>
  obtain ⟨h0,h1⟩:=hc rfl
  obtain ⟨v1,q1,t1,e1,a1,a2,a3,a4⟩:=spec_l1Cur_pick_tells l p s (P.length:Int) (by omega) (by omega) (by omega) hb
  obtain ⟨v2,q2,t2,e2,_,_,b3,b4⟩:=spec_l1Cur_pick_tells l q1 t1 2 (by omega) (by omega) (by omega) hb
  obtain ⟨v3,q3,t3,e3,c1,c2,c3,c4⟩:=spec_l1Cur_pick_tells l q2 t2 (P.length:Int) (by omega) (by omega) (by omega) hb
  obtain ⟨v4,q4,t4,e4,_,_,d3,d4⟩:=spec_l1Cur_pick_tells l q3 t3 2 (by omega) (by omega) (by omega) hb
  have k1:v1<(L.length:Int):=by omega
  have k3:v3<(L.length:Int):=by omega
  refine ⟨P,(L.set v1.toNat (wrap64 (1-wrap64 (2*v2)))).set v3.toNat (wrap64 (1-wrap64 (2*v4))),q4,t4,Ev.step' (f:=fun _=>some (P,(L.set v1.toNat (wrap64 (1-wrap64 (2*v2)))).set v3.toNat (wrap64 (1-wrap64 (2*v4))),q4,t4)) (fun k=>by simp only[spec_l1Cur_mixed.j0,if_true,e1,Option.bind_some,e2,if_pos a1,if_pos k1,e3,e4,if_pos c1,if_pos k3]) (Ev.now _),⟨hF.1,by rw[List.length_set,List.length_set];exact hF.2.1,hF.2.2⟩,by omega,by omega⟩
theorem spec_l1Cur_mixed_tells (l:List Int) (p s:Int) (m:Int) (hm:0≤m) (hp:0≤p) (hp2:p≤10000000) (hb:byteL l):∃ P L q t,Ev (fun k=>spec_l1Cur_mixed.f k l p s m) (P,L,q,t)∧Few P L∧p≤q∧q≤p+5000:=by
 obtain ⟨g,q1,t1,e1,hg,a3,a4⟩:=spec_l1Cur_among_tells l p s [1,2,2,3,4] hp (by omega) (by decide) hb
 have hg2:0≤g∧g≤4:=by
  simp only[List.mem_cons,List.not_mem_nil,or_false] at hg
  omega
 obtain ⟨d,rfl⟩:=Int.eq_ofNat_of_zero_le hg2.1
 obtain ⟨P,L,q2,t2,e2,hF,b3,b4⟩:=spec_l1Cur_someSample_tells l q1 t1 d (by omega) m hm (by omega) (by omega) hb
 have hP:P.length≤maxLen:=by have:=hF.1;unfold maxLen;omega
 have hL:L.length≤maxLen:=by have:=hF.2.1;unfold maxLen;omega
 have hi:∀ x∈P,x.length≤maxLen:=fun x hx=>by have:=hF.2.2 x hx;unfold maxLen;omega
 have fin:∀ (c:Bool) (p' s' : Int),(c=true→0<P.length∧L.length=P.length)→q2≤p' → p' ≤ q2+2→∃ P' L' q t,Ev (fun k=>spec_l1Cur_mixed.j0 k (P.length:Int) c l p' s' P L) (P',L',q,t)∧Few P' L' ∧ p≤q∧q≤p+5000:=fun c p' s' hc h1 h2=>by
  obtain ⟨P',L',q,t,h3,h4,h5,h6⟩:=mixed_last l hb c p' s' P L hc hF (by omega) (by omega)
  exact ⟨P',L',q,t,h3,h4,by omega,by omega⟩
 by_cases c0:(P.length:Int)>0
 · cases hs:sampleB P L with
   | false =>
    obtain ⟨P',L',q,t,h3,h4,h5,h6⟩:=fin false q2 t2 (fun h=>Bool.noConfusion h) (by omega) (by omega)
    refine ⟨P',L',q,t,?_,h4,h5,h6⟩
    simp only[spec_l1Cur_mixed.f,e1,Option.bind_some]
    refine Ev.bind e2 ?_
    simp only[if_pos c0]
    refine Ev.bind (spec_l2Sample_ev P L hP hi hL) ?_
    simp only[hs,Bool.false_eq_true,if_false]
    exact h3
   | true =>
    obtain ⟨v3,q3,t3,e3,d3,d4⟩:=spec_l1Cur_one_tells l q2 t2 2 (by omega) (by omega) (by omega) hb
    obtain ⟨P',L',q,t,h3,h4,h5,h6⟩:=fin v3 q3 t3 (fun _=>⟨by omega,(sample_tell hs).2.1⟩) (by omega) (by omega)
    refine ⟨P',L',q,t,?_,h4,h5,h6⟩
    simp only[spec_l1Cur_mixed.f,e1,Option.bind_some]
    refine Ev.bind e2 ?_
    simp only[if_pos c0]
    refine Ev.bind (spec_l2Sample_ev P L hP hi hL) ?_
    simp only[hs,if_true,e3,Option.bind_some]
    exact h3
 · obtain ⟨P',L',q,t,h3,h4,h5,h6⟩:=fin false q2 t2 (fun h=>Bool.noConfusion h) (by omega) (by omega)
   refine ⟨P',L',q,t,?_,h4,h5,h6⟩
   simp only[spec_l1Cur_mixed.f,e1,Option.bind_some]
   refine Ev.bind e2 ?_
   simp only[if_neg c0]
   exact h3
theorem spec_DrawCondensedPlaces_tells (l:List Int) (hb:byteL l):∃ P L,Ev (fun k=>spec_DrawCondensedPlaces.f k l) (P,L)∧Few P L:=by
 obtain ⟨g,q1,t1,e1,hg,a3,a4⟩:=spec_l1Cur_among_tells l 0 0 [6,8,16] (by omega) (by omega) (by decide) hb
 have hg2:0≤g:=by
  simp only[List.mem_cons,List.not_mem_nil,or_false] at hg
  omega
 obtain ⟨P,L,q,t,h1,h2,h3,h4⟩:=spec_l1Cur_mixed_tells l q1 t1 g hg2 (by omega) (by omega) hb
 refine ⟨P,L,Ev.bind (a:=(P,L,q,t)) ?_ (Ev.now _),h2⟩
 simp only[spec_DrawCondensedPlaces_c.f,e1,Option.bind_some]
 exact Ev.bind h1 (Ev.now _)
theorem spec_DrawMeanPlane_tells (l:List Int) (hb:byteL l):∃ P L,Ev (fun k=>spec_DrawMeanPlane.f k l) (P,L)∧Few P L:=by
 obtain ⟨P,L,h,hF⟩:=spec_DrawCondensedPlaces_tells l hb
 exact ⟨P,L,Ev.bind h (Ev.now _),hF⟩
theorem impl_Sample_with_ev (P:List (List Int)) (L:List Int) (v:Int) (h:L.length≤1048576):Ev (fun k=>impl_Sample_with.f k P L v) (withL v 0 L):=by
 refine ev_list 0 L (fun i (s:List Int) k=>impl_Sample_with.l0 k v s L (L.length:Int) i) (fun i ys s=>s++withL v i ys) (fun i s=>s.length≤i) (fun s _ => ?_) (fun i x ys s hi hx hm hs ih => ?_) [] (Nat.le_refl _)
 · exact Ev.step' (f:=fun _=>some s) (fun k=>by simp only[impl_Sample_with.l0,if_neg (Int.lt_irrefl _)]) (by simpa [withL] using Ev.now _)
 · have c1:(i:Int)<(L.length:Int):=by omega
   have c0:0≤(i:Int):=by omega
   have c2:s.length<17592186044416:=by omega
   have hw:wrap64 ((i:Int)+1)=((i+1:Nat):Int):=wrap_succ hi (by omega:L.length≤9223372036854775807)
   by_cases c:x=v
   · exact ev_eq (Ev.step' (fun k=>by simp only[impl_Sample_with.l0,if_pos c1,if_pos c0,rd_nat,hx,if_pos c,if_pos c2,hw]) (ih (s++[(i:Int)]) (by simp;omega))) (by simp[withL,c])
   · exact ev_eq (Ev.step' (fun k=>by simp only[impl_Sample_with.l0,if_pos c1,if_pos c0,rd_nat,hx,if_neg c,hw]) (ih s (by omega))) (by simp[withL,c])
theorem impl_isLabel_eq (x:Int):impl_isLabel.f x=some (isLab x):=by
 unfold impl_isLabel.f isLab
 by_cases e:x=1
 · rw[if_pos e];simp[e]
 · rw[if_neg e,decide_eq_false e,Bool.false_or];rfl
theorem impl_IsSample_ev (P:List (List Int)) (L:List Int) (h:P.length≤maxLen) (hi:∀ x∈P,x.length≤maxLen) (hL:L.length≤maxLen):Ev (fun k=>impl_IsSample.f k P L) (sampleB P L):=by
 have h' : P.length≤9223372036854775807:=h
 have no:Ev (fun k=>impl_IsSample.j0 k true P L) false:=Ev.step' (f:=fun _=>some false) (fun k=>by simp only[impl_IsSample.j0,if_true]) (Ev.now _)
 unfold sampleB impl_IsSample.f
 by_cases c:P.length≤16
 · rw[decide_eq_true c,Bool.true_and]
   simp only[if_neg (show ¬ (P.length:Int)>16 by omega)]
   by_cases c2:L.length=P.length
   · rw[decide_eq_true c2,Bool.true_and,show ((L.length:Int) != (P.length:Int))=false by rw[bne_eq_false_iff_eq];omega,Bool.and_comm]
     refine Ev.step' (f:=fun k=>impl_IsSample.l0 k P (P.length:Int) 0 P L) (fun k=>by simp only[impl_IsSample.j0,Bool.false_eq_true,if_false]) ?_
     refine ev_list [] P (fun i (_:Unit) k=>impl_IsSample.l0 k P (P.length:Int) i P L) (fun i ys _=>ys.all (ptB P) && (L.drop i).all isLab) (fun _ _=>True) (fun _ _ => ?_) (fun i x ys _ hi2 hx hm _ ih => ?_) () trivial
     · rw[← c2,List.drop_length]
       exact Ev.step' (f:=fun _=>some true) (fun k=>by simp only[impl_IsSample.l0,c2,if_neg (Int.lt_irrefl _)]) (Ev.now _)
     · have c1:(i:Int)<(P.length:Int):=by omega
       have c3:(i:Int)<(L.length:Int):=by omega
       have c0:0≤(i:Int):=by omega
       have cp:0<(P.length:Int):=by omega
       have hil:i<L.length:=by omega
       rw[List.all_cons,List.drop_eq_getElem_cons hil,List.all_cons]
       unfold ptB
       refine Ev.step' (f:=fun k=>(impl_IsPoint.f k x).bind fun t=>if t=true then (if (x.length:Int)=((P.getD 0 []).length:Int) then (if isLab L[i]=true then impl_IsSample.l0 k P (P.length:Int) ((i+1:Nat):Int) P L else some false) else some false) else some false) (fun k=>by simp only[impl_IsSample.l0,if_pos c1,if_pos c0,if_pos c3,if_pos cp,rdL3_nat,rd_nat,hx,impl_isLabel_eq,Option.bind_some,wrap_succ hi2 h',List.getD_eq_getElem?_getD,List.getElem?_eq_getElem hil,Option.getD_some] <;> rfl) ?_
       refine Ev.bind (impl_IsPoint_ev x (hi x hm)) ?_
       cases pointB x with
       | false=>exact Ev.now _
       | true =>
        simp only[if_true,Bool.true_and]
        by_cases c5:x.length=(P.getD 0 []).length
        · rw[decide_eq_true c5,Bool.true_and]
          simp only[if_pos (show (x.length:Int)=((P.getD 0 []).length:Int) by omega)]
          cases isLab L[i] with
          | false=>simp only[Bool.false_and,Bool.and_false];exact Ev.now _
          | true=>simp only[if_true,Bool.true_and];exact ih () trivial
        · rw[decide_eq_false c5,Bool.false_and,Bool.false_and]
          simp only[if_neg (show ¬ (x.length:Int)=((P.getD 0 []).length:Int) by omega)]
          exact Ev.now _
   · rw[decide_eq_false c2,Bool.false_and,show ((L.length:Int) != (P.length:Int))=true by rw[bne_iff_ne];omega]
     exact no
 · rw[decide_eq_false c,Bool.false_and]
   simp only[if_pos (show (P.length:Int)>16 by omega)]
   exact no
theorem impl_isMixed_ev (P:List (List Int)) (L:List Int) (h:P.length≤maxLen) (hi:∀ x∈P,x.length≤maxLen) (hL:L.length≤maxLen):Ev (fun k=>impl_isMixed.f k P L) (sampleB P L && (decide (0<L.count 1) && decide (0<L.count (-1)))):=by
 refine Ev.bind (impl_IsSample_ev P L h hi hL) ?_
 cases hs:sampleB P L with
 | false=>simp only[Bool.false_and,Bool.false_eq_true,if_false];exact Ev.now _
 | true =>
  have ht:=sample_tell hs
  simp only[Bool.true_and,if_true]
  refine Ev.bind (impl_Sample_with_ev P L 1 (by omega)) ?_
  rw[withL_len]
  by_cases c:0<L.count 1
  · simp only[if_pos (show ((L.count 1:Nat):Int)>0 by omega),decide_eq_true c,Bool.true_and]
    refine Ev.bind (impl_Sample_with_ev P L (-1) (by omega)) ?_
    rw[withL_len]
    exact ev_eq (Ev.now _) (by rw[Bool.eq_iff_iff,decide_eq_true_iff,decide_eq_true_iff];omega)
  · simp only[if_neg (show ¬ ((L.count 1:Nat):Int)>0 by omega),decide_eq_false c,Bool.false_and]
    exact Ev.now _
theorem impl_MeanPlane_row (P:List (List Int)) (L:List Int) (p q:Int) (hs:sampleB P L=true) (i:Nat) (hi:i<P.length) (a b:List Int) (ha:a.length=(P.getD i []).length) (hb:b.length=(P.getD i []).length) :
 To (fun k=>impl_MeanPlane.l1 k a b p q i P (P.length:Int) i (P.getD i []) ((P.getD i []).length:Int) 0 P L) (fun k=>impl_MeanPlane.l0 k (if L.getD i 0=1 then addAt (P.getD i []) a else a) (if L.getD i 0=1 then b else addAt (P.getD i []) b) p q P (P.length:Int) ((i+1:Nat):Int) P L):=by
 have ht:=sample_tell hs
 have h16:=ht.1
 have hLP:=ht.2.1
 have hp:=ht.2.2.2 _ (getD_mem hi [])
 have hlen:=point_len hp.1
 have c1:0≤(i:Int):=by omega
 have c2:(i:Int)<(L.length:Int):=by omega
 by_cases c:L.getD i 0=1
 · simp only[if_pos c]
   have hf:=to_fold (L:=fun j (a:List Int) k=>impl_MeanPlane.l1 k a b p q i P (P.length:Int) i (P.getD i []) ((P.getD i []).length:Int) j P L) (n:=(P.getD i []).length) (f:=fun j s=>s.set j (wrap64 (s.getD j 0+(P.getD i []).getD j 0))) (fun _ s=>s.length=(P.getD i []).length) (fun j s hj hl=>⟨To.step fun k=>by
    have c3:(j:Int)<((P.getD i []).length:Int):=by omega
    have c4:0≤(j:Int):=by omega
    have c5:(j:Int)<(s.length:Int):=by omega
    simp only[impl_MeanPlane.l1,if_pos c1,if_pos c2,if_pos c3,if_pos c4,if_pos c5,rd_nat,if_pos c,Int.toNat_natCast,wrap_succ hj (by omega:(P.getD i []).length≤9223372036854775807)],by
     show (s.set j _).length=_
     rw[List.length_set];exact hl⟩) a ha
   refine hf.1.trans (To.step fun k => ?_)
   unfold addAt
   simp only[impl_MeanPlane.l1,if_neg (Int.lt_irrefl _),wrap_succ hi (by omega:P.length≤9223372036854775807)]
 · simp only[if_neg c]
   have hf:=to_fold (L:=fun j (b:List Int) k=>impl_MeanPlane.l1 k a b p q i P (P.length:Int) i (P.getD i []) ((P.getD i []).length:Int) j P L) (n:=(P.getD i []).length) (f:=fun j s=>s.set j (wrap64 (s.getD j 0+(P.getD i []).getD j 0))) (fun _ s=>s.length=(P.getD i []).length) (fun j s hj hl=>⟨To.step fun k=>by
    have c3:(j:Int)<((P.getD i []).length:Int):=by omega
    have c4:0≤(j:Int):=by omega
    have c5:(j:Int)<(s.length:Int):=by omega
    simp only[impl_MeanPlane.l1,if_pos c1,if_pos c2,if_pos c3,if_pos c4,if_pos c5,rd_nat,if_neg c,Int.toNat_natCast,wrap_succ hj (by omega:(P.getD i []).length≤9223372036854775807)],by
     show (s.set j _).length=_
     rw[List.length_set];exact hl⟩) b hb
   refine hf.1.trans (To.step fun k => ?_)
   unfold addAt
   simp only[impl_MeanPlane.l1,if_neg (Int.lt_irrefl _),wrap_succ hi (by omega:P.length≤9223372036854775807)]
theorem impl_MeanPlane_end (p q:Int) (a b:List Int) (h:b.length=a.length) (ha:a.length≤4):Ev (fun k=>impl_MeanPlane.l2 k a b p q [] (a.length:Int) 0) (meanOf p q a b):=by
 have hf:=to_fold (L:=fun j (s:List Int) k=>impl_MeanPlane.l2 k a b p q s (a.length:Int) j) (n:=a.length) (f:=fun j s=>s++[wrap64 ((wrap64 ((wrap64 (2*p))*q))*(wrap64 ((wrap64 (q*a.getD j 0))-(wrap64 (p*b.getD j 0)))))]) (fun j s=>s.length=j) (fun j s hj hs=>⟨To.step fun k=>by
  have c1:(j:Int)<(a.length:Int):=by omega
  have c2:0≤(j:Int):=by omega
  have c3:(j:Int)<(b.length:Int):=by omega
  have c4:s.length<17592186044416:=by omega
  simp only[impl_MeanPlane.l2,if_pos c1,if_pos c2,if_pos c3,if_pos c4,rd_nat,wrap_succ hj (by omega:a.length≤9223372036854775807)],by simp[hs]⟩) [] rfl
 refine hf.1 _ ?_
 rw[fold_append,List.nil_append]
 refine Ev.step' (f:=fun k=>(impl_product.f k a a).bind fun t=>(impl_product.f k b b).bind fun u=>some (meanW p q a b,wrap64 ((wrap64 ((wrap64 (q*q))*t))-(wrap64 ((wrap64 (p*p))*u))),true)) (fun k=>by
  simp only[impl_MeanPlane.l2,if_neg (Int.lt_irrefl _)]
  rfl) (Ev.bind (impl_product_ev a a (by unfold maxLen;omega) (Nat.le_refl _)) (Ev.bind (impl_product_ev b b (by unfold maxLen;omega) (Nat.le_refl _)) (Ev.now _)))
theorem sums_two (P:List (List Int)) (L:List Int) (hL:∀ i,i<P.length→L.getD i 0=1∨L.getD i 0 = -1):∀ (l:List Nat) (s t:Int×List Int),(∀ i∈l,i<P.length)→l.foldl (fun (s:List Int×List Int) i=>((if L.getD i 0=1 then addAt (P.getD i []) s.1 else s.1),(if L.getD i 0=1 then s.2 else addAt (P.getD i []) s.2))) (s.2,t.2)=((l.foldl (fun s i=>sumStep P L 1 i s) s).2,(l.foldl (fun s i=>sumStep P L (-1) i s) t).2)
 | [],_,_,_=>rfl
 | i::l,s,t,h=>by
  rw[List.foldl_cons,List.foldl_cons,List.foldl_cons,← sums_two P L hL l _ _ (fun j hj=>h j (List.mem_cons_of_mem _ hj))]
  congr 1
  unfold sumStep
  rcases hL i (h i List.mem_cons_self) with e|e
  · rw[e];rfl
  · rw[e];rfl
theorem impl_MeanPlane_ev (P:List (List Int)) (L:List Int) (h:P.length≤maxLen) (hi:∀ x∈P,x.length≤maxLen) (hL:L.length≤maxLen):Ev (fun k=>impl_MeanPlane.f k P L) (meanM P L):=by
 refine Ev.bind (impl_isMixed_ev P L h hi hL) ?_
 unfold meanM
 cases hm:(sampleB P L && (decide (0<L.count 1) && decide (0<L.count (-1)))) with
 | false=>simp only[Bool.false_eq_true,if_false];exact Ev.now _
 | true =>
  simp only[Bool.and_eq_true,decide_eq_true_eq] at hm
  have hs:=hm.1
  have ht:=sample_tell hs
  have h16:=ht.1
  have hLP:=ht.2.1
  have hc:=List.count_le_length (a:=(1:Int)) (l:=L)
  have h0:0<P.length:=by omega
  have hp0:=point_len (ht.2.2.2 _ (getD_mem h0 [])).1
  have e0:rd_L3 P 0=P.getD 0 []:=rdL3_nat P 0
  have c1:0<(P.length:Int):=by omega
  have c2:0≤((P.getD 0 []).length:Int):=by omega
  have c3:(P.getD 0 []).length≤35184372088832:=by omega
  simp only[if_true,if_pos c1,e0,if_pos c2,Int.toNat_natCast,if_pos c3]
  refine Ev.bind (impl_Sample_with_ev P L 1 (by omega)) (Ev.bind (impl_Sample_with_ev P L (-1) (by omega)) ?_)
  rw[withL_len,withL_len]
  have hf:=to_fold (L:=fun i (s:List Int×List Int) k=>impl_MeanPlane.l0 k s.1 s.2 (L.count 1:Nat) (L.count (-1):Nat) P (P.length:Int) i P L) (n:=P.length) (f:=fun i s=>((if L.getD i 0=1 then addAt (P.getD i []) s.1 else s.1),(if L.getD i 0=1 then s.2 else addAt (P.getD i []) s.2))) (fun _ s=>s.1.length=(P.getD 0 []).length∧s.2.length=(P.getD 0 []).length) (fun i s hi hl=>⟨?_,?_⟩) (List.replicate (P.getD 0 []).length 0,List.replicate (P.getD 0 []).length 0) (by simp)
  · refine hf.1 _ ?_
    rw[sums_two P L (fun i hi=>ht.2.2.1 _ (getD_mem (by omega) 0)) (List.range P.length) (0,List.replicate (P.getD 0 []).length 0) (0,List.replicate (P.getD 0 []).length 0) (fun i hi=>List.mem_range.1 hi)]
    have l1:=sumsM_len P L 1 (P.getD 0 []).length
    have l2:=sumsM_len P L (-1) (P.getD 0 []).length
    refine Ev.step' (fun k => ?_) (impl_MeanPlane_end (L.count 1:Nat) (L.count (-1):Nat) (sumsM P L 1 (P.getD 0 []).length).2 (sumsM P L (-1) (P.getD 0 []).length).2 (by rw[l1,l2]) (by rw[l1];omega))
    simp only[impl_MeanPlane.l0,if_neg (Int.lt_irrefl _)]
    rfl
  · have d1:(i:Int)<(P.length:Int):=by omega
    have d2:0≤(i:Int):=by omega
    have es:=sample_eq hs hi _ (getD_mem h0 [])
    refine To.trans (To.step (f:=fun k=>impl_MeanPlane.l1 k s.1 s.2 (L.count 1:Nat) (L.count (-1):Nat) i P (P.length:Int) i (P.getD i []) ((P.getD i []).length:Int) 0 P L) fun k => ?_) (impl_MeanPlane_row P L _ _ hs i hi s.1 s.2 (by rw[hl.1,es]) (by rw[hl.2,es]))
    simp only[impl_MeanPlane.l0,if_pos d1,if_pos d2,rdL3_nat]
  · refine ⟨?_,?_⟩
    · show (if L.getD i 0=1 then addAt (P.getD i []) s.1 else s.1).length=_
      split
      · rw[addAt_len];exact hl.1
      · exact hl.1
    · show (if L.getD i 0=1 then s.2 else addAt (P.getD i []) s.2).length=_
      split
      · exact hl.2
      · rw[addAt_len];exact hl.2
theorem spec_l1Has_ev (l:List Int) (v:Int) (h:l.length≤maxLen):Ev (fun k=>spec_l1Has.f k l v) (decide (0<l.count v)):=by
 have h' : l.length≤9223372036854775807:=h
 refine ev_list 0 l (fun i (_:Unit) k=>spec_l1Has.l0 k l v i) (fun _ ys _=>decide (0<ys.count v)) (fun _ _=>True) (fun _ _ => ?_) (fun i x ys _ hi hx hm _ ih => ?_) () trivial
 · exact Ev.step' (f:=fun _=>some false) (fun k=>by simp only[spec_l1Has.l0,if_neg (Int.lt_irrefl _)]) (Ev.now _)
 · have c1:(i:Int)<(l.length:Int):=by omega
   have c0:0≤(i:Int):=by omega
   by_cases c:x=v
   · exact ev_eq (Ev.step' (f:=fun _=>some true) (fun k=>by simp only[spec_l1Has.l0,if_pos c1,if_pos c0,rd_nat,hx,if_pos c]) (Ev.now _)) (by simp[c])
   · exact ev_eq (Ev.step' (fun k=>by simp only[spec_l1Has.l0,if_pos c1,if_pos c0,rd_nat,hx,if_neg c,wrap_succ hi h']) (ih () trivial)) (by simp[List.count_cons,c])
theorem spec_l4Mixed_ev (P:List (List Int)) (L:List Int) (h:P.length≤maxLen) (hi:∀ x∈P,x.length≤maxLen) (hL:L.length≤maxLen):Ev (fun k=>spec_l4Mixed.f k P L) (sampleB P L && (decide (0<L.count 1) && decide (0<L.count (-1)))):=by
 refine Ev.bind (spec_l2Sample_ev P L h hi hL) ?_
 cases sampleB P L with
 | false=>simp only[Bool.false_and,Bool.false_eq_true,if_false];exact Ev.now _
 | true =>
  simp only[Bool.true_and,if_true]
  refine Ev.bind (spec_l1Has_ev L 1 hL) ?_
  cases decide (0<L.count 1) with
  | false=>simp only[Bool.false_and,Bool.false_eq_true,if_false];exact Ev.now _
  | true=>simp only[Bool.true_and,if_true];exact Ev.bind (spec_l1Has_ev L (-1) hL) (Ev.now _)
theorem spec_l8Ones_ev (P:List (List Int)) (L:List Int) (h:P.length≤16):Ev (fun k=>spec_l8Ones.f k P L) (List.replicate P.length 1):=by
 have hf:=to_fold (L:=fun i (s:List Int) k=>spec_l8Ones.l0 k s i P L) (n:=P.length) (f:=fun _ s=>s++[1]) (fun i s=>s.length=i) (fun i s hi hs=>⟨To.step fun k=>by
  have c1:(i:Int)<(P.length:Int):=by omega
  have c2:s.length<17592186044416:=by omega
  simp only[spec_l8Ones.l0,if_pos c1,if_pos c2,wrap_succ hi (by omega:P.length≤9223372036854775807)],by simp[hs]⟩) [] rfl
 refine hf.1 _ (Ev.step' (f:=fun _=>some (List.replicate P.length 1)) (fun k => ?_) (Ev.now _))
 rw[fold_append,List.nil_append,map_const]
 simp only[spec_l8Ones.l0,if_neg (Int.lt_irrefl _)]
theorem spec_l4Sums_row (P:List (List Int)) (L:List Int) (lab:Int) (hs:sampleB P L=true) (i:Nat) (hi:i<P.length) (c:Int) (s:List Int) (hl:s.length=(P.getD i []).length) :
 To (fun k=>spec_l4Sums.l1 k (List.replicate P.length 1) lab (c::s) i 0 P L) (fun k=>spec_l4Sums.l0 k (List.replicate P.length 1) lab (c::addAt (P.getD i []) s) ((i+1:Nat):Int) P L):=by
 have ht:=sample_tell hs
 have h16:=ht.1
 have hp:=ht.2.2.2 _ (getD_mem hi [])
 have hlen:=point_len hp.1
 have hnear:=point_near hp.1
 have hone:(List.replicate P.length (1:Int)).getD i 0=1:=by simp[List.getD_eq_getElem?_getD,hi]
 have c0:0≤(i:Int):=by omega
 have c1:(i:Int)<(P.length:Int):=by omega
 have c2:(i:Int)<((List.replicate P.length (1:Int)).length:Int):=by rw[List.length_replicate];omega
 have hf:=to_fold (L:=fun j (s:List Int) k=>spec_l4Sums.l1 k (List.replicate P.length 1) lab (c::s) i j P L) (n:=(P.getD i []).length) (f:=fun j s=>s.set j (wrap64 (s.getD j 0+(P.getD i []).getD j 0))) (fun _ s=>s.length=(P.getD i []).length) (fun j s hj hl=>⟨To.step fun k=>by
  have c3:(j:Int)<((P.getD i []).length:Int):=by omega
  have c4:0≤(j:Int)+1:=by omega
  have c5:(j:Int)+1<((c::s).length:Int):=by rw[List.length_cons];omega
  have c6:0≤(j:Int):=by omega
  have e:((j:Int)+1).toNat=j+1:=by omega
  have hw:wrap64 ((j:Int)+1)=(j:Int)+1:=wrap_id (by omega) (by omega)
  have hv:=hnear _ (getD_mem hj 0)
  have hm:wrap64 (1*(P.getD i []).getD j 0)=(P.getD i []).getD j 0:=by rw[Int.one_mul];exact wrap_id (by omega) (by omega)
  simp only[spec_l4Sums.l1,if_pos c0,if_pos c1,if_pos c2,rdL3_nat,hw,if_pos c3,if_pos c4,if_pos c5,if_pos c6,rd_cons,rd_nat,hone,hm,e,List.set_cons_succ]
  exact congrArg (fun z=>spec_l4Sums.l1 k _ lab _ i z P L) (show (j:Int)+1=((j+1:Nat):Int) from by omega),by
   show (s.set j _).length=_
   rw[List.length_set];exact hl⟩) s hl
 refine hf.1.trans (To.step fun k => ?_)
 unfold addAt
 simp only[spec_l4Sums.l1,if_pos c0,if_pos c1,rdL3_nat,if_neg (Int.lt_irrefl _),wrap_succ hi (by omega:P.length≤9223372036854775807)]
theorem spec_l4Sums_ev (P:List (List Int)) (L:List Int) (lab:Int) (hs:sampleB P L=true) (h0:0<P.length):Ev (fun k=>spec_l4Sums.f k P L (List.replicate P.length 1) lab) ((sumsM P L lab (P.getD 0 []).length).1::(sumsM P L lab (P.getD 0 []).length).2):=by
 have ht:=sample_tell hs
 have h16:=ht.1
 have hLP:=ht.2.1
 have hp0:=point_len (ht.2.2.2 _ (getD_mem h0 [])).1
 have c0:0<(P.length:Int):=by omega
 have hw:wrap64 (((P.getD 0 []).length:Int)+1)=(((P.getD 0 []).length+1:Nat):Int):=wrap_id (by omega) (by omega)
 have e0:rd_L3 P 0=P.getD 0 []:=rdL3_nat P 0
 have hf:=to_fold (L:=fun i (s:Int×List Int) k=>spec_l4Sums.l0 k (List.replicate P.length 1) lab (s.1::s.2) i P L) (n:=P.length) (f:=fun i s=>sumStep P L lab i s) (fun _ s=>s.2.length=(P.getD 0 []).length) (fun i s hi hl=>⟨?_,by rw[sumStep_len];exact hl⟩) (0,List.replicate (P.getD 0 []).length 0) (by simp)
 · refine Ev.congr (f:=fun k=>spec_l4Sums.l0 k (List.replicate P.length 1) lab (0::List.replicate (P.getD 0 []).length 0) 0 P L) (fun k => ?_) (hf.1 _ ?_)
   · have c1:0≤(((P.getD 0 []).length+1:Nat):Int):=by omega
     have c2:(P.getD 0 []).length+1≤35184372088832:=by omega
     simp only[spec_l4Sums.f,if_pos c0,e0,hw,if_pos c1,Int.toNat_natCast,if_pos c2,List.replicate_succ]
   · exact Ev.step' (f:=fun _=>some ((sumsM P L lab (P.getD 0 []).length).1::(sumsM P L lab (P.getD 0 []).length).2)) (fun k=>by simp only[spec_l4Sums.l0,if_neg (Int.lt_irrefl _)] <;> rfl) (Ev.now _)
 · have c1:0≤(i:Int):=by omega
   have c2:(i:Int)<(P.length:Int):=by omega
   have c3:(i:Int)<(L.length:Int):=by omega
   have c4:0<((s.1::s.2).length:Int):=by rw[List.length_cons];omega
   have c5:(i:Int)<((List.replicate P.length (1:Int)).length:Int):=by rw[List.length_replicate];omega
   have hone:(List.replicate P.length (1:Int)).getD i 0=1:=by simp[List.getD_eq_getElem?_getD,hi]
   have er:rd (s.1::s.2) 0=s.1:=rfl
   have hw2:wrap64 ((i:Int)+1)=((i+1:Nat):Int):=wrap_succ hi (by omega:P.length≤9223372036854775807)
   unfold sumStep
   by_cases c:L.getD i 0=lab
   · simp only[if_pos c]
     refine To.trans (To.step (f:=fun k=>spec_l4Sums.l1 k (List.replicate P.length 1) lab (wrap64 (s.1+1)::s.2) i 0 P L) fun k => ?_) (spec_l4Sums_row P L lab hs i hi _ s.2 (by rw[hl,sample_eq hs hi _ (getD_mem h0 [])]))
     simp only[spec_l4Sums.l0,if_pos c1,if_pos c2,if_pos c3,if_pos c4,if_pos c5,rd_nat,if_pos c,hone,er,Int.toNat_zero,List.set_cons_zero]
   · simp only[if_neg c]
     refine To.step fun k => ?_
     simp only[spec_l4Sums.l0,if_pos c1,if_pos c2,if_pos c3,rd_nat,if_neg c,hw2]
theorem spec_MeanPlane_go (p q:Int) (a b:List Int) (h:b.length=a.length) (ha:a.length≤4):Ev (fun k=>spec_MeanPlane.l0 k (p::a) (q::b) p q [] 1) (meanOf p q a b):=by
 have hf:=to_fold (L:=fun j (s:List Int) k=>spec_MeanPlane.l0 k (p::a) (q::b) p q s (j+1)) (n:=a.length) (f:=fun j s=>s++[wrap64 ((wrap64 ((wrap64 (2*p))*q))*(wrap64 ((wrap64 (q*a.getD j 0))-(wrap64 (p*b.getD j 0)))))]) (fun j s=>s.length=j) (fun j s hj hs=>⟨To.step fun k=>by
  have c1:(j:Int)+1<((p::a).length:Int):=by rw[List.length_cons];omega
  have c2:0≤(j:Int)+1:=by omega
  have c3:(j:Int)+1<((q::b).length:Int):=by rw[List.length_cons];omega
  have c4:s.length<17592186044416:=by omega
  have hw:wrap64 ((j:Int)+1+1)=((j+1:Nat):Int)+1:=by rw[wrap_id (by omega) (by omega)];omega
  simp only[spec_MeanPlane.l0,if_pos c1,if_pos c2,if_pos c3,if_pos c4,rd_cons,hw],by simp[hs]⟩) [] rfl
 refine hf.1 _ ?_
 rw[fold_append,List.nil_append]
 have c1:¬ (a.length:Int)+1<((p::a).length:Int):=by rw[List.length_cons];omega
 have c2:1≤((p::a).length:Int):=by rw[List.length_cons];omega
 have c3:1≤((q::b).length:Int):=by rw[List.length_cons];omega
 refine Ev.step' (f:=fun k=>(spec_l2Dot.f k a a).bind fun t=>(spec_l2Dot.f k b b).bind fun u=>some (meanW p q a b,wrap64 ((wrap64 ((wrap64 (q*q))*t))-(wrap64 ((wrap64 (p*p))*u))),true)) (fun k=>by
  simp only[spec_MeanPlane.l0,if_neg c1,if_pos c2,if_pos c3,List.drop_one,List.tail_cons]
  rfl) (Ev.bind (spec_l2Dot_ev a a (by unfold maxLen;omega) (Nat.le_refl _)) (Ev.bind (spec_l2Dot_ev b b (by unfold maxLen;omega) (Nat.le_refl _)) (Ev.now _)))
theorem spec_MeanPlane_ev (P:List (List Int)) (L:List Int) (h:P.length≤maxLen) (hi:∀ x∈P,x.length≤maxLen) (hL:L.length≤maxLen):Ev (fun k=>spec_MeanPlane.f k P L) (meanM P L):=by
 refine Ev.bind (spec_l4Mixed_ev P L h hi hL) ?_
 unfold meanM
 cases hm:(sampleB P L && (decide (0<L.count 1) && decide (0<L.count (-1)))) with
 | false=>simp only[Bool.false_eq_true,if_false];exact Ev.now _
 | true =>
  simp only[Bool.and_eq_true,decide_eq_true_eq] at hm
  have hs:=hm.1
  have ht:=sample_tell hs
  have hc:=List.count_le_length (a:=(1:Int)) (l:=L)
  have h0:0<P.length:=by omega
  have hp0:=point_len (ht.2.2.2 _ (getD_mem h0 [])).1
  simp only[if_true]
  refine Ev.bind (spec_l8Ones_ev P L ht.1) (Ev.bind (spec_l4Sums_ev P L 1 hs h0) (Ev.bind (spec_l4Sums_ev P L (-1) hs h0) ?_))
  rw[sumsM_fst P L 1 _ ht.2.1 ht.1,sumsM_fst P L (-1) _ ht.2.1 ht.1]
  have l1:=sumsM_len P L 1 (P.getD 0 []).length
  have l2:=sumsM_len P L (-1) (P.getD 0 []).length
  refine Ev.congr (fun k => ?_) (spec_MeanPlane_go (L.count 1) (L.count (-1)) (sumsM P L 1 (P.getD 0 []).length).2 (sumsM P L (-1) (P.getD 0 []).length).2 (by rw[l1,l2]) (by rw[l1];omega))
  rw[if_pos (by rw[List.length_cons];omega),if_pos (by rw[List.length_cons];omega)]
  rfl
theorem impl_meets_ev (w:List Int) (b:Int) (x:List Int) (hw:w.length≤maxLen) (hx:x.length≤maxLen):Ev (fun k=>impl_meets.f k w b x) (meetsB w b x):=by
 refine Ev.bind (impl_IsPlane_ev w b hw) ?_
 unfold meetsB
 cases planeB w b with
 | false=>exact Ev.now _
 | true =>
  simp only[if_true,Bool.true_and]
  refine Ev.bind (impl_IsPoint_ev x hx) ?_
  cases pointB x <;> exact Ev.now _
theorem impl_Plane_side_ev (w:List Int) (b:Int) (x:List Int) (hw:w.length≤maxLen) (hx:w.length≤x.length):Ev (fun k=>impl_Plane_side.f k w b x) (sideW w b x):=by
 refine Ev.bind (impl_product_ev w x hw hx) ?_
 unfold sideW
 by_cases c:dotW w x≥b
 · simp only[if_pos c];exact Ev.now _
 · simp only[if_neg c];exact Ev.now _
def sideOfM (w:List Int) (b:Int) (x:List Int):Int×Bool:=if meetsB w b x=true then (sideW w b x,true) else (0,false)
theorem impl_SideOf_ev (w:List Int) (b:Int) (x:List Int) (hw:w.length≤maxLen) (hx:x.length≤maxLen):Ev (fun k=>impl_SideOf.f k w b x) (sideOfM w b x):=by
 refine Ev.bind (impl_meets_ev w b x hw hx) ?_
 unfold sideOfM
 cases hm:meetsB w b x with
 | false=>simp only[Bool.false_eq_true,if_false];exact Ev.now _
 | true=>simp only[if_true];exact Ev.bind (impl_Plane_side_ev w b x hw (meets_len hm)) (Ev.now _)
theorem impl_hasPoints_ev (P:List (List Int)) (L:List Int) (h:P.length≤maxLen) (hi:∀ x∈P,x.length≤maxLen) (hL:L.length≤maxLen):Ev (fun k=>impl_hasPoints.f k P L) (someB P L):=by
 refine Ev.bind (impl_IsSample_ev P L h hi hL) ?_
 unfold someB
 cases sampleB P L with
 | false=>simp only[Bool.false_eq_true,if_false,Bool.false_and];exact Ev.now _
 | true =>
  simp only[if_true,Bool.true_and]
  rw[show decide ((P.length:Int)>0)=decide (0<P.length) from decide_eq_decide.2 (by omega)]
  exact Ev.now _
theorem impl_isAsked_ev (P:List (List Int)) (L x:List Int) (m:Int) (h:P.length≤maxLen) (hi:∀ x∈P,x.length≤maxLen) (hL:L.length≤maxLen) (hx:x.length≤maxLen):Ev (fun k=>impl_isAsked.f k P L x m) (pointOfB P L x && inR 1 (P.length:Int) m):=by
 refine Ev.bind (impl_hasPoints_ev P L h hi hL) ?_
 unfold pointOfB
 cases hs:someB P L with
 | false=>simp only[Bool.false_eq_true,if_false,Bool.false_and];exact Ev.now _
 | true =>
  simp only[if_true,Bool.true_and]
  have h0:=(some_tell hs).2
  refine Ev.bind (impl_IsPoint_ev x hx) ?_
  cases pointB x with
  | false=>simp only[Bool.false_eq_true,if_false,Bool.false_and];exact Ev.now _
  | true =>
   have c2:0<(P.length:Int):=by omega
   have er:=rdI_zero _ P (rdL3_nat P)
   simp only[if_true,Bool.true_and,if_pos c2,er]
   by_cases c:x.length=(P.getD 0 []).length
   · have c1:(x.length:Int)=((P.getD 0 []).length:Int):=by omega
     simp only[if_pos c1,impl_within_eq,Option.bind_some,decide_eq_true c,Bool.true_and]
     exact Ev.now _
   · have c1:¬ (x.length:Int)=((P.getD 0 []).length:Int):=by omega
     simp only[if_neg c1,decide_eq_false c,Bool.false_and]
     exact Ev.now _
theorem impl_total_ev (l:List Int) (h:l.length≤maxLen):Ev (fun k=>impl_total.f k l) (sumW l):=by
 have h' : l.length≤9223372036854775807:=h
 refine ev_list 0 l (fun i s k=>impl_total.l0 k s l (l.length:Int) i) (fun _ ys s=>ys.foldl (fun s x=>wrap64 (s+x)) s) (fun _ _=>True) (fun s _ => ?_) (fun i x ys s hi hx _ _ ih => ?_) 0 trivial
 · exact Ev.step' (f:=fun _=>some s) (fun k=>by simp only[impl_total.l0,if_neg (Int.lt_irrefl _)]) (Ev.now _)
 · have c1:(i:Int)<(l.length:Int):=by omega
   have c0:0≤(i:Int):=by omega
   rw[List.foldl_cons]
   exact Ev.step' (fun k=>by simp only[impl_total.l0,if_pos c1,if_pos c0,rd_nat,hx,wrap_succ hi h']) (ih _ trivial)
theorem impl_at_ev (row set:List Int) (h:set.length≤1048576) (hx:∀ x∈set,0≤x∧x<(row.length:Int)):Ev (fun k=>impl_at.f k row set) (atM row set):=by
 have hf:=to_fold (L:=fun j (s:List Int) k=>impl_at.l0 k row s set (set.length:Int) j) (n:=set.length) (f:=fun j s=>s++[row.getD (set.getD j 0).toNat 0]) (fun j s=>s.length=j) (fun j s hj hs=>⟨To.step fun k=>by
  have c1:(j:Int)<(set.length:Int):=by omega
  have c0:0≤(j:Int):=by omega
  have q:=hx _ (getD_mem hj 0)
  have c3:s.length<17592186044416:=by omega
  have e:rd row (set.getD j 0)=row.getD (set.getD j 0).toNat 0:=rfl
  simp only[impl_at.l0,if_pos c1,if_pos c0,rd_nat,if_pos q.1,if_pos q.2,if_pos c3,e,wrap_succ hj (show set.length≤9223372036854775807 by omega)],by rw[List.length_append,hs];rfl⟩) [] rfl
 refine ev_eq (hf.1 _ (Ev.step' (f:=fun _=>some ((List.range set.length).foldl (fun s i=>s++[row.getD (set.getD i 0).toNat 0]) [])) (fun k=>by simp only[impl_at.l0,if_neg (Int.lt_irrefl _)]) (Ev.now _))) ?_
 rw[fold_append,List.nil_append]
 exact range_map set (fun x=>row.getD x.toNat 0) 0
theorem impl_squares_ev (x y:List Int) (hx:x.length≤maxLen) (hl:x.length≤y.length):Ev (fun k=>impl_squares.f k x y) (sqW x y):=by
 have h' : x.length≤9223372036854775807:=hx
 have hf:=to_fold (L:=fun i (s:Int) k=>impl_squares.l0 k y s x (x.length:Int) i) (n:=x.length) (f:=fun i s=>sqStep x y s i) (fun _ _=>True) (fun i s hi _=>⟨To.step fun k=>by
  have c1:(i:Int)<(x.length:Int):=by omega
  have c0:0≤(i:Int):=by omega
  have c2:(i:Int)<(y.length:Int):=by omega
  simp only[impl_squares.l0,if_pos c1,if_pos c0,if_pos c2,rd_nat,wrap_succ hi h',sqStep],trivial⟩) 0 trivial
 exact hf.1 _ (Ev.step' (f:=fun _=>some (sqW x y)) (fun k=>by simp only[impl_squares.l0,if_neg (Int.lt_irrefl _)];rfl) (Ev.now _))
theorem squares_all {P:List (List Int)} {L:List Int} (h:sampleB P L=true) (x:List Int) (hx:x.length=(P.getD 0 []).length):∀ (pl:List Int),(∀ i∈pl,0≤i∧i<P.length)→∃ K,∀ k,K≤k→∀ i∈pl,impl_squares.f k (P.getD i.toNat []) x=some (dstM P x i)
 | [],_=>⟨0,fun _ _ i hi=>by cases hi⟩
 | p::pl,hp=>by
  have ht:=sample_tell h
  obtain ⟨K1,k1⟩:=squares_all h x hx pl (fun i hi=>hp i (List.mem_cons_of_mem _ hi))
  obtain ⟨p0,p1⟩:=hp p List.mem_cons_self
  have hm:=getD_mem (xs:=P) (i:=p.toNat) (by omega) []
  have hl:=(ht.2.2.2 _ hm).2
  have hn:=point_len (ht.2.2.2 _ hm).1
  obtain ⟨K2,k2⟩:=impl_squares_ev (P.getD p.toNat []) x (by unfold maxLen;omega) (by omega)
  refine ⟨K1+K2,fun k hk i hi => ?_⟩
  rcases List.mem_cons.1 hi with rfl|hi
  · exact k2 k (by omega)
  · exact k1 k (by omega) i hi
theorem impl_Sample_neighbors_ev {P:List (List Int)} {L:List Int} (h:sampleB P L=true) (x:List Int) (hx:x.length=(P.getD 0 []).length) (pl q:List Int) (hpl:∀ i∈pl,0≤i∧i<P.length) (hnd:pl.Nodup) (h0:0<pl.length) (h20:pl.length<20) (hq:q.Pairwise (· < ·)) (hm:∀ z,z∈q↔z∈pl) :
 Ev (fun k=>impl_Sample_neighbors.f k P L x pl) (nearM (dstM P x) q):=by
 have ht:=sample_tell h
 obtain ⟨K,hK⟩:=squares_all h x hx pl hpl
 refine ⟨K+8,fun k hk => ?_⟩
 have er:=fun (p:Int) (hp:0≤p)=>rdI_nat _ P (rdL3_nat P) hp
 have hsq:∀ i∈pl,impl_Sample_neighbors.sq k P x i=dstM P x i:=fun i hi=>by
  unfold impl_Sample_neighbors.sq
  rw[er i (hpl i hi).1,hK k (by omega) i hi];rfl
 have hok:∀ i∈pl,impl_Sample_neighbors.okB k P x i=true:=fun i hi=>by
  have hp:=hpl i hi
  have h1:i<1000000:=by omega
  unfold impl_Sample_neighbors.okB
  rw[er i hp.1,hK k (by omega) i hi]
  simp[hp.1,hp.2,h1]
 have hcond:8≤k∧pl.length<20∧∀ i∈pl,impl_Sample_neighbors.okB k P x i=true:=⟨by omega,h20,hok⟩
 simp only[impl_Sample_neighbors.f,dif_pos hcond]
 have hmap:(pl.attachWith (fun i=>impl_Sample_neighbors.okB k P x i=true) hcond.2.2).map (fun z=>z.1)=pl:=by simp
 generalize pl.attachWith (fun i=>impl_Sample_neighbors.okB k P x i=true) hcond.2.2=l at hmap
 cases l with
 | nil=>rw[← hmap] at h0;simp at h0
 | cons a l =>
  simp only[impl_Sample_neighbors.res]
  obtain ⟨hp,hs⟩:=impl_Sample_neighbors.srt_tell (⟨a⟩:Inhabited (impl_Sample_neighbors.T k P x)) (a::l)
  generalize impl_Sample_neighbors.srt (⟨a⟩:Inhabited (impl_Sample_neighbors.T k P x)) (a::l)=D at hp hs ⊢
  have hmem:∀ z:impl_Sample_neighbors.T k P x,z∈D.toList→z.1∈pl:=fun z hz=>by
   rw[← hmap];exact List.mem_map_of_mem (hp.mem_iff.1 hz)
  have hpm:(D.toList.map (fun z=>z.1)).Perm pl:=by rw[← hmap];exact hp.map _
  have hn:=nearM_tell (dstM P x) q hq
  refine congrArg some (before_ext (dstM P x) _ _ ?_ hn.1 (fun z=>by rw[hpm.mem_iff,hn.2.1,hm]))
  have hnd2:(D.toList.map (fun z=>z.1)).Nodup:=hpm.nodup_iff.2 hnd
  have hne:D.toList.Pairwise (fun u v=>u.1≠v.1):=List.pairwise_map.1 hnd2
  rw[List.pairwise_map]
  refine List.Pairwise.imp_of_mem (fun {u v} hu hv huv => ?_) (hs.and hne)
  have h1:=(impl_Sample_neighbors.lt_no v u).1 huv.1
  rw[hsq _ (hmem u hu),hsq _ (hmem v hv)] at h1
  have h2:=huv.2
  unfold before;omega
theorem impl_Sample_near_ev {P:List (List Int)} {L:List Int} (h:sampleB P L=true) (x:List Int) (hx:x.length=(P.getD 0 []).length) (pl q:List Int) (hpl:∀ i∈pl,0≤i∧i<P.length) (hnd:pl.Nodup) (h0:0<pl.length) (h20:pl.length<20) (hq:q.Pairwise (· < ·)) (hm:∀ z,z∈q↔z∈pl) (m:Int) (m0:0≤m) (m1:m≤pl.length) :
 Ev (fun k=>impl_Sample_near.f k P L x pl m) (labelM P L q x m):=by
 have ht:=sample_tell h
 refine Ev.bind (impl_Sample_neighbors_ev h x hx pl q hpl hnd h0 h20 hq hm) ?_
 have hqn:q.Nodup:=hq.imp (fun h=>by omega)
 have hql:q.length=pl.length:=((List.perm_ext_iff_of_nodup hqn hnd).2 hm).length_eq
 have hl:=near_len (d:=dstM P x) hq
 have hv:∀ z∈nearM (dstM P x) q,0≤z∧z<P.length:=fun z hz=>hpl z ((hm z).1 (near_mem hq hz))
 unfold labelM
 generalize nearM (dstM P x) q=N at hl hv
 have c2:m≤(N.length:Int):=by omega
 simp only[if_pos m0,if_pos c2]
 have hlen:(N.take m.toNat).length≤20:=by rw[List.length_take];omega
 refine Ev.bind (impl_at_ev L (N.take m.toNat) (by omega) (fun z hz=>by have:=hv z (List.mem_of_mem_take hz);omega)) (Ev.bind (impl_total_ev _ (by rw[atM,List.length_map];unfold maxLen;omega)) ?_)
 simp only[ge_iff_le]
 refine ev_const fun k => ?_
 split <;> rfl
def idxF (v:Int):Nat→List Int→Int
 | _,[] => -1
 | i,x::xs=>if v=x then (i:Int) else idxF v (i+1) xs
theorem idxF_iff (v:Int):∀ (i:Nat) (l:List Int),(0≤idxF v i l↔0<l.count v)
 | i,[]=>by simp[idxF]
 | i,x::xs=>by
  unfold idxF
  by_cases c:v=x
  · subst c;simp
  · rw[if_neg c,idxF_iff v (i+1) xs,List.count_cons]
    have:¬ x=v:=fun e=>c e.symm
    simp[this]
theorem slices_Index_all (l:List Int) (v:Int) (h:l.length≤maxLen):Ev (fun k=>slices_Index_int_int.f k l v) (idxF v 0 l):=by
 have h' : l.length≤9223372036854775807:=h
 refine ev_list 0 l (fun i (_:Unit) k=>slices_Index_int_int.l0 k l v (l.length:Int) i) (fun i ys _=>idxF v i ys) (fun _ _=>True) (fun _ _ => ?_) (fun i x ys _ hi hx hm _ ih => ?_) () trivial
 · exact Ev.step' (f:=fun _=>some (-1)) (fun k=>by simp only[slices_Index_int_int.l0,if_neg (Int.lt_irrefl _)]) (Ev.now _)
 · have c1:(i:Int)<(l.length:Int):=by omega
   have c0:0≤(i:Int):=by omega
   by_cases c:v=x
   · exact ev_eq (Ev.step' (f:=fun _=>some (i:Int)) (fun k=>by simp only[slices_Index_int_int.l0,if_pos c1,if_pos c0,rd_nat,hx,if_pos c]) (Ev.now _)) (by simp[idxF,c])
   · exact ev_eq (Ev.step' (fun k=>by simp only[slices_Index_int_int.l0,if_pos c1,if_pos c0,rd_nat,hx,if_neg c,wrap_succ hi h']) (ih () trivial)) (by simp[idxF,c])
theorem slices_Contains_ev (l:List Int) (v:Int) (h:l.length≤maxLen):Ev (fun k=>slices_Contains_int_int.f k l v) (decide (0<l.count v)):=by
 refine ev_eq (Ev.bind (slices_Index_all l v h) (Ev.now _)) ?_
 exact decide_eq_decide.2 (idxF_iff v 0 l)
theorem impl_without_ev (n:Nat) (l:List Int) (hn:n≤1000) (hl:l.length≤maxLen):Ev (fun k=>impl_without.f k (n:Int) l) (leftM n l):=by
 have hf:=to_fold (L:=fun i (s:List Int) k=>impl_without.l0 k l s (n:Int) i) (n:=n) (f:=fun i s=>if 0<l.count (i:Int) then s else s++[(i:Int)]) (fun i s=>s.length≤i) (fun i s hi hs=>⟨?_,by split <;> (try rw[List.length_append]) <;> (try simp only[List.length_cons,List.length_nil]) <;> omega⟩) [] (Nat.le_refl _)
 · exact hf.1 _ (Ev.step' (f:=fun _=>some (leftM n l)) (fun k=>by simp only[impl_without.l0,if_neg (Int.lt_irrefl _)];rfl) (Ev.now _))
 · have c1:(i:Int)<(n:Int):=by omega
   have c3:s.length<17592186044416:=by omega
   refine (To.step (f:=fun k=>(slices_Contains_int_int.f k l (i:Int)).bind fun t=>if t=true then impl_without.l0 k l s (n:Int) ((i+1:Nat):Int) else impl_without.l0 k l (s++[(i:Int)]) (n:Int) ((i+1:Nat):Int)) (fun k=>by simp only[impl_without.l0,if_pos c1,if_pos c3,wrap_succ hi (by omega:n≤9223372036854775807)])).trans ?_
   refine (To.bind (slices_Contains_ev l (i:Int) hl)).trans (To.congr fun k => ?_)
   by_cases c:0<l.count (i:Int)
   · simp only[decide_eq_true c,if_true,if_pos c]
   · simp only[decide_eq_false c,Bool.false_eq_true,if_false,if_neg c]
theorem impl_Sample_everywhere_ev (P:List (List Int)) (L:List Int) (hn:P.length≤1000):Ev (fun k=>impl_Sample_everywhere.f k P L) (leftM P.length []) :=
 Ev.bind (impl_without_ev P.length [] hn (by simp)) (Ev.now _)
def nearLabelM (P:List (List Int)) (L x:List Int) (m:Int):Int×Bool:=if (pointOfB P L x && inR 1 (P.length:Int) m)=true then (labelM P L (leftM P.length []) x m,true) else (0,false)
theorem impl_NearLabel_ev (P:List (List Int)) (L x:List Int) (m:Int) (h:P.length≤maxLen) (hi:∀ x∈P,x.length≤maxLen) (hL:L.length≤maxLen) (hx:x.length≤maxLen):Ev (fun k=>impl_NearLabel.f k P L x m) (nearLabelM P L x m):=by
 refine Ev.bind (impl_isAsked_ev P L x m h hi hL hx) ?_
 unfold nearLabelM
 cases hp:(pointOfB P L x && inR 1 (P.length:Int) m) with
 | false =>
  simp only[Bool.false_eq_true,if_false]
  exact Ev.now _
 | true =>
  simp only[if_true]
  simp only[Bool.and_eq_true] at hp
  obtain ⟨h1,h2,h3,h4⟩:=pointOf_tell hp.1
  have h5:=(inR_iff _ _ _).1 hp.2
  have hl:=leftM_all P.length
  exact Ev.bind (impl_Sample_everywhere_ev P L (by omega)) (Ev.bind (impl_Sample_near_ev h1 x h4 _ _ (left_valid _ _) (left_nodup _ _) (by omega) (by omega) (leftM_rise [] P.length) (fun _=>Iff.rfl) m (by omega) (by omega)) (Ev.now _))
def pointsWithM (P:List (List Int)) (L:List Int) (v:Int):List Int×Bool:=if (sampleB P L && isLab v)=true then (withL v 0 L,true) else ([],false)
theorem impl_PointsWith_ev (P:List (List Int)) (L:List Int) (v:Int) (h:P.length≤maxLen) (hi:∀ x∈P,x.length≤maxLen) (hL:L.length≤1048576):Ev (fun k=>impl_PointsWith.f k P L v) (pointsWithM P L v):=by
 refine Ev.bind (impl_IsSample_ev P L h hi (by unfold maxLen;omega)) ?_
 unfold pointsWithM
 cases sampleB P L with
 | false=>simp only[Bool.false_and,Bool.false_eq_true,if_false];exact Ev.now _
 | true =>
  simp only[Bool.true_and,if_true,impl_isLabel_eq,Option.bind_some]
  cases isLab v with
  | false=>simp only[Bool.false_eq_true,if_false];exact Ev.now _
  | true=>simp only[if_true];exact Ev.bind (impl_Sample_with_ev P L v hL) (Ev.now _)
theorem spec_PointsWith_ev (P:List (List Int)) (L:List Int) (v:Int) (h:P.length≤maxLen) (hi:∀ x∈P,x.length≤maxLen) (hL:L.length≤1048576):Ev (fun k=>spec_PointsWith.f k P L v) (pointsWithM P L v):=by
 have no:Ev (fun k=>spec_PointsWith.j0 k v [] true P L) ([],false):=Ev.step' (f:=fun _=>some ([],false)) (fun k=>by simp only[spec_PointsWith.j0,if_true]) (Ev.now _)
 have yes:Ev (fun k=>spec_PointsWith.j0 k v [] false P L) (withL v 0 L,true):=by
  refine Ev.step' (f:=fun k=>spec_PointsWith.l0 k v [] 0 P L) (fun k=>by simp only[spec_PointsWith.j0,Bool.false_eq_true,if_false]) ?_
  refine ev_list 0 L (fun i (s:List Int) k=>spec_PointsWith.l0 k v s i P L) (fun i ys s=>(s++withL v i ys,true)) (fun i s=>s.length≤i) (fun s _ => ?_) (fun i x ys s hi hx hm hs ih => ?_) [] (Nat.le_refl _)
  · exact Ev.step' (f:=fun _=>some (s,true)) (fun k=>by simp only[spec_PointsWith.l0,if_neg (Int.lt_irrefl _)]) (by simpa [withL] using Ev.now _)
  · have c1:(i:Int)<(L.length:Int):=by omega
    have c0:0≤(i:Int):=by omega
    have c2:s.length<17592186044416:=by omega
    have hw:wrap64 ((i:Int)+1)=((i+1:Nat):Int):=wrap_succ hi (by omega:L.length≤9223372036854775807)
    by_cases c:x=v
    · exact ev_eq (Ev.step' (fun k=>by simp only[spec_PointsWith.l0,if_pos c1,if_pos c0,rd_nat,hx,if_pos c,if_pos c2,hw]) (ih (s++[(i:Int)]) (by simp;omega))) (by simp[withL,c])
    · exact ev_eq (Ev.step' (fun k=>by simp only[spec_PointsWith.l0,if_pos c1,if_pos c0,rd_nat,hx,if_neg c,hw]) (ih s (by omega))) (by simp[withL,c])
 refine Ev.congr (f:=fun k=>(spec_l2Sample.f k P L).bind fun t605=>(if t605=true then (if v=1 then (spec_PointsWith.j0 k v [] false P L) else (spec_PointsWith.j0 k v [] (v != (-1)) P L)) else (spec_PointsWith.j0 k v [] true P L))) (fun k=>by simp only[spec_PointsWith.f,Option.bind_some]) (Ev.bind (spec_l2Sample_ev P L h hi (by unfold maxLen;omega)) ?_)
 unfold pointsWithM
 cases sampleB P L with
 | false=>simp only[Bool.false_and,Bool.false_eq_true,if_false];exact no
 | true =>
  simp only[Bool.true_and,if_true]
  by_cases c1:v=1
  · rw[if_pos (show isLab v=true by rw[c1];rfl)];simp only[if_pos c1];exact yes
  · simp only[if_neg c1]
    by_cases c2:v = -1
    · rw[if_pos (show isLab v=true by rw[c2];rfl),show (v != -1)=false by rw[c2];rfl];exact yes
    · rw[if_neg (show ¬ isLab v=true by unfold isLab;simp[c1,c2]),show (v != -1)=true by simp[c2]];exact no
theorem laws_rDot_ev (a b:List Int) (h:a.length≤maxLen) (hl:a.length≤b.length):Ev (fun k=>laws_rDot.f k a b) (dotW a b):=by
 have h' : a.length≤9223372036854775807:=h
 unfold laws_rDot.f dotW
 have hf:=to_fold (L:=fun i (s:Int) k=>laws_rDot.l0 k a b s i) (n:=a.length) (f:=fun i s=>wrap64 (s+wrap64 (a.getD i 0*b.getD i 0))) (fun _ _=>True) (fun i s hi _=>⟨To.step fun k=>by
  have c1:(i:Int)<(a.length:Int):=by omega
  have c2:(i:Int)<(b.length:Int):=by omega
  have c3:0≤(i:Int):=by omega
  simp only[laws_rDot.l0,if_pos c1,if_pos c2,if_pos c3,rd_nat,wrap_succ hi h'],trivial⟩) 0 trivial
 refine hf.1 _ ?_
 exact Ev.step' (f:=fun _=>some _) (fun k=>by simp only[laws_rDot.l0,if_neg (Int.lt_irrefl _)]) (Ev.now _)
def sumR (f:Nat→Int):Nat→Int
 | 0=>0
 | n+1=>sumR f n+f n
theorem sumR_bd {f:Nat→Int} {M:Int} (hM:0≤M):∀ n:Nat,(∀ k<n,-M≤f k∧f k≤M) → -(n*M)≤sumR f n∧sumR f n≤n*M
 | 0,_=>by simp[sumR]
 | n+1,h=>by
  have ih:=sumR_bd hM n (fun k hk=>h k (by omega))
  have:=h n (by omega)
  have e:((n+1:Nat):Int)*M=n*M+M:=by rw[Int.natCast_add,Int.add_mul];simp
  rw[e]
  simp only[sumR]
  omega
theorem sumR_wrap {f g:Nat→Int} {M:Int} (hM:0≤M):∀ n:Nat,(n:Int)*M≤1000000000000→(∀ k<n,-M≤f k∧f k≤M)→(∀ k<n,g k=f k)→(List.range n).foldl (fun s k=>wrap64 (s+g k)) 0=sumR f n
 | 0,_,_,_=>rfl
 | n+1,hb,h,hg=>by
  have e:((n+1:Nat):Int)*M=n*M+M:=by rw[Int.natCast_add,Int.add_mul];simp
  rw[List.range_succ,List.foldl_append,sumR_wrap hM n (by omega) (fun k hk=>h k (by omega)) (fun k hk=>hg k (by omega)),List.foldl_cons,List.foldl_nil,hg n (by omega)]
  have:=sumR_bd hM n (fun k hk=>h k (by omega))
  have:=h n (by omega)
  rw[wrap_id (by omega) (by omega)];rfl
theorem getD_bd {B:Int} {x:List Int} (h:Near B x) (hB:0≤B) (k:Nat) : -B≤x.getD k 0∧x.getD k 0≤B:=by
 by_cases c:k<x.length
 · exact h _ (getD_mem c 0)
 · rw[List.getD_eq_getElem?_getD,List.getElem?_eq_none (by omega)];simp;exact hB
theorem dotR {B C:Int} (hB:0≤B) (hC:0≤C) (hBC:B*C≤100000000000) {a b:List Int} (ha:Near B a) (hb:Near C b) (hn:a.length≤4):dotW a b=sumR (fun k=>a.getD k 0*b.getD k 0) a.length:=by
 unfold dotW
 have h0:0≤B*C:=Int.mul_nonneg hB hC
 refine sumR_wrap (M:=B*C) h0 a.length ?_ (fun k _=>mul_near (getD_bd ha hB k) (getD_bd hb hC k) hB hC) (fun k _ => ?_)
 · have:(a.length:Int)*(B*C)≤4*(B*C):=Int.mul_le_mul_of_nonneg_right (by omega) h0
   omega
 · have:=mul_near (getD_bd ha hB k) (getD_bd hb hC k) hB hC
   exact wrap_id (by omega) (by omega)
theorem sqR {x z:List Int} (hx:Near 9 x) (hz:Near 9 z) (hn:x.length≤4):sqW x z=sumR (fun k=>(x.getD k 0-z.getD k 0)*(x.getD k 0-z.getD k 0)) x.length:=by
 unfold sqW
 have d:∀ k,-18≤x.getD k 0-z.getD k 0∧x.getD k 0-z.getD k 0≤18:=fun k=>by
  have:=getD_bd hx (by omega) k
  have:=getD_bd hz (by omega) k
  omega
 refine sumR_wrap (M:=18*18) (by omega) x.length (by omega) (fun k _=>mul_near (d k) (d k) (by omega) (by omega)) (fun k _ => ?_)
 have h1:=d k
 have h2:=mul_near (d k) (d k) (by omega) (by omega)
 rw[wrap_id (x:=x.getD k 0-z.getD k 0) (by omega) (by omega)]
 exact wrap_id (by omega) (by omega)
theorem sumR_congr {f g:Nat→Int}:∀ n:Nat,(∀ k<n,f k=g k)→sumR f n=sumR g n
 | 0,_=>rfl
 | n+1,h=>by simp only[sumR];rw[sumR_congr n (fun k hk=>h k (by omega)),h n (by omega)]
theorem pair_sum (x y z:Nat→Int):∀ n:Nat,sumR (fun k=>(x k-z k)*(x k-z k)) n-sumR (fun k=>(y k-z k)*(y k-z k)) n=sumR (fun k=>x k*x k) n-sumR (fun k=>y k*y k) n-sumR (fun k=>(2*(x k-y k))*z k) n
 | 0=>rfl
 | n+1=>by
  have ih:=pair_sum x y z n
  simp only[sumR]
  have e:(x n-z n)*(x n-z n)-(y n-z n)*(y n-z n)=x n*x n-y n*y n-(2*(x n-y n))*z n:=by grind
  omega
theorem pairW_get {x y:List Int} (hx:Near 9 x) (hy:Near 9 y) (k:Nat) (hk:k<x.length):(pairW x y).getD k 0=2*(x.getD k 0-y.getD k 0):=by
 unfold pairW
 have h1:=getD_bd hx (by omega) k
 have h2:=getD_bd hy (by omega) k
 rw[List.getD_eq_getElem?_getD,List.getElem?_map,List.getElem?_range hk,Option.map_some,Option.getD_some,wrap_id (x:=x.getD k 0-y.getD k 0) (by omega) (by omega),wrap_id (by omega) (by omega)]
theorem pairW_near {x y:List Int} (hx:Near 9 x) (hy:Near 9 y):Near 36 (pairW x y):=fun v hv=>by
 unfold pairW at hv
 obtain ⟨k,hk,rfl⟩:=List.mem_map.1 hv
 have h1:=getD_bd hx (by omega) k
 have h2:=getD_bd hy (by omega) k
 rw[wrap_id (x:=x.getD k 0-y.getD k 0) (by omega) (by omega),wrap_id (by omega) (by omega)]
 omega
theorem pairW_len (x y:List Int):(pairW x y).length=x.length:=by unfold pairW;rw[List.length_map,List.length_range]
theorem pair_side {x y z:List Int} (hx:Near 9 x) (hy:Near 9 y) (hz:Near 9 z) (h1:y.length=x.length) (hn:x.length≤4):(dotW (pairW x y) z≥wrap64 (dotW x x-dotW y y))↔sqW x z≤sqW y z:=by
 have e1:=dotR (by omega) (by omega) (by omega) hx hx hn
 have e2:=dotR (by omega) (by omega) (by omega) hy hy (by omega)
 have e3:=dotR (by omega) (by omega) (by omega) (pairW_near hx hy) hz (by rw[pairW_len];omega)
 rw[pairW_len,sumR_congr x.length (fun k hk=>by rw[pairW_get hx hy k hk])] at e3
 have e4:=sqR hx hz hn
 have e5:=sqR hy hz (by omega)
 rw[h1] at e2 e5
 have key:=pair_sum (fun k=>x.getD k 0) (fun k=>y.getD k 0) (fun k=>z.getD k 0) x.length
 have b1:=sumR_bd (f:=fun k=>x.getD k 0*x.getD k 0) (M:=81) (by omega) x.length (fun k _=>mul_near (getD_bd hx (by omega) k) (getD_bd hx (by omega) k) (by omega) (by omega))
 have b2:=sumR_bd (f:=fun k=>y.getD k 0*y.getD k 0) (M:=81) (by omega) x.length (fun k _=>mul_near (getD_bd hy (by omega) k) (getD_bd hy (by omega) k) (by omega) (by omega))
 rw[← e1] at b1
 rw[← e2] at b2
 rw[wrap_id (by omega) (by omega)]
 rw[← e1,← e2,← e3,← e4,← e5] at key
 omega
theorem near_two (d:Int→Int):nearM d [0,1]=if d 0≤d 1 then [0,1] else [1,0]:=by
 show insM d 1 [0]=_
 simp only[insM]
theorem near_pair {x y z:List Int} (hx:pointB x=true) (hy:pointB y=true) (hz:pointB z=true) (h1:y.length=x.length) (h2:z.length=x.length):nearLabelM [x,y] [1,-1] z 1=(if sqW x z≤sqW y z then 1 else -1,true):=by
 have hs:sampleB [x,y] [1,-1]=true:=by
  unfold sampleB
  have a1:ptB [x,y] x=true:=by unfold ptB;rw[hx];simp
  have a2:ptB [x,y] y=true:=by unfold ptB;rw[hy];simp[h1]
  simp only[List.all_cons,List.all_nil,a1,a2]
  rfl
 have hp:pointOfB [x,y] [1,-1] z=true:=by
  unfold pointOfB someB
  rw[hs,hz]
  simp[h2]
 unfold nearLabelM
 rw[hp]
 have hm:inR 1 (([x,y].length:Nat):Int) 1=true:=rfl
 rw[hm,Bool.and_self,if_pos rfl]
 have el:leftM [x,y].length []=[0,1]:=show leftM 2 []=[0,1] from by decide +kernel
 rw[el]
 unfold labelM
 rw[near_two]
 have d0:dstM [x,y] z 0=sqW x z:=rfl
 have d1:dstM [x,y] z 1=sqW y z:=rfl
 rw[d0,d1]
 by_cases c:sqW x z≤sqW y z
 · rw[if_pos c,if_pos c,show sumW (atM [1,-1] (List.take (Int.toNat 1) [0,1]))=1 from by decide +kernel];rfl
 · rw[if_neg c,if_neg c,show sumW (atM [1,-1] (List.take (Int.toNat 1) [1,0])) = -1 from by decide +kernel];rfl
def zval (k:Int) (i:Nat):Int:=wrap64 ((Int.tmod (wrap64 ((wrap64 (k*(wrap64 ((i:Int)+2))))+9)) 7)-3)
def zpt (k:Int) (n:Nat):List Int:=(List.range n).map (zval k)
theorem tmod7 (x:Int) : -6≤Int.tmod x 7∧Int.tmod x 7≤6:=by
 have:=Int.tmod_lt_of_pos x (show (0:Int)<7 by omega)
 have h:=Int.lt_tmod_of_pos x (show (0:Int)<7 by omega)
 omega
theorem zval_in (k:Int) (i:Nat) : -9≤zval k i∧zval k i≤9:=by
 unfold zval
 have:=tmod7 (wrap64 ((wrap64 (k*(wrap64 ((i:Int)+2))))+9))
 rw[wrap_id (by omega) (by omega)]
 omega
theorem zpt_len (k:Int) (n:Nat):(zpt k n).length=n:=by unfold zpt;rw[List.length_map,List.length_range]
theorem zpt_point (k:Int) {n:Nat} (h:1≤n∧n≤4):pointB (zpt k n)=true:=by
 unfold pointB
 rw[zpt_len,Bool.and_eq_true,List.all_eq_true]
 refine ⟨(inR_iff _ _ _).2 (by omega),fun v hv => ?_⟩
 unfold zpt at hv
 obtain ⟨i,_,rfl⟩:=List.mem_map.1 hv
 exact (inR_iff _ _ _).2 (zval_in k i)
theorem pair_round {x y:List Int} (h:(pairM x y).2.2=true) (k:Int):sideOfM (pairM x y).1 (pairM x y).2.1 (zpt k x.length)=nearLabelM [x,y] [1,-1] (zpt k x.length) 1∧(nearLabelM [x,y] [1,-1] (zpt k x.length) 1).2=true∧x.length≤4:=by
 unfold pairM at h ⊢
 by_cases c:(pointB x && (pointB y && (decide (x.length=y.length) && !sameB x y)))=true
 · rw[if_pos c] at h ⊢
   simp only[Bool.and_eq_true,decide_eq_true_eq] at c
   obtain ⟨hx,hy,hl,_⟩:=c
   have hn:=point_len hx
   unfold keptM at h ⊢
   by_cases cp:planeB (pairW x y) (wrap64 (dotW x x-dotW y y))=true
   · rw[if_pos cp] at h ⊢
     have hz:=zpt_point k hn
     have e1:=near_pair hx hy hz (by omega) (zpt_len k _)
     have e2:=pair_side (point_near hx) (point_near hy) (point_near hz) (by omega) hn.2
     refine ⟨?_,by rw[e1],hn.2⟩
     rw[e1]
     unfold sideOfM
     have hm:meetsB (pairW x y) (wrap64 (dotW x x-dotW y y)) (zpt k x.length)=true:=by
      unfold meetsB
      rw[cp,hz,zpt_len,pairW_len]
      simp
     simp only[hm,if_true]
     unfold sideW
     by_cases cs:sqW x (zpt k x.length)≤sqW y (zpt k x.length)
     · rw[if_pos cs,if_pos (e2.2 cs)]
     · rw[if_neg cs,if_neg (fun hh=>cs (e2.1 hh))]
   · rw[if_neg cp] at h;cases h
 · rw[if_neg c] at h;cases h
theorem set_get (g:Nat→Int→Int) (j:Nat):∀ (n:Nat) (s:List Int),n≤s.length→((List.range n).foldl (fun s k=>s.set k (g k (s.getD k 0))) s).getD j 0=(if j<n then g j (s.getD j 0) else s.getD j 0)∧((List.range n).foldl (fun s k=>s.set k (g k (s.getD k 0))) s).length=s.length
 | 0,s,_=>⟨by simp,rfl⟩
 | n+1,s,h=>by
  have ih:=set_get g j n s (by omega)
  have ihn:=set_get g n n s (by omega)
  rw[List.range_succ,List.foldl_append,List.foldl_cons,List.foldl_nil]
  refine ⟨?_,by rw[List.length_set];exact ih.2⟩
  rw[ihn.1,if_neg (Nat.lt_irrefl n),List.getD_eq_getElem?_getD,List.getElem?_set]
  by_cases c:n=j
  · subst c
    rw[if_pos rfl,if_pos (by rw[ih.2];omega),if_pos (by omega)];rfl
  · rw[if_neg c,← List.getD_eq_getElem?_getD,ih.1]
    by_cases c2:j<n
    · rw[if_pos c2,if_pos (by omega)]
    · rw[if_neg c2,if_neg (by omega)]
theorem addAt_get (x s:List Int) (h:x.length≤s.length) (j:Nat) (hj:j<x.length):(addAt x s).getD j 0=wrap64 (s.getD j 0+x.getD j 0):=by
 unfold addAt
 rw[(set_get (fun k v=>wrap64 (v+x.getD k 0)) j x.length s h).1,if_pos hj]
def upStep (P:List (List Int)) (L:List Int) (v:Int) (k:Nat) (s:Int) (i:Nat):Int:=if L.getD i 0=v then wrap64 (s+(P.getD i []).getD k 0) else s
theorem sums_get (P:List (List Int)) (L:List Int) (v:Int) (k d:Nat) (hk:k<d):∀ (l:List Nat) (c:Int) (s:List Int),(∀ i∈l,(P.getD i []).length=d)→s.length=d→(l.foldl (fun s i=>sumStep P L v i s) (c,s)).2.getD k 0=l.foldl (upStep P L v k) (s.getD k 0)
 | [],_,_,_,_=>rfl
 | i::l,c,s,h,hs=>by
  have hi:=h i List.mem_cons_self
  rw[List.foldl_cons,List.foldl_cons]
  unfold sumStep upStep
  by_cases e:L.getD i 0=v
  · rw[if_pos e,if_pos e]
    have ih:=sums_get P L v k d hk l (wrap64 (c+1)) (addAt (P.getD i []) s) (fun z hz=>h z (List.mem_cons_of_mem _ hz)) (by rw[addAt_len];exact hs)
    unfold sumStep upStep at ih
    rw[ih,addAt_get _ _ (by omega) k (by omega)]
  · rw[if_neg e,if_neg e]
    have ih:=sums_get P L v k d hk l c s (fun z hz=>h z (List.mem_cons_of_mem _ hz)) hs
    unfold sumStep upStep at ih
    exact ih
theorem with_fold (P:List (List Int)) (v:Int) (k:Nat) (L0:List Int):∀ (ys:List Int) (i:Nat) (s:Int),(∀ j<ys.length,L0.getD (i+j) 0=ys.getD j 0)→(withL v i ys).foldl (fun s z=>wrap64 (s+(P.getD z.toNat []).getD k 0)) s=(List.range ys.length).foldl (fun s j=>upStep P L0 v k s (i+j)) s
 | [],_,_,_=>rfl
 | y::ys,i,s,h=>by
  have h0:=h 0 (by simp)
  simp only[List.getD_cons_zero,Nat.add_zero] at h0
  have ih:=fun s=>with_fold P v k L0 ys (i+1) s (fun j hj=>by
   have:=h (j+1) (by simp;omega)
   rw[List.getD_cons_succ] at this
   rw[← this]
   congr 1;omega)
  rw[List.length_cons,List.range_succ_eq_map,List.foldl_cons,List.foldl_map]
  have e:(fun s j=>upStep P L0 v k s (i+Nat.succ j))=(fun s j=>upStep P L0 v k s (i+1+j)):=by
   funext s j
   rw[show i+Nat.succ j=i+1+j by omega]
  rw[e]
  unfold withL
  by_cases c:y=v
  · rw[if_pos c,List.foldl_cons,ih]
    congr 1
    unfold upStep
    rw[Nat.add_zero,h0,if_pos c,Int.toNat_natCast]
  · rw[if_neg c,ih]
    congr 1
    unfold upStep
    rw[Nat.add_zero,h0,if_neg c]
theorem up_bd (P:List (List Int)) (L:List Int) (v:Int) (k:Nat) (hP:∀ i,-9≤(P.getD i []).getD k 0∧(P.getD i []).getD k 0≤9):∀ (l:List Nat) (s B:Int),-B≤s→s≤B→B+9*l.length≤1000000 → -(B+9*l.length)≤l.foldl (upStep P L v k) s∧l.foldl (upStep P L v k) s≤B+9*l.length
 | [],s,B,h1,h2,_=>by simp;omega
 | i::l,s,B,h1,h2,h3=>by
  rw[List.length_cons] at h3
  have hi:=hP i
  have e : -(B+9)≤upStep P L v k s i∧upStep P L v k s i≤B+9:=by
   unfold upStep
   split
   · rw[wrap_id (by omega) (by omega)];omega
   · omega
  have ih:=up_bd P L v k hP l (upStep P L v k s i) (B+9) e.1 e.2 (by omega)
  rw[List.foldl_cons,List.length_cons]
  omega
theorem mean_sum (p q:Int) (x a b:Nat→Int):∀ n:Nat,sumR (fun k=>(q*(p*x k-a k))*(q*(p*x k-a k))) n-sumR (fun k=>(p*(q*x k-b k))*(p*(q*x k-b k))) n=(q*q)*sumR (fun k=>a k*a k) n-(p*p)*sumR (fun k=>b k*b k) n-sumR (fun k=>(2*p*q*(q*a k-p*b k))*x k) n
 | 0=>by simp[sumR]
 | n+1=>by
  have ih:=mean_sum p q x a b n
  simp only[sumR]
  have e:(q*(p*x n-a n))*(q*(p*x n-a n))-(p*(q*x n-b n))*(p*(q*x n-b n))=(q*q)*(a n*a n)-(p*p)*(b n*b n)-(2*p*q*(q*a n-p*b n))*x n:=by grind
  have e1:=Int.mul_add (q*q) (sumR (fun k=>a k*a k) n) (a n*a n)
  have e2:=Int.mul_add (p*p) (sumR (fun k=>b k*b k) n) (b n*b n)
  rw[e1,e2]
  omega
theorem meanW_val {p q u v:Int} (hp:0≤p∧p≤16) (hq:0≤q∧q≤16) (hu : -144≤u∧u≤144) (hv : -144≤v∧v≤144):wrap64 ((wrap64 ((wrap64 (2*p))*q))*(wrap64 ((wrap64 (q*u))-(wrap64 (p*v)))))=2*p*q*(q*u-p*v) ∧ -2359296≤2*p*q*(q*u-p*v)∧2*p*q*(q*u-p*v)≤2359296:=by
 have h1:=mul_near (B:=32) (C:=16) (x:=2*p) (y:=q) (by omega) (by omega) (by omega) (by omega)
 have h2:=mul_near (B:=16) (C:=144) (x:=q) (y:=u) (by omega) (by omega) (by omega) (by omega)
 have h3:=mul_near (B:=16) (C:=144) (x:=p) (y:=v) (by omega) (by omega) (by omega) (by omega)
 have h4:=mul_near (B:=512) (C:=4608) (x:=2*p*q) (y:=q*u-p*v) (by omega) (by omega) (by omega) (by omega)
 rw[wrap_id (x:=2*p) (by omega) (by omega),wrap_id (x:=2*p*q) (by omega) (by omega),wrap_id (x:=q*u) (by omega) (by omega),wrap_id (x:=p*v) (by omega) (by omega),wrap_id (x:=q*u-p*v) (by omega) (by omega),wrap_id (x:=2*p*q*(q*u-p*v)) (by omega) (by omega)]
 exact ⟨rfl,by omega,by omega⟩
theorem gap_val {p q x u:Int} (hp:0≤p∧p≤16) (hq:0≤q∧q≤16) (hx : -9≤x∧x≤9) (hu : -144≤u∧u≤144):wrap64 ((wrap64 (q*(wrap64 ((wrap64 (p*x))-u))))*(wrap64 (q*(wrap64 ((wrap64 (p*x))-u)))))=(q*(p*x-u))*(q*(p*x-u)) ∧ -21233664≤(q*(p*x-u))*(q*(p*x-u))∧(q*(p*x-u))*(q*(p*x-u))≤21233664:=by
 have h1:=mul_near (B:=16) (C:=9) (x:=p) (y:=x) (by omega) (by omega) (by omega) (by omega)
 have h2:=mul_near (B:=16) (C:=288) (x:=q) (y:=p*x-u) (by omega) (by omega) (by omega) (by omega)
 have h3:=mul_near (B:=4608) (C:=4608) (x:=q*(p*x-u)) (y:=q*(p*x-u)) (by omega) (by omega) (by omega) (by omega)
 rw[wrap_id (x:=p*x) (by omega) (by omega),wrap_id (x:=p*x-u) (by omega) (by omega),wrap_id (x:=q*(p*x-u)) (by omega) (by omega),wrap_id (x:=q*(p*x-u)*(q*(p*x-u))) (by omega) (by omega)]
 exact ⟨rfl,by omega,by omega⟩
theorem meanW_len (p q:Int) (a b:List Int):(meanW p q a b).length=a.length:=by unfold meanW;rw[List.length_map,List.length_range]
theorem meanW_get {p q:Int} (hp:0≤p∧p≤16) (hq:0≤q∧q≤16) {a b:List Int} (ha:Near 144 a) (hb:Near 144 b) (k:Nat) (hk:k<a.length):(meanW p q a b).getD k 0=2*p*q*(q*a.getD k 0-p*b.getD k 0):=by
 unfold meanW
 rw[List.getD_eq_getElem?_getD,List.getElem?_map,List.getElem?_range hk,Option.map_some,Option.getD_some]
 exact (meanW_val hp hq (getD_bd ha (by omega) k) (getD_bd hb (by omega) k)).1
theorem meanW_near {p q:Int} (hp:0≤p∧p≤16) (hq:0≤q∧q≤16) {a b:List Int} (ha:Near 144 a) (hb:Near 144 b):Near 2359296 (meanW p q a b):=fun v hv=>by
 unfold meanW at hv
 obtain ⟨k,hk,rfl⟩:=List.mem_map.1 hv
 have h:=meanW_val hp hq (getD_bd ha (by omega) k) (getD_bd hb (by omega) k)
 rw[h.1];exact h.2
theorem mean_side {p q:Int} (hp:0≤p∧p≤16) (hq:0≤q∧q≤16) {a b x:List Int} (ha:Near 144 a) (hb:Near 144 b) (hx:Near 9 x) (h1:a.length=x.length) (h2:b.length=x.length) (hn:x.length≤4):(dotW (meanW p q a b) x≥biasW p q a b)↔sumR (fun k=>(q*(p*x.getD k 0-a.getD k 0))*(q*(p*x.getD k 0-a.getD k 0))) x.length≤sumR (fun k=>(p*(q*x.getD k 0-b.getD k 0))*(p*(q*x.getD k 0-b.getD k 0))) x.length:=by
 have e1:=dotR (by omega) (by omega) (by omega) ha ha (by omega)
 have e2:=dotR (by omega) (by omega) (by omega) hb hb (by omega)
 have e3:=dotR (by omega) (by omega) (by omega) (meanW_near hp hq ha hb) hx (by rw[meanW_len];omega)
 rw[meanW_len,sumR_congr a.length (fun k hk=>by rw[meanW_get hp hq ha hb k hk])] at e3
 rw[h1] at e1 e3
 rw[h2] at e2
 have key:=mean_sum p q (fun k=>x.getD k 0) (fun k=>a.getD k 0) (fun k=>b.getD k 0) x.length
 have b1:=sumR_bd (f:=fun k=>a.getD k 0*a.getD k 0) (M:=144*144) (by omega) x.length (fun k _=>mul_near (getD_bd ha (by omega) k) (getD_bd ha (by omega) k) (by omega) (by omega))
 have b2:=sumR_bd (f:=fun k=>b.getD k 0*b.getD k 0) (M:=144*144) (by omega) x.length (fun k _=>mul_near (getD_bd hb (by omega) k) (getD_bd hb (by omega) k) (by omega) (by omega))
 rw[← e1,← e2,← e3] at key
 rw[← e1] at b1
 rw[← e2] at b2
 have hqq:=mul_near (B:=16) (C:=16) (x:=q) (y:=q) (by omega) (by omega) (by omega) (by omega)
 have hpp:=mul_near (B:=16) (C:=16) (x:=p) (y:=p) (by omega) (by omega) (by omega) (by omega)
 have h3:=mul_near (B:=256) (C:=82944) (x:=q*q) (y:=dotW a a) (by omega) (by omega) (by omega) (by omega)
 have h4:=mul_near (B:=256) (C:=82944) (x:=p*p) (y:=dotW b b) (by omega) (by omega) (by omega) (by omega)
 unfold biasW
 rw[wrap_id (x:=q*q) (by omega) (by omega),wrap_id (x:=p*p) (by omega) (by omega),wrap_id (x:=q*q*dotW a a) (by omega) (by omega),wrap_id (x:=p*p*dotW b b) (by omega) (by omega),wrap_id (by omega) (by omega)]
 omega
def upW (P:List (List Int)) (pl:List Int) (k:Nat):Int:=pl.foldl (fun s z=>wrap64 (s+(P.getD z.toNat []).getD k 0)) 0
theorem rdP_get (P:List (List Int)) {z:Int} (h:0≤z):rd_L3 P z=P.getD z.toNat []:=rfl
theorem law_up (mw:List Int) (mb:Int) (plus minus:List Int) (P:List (List Int)) (L:List Int) (i k:Nat) (u v:Int) (hl:plus.length≤16) (hp:∀ z∈plus,0≤z∧z<(P.length:Int)) (hk:∀ z:Nat,z<P.length→k<(P.getD z []).length) :
 To (fun K=>laws_FnPlanesOfPairs.l4 K mw mb plus minus (i:Int) u v (k:Int) 0 0 0 P L) (fun K=>laws_FnPlanesOfPairs.l5 K mw mb plus minus (i:Int) u v (k:Int) (upW P plus k) 0 0 P L):=by
 have hf:=to_fold (L:=fun j (s:Int) K=>laws_FnPlanesOfPairs.l4 K mw mb plus minus (i:Int) u v (k:Int) s 0 j P L) (n:=plus.length) (f:=fun j s=>wrap64 (s+(P.getD (plus.getD j 0).toNat []).getD k 0)) (fun _ _=>True) (fun j s hj _=>⟨To.step fun K=>by
  have hz:=hp _ (getD_mem hj 0)
  have c1:(j:Int)<(plus.length:Int):=by omega
  have c2:0≤(j:Int):=by omega
  have c5:0≤(k:Int):=by omega
  have c6:(k:Int)<((P.getD (plus.getD j 0).toNat []).length:Int):=by have:=hk (plus.getD j 0).toNat (by omega);omega
  simp only[laws_FnPlanesOfPairs.l4,if_pos c1,if_pos c2,rd_nat,if_pos hz.1,if_pos hz.2,if_pos c5,rdP_get P hz.1,if_pos c6,wrap_succ hj (by omega:plus.length≤9223372036854775807)],trivial⟩) 0 trivial
 refine hf.1.trans (To.step fun K => ?_)
 simp only[laws_FnPlanesOfPairs.l4,if_neg (Int.lt_irrefl _)]
 rw[range_fold plus (fun s z=>wrap64 (s+(P.getD z.toNat []).getD k 0)) 0 0]
 rfl
theorem law_down (mw:List Int) (mb:Int) (plus minus:List Int) (P:List (List Int)) (L:List Int) (i k:Nat) (u v w:Int) (hi:i<P.length) (hl:minus.length≤16) (hp:∀ z∈minus,0≤z∧z<(P.length:Int)) (hk:∀ z:Nat,z<P.length→k<(P.getD z []).length) (hk9:k≤9) :
 To (fun K=>laws_FnPlanesOfPairs.l5 K mw mb plus minus (i:Int) u v (k:Int) w 0 0 P L) (fun K=>laws_FnPlanesOfPairs.l3 K mw mb plus minus (i:Int)
  (wrap64 (u+wrap64 ((wrap64 ((minus.length:Int)*(wrap64 ((wrap64 ((plus.length:Int)*(P.getD i []).getD k 0))-w))))*(wrap64 ((minus.length:Int)*(wrap64 ((wrap64 ((plus.length:Int)*(P.getD i []).getD k 0))-w)))))))
  (wrap64 (v+wrap64 ((wrap64 ((plus.length:Int)*(wrap64 ((wrap64 ((minus.length:Int)*(P.getD i []).getD k 0))-upW P minus k))))*(wrap64 ((plus.length:Int)*(wrap64 ((wrap64 ((minus.length:Int)*(P.getD i []).getD k 0))-upW P minus k))))))) ((k+1:Nat):Int) P L):=by
 have hf:=to_fold (L:=fun j (s:Int) K=>laws_FnPlanesOfPairs.l5 K mw mb plus minus (i:Int) u v (k:Int) w s j P L) (n:=minus.length) (f:=fun j s=>wrap64 (s+(P.getD (minus.getD j 0).toNat []).getD k 0)) (fun _ _=>True) (fun j s hj _=>⟨To.step fun K=>by
  have hz:=hp _ (getD_mem hj 0)
  have c1:(j:Int)<(minus.length:Int):=by omega
  have c2:0≤(j:Int):=by omega
  have c5:0≤(k:Int):=by omega
  have c6:(k:Int)<((P.getD (minus.getD j 0).toNat []).length:Int):=by have:=hk (minus.getD j 0).toNat (by omega);omega
  simp only[laws_FnPlanesOfPairs.l5,if_pos c1,if_pos c2,rd_nat,if_pos hz.1,if_pos hz.2,if_pos c5,rdP_get P hz.1,if_pos c6,wrap_succ hj (by omega:minus.length≤9223372036854775807)],trivial⟩) 0 trivial
 refine hf.1.trans (To.step fun K => ?_)
 have c1:0≤(i:Int):=by omega
 have c2:(i:Int)<(P.length:Int):=by omega
 have c3:0≤(k:Int):=by omega
 have c4:(k:Int)<((P.getD i []).length:Int):=by have:=hk i hi;omega
 have ew:wrap64 ((k:Int)+1)=((k+1:Nat):Int):=wrap_succ (Nat.lt_succ_self k) (by omega)
 rw[range_fold minus (fun s z=>wrap64 (s+(P.getD z.toNat []).getD k 0)) 0 0]
 simp only[laws_FnPlanesOfPairs.l5,if_neg (Int.lt_irrefl _),if_pos c1,if_pos c2,if_pos c3,rdL3_nat,if_pos c4,rd_nat,ew]
 rfl
theorem fold_two {σ τ:Type} (F:σ→Nat→σ) (G:τ→Nat→τ):∀ (l:List Nat) (a:σ) (b:τ),l.foldl (fun (s:σ×τ) k=>(F s.1 k,G s.2 k)) (a,b)=(l.foldl F a,l.foldl G b)
 | [],_,_=>rfl
 | k::l,a,b=>by rw[List.foldl_cons,List.foldl_cons,List.foldl_cons];exact fold_two F G l _ _
theorem upW_eq {P:List (List Int)} {L:List Int} (hs:sampleB P L=true) (v:Int) (k:Nat) (hk:k<(P.getD 0 []).length):upW P (withL v 0 L) k=(sumsM P L v (P.getD 0 []).length).2.getD k 0:=by
 have ht:=sample_tell hs
 unfold upW sumsM
 rw[with_fold P v k L L 0 0 (fun j _=>by rw[Nat.zero_add]),sums_get P L v k (P.getD 0 []).length hk (List.range P.length) 0 (List.replicate (P.getD 0 []).length 0) (fun i hi=>(ht.2.2.2 _ (getD_mem (List.mem_range.1 hi) [])).2) (by rw[List.length_replicate]),ht.2.1]
 have e0:(List.replicate (P.getD 0 []).length (0:Int)).getD k 0=0:=by
  rw[List.getD_eq_getElem?_getD,List.getElem?_replicate]
  split <;> rfl
 rw[e0]
 congr 1
 funext s j
 rw[Nat.zero_add]
theorem mem_get {l:List Int} {y:Int} (h:y∈l):∃ k,k<l.length∧y=l.getD k 0:=by
 obtain ⟨k,hk,rfl⟩:=List.getElem_of_mem h
 exact ⟨k,hk,by rw[List.getD_eq_getElem?_getD,List.getElem?_eq_getElem hk];rfl⟩
theorem sums_near {P:List (List Int)} {L:List Int} (hs:sampleB P L=true) (v:Int):Near 144 (sumsM P L v (P.getD 0 []).length).2:=fun y hy=>by
 have ht:=sample_tell hs
 obtain ⟨k,hk,rfl⟩:=mem_get hy
 rw[sumsM_len] at hk
 unfold sumsM
 rw[sums_get P L v k (P.getD 0 []).length hk (List.range P.length) 0 (List.replicate (P.getD 0 []).length 0) (fun i hi=>(ht.2.2.2 _ (getD_mem (List.mem_range.1 hi) [])).2) (by rw[List.length_replicate])]
 have e0:(List.replicate (P.getD 0 []).length (0:Int)).getD k 0=0:=by
  rw[List.getD_eq_getElem?_getD,List.getElem?_replicate]
  split <;> rfl
 rw[e0]
 have hb:=up_bd P L v k (fun i=>by
  by_cases c:i<P.length
  · exact getD_bd (point_near (ht.2.2.2 _ (getD_mem c [])).1) (by omega) k
  · rw[List.getD_eq_getElem?_getD (l:=P),List.getElem?_eq_none (by omega)];simp) (List.range P.length) 0 0 (by omega) (by omega) (by rw[List.length_range];omega)
 rw[List.length_range] at hb
 omega
theorem with_mem (v:Int):∀ (L:List Int) (i:Nat),∀ z∈withL v i L,(i:Int)≤z∧z<((i+L.length:Nat):Int)
 | [],_,z,h=>by cases h
 | y::L,i,z,h=>by
  have ih:=with_mem v L (i+1) z
  rw[List.length_cons]
  unfold withL at h
  split at h
  · rcases List.mem_cons.1 h with rfl|h
    · omega
    · have:=ih h;omega
  · have:=ih h;omega
theorem law_means {P:List (List Int)} {L:List Int} (hs:sampleB P L=true) (h0:0<P.length):Ev (fun K=>laws_FnPlanesOfPairs.l2 K (meanW (L.count 1) (L.count (-1)) (sumsM P L 1 (P.getD 0 []).length).2 (sumsM P L (-1) (P.getD 0 []).length).2) (biasW (L.count 1) (L.count (-1)) (sumsM P L 1 (P.getD 0 []).length).2 (sumsM P L (-1) (P.getD 0 []).length).2) (withL 1 0 L) (withL (-1) 0 L) 0 P L) true:=by
 have ht:=sample_tell hs
 have hd:=point_len (ht.2.2.2 _ (getD_mem h0 [])).1
 have l1:=withL_len 1 L 0
 have l2:=withL_len (-1) L 0
 have k1:=List.count_le_length (a:=(1:Int)) (l:=L)
 have k2:=List.count_le_length (a:=(-1:Int)) (l:=L)
 have na:=sums_near hs 1
 have nb:=sums_near hs (-1)
 have la:=sumsM_len P L 1 (P.getD 0 []).length
 have lb:=sumsM_len P L (-1) (P.getD 0 []).length
 have ua:=fun k hk=>upW_eq hs 1 k hk
 have ub:=fun k hk=>upW_eq hs (-1) k hk
 have m1:=with_mem 1 L 0
 have m2:=with_mem (-1) L 0
 have hp:0≤((L.count 1:Nat):Int)∧((L.count 1:Nat):Int)≤16:=by omega
 have hq:0≤((L.count (-1):Nat):Int)∧((L.count (-1):Nat):Int)≤16:=by omega
 generalize (sumsM P L 1 (P.getD 0 []).length).2=a at *
 generalize (sumsM P L (-1) (P.getD 0 []).length).2=b at *
 generalize withL 1 0 L=plus at *
 generalize withL (-1) 0 L=minus at *
 rw[← l1] at hp ⊢
 rw[← l2] at hq ⊢
 refine ev_yes (L:=fun i K=>laws_FnPlanesOfPairs.l2 K (meanW (plus.length:Int) (minus.length:Int) a b) (biasW (plus.length:Int) (minus.length:Int) a b) plus minus i P L) (n:=P.length) (fun i hi => ?_) (Ev.step' (f:=fun _=>some true) (fun K=>by simp only[laws_FnPlanesOfPairs.l2,if_neg (Int.lt_irrefl _)]) (Ev.now _))
 have hpt:=ht.2.2.2 _ (getD_mem hi [])
 have hx:=point_near hpt.1
 have hlen:∀ z:Nat,z<P.length→(P.getD z []).length=(P.getD 0 []).length:=fun z hz=>(ht.2.2.2 _ (getD_mem hz [])).2
 have c1:(i:Int)<(P.length:Int):=by omega
 have c2:0≤(i:Int):=by omega
 refine To.trans (To.step (f:=fun K=>laws_FnPlanesOfPairs.l3 K (meanW (plus.length:Int) (minus.length:Int) a b) (biasW (plus.length:Int) (minus.length:Int) a b) plus minus (i:Int) 0 0 ((0:Nat):Int) P L) fun K=>by simp only[laws_FnPlanesOfPairs.l2,if_pos c1];rfl) ?_
 have hf:=to_fold (L:=fun k (s:Int×Int) K=>laws_FnPlanesOfPairs.l3 K (meanW (plus.length:Int) (minus.length:Int) a b) (biasW (plus.length:Int) (minus.length:Int) a b) plus minus (i:Int) s.1 s.2 k P L) (n:=(P.getD i []).length) (f:=fun k s=>(wrap64 (s.1+wrap64 ((wrap64 ((minus.length:Int)*(wrap64 ((wrap64 ((plus.length:Int)*(P.getD i []).getD k 0))-upW P plus k))))*(wrap64 ((minus.length:Int)*(wrap64 ((wrap64 ((plus.length:Int)*(P.getD i []).getD k 0))-upW P plus k)))))),wrap64 (s.2+wrap64 ((wrap64 ((plus.length:Int)*(wrap64 ((wrap64 ((minus.length:Int)*(P.getD i []).getD k 0))-upW P minus k))))*(wrap64 ((plus.length:Int)*(wrap64 ((wrap64 ((minus.length:Int)*(P.getD i []).getD k 0))-upW P minus k)))))))) (fun _ _=>True) (fun k s hk _=>⟨?_,trivial⟩) (0,0) trivial
 · refine hf.1.trans (fun r hr => ?_)
   have e1:(List.range (P.getD i []).length).foldl (fun s k=>wrap64 (s+wrap64 ((wrap64 ((minus.length:Int)*(wrap64 ((wrap64 ((plus.length:Int)*(P.getD i []).getD k 0))-upW P plus k))))*(wrap64 ((minus.length:Int)*(wrap64 ((wrap64 ((plus.length:Int)*(P.getD i []).getD k 0))-upW P plus k))))))) 0=sumR (fun k=>((minus.length:Int)*((plus.length:Int)*(P.getD i []).getD k 0-a.getD k 0))*((minus.length:Int)*((plus.length:Int)*(P.getD i []).getD k 0-a.getD k 0))) (P.getD i []).length:=by
    refine sumR_wrap (M:=21233664) (by omega) _ (by omega) (fun k hk => ?_) (fun k hk => ?_)
    · have:=gap_val hp hq (getD_bd hx (by omega) k) (getD_bd na (by omega) k);omega
    · rw[ua k (by omega)];exact (gap_val hp hq (getD_bd hx (by omega) k) (getD_bd na (by omega) k)).1
   have e2:(List.range (P.getD i []).length).foldl (fun s k=>wrap64 (s+wrap64 ((wrap64 ((plus.length:Int)*(wrap64 ((wrap64 ((minus.length:Int)*(P.getD i []).getD k 0))-upW P minus k))))*(wrap64 ((plus.length:Int)*(wrap64 ((wrap64 ((minus.length:Int)*(P.getD i []).getD k 0))-upW P minus k))))))) 0=sumR (fun k=>((plus.length:Int)*((minus.length:Int)*(P.getD i []).getD k 0-b.getD k 0))*((plus.length:Int)*((minus.length:Int)*(P.getD i []).getD k 0-b.getD k 0))) (P.getD i []).length:=by
    refine sumR_wrap (M:=21233664) (by omega) _ (by omega) (fun k hk => ?_) (fun k hk => ?_)
    · have:=gap_val hq hp (getD_bd hx (by omega) k) (getD_bd nb (by omega) k);omega
    · rw[ub k (by omega)];exact (gap_val hq hp (getD_bd hx (by omega) k) (getD_bd nb (by omega) k)).1
   have side:=mean_side hp hq na nb hx (by omega) (by omega) (by omega)
   have ef:=fold_two (fun (s:Int) k=>wrap64 (s+wrap64 ((wrap64 ((minus.length:Int)*(wrap64 ((wrap64 ((plus.length:Int)*(P.getD i []).getD k 0))-upW P plus k))))*(wrap64 ((minus.length:Int)*(wrap64 ((wrap64 ((plus.length:Int)*(P.getD i []).getD k 0))-upW P plus k))))))) (fun (s:Int) k=>wrap64 (s+wrap64 ((wrap64 ((plus.length:Int)*(wrap64 ((wrap64 ((minus.length:Int)*(P.getD i []).getD k 0))-upW P minus k))))*(wrap64 ((plus.length:Int)*(wrap64 ((wrap64 ((minus.length:Int)*(P.getD i []).getD k 0))-upW P minus k))))))) (List.range (P.getD i []).length) 0 0
   rw[e1,e2] at ef
   rw[ef]
   refine Ev.step' (f:=fun K=>(laws_rDot.f K (meanW (plus.length:Int) (minus.length:Int) a b) (P.getD i [])).bind fun t685=>(if ((decide (t685≥biasW (plus.length:Int) (minus.length:Int) a b)) != (decide (sumR (fun k=>((minus.length:Int)*((plus.length:Int)*(P.getD i []).getD k 0-a.getD k 0))*((minus.length:Int)*((plus.length:Int)*(P.getD i []).getD k 0-a.getD k 0))) (P.getD i []).length≤sumR (fun k=>((plus.length:Int)*((minus.length:Int)*(P.getD i []).getD k 0-b.getD k 0))*((plus.length:Int)*((minus.length:Int)*(P.getD i []).getD k 0-b.getD k 0))) (P.getD i []).length)))=true then (some false) else (laws_FnPlanesOfPairs.l2 K (meanW (plus.length:Int) (minus.length:Int) a b) (biasW (plus.length:Int) (minus.length:Int) a b) plus minus ((i+1:Nat):Int) P L))) (fun K=>by
    simp only[laws_FnPlanesOfPairs.l3,if_pos c1,if_pos c2,rdL3_nat,if_neg (Int.lt_irrefl _),wrap_succ hi (by omega:P.length≤9223372036854775807)]) (Ev.bind (laws_rDot_ev _ _ (by rw[meanW_len];unfold maxLen;omega) (by rw[meanW_len];omega)) ?_)
   have eb:((decide (dotW (meanW (plus.length:Int) (minus.length:Int) a b) (P.getD i [])≥biasW (plus.length:Int) (minus.length:Int) a b)) != (decide (sumR (fun k=>((minus.length:Int)*((plus.length:Int)*(P.getD i []).getD k 0-a.getD k 0))*((minus.length:Int)*((plus.length:Int)*(P.getD i []).getD k 0-a.getD k 0))) (P.getD i []).length≤sumR (fun k=>((plus.length:Int)*((minus.length:Int)*(P.getD i []).getD k 0-b.getD k 0))*((plus.length:Int)*((minus.length:Int)*(P.getD i []).getD k 0-b.getD k 0))) (P.getD i []).length)))=false:=by
    rw[bne_eq_false_iff_eq,decide_eq_decide];exact side
   simp only[eb,Bool.false_eq_true,if_false]
   exact hr
 · have hk' : ∀ z:Nat,z<P.length→k<(P.getD z []).length:=fun z hz=>by rw[hlen z hz];have:=hlen i hi;omega
   have c3:(k:Int)<((P.getD i []).length:Int):=by omega
   refine To.trans (To.step (f:=fun K=>laws_FnPlanesOfPairs.l4 K (meanW (plus.length:Int) (minus.length:Int) a b) (biasW (plus.length:Int) (minus.length:Int) a b) plus minus (i:Int) s.1 s.2 (k:Int) 0 0 0 P L) fun K=>by simp only[laws_FnPlanesOfPairs.l3,if_pos c1,if_pos c2,rdL3_nat,if_pos c3]) ?_
   exact (law_up _ _ plus minus P L i k s.1 s.2 (by omega) (fun z hz=>by have:=m1 z hz;omega) hk').trans (law_down _ _ plus minus P L i k s.1 s.2 _ hi (by omega) (fun z hz=>by have:=m2 z hz;omega) hk' (by omega))
theorem law_pt (x mw pw:List Int) (mb pb:Int) (one:Bool) (k:Int) (P Q:List (List Int)) (L M:List Int) (hx:x.length≤4) :
 To (fun K=>laws_FnPlanesOfPairs.l1 K x mw mb one k (List.replicate x.length 0) 0 pw pb P L Q M) (fun K=>laws_FnPlanesOfPairs.l1 K x mw mb one k (zpt k x.length) (x.length:Int) pw pb P L Q M):=by
 have hf:=to_fold (L:=fun j (s:List Int) K=>laws_FnPlanesOfPairs.l1 K x mw mb one k s j pw pb P L Q M) (n:=x.length) (f:=fun j s=>s.set j (zval k j)) (fun j s=>s=(zpt k x.length).take j++List.replicate ((zpt k x.length).length-j) 0) (fun j s hj hs=>⟨To.step fun K=>by
  have c1:(j:Int)<(s.length:Int):=by
   rw[hs,List.length_append,List.length_take,List.length_replicate,zpt_len];omega
  have c2:0≤(j:Int):=by omega
  simp only[laws_FnPlanesOfPairs.l1,if_pos c1,if_pos c2,Int.toNat_natCast,wrap_succ hj (by omega:x.length≤9223372036854775807)]
  rfl,by
   have hjl:j<(zpt k x.length).length:=by rw[zpt_len];exact hj
   have e:=set_step (zpt k x.length) 0 0 j hjl
   have ez:(zpt k x.length).getD j 0=zval k j:=by
    unfold zpt
    rw[List.getD_eq_getElem?_getD,List.getElem?_map,List.getElem?_range hj,Option.map_some,Option.getD_some]
   rw[ez] at e
   show s.set j (zval k j)=_
   rw[hs];exact e⟩) (List.replicate x.length 0) (by rw[zpt_len];simp)
 have e2:=hf.2
 rw[show (zpt k x.length).take x.length=zpt k x.length from List.take_of_length_le (by rw[zpt_len];omega),zpt_len,Nat.sub_self,List.replicate_zero,List.append_nil] at e2
 rw[e2] at hf
 exact hf.1
theorem law_rounds {x y:List Int} (h:(pairM x y).2.2=true) (mw:List Int) (mb:Int) (one:Bool) (P:List (List Int)) (L:List Int) (hw:(pairM x y).1.length≤maxLen) (fin:Ev (fun K=>laws_FnPlanesOfPairs.j4 K mw mb one P L) true):∀ (m:Nat) (k:Int),k+m=5 → -4≤k→Ev (fun K=>laws_FnPlanesOfPairs.l0 K x mw mb one k (pairM x y).1 (pairM x y).2.1 P L [x,y] [1,-1]) true
 | 0,k,hk,_=>by
  have c:¬ k≤4:=by omega
  exact Ev.step' (fun K=>by simp only[laws_FnPlanesOfPairs.l0,if_neg c]) fin
 | m+1,k,hk,hk2=>by
  have c:k≤4:=by omega
  have hr:=pair_round h k
  have c2:0≤(x.length:Int):=by omega
  have c3:x.length≤35184372088832:=by have:=hr.2.2;omega
  have ih:=law_rounds h mw mb one P L hw fin m (k+1) (by omega) (by omega)
  have ew:wrap64 (k+1)=k+1:=wrap_id (by omega) (by omega)
  refine Ev.step' (f:=fun K=>laws_FnPlanesOfPairs.l1 K x mw mb one k (List.replicate x.length 0) 0 (pairM x y).1 (pairM x y).2.1 P L [x,y] [1,-1]) (fun K=>by simp only[laws_FnPlanesOfPairs.l0,if_pos c,if_pos c2,Int.toNat_natCast,if_pos c3]) ?_
  refine law_pt x mw _ mb _ one k P [x,y] L [1,-1] hr.2.2 true ?_
  have hz:(zpt k x.length).length≤maxLen:=by rw[zpt_len];have:=hr.2.2;unfold maxLen;omega
  have hy4:y.length≤maxLen:=by
   unfold pairM at h
   split at h
   · next cc =>
     simp only[Bool.and_eq_true,decide_eq_true_eq] at cc
     have:=hr.2.2
     unfold maxLen;omega
   · cases h
  have hx4:x.length≤maxLen:=by have:=hr.2.2;unfold maxLen;omega
  refine Ev.step' (f:=fun K=>(impl_SideOf.f K (pairM x y).1 (pairM x y).2.1 (zpt k x.length)).bind fun bt661=>((impl_NearLabel.f K [x,y] [1,-1] (zpt k x.length) 1).bind fun bt663=>(if bt661.2=true then (if bt663.2=true then (if bt661.1=bt663.1 then (laws_FnPlanesOfPairs.l0 K x mw mb one (k+1) (pairM x y).1 (pairM x y).2.1 P L [x,y] [1,-1]) else (some false)) else (some false)) else (some false)))) (fun K=>by
   have c5:¬ (x.length:Int)<((zpt k x.length).length:Int):=by rw[zpt_len];omega
   simp only[laws_FnPlanesOfPairs.l1,if_neg c5,ew]) ?_
  refine Ev.bind (impl_SideOf_ev _ _ _ hw hz) (Ev.bind (impl_NearLabel_ev [x,y] [1,-1] _ 1 (by unfold maxLen;simp) (fun v hv=>by
   rcases List.mem_cons.1 hv with rfl|hv
   · exact hx4
   · rw[List.mem_singleton.1 hv];exact hy4) (by unfold maxLen;simp) hz) ?_)
  rw[hr.1]
  simp only[hr.2.1,if_true]
  exact ih
theorem law_j4 (P:List (List Int)) (L:List Int) (hF:Few P L):Ev (fun K=>laws_FnPlanesOfPairs.j4 K (meanM P L).1 (meanM P L).2.1 (meanM P L).2.2 P L) true:=by
 have hP:P.length≤maxLen:=by have:=hF.1;unfold maxLen;omega
 have hi:∀ x∈P,x.length≤maxLen:=fun x hx=>by have:=hF.2.2 x hx;unfold maxLen;omega
 have hL:L.length≤1048576:=by have:=hF.2.1;omega
 unfold meanM
 by_cases c:(sampleB P L && (decide (0<L.count 1) && decide (0<L.count (-1))))=true
 · rw[if_pos c]
   simp only[Bool.and_eq_true,decide_eq_true_eq] at c
   obtain ⟨hs,h1,h2⟩:=c
   have hLP:=(sample_tell hs).2.1
   have hc:=List.count_le_length (a:=(1:Int)) (l:=L)
   have w1:∀ v:Int,(v=1∨v = -1)→pointsWithM P L v=(withL v 0 L,true):=fun v hv=>by
    unfold pointsWithM
    rw[hs,show isLab v=true by unfold isLab;simp[hv]];rfl
   have wl:∀ v:Int,(withL v 0 L).length≤maxLen:=fun v=>by
    rw[withL_len]
    have:=List.count_le_length (a:=v) (l:=L)
    unfold maxLen;omega
   refine Ev.step' (f:=fun k=>(impl_PointsWith.f k P L 1).bind fun bt665=>((impl_PointsWith.f k P L (-1)).bind fun bt669=>((spec_PointsWith.f k P L 1).bind fun bt673=>(if bt665.2=true then (if bt673.2=true then ((laws_rInts.f k bt665.1 bt673.1).bind fun t677=>(laws_FnPlanesOfPairs.j5 k (meanOf (L.count 1) (L.count (-1)) (sumsM P L 1 (P.getD 0 []).length).2 (sumsM P L (-1) (P.getD 0 []).length).2).1 (meanOf (L.count 1) (L.count (-1)) (sumsM P L 1 (P.getD 0 []).length).2 (sumsM P L (-1) (P.getD 0 []).length).2).2.1 bt665.1 bt669.1 bt669.2 (!t677) P L)) else (laws_FnPlanesOfPairs.j5 k (meanOf (L.count 1) (L.count (-1)) (sumsM P L 1 (P.getD 0 []).length).2 (sumsM P L (-1) (P.getD 0 []).length).2).1 (meanOf (L.count 1) (L.count (-1)) (sumsM P L 1 (P.getD 0 []).length).2 (sumsM P L (-1) (P.getD 0 []).length).2).2.1 bt665.1 bt669.1 bt669.2 true P L)) else (laws_FnPlanesOfPairs.j5 k (meanOf (L.count 1) (L.count (-1)) (sumsM P L 1 (P.getD 0 []).length).2 (sumsM P L (-1) (P.getD 0 []).length).2).1 (meanOf (L.count 1) (L.count (-1)) (sumsM P L 1 (P.getD 0 []).length).2 (sumsM P L (-1) (P.getD 0 []).length).2).2.1 bt665.1 bt669.1 bt669.2 true P L))))) (fun K=>by
    simp only[laws_FnPlanesOfPairs.j4,show (meanOf (L.count 1) (L.count (-1)) (sumsM P L 1 (P.getD 0 []).length).2 (sumsM P L (-1) (P.getD 0 []).length).2).2.2=true from rfl,if_true]) ?_
   refine Ev.bind (impl_PointsWith_ev P L 1 hP hi hL) (Ev.bind (impl_PointsWith_ev P L (-1) hP hi hL) (Ev.bind (spec_PointsWith_ev P L 1 hP hi hL) ?_))
   rw[w1 1 (.inl rfl),w1 (-1) (.inr rfl)]
   simp only[if_true]
   refine Ev.bind (laws_rInts_ev _ _ (wl 1)) ?_
   simp only[decide_true,Bool.not_true]
   refine Ev.step' (f:=fun k=>(spec_PointsWith.f k P L (-1)).bind fun bt678=>(if bt678.2=true then ((laws_rInts.f k (withL (-1) 0 L) bt678.1).bind fun t682=>(laws_FnPlanesOfPairs.j6 k (meanOf (L.count 1) (L.count (-1)) (sumsM P L 1 (P.getD 0 []).length).2 (sumsM P L (-1) (P.getD 0 []).length).2).1 (meanOf (L.count 1) (L.count (-1)) (sumsM P L 1 (P.getD 0 []).length).2 (sumsM P L (-1) (P.getD 0 []).length).2).2.1 (withL 1 0 L) (withL (-1) 0 L) (!t682) P L)) else (laws_FnPlanesOfPairs.j6 k (meanOf (L.count 1) (L.count (-1)) (sumsM P L 1 (P.getD 0 []).length).2 (sumsM P L (-1) (P.getD 0 []).length).2).1 (meanOf (L.count 1) (L.count (-1)) (sumsM P L 1 (P.getD 0 []).length).2 (sumsM P L (-1) (P.getD 0 []).length).2).2.1 (withL 1 0 L) (withL (-1) 0 L) true P L))) (fun K=>by
    simp only[laws_FnPlanesOfPairs.j5,Bool.false_eq_true,if_false,if_true]) ?_
   refine Ev.bind (spec_PointsWith_ev P L (-1) hP hi hL) ?_
   rw[w1 (-1) (.inr rfl)]
   simp only[if_true]
   refine Ev.bind (laws_rInts_ev _ _ (wl (-1))) ?_
   simp only[decide_true,Bool.not_true]
   exact Ev.step' (fun K=>by simp only[laws_FnPlanesOfPairs.j6,Bool.false_eq_true,if_false];rfl) (law_means hs (by omega))
 · rw[if_neg c]
   exact Ev.step' (f:=fun _=>some true) (fun K=>by simp only[laws_FnPlanesOfPairs.j4,Bool.false_eq_true,if_false]) (Ev.now _)
theorem meanM_len (P:List (List Int)) (L:List Int):(meanM P L).1.length≤maxLen:=by
 unfold meanM
 split
 · next c =>
   simp only[Bool.and_eq_true,decide_eq_true_eq] at c
   obtain ⟨hs,h1,h2⟩:=c
   have ht:=sample_tell hs
   have hc:=List.count_le_length (a:=(1:Int)) (l:=L)
   have hd:=point_len (ht.2.2.2 _ (getD_mem (by omega:0<P.length) [])).1
   show (meanW _ _ _ _).length≤_
   rw[meanW_len,sumsM_len]
   unfold maxLen;omega
 · unfold maxLen;simp
theorem pairM_len (x y:List Int) (h:x.length≤1000):(pairM x y).1.length≤maxLen:=by
 unfold pairM
 split
 · unfold keptM
   split
   · show (pairW x y).length≤_
     rw[pairW_len];unfold maxLen;omega
   · unfold maxLen;simp
 · unfold maxLen;simp
theorem law_j0 (l x y:List Int) (hb:byteL l) (hx:x.length≤1000):Ev (fun K=>laws_FnPlanesOfPairs.j0 K l x y (pairM x y).2.2 false (pairM x y).1 (pairM x y).2.1) true:=by
 obtain ⟨P,L,hD,hF⟩:=spec_DrawMeanPlane_tells l hb
 have hP:P.length≤maxLen:=by have:=hF.1;unfold maxLen;omega
 have hi:∀ x∈P,x.length≤maxLen:=fun x hx=>by have:=hF.2.2 x hx;unfold maxLen;omega
 have hL:L.length≤maxLen:=by have:=hF.2.1;unfold maxLen;omega
 refine Ev.step' (f:=fun k=>(spec_DrawMeanPlane.f k l).bind fun bt632=>((impl_MeanPlane.f k bt632.1 bt632.2).bind fun bt639=>((spec_MeanPlane.f k bt632.1 bt632.2).bind fun bt644=>(if (bt639.2.2 != bt644.2.2)=true then (laws_FnPlanesOfPairs.j1 k x y (pairM x y).2.2 bt639.1 bt639.2.1 bt639.2.2 true (pairM x y).1 (pairM x y).2.1 bt632.1 bt632.2) else (if bt639.2.1=bt644.2.1 then ((laws_rInts.f k bt639.1 bt644.1).bind fun t649=>(laws_FnPlanesOfPairs.j1 k x y (pairM x y).2.2 bt639.1 bt639.2.1 bt639.2.2 (!t649) (pairM x y).1 (pairM x y).2.1 bt632.1 bt632.2)) else (laws_FnPlanesOfPairs.j1 k x y (pairM x y).2.2 bt639.1 bt639.2.1 bt639.2.2 true (pairM x y).1 (pairM x y).2.1 bt632.1 bt632.2)))))) (fun K=>by simp only[laws_FnPlanesOfPairs.j0,Bool.false_eq_true,if_false]) ?_
 refine Ev.bind hD (Ev.bind (impl_MeanPlane_ev P L hP hi hL) (Ev.bind (spec_MeanPlane_ev P L hP hi hL) ?_))
 simp only[bne_self_eq_false,Bool.false_eq_true,if_false,if_true]
 refine Ev.bind (laws_rInts_ev _ _ (meanM_len P L)) ?_
 simp only[decide_true,Bool.not_true]
 have fin:=law_j4 P L hF
 cases ho:(pairM x y).2.2 with
 | false=>exact Ev.step' (fun K=>by simp only[laws_FnPlanesOfPairs.j1,Bool.false_eq_true,if_false]) fin
 | true=>exact Ev.step' (fun K=>by simp only[laws_FnPlanesOfPairs.j1,Bool.false_eq_true,if_false,if_true]) (law_rounds ho _ _ _ P L (pairM_len x y hx) fin 9 (-4) (by omega) (by omega))
theorem pure:laws_FnPlanesOfPairs.Pure:=by
 intro l hl hz hw
 have hb:byteL l:=fun x hx=>by
  have h:=hw x hx
  have e0:IntKind.u8.min=0:=by decide
  have e1:IntKind.u8.max=255:=by decide
  simp only[Lit.wf,Bool.and_eq_true,decide_eq_true_eq,e0,e1] at h
  exact h
 suffices h:Ev (fun k=>laws_FnPlanesOfPairs.f k l) true by
  obtain ⟨K,hK⟩:=h
  exact ⟨K,hK K (Nat.le_refl _)⟩
 by_cases big:(l.length:Int)>65536
 · exact Ev.congr (f:=fun _=>some true) (fun k=>by simp only[laws_FnPlanesOfPairs.f,laws_rBig_eq,Option.bind_some,decide_eq_true big,if_true]) (Ev.now _)
 · obtain ⟨x,y,hD,hx,hy⟩:=spec_DrawPairPlane_tells l hb
   simp only[laws_FnPlanesOfPairs.f,laws_rBig_eq,Option.bind_some,decide_eq_false big,Bool.false_eq_true,if_false]
   refine Ev.bind hD (Ev.bind (impl_PairPlane_ev x y (by unfold maxLen;omega) (by unfold maxLen;omega)) (Ev.bind (spec_PairPlane_ev x y (by unfold maxLen;omega) (by unfold maxLen;omega)) ?_))
   simp only[bne_self_eq_false,Bool.false_eq_true,if_false]
   refine Ev.bind (laws_rPlane_ev _ _ _ _ (pairM_len x y (by omega))) ?_
   simp only[decide_true,Bool.and_self,Bool.not_true]
   exact law_j0 l x y hb (by omega)
end Go.Proofs.Ytkbahcbankfffaa.QFnPlanesOfPairs
