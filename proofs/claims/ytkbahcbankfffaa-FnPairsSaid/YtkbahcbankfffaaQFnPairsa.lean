/- FnPairs: what its calls come to, shown of numbers and lists alone. -/
import Derived.Test.YtkbahcbankfffaaPFnPairsx1
import Derived.Test.YtkbahcbankfffaaPFnPairsx2
import Derived.Test.YtkbahcbankfffaaPFnPairsx3
import Derived.Test.YtkbahcbankfffaaPFnPairsx4
import Derived.Test.YtkbahcbankfffaaPFnPairsx5
import Derived.Test.YtkbahcbankfffaaPFnPairsx6
import Derived.Test.YtkbahcbankfffaaPFnPairsx7
import Derived.Test.YtkbahcbankfffaaPFnPairsx8
import Derived.Test.YtkbahcbankfffaaPFnPairsx9
import Derived.Test.YtkbahcbankfffaaPFnPairsx10
import Derived.Test.YtkbahcbankfffaaPFnPairsx11
import Derived.Test.YtkbahcbankfffaaPFnPairsx12
import Derived.Test.YtkbahcbankfffaaPFnPairsx13
import Derived.Test.YtkbahcbankfffaaPFnPairsx14
import Derived.Test.YtkbahcbankfffaaPFnPairsx15
import Derived.Test.YtkbahcbankfffaaPFnPairsx16
import Derived.Test.YtkbahcbankfffaaPFnPairsx17
import Derived.Test.YtkbahcbankfffaaPFnPairsx18
import Derived.Test.YtkbahcbankfffaaLb
namespace Go.Proofs.Ytkbahcbankfffaa.QFnPairs
open Go.RowKit  Go.Proofs.Ytkbahcbankfffaa.Lb Go.Proofs.Ytkbahcbankfffaa.PFnPairs Go.Proofs.YtkbahcbankfffaaW.PrintWords Go.Proofs.YtkbahcbankfffaaW.PrintLast Go.Proofs.YtkbahcbankfffaaW.PrintMore
set_option linter.unusedVariables false
set_option linter.unusedSimpArgs false
def planeB (w:List Int) (b:Int):Bool:=inR 1 4 w.length && (w.all (inR (-99) 99) && inR (-99) 99 b)
def sideW (w:List Int) (b:Int) (x:List Int):Int:=if dotW w x≥b then 1 else -1
theorem rdL2_nat (xs:List (List Int)) (i:Nat):rd_L2 xs (i:Int)=xs.getD i []:=by simp[rd_L2]
theorem rdL3_nat (xs:List (List Int)) (i:Nat):rd_L3 xs (i:Int)=xs.getD i []:=by simp[rd_L3]
theorem rdL7_nat (xs:List (List S47)) (i:Nat):rd_L7 xs (i:Int)=xs.getD i []:=by simp[rd_L7]
theorem rdT47_nat (xs:List S47) (i:Nat):rd_T47 xs (i:Int)=xs.getD i z47:=by simp[rd_T47]
theorem laws_vBig_eq (l:List Int):laws_vBig.f l=some (decide ((l.length:Int)>65536)):=rfl
theorem and255 (x:Int):0≤Go.bits .and .u64 x 255∧Go.bits .and .u64 x 255≤255:=by
 have h:(BitVec.ofInt 64 x &&& BitVec.ofInt 64 255).toNat≤255:=by
  rw[BitVec.toNat_and]; exact Nat.and_le_right
 have e:Go.bits .and .u64 x 255=IntKind.u64.wrap (((BitVec.ofInt 64 x &&& BitVec.ofInt 64 255).toNat:Nat):Int):=rfl; have w:∀ z:Int,IntKind.u64.wrap z=z%18446744073709551616:=fun z=>by simp[IntKind.wrap,IntKind.bits,IntKind.signed]
 rw[e,w]; omega
def byteL (l:List Int):Prop:=∀ x∈l,0≤x∧x≤255
theorem spec_l1Cur_next_tells (l:List Int) (p s:Int) (hp:0≤p) (hb:byteL l):∃ v t,spec_l1Cur_next.f l p s=some (v,wrap64 (p+1),t)∧0≤v∧v≤255:=by
 unfold spec_l1Cur_next.f; by_cases c:p<(l.length:Int)
 · have hx:0≤rd l p∧rd l p≤255:=by
    have h1:p.toNat<l.length:=by omega
    simp only[rd]; exact hb _ (getD_mem h1 0)
   rw[if_pos c,if_pos hp]; split
   · refine ⟨_,_,rfl,?_⟩; rw[wrap_id (by omega) (by omega)];exact hx
   · refine ⟨_,_,rfl,?_⟩; rw[wrap_id (by have:=and255 (IntKind.u64.wrap ((IntKind.u64.wrap ((IntKind.u64.wrap (s*6364136223846793005))+(IntKind.u64.wrap (wrap64 (rd l p)))))+462197) / 1099511627776);omega) (by have:=and255 (IntKind.u64.wrap ((IntKind.u64.wrap ((IntKind.u64.wrap (s*6364136223846793005))+(IntKind.u64.wrap (wrap64 (rd l p)))))+462197) / 1099511627776);omega)]; exact and255 _
 · rw[if_neg c]; split
   · exact ⟨0,_,rfl,by omega,by omega⟩
   · refine ⟨_,_,rfl,?_⟩; rw[wrap_id (by have:=and255 (IntKind.u64.wrap ((IntKind.u64.wrap (IntKind.u64.wrap (s*6364136223846793005)))+462197) / 1099511627776);omega) (by have:=and255 (IntKind.u64.wrap ((IntKind.u64.wrap (IntKind.u64.wrap (s*6364136223846793005)))+462197) / 1099511627776);omega)]; exact and255 _
theorem tmod_in (x a:Int) (hx:0≤x) (ha:1≤a):0≤Int.tmod x a∧Int.tmod x a<a:=⟨Int.tmod_nonneg _ hx,Int.tmod_lt_of_pos _ (by omega)⟩
theorem spec_l1Cur_pick_tells (l:List Int) (p s a:Int) (hp:0≤p) (hp2:p≤9223372036854775800) (ha:1≤a) (hb:byteL l):∃ v q t,spec_l1Cur_pick.f l p s a=some (v,q,t)∧0≤v∧v<a∧p≤q∧q≤p+2:=by
 unfold spec_l1Cur_pick.f; by_cases c:a≤1
 · rw[if_pos c]; exact ⟨0,p,s,rfl,by omega,by omega,by omega,by omega⟩
 · rw[if_neg c]; obtain ⟨v,t,e,h0,h1⟩:=spec_l1Cur_next_tells l p s hp hb; rw[e,Option.bind_some,wrap_id (by omega) (by omega)]; by_cases c2:a>200
   · rw[if_pos c2]; obtain ⟨v2,t2,e2,h2,h3⟩:=spec_l1Cur_next_tells l (p+1) t (by omega) hb; simp only[e2,Option.bind_some]; rw[if_neg (by omega),wrap_id (x:=p+1+1) (by omega) (by omega),wrap_id (x:=v*256) (by omega) (by omega),wrap_id (x:=v*256+v2) (by omega) (by omega)]; exact ⟨_,_,_,rfl,(tmod_in _ _ (by omega) ha).1,(tmod_in _ _ (by omega) ha).2,by omega,by omega⟩
   · rw[if_neg c2,if_neg (by omega)]; exact ⟨_,_,_,rfl,(tmod_in _ _ h0 ha).1,(tmod_in _ _ h0 ha).2,(by show p≤p+1;omega),(by show p+1≤p+2;omega)⟩
theorem spec_l1Cur_among_tells (l:List Int) (p s:Int) (m:List Int) (hp:0≤p) (hp2:p≤9223372036854775800) (hm:1≤m.length) (hb:byteL l):∃ v q t,spec_l1Cur_among.f l p s m=some (v,q,t)∧v∈m∧p≤q∧q≤p+2:=by
 unfold spec_l1Cur_among.f; obtain ⟨v,q,t,e,h0,h1,h2,h3⟩:=spec_l1Cur_pick_tells l p s (m.length:Int) hp hp2 (by omega) hb; rw[e,Option.bind_some,if_pos h0,if_pos h1]; refine ⟨_,_,_,rfl,?_,h2,h3⟩; simp only[rd]; exact getD_mem (by omega) 0
theorem spec_l1Cur_one_tells (l:List Int) (p s a:Int) (hp:0≤p) (hp2:p≤9223372036854775800) (ha:1≤a) (hb:byteL l):∃ v q t,spec_l1Cur_one.f l p s a=some (v,q,t)∧p≤q∧q≤p+2:=by
 obtain ⟨v,q,t,e,_,_,h2,h3⟩:=spec_l1Cur_pick_tells l p s a hp hp2 ha hb; exact ⟨v==0,q,t,by simp only[spec_l1Cur_one.f,e,Option.bind_some],h2,h3⟩
theorem plane_loop (l:List Int) (hb:byteL l) (n:Nat) (hn:n≤8) (g:Int) (hg:1≤g∧g≤20) (B:Int) (hB:B≤4000000000) (d:Nat):∀ (i:Nat) (p s:Int) (w:List Int),i+d=n→w.length=i→0≤p→p≤B-2*(d:Int)→∃ w' b q t,Ev (fun k=>spec_l1Cur_plane.l0 k (n:Int) g (i:Int) l p s w 0) (w',b,q,t)∧w'.length≤n+1∧p≤q∧q≤p+2*d+10:=by
 induction d with
 | zero =>
  intro i p s w hi hw hp hp2; have c1:¬ (i:Int)<(n:Int):=by omega
  obtain ⟨v1,q1,t1,e1,a1,a2,a3,a4⟩:=spec_l1Cur_pick_tells l p s (wrap64 (wrap64 (2*g)+3)) hp (by omega) (by rw[wrap_id (x:=2*g) (by omega) (by omega),wrap_id (by omega) (by omega)];omega) hb; obtain ⟨v2,q2,t2,e2,b1,b2,b3,b4⟩:=spec_l1Cur_pick_tells l q1 t1 60 (by omega) (by omega) (by omega) hb; by_cases h0:v2=0
  · obtain ⟨v3,q3,t3,e3,_,d3,d4⟩:=spec_l1Cur_among_tells l q2 t2 [99,(-99),100,(-100),4611686018427387904] (by omega) (by omega) (by decide) hb; exact ⟨w,v3,q3,t3,Ev.step' (f:=fun _=>some (w,v3,q3,t3)) (fun k=>by simp only[spec_l1Cur_plane.l0,if_neg c1,e1,Option.bind_some,e2,if_pos h0,e3]) (Ev.now _),by omega,by omega,by omega⟩
  · by_cases h1:v2=1
    · by_cases h2:(n:Int)>0
      · obtain ⟨v4,q4,t4,e4,f1,f2,f3,f4⟩:=spec_l1Cur_pick_tells l q2 t2 (n:Int) (by omega) (by omega) (by omega) hb; obtain ⟨v5,q5,t5,e5,_,g3,g4⟩:=spec_l1Cur_among_tells l q4 t4 [99,(-99),100,(-100)] (by omega) (by omega) (by decide) hb; have c5:v4<(w.length:Int):=by omega
        exact ⟨w.set v4.toNat v5,wrap64 (wrap64 (v1-g)-1),q5,t5,Ev.step' (f:=fun _=>some (w.set v4.toNat v5,wrap64 (wrap64 (v1-g)-1),q5,t5)) (fun k=>by simp only[spec_l1Cur_plane.l0,if_neg c1,e1,Option.bind_some,e2,if_neg h0,if_pos h1,if_pos h2,e4,e5,if_pos f1,if_pos c5]) (Ev.now _),by rw[List.length_set];omega,by omega,by omega⟩
      · exact ⟨w,wrap64 (wrap64 (v1-g)-1),q2,t2,Ev.step' (f:=fun _=>some (w,wrap64 (wrap64 (v1-g)-1),q2,t2)) (fun k=>by simp only[spec_l1Cur_plane.l0,if_neg c1,e1,Option.bind_some,e2,if_neg h0,if_pos h1,if_neg h2]) (Ev.now _),by omega,by omega,by omega⟩
    · by_cases h2:v2=2
      · have c6:w.length<17592186044416:=by omega
        exact ⟨w++[1],wrap64 (wrap64 (v1-g)-1),q2,t2,Ev.step' (f:=fun _=>some (w++[1],wrap64 (wrap64 (v1-g)-1),q2,t2)) (fun k=>by simp only[spec_l1Cur_plane.l0,if_neg c1,e1,Option.bind_some,e2,if_neg h0,if_neg h1,if_pos h2,if_pos c6]) (Ev.now _),by rw[List.length_append];simp only[List.length_cons,List.length_nil];omega,by omega,by omega⟩
      · exact ⟨w,wrap64 (wrap64 (v1-g)-1),q2,t2,Ev.step' (f:=fun _=>some (w,wrap64 (wrap64 (v1-g)-1),q2,t2)) (fun k=>by simp only[spec_l1Cur_plane.l0,if_neg c1,e1,Option.bind_some,e2,if_neg h0,if_neg h1,if_neg h2]) (Ev.now _),by omega,by omega,by omega⟩
 | succ d ih =>
  intro i p s w hi hw hp hp2; have c1:(i:Int)<(n:Int):=by omega
  have c2:w.length<17592186044416:=by omega
  obtain ⟨v1,q1,t1,e1,_,_,a3,a4⟩:=spec_l1Cur_pick_tells l p s (wrap64 (wrap64 (2*g)+1)) hp (by omega) (by rw[wrap_id (x:=2*g) (by omega) (by omega),wrap_id (by omega) (by omega)];omega) hb; obtain ⟨w',b,q,t,h1,h2,h3,h4⟩:=ih (i+1) q1 t1 (w++[wrap64 (v1-g)]) (by omega) (by rw[List.length_append,hw];rfl) (by omega) (by omega); exact ⟨w',b,q,t,Ev.step' (fun k=>by simp only[spec_l1Cur_plane.l0,if_pos c1,e1,Option.bind_some,if_pos c2,wrap_succ (show i<n by omega) (show n≤9223372036854775807 by omega)]) h1,h2,by omega,by omega⟩
theorem spec_l1Cur_plane_tells (l:List Int) (p s:Int) (n:Nat) (hn:n≤8) (hp:0≤p) (hp2:p≤1000000000) (hb:byteL l):∃ w b q t,Ev (fun k=>spec_l1Cur_plane.f k l p s (n:Int)) (w,b,q,t)∧w.length≤n+1∧p≤q∧q≤p+100:=by
 obtain ⟨g,q1,t1,e1,hm,a3,a4⟩:=spec_l1Cur_among_tells l p s [1,3,5,20] hp (by omega) (by decide) hb; have hg:1≤g∧g≤20:=by
  simp only[List.mem_cons,List.not_mem_nil,or_false] at hm; omega
 obtain ⟨w,b,q,t,h1,h2,h3,h4⟩:=plane_loop l hb n hn g hg 2000000000 (by omega) n 0 q1 t1 [] (by omega) rfl (by omega) (by omega); exact ⟨w,b,q,t,Ev.congr (fun k=>by simp only[spec_l1Cur_plane.f,e1,Option.bind_some];rfl) h1,h2,by omega,by omega⟩
theorem spec_l1In_eq (x a b:Int):spec_l1In.f x a b=some (inR a b x):=in_tells a b x
theorem spec_l2Numbers_ev (l:List Int) (m:Int) (h:l.length≤maxLen):Ev (fun k=>spec_l2Numbers.f k l m) (l.all (inR (wrap64 (-m)) m)):=by
 unfold maxLen at h; rw[← range_all l (inR (wrap64 (-m)) m) 0]; refine ev_all (L:=fun i k=>spec_l2Numbers.l0 k l m i) (fun i hi hp=>To.step fun k => ?_) (fun i hi hp=>Ev.step' (f:=fun _=>some false) (fun k => ?_) (Ev.now _)) (Ev.step' (f:=fun _=>some true) (fun k => ?_) (Ev.now _))
 · have c1:(i:Int)<(l.length:Int):=by omega
   have c0:0≤(i:Int):=by omega
   simp only[spec_l2Numbers.l0,if_pos c1,if_pos c0,spec_l1In_eq,rd_nat,hp,Option.bind_some,if_true,wrap_succ hi h]
 · have c1:(i:Int)<(l.length:Int):=by omega
   have c0:0≤(i:Int):=by omega
   simp only[spec_l2Numbers.l0,if_pos c1,if_pos c0,spec_l1In_eq,rd_nat,hp,Option.bind_some,Bool.false_eq_true,if_false]
 · simp only[spec_l2Numbers.l0,if_neg (Int.lt_irrefl _)]
theorem spec_l2Plane_ev (l:List Int) (b:Int) (h:l.length≤maxLen):Ev (fun k=>spec_l2Plane.f k l b) (planeB l b):=by
 have e:∀ k,spec_l2Plane.f k l b=if inR 1 4 l.length=true then (spec_l2Numbers.f k l 99).bind (fun t=>if t=true then some (inR (-99) 99 b) else some false) else some false:=fun k=>by
  simp only[spec_l2Plane.f,spec_l1In_eq,Option.bind_some]
 refine Ev.congr e ?_; unfold planeB; cases inR 1 4 l.length with
 | false=>exact Ev.now _
 | true =>
  simp only[if_true,Bool.true_and]; refine Ev.bind (spec_l2Numbers_ev l 99 h) ?_; rw[show wrap64 (-99) = -99 from wrap_id (by omega) (by omega)]; cases l.all (inR (-99) 99) with
  | false=>exact Ev.now _
  | true=>exact Ev.now _
theorem spec_l2Dot_ev (a b:List Int) (h:a.length≤maxLen) (hb:a.length≤b.length):Ev (fun k=>spec_l2Dot.f k a b) (dotW a b):=by
 unfold maxLen at h; have hf:=to_fold (L:=fun i (s:Int) k=>spec_l2Dot.l0 k a b s i) (n:=a.length) (f:=fun i s=>wrap64 (s+wrap64 (a.getD i 0*b.getD i 0))) (fun _ _=>True) (fun i s hi _=>⟨To.step fun k => ?_,trivial⟩) 0 trivial
 · refine hf.1 _ (Ev.step' (f:=fun _=>some _) (fun k => ?_) (Ev.now _)); simp only[spec_l2Dot.l0,if_neg (Int.lt_irrefl _)];rfl
 · have c1:(i:Int)<(a.length:Int):=by omega
   have c2:(i:Int)<(b.length:Int):=by omega
   have c3:0≤(i:Int):=by omega
   simp only[spec_l2Dot.l0,if_pos c1,if_pos c2,if_pos c3,rd_nat,wrap_succ hi h]
theorem spec_l2Side_ev (w:List Int) (b:Int) (x:List Int) (hw:w.length≤maxLen) (hx:w.length≤x.length):Ev (fun k=>spec_l2Side.f k w b x) (sideW w b x):=by
 refine Ev.bind (spec_l2Dot_ev w x hw hx) ?_; unfold sideW; by_cases c:dotW w x≥b
 · simp only[if_pos c];exact Ev.now _
 · simp only[if_neg c];exact Ev.now _
def bitPt (d:Nat) (k:Int):List Int:=(List.range d).map fun (i:Nat)=>Go.bits .and .i64 (shr .i64 k (i:Int)) 1
theorem bitPt_len (d:Nat) (k:Int):(bitPt d k).length=d:=by simp[bitPt]
theorem spec_l2BitPoint_ev (d:Nat) (k:Int) (hd:d≤1000):Ev (fun r=>spec_l2BitPoint.f r (d:Int) k) (bitPt d k):=by
 have hf:=to_fold (L:=fun j (t:List Int) r=>spec_l2BitPoint.l0 r (d:Int) k t j) (n:=d) (f:=fun j t=>t++[Go.bits .and .i64 (shr .i64 k (j:Int)) 1]) (fun j t=>t.length=j) (fun j t hj ht=>⟨To.step fun r => ?_,by simp[ht]⟩) [] rfl
 · refine hf.1 _ (Ev.step' (f:=fun _=>some (bitPt d k)) (fun r => ?_) (Ev.now _)); rw[fold_append,List.nil_append]; simp only[spec_l2BitPoint.l0,if_neg (Int.lt_irrefl _)]; rfl
 · have c1:(j:Int)<(d:Int):=by omega
   have c0:0≤(j:Int):=by omega
   have c2:t.length<17592186044416:=by omega
   simp only[spec_l2BitPoint.l0,if_pos c1,if_pos c0,if_pos c2,wrap_succ hj (by omega:d≤9223372036854775807)]
theorem shl_pow5:∀ n,n≤5→shl .i64 1 ((n:Nat):Int)=((2 ^ n:Nat):Int):=fun n h=>by
 have e:(List.range 6).all (fun n=>decide (shl .i64 1 ((n:Nat):Int)=((2 ^ n:Nat):Int)))=true:=by kernel_rfl
 exact of_decide_eq_true (List.all_eq_true.1 e n (List.mem_range.2 (by omega)))
theorem spec_l2TableOf_tells (n:Nat) (hn:n≤5) (w:List Int) (b:Int) (hw:w.length=n):∃ T,Ev (fun k=>spec_l2TableOf.f k (n:Int) w b) T∧T.length=2 ^ n:=by
 have hp:2 ^ n≤32:=by
  have:2 ^ n≤2 ^ 5:=Nat.pow_le_pow_right (by decide) hn; simpa using this
 have c0:0≤(n:Int):=by omega
 have hf:=to_fold (L:=fun i (T:List Int) k=>spec_l2TableOf.l0 k (n:Int) T i w b) (n:=2 ^ n) (f:=fun i T=>T++[wrap64 (Int.tdiv (wrap64 (sideW w b (bitPt n (i:Int))+1)) 2)]) (fun i T=>T.length=i) (fun i T hi hT=>⟨by
  have c1:(i:Int)<((2 ^ n:Nat):Int):=by omega
  have c2:T.length<17592186044416:=by omega
  refine (To.step (f:=fun k=>(spec_l2BitPoint.f k (n:Int) (i:Int)).bind fun x=>(spec_l2Side.f k w b x).bind fun u=>spec_l2TableOf.l0 k (n:Int) (T++[wrap64 (Int.tdiv (wrap64 (u+1)) 2)]) ((i+1:Nat):Int) w b) (fun k => ?_)).trans ((To.bind (spec_l2BitPoint_ev n (i:Int) (by omega))).trans (To.bind (spec_l2Side_ev w b _ (by unfold maxLen;omega) (by rw[hw];simp[bitPt])))); simp only[spec_l2TableOf.l0,if_pos c0,shl_pow5 n hn,if_pos c1,if_pos c2,wrap_succ hi (show 2 ^ n≤9223372036854775807 by omega)],by rw[List.length_append,hT];rfl⟩) [] rfl
 refine ⟨_,hf.1 _ (Ev.step' (f:=fun _=>some ((List.range (2 ^ n)).foldl (fun T (i:Nat)=>T++[wrap64 (Int.tdiv (wrap64 (sideW w b (bitPt n (i:Int))+1)) 2)]) [])) (fun k=>by simp only[spec_l2TableOf.l0,if_pos c0,shl_pow5 n hn,if_neg (Int.lt_irrefl _)]) (Ev.now _)),?_⟩; rw[fold_append]; simp
theorem table_end (l:List Int) (hb:byteL l) (T:List Int) (hT:1≤T.length∧T.length≤32) (n:Int) (p s:Int) (hp:0≤p) (hp2:p≤2000000000):∃ T' q t,Ev (fun k=>spec_l1Cur_table.j3 k T l p s) (T',q,t)∧T'.length≤33:=by
 obtain ⟨v1,q1,t1,e1,a3,a4⟩:=spec_l1Cur_one_tells l p s 40 hp (by omega) (by omega) hb; by_cases h1:v1=true
 · obtain ⟨v2,q2,t2,e2,b1,b2,b3,b4⟩:=spec_l1Cur_pick_tells l q1 t1 (T.length:Int) (by omega) (by omega) (by omega) hb; obtain ⟨v3,q3,t3,e3,_,d3,d4⟩:=spec_l1Cur_among_tells l q2 t2 [2,(-1)] (by omega) (by omega) (by decide) hb; obtain ⟨v4,q4,t4,e4,_,_⟩:=spec_l1Cur_one_tells l q3 t3 40 (by omega) (by omega) (by omega) hb; have c2:(T.set v2.toNat v3).length<17592186044416:=by rw[List.length_set];omega
   by_cases h4:v4=true
   · exact ⟨T.set v2.toNat v3++[0],q4,t4,Ev.step' (f:=fun _=>some (T.set v2.toNat v3++[0],q4,t4)) (fun k=>by simp only[spec_l1Cur_table.j3,e1,Option.bind_some,if_pos h1,e2,e3,if_pos b1,if_pos b2,e4,if_pos h4,if_pos c2]) (Ev.now _),by rw[List.length_append,List.length_set];simp only[List.length_cons,List.length_nil];omega⟩
   · exact ⟨T.set v2.toNat v3,q4,t4,Ev.step' (f:=fun _=>some (T.set v2.toNat v3,q4,t4)) (fun k=>by simp only[spec_l1Cur_table.j3,e1,Option.bind_some,if_pos h1,e2,e3,if_pos b1,if_pos b2,e4,if_neg h4]) (Ev.now _),by rw[List.length_set];omega⟩
 · obtain ⟨v4,q4,t4,e4,_,_⟩:=spec_l1Cur_one_tells l q1 t1 40 (by omega) (by omega) (by omega) hb; have c2:T.length<17592186044416:=by omega
   by_cases h4:v4=true
   · exact ⟨T++[0],q4,t4,Ev.step' (f:=fun _=>some (T++[0],q4,t4)) (fun k=>by simp only[spec_l1Cur_table.j3,e1,Option.bind_some,if_neg h1,e4,if_pos h4,if_pos c2]) (Ev.now _),by rw[List.length_append];simp only[List.length_cons,List.length_nil];omega⟩
   · exact ⟨T,q4,t4,Ev.step' (f:=fun _=>some (T,q4,t4)) (fun k=>by simp only[spec_l1Cur_table.j3,e1,Option.bind_some,if_neg h1,e4,if_neg h4]) (Ev.now _),by omega⟩
theorem table_loop (l:List Int) (hb:byteL l) (n:Nat) (hn:n≤5) (B:Int) (hB:B≤2000000000) (d:Nat):∀ (i:Nat) (p s:Int) (T:List Int),i+d=2 ^ n→T.length=i→0≤p→p≤B-2*(d:Int)→∃ T' q t,Ev (fun k=>spec_l1Cur_table.l0 k (n:Int) T (i:Int) l p s) (T',q,t)∧T'.length≤33:=by
 induction d with
 | zero =>
  intro i p s T hi hT hp hp2; have h32:2 ^ n≤32:=by
   have:2 ^ n≤2 ^ 5:=Nat.pow_le_pow_right (by decide) hn; simpa using this
  have hpos:0<2 ^ n:=Nat.two_pow_pos n; obtain ⟨T',q,t,h1,h2⟩:=table_end l hb T ⟨by omega,by omega⟩ n p s hp (by omega); have c0:0≤(n:Int):=by omega
  have c1:¬ (i:Int)<((2 ^ n:Nat):Int):=by omega
  exact ⟨T',q,t,Ev.step' (fun k=>by simp only[spec_l1Cur_table.l0,if_pos c0,shl_pow5 n hn,if_neg c1]) h1,h2⟩
 | succ d ih =>
  intro i p s T hi hT hp hp2; have h32:2 ^ n≤32:=by
   have:2 ^ n≤2 ^ 5:=Nat.pow_le_pow_right (by decide) hn; simpa using this
  obtain ⟨v1,q1,t1,e1,_,_,a3,a4⟩:=spec_l1Cur_pick_tells l p s 2 hp (by omega) (by omega) hb; have c0:0≤(n:Int):=by omega
  have c1:(i:Int)<((2 ^ n:Nat):Int):=by omega
  have c2:T.length<17592186044416:=by omega
  obtain ⟨T',q,t,h1,h2⟩:=ih (i+1) q1 t1 (T++[v1]) (by omega) (by rw[List.length_append,hT];rfl) (by omega) (by omega); exact ⟨T',q,t,Ev.step' (fun k=>by simp only[spec_l1Cur_table.l0,if_pos c0,shl_pow5 n hn,if_pos c1,e1,Option.bind_some,if_pos c2,wrap_succ (show i<2 ^ n by omega) (show 2 ^ n≤9223372036854775807 by omega)]) h1,h2⟩
theorem spec_l1Cur_table_tells (l:List Int) (hb:byteL l) (n:Nat) (hn:n≤5) (p s:Int) (hp:0≤p) (hp2:p≤100000000):∃ T q t,Ev (fun k=>spec_l1Cur_table.f k l p s (n:Int)) (T,q,t)∧T.length≤33:=by
 have h32:2 ^ n≤32:=by
  have:2 ^ n≤2 ^ 5:=Nat.pow_le_pow_right (by decide) hn; simpa using this
 have hpos:0<2 ^ n:=Nat.two_pow_pos n; obtain ⟨w,b,q1,t1,h1,hw,a3,a4⟩:=spec_l1Cur_plane_tells l p s n (by omega) hp (by omega) hb; have no:∀ (q t:Int),0≤q→q≤200000000→∃ T q' t',Ev (fun k=>spec_l1Cur_table.j1 k (n:Int) [] false l q t w b) (T,q',t')∧T.length≤33:=fun q t h0 hq=>by
  obtain ⟨T,q',t',g1,g2⟩:=table_loop l hb n hn 1500000000 (by omega) (2 ^ n) 0 q t [] (by omega) rfl h0 (by omega); exact ⟨T,q',t',Ev.step' (fun k=>by simp only[spec_l1Cur_table.j1,Bool.false_eq_true,if_false];rfl) g1,g2⟩
 have fin:∀ (T:List Int) (q t:Int),Ev (fun k=>(spec_l1Cur_plane.f k l p s (n:Int)).bind fun bt184=>(if (n:Int)>0 then ((spec_l2Plane.f k bt184.1 bt184.2.1).bind fun t191=>(if t191=true then (if (bt184.1.length:Int)=(n:Int) then ((spec_l1Cur_one.f l bt184.2.2.1 bt184.2.2.2 2).bind fun bt192=>(spec_l1Cur_table.j1 k (n:Int) [] bt192.1 l bt192.2.1 bt192.2.2 bt184.1 bt184.2.1)) else (spec_l1Cur_table.j1 k (n:Int) [] false l bt184.2.2.1 bt184.2.2.2 bt184.1 bt184.2.1)) else (spec_l1Cur_table.j1 k (n:Int) [] false l bt184.2.2.1 bt184.2.2.2 bt184.1 bt184.2.1))) else (spec_l1Cur_table.j1 k (n:Int) [] false l bt184.2.2.1 bt184.2.2.2 bt184.1 bt184.2.1))) (T,q,t)→Ev (fun k=>spec_l1Cur_table.f k l p s (n:Int)) (T,q,t):=fun T q t h=>by
  have c1:¬ (n:Int)<0:=by omega
  have c2:decide ((n:Int)>5)=false:=decide_eq_false (by omega); refine Ev.congr (f:=fun k=>spec_l1Cur_table.j0 k (n:Int) [] false l p s) (fun k=>by simp only[spec_l1Cur_table.f,Option.bind_some,if_neg c1,c2]) ?_; exact Ev.step' (fun k=>by simp only[spec_l1Cur_table.j0,Bool.false_eq_true,if_false]) h
 obtain ⟨T0,q0,t0,g1,g2⟩:=no q1 t1 (by omega) (by omega); by_cases c0:(n:Int)>0
 · cases hpl:planeB w b with
   | false =>
    refine ⟨T0,q0,t0,fin _ _ _ (Ev.bind h1 ?_),g2⟩; simp only[if_pos c0]; refine Ev.bind (spec_l2Plane_ev w b (by unfold maxLen;omega)) ?_; simp only[hpl,Bool.false_eq_true,if_false]; exact g1
   | true =>
    by_cases c3:(w.length:Int)=(n:Int)
    · obtain ⟨v2,q2,t2,e2,b3,b4⟩:=spec_l1Cur_one_tells l q1 t1 2 (by omega) (by omega) (by omega) hb; by_cases hv:v2=true
      · obtain ⟨T,hT,hl⟩:=spec_l2TableOf_tells n hn w b (by omega); obtain ⟨T',q,t,k1,k2⟩:=table_end l hb T ⟨by omega,by omega⟩ n q2 t2 (by omega) (by omega); refine ⟨T',q,t,fin _ _ _ (Ev.bind h1 ?_),k2⟩; simp only[if_pos c0]; refine Ev.bind (spec_l2Plane_ev w b (by unfold maxLen;omega)) ?_; simp only[hpl,if_true,if_pos c3,e2,Option.bind_some,hv]; exact Ev.step' (fun k=>by simp only[spec_l1Cur_table.j1,if_true];rfl) (Ev.bind hT k1)
      · obtain ⟨T,q,t,k1,k2⟩:=no q2 t2 (by omega) (by omega); refine ⟨T,q,t,fin _ _ _ (Ev.bind h1 ?_),k2⟩; simp only[if_pos c0]; refine Ev.bind (spec_l2Plane_ev w b (by unfold maxLen;omega)) ?_; simp only[hpl,if_true,if_pos c3,e2,Option.bind_some,Bool.eq_false_iff.2 hv]; exact k1
    · refine ⟨T0,q0,t0,fin _ _ _ (Ev.bind h1 ?_),g2⟩; simp only[if_pos c0]; refine Ev.bind (spec_l2Plane_ev w b (by unfold maxLen;omega)) ?_; simp only[hpl,if_true,if_neg c3]; exact g1
 · refine ⟨T0,q0,t0,fin _ _ _ (Ev.bind h1 ?_),g2⟩; simp only[if_neg c0]; exact g1
theorem spec_DrawFindPair_tells (l:List Int) (hb:byteL l):∃ (n:Nat) (T:List Int),Ev (fun k=>spec_DrawFindPair.f k l) ((n:Int),T)∧n≤4∧T.length≤33:=by
 obtain ⟨v1,q1,t1,e1,a1,a2,a3,a4⟩:=spec_l1Cur_pick_tells l 0 0 24 (by omega) (by omega) (by omega) hb; have ht:Int.tdiv v1 11=v1 / 11:=Int.tdiv_eq_ediv_of_nonneg a1; have hj:spec_DrawFindPair.cut v1=5+v1 / 11:=by
  unfold spec_DrawFindPair.cut; rw[ht,wrap_id (x:=v1 / 11) (by omega) (by omega),wrap_id (by omega) (by omega)]
 have hc:0≤spec_DrawFindPair.cut v1∧spec_DrawFindPair.cut v1≤7:=by rw[hj];omega
 obtain ⟨v2,q2,t2,e2,hm,b3,b4⟩:=spec_l1Cur_among_tells l q1 t1 (([2,3,1,2,3,0,4]:List Int).take (spec_DrawFindPair.cut v1).toNat) (by omega) (by omega) (by rw[List.length_take];simp only[List.length_cons,List.length_nil];omega) hb; have hm2:=List.mem_of_mem_take hm; have hn:0≤v2∧v2≤4:=by
  simp only[List.mem_cons,List.not_mem_nil,or_false] at hm2; omega
 obtain ⟨n,rfl⟩:=Int.eq_ofNat_of_zero_le hn.1; obtain ⟨T,q,t,h1,h2⟩:=spec_l1Cur_table_tells l hb n (by omega) q2 t2 (by omega) (by omega); refine ⟨n,T,Ev.congr (f:=fun k=>(spec_l1Cur_table.f k l q2 t2 (n:Int)).bind fun e=>some ((n:Int),e.1)) (fun k => ?_) (Ev.bind h1 (Ev.now _)),by omega,h2⟩; simp only[spec_DrawFindPair.f,e1,Option.bind_some,if_pos hc,e2]
theorem impl_within_eq (x a b:Int):impl_within.f x a b=some (inR a b x):=in_tells a b x
theorem impl_allWithin_ev (l:List Int) (a b:Int) (h:l.length≤maxLen):Ev (fun k=>impl_allWithin.f k l a b) (l.all (inR a b)):=by
 unfold maxLen at h; rw[← range_all l (inR a b) 0]; refine ev_all (L:=fun i k=>impl_allWithin.l0 k a b l (l.length:Int) i) (fun i hi hp=>To.step fun k => ?_) (fun i hi hp=>Ev.step' (f:=fun _=>some false) (fun k => ?_) (Ev.now _)) (Ev.step' (f:=fun _=>some true) (fun k => ?_) (Ev.now _))
 · have c1:(i:Int)<(l.length:Int):=by omega
   have c0:0≤(i:Int):=by omega
   simp only[impl_allWithin.l0,if_pos c1,if_pos c0,impl_within_eq,rd_nat,hp,Option.bind_some,if_true,wrap_succ hi h]
 · have c1:(i:Int)<(l.length:Int):=by omega
   have c0:0≤(i:Int):=by omega
   simp only[impl_allWithin.l0,if_pos c1,if_pos c0,impl_within_eq,rd_nat,hp,Option.bind_some,Bool.false_eq_true,if_false]
 · simp only[impl_allWithin.l0,if_neg (Int.lt_irrefl _)]
def tableB (a:Int) (l:List Int):Bool:=decide ((l.length:Int)=shl .i64 1 a) && l.all (inR 0 1)
theorem impl_isTable_ev4 (a:Int) (l:List Int) (h:l.length≤maxLen) (ha:0≤a∧a≤4):Ev (fun k=>impl_isTable.f k a l) (tableB a l):=by
 have e:inR 0 4 a=true:=(inR_iff 0 4 a).2 (by omega); have c:0≤a:=by omega
 unfold tableB; by_cases q:(l.length:Int)=shl .i64 1 a
 · rw[decide_eq_true q,Bool.true_and]; refine Ev.congr (g:=fun k=>impl_isTable.f k a l) (f:=fun k=>(impl_allWithin.f k l 0 1).bind fun t=>some t) (fun k=>by simp only[impl_isTable.f,impl_within_eq,e,Option.bind_some,if_true,if_pos c,if_pos q]) ?_; exact Ev.bind (impl_allWithin_ev l 0 1 h) (Ev.now _)
 · rw[decide_eq_false q,Bool.false_and]; exact ev_const fun k=>by simp only[impl_isTable.f,impl_within_eq,e,Option.bind_some,if_true,if_pos c,if_neg q]
theorem impl_isTable_ev (a:Int) (l:List Int) (h:l.length≤maxLen) (ha:1≤a∧a≤3):Ev (fun k=>impl_isTable.f k a l) (tableB a l):=impl_isTable_ev4 a l h (by omega)
theorem impl_product_ev (a b:List Int) (h:a.length≤maxLen) (hb:a.length≤b.length):Ev (fun k=>impl_product.f k a b) (dotW a b):=by
 unfold maxLen at h; have hf:=to_fold (L:=fun i (s:Int) k=>impl_product.l0 k b s a (a.length:Int) i) (n:=a.length) (f:=fun i s=>wrap64 (s+wrap64 (a.getD i 0*b.getD i 0))) (fun _ _=>True) (fun i s hi _=>⟨To.step fun k => ?_,trivial⟩) 0 trivial
 · refine hf.1 _ (Ev.step' (f:=fun _=>some _) (fun k => ?_) (Ev.now _)); simp only[impl_product.l0,if_neg (Int.lt_irrefl _)];rfl
 · have c1:(i:Int)<(a.length:Int):=by omega
   have c2:(i:Int)<(b.length:Int):=by omega
   have c3:0≤(i:Int):=by omega
   simp only[impl_product.l0,if_pos c1,if_pos c2,if_pos c3,rd_nat,wrap_succ hi h]
theorem impl_bitPoint_ev (d:Nat) (k:Int) (hd:d≤1000):Ev (fun r=>impl_bitPoint.f r (d:Int) k) (bitPt d k):=by
 have hf:=to_fold (L:=fun j (t:List Int) r=>impl_bitPoint.l0 r k t (d:Int) j) (n:=d) (f:=fun j t=>t++[Go.bits .and .i64 (shr .i64 k (j:Int)) 1]) (fun j t=>t.length=j) (fun j t hj ht=>⟨To.step fun r => ?_,by simp[ht]⟩) [] rfl
 · refine hf.1 _ (Ev.step' (f:=fun _=>some (bitPt d k)) (fun r => ?_) (Ev.now _)); rw[fold_append,List.nil_append]; simp only[impl_bitPoint.l0,if_neg (Int.lt_irrefl _)]; rfl
 · have c1:(j:Int)<(d:Int):=by omega
   have c0:0≤(j:Int):=by omega
   have c2:t.length<17592186044416:=by omega
   simp only[impl_bitPoint.l0,if_pos c1,if_pos c0,if_pos c2,wrap_succ hj (by omega:d≤9223372036854775807)]
def Ev2 {α:Type} (g:Nat→Nat→Option α) (r:α):Prop:=∃ K,∀ j k,K≤j→K≤k→g j k=some r
theorem Ev2.one {α:Type} {g:Nat→Nat→Option α} {r:α} (h:Ev2 g r):Ev (fun k=>g k k) r:=by
 obtain ⟨K,h⟩:=h; exact ⟨K,fun k hk=>h k k hk hk⟩
theorem Ev2.step {α:Type} {g f:Nat→Nat→Option α} {r:α} (h:∀ j k,g j (k+1)=f j k) (e:Ev2 f r):Ev2 g r:=by
 obtain ⟨K,e⟩:=e; refine ⟨K+1,fun j k hj hk => ?_⟩; obtain ⟨k,rfl⟩:∃ k',k=k' + 1:=⟨k-1,by omega⟩; rw[h];exact e j k (by omega) (by omega)
theorem Ev2.bind {α β:Type} {g:Nat→Option α} {f:Nat→Nat→α→Option β} {a:α} {r:β} (h:Ev g a) (e:Ev2 (fun j k=>f j k a) r):Ev2 (fun j k=>(g j).bind (f j k)) r:=by
 obtain ⟨K,h⟩:=h; obtain ⟨K',e⟩:=e; refine ⟨max K K',fun j k hj hk => ?_⟩; show (g j).bind (f j k)=some r
 rw[h j (by omega),Option.bind_some]; exact e j k (by omega) (by omega)
def allW (m:Nat):Nat→List (List Int)
 | 0=>[[]]
 | d+1=>(List.range (2*m+1)).flatMap fun (i:Nat)=>(allW m d).map (((i:Int)-m) :: ·)
theorem allW_len (m:Nat):∀ (d:Nat) (t:List Int),t∈allW m d→t.length=d
 | 0,t,h=>by rw[List.mem_singleton.1 h];rfl
 | d+1,t,h=>by
  obtain ⟨i,_,h⟩:=List.mem_flatMap.1 h; obtain ⟨u,hu,rfl⟩:=List.mem_map.1 h; rw[List.length_cons,allW_len m d u hu]
theorem odometer {σ:Type} {n m:Nat} (hn:n≤1000) (hm:m≤1000) (F:Nat→List Int→σ→Option σ) (g:List Int→σ→σ) (Inv:List Int→σ→Prop) (hF:∀ w s,w.length=n→Inv w s→Ev (fun j=>F j w s) (g w s)) :
 ∀ (d:Nat) (pre:List Int) (s:σ) (r:σ),pre.length+d=n→(∀ (L:List (List Int)) (w:List Int) (M:List (List Int)),(allW m d).map (pre ++ ·)=L++w::M→Inv w (L.foldl (fun s w=>g w s) s)) →
 Ev2 (fun j k=>Go.Proofs.Ytkbahcbankfffaa.Sm.impl_smallWeights.l2 (F j) k (n:Int) (m:Int) (pre++List.replicate d (-(m:Int))) ((pre.length:Int)-1) (((allW m d).map (pre ++ ·)).foldl (fun s w=>g w s) s)) r →
 Ev2 (fun j k=>Go.Proofs.Ytkbahcbankfffaa.Sm.impl_smallWeights.l1 (F j) k (n:Int) (m:Int) (pre++List.replicate d (-(m:Int))) s) r
 | 0,pre,s,r,hl,hI,h=>by
  have e:pre++List.replicate 0 (-(m:Int))=pre:=by simp
  have hw:wrap64 ((n:Int)-1)=(pre.length:Int)-1:=by unfold wrap64;omega
  rw[e] at h ⊢; have h0:(allW m 0).map (pre ++ ·)=[pre]:=by simp[allW]
  rw[h0] at h; refine Ev2.step (f:=fun j k=>(F j pre s).bind fun s=>Go.Proofs.Ytkbahcbankfffaa.Sm.impl_smallWeights.l2 (F j) k (n:Int) (m:Int) pre ((pre.length:Int)-1) s) (fun j k=>by simp only[Go.Proofs.Ytkbahcbankfffaa.Sm.impl_smallWeights.l1,hw]) ?_; exact Ev2.bind (hF pre s (by omega) (hI [] pre [] (by rw[h0];rfl))) h
 | d+1,pre,s,r,hl,hI,h=>by
  have key:∀ (c i:Nat) (s:σ),i+c=2*m→(∀ (L:List (List Int)) (w:List Int) (M:List (List Int)),((List.range' i (c+1)).flatMap fun (i:Nat)=>((allW m d).map (((i:Int)-m) :: ·)).map (pre ++ ·))=L++w::M→Inv w (L.foldl (fun s w=>g w s) s)) →
   Ev2 (fun j k=>Go.Proofs.Ytkbahcbankfffaa.Sm.impl_smallWeights.l2 (F j) k (n:Int) (m:Int) (pre++List.replicate (d+1) (-(m:Int))) ((pre.length:Int)-1) (((List.range' i (c+1)).flatMap fun (i:Nat)=>((allW m d).map (((i:Int)-m) :: ·)).map (pre ++ ·)).foldl (fun s w=>g w s) s)) r →
   Ev2 (fun j k=>Go.Proofs.Ytkbahcbankfffaa.Sm.impl_smallWeights.l1 (F j) k (n:Int) (m:Int) ((pre++[(i:Int)-m])++List.replicate d (-(m:Int))) s) r:=by
   intro c; induction c with
   | zero =>
    intro i s hi hI h; have e1:(List.range' i (0+1)).flatMap (fun (i:Nat)=>((allW m d).map (((i:Int)-m) :: ·)).map (pre ++ ·))=(allW m d).map ((pre++[(i:Int)-m]) ++ ·):=by simp[Function.comp_def]
    rw[e1] at hI h; refine odometer hn hm F g Inv hF d (pre++[(i:Int)-m]) s r (by rw[List.length_append,List.length_singleton];omega) hI ?_; generalize ((allW m d).map ((pre++[(i:Int)-m]) ++ ·)).foldl (fun s w=>g w s) s=S at h ⊢; have hq:((pre++[(i:Int)-m]).length:Int)-1=(pre.length:Int):=by rw[List.length_append,List.length_singleton];omega
    rw[hq]; have c0:(pre.length:Int)≥0:=by omega
    have c0' : 0≤(pre.length:Int):=c0; have ea:(pre++[(i:Int)-m])++List.replicate d (-(m:Int))=pre++((i:Int)-m)::List.replicate d (-(m:Int)):=by simp
    rw[ea]; have c1:(pre.length:Int)<((pre++((i:Int)-m)::List.replicate d (-(m:Int))).length:Int):=by simp only[List.length_append,List.length_cons];omega
    have hr:rd (pre++((i:Int)-m)::List.replicate d (-(m:Int))) (pre.length:Int)=(m:Int):=by rw[rd_nat,getD_mid];omega
    have hs:(pre++((i:Int)-m)::List.replicate d (-(m:Int))).set ((pre.length:Int)).toNat (wrap64 (-(m:Int)))=pre++List.replicate (d+1) (-(m:Int)):=by
     rw[Int.toNat_natCast,set_mid,show wrap64 (-(m:Int)) = -(m:Int) from by unfold wrap64;omega,List.replicate_succ];simp
    have hw:wrap64 ((pre.length:Int)-1)=(pre.length:Int)-1:=by unfold wrap64;omega
    exact Ev2.step (fun j k=>by simp only[Go.Proofs.Ytkbahcbankfffaa.Sm.impl_smallWeights.l2,if_pos c0,if_pos c0',if_pos c1,if_pos hr,hs,hw]) h
   | succ c ih =>
    intro i s hi hI h; have e1:(List.range' i (c+1+1)).flatMap (fun (i:Nat)=>((allW m d).map (((i:Int)-m) :: ·)).map (pre ++ ·))=(allW m d).map ((pre++[(i:Int)-m]) ++ ·)++(List.range' (i+1) (c+1)).flatMap (fun (i:Nat)=>((allW m d).map (((i:Int)-m) :: ·)).map (pre ++ ·)):=by
     rw[List.range'_succ,List.flatMap_cons];congr 1;simp[Function.comp_def]
    rw[e1] at hI h; rw[List.foldl_append] at h; refine odometer hn hm F g Inv hF d (pre++[(i:Int)-m]) s r (by rw[List.length_append,List.length_singleton];omega) (fun L w M e=>hI L w _ (by rw[e,List.append_assoc,List.cons_append])) ?_; have hI' : ∀ (L:List (List Int)) (w:List Int) (M:List (List Int)),((List.range' (i+1) (c+1)).flatMap fun (i:Nat)=>((allW m d).map (((i:Int)-m) :: ·)).map (pre ++ ·))=L++w::M→Inv w (L.foldl (fun s w=>g w s) (((allW m d).map ((pre++[(i:Int)-m]) ++ ·)).foldl (fun s w=>g w s) s)):=by
     intro L w M e; have:=hI ((allW m d).map ((pre++[(i:Int)-m]) ++ ·)++L) w M (by rw[e];simp); rwa [List.foldl_append] at this
    generalize ((allW m d).map ((pre++[(i:Int)-m]) ++ ·)).foldl (fun s w=>g w s) s=S at h hI' ⊢; have hq:((pre++[(i:Int)-m]).length:Int)-1=(pre.length:Int):=by rw[List.length_append,List.length_singleton];omega
    rw[hq]; have c0:(pre.length:Int)≥0:=by omega
    have c0' : 0≤(pre.length:Int):=c0; have cn:¬ (pre.length:Int)<0:=by omega
    have ea:(pre++[(i:Int)-m])++List.replicate d (-(m:Int))=pre++((i:Int)-m)::List.replicate d (-(m:Int)):=by simp
    rw[ea]; have c1:(pre.length:Int)<((pre++((i:Int)-m)::List.replicate d (-(m:Int))).length:Int):=by simp only[List.length_append,List.length_cons];omega
    have hr:¬ (i:Int)-m=(m:Int):=by omega
    have hr2:rd (pre++((i:Int)-m)::List.replicate d (-(m:Int))) (pre.length:Int)=(i:Int)-m:=by rw[rd_nat,getD_mid]
    have hs:(pre++((i:Int)-m)::List.replicate d (-(m:Int))).set ((pre.length:Int)).toNat (wrap64 ((i:Int)-m+1))=(pre++[((i+1:Nat):Int)-m])++List.replicate d (-(m:Int)):=by
     rw[Int.toNat_natCast,set_mid,show wrap64 ((i:Int)-m+1)=((i+1:Nat):Int)-m from by unfold wrap64;omega]
    exact Ev2.step (fun j k=>by simp only[Go.Proofs.Ytkbahcbankfffaa.Sm.impl_smallWeights.l2,if_pos c0,if_pos c0',if_pos c1,hr2,if_neg hr,if_neg cn,hs]) (ih (i+1) S (by omega) hI' h)
  have hr:(allW m (d+1)).map (pre ++ ·)=(List.range' 0 (2*m+1)).flatMap fun (i:Nat)=>((allW m d).map (((i:Int)-m) :: ·)).map (pre ++ ·):=by
   rw[← List.range_eq_range'];simp only[allW,List.map_flatMap]
  rw[hr] at hI h; have:=key (2*m) 0 s (by omega) hI h; have e2:(pre++[((0:Nat):Int)-m])++List.replicate d (-(m:Int))=pre++List.replicate (d+1) (-(m:Int)):=by rw[List.replicate_succ];simp
  rw[e2] at this; exact this
theorem impl_smallWeights_ev {σ:Type} {n m:Nat} (hn:n≤1000) (hm:m≤1000) (F:Nat→List Int→σ→Option σ) (g:List Int→σ→σ) (Inv:List Int→σ→Prop) (hF:∀ w s,w.length=n→Inv w s→Ev (fun j=>F j w s) (g w s)) (s:σ)
 (hI:∀ (L:List (List Int)) (w:List Int) (M:List (List Int)),allW m n=L++w::M→Inv w (L.foldl (fun s w=>g w s) s)) :
 Ev (fun k=>Go.Proofs.Ytkbahcbankfffaa.Sm.impl_smallWeights.f (F k) k (n:Int) (m:Int) s) ((allW m n).foldl (fun s w=>g w s) s):=by
 have hz:(allW m n).map (([]:List Int) ++ ·)=allW m n:=by simp
 have h1:Ev2 (fun j k=>Go.Proofs.Ytkbahcbankfffaa.Sm.impl_smallWeights.l1 (F j) k (n:Int) (m:Int) (List.replicate n (-(m:Int))) s) ((allW m n).foldl (fun s w=>g w s) s):=by
  have:=odometer hn hm F g Inv hF n [] s ((allW m n).foldl (fun s w=>g w s) s) (by simp) (by rw[hz];exact hI) (by
   rw[hz]; exact ⟨1,fun j k _ hk=>by
    obtain ⟨k,rfl⟩:∃ k',k=k' + 1:=⟨k-1,by omega⟩; have c:¬ (((([]:List Int).length:Nat):Int)-1≥0):=by decide
    have c' : (((([]:List Int).length:Nat):Int)-1<0):=by decide
    simp only[Go.Proofs.Ytkbahcbankfffaa.Sm.impl_smallWeights.l2,if_neg c,if_pos c']⟩)
  simpa using this
 have hw:wrap64 (-(m:Int)) = -(m:Int):=by unfold wrap64;omega
 have fill:∀ (c i:Nat),i+c=n→Ev2 (fun j k=>Go.Proofs.Ytkbahcbankfffaa.Sm.impl_smallWeights.l0 (F j) k (n:Int) (m:Int) (List.replicate i (-(m:Int))++List.replicate c 0) (n:Int) (i:Int) s) ((allW m n).foldl (fun s w=>g w s) s):=by
  intro c; induction c with
  | zero =>
   intro i hi; have c:¬ (i:Int)<(n:Int):=by omega
   obtain rfl:i=n:=by omega
   exact Ev2.step (fun j k=>by simp only[Go.Proofs.Ytkbahcbankfffaa.Sm.impl_smallWeights.l0,if_neg c,List.replicate_zero,List.append_nil]) h1
  | succ c ih =>
   intro i hi; have c1:(i:Int)<(n:Int):=by omega
   have c0:0≤(i:Int):=by omega
   have c2:(i:Int)<((List.replicate i (-(m:Int))++List.replicate (c+1) 0).length:Int):=by simp only[List.length_append,List.length_replicate];omega
   have ws:wrap64 ((i:Int)+1)=((i+1:Nat):Int):=by unfold wrap64;omega
   have hs:(List.replicate i (-(m:Int))++List.replicate (c+1) 0).set ((i:Int)).toNat (-(m:Int))=List.replicate (i+1) (-(m:Int))++List.replicate c 0:=by
    have:=set_mid (List.replicate i (-(m:Int))) 0 (-(m:Int)) (List.replicate c 0); rw[List.length_replicate] at this; rw[Int.toNat_natCast,List.replicate_succ,this,List.replicate_succ']
   exact Ev2.step (fun j k=>by simp only[Go.Proofs.Ytkbahcbankfffaa.Sm.impl_smallWeights.l0,if_pos c1,if_pos c0,if_pos c2,hw,hs,ws]) (ih (i+1) (by omega))
 have h0:=(fill n 0 (by omega)).one; have c0:0≤(n:Int):=by omega
 have c1:n≤35184372088832:=by omega
 refine Ev.congr (fun k => ?_) h0; simp only[Go.Proofs.Ytkbahcbankfffaa.Sm.impl_smallWeights.f,if_pos c0,Int.toNat_natCast,if_pos c1,Option.bind_some,List.length_replicate,List.replicate_zero,List.nil_append]; rfl
def prodL (n:Nat) (w:List Int):List Int:=(List.range (2 ^ n)).map fun (c:Nat)=>dotW w (bitPt n (c:Int))
theorem shl_small {n:Nat} (h:n≤4):shl .i64 1 (n:Int)=((2 ^ n:Nat):Int):=by
 match n,h with
 | 0,_=>decide +kernel
 | 1,_=>decide +kernel
 | 2,_=>decide +kernel
 | 3,_=>decide +kernel
 | 4,_=>decide +kernel
 | n+5,h=>omega
theorem impl_productsOf_ev {n:Nat} (hn:n≤4) (w:List Int) (hw:w.length=n):Ev (fun k=>impl_productsOf.f k (n:Int) w) (prodL n w):=by
 have hp:2 ^ n≤2 ^ 4:=Nat.pow_le_pow_right (by omega) hn; have hf:=to_fold (L:=fun c (s:List Int) k=>impl_productsOf.l0 k (n:Int) w s ((2 ^ n:Nat):Int) c) (n:=2 ^ n) (f:=fun c s=>s++[dotW w (bitPt n (c:Int))]) (fun c s=>s.length=c) (fun c s hc hs=>⟨?_,by simp[hs]⟩) [] rfl
 · have e:(List.range (2 ^ n)).foldl (fun s (c:Nat)=>s++[dotW w (bitPt n (c:Int))]) []=prodL n w:=by rw[fold_append,List.nil_append];rfl
   have h1:Ev (fun k=>impl_productsOf.l0 k (n:Int) w ((List.range (2 ^ n)).foldl (fun s (c:Nat)=>s++[dotW w (bitPt n (c:Int))]) []) ((2 ^ n:Nat):Int) ((2 ^ n:Nat):Int)) (prodL n w):=by
    rw[e]; exact Ev.step' (f:=fun _=>some (prodL n w)) (fun k=>by simp only[impl_productsOf.l0,if_neg (Int.lt_irrefl _)]) (Ev.now _)
   exact Ev.congr (fun k=>by simp only[impl_productsOf.f,if_pos (Int.natCast_nonneg n),shl_small hn]) (hf.1 _ h1)
 · have c1:(c:Int)<((2 ^ n:Nat):Int):=Int.ofNat_lt.2 hc; have c2:s.length<17592186044416:=by omega
   have ws:=wrap_succ hc (by omega:2 ^ n≤9223372036854775807); refine To.trans (To.step (f:=fun k=>(impl_bitPoint.f k (n:Int) (c:Int)).bind fun t=>(impl_product.f k w t).bind fun u=>impl_productsOf.l0 k (n:Int) w (s++[u]) ((2 ^ n:Nat):Int) ((c+1:Nat):Int)) (fun k=>by simp only[impl_productsOf.l0,if_pos c1,if_pos c2,ws])) ?_; exact To.trans (To.bind (impl_bitPoint_ev n (c:Int) (by omega))) (To.bind (impl_product_ev w _ (by unfold maxLen;omega) (by rw[bitPt_len];omega)))
theorem prodL_len (n:Nat) (w:List Int):(prodL n w).length=2 ^ n:=by simp[prodL]
def bitAt (i b:Nat):Int:=Go.bits .and .i64 (shr .i64 (i:Int) (b:Int)) 1
def tradeB (n:Nat) (t:List Int) (i j k l:Nat):Bool:=decide (wrap64 (t.getD i 0+t.getD j 0)=2) && (decide (wrap64 (t.getD k 0+t.getD l 0)=0) && (List.range n).all fun (b:Nat)=>decide (wrap64 (bitAt i b+bitAt j b)=wrap64 (bitAt k b+bitAt l b)))
theorem spec_l5Trade_ev {n:Nat} (t:List Int) (hn:n≤1000) (hN:t.length≤1000000) {i j k l:Nat} (hij:i≤j) (hkl:k≤l) (hj:j<t.length) (hl:l<t.length) :
 Ev (fun r=>spec_l5Trade.f r (n:Int) t [(i:Int),(j:Int),(k:Int),(l:Int)]) (tradeB n t i j k l):=by
 have hw:wrap64 ((t.length:Int)-1)=(t.length:Int)-1:=by unfold wrap64;omega
 have hf:=to_fold (L:=fun c (_:Unit) r=>spec_l5Trade.l0 r (n:Int) t [(i:Int),(j:Int),(k:Int),(l:Int)] c) (n:=4) (f:=fun _ _=>()) (fun _ _=>True) (fun q s hq _=>⟨To.step fun r => ?_,trivial⟩) () trivial
 · have r0:rd [(i:Int),(j:Int),(k:Int),(l:Int)] 0=i:=rfl; have r1:rd [(i:Int),(j:Int),(k:Int),(l:Int)] 1=j:=rfl; have r2:rd [(i:Int),(j:Int),(k:Int),(l:Int)] 2=k:=rfl; have r3:rd [(i:Int),(j:Int),(k:Int),(l:Int)] 3=l:=rfl; have bits:Ev (fun r=>spec_l5Trade.l1 r (n:Int) [(i:Int),(j:Int),(k:Int),(l:Int)] 0) ((List.range n).all fun (b:Nat)=>decide (wrap64 (bitAt i b+bitAt j b)=wrap64 (bitAt k b+bitAt l b))):=by
    refine ev_all (L:=fun b r=>spec_l5Trade.l1 r (n:Int) [(i:Int),(j:Int),(k:Int),(l:Int)] b) (n:=n) (p:=fun (b:Nat)=>decide (wrap64 (bitAt i b+bitAt j b)=wrap64 (bitAt k b+bitAt l b))) (fun b hb h=>To.step fun r => ?_) (fun b hb h=>Ev.step' (f:=fun _=>some false) (fun r => ?_) (Ev.now _)) (Ev.step' (f:=fun _=>some true) (fun r=>by simp only[spec_l5Trade.l1,if_neg (Int.lt_irrefl _)]) (Ev.now _))
    · have c1:(b:Int)<(n:Int):=by omega
      have c0:0≤(b:Int):=by omega
      have hd:=of_decide_eq_true h; have ws:=wrap_succ hb (by omega:n≤9223372036854775807); have c4:((0:Int)<(([(i:Int),(j:Int),(k:Int),(l:Int)].length:Nat):Int))∧((1:Int)<(([(i:Int),(j:Int),(k:Int),(l:Int)].length:Nat):Int))∧((2:Int)<(([(i:Int),(j:Int),(k:Int),(l:Int)].length:Nat):Int))∧((3:Int)<(([(i:Int),(j:Int),(k:Int),(l:Int)].length:Nat):Int)):=by simp
      simp only[spec_l5Trade.l1,if_pos c1,if_pos c0,if_pos c4.1,if_pos c4.2.1,if_pos c4.2.2.1,if_pos c4.2.2.2]; rw[r0,r1,r2,r3,ws]; exact if_pos hd
    · have c1:(b:Int)<(n:Int):=by omega
      have c0:0≤(b:Int):=by omega
      have hd:=of_decide_eq_false h; have c4:((0:Int)<(([(i:Int),(j:Int),(k:Int),(l:Int)].length:Nat):Int))∧((1:Int)<(([(i:Int),(j:Int),(k:Int),(l:Int)].length:Nat):Int))∧((2:Int)<(([(i:Int),(j:Int),(k:Int),(l:Int)].length:Nat):Int))∧((3:Int)<(([(i:Int),(j:Int),(k:Int),(l:Int)].length:Nat):Int)):=by simp
      simp only[spec_l5Trade.l1,if_pos c1,if_pos c0,if_pos c4.1,if_pos c4.2.1,if_pos c4.2.2.1,if_pos c4.2.2.2]; rw[r0,r1,r2,r3]; exact if_neg hd
   have no:Ev (fun r=>spec_l5Trade.j1 r (n:Int) [(i:Int),(j:Int),(k:Int),(l:Int)] true) false:=Ev.step' (f:=fun _=>some false) (fun r=>by simp only[spec_l5Trade.j1,if_true]) (Ev.now _); refine hf.1 _ ?_; have c4:¬ ((4:Nat):Int)<(([(i:Int),(j:Int),(k:Int),(l:Int)].length:Nat):Int):=by simp
   have c4' : (([(i:Int),(j:Int),(k:Int),(l:Int)].length:Nat):Int)=4:=by simp
   have d4:((0:Int)<(([(i:Int),(j:Int),(k:Int),(l:Int)].length:Nat):Int))∧((1:Int)<(([(i:Int),(j:Int),(k:Int),(l:Int)].length:Nat):Int))∧((2:Int)<(([(i:Int),(j:Int),(k:Int),(l:Int)].length:Nat):Int))∧((3:Int)<(([(i:Int),(j:Int),(k:Int),(l:Int)].length:Nat):Int)):=by simp
   have q1:¬ (i:Int)>(j:Int):=by omega
   have q2:¬ (k:Int)>(l:Int):=by omega
   have b0:0≤(i:Int):=by omega
   have b1:0≤(j:Int):=by omega
   have b2:0≤(k:Int):=by omega
   have b3:0≤(l:Int):=by omega
   have e0:(i:Int)<(t.length:Int):=by omega
   have e1:(j:Int)<(t.length:Int):=by omega
   have e2:(k:Int)<(t.length:Int):=by omega
   have e3:(l:Int)<(t.length:Int):=by omega
   by_cases s1:wrap64 (t.getD i 0+t.getD j 0)=2
   · refine Ev.step' (f:=fun r=>spec_l5Trade.j1 r (n:Int) [(i:Int),(j:Int),(k:Int),(l:Int)] (wrap64 (t.getD k 0+t.getD l 0) != 0)) (fun r=>by simp only[spec_l5Trade.l0,if_neg c4,if_pos c4',if_pos d4.1,if_pos d4.2.1,if_pos d4.2.2.1,if_pos d4.2.2.2,r0,r1,r2,r3,if_neg q1,if_neg q2,if_pos b0,if_pos b1,if_pos b2,if_pos b3,if_pos e0,if_pos e1,if_pos e2,if_pos e3,rd_nat,if_pos s1]) ?_; unfold tradeB; rw[decide_eq_true s1,Bool.true_and]; by_cases s2:wrap64 (t.getD k 0+t.getD l 0)=0
     · rw[decide_eq_true s2,Bool.true_and,s2]; exact Ev.step' (f:=fun r=>spec_l5Trade.l1 r (n:Int) [(i:Int),(j:Int),(k:Int),(l:Int)] 0) (fun r=>by simp only[spec_l5Trade.j1];rfl) bits
     · rw[decide_eq_false s2,Bool.false_and,show (wrap64 (t.getD k 0+t.getD l 0) != 0)=true from by simpa using s2]; exact no
   · refine Ev.step' (f:=fun r=>spec_l5Trade.j1 r (n:Int) [(i:Int),(j:Int),(k:Int),(l:Int)] true) (fun r=>by simp only[spec_l5Trade.l0,if_neg c4,if_pos c4',if_pos d4.1,if_pos d4.2.1,if_pos d4.2.2.1,if_pos d4.2.2.2,r0,r1,r2,r3,if_neg q1,if_neg q2,if_pos b0,if_pos b1,if_pos e0,if_pos e1,rd_nat,if_neg s1]) ?_; unfold tradeB; rw[decide_eq_false s1,Bool.false_and]; exact no
 · have c1:(q:Int)<(([(i:Int),(j:Int),(k:Int),(l:Int)].length:Nat):Int):=by simp;omega
   have c0:0≤(q:Int):=by omega
   have hin:inR 0 ((t.length:Int)-1) (rd [(i:Int),(j:Int),(k:Int),(l:Int)] (q:Int))=true:=by
    rw[inR_iff,rd_nat]; match q,hq with
    | 0,_=>show 0≤(i:Int)∧(i:Int)≤_;omega
    | 1,_=>show 0≤(j:Int)∧(j:Int)≤_;omega
    | 2,_=>show 0≤(k:Int)∧(k:Int)≤_;omega
    | 3,_=>show 0≤(l:Int)∧(l:Int)≤_;omega
    | q+4,h=>omega
   simp only[spec_l5Trade.l0,if_pos c1,if_pos c0,hw,spec_l1In_eq,hin,Option.bind_some,if_true,wrap_succ hq (by omega:4≤9223372036854775807)]
def Res (L:Nat→Option (List Int)) (B:Bool):Prop:=∃ r,Ev L r∧(r=[]↔B=true)
theorem Res.step {g f:Nat→Option (List Int)} {B:Bool} (h:∀ k,g (k+1)=f k):Res f B→Res g B:=fun ⟨r,e,q⟩=>⟨r,Ev.step' h e,q⟩
def noTr3 (n:Nat) (t:List Int) (i j k l d:Nat):Bool:=(List.range' l d).all fun l => !tradeB n t i j k l
def noTr2 (n:Nat) (t:List Int) (i j k d:Nat):Bool:=(List.range' k d).all fun k=>noTr3 n t i j k k (t.length-k)
def noTr1 (n:Nat) (t:List Int) (i j d:Nat):Bool:=(List.range' j d).all fun j => !(decide (t.getD i 0=1) && decide (t.getD j 0=1))||noTr2 n t i j 0 t.length
def noTr (n:Nat) (t:List Int):Bool:=(List.range' 0 t.length).all fun i=>noTr1 n t i i (t.length-i)
theorem l5_3 {n:Nat} {t:List Int} (hn:n≤1000) (hN:t.length≤1000000) {i j k:Nat} (hij:i≤j) (hj:j<t.length) (hk:k<t.length) {B:Bool} (hr:Res (fun r=>spec_l5Find.l2 r (n:Int) t i j ((k+1:Nat):Int)) B) :
 ∀ d l:Nat,l+d=t.length→k≤l→Res (fun r=>spec_l5Find.l3 r (n:Int) t i j k l) (noTr3 n t i j k l d && B)
 | 0,l,h,hkl=>by
  have c:¬ (l:Int)<(t.length:Int):=by omega
  have ws:=wrap_succ hk (by omega:t.length≤9223372036854775807); rw[show noTr3 n t i j k l 0=true from rfl,Bool.true_and]; exact Res.step (fun r=>by simp only[spec_l5Find.l3,if_neg c,ws]) hr
 | d+1,l,h,hkl=>by
  have hl:l<t.length:=by omega
  have c:(l:Int)<(t.length:Int):=by omega
  have ws:=wrap_succ hl (by omega:t.length≤9223372036854775807); obtain ⟨r,ih,hq⟩:=l5_3 hn hN hij hj hk hr d (l+1) (by omega) (by omega); have tr:=spec_l5Trade_ev t hn hN hij hkl hj hl; have st:∀ k',spec_l5Find.l3 (k' + 1) (n:Int) t i j k l=(spec_l5Trade.f k' (n:Int) t [(i:Int),(j:Int),(k:Int),(l:Int)]).bind fun u=>if u=true then some [(i:Int),(j:Int),(k:Int),(l:Int)] else spec_l5Find.l3 k' (n:Int) t i j k ((l+1:Nat):Int):=fun k' => by simp only[spec_l5Find.l3,if_pos c,Option.bind_some,ws]
  have e3:noTr3 n t i j k l (d+1)=(!tradeB n t i j k l && noTr3 n t i j k (l+1) d):=by simp[noTr3,List.range'_succ]
  cases hq' : tradeB n t i j k l with
  | true =>
   rw[hq'] at tr; refine ⟨[(i:Int),(j:Int),(k:Int),(l:Int)],Ev.step' st (Ev.bind tr ?_),by rw[e3,hq'];simp⟩; simp only[if_true]; exact Ev.now _
  | false =>
   rw[hq'] at tr; refine ⟨r,Ev.step' st (Ev.bind tr ?_),by rw[e3,hq'];simpa using hq⟩; simp only[Bool.false_eq_true,if_false]; exact ih
theorem l5_2 {n:Nat} {t:List Int} (hn:n≤1000) (hN:t.length≤1000000) {i j:Nat} (hij:i≤j) (hj:j<t.length) {B:Bool} (hr:Res (fun r=>spec_l5Find.l1 r (n:Int) t i ((j+1:Nat):Int)) B) (hc:t.getD i 0=1∧t.getD j 0=1) :
 ∀ d k:Nat,k+d=t.length→Res (fun r=>spec_l5Find.l2 r (n:Int) t i j k) (noTr2 n t i j k d && B)
 | 0,k,h=>by
  have c:¬ (k:Int)<(t.length:Int):=by omega
  have ws:=wrap_succ hj (by omega:t.length≤9223372036854775807); rw[show noTr2 n t i j k 0=true from rfl,Bool.true_and]; exact Res.step (f:=fun r=>spec_l5Find.j3 r (n:Int) t i j k false) (fun r=>by simp only[spec_l5Find.l2,if_neg c]) (Res.step (f:=fun r=>spec_l5Find.l1 r (n:Int) t i ((j+1:Nat):Int)) (fun r=>by simp only[spec_l5Find.j3,Bool.false_eq_true,if_false,ws]) hr)
 | d+1,k,h=>by
  have hk:k<t.length:=by omega
  have c:(k:Int)<(t.length:Int):=by omega
  have b0:0≤(i:Int):=by omega
  have b1:0≤(j:Int):=by omega
  have e0:(i:Int)<(t.length:Int):=by omega
  have e1:(j:Int)<(t.length:Int):=by omega
  have ih:=l5_2 hn hN hij hj hr hc d (k+1) (by omega); have e2:noTr2 n t i j k (d+1)=(noTr3 n t i j k k (t.length-k) && noTr2 n t i j (k+1) d):=by simp[noTr2,List.range'_succ]
  have hb:(t.getD j 0==1)=true:=by rw[hc.2];rfl
  rw[e2,Bool.and_assoc]; exact Res.step (f:=fun r=>spec_l5Find.j3 r (n:Int) t i j k true) (fun r=>by simp only[spec_l5Find.l2,if_pos c,if_pos b0,if_pos e0,if_pos b1,if_pos e1,rd_nat,if_pos hc.1,hb]) (Res.step (fun r=>by simp only[spec_l5Find.j3,if_true]) (l5_3 hn hN hij hj hk ih (t.length-k) k (by omega) (Nat.le_refl _)))
theorem l5_1 {n:Nat} {t:List Int} (hn:n≤1000) (hN:t.length≤1000000) {i:Nat} (hi:i<t.length) {B:Bool} (hr:Res (fun r=>spec_l5Find.l0 r (n:Int) t ((i+1:Nat):Int)) B) :
 ∀ d j:Nat,j+d=t.length→i≤j→Res (fun r=>spec_l5Find.l1 r (n:Int) t i j) (noTr1 n t i j d && B)
 | 0,j,h,_=>by
  have c:¬ (j:Int)<(t.length:Int):=by omega
  have ws:=wrap_succ hi (by omega:t.length≤9223372036854775807); rw[show noTr1 n t i j 0=true from rfl,Bool.true_and]; exact Res.step (fun r=>by simp only[spec_l5Find.l1,if_neg c,ws]) hr
 | d+1,j,h,hij=>by
  have hj:j<t.length:=by omega
  have c:(j:Int)<(t.length:Int):=by omega
  have b0:0≤(i:Int):=by omega
  have b1:0≤(j:Int):=by omega
  have e0:(i:Int)<(t.length:Int):=by omega
  have ih:=l5_1 hn hN hi hr d (j+1) (by omega) (by omega); have e1:noTr1 n t i j (d+1)=((!(decide (t.getD i 0=1) && decide (t.getD j 0=1))||noTr2 n t i j 0 t.length) && noTr1 n t i (j+1) d):=by simp[noTr1,List.range'_succ]
  rw[e1,Bool.and_assoc]; refine Res.step (f:=fun r=>spec_l5Find.l2 r (n:Int) t i j 0) (fun r=>by simp only[spec_l5Find.l1,if_pos c]) ?_; by_cases hc:t.getD i 0=1∧t.getD j 0=1
  · rw[decide_eq_true hc.1,decide_eq_true hc.2]; simpa using l5_2 hn hN hij hj ih hc t.length 0 (by omega)
  · have e2:(decide (t.getD i 0=1) && decide (t.getD j 0=1))=false:=by
     cases h1:decide (t.getD i 0=1) <;> cases h2:decide (t.getD j 0=1) <;> simp_all
    rw[e2]; simp only[Bool.not_false,Bool.true_or,Bool.true_and]; have ws:=wrap_succ hj (by omega:t.length≤9223372036854775807); have k0:(0:Int)<(t.length:Int):=by omega
    have fin:Res (fun r=>spec_l5Find.j3 r (n:Int) t i j 0 false) (noTr1 n t i (j+1) d && B):=Res.step (fun r=>by simp only[spec_l5Find.j3,Bool.false_eq_true,if_false,ws]) ih; refine Res.step (f:=fun r=>spec_l5Find.j3 r (n:Int) t i j 0 false) (fun r => ?_) fin; by_cases h1:t.getD i 0=1
    · have hb:(t.getD j 0==1)=false:=by
       have:¬ t.getD j 0=1:=fun h2=>hc ⟨h1,h2⟩
       simpa using this
      simp only[spec_l5Find.l2,if_pos k0,if_pos b0,if_pos e0,if_pos b1,if_pos c,rd_nat,if_pos h1,hb]
    · simp only[spec_l5Find.l2,if_pos k0,if_pos b0,if_pos e0,rd_nat,if_neg h1]
theorem l5_0 {n:Nat} {t:List Int} (hn:n≤1000) (hN:t.length≤1000000):∀ d i:Nat,i+d=t.length→Res (fun r=>spec_l5Find.l0 r (n:Int) t i) ((List.range' i d).all fun i=>noTr1 n t i i (t.length-i))
 | 0,i,h=>by
  have c:¬ (i:Int)<(t.length:Int):=by omega
  exact ⟨[],Ev.step' (f:=fun _=>some []) (fun r=>by simp only[spec_l5Find.l0,if_neg c]) (Ev.now _),by simp⟩
 | d+1,i,h=>by
  have hi:i<t.length:=by omega
  have c:(i:Int)<(t.length:Int):=by omega
  rw[List.range'_succ,List.all_cons]; exact Res.step (fun r=>by simp only[spec_l5Find.l0,if_pos c]) (l5_1 hn hN hi (l5_0 hn hN d (i+1) (by omega)) (t.length-i) i (by omega) (Nat.le_refl _))
theorem spec_l5Find_ev {n:Nat} {t:List Int} (hn:n≤1000) (hN:t.length≤1000000):Res (fun r=>spec_l5Find.f r (n:Int) t) (noTr n t):=l5_0 hn hN t.length 0 (by omega)
def rowOf (S c:Nat):List Int:=(List.range S).map fun (j:Nat)=>Go.bits .and .i64 (shr .i64 (c:Int) ((S-1-j:Nat):Int)) 1
theorem rowOf_len (S c:Nat):(rowOf S c).length=S:=by simp[rowOf]
theorem shl_sm {n:Nat} (h:n≤4):shl .i64 1 (n:Int)=((2 ^ n:Nat):Int):=by
 match n,h with
 | 0,_=>decide +kernel
 | 1,_=>decide +kernel
 | 2,_=>decide +kernel
 | 3,_=>decide +kernel
 | 4,_=>decide +kernel
 | n+5,h=>omega
theorem shl_sm2 {n:Nat} (h:n≤3):shl .i64 1 (shl .u64 1 (n:Int))=((2 ^ 2 ^ n:Nat):Int)∧shl .i64 1 (shl .i64 1 (n:Int))=((2 ^ 2 ^ n:Nat):Int):=by
 match n,h with
 | 0,_=>decide +kernel
 | 1,_=>decide +kernel
 | 2,_=>decide +kernel
 | 3,_=>decide +kernel
 | n+4,h=>omega
theorem two_small {n:Nat} (h:n≤3):2 ^ n≤8∧2 ^ 2 ^ n≤256:=by
 match n,h with
 | 0,_=>decide
 | 1,_=>decide
 | 2,_=>decide
 | 3,_=>decide
 | n+4,h=>omega
def thrT (n:Nat):List (List Int):=(List.range (2 ^ 2 ^ n)).foldl (fun (T:List (List Int)) (c:Nat)=>if noTr n (rowOf (2 ^ n) c)=true then T++[rowOf (2 ^ n) c] else T) []
theorem back_idx {S j:Nat} (h:j<S) (hS:S≤1000):wrap64 (wrap64 ((S:Int)-1)-(j:Int))=((S-1-j:Nat):Int):=by unfold wrap64;omega
theorem spec_l9Thresholds_ev {n:Nat} (hn:n≤3):Ev (fun k=>spec_l9Thresholds.f k (n:Int)) (thrT n):=by
 obtain ⟨h8,h256⟩:=two_small hn; have s1:=shl_sm (show n≤4 by omega); have s2:=(shl_sm2 hn).1; have c00:0≤(n:Int):=by omega
 have hf:=to_fold (L:=fun c (T:List (List Int)) k=>spec_l9Thresholds.l0 k (n:Int) T c) (n:=2 ^ 2 ^ n) (f:=fun (c:Nat) T=>if noTr n (rowOf (2 ^ n) c)=true then T++[rowOf (2 ^ n) c] else T) (fun c T=>T.length≤c) (fun c T hc hT=>⟨?_,by split <;> first|omega|(rw[List.length_append,List.length_singleton];omega)⟩) [] (Nat.le_refl _)
 · exact hf.1 _ (Ev.step' (f:=fun _=>some (thrT n)) (fun k=>by simp only[spec_l9Thresholds.l0,if_pos c00,s2,if_neg (Int.lt_irrefl _)];rfl) (Ev.now _))
 · have c1:(c:Int)<((2 ^ 2 ^ n:Nat):Int):=Int.ofNat_lt.2 hc; refine To.trans (To.step (f:=fun k=>spec_l9Thresholds.l1 k (n:Int) T (c:Int) [] 0) (fun k=>by simp only[spec_l9Thresholds.l0,if_pos c00,s2,if_pos c1])) ?_; have hg:=to_fold (L:=fun j (s:List Int) k=>spec_l9Thresholds.l1 k (n:Int) T (c:Int) s j) (n:=2 ^ n) (f:=fun (j:Nat) s=>s++[Go.bits .and .i64 (shr .i64 (c:Int) ((2 ^ n-1-j:Nat):Int)) 1]) (fun j s=>s.length=j) (fun j s hj hs=>⟨?_,by simp[hs]⟩) [] rfl
   · refine To.trans hg.1 ?_; rw[show (List.range (2 ^ n)).foldl (fun (s:List Int) (j:Nat)=>s++[Go.bits .and .i64 (shr .i64 (c:Int) ((2 ^ n-1-j:Nat):Int)) 1]) []=rowOf (2 ^ n) c from by rw[fold_append,List.nil_append];rfl]; obtain ⟨r,hr,e⟩:=spec_l5Find_ev (n:=n) (t:=rowOf (2 ^ n) c) (by omega) (by rw[rowOf_len];omega); refine To.trans (To.step (f:=fun k=>(spec_l5Find.f k (n:Int) (rowOf (2 ^ n) c)).bind fun u=>if (u.length:Int)=0 then if T.length<5864062014805 then spec_l9Thresholds.l0 k (n:Int) (T++[rowOf (2 ^ n) c]) ((c+1:Nat):Int) else none else spec_l9Thresholds.l0 k (n:Int) T ((c+1:Nat):Int)) (fun k=>by simp only[spec_l9Thresholds.l1,if_pos c00,s1,if_neg (Int.lt_irrefl _),wrap_succ hc (by omega:2 ^ 2 ^ n≤9223372036854775807)])) ?_; refine To.trans (To.bind hr) ?_; have c3:T.length<5864062014805:=by omega
     by_cases hq:noTr n (rowOf (2 ^ n) c)=true
     · have hz:(r.length:Int)=0:=by rw[e.2 hq];rfl
       simp only[if_pos hz,if_pos c3,if_pos hq]; exact To.refl _
     · have hz:¬ (r.length:Int)=0:=fun h=>hq (e.1 (List.length_eq_zero_iff.1 (by omega)))
       simp only[if_neg hz,if_neg hq]; exact To.refl _
   · have c1:(j:Int)<((2 ^ n:Nat):Int):=Int.ofNat_lt.2 hj; have c2:s.length<17592186044416:=by omega
     have c3:0≤((2 ^ n-1-j:Nat):Int):=Int.natCast_nonneg _; exact To.step fun k=>by simp only[spec_l9Thresholds.l1,if_pos c00,s1,if_pos c1,back_idx hj (by omega),if_pos c3,if_pos c2,wrap_succ hj (by omega:2 ^ n≤9223372036854775807)]
def codeOf (ps:List Int) (y:Int):Int:=(List.range ps.length).foldl (fun (c:Int) (i:Nat)=>if ps.getD i 0≥y then Go.bits .or .i64 c (shl .i64 1 (i:Int)) else c) 0
def codesOf (n:Nat) (w:List Int):List Int:=(prodL n w++[99]).map (codeOf (prodL n w))
theorem cl_code {n:Nat} (w ks:List Int) (y:Int) (ys ps:List Int) (x15:Int) (hl:ps.length≤1000) :
 To (fun k=>impl_thresholdTables.cl.l1 k w (n:Int) ks y 0 ys (ys.length:Int) x15 ps (ps.length:Int) 0) (fun k=>impl_thresholdTables.cl.l1 k w (n:Int) ks y (codeOf ps y) ys (ys.length:Int) x15 ps (ps.length:Int) (ps.length:Int)):=by
 refine (to_fold (L:=fun i (s:Int) k=>impl_thresholdTables.cl.l1 k w (n:Int) ks y s ys (ys.length:Int) x15 ps (ps.length:Int) i) (n:=ps.length) (f:=fun (i:Nat) (c:Int)=>if ps.getD i 0≥y then Go.bits .or .i64 c (shl .i64 1 (i:Int)) else c) (fun _ _=>True) (fun i s hi _=>⟨?_,trivial⟩) 0 trivial).1; have c1:(i:Int)<(ps.length:Int):=Int.ofNat_lt.2 hi; have c0:0≤(i:Int):=Int.natCast_nonneg i; have ws:=wrap_succ hi (by omega:ps.length≤9223372036854775807); refine To.step fun k => ?_
 by_cases c:ps.getD i 0≥y
 · simp only[impl_thresholdTables.cl.l1,if_pos c1,if_pos c0,rd_nat,if_pos c,ws]
 · simp only[impl_thresholdTables.cl.l1,if_pos c1,if_pos c0,rd_nat,if_neg c,ws]
theorem cl_ev {n:Nat} (hn:n≤4) (w ks:List Int) (hw:w.length=n) (hwf:∀ x∈codesOf n w,(Lit.int .i64 x).wf=true) (hk:ks.length≤900000) :
 Ev (fun k=>impl_thresholdTables.cl.f k w (n:Int) ks) (ks++codesOf n w):=by
 have hp:2 ^ n≤2 ^ 4:=Nat.pow_le_pow_right (by omega) hn; have hpl:=prodL_len n w; refine Ev.bind (impl_productsOf_ev hn w hw) ?_; have c1:(prodL n w).length<17592186044416:=by omega
 simp only[if_pos c1,Option.bind_some]; have hy:(prodL n w++[99]).length≤17:=by rw[List.length_append];simp only[List.length_singleton];omega
 generalize hys:prodL n w++[99]=ys at hy; have hc:codesOf n w=ys.map (codeOf (prodL n w)):=by rw[← hys];rfl
 have hf:=to_fold (L:=fun i (s:List Int) k=>impl_thresholdTables.cl.l0 k w (n:Int) s ys (ys.length:Int) i) (n:=ys.length) (f:=fun (i:Nat) (s:List Int)=>s++[codeOf (prodL n w) (ys.getD i 0)]) (fun i s=>s.length=ks.length+i) (fun i s hi hs=>⟨?_,by rw[List.length_append,hs];simp only[List.length_singleton];omega⟩) ks rfl
 · refine hf.1 _ ?_; rw[fold_append,show (List.range ys.length).map (fun (i:Nat)=>codeOf (prodL n w) (ys.getD i 0))=codesOf n w from by rw[hc];exact range_map ys (codeOf (prodL n w)) 0]; exact Ev.step' (f:=fun _=>some (ks++codesOf n w)) (fun k=>by simp only[impl_thresholdTables.cl.l0,if_neg (Int.lt_irrefl _)]) (Ev.now _)
 · have c1:(i:Int)<(ys.length:Int):=Int.ofNat_lt.2 hi; have c0:0≤(i:Int):=Int.natCast_nonneg i; have ws:=wrap_succ hi (by omega:ys.length≤9223372036854775807); have hm:codeOf (prodL n w) (ys.getD i 0)∈codesOf n w:=by rw[hc];exact List.mem_map.2 ⟨_,getD_mem hi 0,rfl⟩
   refine To.trans (To.step (f:=fun k=>(impl_productsOf.f k (n:Int) w).bind fun t=>impl_thresholdTables.cl.l1 k w (n:Int) s (ys.getD i 0) 0 ys (ys.length:Int) (i:Int) t (t.length:Int) 0) (fun k=>by simp only[impl_thresholdTables.cl.l0,if_pos c1,if_pos c0,rd_nat])) ?_; refine To.trans (To.bind (impl_productsOf_ev hn w hw)) (To.trans (cl_code w s (ys.getD i 0) ys (prodL n w) (i:Int) (by omega)) (To.step fun k => ?_)); have c2:(Lit.int .i64 (codeOf (prodL n w) (ys.getD i 0))).wf=true∧s.length<1000000:=⟨hwf _ hm,by omega⟩; simp only[impl_thresholdTables.cl.l1,if_neg (Int.lt_irrefl _),if_pos c2,ws]
def keyOf (S c:Nat):Int:=(List.range S).foldl (fun (x:Int) (j:Nat)=>Go.bits .or .i64 x (shl .i64 (Go.bits .and .i64 (shr .i64 (c:Int) ((S-1-j:Nat):Int)) 1) (j:Int))) 0
def ksM (n:Nat):List Int:=(allW 3 n).foldl (fun s w=>s++codesOf n w) []
def implT (n:Nat):List (List Int):=(List.range (2 ^ 2 ^ n)).foldl (fun (T:List (List Int)) (c:Nat)=>if keyOf (2 ^ n) c∈ksM n then T++[rowOf (2 ^ n) c] else T) []
theorem codes_fold_len (n:Nat):∀ (L:List (List Int)) (s:List Int),(L.foldl (fun s w=>s++codesOf n w) s).length=s.length+L.length*(2 ^ n+1)
 | [],s=>by simp
 | w::L,s=>by rw[List.foldl_cons,codes_fold_len n L,List.length_append,List.length_cons,show (codesOf n w).length=2 ^ n+1 from by simp[codesOf,prodL_len],Nat.add_mul];omega
theorem pair_fold {α β γ:Type} (f:α→γ→α) (g:β→γ→β):∀ (l:List γ) (a:α) (b:β),l.foldl (fun (p:α×β) x=>(f p.1 x,g p.2 x)) (a,b)=(l.foldl f a,l.foldl g b)
 | [],_,_=>rfl
 | x::l,a,b=>by rw[List.foldl_cons,pair_fold f g l];rfl
theorem impl_thresholdTables_ev {n:Nat} (hn:n≤3) (hA:(allW 3 n).length≤400) (hC:∀ w∈allW 3 n,∀ x∈codesOf n w,(Lit.int .i64 x).wf=true) (hK:∀ c<2 ^ 2 ^ n,(Lit.int .i64 (keyOf (2 ^ n) c)).wf=true):Ev (fun k=>impl_thresholdTables.f k (n:Int)) (implT n):=by
 obtain ⟨h8,h256⟩:=two_small hn; have s1:=shl_sm (show n≤4 by omega); have s2:=(shl_sm2 hn).2; rw[s1] at s2; have c00:0≤(n:Int):=by omega
 have c01:0≤((2 ^ n:Nat):Int):=Int.natCast_nonneg _; have hks:Ev (fun k=>Go.Proofs.Ytkbahcbankfffaa.Sm.impl_smallWeights.f (fun x s=>impl_thresholdTables.cl.f k x (n:Int) s) k (n:Int) 3 []) (ksM n):=by
  refine impl_smallWeights_ev (n:=n) (m:=3) (by omega) (by omega) (fun j x s=>impl_thresholdTables.cl.f j x (n:Int) s) (fun w s=>s++codesOf n w) (fun w s=>w∈allW 3 n∧s.length≤900000) (fun w s hw hI=>cl_ev (by omega) w s hw (hC w hI.1) hI.2) [] (fun L w M e=>⟨by rw[e];simp,?_⟩); rw[codes_fold_len]; have hl:L.length≤400:=by rw[e] at hA;simp only[List.length_append,List.length_cons] at hA;omega
  have:L.length*(2 ^ n+1)≤400*9:=Nat.mul_le_mul hl (by omega); simp only[List.length_nil]; omega
 refine Ev.bind hks ?_; generalize hgen:ksM n=ks; have hT:implT n=(List.range (2 ^ 2 ^ n)).foldl (fun (T:List (List Int)) (c:Nat)=>if keyOf (2 ^ n) c∈ks then T++[rowOf (2 ^ n) c] else T) []:=by rw[← hgen];rfl
 have hf:=to_fold (L:=fun c (T:List (List Int)) k=>impl_thresholdTables.l0 ks k T ((2 ^ n:Nat):Int) ((2 ^ 2 ^ n:Nat):Int) c) (n:=2 ^ 2 ^ n) (f:=fun (c:Nat) T=>if keyOf (2 ^ n) c∈ks then T++[rowOf (2 ^ n) c] else T) (fun c T=>T.length≤c) (fun c T hc hT=>⟨?_,by split <;> first|omega|(rw[List.length_append,List.length_singleton];omega)⟩) [] (Nat.le_refl _)
 · refine Ev.congr (fun k => ?_) (hf.1 (implT n) (by rw[← hT];exact Ev.step' (f:=fun _=>some (implT n)) (fun k=>by simp only[impl_thresholdTables.l0,if_neg (Int.lt_irrefl _)]) (Ev.now _))); simp only[if_pos c00,s1,if_pos c01,s2]
 · have c1:(c:Int)<((2 ^ 2 ^ n:Nat):Int):=Int.ofNat_lt.2 hc; refine To.trans (To.step (f:=fun k=>impl_thresholdTables.l1 ks k T ((2 ^ n:Nat):Int) (c:Int) [] 0 ((2 ^ 2 ^ n:Nat):Int) (c:Int) ((2 ^ n:Nat):Int) 0) (fun k=>by simp only[impl_thresholdTables.l0,if_pos c1])) ?_; have hg:=to_fold (L:=fun j (p:List Int×Int) k=>impl_thresholdTables.l1 ks k T ((2 ^ n:Nat):Int) (c:Int) p.1 p.2 ((2 ^ 2 ^ n:Nat):Int) (c:Int) ((2 ^ n:Nat):Int) j) (n:=2 ^ n) (f:=fun (j:Nat) (p:List Int×Int)=>(p.1++[Go.bits .and .i64 (shr .i64 (c:Int) ((2 ^ n-1-j:Nat):Int)) 1],Go.bits .or .i64 p.2 (shl .i64 (Go.bits .and .i64 (shr .i64 (c:Int) ((2 ^ n-1-j:Nat):Int)) 1) (j:Int)))) (fun j p=>p.1.length=j) (fun j p hj hs=>⟨?_,by simp[hs]⟩) ([],0) rfl
   · refine To.trans hg.1 ?_; have hp:(List.range (2 ^ n)).foldl (fun (p:List Int×Int) (j:Nat)=>(p.1++[Go.bits .and .i64 (shr .i64 (c:Int) ((2 ^ n-1-j:Nat):Int)) 1],Go.bits .or .i64 p.2 (shl .i64 (Go.bits .and .i64 (shr .i64 (c:Int) ((2 ^ n-1-j:Nat):Int)) 1) (j:Int)))) ([],0)=(rowOf (2 ^ n) c,keyOf (2 ^ n) c):=by
      rw[pair_fold (fun (s:List Int) (j:Nat)=>s++[Go.bits .and .i64 (shr .i64 (c:Int) ((2 ^ n-1-j:Nat):Int)) 1]) (fun (x:Int) (j:Nat)=>Go.bits .or .i64 x (shl .i64 (Go.bits .and .i64 (shr .i64 (c:Int) ((2 ^ n-1-j:Nat):Int)) 1) (j:Int))),fold_append,List.nil_append]; rfl
     rw[hp]; have c3:T.length<5864062014805:=by omega
     refine To.step fun k => ?_
     have ws:=wrap_succ hc (by omega:2 ^ 2 ^ n≤9223372036854775807); by_cases hq:keyOf (2 ^ n) c∈ks
     · simp only[impl_thresholdTables.l1,if_neg (Int.lt_irrefl _),if_pos (hK c hc),if_pos hq,if_pos c3,ws]
     · simp only[impl_thresholdTables.l1,if_neg (Int.lt_irrefl _),if_pos (hK c hc),if_neg hq,ws]
   · have c1:(j:Int)<((2 ^ n:Nat):Int):=Int.ofNat_lt.2 hj; have c2:p.1.length<17592186044416:=by omega
     have c3:0≤((2 ^ n-1-j:Nat):Int):=Int.natCast_nonneg _; have c4:0≤(j:Int):=by omega
     exact To.step fun k=>by simp only[impl_thresholdTables.l1,if_pos c1,back_idx hj (by omega),if_pos c3,if_pos c2,if_pos c4,wrap_succ hj (by omega:2 ^ n≤9223372036854775807)]
theorem spec_l1Own_eq (l:List Int) (h:l.length≤1000):spec_l1Own.f l=some l:=by
 have c:([]:List Int).length+l.length<17592186044416:=by rw[List.length_nil];omega
 simp only[spec_l1Own.f,Option.bind_some,if_pos c,List.nil_append]
def joinB (l a b c:List Int):Bool:=(List.range l.length).all fun (x:Nat)=>decide (c.getD (a.getD x 0+2*b.getD x 0).toNat 0=l.getD x 0)
def Bits (a:List Int):Prop:=∀ x∈a,x=0∨x=1
theorem bits_at {a:List Int} (h:Bits a) {i:Nat} (hi:i<a.length):a.getD i 0=0∨a.getD i 0=1:=h _ (getD_mem hi 0)
theorem spec_l9Joined_ev {l a b c:List Int} (hl:l.length≤1000) (ha:a.length=l.length) (hb:b.length=l.length) (hc:c.length=4) (hA:Bits a) (hB:Bits b):Ev (fun k=>spec_l9Joined.f k l a b c) (joinB l a b c):=by
 have st:∀ x:Nat,x<l.length→∀ k,spec_l9Joined.l0 (k+1) l a b c (x:Int)=if c.getD (a.getD x 0+2*b.getD x 0).toNat 0=l.getD x 0 then spec_l9Joined.l0 k l a b c ((x+1:Nat):Int) else some false:=by
  intro x hx k; have h1:=bits_at hA (by omega:x<a.length); have h2:=bits_at hB (by omega:x<b.length); have c1:(x:Int)<(l.length:Int):=by omega
  have c0:0≤(x:Int):=by omega
  have c2:(x:Int)<(a.length:Int):=by omega
  have c3:(x:Int)<(b.length:Int):=by omega
  have ew:wrap64 (a.getD x 0+wrap64 (2*b.getD x 0))=a.getD x 0+2*b.getD x 0:=by unfold wrap64;omega
  have c4:0≤a.getD x 0+2*b.getD x 0:=by omega
  have c5:a.getD x 0+2*b.getD x 0<(c.length:Int):=by omega
  have er:rd c (a.getD x 0+2*b.getD x 0)=c.getD (a.getD x 0+2*b.getD x 0).toNat 0:=rfl; simp only[spec_l9Joined.l0,if_pos c1,if_pos c0,if_pos c2,if_pos c3,rd_nat,ew,if_pos c4,if_pos c5,er,wrap_succ hx (by omega:l.length≤9223372036854775807)]
 refine ev_all (L:=fun x k=>spec_l9Joined.l0 k l a b c x) (n:=l.length) (p:=fun (x:Nat)=>decide (c.getD (a.getD x 0+2*b.getD x 0).toNat 0=l.getD x 0)) (fun x hx h=>To.step fun k => ?_) (fun x hx h=>Ev.step' (f:=fun _=>some false) (fun k => ?_) (Ev.now _)) (Ev.step' (f:=fun _=>some true) (fun k=>by simp only[spec_l9Joined.l0,if_neg (Int.lt_irrefl _)]) (Ev.now _))
 · show spec_l9Joined.l0 (k+1) l a b c (x:Int)=_
   rw[st x hx k,if_pos (of_decide_eq_true h)]
 · show spec_l9Joined.l0 (k+1) l a b c (x:Int)=_
   rw[st x hx k,if_neg (of_decide_eq_false h)]
def Fnd {X R:Type} (L:Nat→Option R) (o:Option X) (N:Nat→Option R) (out:X→R):Prop:=∀ r,((∃ x,o=some x∧r=out x)∨(o=none∧Ev N r))→Ev L r
theorem Fnd.step {X R:Type} {g f N:Nat→Option R} {o:Option X} {out:X→R} (h:∀ k,g (k+1)=f k) (e:Fnd f o N out):Fnd g o N out:=fun r q=>Ev.step' h (e r q)
theorem Fnd.last {X R:Type} {g N:Nat→Option R} {out:X→R} (h:∀ k,g (k+1)=N k):Fnd g none N out:=fun r q=>by
 rcases q with ⟨x,h',_⟩|⟨_,e⟩
 · cases h'
 · exact Ev.step' h e
theorem fnd_list {α X R:Type} (d0:α) (xs:List α) (L:Int→Nat→Option R) (p:α→Option X) (N:Nat→Option R) (out:X→R) (hN:Fnd (L xs.length) none N out)
 (hS:∀ i:Nat,i<xs.length→Fnd (L i) (p (xs.getD i d0)) (L ((i+1:Nat):Int)) out):Fnd (L 0) (xs.findSome? p) N out:=by
 have key:∀ d i:Nat,i+d=xs.length→Fnd (L i) ((xs.drop i).findSome? p) N out:=by
  intro d; induction d with
  | zero =>
   intro i hi; obtain rfl:i=xs.length:=by omega
   rw[List.drop_length];exact hN
  | succ d ih =>
   intro i hi; have hlt:i<xs.length:=by omega
   have hd:xs.drop i=xs.getD i d0::xs.drop (i+1):=by rw[List.drop_eq_getElem_cons hlt,List.getD_eq_getElem?_getD,List.getElem?_eq_getElem hlt];rfl
   rw[hd,List.findSome?_cons]; intro r q; cases hp:p (xs.getD i d0) with
   | some x =>
    rw[hp] at q; rcases q with ⟨y,h1,h2⟩|⟨h1,_⟩
    · exact hS i hlt r (.inl ⟨y,by rw[hp];exact h1,h2⟩)
    · cases h1
   | none =>
    rw[hp] at q; exact hS i hlt r (.inr ⟨hp,ih (i+1) (by omega) r q⟩)
 have:=key xs.length 0 (by omega); simpa using this
def joinM (l a b c:List Int):Option (List (List Int)):=if joinB l a b c=true then some [a,b,c] else none
def pairM (T T2:List (List Int)) (l:List Int):Option (List (List Int)):=T.findSome? fun a=>T.findSome? fun b=>T2.findSome? fun c=>joinM l a b c
theorem spec_l9Pair_loop {l:List Int} (hl:l.length≤1000) {T T2:List (List Int)} (hT:∀ a∈T,a.length=l.length∧Bits a) (hT2:∀ c∈T2,c.length=4) (n1:T.length≤1000) (n2:T2.length≤1000) :
 Ev (fun k=>spec_l9Pair.l0 k l T T2 0) ((pairM T T2 l).getD []):=by
 have l2:∀ a b:Nat,a<T.length→b<T.length→Fnd (fun k=>spec_l9Pair.l2 k l T T2 (a:Int) (b:Int) 0) (T2.findSome? fun c=>joinM l (T.getD a []) (T.getD b []) c) (fun k=>spec_l9Pair.l1 k l T T2 (a:Int) ((b+1:Nat):Int)) id:=by
  intro a b ha hb; have hma:=hT _ (getD_mem ha []); have hmb:=hT _ (getD_mem hb []); refine fnd_list [] T2 (fun c k=>spec_l9Pair.l2 k l T T2 (a:Int) (b:Int) c) _ _ _ (Fnd.last fun k => ?_) fun c hc => ?_
  · simp only[spec_l9Pair.l2,if_neg (Int.lt_irrefl _),wrap_succ hb (by omega:T.length≤9223372036854775807)]
  · have hmc:=hT2 _ (getD_mem hc []); have c1:(c:Int)<(T2.length:Int):=Int.ofNat_lt.2 hc; have c2:(a:Int)<(T.length:Int):=Int.ofNat_lt.2 ha; have c3:(b:Int)<(T.length:Int):=Int.ofNat_lt.2 hb; have p1:0≤(a:Int):=by omega
    have p2:0≤(b:Int):=by omega
    have p3:0≤(c:Int):=by omega
    have o1:=spec_l1Own_eq (T.getD a []) (by rw[hma.1];exact hl); have o2:=spec_l1Own_eq (T.getD b []) (by rw[hmb.1];exact hl); refine Fnd.step (f:=fun k=>(spec_l9Joined.f k l (T.getD a []) (T.getD b []) (T2.getD c [])).bind fun u=>if u=true then some [T.getD a [],T.getD b [],T2.getD c []] else spec_l9Pair.l2 k l T T2 (a:Int) (b:Int) ((c+1:Nat):Int)) (fun k=>by simp only[spec_l9Pair.l2,if_pos c1,if_pos p1,if_pos c2,if_pos p2,if_pos c3,if_pos p3,rdL2_nat,rdL3_nat,o1,o2,Option.bind_some,wrap_succ hc (by omega:T2.length≤9223372036854775807)]) ?_; intro r q; refine Ev.bind (spec_l9Joined_ev hl hma.1 hmb.1 hmc hma.2 hmb.2) ?_; unfold joinM at q; cases hj:joinB l (T.getD a []) (T.getD b []) (T2.getD c []) with
    | true =>
     rw[hj] at q; rcases q with ⟨x,h1,rfl⟩|⟨h1,_⟩
     · simp only[if_true,Option.some.injEq] at h1 ⊢; rw[← h1];exact Ev.now _
     · simp at h1
    | false =>
     rw[hj] at q; rcases q with ⟨x,h1,rfl⟩|⟨_,h1⟩
     · simp at h1
     · simp only[Bool.false_eq_true,if_false];exact h1
 have l1:∀ a:Nat,a<T.length→Fnd (fun k=>spec_l9Pair.l1 k l T T2 (a:Int) 0) (T.findSome? fun b=>T2.findSome? fun c=>joinM l (T.getD a []) b c) (fun k=>spec_l9Pair.l0 k l T T2 ((a+1:Nat):Int)) id:=by
  intro a ha; refine fnd_list [] T (fun b k=>spec_l9Pair.l1 k l T T2 (a:Int) b) (fun b=>T2.findSome? fun c=>joinM l (T.getD a []) b c) _ _ (Fnd.last fun k => ?_) fun b hb => ?_
  · simp only[spec_l9Pair.l1,if_neg (Int.lt_irrefl _),wrap_succ ha (by omega:T.length≤9223372036854775807)]
  · have c1:(b:Int)<(T.length:Int):=Int.ofNat_lt.2 hb; exact Fnd.step (fun k=>by simp only[spec_l9Pair.l1,if_pos c1]) (l2 a b ha hb)
 have l0:Fnd (fun k=>spec_l9Pair.l0 k l T T2 0) (pairM T T2 l) (fun _=>some []) id:=by
  refine fnd_list [] T (fun a k=>spec_l9Pair.l0 k l T T2 a) (fun a=>T.findSome? fun b=>T2.findSome? fun c=>joinM l a b c) _ _ (Fnd.last fun k => ?_) fun a ha => ?_
  · simp only[spec_l9Pair.l0,if_neg (Int.lt_irrefl _)]
  · have c1:(a:Int)<(T.length:Int):=Int.ofNat_lt.2 ha; exact Fnd.step (fun k=>by simp only[spec_l9Pair.l0,if_pos c1]) (l1 a ha)
 refine l0 _ ?_; cases h:pairM T T2 l with
 | some x=>exact .inl ⟨x,rfl,rfl⟩
 | none=>exact .inr ⟨rfl,Ev.now _⟩
theorem spec_l2Table_bits (l:List Int) (h:l.length≤maxLen):Ev (fun k=>spec_l2Table.l0 k l 0) (l.all (inR 0 1)):=by
 unfold maxLen at h; have st:∀ i:Nat,i<l.length→∀ k,spec_l2Table.l0 (k+1) l (i:Int)=if inR 0 1 (l.getD i 0)=true then spec_l2Table.l0 k l ((i+1:Nat):Int) else some false:=by
  intro i hi k; have c1:(i:Int)<(l.length:Int):=by omega
  have c0:0≤(i:Int):=by omega
  simp only[spec_l2Table.l0,if_pos c1,if_pos c0,rd_nat,spec_l1In_eq,Option.bind_some,wrap_succ hi (by omega:l.length≤9223372036854775807)]
 rw[← range_all l (inR 0 1) 0]; refine ev_all (L:=fun x k=>spec_l2Table.l0 k l x) (n:=l.length) (p:=fun (x:Nat)=>inR 0 1 (l.getD x 0)) (fun x hx h=>To.step fun k => ?_) (fun x hx h=>Ev.step' (f:=fun _=>some false) (fun k => ?_) (Ev.now _)) (Ev.step' (f:=fun _=>some true) (fun k=>by simp only[spec_l2Table.l0,if_neg (Int.lt_irrefl _)]) (Ev.now _))
 · show spec_l2Table.l0 (k+1) l (x:Int)=_
   rw[st x hx k,if_pos h]
 · show spec_l2Table.l0 (k+1) l (x:Int)=_
   rw[st x hx k,if_neg (by rw[h];decide)]
theorem spec_l2Table_ev4 (a:Int) (l:List Int) (h:l.length≤maxLen) (ha:0≤a∧a≤4):Ev (fun k=>spec_l2Table.f k a l) (tableB a l):=by
 have e:inR 0 4 a=true:=(inR_iff 0 4 a).2 (by omega); have c:0≤a:=by omega
 refine Ev.congr (g:=fun k=>spec_l2Table.f k a l) (f:=fun k=>spec_l2Table.j0 k l ((l.length:Int) != (shl .i64 1 a))) (fun k=>by simp only[spec_l2Table.f,spec_l1In_eq,e,Option.bind_some,if_true,if_pos c]) ?_; unfold tableB; by_cases q:(l.length:Int)=shl .i64 1 a
 · rw[decide_eq_true q,Bool.true_and,show ((l.length:Int) != shl .i64 1 a)=false from by simpa using q]; exact Ev.step' (f:=fun k=>spec_l2Table.l0 k l 0) (fun k=>by simp only[spec_l2Table.j0,Bool.false_eq_true,if_false]) (spec_l2Table_bits l h)
 · rw[decide_eq_false q,Bool.false_and,show ((l.length:Int) != shl .i64 1 a)=true from by simpa using q]; exact Ev.step' (f:=fun _=>some false) (fun k=>by simp only[spec_l2Table.j0,if_true]) (Ev.now _)
theorem spec_l2Table_ev (a:Int) (l:List Int) (h:l.length≤maxLen) (ha:1≤a∧a≤3):Ev (fun k=>spec_l2Table.f k a l) (tableB a l):=spec_l2Table_ev4 a l h (by omega)
def threeB (a:Int) (l:List Int):Bool:=inR 1 3 a && tableB a l
theorem spec_l9Three_ev (a:Int) (l:List Int) (h:l.length≤maxLen):Ev (fun k=>spec_l9Three.f k a l) (threeB a l):=by
 unfold threeB; cases e:inR 1 3 a with
 | false=>exact ev_const fun k=>by simp only[spec_l9Three.f,spec_l1In_eq,e,Option.bind_some,Bool.false_eq_true,if_false,Bool.false_and]
 | true =>
  rw[Bool.true_and]; refine Ev.congr (g:=fun k=>spec_l9Three.f k a l) (f:=fun k=>(spec_l2Table.f k a l).bind fun t=>some t) (fun k=>by simp only[spec_l9Three.f,spec_l1In_eq,e,Option.bind_some,if_true]) ?_; exact Ev.bind (spec_l2Table_ev a l h ((inR_iff 1 3 a).1 e)) (Ev.now _)
theorem three_tell {a:Int} {l:List Int} (h:threeB a l=true):∃ n:Nat,a=n∧1≤n∧n≤3∧l.length=2 ^ n∧∀ x∈l,x=0∨x=1:=by
 unfold threeB tableB at h; rw[Bool.and_eq_true,Bool.and_eq_true,inR_iff,decide_eq_true_eq,List.all_eq_true] at h; obtain ⟨h1,h2,h3⟩:=h; have e:shl .i64 1 a=((2 ^ a.toNat:Nat):Int):=by
  rcases (by omega:a=1∨a=2∨a=3) with rfl|rfl|rfl <;> decide +kernel
 refine ⟨a.toNat,by omega,by omega,by omega,by rw[e] at h2;exact Int.ofNat.inj h2,fun x hx => ?_⟩; have:=(inR_iff 0 1 x).1 (h3 x hx); omega
theorem flag_all (p:Nat→Bool) (n:Nat):(List.range n).foldl (fun (b:Bool) (i:Nat)=>if b=true then p i else false) true=(List.range n).all p:=by
 induction n with
 | zero=>rfl
 | succ n ih=>rw[List.range_succ,List.foldl_append,ih,List.all_append];simp
theorem or_two {x y:Int} (hx:x=0∨x=1) (hy:y=0∨y=1):Go.bits .or .i64 x (wrap64 (y*2))=x+2*y:=by
 rcases hx with rfl|rfl <;> rcases hy with rfl|rfl <;> decide +kernel
theorem impl_findPair_loop {l:List Int} (hl:l.length≤1000) {T T2:List (List Int)} (hT:∀ a∈T,a.length=l.length∧Bits a) (hT2:∀ c∈T2,c.length=4) (n1:T.length≤1000) (n2:T2.length≤1000) :
 Ev (fun k=>impl_findPair.l0 k l T T2 T (T.length:Int) 0) (match pairM T T2 l with|some r=>(r,true)|none=>([],false)):=by
 have l3:∀ (a b c:List Int) (x22 x28 x34:Int),a.length=l.length→b.length=l.length→c.length=4→Bits a→Bits b →
  To (fun k=>impl_findPair.l3 k l T T2 a b c true T (T.length:Int) x22 T (T.length:Int) x28 T2 (T2.length:Int) x34 l (l.length:Int) 0) (fun k=>impl_findPair.l3 k l T T2 a b c (joinB l a b c) T (T.length:Int) x22 T (T.length:Int) x28 T2 (T2.length:Int) x34 l (l.length:Int) (l.length:Int)):=by
  intro a b c x22 x28 x34 ha hb hc hA hB; have hf:=to_fold (L:=fun i (s:Bool) k=>impl_findPair.l3 k l T T2 a b c s T (T.length:Int) x22 T (T.length:Int) x28 T2 (T2.length:Int) x34 l (l.length:Int) i) (n:=l.length) (f:=fun (i:Nat) (s:Bool)=>if s=true then decide (c.getD (a.getD i 0+2*b.getD i 0).toNat 0=l.getD i 0) else false) (fun _ _=>True) (fun i s hi _=>⟨To.step fun k => ?_,trivial⟩) true trivial
  · have:=hf.1; rw[flag_all] at this; exact this
  · have h1:=bits_at hA (by omega:i<a.length); have h2:=bits_at hB (by omega:i<b.length); have c1:(i:Int)<(l.length:Int):=by omega
    have c0:0≤(i:Int):=by omega
    have c2:(i:Int)<(a.length:Int):=by omega
    have c3:(i:Int)<(b.length:Int):=by omega
    have c4:0≤a.getD i 0+2*b.getD i 0:=by omega
    have c5:a.getD i 0+2*b.getD i 0<(c.length:Int):=by omega
    have er:rd c (a.getD i 0+2*b.getD i 0)=c.getD (a.getD i 0+2*b.getD i 0).toNat 0:=rfl; have eb:(c.getD (a.getD i 0+2*b.getD i 0).toNat 0==l.getD i 0)=decide (c.getD (a.getD i 0+2*b.getD i 0).toNat 0=l.getD i 0):=rfl; have ws:=wrap_succ hi (by omega:l.length≤9223372036854775807); cases s with
    | true=>simp only[impl_findPair.l3,if_pos c1,if_pos c0,if_true,if_pos c2,if_pos c3,rd_nat,or_two h1 h2,if_pos c4,if_pos c5,er,eb,ws]
    | false=>simp only[impl_findPair.l3,if_pos c1,if_pos c0,Bool.false_eq_true,if_false,ws]
 have l2:∀ a b:Nat,a<T.length→b<T.length→Fnd (fun k=>impl_findPair.l2 k l T T2 (T.getD a []) (T.getD b []) T (T.length:Int) (a:Int) T (T.length:Int) (b:Int) T2 (T2.length:Int) 0) (T2.findSome? fun c=>joinM l (T.getD a []) (T.getD b []) c) (fun k=>impl_findPair.l1 k l T T2 (T.getD a []) T (T.length:Int) (a:Int) T (T.length:Int) ((b+1:Nat):Int)) (fun r=>(r,true)):=by
  intro a b ha hb; have hma:=hT _ (getD_mem ha []); have hmb:=hT _ (getD_mem hb []); refine fnd_list [] T2 (fun c k=>impl_findPair.l2 k l T T2 (T.getD a []) (T.getD b []) T (T.length:Int) (a:Int) T (T.length:Int) (b:Int) T2 (T2.length:Int) c) _ _ _ (Fnd.last fun k => ?_) fun c hc => ?_
  · simp only[impl_findPair.l2,if_neg (Int.lt_irrefl _),wrap_succ hb (by omega:T.length≤9223372036854775807)]
  · have hmc:=hT2 _ (getD_mem hc []); have c1:(c:Int)<(T2.length:Int):=Int.ofNat_lt.2 hc; have p3:0≤(c:Int):=by omega
    refine Fnd.step (f:=fun k=>impl_findPair.l3 k l T T2 (T.getD a []) (T.getD b []) (T2.getD c []) true T (T.length:Int) (a:Int) T (T.length:Int) (b:Int) T2 (T2.length:Int) (c:Int) l (l.length:Int) 0) (fun k=>by simp only[impl_findPair.l2,if_pos c1,if_pos p3,rdL2_nat,rdL3_nat]) ?_; intro r q; refine l3 (T.getD a []) (T.getD b []) (T2.getD c []) (a:Int) (b:Int) (c:Int) hma.1 hmb.1 hmc hma.2 hmb.2 r ?_; unfold joinM at q; cases hj:joinB l (T.getD a []) (T.getD b []) (T2.getD c []) with
    | true =>
     rw[hj] at q; rcases q with ⟨x,h1,rfl⟩|⟨h1,_⟩
     · simp only[if_true,Option.some.injEq] at h1; exact Ev.step' (f:=fun _=>some (x,true)) (fun k=>by simp only[impl_findPair.l3,if_neg (Int.lt_irrefl _),if_true,h1]) (Ev.now _)
     · simp at h1
    | false =>
     rw[hj] at q; rcases q with ⟨x,h1,rfl⟩|⟨_,h1⟩
     · simp at h1
     · exact Ev.step' (fun k=>by simp only[impl_findPair.l3,if_neg (Int.lt_irrefl _),Bool.false_eq_true,if_false,wrap_succ hc (by omega:T2.length≤9223372036854775807)]) h1
 have l1:∀ a:Nat,a<T.length→Fnd (fun k=>impl_findPair.l1 k l T T2 (T.getD a []) T (T.length:Int) (a:Int) T (T.length:Int) 0) (T.findSome? fun b=>T2.findSome? fun c=>joinM l (T.getD a []) b c) (fun k=>impl_findPair.l0 k l T T2 T (T.length:Int) ((a+1:Nat):Int)) (fun r=>(r,true)):=by
  intro a ha; refine fnd_list [] T (fun b k=>impl_findPair.l1 k l T T2 (T.getD a []) T (T.length:Int) (a:Int) T (T.length:Int) b) (fun b=>T2.findSome? fun c=>joinM l (T.getD a []) b c) _ _ (Fnd.last fun k => ?_) fun b hb => ?_
  · simp only[impl_findPair.l1,if_neg (Int.lt_irrefl _),wrap_succ ha (by omega:T.length≤9223372036854775807)]
  · have c1:(b:Int)<(T.length:Int):=Int.ofNat_lt.2 hb; have p1:0≤(b:Int):=by omega
    exact Fnd.step (fun k=>by simp only[impl_findPair.l1,if_pos c1,if_pos p1,rdL2_nat,rdL3_nat]) (l2 a b ha hb)
 have l0:Fnd (fun k=>impl_findPair.l0 k l T T2 T (T.length:Int) 0) (pairM T T2 l) (fun _=>some ([],false)) (fun r=>(r,true)):=by
  refine fnd_list [] T (fun a k=>impl_findPair.l0 k l T T2 T (T.length:Int) a) (fun a=>T.findSome? fun b=>T2.findSome? fun c=>joinM l a b c) _ _ (Fnd.last fun k => ?_) fun a ha => ?_
  · simp only[impl_findPair.l0,if_neg (Int.lt_irrefl _)]
  · have c1:(a:Int)<(T.length:Int):=Int.ofNat_lt.2 ha; have p1:0≤(a:Int):=by omega
    exact Fnd.step (fun k=>by simp only[impl_findPair.l0,if_pos c1,if_pos p1,rdL2_nat,rdL3_nat]) (l1 a ha)
 refine l0 _ ?_; cases h:pairM T T2 l with
 | some x=>exact .inl ⟨x,rfl,rfl⟩
 | none=>exact .inr ⟨rfl,Ev.now _⟩
def maskOf (ks:List Int):Nat:=ks.foldl (fun (m:Nat) (c:Int)=>m ||| (1 <<< c.toNat)) 0
theorem mask_mem:∀ (ks:List Int) (m c:Nat),(∀ x∈ks,0≤x)→(ks.foldl (fun (m:Nat) (c:Int)=>m ||| (1 <<< c.toNat)) m).testBit c=(m.testBit c||decide ((c:Int)∈ks))
 | [],m,c,_=>by simp
 | x::ks,m,c,h=>by
  have hx:=h x (List.mem_cons_self ..); rw[List.foldl_cons,mask_mem ks _ c (fun y hy=>h y (List.mem_cons_of_mem _ hy)),Nat.testBit_or,Nat.one_shiftLeft,Nat.testBit_two_pow,Bool.or_assoc]; congr 1
  by_cases e:(c:Int)=x
  · have:x.toNat=c:=by omega
    simp[e,this]
  · have:¬ x.toNat=c:=by omega
    simp[e,this]
theorem fold_if {β:Type} (p:Nat→Prop) [DecidablePred p] (f:Nat→β) (N:Nat):(List.range N).foldl (fun (T:List β) (c:Nat)=>if p c then T++[f c] else T) []=((List.range N).filter fun c=>decide (p c)).map f:=by
 induction N with
 | zero=>rfl
 | succ N ih =>
  rw[List.range_succ,List.foldl_append,ih,List.filter_append,List.map_append,List.foldl_cons,List.foldl_nil]; by_cases h:p N <;> simp[h]
theorem fold_flat {α β:Type} (f:α→List β):∀ (L:List α) (s:List β),L.foldl (fun s w=>s++f w) s=s++L.flatMap f
 | [],s=>by simp
 | w::L,s=>by rw[List.foldl_cons,fold_flat f L,List.flatMap_cons,List.append_assoc]
def okT (n M:Nat):Bool:=(List.range (2 ^ 2 ^ n)).all fun c=>(decide (0≤keyOf (2 ^ n) c) && decide (keyOf (2 ^ n) c<256)) && ((M.testBit (keyOf (2 ^ n) c).toNat==noTr n (rowOf (2 ^ n) c)) && (rowOf (2 ^ n) c).all fun x=>decide (x=0)||decide (x=1))
def okW (n:Nat):Bool:=decide ((allW 3 n).length≤400) && (allW 3 n).all fun w=>(codesOf n w).all fun x=>decide (0≤x) && decide (x<256)
theorem wf_small {x:Int} (h0:0≤x) (h:x<256):(Lit.int .i64 x).wf=true:=by
 obtain ⟨m,rfl⟩:∃ m:Nat,x=m:=⟨x.toNat,by omega⟩; have hm:m<256:=by omega
 have all:∀ m:Nat,m<256→(Lit.int .i64 ((m:Nat):Int)).wf=true:=by decide +kernel
 exact all m hm
structure Tabs (n:Nat):Prop where
 ev:Ev (fun k=>impl_thresholdTables.f k (n:Int)) (thrT n)
 rows:∀ a∈thrT n,a.length=2 ^ n∧Bits a
 len:(thrT n).length≤256
theorem thr_of {n M:Nat} (hn:n≤3) (hM:maskOf (ksM n)=M) (hT:okT n M=true) (hW:okW n=true):Tabs n:=by
 obtain ⟨h8,h256⟩:=two_small hn; unfold okW at hW; rw[Bool.and_eq_true,decide_eq_true_eq,List.all_eq_true] at hW; obtain ⟨hA,hW⟩:=hW; have hcode:∀ w∈allW 3 n,∀ x∈codesOf n w,0≤x∧x<256:=fun w hw x hx=>by
  have:=List.all_eq_true.1 (hW w hw) x hx; rw[Bool.and_eq_true,decide_eq_true_eq,decide_eq_true_eq] at this; exact this
 have hks:∀ x∈ksM n,0≤x:=fun x hx=>by
  unfold ksM at hx; rw[fold_flat,List.nil_append] at hx; obtain ⟨w,hw,hx⟩:=List.mem_flatMap.1 hx; exact (hcode w hw x hx).1
 have hc:∀ c<2 ^ 2 ^ n,(0≤keyOf (2 ^ n) c∧keyOf (2 ^ n) c<256)∧(decide (keyOf (2 ^ n) c∈ksM n)=noTr n (rowOf (2 ^ n) c))∧Bits (rowOf (2 ^ n) c):=fun c hc=>by
  have:=List.all_eq_true.1 hT c (List.mem_range.2 hc); rw[Bool.and_eq_true,Bool.and_eq_true,Bool.and_eq_true,decide_eq_true_eq,decide_eq_true_eq] at this; obtain ⟨⟨a1,a2⟩,a3,a4⟩:=this; refine ⟨⟨a1,a2⟩,?_,fun x hx => ?_⟩
  · have hm:=mask_mem (ksM n) 0 (keyOf (2 ^ n) c).toNat hks; rw[show (ksM n).foldl (fun (m:Nat) (c:Int)=>m ||| (1 <<< c.toNat)) 0=M from hM,Nat.zero_testBit,Bool.false_or,show (((keyOf (2 ^ n) c).toNat:Nat):Int)=keyOf (2 ^ n) c from by omega] at hm; rw[← hm]; exact eq_of_beq a3
  · have:=List.all_eq_true.1 a4 x hx; rw[Bool.or_eq_true,decide_eq_true_eq,decide_eq_true_eq] at this; exact this
 have hE:implT n=thrT n:=by
  unfold implT thrT; rw[fold_if (fun c=>keyOf (2 ^ n) c∈ksM n),fold_if (fun c=>noTr n (rowOf (2 ^ n) c)=true)]; congr 1
  refine List.filter_congr fun c h => ?_
  rw[(hc c (List.mem_range.1 h)).2.1]; simp
 have ev:=impl_thresholdTables_ev hn hA (fun w hw x hx=>wf_small (hcode w hw x hx).1 (hcode w hw x hx).2) (fun c h=>wf_small (hc c h).1.1 (hc c h).1.2); rw[hE] at ev; have ht:thrT n=((List.range (2 ^ 2 ^ n)).filter fun c=>decide (noTr n (rowOf (2 ^ n) c)=true)).map (rowOf (2 ^ n)):=by unfold thrT;rw[fold_if (fun c=>noTr n (rowOf (2 ^ n) c)=true)]
 refine ⟨ev,fun a ha => ?_,?_⟩
 · rw[ht] at ha; obtain ⟨c,hcm,rfl⟩:=List.mem_map.1 ha; exact ⟨rowOf_len _ _,(hc c (List.mem_range.1 (List.mem_filter.1 hcm).1)).2.2⟩
 · rw[ht,List.length_map]; have:=List.length_filter_le (fun c=>decide (noTr n (rowOf (2 ^ n) c)=true)) (List.range (2 ^ 2 ^ n)); rw[List.length_range] at this; omega
theorem tabs1:Tabs 1:=thr_of (M:=15) (by omega) (by decide +kernel) (by decide +kernel) (by decide +kernel)
theorem tabs2:Tabs 2:=thr_of (M:=64959) (by omega) (by decide +kernel) (by decide +kernel) (by decide +kernel)
theorem mask3:maskOf (ksM 3)=114774088598426388869345543170584872251251517579821845869595883549889770814911:=by decide +kernel
theorem okT3:okT 3 114774088598426388869345543170584872251251517579821845869595883549889770814911=true:=by decide +kernel
theorem okW3:okW 3=true:=by decide +kernel
theorem tabs3:Tabs 3:=thr_of (by omega) mask3 okT3 okW3
theorem tabs {n:Nat} (h:1≤n∧n≤3):Tabs n:=by
 match n,h with
 | 1,_=>exact tabs1
 | 2,_=>exact tabs2
 | 3,_=>exact tabs3
 | 0,h=>omega
 | n+4,h=>omega
def pairOut (a:Int) (l:List Int):List (List Int)×Bool:=if threeB a l=true then (match pairM (thrT a.toNat) (thrT 2) l with|some r=>(r,true)|none=>([],false)) else ([],false)
theorem joinM_tell {l a b c:List Int} {r:List (List Int)} (h:joinM l a b c=some r):r=[a,b,c]:=by
 unfold joinM at h; split at h
 · cases h;rfl
 · cases h
theorem pairM_tell {T T2:List (List Int)} {l:List Int} {r:List (List Int)} (h:pairM T T2 l=some r):∃ a b c,a∈T∧b∈T∧c∈T2∧r=[a,b,c]:=by
 obtain ⟨a,ha,h⟩:=List.exists_of_findSome?_eq_some h; obtain ⟨b,hb,h⟩:=List.exists_of_findSome?_eq_some h; obtain ⟨c,hc,h⟩:=List.exists_of_findSome?_eq_some h; exact ⟨a,b,c,ha,hb,hc,joinM_tell h⟩
theorem spec_l9Pair_ev {a:Int} {l:List Int} (hq:threeB a l=true):Ev (fun k=>spec_l9Pair.f k a l) ((pairM (thrT a.toNat) (thrT 2) l).getD []):=by
 obtain ⟨n,rfl,h1,h3,hl,_⟩:=three_tell hq; have h8:=(two_small h3).1; have t1:=tabs ⟨h1,h3⟩; refine Ev.bind (spec_l9Thresholds_ev h3) (Ev.bind (spec_l9Thresholds_ev (n:=2) (by omega)) ?_); exact spec_l9Pair_loop (by omega) (fun a ha=>by rw[hl];exact t1.rows a ha) (fun c hc=>(tabs2.rows c hc).1) (by have:=t1.len;omega) (by have:=tabs2.len;omega)
theorem impl_findPair_ev {a:Int} {l:List Int} (hq:threeB a l=true):Ev (fun k=>impl_findPair.f k a l) (match pairM (thrT a.toNat) (thrT 2) l with|some r=>(r,true)|none=>([],false)):=by
 obtain ⟨n,rfl,h1,h3,hl,_⟩:=three_tell hq; have h8:=(two_small h3).1; have t1:=tabs ⟨h1,h3⟩; refine Ev.bind t1.ev (Ev.bind tabs2.ev ?_); exact impl_findPair_loop (by omega) (fun a ha=>by rw[hl];exact t1.rows a ha) (fun c hc=>(tabs2.rows c hc).1) (by have:=t1.len;omega) (by have:=tabs2.len;omega)
theorem impl_copied_eq (l:List Int) (h:l.length≤1000):impl_copied.f l=some l:=by
 have c:([]:List Int).length+l.length<17592186044416:=by rw[List.length_nil];omega
 simp only[impl_copied.f,Option.bind_some,if_pos c,List.nil_append]
theorem impl_copies_ev (S:List (List Int)) (h:S.length≤1000) (hi:∀ x∈S,x.length≤1000):Ev (fun k=>impl_copies.f k S) S:=by
 refine ev_list [] S (fun i (s:List (List Int)) k=>impl_copies.l0 k s S (S.length:Int) i) (fun _ ys s=>s++ys) (fun i s=>s.length=i) (fun s _ => ?_) (fun i x ys s hi2 hx hm hs ih => ?_) [] rfl
 · exact Ev.step' (f:=fun _=>some s) (fun k=>by simp only[impl_copies.l0,if_neg (Int.lt_irrefl _)]) (by simpa using Ev.now _)
 · have c1:(i:Int)<(S.length:Int):=by omega
   have c0:0≤(i:Int):=by omega
   have c2:s.length<5864062014805:=by omega
   exact ev_eq (Ev.step' (f:=fun k=>impl_copies.l0 k (s++[x]) S (S.length:Int) ((i+1:Nat):Int)) (fun k=>by simp only[impl_copies.l0,if_pos c1,if_pos c0,if_pos c2,rdL2_nat,rdL3_nat,hx,impl_copied_eq x (hi x hm),Option.bind_some,wrap_succ hi2 (by omega:S.length≤9223372036854775807)]) (ih (s++[x]) (by simp[hs]))) (by simp)
theorem impl_FindPair_ev (a:Int) (l:List Int) (h:l.length≤maxLen):Ev (fun k=>impl_FindPair.f k a l) (pairOut a l):=by
 have no:Ev (fun k=>impl_FindPair.j0 k a l true) ([],false):=Ev.step' (f:=fun _=>some ([],false)) (fun k=>by simp only[impl_FindPair.j0,if_true]) (Ev.now _); cases e:inR 1 3 a with
 | false =>
  have hq:threeB a l=false:=by unfold threeB;rw[e];rfl
  unfold pairOut; rw[hq]; simp only[Bool.false_eq_true,if_false]; exact Ev.congr (fun k=>by simp only[impl_FindPair.f,impl_within_eq,e,Option.bind_some,Bool.false_eq_true,if_false]) no
 | true =>
  refine Ev.congr (g:=fun k=>impl_FindPair.f k a l) (f:=fun k=>(impl_isTable.f k a l).bind fun t=>impl_FindPair.j0 k a l (!t)) (fun k=>by simp only[impl_FindPair.f,impl_within_eq,e,Option.bind_some,if_true]) ?_; refine Ev.bind (impl_isTable_ev a l h ((inR_iff 1 3 a).1 e)) ?_; unfold pairOut; have e2:threeB a l=tableB a l:=by unfold threeB;rw[e];rfl
  cases hq:tableB a l with
  | false =>
   rw[e2,hq]; simp only[Bool.false_eq_true,if_false]; exact no
  | true =>
   rw[hq] at e2; rw[e2]; simp only[if_true]; refine Ev.step' (f:=fun k=>(impl_findPair.f k a l).bind fun bt=>if bt.2=true then (impl_copies.f k bt.1).bind fun t=>some (t,true) else some ([],false)) (fun k=>by simp only[impl_FindPair.j0,Bool.not_true,Bool.false_eq_true,if_false]) ?_; refine Ev.bind (impl_findPair_ev e2) ?_; cases hp:pairM (thrT a.toNat) (thrT 2) l with
   | none=>exact Ev.now _
   | some r =>
    obtain ⟨n,rfl,h1,h3,hl,_⟩:=three_tell e2; have h8:=(two_small h3).1; obtain ⟨x,y,z,hx,hy,hz,rfl⟩:=pairM_tell hp; have b1:=((tabs ⟨h1,h3⟩).rows x hx).1; have b2:=((tabs ⟨h1,h3⟩).rows y hy).1; have b3:=(tabs2.rows z hz).1; refine Ev.bind (impl_copies_ev [x,y,z] (by simp) (fun w hw => ?_)) (Ev.now _); simp only[List.mem_cons,List.not_mem_nil,or_false] at hw; rcases hw with rfl|rfl|rfl <;> omega
theorem spec_FindPair_ev (a:Int) (l:List Int) (h:l.length≤maxLen):Ev (fun k=>spec_FindPair.f k a l) (pairOut a l):=by
 refine Ev.bind (spec_l9Three_ev a l h) ?_; unfold pairOut; cases hq:threeB a l with
 | false=>simp only[Bool.false_eq_true,if_false];exact Ev.now _
 | true =>
  simp only[if_true]; refine Ev.bind (spec_l9Pair_ev hq) ?_; cases hp:pairM (thrT a.toNat) (thrT 2) l with
  | none=>exact Ev.now _
  | some r =>
   obtain ⟨x,y,z,_,_,_,rfl⟩:=pairM_tell hp; exact Ev.now _
def gapS (T ps:List Int):Int×Int:=(List.range T.length).foldl (fun (s:Int×Int) (i:Nat)=>if T.getD i 0=1 then (mn s.1 (ps.getD i 0),s.2) else (s.1,mx s.2 (ps.getD i 0))) (1000000000,-1000000000)
theorem impl_gap_ev (T ps:List Int) (h:T.length≤1000) (hp:T.length≤ps.length):Ev (fun k=>impl_gap.f k T ps) (gapS T ps):=by
 have hf:=to_fold (L:=fun i (s:Int×Int) k=>impl_gap.l0 k ps s.1 s.2 T (T.length:Int) i) (n:=T.length) (f:=fun (i:Nat) (s:Int×Int)=>if T.getD i 0=1 then (mn s.1 (ps.getD i 0),s.2) else (s.1,mx s.2 (ps.getD i 0))) (fun _ _=>True) (fun i s hi _=>⟨To.step fun k => ?_,trivial⟩) (1000000000,-1000000000) trivial
 · exact hf.1 _ (Ev.step' (f:=fun _=>some (gapS T ps)) (fun k=>by simp only[impl_gap.l0,if_neg (Int.lt_irrefl _)];rfl) (Ev.now _))
 · have c1:(i:Int)<(T.length:Int):=by omega
   have c0:0≤(i:Int):=by omega
   have c2:(i:Int)<(ps.length:Int):=by omega
   have ws:=wrap_succ hi (by omega:T.length≤9223372036854775807); by_cases q:T.getD i 0=1
   · simp only[impl_gap.l0,if_pos c1,if_pos c0,rd_nat,if_pos q,if_pos c2,ws]
   · simp only[impl_gap.l0,if_pos c1,if_pos c0,rd_nat,if_neg q,if_pos c2,ws]
theorem gap_tell (T ps:List Int):∀ m:Nat,∀ i<m,(T.getD i 0=1→((List.range m).foldl (fun (s:Int×Int) (i:Nat)=>if T.getD i 0=1 then (mn s.1 (ps.getD i 0),s.2) else (s.1,mx s.2 (ps.getD i 0))) (1000000000,-1000000000)).1≤ps.getD i 0)∧(¬ T.getD i 0=1→ps.getD i 0≤((List.range m).foldl (fun (s:Int×Int) (i:Nat)=>if T.getD i 0=1 then (mn s.1 (ps.getD i 0),s.2) else (s.1,mx s.2 (ps.getD i 0))) (1000000000,-1000000000)).2)
 | 0,i,h=>by omega
 | m+1,i,h=>by
  rw[List.range_succ,List.foldl_append,List.foldl_cons,List.foldl_nil]; have ih:=gap_tell T ps m i; generalize (List.range m).foldl (fun (s:Int×Int) (i:Nat)=>if T.getD i 0=1 then (mn s.1 (ps.getD i 0),s.2) else (s.1,mx s.2 (ps.getD i 0))) (1000000000,-1000000000)=S at ih ⊢; by_cases e:i=m
  · subst e; refine ⟨fun h1 => ?_,fun h1 => ?_⟩
    · rw[if_pos h1];show mn _ _≤_;unfold mn;split <;> omega
    · rw[if_neg h1];show _≤mx _ _;unfold mx;split <;> omega
  · have ih:=ih (by omega); by_cases q:T.getD m 0=1
    · rw[if_pos q]; exact ⟨fun h1=>by have:=ih.1 h1;show mn _ _≤_;unfold mn;split <;> omega,ih.2⟩
    · rw[if_neg q]; exact ⟨ih.1,fun h1=>by have:=ih.2 h1;show _≤mx _ _;unfold mx;split <;> omega⟩
def okW2 (n:Nat) (T x:List Int):Bool:=decide ((gapS T (prodL n x)).2<(gapS T (prodL n x)).1)
def gstep (n:Nat) (T x:List Int) (s:List Int×Int×Int):List Int×Int×Int:=if impl_leastPlane.sum x≥s.2.2 then s else if (gapS T (prodL n x)).1≤(gapS T (prodL n x)).2 then s else if (gapS T (prodL n x)).1=1000000000 then (x,wrap64 ((gapS T (prodL n x)).2+1),impl_leastPlane.sum x) else (x,(gapS T (prodL n x)).1,impl_leastPlane.sum x)
theorem leastPlane_step {n:Nat} (hn:n≤4) {T:List Int} (hT:T.length=2 ^ n) (x:List Int) (hx:x.length=n) (s:List Int×Int×Int):Ev (fun j=>impl_leastPlane.step j (n:Int) T x s) (gstep n T x s):=by
 have h8:2 ^ n≤2 ^ 4:=Nat.pow_le_pow_right (by omega) hn; have c:x.length<1000:=by omega
 unfold impl_leastPlane.step gstep; simp only[if_pos c]; by_cases c1:impl_leastPlane.sum x≥s.2.2
 · simp only[if_pos c1];exact Ev.now _
 · simp only[if_neg c1]; refine Ev.bind (impl_productsOf_ev (by omega) x hx) (Ev.bind (impl_gap_ev T (prodL n x) (by omega) (by rw[prodL_len];omega)) ?_); by_cases c2:(gapS T (prodL n x)).1≤(gapS T (prodL n x)).2
   · simp only[if_pos c2];exact Ev.now _
   · simp only[if_neg c2]; by_cases c3:(gapS T (prodL n x)).1=1000000000
     · simp only[if_pos c3];exact Ev.now _
     · simp only[if_neg c3];exact Ev.now _
theorem least_ok (n:Nat) (T:List Int):∀ (L:List (List Int)) (s:List Int×Int×Int),(∀ x∈L,impl_leastPlane.sum x<1000000000)→s.2.2≤1000000000 →
 decide ((L.foldl (fun s x=>gstep n T x s) s).2.2<1000000000)=(decide (s.2.2<1000000000)||L.any (okW2 n T))
 | [],s,_,_=>by rw[List.any_nil,Bool.or_false];exact decide_eq_decide.2 Iff.rfl
 | x::L,s,h,hs=>by
  have hx:=h x (List.mem_cons_self ..); have hg:(gstep n T x s).2.2≤1000000000∧decide ((gstep n T x s).2.2<1000000000)=(decide (s.2.2<1000000000)||okW2 n T x):=by
   unfold gstep okW2; by_cases c1:impl_leastPlane.sum x≥s.2.2
   · rw[if_pos c1,decide_eq_true (by omega:s.2.2<1000000000)];exact ⟨hs,rfl⟩
   · rw[if_neg c1]; by_cases c2:(gapS T (prodL n x)).1≤(gapS T (prodL n x)).2
     · rw[if_pos c2,decide_eq_false (by omega:¬ (gapS T (prodL n x)).2<(gapS T (prodL n x)).1),Bool.or_false];exact ⟨hs,rfl⟩
     · rw[if_neg c2,decide_eq_true (by omega:(gapS T (prodL n x)).2<(gapS T (prodL n x)).1),Bool.or_true]; split <;> exact ⟨Int.le_of_lt hx,decide_eq_true hx⟩
  rw[List.foldl_cons,least_ok n T L _ (fun y hy=>h y (List.mem_cons_of_mem _ hy)) hg.1,hg.2,List.any_cons,Bool.or_assoc]
theorem sums_small {n:Nat} (hn:n≤4):∀ x∈allW 3 n,impl_leastPlane.sum x<1000000000:=by
 have all:(List.range 5).all (fun n=>(allW 3 n).all fun x=>decide (impl_leastPlane.sum x<1000000000))=true:=by decide +kernel
 intro x hx; exact of_decide_eq_true (List.all_eq_true.1 (List.all_eq_true.1 all n (List.mem_range.2 (by omega))) x hx)
theorem impl_leastPlane_ev {n:Nat} (hn:n≤3) {T:List Int} (hT:T.length=2 ^ n):∃ r,Ev (fun k=>impl_leastPlane.f k (n:Int) T) r∧r.2.2.2=(allW 3 n).any (okW2 n T):=by
 refine ⟨(((allW 3 n).foldl (fun s x=>gstep n T x s) ([],0,1000000000)).1,((allW 3 n).foldl (fun s x=>gstep n T x s) ([],0,1000000000)).2.1,((allW 3 n).foldl (fun s x=>gstep n T x s) ([],0,1000000000)).2.2,decide (((allW 3 n).foldl (fun s x=>gstep n T x s) ([],0,1000000000)).2.2<1000000000)),?_,?_⟩
 · exact Ev.bind (impl_smallWeights_ev (n:=n) (m:=3) (by omega) (by omega) (fun j x s=>impl_leastPlane.step j (n:Int) T x s) (fun x s=>gstep n T x s) (fun _ _=>True) (fun w s hw _=>leastPlane_step (by omega) hT w hw s) ([],0,1000000000) (fun _ _ _ _=>trivial)) (Ev.now _)
 · show decide _=_
   rw[least_ok n T _ _ (sums_small (by omega)) (Int.le_refl _)]; simp
def lpM (n:Nat) (T:List Int):List Int×Int×Int:=(allW 3 n).foldl (fun s x=>gstep n T x s) ([],0,1000000000)
theorem impl_leastPlane_full {n:Nat} (hn:n≤4) {T:List Int} (hT:T.length=2 ^ n):Ev (fun k=>impl_leastPlane.f k (n:Int) T) ((lpM n T).1,(lpM n T).2.1,(lpM n T).2.2,decide ((lpM n T).2.2<1000000000)) :=
 Ev.bind (impl_smallWeights_ev (n:=n) (m:=3) (by omega) (by omega) (fun j x s=>impl_leastPlane.step j (n:Int) T x s) (fun x s=>gstep n T x s) (fun _ _=>True) (fun w s hw _=>leastPlane_step hn hT w hw s) ([],0,1000000000) (fun _ _ _ _=>trivial)) (Ev.now _)
def dotN (w x:List Int) (m:Nat):Int:=(List.range m).foldl (fun (s:Int) (i:Nat)=>wrap64 (s+wrap64 (w.getD i 0*x.getD i 0))) 0
theorem dotN_succ (w x:List Int) (m:Nat):dotN w x (m+1)=wrap64 (dotN w x m+wrap64 (w.getD m 0*x.getD m 0)):=by unfold dotN;rw[List.range_succ,List.foldl_append];rfl
theorem dotN_bd {w x:List Int} (hw:∀ y∈w,-3≤y∧y≤3) (hl:w.length≤1000) (hx:∀ i<w.length,x.getD i 0=0∨x.getD i 0=1):∀ m:Nat,m≤w.length→(-3*(m:Int)≤dotN w x m∧dotN w x m≤3*(m:Int))∧(m<w.length→dotN w x (m+1)=dotN w x m+w.getD m 0*x.getD m 0)
 | 0,_=>by
  refine ⟨by unfold dotN;simp,fun h => ?_⟩; have h1:=hw _ (getD_mem h 0); rw[dotN_succ,show dotN w x 0=0 from rfl]; rcases hx 0 h with e|e <;> rw[e] <;> simp only[Int.mul_zero,Int.mul_one] <;> unfold wrap64 <;> omega
 | m+1,h=>by
  obtain ⟨ih,ih2⟩:=dotN_bd hw hl hx m (by omega); have ih2:=ih2 (by omega); have hm:=hw _ (getD_mem (by omega:m<w.length) 0); have bd : -3*((m+1:Nat):Int)≤dotN w x (m+1)∧dotN w x (m+1)≤3*((m+1:Nat):Int):=by
   rw[ih2]; rcases hx m (by omega) with e|e <;> rw[e] <;> simp only[Int.mul_zero,Int.mul_one] <;> omega
  refine ⟨bd,fun h => ?_⟩; have h1:=hw _ (getD_mem h 0); rw[dotN_succ]; rcases hx (m+1) h with e|e <;> rw[e] <;> simp only[Int.mul_zero,Int.mul_one] <;> unfold wrap64 <;> omega
theorem allW_mem (m:Nat):∀ (d:Nat) (t:List Int),t∈allW m d→∀ y∈t,-(m:Int)≤y∧y≤m
 | 0,t,h,y,hy=>by rw[List.mem_singleton.1 h] at hy;cases hy
 | d+1,t,h,y,hy=>by
  obtain ⟨i,hi,h⟩:=List.mem_flatMap.1 h; have hi:=List.mem_range.1 hi; obtain ⟨u,hu,rfl⟩:=List.mem_map.1 h; rcases List.mem_cons.1 hy with rfl|hy
  · omega
  · exact allW_mem m d u hu y hy
theorem bitPt01 {n:Nat} (hn:n≤4) {c:Nat} (hc:c<16) (i:Nat) (hi:i<n):(bitPt n (c:Int)).getD i 0=0∨(bitPt n (c:Int)).getD i 0=1:=by
 have all:(List.range 16).all (fun c=>(List.range 4).all fun b=>decide (Go.bits .and .i64 (shr .i64 (c:Int) (b:Int)) 1=0)||decide (Go.bits .and .i64 (shr .i64 (c:Int) (b:Int)) 1=1))=true:=by decide +kernel
 have h:=List.all_eq_true.1 (List.all_eq_true.1 all c (List.mem_range.2 hc)) i (List.mem_range.2 (by omega)); rw[Bool.or_eq_true,decide_eq_true_eq,decide_eq_true_eq] at h; have e:(bitPt n (c:Int)).getD i 0=Go.bits .and .i64 (shr .i64 (c:Int) (i:Int)) 1:=by
  unfold bitPt; rw[List.getD_eq_getElem?_getD,List.getElem?_map,List.getElem?_range hi]; rfl
 rw[e];exact h
theorem prodL_get {n:Nat} {w:List Int} {c:Nat} (hc:c<2 ^ n):(prodL n w).getD c 0=dotW w (bitPt n (c:Int)):=by
 unfold prodL; rw[List.getD_eq_getElem?_getD,List.getElem?_map,List.getElem?_range hc]; rfl
theorem prodL_bd {n:Nat} (hn:n≤4) {w:List Int} (hw:w∈allW 3 n) {c:Nat} (hc:c<2 ^ n) : -12≤(prodL n w).getD c 0∧(prodL n w).getD c 0≤12:=by
 have hl:=allW_len 3 n w hw; have hm:=allW_mem 3 n w hw; have h16:2 ^ n≤2 ^ 4:=Nat.pow_le_pow_right (by omega) hn; have h:=(dotN_bd (w:=w) (x:=bitPt n (c:Int)) (fun y hy=>by have:=hm y hy;omega) (by omega) (fun i hi=>bitPt01 hn (by omega) i (by omega)) w.length (Nat.le_refl _)).1; rw[prodL_get hc]; change _≤dotW w (bitPt n (c:Int))∧dotW w (bitPt n (c:Int))≤_ at h
 omega
def partG (T ps:List Int) (s:Int×Int×Int×Int) (i:Nat):Int×Int×Int×Int :=
 if T.getD i 0=1 then (s.1+1,s.2.1,(if s.1=0 then ps.getD i 0 else if ps.getD i 0<s.2.2.1 then ps.getD i 0 else s.2.2.1),s.2.2.2)
 else (s.1,s.2.1+1,s.2.2.1,if s.2.1=0 then ps.getD i 0 else if ps.getD i 0>s.2.2.2 then ps.getD i 0 else s.2.2.2)
def partS (T ps:List Int) (m:Nat):Int×Int×Int×Int:=(List.range m).foldl (partG T ps) (0,0,0,0)
def gapN (T ps:List Int) (m:Nat):Int×Int:=(List.range m).foldl (fun (s:Int×Int) (i:Nat)=>if T.getD i 0=1 then (mn s.1 (ps.getD i 0),s.2) else (s.1,mx s.2 (ps.getD i 0))) (1000000000,-1000000000)
structure PartR (T:List Int) (m:Nat) (g:Int×Int) (s:Int×Int×Int×Int):Prop where
 p1:0≤s.1
 p2:0≤s.2.1
 p3:s.1+s.2.1=m
 n1:s.1=0→g.1=1000000000
 y1:s.1≠0→g.1=s.2.2.1 ∧ -12≤g.1∧g.1≤12
 n2:s.2.1=0→g.2 = -1000000000
 y2:s.2.1≠0→g.2=s.2.2.2 ∧ -12≤g.2∧g.2≤12
 h0:s.1=0→∀ i<m,T.getD i 0≠1
 h1:s.1≠0→∃ i,i<m∧T.getD i 0=1
theorem part_rel (T ps:List Int):∀ m:Nat,(∀ i<m,-12≤ps.getD i 0∧ps.getD i 0≤12)→PartR T m (gapN T ps m) (partS T ps m)
 | 0,_=>⟨Int.le_refl _,Int.le_refl _,rfl,fun _=>rfl,fun h=>absurd rfl h,fun _=>rfl,fun h=>absurd rfl h,fun _ i h=>absurd h (Nat.not_lt_zero _),fun h=>absurd rfl h⟩
 | m+1,hb=>by
  have ih:=part_rel T ps m (fun i hi=>hb i (by omega)); have hp:=hb m (by omega); have e1:gapN T ps (m+1)=if T.getD m 0=1 then (mn (gapN T ps m).1 (ps.getD m 0),(gapN T ps m).2) else ((gapN T ps m).1,mx (gapN T ps m).2 (ps.getD m 0)):=by unfold gapN;rw[List.range_succ,List.foldl_append];rfl
  have e2:partS T ps (m+1)=partG T ps (partS T ps m) m:=by unfold partS;rw[List.range_succ,List.foldl_append];rfl
  rw[e1,e2]; generalize gapN T ps m=g at ih ⊢; generalize partS T ps m=s at ih ⊢; obtain ⟨g1,g2⟩:=g; obtain ⟨s1,s2,s3,s4⟩:=s; obtain ⟨p1,p2,p3,n1,y1,n2,y2,h0,h1⟩:=ih; simp only at p1 p2 p3 n1 y1 n2 y2 h0 h1; unfold partG; by_cases q:T.getD m 0=1
  · simp only[if_pos q]; refine ⟨by show 0≤s1+1;omega,p2,by show s1+1+s2=_;omega,fun h => ?_,fun _ => ?_,n2,y2,fun h => ?_,fun _=>⟨m,by omega,q⟩⟩
    · have h:s1+1=0:=h; omega
    · show mn g1 (ps.getD m 0)=(if s1=0 then ps.getD m 0 else if ps.getD m 0<s3 then ps.getD m 0 else s3) ∧ -12≤mn g1 (ps.getD m 0)∧mn g1 (ps.getD m 0)≤12
      generalize ps.getD m 0=p at hp ⊢; by_cases c:s1=0
      · have:=n1 c;rw[if_pos c];unfold mn;split <;> omega
      · have:=y1 c;rw[if_neg c];unfold mn;split <;> split <;> omega
    · have h:s1+1=0:=h; omega
  · simp only[if_neg q]; refine ⟨p1,by show 0≤s2+1;omega,by show s1+(s2+1)=_;omega,n1,y1,fun h => ?_,fun _ => ?_,fun h i hi => ?_,fun h => ?_⟩
    · have h:s2+1=0:=h; omega
    · show mx g2 (ps.getD m 0)=(if s2=0 then ps.getD m 0 else if ps.getD m 0>s4 then ps.getD m 0 else s4) ∧ -12≤mx g2 (ps.getD m 0)∧mx g2 (ps.getD m 0)≤12
      generalize ps.getD m 0=p at hp ⊢; by_cases c:s2=0
      · have:=n2 c;rw[if_pos c];unfold mx;split <;> omega
      · have:=y2 c;rw[if_neg c];unfold mx;split <;> split <;> omega
    · by_cases e:i=m
      · subst e;exact q
      · exact h0 h i (by omega)
    · obtain ⟨i,hi,hq⟩:=h1 h; exact ⟨i,by omega,hq⟩
def partsM (T ps:List Int):Int×Int×Bool:=((partS T ps T.length).2.2.1,(partS T ps T.length).2.2.2,decide ((gapS T ps).2<(gapS T ps).1))
theorem allW_snoc (m:Nat):∀ d:Nat,allW m (d+1)=(allW m d).flatMap fun t=>(List.range (2*m+1)).map fun (i:Nat)=>t++[(i:Int)-m]
 | 0=>by simp[allW,List.flatMap_cons,List.map_eq_flatMap]
 | d+1=>by
  have ih:=allW_snoc m d; rw[show allW m (d+1+1)=(List.range (2*m+1)).flatMap fun (i:Nat)=>(allW m (d+1)).map (((i:Int)-m) :: ·) from rfl]; conv=>lhs;rw[ih]
  rw[show allW m (d+1)=(List.range (2*m+1)).flatMap fun (i:Nat)=>(allW m d).map (((i:Int)-m) :: ·) from rfl]; rw[List.flatMap_assoc]; congr 1
  funext i
  rw[List.map_flatMap,List.flatMap_map]; congr 1
  funext t
  rw[List.map_map]; rfl
theorem spec_l5Parts_ev {n:Nat} (hn:n≤4) {T:List Int} (hT:T.length=2 ^ n) {w:List Int} (hw:w∈allW 3 n):Ev (fun k=>spec_l5Parts.f k (n:Int) T w) (partsM T (prodL n w)):=by
 have h16:2 ^ n≤2 ^ 4:=Nat.pow_le_pow_right (by omega) hn; have hl:=allW_len 3 n w hw; have hf:=to_fold (L:=fun i (s:Int×Int×Int×Int) k=>spec_l5Parts.l0 k (n:Int) T w s.1 s.2.1 s.2.2.1 s.2.2.2 i) (n:=T.length) (f:=fun i s=>partG T (prodL n w) s i) (fun i s=>0≤s.1∧0≤s.2.1∧s.1+s.2.1=(i:Int)) (fun i s hi hs => ?_) (0,0,0,0) ⟨by decide,by decide,by decide⟩
 · refine hf.1 _ ?_; have hr:=part_rel T (prodL n w) T.length (fun i hi=>prodL_bd hn hw (by omega)); have e:(List.range T.length).foldl (fun s i=>partG T (prodL n w) s i) (0,0,0,0)=partS T (prodL n w) T.length:=rfl; rw[e]; have eg:gapN T (prodL n w) T.length=gapS T (prodL n w):=rfl; rw[eg] at hr; unfold partsM; generalize partS T (prodL n w) T.length=s at hr ⊢; generalize gapS T (prodL n w)=g at hr ⊢; obtain ⟨p1,p2,p3,n1,y1,n2,y2,h0,h1⟩:=hr; refine Ev.step' (f:=fun _=>some (s.2.2.1,s.2.2.2,decide (g.2<g.1))) (fun k => ?_) (Ev.now _); simp only[spec_l5Parts.l0,if_neg (Int.lt_irrefl _)]; by_cases c1:s.1=0
   · have:=n1 c1; have:g.2<g.1:=by
      by_cases c2:s.2.1=0
      · have:=n2 c2;omega
      · have:=y2 c2;omega
     rw[if_pos c1,decide_eq_true this]
   · have:=y1 c1; rw[if_neg c1]; by_cases c2:s.2.1=0
     · have:=n2 c2; rw[if_pos c2,decide_eq_true (by omega:g.2<g.1)]
     · have:=y2 c2; rw[if_neg c2]; have:(s.2.2.1>s.2.2.2)↔g.2<g.1:=by omega
       rw[decide_eq_decide.2 this]
 · obtain ⟨i1,i2,i3⟩:=hs; have c1:(i:Int)<(T.length:Int):=by omega
   have c0:0≤(i:Int):=by omega
   have ws:=wrap_succ hi (by omega:T.length≤9223372036854775807); have w1:wrap64 (s.1+1)=s.1+1:=wrap_id (by omega) (by omega); have w2:wrap64 (s.2.1+1)=s.2.1+1:=wrap_id (by omega) (by omega); refine ⟨?_,?_⟩
   · refine (To.step (f:=fun k=>(spec_l2BitPoint.f k (n:Int) (i:Int)).bind fun t=>(spec_l2Dot.f k w t).bind fun u=>if T.getD i 0=1 then (if s.1=0 then spec_l5Parts.l0 k (n:Int) T w (s.1+1) s.2.1 u s.2.2.2 ((i+1:Nat):Int) else (if u<s.2.2.1 then spec_l5Parts.l0 k (n:Int) T w (s.1+1) s.2.1 u s.2.2.2 ((i+1:Nat):Int) else spec_l5Parts.l0 k (n:Int) T w (s.1+1) s.2.1 s.2.2.1 s.2.2.2 ((i+1:Nat):Int))) else (if s.2.1=0 then spec_l5Parts.l0 k (n:Int) T w s.1 (s.2.1+1) s.2.2.1 u ((i+1:Nat):Int) else (if u>s.2.2.2 then spec_l5Parts.l0 k (n:Int) T w s.1 (s.2.1+1) s.2.2.1 u ((i+1:Nat):Int) else spec_l5Parts.l0 k (n:Int) T w s.1 (s.2.1+1) s.2.2.1 s.2.2.2 ((i+1:Nat):Int)))) (fun k => ?_)).trans ((To.bind (spec_l2BitPoint_ev n (i:Int) (by omega))).trans ((To.bind (spec_l2Dot_ev w _ (by unfold maxLen;omega) (by rw[bitPt_len];omega))).trans (To.congr fun k => ?_)))
     · simp only[spec_l5Parts.l0,if_pos c1,if_pos c0,rd_nat,ws,w1,w2]
     · rw[← prodL_get (n:=n) (w:=w) (c:=i) (by omega)]; unfold partG; by_cases q:T.getD i 0=1
       · simp only[if_pos q]; by_cases c:s.1=0
         · simp only[if_pos c]
         · simp only[if_neg c]; by_cases c3:(prodL n w).getD i 0<s.2.2.1
           · simp only[if_pos c3]
           · simp only[if_neg c3]
       · simp only[if_neg q]; by_cases c:s.2.1=0
         · simp only[if_pos c]
         · simp only[if_neg c]; by_cases c3:(prodL n w).getD i 0>s.2.2.2
           · simp only[if_pos c3]
           · simp only[if_neg c3]
   · show 0≤(partG T (prodL n w) s i).1∧0≤(partG T (prodL n w) s i).2.1∧(partG T (prodL n w) s i).1+(partG T (prodL n w) s i).2.1=((i+1:Nat):Int)
     unfold partG; split
     · show 0≤s.1+1∧0≤s.2.1∧s.1+1+s.2.1=_;omega
     · show 0≤s.1∧0≤s.2.1+1∧s.1+(s.2.1+1)=_;omega
def gatesM (a:Int) (l:List Int):Int×Bool:=if threeB a l=true then (if noTr a.toNat l=true then (1,true) else if (pairM (thrT a.toNat) (thrT 2) l).isSome=true then (2,true) else (3,true)) else (0,false)
theorem spec_GatesNeeded_ev (a:Int) (l:List Int) (h:l.length≤maxLen):Ev (fun k=>spec_GatesNeeded.f k a l) (gatesM a l):=by
 refine Ev.bind (spec_l9Three_ev a l h) ?_; unfold gatesM; cases hq:threeB a l with
 | false=>simp only[Bool.false_eq_true,if_false];exact Ev.now _
 | true =>
  simp only[if_true]; have hp:=spec_l9Pair_ev hq; obtain ⟨n,rfl,h1,h3,hl,_⟩:=three_tell hq; have h8:=(two_small h3).1; obtain ⟨r,hr,e⟩:=spec_l5Find_ev (n:=n) (t:=l) (by omega) (by omega); refine Ev.bind hr ?_; rw[Int.toNat_natCast] at hp ⊢; by_cases hn:noTr n l=true
  · have hz:(r.length:Int)=0:=by rw[e.2 hn];rfl
    simp only[if_pos hz,if_pos hn]; exact Ev.now _
  · have hz:¬ (r.length:Int)=0:=fun h=>hn (e.1 (List.length_eq_zero_iff.1 (by omega)))
    simp only[if_neg hz,if_neg hn]; refine Ev.bind hp ?_; cases hpm:pairM (thrT n) (thrT 2) l with
    | none=>exact Ev.now _
    | some r =>
     obtain ⟨x,y,z,_,_,_,rfl⟩:=pairM_tell hpm; exact Ev.now _
theorem trade_dot {w p q r s:List Int} (hw:∀ y∈w,-3≤y∧y≤3) (hl:w.length≤1000) (hp:∀ i<w.length,p.getD i 0=0∨p.getD i 0=1) (hq:∀ i<w.length,q.getD i 0=0∨q.getD i 0=1) (hr:∀ i<w.length,r.getD i 0=0∨r.getD i 0=1) (hs:∀ i<w.length,s.getD i 0=0∨s.getD i 0=1)
 (hE:∀ i<w.length,p.getD i 0+q.getD i 0=r.getD i 0+s.getD i 0):∀ m:Nat,m≤w.length→dotN w p m+dotN w q m=dotN w r m+dotN w s m
 | 0,_=>rfl
 | m+1,h=>by
  have ih:=trade_dot hw hl hp hq hr hs hE m (by omega); have e:=hE m (by omega); rw[(dotN_bd hw hl hp m (by omega)).2 (by omega),(dotN_bd hw hl hq m (by omega)).2 (by omega),(dotN_bd hw hl hr m (by omega)).2 (by omega),(dotN_bd hw hl hs m (by omega)).2 (by omega)]; have:=congrArg (w.getD m 0 * ·) e; simp only[Int.mul_add] at this; omega
theorem bitAt_01:∀ i:Nat,i<8→∀ b:Nat,b<3→bitAt i b=0∨bitAt i b=1:=by
 have all:(List.range 8).all (fun i=>(List.range 3).all fun b=>decide (bitAt i b=0)||decide (bitAt i b=1))=true:=by decide +kernel
 intro i hi b hb; have:=List.all_eq_true.1 (List.all_eq_true.1 all i (List.mem_range.2 hi)) b (List.mem_range.2 hb); rw[Bool.or_eq_true,decide_eq_true_eq,decide_eq_true_eq] at this; exact this
theorem bitPt_at {n:Nat} (c b:Nat) (h:b<n):(bitPt n (c:Int)).getD b 0=bitAt c b:=by
 unfold bitPt bitAt; rw[List.getD_eq_getElem?_getD,List.getElem?_map,List.getElem?_range h]; rfl
theorem prodL_at {n:Nat} {w:List Int} (hw:w.length=n) {c:Nat} (hc:c<2 ^ n):(prodL n w).getD c 0=dotN w (bitPt n (c:Int)) w.length:=by
 unfold prodL; rw[List.getD_eq_getElem?_getD,List.getElem?_map,List.getElem?_range hc]; rfl
theorem ok_noTr {n:Nat} (h3:n≤3) {T:List Int} (hT:T.length=2 ^ n) (hB:Bits T) {w:List Int} (hw:w∈allW 3 n) (hok:okW2 n T w=true):noTr n T=true:=by
 have h8:=(two_small h3).1; have hl:=allW_len 3 n w hw; have hb:=allW_mem 3 n w hw; have hg:=of_decide_eq_true hok; have no:∀ i j k l:Nat,i<T.length→j<T.length→k<T.length→l<T.length→tradeB n T i j k l=false:=by
  intro i j k l hi hj hk hl'; cases ht:tradeB n T i j k l with
  | false=>rfl
  | true =>
   exfalso
   unfold tradeB at ht; rw[Bool.and_eq_true,Bool.and_eq_true,decide_eq_true_eq,decide_eq_true_eq,List.all_eq_true] at ht; obtain ⟨t1,t2,t3⟩:=ht; have b1:=bits_at hB hi; have b2:=bits_at hB hj; have b3:=bits_at hB hk; have b4:=bits_at hB hl'; have u1:T.getD i 0=1∧T.getD j 0=1:=by
    rcases b1 with e1|e1 <;> rcases b2 with e2|e2 <;> rw[e1,e2] at t1 <;> revert t1 <;> rw[e1,e2] <;> decide +kernel
   have u2:T.getD k 0=0∧T.getD l 0=0:=by
    rcases b3 with e1|e1 <;> rcases b4 with e2|e2 <;> rw[e1,e2] at t2 <;> revert t2 <;> rw[e1,e2] <;> decide +kernel
   have g1:=(gap_tell T (prodL n w) T.length i hi).1 u1.1; have g2:=(gap_tell T (prodL n w) T.length j hj).1 u1.2; have g3:=(gap_tell T (prodL n w) T.length k hk).2 (by rw[u2.1];decide); have g4:=(gap_tell T (prodL n w) T.length l hl').2 (by rw[u2.2];decide); change (gapS T (prodL n w)).1≤_ at g1 g2
   change _≤(gapS T (prodL n w)).2 at g3 g4
   rw[prodL_at hl (by omega)] at g1 g2 g3 g4; have pt:∀ c<T.length,∀ i<w.length,(bitPt n (c:Int)).getD i 0=0∨(bitPt n (c:Int)).getD i 0=1:=fun c hc i hi=>by
    rw[bitPt_at c i (by omega)];exact bitAt_01 c (by omega) i (by omega)
   have:=trade_dot (fun y hy=>by have:=hb y hy;omega) (by omega:w.length≤1000) (pt i hi) (pt j hj) (pt k hk) (pt l hl') (fun b hbb=>by
    have e:=of_decide_eq_true (t3 b (List.mem_range.2 (by omega))); rw[bitPt_at i b (by omega),bitPt_at j b (by omega),bitPt_at k b (by omega),bitPt_at l b (by omega)]; have z1:=bitAt_01 i (by omega) b (by omega); have z2:=bitAt_01 j (by omega) b (by omega); have z3:=bitAt_01 k (by omega) b (by omega); have z4:=bitAt_01 l (by omega) b (by omega); unfold wrap64 at e; omega) w.length (Nat.le_refl _)
   omega
 unfold noTr; refine List.all_eq_true.2 fun i hi => ?_
 have hi:=List.mem_range'_1.1 hi; unfold noTr1; refine List.all_eq_true.2 fun j hj => ?_
 have hj:=List.mem_range'_1.1 hj; have:noTr2 n T i j 0 T.length=true:=by
  unfold noTr2; refine List.all_eq_true.2 fun k hk => ?_
  have hk:=List.mem_range'_1.1 hk; unfold noTr3; refine List.all_eq_true.2 fun l hl => ?_
  have hl:=List.mem_range'_1.1 hl; rw[no i j k l (by omega) (by omega) (by omega) (by omega)];rfl
 rw[this,Bool.or_true]
def allB:Nat→List (List Int)
 | 0=>[[]]
 | d+1=>(allB d).flatMap fun t=>[0::t,1::t]
theorem allB_mem:∀ T:List Int,Bits T→T∈allB T.length
 | [],_=>List.mem_singleton.2 rfl
 | x::T,h=>by
  refine List.mem_flatMap.2 ⟨T,allB_mem T (fun y hy=>h y (List.mem_cons_of_mem _ hy)),?_⟩; rcases h x (List.mem_cons_self ..) with rfl|rfl <;> simp
def okN (n:Nat):Bool:=(allB (2 ^ n)).all fun T => !noTr n T||(allW 3 n).any (okW2 n T)
theorem okN1:okN 1=true:=by decide +kernel
theorem okN2:okN 2=true:=by decide +kernel
theorem okN3:okN 3=true:=by decide +kernel
theorem least_noTr {n:Nat} (h:1≤n∧n≤3) {T:List Int} (hT:T.length=2 ^ n) (hB:Bits T):(allW 3 n).any (okW2 n T)=noTr n T:=by
 have ok:okN n=true:=by
  match n,h with
  | 1,_=>exact okN1
  | 2,_=>exact okN2
  | 3,_=>exact okN3
  | 0,h=>omega
  | n+4,h=>omega
 have hm:=allB_mem T hB; rw[hT] at hm; have h1:=List.all_eq_true.1 ok T hm; cases hq:noTr n T with
 | true=>rw[hq] at h1;simpa using h1
 | false =>
  cases ha:(allW 3 n).any (okW2 n T) with
  | false=>rfl
  | true =>
   obtain ⟨w,hw,hok⟩:=List.any_eq_true.1 ha; rw[ok_noTr h.2 hT hB hw hok] at hq; exact hq
theorem impl_GatesNeeded_ev (a:Int) (l:List Int) (h:l.length≤maxLen):Ev (fun k=>impl_GatesNeeded.f k a l) (gatesM a l):=by
 have no:Ev (fun k=>impl_GatesNeeded.j0 k a l true) (0,false):=Ev.step' (f:=fun _=>some (0,false)) (fun k=>by simp only[impl_GatesNeeded.j0,if_true]) (Ev.now _); cases e:inR 1 3 a with
 | false =>
  have hq:threeB a l=false:=by unfold threeB;rw[e];rfl
  unfold gatesM; rw[hq]; simp only[Bool.false_eq_true,if_false]; exact Ev.congr (fun k=>by simp only[impl_GatesNeeded.f,impl_within_eq,e,Option.bind_some,Bool.false_eq_true,if_false]) no
 | true =>
  refine Ev.congr (g:=fun k=>impl_GatesNeeded.f k a l) (f:=fun k=>(impl_isTable.f k a l).bind fun t=>impl_GatesNeeded.j0 k a l (!t)) (fun k=>by simp only[impl_GatesNeeded.f,impl_within_eq,e,Option.bind_some,if_true]) ?_; refine Ev.bind (impl_isTable_ev a l h ((inR_iff 1 3 a).1 e)) ?_; unfold gatesM; have e2:threeB a l=tableB a l:=by unfold threeB;rw[e];rfl
  cases hq:tableB a l with
  | false =>
   rw[e2,hq]; simp only[Bool.false_eq_true,if_false]; exact no
  | true =>
   rw[hq] at e2; rw[e2]; simp only[if_true]; have hfp:=impl_findPair_ev e2; obtain ⟨n,rfl,h1,h3,hl,hB⟩:=three_tell e2; have h8:=(two_small h3).1; rw[Int.toNat_natCast] at hfp ⊢; obtain ⟨r,hr,hr2⟩:=impl_leastPlane_ev h3 hl; rw[least_noTr ⟨h1,h3⟩ hl hB] at hr2; have c0:¬ (n:Int)=0:=by omega
   have hth:Ev (fun k=>impl_isThreshold.f k (n:Int) l) (noTr n l):=by
    refine Ev.congr (g:=fun k=>impl_isThreshold.f k (n:Int) l) (f:=fun k=>(impl_leastPlane.f k (n:Int) l).bind fun b=>some b.2.2.2) (fun k=>by simp only[impl_isThreshold.f,if_neg c0]) (Ev.bind hr ?_); rw[hr2]; exact Ev.now _
   refine Ev.step' (f:=fun k=>(impl_isThreshold.f k (n:Int) l).bind fun t=>if t=true then some (1,true) else (impl_findPair.f k (n:Int) l).bind fun bt=>if bt.2=true then some (2,true) else some (3,true)) (fun k=>by simp only[impl_GatesNeeded.j0,Bool.not_true,Bool.false_eq_true,if_false]) ?_; refine Ev.bind hth ?_; cases hn:noTr n l with
   | true=>simp only[if_true];exact Ev.now _
   | false =>
    simp only[Bool.false_eq_true,if_false]; refine Ev.bind hfp ?_; cases hp:pairM (thrT n) (thrT 2) l with
    | none=>exact Ev.now _
    | some r=>exact Ev.now _
def absW (x:Int):Int:=if x>wrap64 (-x) then x else wrap64 (-x)
def sizeM (l:List Int) (s:Int):Int:=l.foldl (fun s x=>wrap64 (s+absW x)) s
def sstep (n:Nat) (T x:List Int) (s:List Int×Bool):List Int×Bool:=if s.2=true∧sizeM x 0≥sizeM s.1 0 then s else if okW2 n T x=true then (x,true) else s
def boundM (n:Nat) (T x:List Int):Int:=if (gapS T (prodL n x)).1=1000000000 then wrap64 ((gapS T (prodL n x)).2+1) else (gapS T (prodL n x)).1
def leastS (n:Nat) (T:List Int):List Int×Bool:=(allW 3 n).foldl (fun s x=>sstep n T x s) ([],false)
structure LeastR (n:Nat) (T:List Int) (s:List Int×Int×Int) (t:List Int×Bool):Prop where
 no:t.2=false→s.2.2=1000000000
 yes:t.2=true→t.1∈allW 3 n∧s.1=t.1∧s.2.2=sizeM t.1 0∧s.2.2<1000000000∧s.2.1=boundM n T t.1
def planeM (n:Nat) (T:List Int):List Int×Int×Bool:=if (leastS n T).2=true then ((leastS n T).1,boundM n T (leastS n T).1,true) else ([],0,false)
theorem sum_size (x:List Int):impl_leastPlane.sum x=sizeM x 0:=by
 unfold impl_leastPlane.sum sizeM; congr 1
 funext s m
 congr 2
 unfold mx absW; split <;> split <;> omega
theorem least_rel {n:Nat} (hn:n≤4) (T:List Int):∀ (L:List (List Int)) (s:List Int×Int×Int) (t:List Int×Bool),(∀ x∈L,x∈allW 3 n)→LeastR n T s t→LeastR n T (L.foldl (fun s x=>gstep n T x s) s) (L.foldl (fun s x=>sstep n T x s) t)
 | [],_,_,_,h=>h
 | x::L,s,t,hm,h=>by
  refine least_rel hn T L _ _ (fun y hy=>hm y (List.mem_cons_of_mem _ hy)) ?_; have hx:=hm x (List.mem_cons_self ..); have hs:=sums_small hn x hx; rw[sum_size] at hs; have hok:okW2 n T x=true↔¬ (gapS T (prodL n x)).1≤(gapS T (prodL n x)).2:=by unfold okW2;rw[decide_eq_true_eq];omega
  have take:LeastR n T (if (gapS T (prodL n x)).1≤(gapS T (prodL n x)).2 then s else if (gapS T (prodL n x)).1=1000000000 then (x,wrap64 ((gapS T (prodL n x)).2+1),sizeM x 0) else (x,(gapS T (prodL n x)).1,sizeM x 0)) (if okW2 n T x=true then (x,true) else t):=by
   by_cases c:(gapS T (prodL n x)).1≤(gapS T (prodL n x)).2
   · rw[if_pos c,if_neg (fun h=>hok.1 h c)];exact h
   · rw[if_neg c,if_pos (hok.2 c)]; refine ⟨fun h=>Bool.noConfusion h,fun _ => ?_⟩; unfold boundM; by_cases e:(gapS T (prodL n x)).1=1000000000
     · rw[if_pos e];exact ⟨hx,rfl,rfl,hs,by rw[if_pos e]⟩
     · rw[if_neg e];exact ⟨hx,rfl,rfl,hs,by rw[if_neg e]⟩
  show LeastR n T (gstep n T x s) (sstep n T x t)
  unfold gstep sstep; rw[sum_size]; cases ht:t.2 with
  | false =>
   have h0:=h.no ht; rw[if_neg (show ¬ sizeM x 0≥s.2.2 by omega),if_neg (show ¬ (false=true∧sizeM x 0≥sizeM t.1 0) from fun h=>absurd h.1 (by decide))]; exact take
  | true =>
   have h1:=h.yes ht; rw[h1.2.2.1]; by_cases c:sizeM x 0≥sizeM t.1 0
   · rw[if_pos c,if_pos ⟨rfl,c⟩];exact h
   · rw[if_neg c,if_neg (show ¬ (true=true∧sizeM x 0≥sizeM t.1 0) from fun h=>c h.2)]; exact take
theorem leastR {n:Nat} (hn:n≤4) (T:List Int):LeastR n T (lpM n T) (leastS n T):=least_rel hn T _ _ _ (fun _ h=>h) ⟨fun _=>rfl,fun h=>absurd h (by decide)⟩
def leastM (n:Nat) (T:List Int):List Int×Int×Bool:=if tableB (n:Int) T=true then planeM n T else ([],0,false)
theorem table_len {n:Nat} (hn:n≤4) {T:List Int} (h:tableB (n:Int) T=true):T.length=2 ^ n:=by
 unfold tableB at h; rw[Bool.and_eq_true,decide_eq_true_eq,shl_small hn] at h; exact Int.ofNat.inj h.1
theorem impl_leastPlane_plane {n:Nat} (hn:n≤4) {T:List Int} (hT:T.length=2 ^ n):(if (decide ((lpM n T).2.2<1000000000))=true then ((lpM n T).1,(lpM n T).2.1,true) else (([]:List Int),(0:Int),false))=planeM n T:=by
 have hR:=leastR hn T; unfold planeM; generalize leastS n T=t at hR ⊢; generalize lpM n T=s at hR ⊢; cases ht:t.2 with
 | false =>
  have:=hR.no ht; rw[if_neg (by rw[decide_eq_true_eq];omega),if_neg (by decide)]
 | true =>
  obtain ⟨_,e1,_,e3,e4⟩:=hR.yes ht; rw[if_pos (decide_eq_true e3),if_pos rfl,e1,e4]
theorem impl_LeastPlane_ev {n:Nat} (h1:1≤n) (hn:n≤4) (T:List Int) (h:T.length≤maxLen):Ev (fun k=>impl_LeastPlane.f k (n:Int) T) (leastM n T):=by
 have c:¬ (n:Int)=0:=by omega
 refine Ev.congr (g:=fun k=>impl_LeastPlane.f k (n:Int) T) (f:=fun k=>(impl_isTable.f k (n:Int) T).bind fun t=>impl_LeastPlane.j0 k (n:Int) T (!t)) (fun k=>by simp only[impl_LeastPlane.f,if_neg c]) ?_; refine Ev.bind (impl_isTable_ev4 (n:Int) T h (by omega)) ?_; unfold leastM; cases ht:tableB (n:Int) T with
 | false=>simp only[Bool.false_eq_true,if_false];exact Ev.step' (f:=fun _=>some (([]:List Int),0,false)) (fun k=>by simp only[impl_LeastPlane.j0,Bool.not_false,if_true]) (Ev.now _)
 | true =>
  simp only[if_true]; have hT:=table_len hn ht; refine Ev.step' (f:=fun k=>(impl_leastPlane.f k (n:Int) T).bind fun b=>if b.2.2.2=true then some (b.1,b.2.1,true) else some (([]:List Int),0,false)) (fun k=>by simp only[impl_LeastPlane.j0,Bool.not_true,Bool.false_eq_true,if_false]) ?_; refine Ev.bind (impl_leastPlane_full hn hT) ?_; rw[← impl_leastPlane_plane hn hT]; show Ev (fun _=>if decide ((lpM n T).2.2<1000000000)=true then some ((lpM n T).1,(lpM n T).2.1,true) else some (([]:List Int),0,false)) _
  cases decide ((lpM n T).2.2<1000000000) with
  | true=>exact Ev.now _
  | false=>exact Ev.now _
def plM (n:Nat) (T:List Int):S47:=⟨(planeM n T).1,(planeM n T).2.1⟩
def netOf (n:Nat) (r:List (List Int)):List (List S47):=[[plM n (r.getD 0 []),plM n (r.getD 1 [])],[plM 2 (r.getD 2 [])]]
def netM (a:Int) (l:List Int):Int×List (List S47)×Bool:=if threeB a l=true then (match pairM (thrT a.toNat) (thrT 2) l with|some r=>(a,netOf a.toNat r,true)|none=>(0,[],false)) else (0,[],false)
theorem rd_abc (a b c:List Int):rd_L2 [a,b,c] 0=a∧rd_L2 [a,b,c] 1=b∧rd_L2 [a,b,c] 2=c:=⟨by simp[rd_L2],by simp[rd_L2],by simp[rd_L2]⟩
theorem leastM_thr {n:Nat} (hn:n≤4) {T:List Int} (hT:T.length=2 ^ n) (hb:∀ x∈T,x=0∨x=1):leastM n T=planeM n T:=by
 have e:tableB (n:Int) T=true:=by
  unfold tableB; rw[Bool.and_eq_true,decide_eq_true_eq,shl_small hn,hT,List.all_eq_true]; exact ⟨rfl,fun x hx=>(inR_iff 0 1 x).2 (by have:=hb x hx;omega)⟩
 unfold leastM; rw[if_pos e]
theorem impl_NetOfPair_ev (a:Int) (l:List Int) (h:l.length≤maxLen):Ev (fun k=>impl_NetOfPair.f k a l) (netM a l):=by
 refine Ev.bind (impl_FindPair_ev a l h) ?_; unfold netM pairOut; cases hq:threeB a l with
 | false=>simp only[Bool.false_eq_true,if_false];exact Ev.now _
 | true =>
  simp only[if_true]; cases hp:pairM (thrT a.toNat) (thrT 2) l with
  | none=>exact Ev.now _
  | some r =>
   obtain ⟨n,rfl,h1,h3,hl,_⟩:=three_tell hq; have h8:=(two_small h3).1; obtain ⟨x,y,z,hx,hy,hz,rfl⟩:=pairM_tell hp; rw[Int.toNat_natCast] at *; have b1:=(tabs ⟨h1,h3⟩).rows x hx; have b2:=(tabs ⟨h1,h3⟩).rows y hy; have b3:=tabs2.rows z hz; obtain ⟨e0,e1,e2⟩:=rd_abc x y z; have c1:(0:Int)<([x,y,z].length:Int):=by simp
   have c2:(1:Int)<([x,y,z].length:Int):=by simp
   have c3:(2:Int)<([x,y,z].length:Int):=by simp
   have p1:=impl_LeastPlane_ev h1 (by omega) x (by unfold maxLen;omega); have p2:=impl_LeastPlane_ev h1 (by omega) y (by unfold maxLen;omega); have p3:=impl_LeastPlane_ev (n:=2) (by omega) (by omega) z (by unfold maxLen;omega); rw[leastM_thr (by omega) b1.1 b1.2] at p1; rw[leastM_thr (by omega) b2.1 b2.2] at p2; rw[leastM_thr (by omega) b3.1 b3.2] at p3; simp only[if_pos c1,if_pos c2,if_pos c3,e0,e1,e2,if_true]; simp only[netOf,plM,List.getD_cons_zero,List.getD_cons_succ]; generalize planeM n x=q1 at p1 ⊢; generalize planeM n y=q2 at p2 ⊢; generalize planeM 2 z=q3 at p3 ⊢; exact Ev.bind p1 (Ev.bind p2 (Ev.bind p3 (Ev.now _)))
theorem fold_flatW {α β:Type} (h:α→List β):∀ (xs:List α) (s:List β),xs.foldl (fun s x=>s++h x) s=s++xs.flatMap h
 | [],s=>by simp
 | x::xs,s=>by rw[List.foldl_cons,fold_flatW h xs,List.flatMap_cons,List.append_assoc]
theorem allW_cnt {d:Nat} (h:d≤4):(allW 3 d).length≤2401:=by
 match d,h with
 | 0,_=>decide +kernel
 | 1,_=>decide +kernel
 | 2,_=>decide +kernel
 | 3,_=>decide +kernel
 | 4,_=>decide +kernel
 | d+5,h=>omega
theorem spec_l5Weights_row (n i j:Nat) (S:List (List Int)) (acc:List (List Int)) (hj:j<S.length) (hS:S.length≤2401) (hr:∀ x∈S,x.length≤4) (ha:acc.length≤1000000) :
 To (fun k=>spec_l5Weights.l1 k (n:Int) S (i:Int) acc (j:Int)) (fun k=>spec_l5Weights.l1 k (n:Int) S (i:Int) (acc++(List.range 7).map fun (c:Nat)=>S.getD j []++[(c:Int)-3]) ((j+1:Nat):Int)):=by
 have c1:(j:Int)<(S.length:Int):=by omega
 have c0:0≤(j:Int):=by omega
 have hx:=hr _ (getD_mem hj []); have hf:=to_fold (L:=fun c (s:List (List Int)) k=>spec_l5Weights.l2 k (n:Int) S (i:Int) s (j:Int) (c-3)) (n:=7) (f:=fun c s=>s++[S.getD j []++[(c:Int)-3]]) (fun c s=>s.length=acc.length+c) (fun c s hc hs=>⟨To.step fun k => ?_,by simp[hs];omega⟩) acc (by simp)
 · refine (To.step (f:=fun k=>spec_l5Weights.l2 k (n:Int) S (i:Int) acc (j:Int) (0-3)) (fun k=>by simp only[spec_l5Weights.l1,if_pos c1];rfl)).trans (hf.1.trans (To.step fun k => ?_)); rw[fold_append]; have d:¬ ((7:Nat):Int)-3≤3:=by decide
   simp only[spec_l5Weights.l2,if_neg d,wrap_succ hj (by omega:S.length≤9223372036854775807)]
 · have d1:(c:Int)-3≤3:=by omega
   have d2:(S.getD j []).length<17592186044416:=by omega
   have d3:s.length<5864062014805:=by omega
   have wc:wrap64 ((c:Int)-3+1)=((c+1:Nat):Int)-3:=by unfold wrap64;omega
   simp only[spec_l5Weights.l2,if_pos d1,if_pos c0,if_pos c1,rdL2_nat,rdL3_nat,spec_l1Own_eq _ (by omega:(S.getD j []).length≤1000),Option.bind_some,if_pos d2,if_pos d3,wc]
theorem spec_l5Weights_ev {n:Nat} (hn:n≤4):Ev (fun k=>spec_l5Weights.f k (n:Int)) (allW 3 n):=by
 have hf:=to_fold (L:=fun i (s:List (List Int)) k=>spec_l5Weights.l0 k (n:Int) s i) (n:=n) (f:=fun _ s=>s.flatMap fun t=>(List.range 7).map fun (c:Nat)=>t++[(c:Int)-3]) (fun i s=>s=allW 3 i) (fun i s hi hs => ?_) [[]] rfl
 · refine hf.1 _ ?_; rw[hf.2]; exact Ev.step' (f:=fun _=>some (allW 3 n)) (fun k=>by simp only[spec_l5Weights.l0,if_neg (Int.lt_irrefl _)]) (Ev.now _)
 · have e:(s.flatMap fun t=>(List.range 7).map fun (c:Nat)=>t++[(c:Int)-3])=allW 3 (i+1):=by rw[allW_snoc,hs];rfl
   refine ⟨?_,e⟩; have c1:(i:Int)<(n:Int):=by omega
   have hS:s.length≤2401:=by rw[hs];exact allW_cnt (by omega)
   have hr:∀ x∈s,x.length≤4:=fun x hx=>by rw[hs] at hx;rw[allW_len 3 i x hx];omega
   have hg:=to_fold (L:=fun j (a:List (List Int)) k=>spec_l5Weights.l1 k (n:Int) s (i:Int) a j) (n:=s.length) (f:=fun j a=>a++(List.range 7).map fun (c:Nat)=>s.getD j []++[(c:Int)-3]) (fun j a=>a.length=7*j) (fun j a hj ha=>⟨spec_l5Weights_row n i j s a hj hS hr (by omega),by rw[List.length_append,ha,List.length_map,List.length_range];omega⟩) [] (by simp); refine (To.step (f:=fun k=>spec_l5Weights.l1 k (n:Int) s (i:Int) [] 0) (fun k=>by simp only[spec_l5Weights.l0,if_pos c1])).trans (hg.1.trans (To.step fun k => ?_)); have er:(List.range s.length).foldl (fun a j=>a++(List.range 7).map fun (c:Nat)=>s.getD j []++[(c:Int)-3]) []=s.flatMap fun t=>(List.range 7).map fun (c:Nat)=>t++[(c:Int)-3]:=by
    rw[range_fold s (fun a t=>a++(List.range 7).map fun (c:Nat)=>t++[(c:Int)-3]) [],fold_flatW,List.nil_append]
   rw[er]; simp only[spec_l5Weights.l1,if_neg (Int.lt_irrefl _),wrap_succ hi (by omega:n≤9223372036854775807)]
theorem spec_l1Most_eq (x:Int):spec_l1Most.f x (wrap64 (-x))=some (absW x):=by
 unfold spec_l1Most.f absW; by_cases c:x>wrap64 (-x)
 · rw[if_pos c,if_pos c]
 · rw[if_neg c,if_neg c]
theorem spec_l5Size_ev (l:List Int) (h:l.length≤maxLen):Ev (fun k=>spec_l5Size.f k l) (sizeM l 0):=by
 have h' : l.length≤9223372036854775807:=h; refine ev_list 0 l (fun i (s:Int) k=>spec_l5Size.l0 k l s i) (fun _ ys s=>sizeM ys s) (fun _ _=>True) (fun s _ => ?_) (fun i y ys s hi2 hy hm _ ih => ?_) 0 trivial
 · exact Ev.step' (f:=fun _=>some s) (fun k=>by simp only[spec_l5Size.l0,if_neg (Int.lt_irrefl _)]) (Ev.now _)
 · have c1:(i:Int)<(l.length:Int):=by omega
   have c0:0≤(i:Int):=by omega
   exact Ev.step' (fun k=>by simp only[spec_l5Size.l0,if_pos c1,if_pos c0,rd_nat,hy,spec_l1Most_eq,Option.bind_some,wrap_succ hi2 h']) (ih (wrap64 (s+absW y)) trivial)
theorem spec_l5Least_ev {n:Nat} (hn:n≤4) {T:List Int} (hT:T.length=2 ^ n):Ev (fun k=>spec_l5Least.f k (n:Int) T) (leastS n T):=by
 refine Ev.bind (spec_l5Weights_ev hn) ?_; have hA:=allW_cnt hn; have hf:=to_fold (L:=fun i (s:List Int×Bool) k=>spec_l5Least.l0 k (n:Int) T (allW 3 n) s.1 s.2 i) (n:=(allW 3 n).length) (f:=fun i s=>sstep n T ((allW 3 n).getD i []) s) (fun _ s=>s.1.length≤4) (fun i s hi hs => ?_) ([],false) (by simp)
 · refine hf.1 _ ?_; have e:(List.range (allW 3 n).length).foldl (fun s i=>sstep n T ((allW 3 n).getD i []) s) ([],false)=leastS n T:=range_fold (allW 3 n) (fun s x=>sstep n T x s) [] ([],false); rw[e]; exact Ev.step' (f:=fun _=>some (leastS n T)) (fun k=>by simp only[spec_l5Least.l0,if_neg (Int.lt_irrefl _)]) (Ev.now _)
 · have c1:(i:Int)<((allW 3 n).length:Int):=by omega
   have c0:0≤(i:Int):=by omega
   have hx:=getD_mem hi []; have hl:=allW_len 3 n _ hx; have ws:=wrap_succ hi (by omega:(allW 3 n).length≤9223372036854775807); have hJ:∀ b:Bool,To (fun k=>spec_l5Least.j1 k (n:Int) T (allW 3 n) s.1 s.2 (i:Int) b) (fun k=>spec_l5Least.l0 k (n:Int) T (allW 3 n) (if b=true then s else if okW2 n T ((allW 3 n).getD i [])=true then ((allW 3 n).getD i [],true) else s).1 (if b=true then s else if okW2 n T ((allW 3 n).getD i [])=true then ((allW 3 n).getD i [],true) else s).2 ((i+1:Nat):Int)):=by
    intro b; cases b with
    | true=>exact To.step fun k=>by simp only[spec_l5Least.j1,if_true,ws]
    | false =>
     refine (To.step (f:=fun k=>(spec_l5Parts.f k (n:Int) T ((allW 3 n).getD i [])).bind fun bt=>if bt.2.2=true then spec_l5Least.l0 k (n:Int) T (allW 3 n) ((allW 3 n).getD i []) true ((i+1:Nat):Int) else spec_l5Least.l0 k (n:Int) T (allW 3 n) s.1 s.2 ((i+1:Nat):Int)) (fun k=>by simp only[spec_l5Least.j1,Bool.false_eq_true,if_false,if_pos c0,if_pos c1,rdL2_nat,rdL3_nat,ws])).trans ((To.bind (spec_l5Parts_ev hn hT hx)).trans (To.congr fun k => ?_)); have e:(partsM T (prodL n ((allW 3 n).getD i []))).2.2=okW2 n T ((allW 3 n).getD i []):=rfl; rw[e]; cases okW2 n T ((allW 3 n).getD i []) with
     | true=>simp only[Bool.false_eq_true,if_false,if_true]
     | false=>simp only[Bool.false_eq_true,if_false]
   refine ⟨?_,?_⟩
   · cases hs2:s.2 with
     | false =>
      have h1:=hJ false; have e:sstep n T ((allW 3 n).getD i []) s=if okW2 n T ((allW 3 n).getD i [])=true then ((allW 3 n).getD i [],true) else s:=by unfold sstep;rw[hs2,if_neg (fun h=>absurd h.1 (by decide))]
      rw[e]; simp only[Bool.false_eq_true,if_false] at h1; rw[hs2] at h1; exact (To.step fun k=>by simp only[spec_l5Least.l0,if_pos c1,Bool.false_eq_true,if_false]).trans h1
     | true =>
      have h1:=hJ (decide (sizeM ((allW 3 n).getD i []) 0≥sizeM s.1 0)); have e:sstep n T ((allW 3 n).getD i []) s=if decide (sizeM ((allW 3 n).getD i []) 0≥sizeM s.1 0)=true then s else if okW2 n T ((allW 3 n).getD i [])=true then ((allW 3 n).getD i [],true) else s:=by
       unfold sstep; by_cases c:sizeM ((allW 3 n).getD i []) 0≥sizeM s.1 0
       · rw[if_pos ⟨hs2,c⟩,if_pos (decide_eq_true c)]
       · rw[if_neg (fun h=>c h.2)];simp only[decide_eq_false c,Bool.false_eq_true,if_false]
      rw[e]; rw[hs2] at h1; refine (To.step (f:=fun k=>(spec_l5Size.f k ((allW 3 n).getD i [])).bind fun t=>(spec_l5Size.f k s.1).bind fun u=>spec_l5Least.j1 k (n:Int) T (allW 3 n) s.1 true (i:Int) (decide (t≥u))) (fun k=>by simp only[spec_l5Least.l0,if_pos c1,if_true,if_pos c0,rdL2_nat,rdL3_nat])).trans ((To.bind (spec_l5Size_ev _ (by unfold maxLen;omega))).trans ((To.bind (spec_l5Size_ev _ (by unfold maxLen;omega))).trans h1))
   · unfold sstep; split
     · exact hs
     · split
       · show ((allW 3 n).getD i []).length≤4
         omega
       · exact hs
theorem spec_l1Has_ev (l:List Int) (v:Int) (h:l.length≤maxLen):Ev (fun k=>spec_l1Has.f k l v) (decide (0<l.count v)):=by
 have h' : l.length≤9223372036854775807:=h; refine ev_list 0 l (fun i (_:Unit) k=>spec_l1Has.l0 k l v i) (fun _ ys _=>decide (0<ys.count v)) (fun _ _=>True) (fun _ _ => ?_) (fun i x ys _ hi hx hm _ ih => ?_) () trivial
 · exact Ev.step' (f:=fun _=>some false) (fun k=>by simp only[spec_l1Has.l0,if_neg (Int.lt_irrefl _)]) (Ev.now _)
 · have c1:(i:Int)<(l.length:Int):=by omega
   have c0:0≤(i:Int):=by omega
   by_cases c:x=v
   · exact ev_eq (Ev.step' (f:=fun _=>some true) (fun k=>by simp only[spec_l1Has.l0,if_pos c1,if_pos c0,rd_nat,hx,if_pos c]) (Ev.now _)) (by simp[c])
   · exact ev_eq (Ev.step' (fun k=>by simp only[spec_l1Has.l0,if_pos c1,if_pos c0,rd_nat,hx,if_neg c,wrap_succ hi h']) (ih () trivial)) (by simp[List.count_cons,c])
theorem count_at (T:List Int) (v:Int):decide (0<T.count v)=true↔∃ i,i<T.length∧T.getD i 0=v:=by
 rw[decide_eq_true_eq,List.count_pos_iff]; constructor
 · intro h; obtain ⟨i,hi,e⟩:=List.getElem_of_mem h; exact ⟨i,hi,by rw[List.getD_eq_getElem?_getD,List.getElem?_eq_getElem hi,e];rfl⟩
 · rintro ⟨i,hi,e⟩; rw[← e];exact getD_mem hi 0
theorem spec_l5Plane_ev {n:Nat} (hn:n≤4) {T:List Int} (hT:T.length=2 ^ n):Ev (fun k=>spec_l5Plane.f k (n:Int) T) (planeM n T):=by
 have h16:2 ^ n≤2 ^ 4:=Nat.pow_le_pow_right (by omega) hn; have hp:0<2 ^ n:=Nat.two_pow_pos n; refine Ev.bind (spec_l5Least_ev hn hT) ?_; have hR:=leastR hn T; unfold planeM; generalize leastS n T=t at hR ⊢; cases ht:t.2 with
 | false=>simp only[Bool.false_eq_true,if_false];exact Ev.now _
 | true =>
  simp only[if_true]; have hm:=(hR.yes ht).1; refine Ev.bind (spec_l5Parts_ev hn hT hm) (Ev.bind (spec_l1Has_ev T 1 (by unfold maxLen;omega)) ?_); have hr:=part_rel T (prodL n t.1) T.length (fun i hi=>prodL_bd hn hm (by omega)); have eg:gapN T (prodL n t.1) T.length=gapS T (prodL n t.1):=rfl; rw[eg] at hr; unfold partsM boundM; generalize partS T (prodL n t.1) T.length=s at hr ⊢; generalize gapS T (prodL n t.1)=g at hr ⊢; obtain ⟨p1,p2,p3,n1,y1,n2,y2,h0,h1⟩:=hr; by_cases c:s.1=0
  · have hz:=h0 c; have e:decide (0<T.count 1)=false:=by
     cases hd:decide (0<T.count 1) with
     | false=>rfl
     | true=>obtain ⟨i,hi,e⟩:=(count_at T 1).1 hd;exact absurd e (hz i hi)
    have g1:=n1 c; have g2:=y2 (by omega); simp only[e,Bool.false_eq_true,if_false,if_pos g1,g2.1]; exact Ev.now _
  · have e:decide (0<T.count 1)=true:=(count_at T 1).2 (h1 c); have g1:=y1 c; have gn:¬ g.1=1000000000:=by omega
    simp only[e,if_true,if_neg gn]; rw[g1.1]; exact Ev.now _
theorem spec_NetOfPair_ev (a:Int) (l:List Int) (h:l.length≤maxLen):Ev (fun k=>spec_NetOfPair.f k a l) (netM a l):=by
 refine Ev.bind (spec_l9Three_ev a l h) ?_; unfold netM; cases hq:threeB a l with
 | false=>simp only[Bool.false_eq_true,if_false];exact Ev.now _
 | true =>
  simp only[if_true]; refine Ev.bind (spec_l9Pair_ev hq) ?_; cases hp:pairM (thrT a.toNat) (thrT 2) l with
  | none=>exact Ev.now _
  | some r =>
   obtain ⟨n,rfl,h1,h3,hl,_⟩:=three_tell hq; obtain ⟨x,y,z,hx,hy,hz,rfl⟩:=pairM_tell hp; rw[Int.toNat_natCast] at *; have b1:=((tabs ⟨h1,h3⟩).rows x hx).1; have b2:=((tabs ⟨h1,h3⟩).rows y hy).1; have b3:=(tabs2.rows z hz).1; obtain ⟨e0,e1,e2⟩:=rd_abc x y z; have c0:¬ (([x,y,z].length:Int)=0):=by simp
   have c1:(0:Int)<([x,y,z].length:Int):=by simp
   have c2:(1:Int)<([x,y,z].length:Int):=by simp
   have c3:(2:Int)<([x,y,z].length:Int):=by simp
   simp only[Option.getD_some,if_neg c0,if_pos c1,if_pos c2,if_pos c3,e0,e1,e2]; have g1:=spec_l5Plane_ev (n:=n) (by omega) b1; have g2:=spec_l5Plane_ev (n:=n) (by omega) b2; have g3:=spec_l5Plane_ev (n:=2) (by omega) b3; simp only[netOf,plM,List.getD_cons_zero,List.getD_cons_succ]; generalize planeM n x=p1 at g1 ⊢; generalize planeM n y=p2 at g2 ⊢; generalize planeM 2 z=p3 at g3 ⊢; exact Ev.bind g1 (Ev.bind g2 (Ev.bind g3 (Ev.now _)))
theorem laws_vInts_ev (l:List Int) (h:l.length≤maxLen):Ev (fun k=>laws_vInts.f k l l) true:=by
 unfold maxLen at h; refine Ev.congr (f:=fun k=>laws_vInts.l0 k l l 0) (fun k=>by simp only[laws_vInts.f,if_true]) ?_; refine ev_yes (L:=fun i k=>laws_vInts.l0 k l l i) (n:=l.length) (fun i hi=>To.step fun k => ?_) (Ev.step' (f:=fun _=>some true) (fun k => ?_) (Ev.now _))
 · have c1:(i:Int)<(l.length:Int):=by omega
   have c0:0≤(i:Int):=by omega
   simp only[laws_vInts.l0,if_pos c1,if_pos c0,if_true,wrap_succ hi h]
 · simp only[laws_vInts.l0,if_neg (Int.lt_irrefl _)]
theorem laws_vTable_ev (l:List (List Int)) (h:l.length≤maxLen) (hi:∀ x∈l,x.length≤maxLen):Ev (fun k=>laws_vTable.f k l l) true:=by
 unfold maxLen at h; refine Ev.congr (f:=fun k=>laws_vTable.l0 k l l 0) (fun k=>by simp only[laws_vTable.f,if_true]) ?_; refine ev_yes (L:=fun i k=>laws_vTable.l0 k l l i) (n:=l.length) (fun i hi2 => ?_) (Ev.step' (f:=fun _=>some true) (fun k => ?_) (Ev.now _))
 · have c1:(i:Int)<(l.length:Int):=by omega
   have c0:0≤(i:Int):=by omega
   refine (To.step (f:=fun k=>(laws_vInts.f k (l.getD i []) (l.getD i [])).bind fun t=>if t=true then laws_vTable.l0 k l l ((i+1:Nat):Int) else some false) (fun k => ?_)).trans ((To.bind (laws_vInts_ev _ (hi _ (getD_mem hi2 [])))).trans (To.congr fun k=>by simp only[if_true])); simp only[laws_vTable.l0,if_pos c1,if_pos c0,rdL2_nat,rdL3_nat,wrap_succ hi2 h]
 · simp only[laws_vTable.l0,if_neg (Int.lt_irrefl _)]
theorem laws_vPlane_ev (l:List Int) (b:Int) (h:l.length≤maxLen):Ev (fun k=>laws_vPlane.f k l b l b) true:=by
 refine Ev.congr (f:=fun k=>(laws_vInts.f k l l).bind fun t=>if t=true then some true else some false) (fun k=>by simp only[laws_vPlane.f,beq_self_eq_true]) ?_; exact Ev.bind (laws_vInts_ev l h) (Ev.congr (f:=fun _=>some true) (fun k=>by simp only[if_true]) (Ev.now _))
theorem laws_vNet_row (d:Int) (l:List (List S47)) (i:Nat) (hi:i<l.length) (h:l.length≤maxLen) (hy:(l.getD i []).length≤maxLen∧∀ y∈l.getD i [],y.f0.length≤maxLen):To (fun k=>laws_vNet.l1 k i 0 d l d l) (fun k=>laws_vNet.l0 k ((i+1:Nat):Int) d l d l):=by
 intro r hr; have h' : l.length≤9223372036854775807:=h; have hy' : (l.getD i []).length≤9223372036854775807:=hy.1; have c0:0≤(i:Int):=by omega
 have c1:(i:Int)<(l.length:Int):=by omega
 refine ev_yes (L:=fun j k=>laws_vNet.l1 k i j d l d l) (n:=(l.getD i []).length) (fun j hj => ?_) (Ev.step' (f:=fun k=>laws_vNet.l0 k ((i+1:Nat):Int) d l d l) (fun k => ?_) hr)
 · have d0:0≤(j:Int):=by omega
   have d1:(j:Int)<((l.getD i []).length:Int):=by omega
   refine (To.step (f:=fun k=>(laws_vPlane.f k ((l.getD i []).getD j z47).f0 ((l.getD i []).getD j z47).f1 ((l.getD i []).getD j z47).f0 ((l.getD i []).getD j z47).f1).bind fun t=>if t=true then laws_vNet.l1 k i ((j+1:Nat):Int) d l d l else some false) (fun k => ?_)).trans ((To.bind (laws_vPlane_ev _ _ (hy.2 _ (getD_mem hj _)))).trans (To.congr fun k=>by simp only[if_true])); simp only[laws_vNet.l1,if_pos c0,if_pos c1,rdL7_nat,rdT47_nat,if_pos d0,if_pos d1,wrap_succ hj hy']
 · simp only[laws_vNet.l1,if_pos c0,if_pos c1,rdL7_nat,if_neg (Int.lt_irrefl _),wrap_succ hi h']
theorem laws_vNet_ev (d:Int) (l:List (List S47)) (h:l.length≤maxLen) (hi:∀ x∈l,x.length≤maxLen∧∀ y∈x,y.f0.length≤maxLen):Ev (fun k=>laws_vNet.f k d l d l) true:=by
 refine Ev.congr (f:=fun k=>laws_vNet.j0 k false d l d l) (fun k=>by simp only[laws_vNet.f,if_true,bne_self_eq_false]) ?_; refine Ev.step' (f:=fun k=>laws_vNet.l0 k 0 d l d l) (fun k=>by simp[laws_vNet.j0]) ?_; refine ev_yes (L:=fun i k=>laws_vNet.l0 k i d l d l) (n:=l.length) (fun i hi2 => ?_) (Ev.step' (f:=fun _=>some true) (fun k => ?_) (Ev.now _))
 · have c1:(i:Int)<(l.length:Int):=by omega
   have c0:0≤(i:Int):=by omega
   refine (To.step fun k => ?_).trans (laws_vNet_row d l i hi2 h (hi _ (getD_mem hi2 []))); simp only[laws_vNet.l0,if_pos c1,if_pos c0,if_true]
 · simp only[laws_vNet.l0,if_neg (Int.lt_irrefl _)]
theorem impl_IsThreshold_yes (a:Int) (l:List Int) (h:l.length≤maxLen) (e2:threeB a l=true):Ev (fun k=>impl_IsThreshold.f k a l) (noTr a.toNat l,true):=by
 have e1:inR 1 3 a=true∧tableB a l=true:=by unfold threeB at e2;rw[Bool.and_eq_true] at e2;exact e2
 refine Ev.bind (impl_isTable_ev a l h ((inR_iff 1 3 a).1 e1.1)) ?_; rw[e1.2]; simp only[if_true]; obtain ⟨n,rfl,h1,h3,hl,hB⟩:=three_tell e2; rw[Int.toNat_natCast]; obtain ⟨r,hr,hr2⟩:=impl_leastPlane_ev h3 hl; rw[least_noTr ⟨h1,h3⟩ hl hB] at hr2; have c0:¬ (n:Int)=0:=by omega
 have hth:Ev (fun k=>impl_isThreshold.f k (n:Int) l) (noTr n l):=by
  refine Ev.congr (g:=fun k=>impl_isThreshold.f k (n:Int) l) (f:=fun k=>(impl_leastPlane.f k (n:Int) l).bind fun b=>some b.2.2.2) (fun k=>by simp only[impl_isThreshold.f,if_neg c0]) (Ev.bind hr ?_); rw[hr2]; exact Ev.now _
 exact Ev.bind hth (Ev.now _)
theorem fold_rep {α:Type} (x:α) (n:Nat):(List.range n).foldl (fun s _=>s++[x]) []=List.replicate n x:=by
 rw[fold_append,List.nil_append,map_const]
theorem impl_ones_ev (n:Nat) (h:n≤1000):Ev (fun k=>impl_ones.f k (n:Int)) (List.replicate n 1):=by
 have hf:=to_fold (L:=fun i (s:List Int) k=>impl_ones.l0 k s (n:Int) i) (n:=n) (f:=fun _ s=>s++[1]) (fun i s=>s.length=i) (fun i s hi hs=>⟨To.step fun k => ?_,by simp[hs]⟩) [] rfl
 · refine hf.1 _ (Ev.step' (f:=fun _=>some (List.replicate n 1)) (fun k => ?_) (Ev.now _)); rw[fold_rep]; simp only[impl_ones.l0,if_neg (Int.lt_irrefl _)]
 · have c1:(i:Int)<(n:Int):=by omega
   have c2:s.length<17592186044416:=by omega
   simp only[impl_ones.l0,if_pos c1,if_pos c2,wrap_succ hi (by omega:n≤9223372036854775807)]
def altW (i:Nat):Int:=if Int.tmod (i:Int) 2=1 then -1 else 1
def parFirst (n m:Nat):List S47:=(List.range m).map fun i=>⟨List.replicate n 1,((i+1:Nat):Int)⟩
def parAlt (n:Nat):List Int:=(List.range n).map altW
def parM (a:Int):Int×List (List S47)×Bool:=if inR 1 4 a=true then (a,[parFirst a.toNat a.toNat,[⟨parAlt a.toNat,1⟩]],true) else (0,[],false)
theorem alt_eq (i:Nat):wrap64 (1-wrap64 (2*Int.tmod (i:Int) 2))=altW i:=by
 have h:Int.tmod (i:Int) 2=0∨Int.tmod (i:Int) 2=1:=by rw[Int.tmod_eq_emod_of_nonneg (by omega)];omega
 unfold altW; rcases h with h|h
 · rw[h,if_neg (by omega),wrap_id (x:=2*0) (by omega) (by omega),wrap_id (by omega) (by omega)];rfl
 · rw[h,if_pos rfl,wrap_id (x:=2*1) (by omega) (by omega),wrap_id (by omega) (by omega)];rfl
theorem impl_ParityNet_ev (a:Int):Ev (fun k=>impl_ParityNet.f k a) (parM a):=by
 refine Ev.congr (f:=fun k=>if inR 1 4 a=true then impl_ParityNet.l0 k a [] a 0 [] 1 else some (0,[],false)) (fun k=>by simp only[impl_ParityNet.f,impl_within_eq,Option.bind_some]) ?_; unfold parM; cases h:inR 1 4 a with
 | false=>simp only[Bool.false_eq_true,if_false];exact Ev.now _
 | true =>
  have:=(inR_iff _ _ _).1 h; obtain ⟨n,rfl⟩:∃ n:Nat,a=(n:Int):=⟨a.toNat,by omega⟩; simp only[if_true,Int.toNat_natCast]; have hf:=to_fold (L:=fun i (s:List S47×List Int) k=>impl_ParityNet.l0 k (n:Int) s.1 (n:Int) i s.2 1) (n:=n) (f:=fun i s=>(s.1++[⟨List.replicate n 1,((i+1:Nat):Int)⟩],s.2++[altW i])) (fun i s=>s=(parFirst n i,parAlt i)) (fun i s hi hs=>⟨?_,by
   subst hs; simp only[parFirst,parAlt,List.range_succ,List.map_append,List.map_cons,List.map_nil]⟩) ([],[]) rfl
  · refine hf.1 _ ?_; rw[hf.2]; exact Ev.step' (f:=fun _=>some ((n:Int),[parFirst n n,[⟨parAlt n,1⟩]],true)) (fun k=>by simp only[impl_ParityNet.l0,if_neg (Int.lt_irrefl _)]) (Ev.now _)
  · have c1:(i:Int)<(n:Int):=by omega
    have c2:s.1.length<4398046511104:=by rw[hs];simp only[parFirst,List.length_map,List.length_range];omega
    have c3:s.2.length<17592186044416:=by rw[hs];simp only[parAlt,List.length_map,List.length_range];omega
    refine (To.step (f:=fun k=>(impl_ones.f k (n:Int)).bind fun t=>impl_ParityNet.l0 k (n:Int) (s.1++[⟨t,((i+1:Nat):Int)⟩]) (n:Int) ((i+1:Nat):Int) (s.2++[altW i]) 1) fun k => ?_).trans (To.bind (impl_ones_ev n (by omega))); simp only[impl_ParityNet.l0,if_pos c1,if_pos c2,if_pos c3,wrap_succ hi (by omega:n≤9223372036854775807),alt_eq]
theorem impl_IsPlane_ev (l:List Int) (b:Int) (h:l.length≤maxLen):Ev (fun k=>impl_IsPlane.f k l b) (planeB l b):=by
 have e:∀ k,impl_IsPlane.f k l b=if inR 1 4 l.length=true then (impl_allWithin.f k l (-99) 99).bind (fun t=>if t=true then some (inR (-99) 99 b) else some false) else some false:=fun k=>by
  simp only[impl_IsPlane.f,impl_within_eq,Option.bind_some]
 refine Ev.congr e ?_; unfold planeB; cases inR 1 4 l.length with
 | false=>exact Ev.now _
 | true =>
  simp only[if_true,Bool.true_and]; refine Ev.bind (impl_allWithin_ev l (-99) 99 h) ?_; cases l.all (inR (-99) 99) with
  | false=>exact Ev.now _
  | true=>exact Ev.now _
def layB:Int→List (List S47)→Bool
 | _,[]=>true
 | d,y::ys=>y.all (fun x=>planeB x.f0 x.f1 && ((x.f0.length:Int)==d)) && (inR 1 4 y.length && layB y.length ys)
def netB (d:Int) (N:List (List S47)):Bool:=inR 1 4 d && (inR 1 6 N.length && layB d N)
theorem impl_IsNet_row (N:List (List S47)) (d:Int) (i:Nat) (y:List S47) (R:Bool) (hi:i<N.length) (h:N.length≤maxLen) (hl:y.length≤maxLen∧∀ z∈y,z.f0.length≤maxLen) (hr:Ev (fun k=>impl_IsNet.l0 k (y.length:Int) N (N.length:Int) ((i+1:Nat):Int)) R) :
 Ev (fun k=>impl_IsNet.l1 k d y N (N.length:Int) i y (y.length:Int) 0) (y.all (fun x=>planeB x.f0 x.f1 && ((x.f0.length:Int)==d)) && R):=by
 have h' : N.length≤9223372036854775807:=h; have h2' : y.length≤9223372036854775807:=hl.1; refine ev_list z47 y (fun j (_:Unit) k=>impl_IsNet.l1 k d y N (N.length:Int) i y (y.length:Int) j) (fun _ ys _=>ys.all (fun x=>planeB x.f0 x.f1 && ((x.f0.length:Int)==d)) && R) (fun _ _=>True) (fun _ _ => ?_) (fun j x ys _ hj hx hm _ ih => ?_) () trivial
 · rw[List.all_nil,Bool.true_and]; exact Ev.step' (fun k=>by simp only[impl_IsNet.l1,if_neg (Int.lt_irrefl _),wrap_succ hi h']) hr
 · have d1:(j:Int)<(y.length:Int):=by omega
   have d0:0≤(j:Int):=by omega
   rw[List.all_cons,Bool.and_assoc,Bool.and_assoc]; refine Ev.step' (f:=fun k=>(impl_IsPlane.f k x.f0 x.f1).bind fun t=>if t=true then (if (x.f0.length:Int)=d then impl_IsNet.l1 k d y N (N.length:Int) i y (y.length:Int) ((j+1:Nat):Int) else some false) else some false) (fun k=>by
    simp only[impl_IsNet.l1,if_pos d1,if_pos d0,rdT47_nat,hx,wrap_succ hj h2']) (Ev.bind (impl_IsPlane_ev x.f0 x.f1 (hl.2 x hm)) ?_)
   cases planeB x.f0 x.f1 with
   | false=>simp only[Bool.false_eq_true,if_false,Bool.false_and];exact Ev.now _
   | true =>
    simp only[if_true,Bool.true_and]; by_cases c:(x.f0.length:Int)=d
    · simp only[if_pos c,beq_iff_eq.2 c,Bool.true_and];exact ih () trivial
    · simp only[if_neg c,beq_eq_false_iff_ne.2 c,Bool.false_and];exact Ev.now _
theorem impl_IsNet_ev (d:Int) (N:List (List S47)) (h:N.length≤maxLen) (hi:∀ x∈N,x.length≤maxLen∧∀ y∈x,y.f0.length≤maxLen):Ev (fun k=>impl_IsNet.f k d N) (netB d N):=by
 have no:Ev (fun k=>impl_IsNet.j0 k true d N) false:=Ev.step' (f:=fun _=>some false) (fun k=>by simp only[impl_IsNet.j0,if_true]) (Ev.now _); unfold netB; refine Ev.congr (f:=fun k=>if inR 1 4 d=true then impl_IsNet.j0 k (!(inR 1 6 N.length)) d N else impl_IsNet.j0 k true d N) (fun k=>by simp only[impl_IsNet.f,impl_within_eq,Option.bind_some]) ?_; cases inR 1 4 d with
 | false=>simp only[Bool.false_eq_true,if_false,Bool.false_and];exact no
 | true =>
  simp only[if_true,Bool.true_and]; cases inR 1 6 N.length with
  | false=>simpa using no
  | true =>
   refine Ev.step' (f:=fun k=>impl_IsNet.l0 k d N (N.length:Int) 0) (fun k=>by simp[impl_IsNet.j0]) ?_; rw[Bool.true_and]; refine ev_list [] N (fun i (e:Int) k=>impl_IsNet.l0 k e N (N.length:Int) i) (fun _ ys e=>layB e ys) (fun _ _=>True) (fun e _ => ?_) (fun i y ys e hi2 hy hm _ ih => ?_) d trivial
   · exact Ev.step' (f:=fun _=>some true) (fun k=>by simp only[impl_IsNet.l0,if_neg (Int.lt_irrefl _)]) (Ev.now _)
   · have c1:(i:Int)<(N.length:Int):=by omega
     have c0:0≤(i:Int):=by omega
     show Ev _ (y.all (fun x=>planeB x.f0 x.f1 && ((x.f0.length:Int)==e)) && (inR 1 4 y.length && layB y.length ys))
     rw[Bool.and_left_comm]; refine Ev.step' (f:=fun k=>if inR 1 4 y.length=true then impl_IsNet.l1 k e y N (N.length:Int) i y (y.length:Int) 0 else some false) (fun k=>by simp only[impl_IsNet.l0,if_pos c1,if_pos c0,rdL7_nat,hy,impl_within_eq,Option.bind_some]) ?_; cases inR 1 4 y.length with
     | false=>simp only[Bool.false_eq_true,if_false,Bool.false_and];exact Ev.now _
     | true =>
      simp only[if_true,Bool.true_and]; exact impl_IsNet_row N e i y _ hi2 h (hi y hm) (ih _ trivial)
def lastL (N:List (List S47)):List S47:=N.getD (N.length-1) []
theorem impl_Net_last_eq (d:Int) (N:List (List S47)) (h1:1≤N.length) (h:N.length≤1000):impl_Net_last.f d N=some (lastL N):=by
 have e:wrap64 ((N.length:Int)-1)=((N.length-1:Nat):Int):=by rw[wrap_id (by omega) (by omega)];omega
 have c0:0≤((N.length-1:Nat):Int):=by omega
 have c1:((N.length-1:Nat):Int)<(N.length:Int):=by omega
 simp only[impl_Net_last.f,e,if_pos c0,if_pos c1,rdL7_nat]; rfl
theorem impl_Plane_side_ev (w:List Int) (b:Int) (x:List Int) (hw:w.length≤maxLen) (hx:w.length≤x.length):Ev (fun k=>impl_Plane_side.f k w b x) (sideW w b x):=by
 refine Ev.bind (impl_product_ev w x hw hx) ?_; unfold sideW; by_cases c:dotW w x≥b
 · simp only[if_pos c];exact Ev.now _
 · simp only[if_neg c];exact Ev.now _
def bitS (s:Int):Int:=if s=1 then 1 else 0
def giveM (y:List S47) (x:List Int):List Int:=y.map fun p=>bitS (sideW p.f0 p.f1 x)
def okL:Nat→List (List S47)→Prop
 | _,[]=>True
 | n,y::ys=>(y.length≤4∧∀ p∈y,p.f0.length=n)∧okL y.length ys
def runM:List (List S47)→List Int→List Int
 | [],x=>x
 | y::ys,x=>runM ys (giveM y x)
theorem drop_at {α:Type} {N:List α} {i:Nat} {y d:α} (hi:i<N.length) (hy:N.getD i d=y):N.drop i=y::N.drop (i+1):=by
 rw[List.drop_eq_getElem_cons hi]; rw[List.getD_eq_getElem?_getD,List.getElem?_eq_getElem hi] at hy; simp at hy
 rw[hy]
theorem giveM_len (y:List S47) (x:List Int):(giveM y x).length=y.length:=List.length_map _
theorem bit_of_side (w:List Int) (b:Int) (x:List Int):wrap64 (Int.tdiv (wrap64 (sideW w b x+1)) 2)=bitS (sideW w b x):=by
 unfold sideW bitS; by_cases c:dotW w x≥b
 · simp only[if_pos c,if_true]; rw[wrap_id (x:=(1:Int)+1) (by omega) (by omega),show Int.tdiv ((1:Int)+1) 2=1 from rfl,wrap_id (by omega) (by omega)]
 · simp only[if_neg c]; rw[if_neg (by decide),wrap_id (x:=(-1:Int)+1) (by omega) (by omega),show Int.tdiv ((-1:Int)+1) 2=0 from rfl,wrap_id (by omega) (by omega)]
theorem impl_Net_gives_row (N:List (List S47)) (y:List S47) (x:List Int) (i:Nat) (hi:i<N.length) (hN:N.length≤1000) (hy:y.length≤1000) (hx:x.length≤1000) (hl:∀ p∈y,p.f0.length=x.length) :
 To (fun k=>impl_Net_gives.l1 k x [] N (N.length:Int) i y (y.length:Int) 0) (fun k=>impl_Net_gives.l0 k (giveM y x) N (N.length:Int) ((i+1:Nat):Int)):=by
 have hf:=to_fold (L:=fun j (t:List Int) k=>impl_Net_gives.l1 k x t N (N.length:Int) i y (y.length:Int) j) (n:=y.length) (f:=fun j t=>t++[bitS (sideW (y.getD j z47).f0 (y.getD j z47).f1 x)]) (fun j t=>t.length=j) (fun j t hj ht=>⟨?_,by simp[ht]⟩) [] rfl
 · refine hf.1.trans (To.step fun k => ?_); rw[fold_append,List.nil_append,range_map y (fun p=>bitS (sideW p.f0 p.f1 x)) z47]; simp only[impl_Net_gives.l1,if_neg (Int.lt_irrefl _),wrap_succ hi (by omega:N.length≤9223372036854775807)]; rfl
 · have c2:(j:Int)<(y.length:Int):=by omega
   have c3:0≤(j:Int):=by omega
   have c4:t.length<17592186044416:=by omega
   have hm:=hl _ (getD_mem hj z47); refine (To.step (f:=fun k=>(impl_Plane_side.f k (y.getD j z47).f0 (y.getD j z47).f1 x).bind fun u=>impl_Net_gives.l1 k x (t++[wrap64 (Int.tdiv (wrap64 (u+1)) 2)]) N (N.length:Int) i y (y.length:Int) ((j+1:Nat):Int)) fun k => ?_).trans ((To.bind (impl_Plane_side_ev _ _ x (by unfold maxLen;omega) (by omega))).trans (To.congr fun k=>by rw[bit_of_side])); simp only[impl_Net_gives.l1,if_pos c2,if_pos c3,if_pos c4,rdT47_nat,wrap_succ hj (by omega:y.length≤9223372036854775807)]
theorem impl_Net_gives_ev (d:Int) (N:List (List S47)) (x:List Int) (hN:N.length≤1000) (hx:x.length≤1000) (hok:okL x.length N):Ev (fun k=>impl_Net_gives.f k d N x) (runM N x):=by
 refine Ev.congr (f:=fun k=>impl_Net_gives.l0 k x N (N.length:Int) 0) (fun k=>by simp only[impl_Net_gives.f,impl_copied_eq x hx,Option.bind_some]) ?_; refine ev_list [] N (fun i (s:List Int) k=>impl_Net_gives.l0 k s N (N.length:Int) i) (fun _ ys s=>runM ys s) (fun i s=>s.length≤1000∧okL s.length (N.drop i)) (fun s _ => ?_) (fun i y ys s hi hy hm hs ih => ?_) x ⟨hx,hok⟩
 · exact Ev.step' (f:=fun _=>some s) (fun k=>by simp only[impl_Net_gives.l0,if_neg (Int.lt_irrefl _)]) (Ev.now _)
 · have c1:(i:Int)<(N.length:Int):=by omega
   have c0:0≤(i:Int):=by omega
   obtain ⟨h1,h2⟩:=hs; rw[drop_at hi hy] at h2; obtain ⟨⟨h3,h4⟩,h5⟩:=h2; exact Ev.step' (f:=fun k=>impl_Net_gives.l1 k s [] N (N.length:Int) i y (y.length:Int) 0) (fun k=>by simp only[impl_Net_gives.l0,if_pos c1,if_pos c0,rdL7_nat,hy]) (impl_Net_gives_row N y s i hi hN (by omega) h1 h4 _ (ih (giveM y s) ⟨by rw[giveM_len];omega,by rw[giveM_len];exact h5⟩))
def RowOk (n c i:Nat) (s:List (List Int)):Prop:=s.length=n∧∀ j,j<n→(s.getD j []).length=if j<i then c+1 else c
def addCell (g:List Int) (i:Nat) (s:List (List Int)):List (List Int):=s.set i (s.getD i []++[g.getD i 0])
def rowT (n:Nat) (g:List Int) (s:List (List Int)):List (List Int):=(List.range n).foldl (fun s i=>addCell g i s) s
theorem rowOk_step {n c i:Nat} {s:List (List Int)} (g:List Int) (hi:i<n) (h:RowOk n c i s):RowOk n c (i+1) (addCell g i s):=by
 obtain ⟨h1,h2⟩:=h; refine ⟨by unfold addCell;rw[List.length_set];exact h1,fun j hj => ?_⟩; unfold addCell; by_cases e:j=i
 · subst e; have:=h2 j hj; rw[if_neg (Nat.lt_irrefl _)] at this; rw[if_pos (by omega),List.getD_eq_getElem?_getD,List.getElem?_set_self (by omega),Option.getD_some,List.length_append,this]; rfl
 · have:=h2 j hj; rw[List.getD_eq_getElem?_getD,List.getElem?_set_ne (Ne.symm e),← List.getD_eq_getElem?_getD,this]; by_cases c1:j<i
   · rw[if_pos c1,if_pos (by omega)]
   · rw[if_neg c1,if_neg (by omega)]
theorem rowOk_next {n c:Nat} {s:List (List Int)} (h:RowOk n c n s):RowOk n (c+1) 0 s:=⟨h.1,fun j hj=>by rw[h.2 j hj,if_pos hj,if_neg (by omega)]⟩
def tabsM (d:Nat) (N:List (List S47)):List (List Int):=(List.range (2 ^ d)).foldl (fun s (c:Nat)=>rowT (lastL N).length (runM N (bitPt d (c:Int))) s) (List.replicate (lastL N).length [])
theorem layB_ok:∀ (N:List (List S47)) (n:Nat),layB n N=true→okL n N
 | [],_,_=>trivial
 | y::ys,n,h=>by
  simp only[layB,Bool.and_eq_true,List.all_eq_true,beq_iff_eq] at h; have hl:=(inR_iff _ _ _).1 h.2.1; exact ⟨⟨by omega,fun p hp=>by have:=(h.1 p hp).2;omega⟩,layB_ok ys y.length h.2.2⟩
theorem netB_ok {d:Int} {N:List (List S47)} (h:netB d N=true):(1≤d∧d≤4)∧(1≤N.length∧N.length≤6)∧okL d.toNat N:=by
 unfold netB at h; simp only[Bool.and_eq_true] at h; have h1:=(inR_iff _ _ _).1 h.1; have h2:=(inR_iff _ _ _).1 h.2.1; refine ⟨h1,by omega,layB_ok N d.toNat ?_⟩; rw[Int.toNat_of_nonneg (by omega)]; exact h.2.2
theorem okL_last:∀ (N:List (List S47)) (n:Nat),1≤N.length→okL n N→(lastL N).length≤4
 | [y],n,_,h=>by have:=h.1.1;simpa [lastL] using this
 | y::z::ys,n,_,h=>by
  have:=okL_last (z::ys) y.length (by simp) h.2; simpa [lastL] using this
theorem pow_small {d:Nat} (h:d≤4):2 ^ d≤16:=Nat.pow_le_pow_right (n:=2) (by omega) h
theorem shl_pow {d:Nat} (h:d≤4):shl .i64 1 (d:Int)=((2 ^ d:Nat):Int):=by
 have:d=0∨d=1∨d=2∨d=3∨d=4:=by omega
 rcases this with rfl|rfl|rfl|rfl|rfl <;> decide +kernel
theorem runM_len:∀ (N:List (List S47)) (x:List Int),1≤N.length→(runM N x).length=(lastL N).length
 | [y],x,_=>by simp[runM,lastL,giveM_len]
 | y::z::ys,x,_=>by
  have:=runM_len (z::ys) (giveM y x) (by simp); show (runM (z::ys) (giveM y x)).length=_
  rw[this]; simp[lastL]
theorem impl_Net_tables_row (d:Int) (N:List (List S47)) (M:Int) (n c:Nat) (g:List Int) (s:List (List Int)) (hg:g.length=n) (hn:n≤1000) (hc:c≤1000) (hs:RowOk n c 0 s) :
 To (fun k=>impl_Net_tables.l1 k s M (c:Int) g (g.length:Int) 0 d N) (fun k=>impl_Net_tables.l0 k (rowT n g s) M ((c+1:Nat):Int) d N)∧RowOk n (c+1) 0 (rowT n g s):=by
 have hf:=to_fold (L:=fun j (t:List (List Int)) k=>impl_Net_tables.l1 k t M (c:Int) g (g.length:Int) j d N) (n:=n) (f:=fun j t=>addCell g j t) (fun j t=>RowOk n c j t) (fun j t hj ht=>⟨To.step fun k => ?_,rowOk_step g hj ht⟩) s hs
 · refine ⟨hf.1.trans (To.step fun k => ?_),rowOk_next hf.2⟩; simp only[impl_Net_tables.l1,hg,if_neg (Int.lt_irrefl _),wrap_succ (i:=c) (n:=1001) (by omega) (by omega)]; rfl
 · have h1:t.length=n:=ht.1; have h2:=ht.2 j hj; rw[if_neg (Nat.lt_irrefl _)] at h2; have c1:(j:Int)<(t.length:Int):=by omega
   have c0:0≤(j:Int):=by omega
   have c2:(j:Int)<(g.length:Int):=by omega
   have c3:(t.getD j []).length<17592186044416:=by omega
   simp only[impl_Net_tables.l1,if_pos c1,if_pos c0,if_pos c2,rdL2_nat,rdL3_nat,if_pos c3,rd_nat,Int.toNat_natCast,wrap_succ (i:=j) (n:=n) hj (by omega)]; rfl
theorem impl_Net_tables_ev (d:Int) (N:List (List S47)) (h:netB d N=true):Ev (fun k=>impl_Net_tables.f k d N) (tabsM d.toNat N):=by
 obtain ⟨h1,h2,h3⟩:=netB_ok h; have hl:=okL_last N d.toNat (by omega) h3; have c2:0≤((lastL N).length:Int):=by omega
 have c3:(lastL N).length≤11728124029610:=by omega
 obtain ⟨m,rfl⟩:∃ m:Nat,d=(m:Int):=⟨d.toNat,by omega⟩; rw[Int.toNat_natCast] at h3 ⊢; have cd:0≤(m:Int):=by omega
 have hp:=pow_small (d:=m) (by omega); refine Ev.congr (f:=fun k=>impl_Net_tables.l0 k (List.replicate (lastL N).length []) ((2 ^ m:Nat):Int) 0 (m:Int) N) (fun k=>by simp only[impl_Net_tables.f,impl_Net_last_eq (m:Int) N (by omega) (by omega),Option.bind_some,if_pos c2,Int.toNat_natCast,if_pos c3,if_pos cd,shl_pow (d:=m) (by omega)]) ?_; have hf:=to_fold (L:=fun c (s:List (List Int)) k=>impl_Net_tables.l0 k s ((2 ^ m:Nat):Int) c (m:Int) N) (n:=2 ^ m) (f:=fun (c:Nat) s=>rowT (lastL N).length (runM N (bitPt m (c:Int))) s) (fun c s=>RowOk (lastL N).length c 0 s) (fun c s hc hs => ?_) (List.replicate (lastL N).length []) ⟨by simp,fun j hj=>by simp[List.getElem?_replicate,hj]⟩
 · refine hf.1 _ (Ev.step' (f:=fun _=>some (tabsM m N)) (fun k => ?_) (Ev.now _)); simp only[impl_Net_tables.l0,if_neg (Int.lt_irrefl _)]; rfl
 · have hbl:=bitPt_len m (c:Int); have hr:=impl_Net_tables_row (m:Int) N ((2 ^ m:Nat):Int) (lastL N).length c (runM N (bitPt m (c:Int))) s (runM_len N _ (by omega)) (by omega) (by omega) hs; have cc:(c:Int)<((2 ^ m:Nat):Int):=by omega
   refine ⟨(To.step (f:=fun k=>(impl_bitPoint.f k (m:Int) (c:Int)).bind fun t=>(impl_Net_gives.f k (m:Int) N t).bind fun u=>impl_Net_tables.l1 k s ((2 ^ m:Nat):Int) (c:Int) u (u.length:Int) 0 (m:Int) N) (fun k => ?_)).trans ((To.bind (impl_bitPoint_ev m (c:Int) (by omega))).trans ((To.bind (impl_Net_gives_ev (m:Int) N _ (by omega) (by omega) (by rw[hbl];exact h3))).trans hr.1)),hr.2⟩; simp only[impl_Net_tables.l0,if_pos cc]
def netTablesM (d:Int) (N:List (List S47)):List (List Int)×Bool:=if netB d N=true then (tabsM d.toNat N,true) else ([],false)
theorem impl_NetTables_ev (d:Int) (N:List (List S47)) (h:N.length≤maxLen) (hi:∀ x∈N,x.length≤maxLen∧∀ y∈x,y.f0.length≤maxLen):Ev (fun k=>impl_NetTables.f k d N) (netTablesM d N):=by
 refine Ev.bind (impl_IsNet_ev d N h hi) ?_; unfold netTablesM; cases hn:netB d N with
 | false=>simp only[Bool.false_eq_true,if_false];exact Ev.now _
 | true =>
  simp only[if_true]; exact Ev.bind (impl_Net_tables_ev d N hn) (Ev.now _)
theorem leastS_ok (n:Nat) (T:List Int):∀ (L:List (List Int)) (s:List Int×Bool),(s.2=true→okW2 n T s.1=true)→(L.foldl (fun s x=>sstep n T x s) s).2=true→okW2 n T (L.foldl (fun s x=>sstep n T x s) s).1=true
 | [],_,h,h2=>h h2
 | x::L,s,h,h2=>by
  refine leastS_ok n T L (sstep n T x s) (fun q => ?_) h2; unfold sstep at q ⊢; split
  · next c=>rw[if_pos c] at q;exact h q
  · next c =>
    rw[if_neg c] at q; by_cases e:okW2 n T x=true
    · rw[if_pos e];exact e
    · rw[if_neg e] at q ⊢;exact h q
theorem leastS_yes (n:Nat) (T:List Int):∀ (L:List (List Int)) (s:List Int×Bool),(s.2=true∨∃ x∈L,okW2 n T x=true)→(L.foldl (fun s x=>sstep n T x s) s).2=true
 | [],s,h=>by
  rcases h with h|⟨x,hx,_⟩
  · exact h
  · cases hx
 | x::L,s,h=>by
  refine leastS_yes n T L (sstep n T x s) ?_; have keep:s.2=true→(sstep n T x s).2=true:=fun q=>by
   unfold sstep; split
   · exact q
   · split
     · rfl
     · exact q
  rcases h with h|⟨y,hy,e⟩
  · exact .inl (keep h)
  · rcases List.mem_cons.1 hy with rfl|hy
    · refine .inl ?_; by_cases q:s.2=true
      · exact keep q
      · unfold sstep; rw[if_neg (fun h=>q h.1),if_pos e]
    · exact .inr ⟨y,hy,e⟩
end Go.Proofs.Ytkbahcbankfffaa.QFnPairs
