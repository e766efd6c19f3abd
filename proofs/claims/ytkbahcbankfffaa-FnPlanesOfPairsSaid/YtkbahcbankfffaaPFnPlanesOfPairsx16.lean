import Derived.Lib.OwnBridge
import Derived.Sort.OwnSortedInts
import Derived.Test.YtkbahcbankfffaaSl
import Derived.Test.YtkbahcbankfffaaIns
import Derived.Test.YtkbahcbankfffaaWRepsOne
import Derived.Test.YtkbahcbankfffaaPFnPlanesOfPairsx0
import Derived.Test.YtkbahcbankfffaaPFnPlanesOfPairsx15
import Derived.Test.YtkbahcbankfffaaSh
import Derived.Test.YtkbahcbankfffaaSz
namespace Go.Proofs.Ytkbahcbankfffaa.PFnPlanesOfPairs
open Go.RowKit Go.Proofs.Ytkbahcbankfffaa.Sh Go.Proofs.YtkbahcbankfffaaW.PrintWords Go.Proofs.YtkbahcbankfffaaW.PrintLast Go.Proofs.YtkbahcbankfffaaW.PrintMore
attribute [local go_sem] max2_int min2_int max_two min_two max_three min_three max_four min_four
set_option linter.unusedVariables false
set_option maxHeartbeats 8000000
set_option maxRecDepth 100000
set_option linter.unusedSimpArgs false
def impl_squares.l0:Nat→List Int→Int→List Int→Int→Int→Option (Int)
 | 0,_,_,_,_,_=>none
 | k+1,x1,U,x8,X,J=>if J<X then (if 0≤J then (if J<(x8.length:Int) then (if J<(x1.length:Int) then (impl_squares.l0 k x1 (wrap64 (U+(wrap64 ((wrap64 ((rd x8 J)-(rd x1 J)))*(wrap64 ((rd x8 J)-(rd x1 J))))))) x8 X (wrap64 (J+1))) else (none)) else (none)) else (none)) else (some U)
def impl_squares.f (k:Nat) (l0:List Int) (l1:List Int):Option (Int):=impl_squares.l0 k l1 0 l0 (l0.length:Int) 0
theorem impl_squares.calls (k:Nat) (A0:Option Addr) (c0:Nat) (l0:List Int) (A1:Option Addr) (c1:Nat) (l1:List Int) (r:Int) (w:World) (ah:Kd.C (Kd.int .i64) w A0 l0.length l0) (hc0:l0.length≤c0) (hr1:Kd.C (Kd.int .i64) w A1 l1.length l1) (ag:l1.length≤c1) (h:impl_squares.f k l0 l1=some r) :
 Calls Try.prog 159 #[.slice A0 l0.length c0,.slice A1 l1.length c1] w fun e w' => e = .returned (.int .i64 r)∧Drawn0 w w' := by
 have ai:=Aside0.mk ah;have au:=Aside0.mk hc0;clear ah hc0;have af:=Aside0.mk hr1;have av:=Aside0.mk ag;clear hr1 ag;have H:(impl_squares.l0 k l1 0 l0 (l0.length:Int) 0)=some r:=h;clear h;have H' := Aside0.mk H;clear H;go_enter Try.func159,Try.ntmps159;go_wp2;repeat (go_quiet (fail);try go_wp2)
 go_loopg [5,10] k (fun kq v5 aq w' => ∃ (U:Int) (J:Int),v5 = .int .i64 U∧aq = .int .i64 J∧Aside0 (impl_squares.l0 kq l1 U l0 (l0.length:Int) J=some r)∧Aside0 (kq≤k)∧Drawn0 w w')
 case atStart=>exact ⟨(0),(0),rD,rD,H',⟨Nat.le_refl _⟩,dR⟩
 case round =>
  clear H';try clear c1
  obtain ⟨U,J,rfl,rfl,HA,HK1,⟨m1,rfl⟩⟩:=hrel;cases gk with
  | zero=>exact absurd HA.out (by simp[impl_squares.l0])
  | succ k1 =>
   have H:=HA.out;clear HA;simp only[impl_squares.l0] at H;by_cases c3:J<(l0.length:Int)
   · replace H:=iP c3 H;have al:=decide_eq_true c3;clear c3;by_cases c4:0≤J
     · replace H:=iP c4 H;have c4b0:=decide_eq_true c4;clear c4;by_cases c5:J<(l0.length:Int)
       · replace H:=iP c5 H;have c5b0:=decide_eq_true c5;clear c5;by_cases c6:J<(l1.length:Int)
         · replace H:=iP c6 H;have ax:=decide_eq_true c6;clear c6;have H' := Aside0.mk H;clear H;have X:0≤(J:Int):=of_decide_eq_true aS;have aa:J<(l0.length:Int):=of_decide_eq_true aS;obtain ⟨aw,am,ay⟩:=Kd.at_int ai.out J X aa;cases am
           replace X:=eq_true X;replace aa:=eq_true aa;have Y:0≤(J:Int):=of_decide_eq_true aS;have ab:J<(l1.length:Int):=of_decide_eq_true aS;obtain ⟨aj,ao,az⟩:=Kd.at_int af.out J Y ab;cases ao
           replace Y:=eq_true Y;replace ab:=eq_true ab;have Z:0≤(J:Int):=of_decide_eq_true aS;have ac:J<(l1.length:Int):=of_decide_eq_true aS;obtain ⟨ak,ap,aB⟩:=Kd.at_int af.out J Z ac;obtain rfl:aj=ak:=(by injection ap);replace Z:=eq_true Z;replace ac:=eq_true ac;go_wp2;repeat (go_quiet (fail);try go_wp2)
           go_roundg k1
           case measure=>exact kM HK1
           case rel=>exact ⟨(wrap64 (U+(wrap64 ((wrap64 ((rd l0 J)-(rd l1 J)))*(wrap64 ((rd l0 J)-(rd l1 J))))))),(wrap64 (J+1)),rD,rD,H',⟨kM HK1⟩,dR⟩
         · replace H:=iN c6 H;cases H
       · replace H:=iN c5 H;cases H
     · replace H:=iN c4 H;cases H
   · replace H:=iN c3 H;have al:=decide_eq_false c3;clear c3;obtain rfl:=Option.some.inj H;go_wp2;repeat (go_quiet (fail);try go_wp2)
     go_ret
     exact ⟨rD,dR⟩
def impl_Sample_neighbors.okB (k:Nat) (P:List (List Int)) (x:List Int) (i:Int):Bool:=decide (0≤i) && (decide (i<(P.length:Int)) && (decide (i<1000000) && (impl_squares.f k (rd_L3 P i) x).isSome))
def impl_Sample_neighbors.sq (k:Nat) (P:List (List Int)) (x:List Int) (i:Int):Int:=(impl_squares.f k (rd_L3 P i) x).getD 0
def impl_Sample_neighbors.cz (s t:Int):Int:=if s<t then -1 else if s>t then 1 else 0
def impl_Sample_neighbors.cf (k:Nat) (P:List (List Int)) (x:List Int) (i j:Int):Int:=if impl_Sample_neighbors.cz (impl_Sample_neighbors.sq k P x i) (impl_Sample_neighbors.sq k P x j)=0 then wrap64 (i-j) else impl_Sample_neighbors.cz (impl_Sample_neighbors.sq k P x i) (impl_Sample_neighbors.sq k P x j)
abbrev impl_Sample_neighbors.T (k:Nat) (P:List (List Int)) (x:List Int):={i:Int // impl_Sample_neighbors.okB k P x i=true}
def impl_Sample_neighbors.lt (k:Nat) (P:List (List Int)) (x:List Int):impl_Sample_neighbors.T k P x→impl_Sample_neighbors.T k P x→Bool:=Go.Proofs.ltOf (fun a b:impl_Sample_neighbors.T k P x=>impl_Sample_neighbors.cf k P x a.1 b.1)
def impl_Sample_neighbors.enc {k:Nat} {P:List (List Int)} {x:List Int} (a:impl_Sample_neighbors.T k P x):Value := .int .i64 a.1
def impl_Sample_neighbors.srt {k:Nat} {P:List (List Int)} {x:List Int} (J:Inhabited (impl_Sample_neighbors.T k P x)) (l:List (impl_Sample_neighbors.T k P x)):Array (impl_Sample_neighbors.T k P x):=Go.Sort.insertionSort (impl_Sample_neighbors.lt k P x) l.toArray 0 l.toArray.size
def impl_Sample_neighbors.res {k:Nat} {P:List (List Int)} {x:List Int}:List (impl_Sample_neighbors.T k P x)→Option (List Int)
 | []=>none
 | a::l=>some ((impl_Sample_neighbors.srt ⟨a⟩ (a::l)).toList.map (fun z=>z.1))
def impl_Sample_neighbors.f (k:Nat) (J:List (List Int)) (U:List Int) (l1:List Int) (l2:List Int):Option (List Int):=if h:8≤k∧l2.length<20∧∀ i∈l2,impl_Sample_neighbors.okB k J l1 i=true then impl_Sample_neighbors.res (l2.attachWith (fun i=>impl_Sample_neighbors.okB k J l1 i=true) h.2.2) else none
theorem impl_Sample_neighbors.lt_iff {k:Nat} {P:List (List Int)} {x:List Int} (a b:impl_Sample_neighbors.T k P x):impl_Sample_neighbors.lt k P x a b=true↔(impl_Sample_neighbors.sq k P x a.1<impl_Sample_neighbors.sq k P x b.1∨(impl_Sample_neighbors.sq k P x a.1=impl_Sample_neighbors.sq k P x b.1∧a.1<b.1)):=by
 have ha:=a.2;have hb:=b.2;simp only[impl_Sample_neighbors.okB,Bool.and_eq_true,decide_eq_true_eq] at ha hb;simp only[impl_Sample_neighbors.lt,Go.Proofs.ltOf,decide_eq_true_eq,impl_Sample_neighbors.cf];obtain ⟨s,hs⟩:∃ s,impl_Sample_neighbors.sq k P x a.1=s:=⟨_,rfl⟩;obtain ⟨t,ht⟩:∃ t,impl_Sample_neighbors.sq k P x b.1=t:=⟨_,rfl⟩;simp only[hs,ht];have hw:wrap64 (a.1-b.1)=a.1-b.1:=by unfold wrap64;omega
 simp only[hw,impl_Sample_neighbors.cz];by_cases h1:s<t
 · simp[h1]
 · by_cases h2:s>t
   · simp[h1,h2];omega
   · have e:s=t:=by omega
     simp[e];omega
theorem impl_Sample_neighbors.lt_no {k:Nat} {P:List (List Int)} {x:List Int} (a b:impl_Sample_neighbors.T k P x):impl_Sample_neighbors.lt k P x a b=false↔¬ (impl_Sample_neighbors.sq k P x a.1<impl_Sample_neighbors.sq k P x b.1∨(impl_Sample_neighbors.sq k P x a.1=impl_Sample_neighbors.sq k P x b.1∧a.1<b.1)):=by
 rw[← impl_Sample_neighbors.lt_iff,Bool.not_eq_true]
theorem impl_Sample_neighbors.swo (k:Nat) (P:List (List Int)) (x:List Int):Go.Sort.SWO (impl_Sample_neighbors.lt k P x) :=
 ⟨fun a=>(impl_Sample_neighbors.lt_no a a).2 (by omega),fun a b c h1 h2=>(impl_Sample_neighbors.lt_iff a c).2 (by have:=(impl_Sample_neighbors.lt_iff a b).1 h1;have:=(impl_Sample_neighbors.lt_iff b c).1 h2;omega),fun a b c h1 h2=>(impl_Sample_neighbors.lt_no a c).2 (by have:=(impl_Sample_neighbors.lt_no a b).1 h1;have:=(impl_Sample_neighbors.lt_no b c).1 h2;omega)⟩
theorem impl_Sample_neighbors.srt_tell {k:Nat} {P:List (List Int)} {x:List Int} (J:Inhabited (impl_Sample_neighbors.T k P x)) (l:List (impl_Sample_neighbors.T k P x)):(impl_Sample_neighbors.srt J l).toList.Perm l∧(impl_Sample_neighbors.srt J l).toList.Pairwise (fun u v=>impl_Sample_neighbors.lt k P x v u=false):=by
 have h:Go.Sort.PermIn 0 l.toArray.size l.toArray (impl_Sample_neighbors.srt J l)∧Go.Sort.SortedIn (impl_Sample_neighbors.lt k P x) 0 l.toArray.size (impl_Sample_neighbors.srt J l):=Go.Sort.insertionSort_holds (impl_Sample_neighbors.swo k P x) l.toArray 0 l.toArray.size (Nat.zero_le _) (Nat.le_refl _);obtain ⟨⟨h1,_,h3⟩,h4⟩:=h;have e1:(impl_Sample_neighbors.srt J l).extract 0 l.toArray.size=impl_Sample_neighbors.srt J l:=by rw[← h1];simp
 have U:l.toArray.extract 0 l.toArray.size=l.toArray:=by simp
 rw[e1,U] at h3;refine ⟨by simpa using h3,List.pairwise_iff_getElem.2 (fun i j hi hj hij => ?_)⟩;have hj2:j<(impl_Sample_neighbors.srt J l).size:=by simpa using hj
 have h5:=h4 i j (Nat.zero_le _) hij (by omega);rw[getElem!_pos _ j hj2,getElem!_pos _ i (by omega)] at h5;simpa using h5
def impl_Sample_neighbors.Gr (W W' : World):Prop:=∃ q os,W' = Go.Sort.grow (W.drewN q) os
theorem impl_Sample_neighbors.Gr.refl (W:World):impl_Sample_neighbors.Gr W W:=⟨0,#[],by rw[Go.Sort.grow_empty];rfl⟩
theorem impl_Sample_neighbors.Gr.drawn {W W1 W2:World} (h:impl_Sample_neighbors.Gr W W1) (hd:Drawn0 W1 W2):impl_Sample_neighbors.Gr W W2:=by
 obtain ⟨q,os,rfl⟩:=h;obtain ⟨n,rfl⟩:=hd;exact ⟨q+n,os,by rw[← World.drewN_drewN];rfl⟩
theorem impl_Sample_neighbors.Gr.drew {W W1:World} (h:impl_Sample_neighbors.Gr W W1):impl_Sample_neighbors.Gr W W1.drew:=by
 obtain ⟨q,os,rfl⟩:=h;exact ⟨q+1,os,rfl⟩
theorem impl_Sample_neighbors.Gr.alloc {W W1:World} (h:impl_Sample_neighbors.Gr W W1) (ob:Obj):impl_Sample_neighbors.Gr W (W1.alloc ob):=by
 obtain ⟨q,os,rfl⟩:=h;exact ⟨q,os++#[ob],by rw[Go.Sort.alloc_eq_grow,Go.Sort.grow_grow]⟩
theorem impl_Sample_neighbors.cell_keep {w w1:World} {ad:Addr} {u:Value} (h:w.cell? ad=some u) (hb:Below w.heap.size w w1):w1.cell? ad=some u:=(hb.cell (World.block_lt_of_cell? w _ h)).trans h
theorem impl_Sample_neighbors.cmp_eq (s t:Int):cmp_Compare_int.f s t=some (impl_Sample_neighbors.cz s t):=by
 have e:∀ z:Int,(z != z)=false:=fun z=>by simp
 simp only[cmp_Compare_int.f,cmp_isNaN_int.f,Option.bind_some,e,Bool.false_eq_true,if_false,impl_Sample_neighbors.cz];repeat (first|rfl|split)
theorem impl_Sample_neighbors.or_eq (k:Nat) (hk:8≤k) (c d:Int):cmp_Or_int.f k [c,d]=some (if c=0 then d else c):=by
 obtain ⟨m,rfl⟩:∃ m,k=m+3:=⟨k-3,by omega⟩;have J:rd [c,d] 0=c:=rfl;have U:rd [c,d] 1=d:=rfl;have w1:wrap64 1=1:=by unfold wrap64;omega
 have w2:wrap64 2=2:=by unfold wrap64;omega
 by_cases hc:c=0
 · by_cases hd:d=0
   · subst hc hd;simp[cmp_Or_int.f,cmp_Or_int.l0,J,U,w1,w2]
   · subst hc;simp[cmp_Or_int.f,cmp_Or_int.l0,J,U,w1,w2,hd]
 · simp[cmp_Or_int.f,cmp_Or_int.l0,J,U,w1,w2,hc]
theorem impl_Sample_neighbors.clos (k:Nat) (aF:8≤k) (aj:Option Addr) (ap:Nat) (P:List (List Int)) (aG:Value) (A1:Option Addr) (c1:Nat) (x:List Int) (i j:Int) (ac ae:Nat) (W:World) (ag:Kd.C (Kd.slice 3 (Kd.int .i64)) W aj P.length P) (hr1:Kd.C (Kd.int .i64) W A1 x.length x) (ar:x.length≤c1)
 (h3:W.heap[ac]? = some (.cells #[.slice aj P.length ap,aG] 52 (0,0))) (h4:W.heap[ae]? = some (.cells #[.slice A1 x.length c1] 24 (0,0))) (hi:impl_Sample_neighbors.okB k P x i=true) (hj:impl_Sample_neighbors.okB k P x j=true) :
 Calls Try.prog 156 #[.int .i64 i,.int .i64 j,.pointer (some ⟨ac,0,none⟩),.pointer (some ⟨ae,0,none⟩)] W fun e w' => e = .returned (.int .i64 (impl_Sample_neighbors.cf k P x i j))∧impl_Sample_neighbors.Gr W w' := by
 have hu:=Try.underlying52;simp only[impl_Sample_neighbors.okB,Bool.and_eq_true,decide_eq_true_eq] at hi hj;obtain ⟨i0,i1,_,si⟩:=hi;obtain ⟨j0,j1,_,sj⟩:=hj;obtain ⟨s,hs⟩:=Option.isSome_iff_exists.1 si;obtain ⟨t,ht⟩:=Option.isSome_iff_exists.1 sj;have aq:impl_Sample_neighbors.cf k P x i j=if impl_Sample_neighbors.cz s t=0 then wrap64 (i-j) else impl_Sample_neighbors.cz s t:=by simp only[impl_Sample_neighbors.cf,impl_Sample_neighbors.sq,hs,ht,Option.getD_some]
 rw[aq];clear aq si sj;obtain ⟨r,hr⟩:∃ r,r=if impl_Sample_neighbors.cz s t=0 then wrap64 (i-j) else impl_Sample_neighbors.cz s t:=⟨_,rfl⟩;rw[← hr];have af:=impl_Sample_neighbors.or_eq k aF (impl_Sample_neighbors.cz s t) (wrap64 (i-j));rw[← hr] at af;have am:=Aside0.mk af;have al:=Aside0.mk (impl_Sample_neighbors.cmp_eq s t);clear af;have HS:=Aside0.mk hs;have HT:=Aside0.mk ht;clear hr;generalize impl_Sample_neighbors.cz s t=cc at am al;obtain ⟨ab,Ai,ci,ei,hxi,av,hci⟩:=at_L3 ag i i0 i1;cases ei
 obtain ⟨aE,Aj,cj,ej,ax,aw,au⟩:=at_L3 ag j j0 j1;obtain rfl:ab=aE:=by injection ej
 have X:=Aside0.mk h3;have Y:=Aside0.mk h4;have Z:=Aside0.mk hxi;have aa:=Aside0.mk ax;have ay:=Aside0.mk hci;have az:=Aside0.mk au;have aB:=Aside0.mk av;have aC:=Aside0.mk aw;have ao:=Aside0.mk hr1;have ak:=Aside0.mk ar;have pi:=eq_true i0;have qi:=eq_true i1;have pj:=eq_true j0;have qj:=eq_true j1;clear hs ht hxi ax hci au av aw hr1 ar h3 h4 i0 i1 j0 j1 ej ag;have HB:=Aside0.mk (Below.refl W.heap.size W);have HW:=Aside0.mk (impl_Sample_neighbors.Gr.refl W);go_enter Try.func156,Try.ntmps156;try go_wp2
 replace HB:=Aside0.mk (below_drew1 HB.out);replace HW:=Aside0.mk HW.out.drew;refine start_ (n:=21) (S:=fun w' => w'.cell? ⟨ac,0,none⟩=some (.slice (some ab) P.length ap)∧w'.cell? ⟨ae,0,none⟩=some (.slice A1 x.length c1)∧w'.cell? (ab.add i.toNat)=some (.slice Ai (rd_L3 P i).length ci)∧w'.cell? (ab.add j.toNat)=some (.slice Aj (rd_L3 P j).length cj)) (ds:=[]) #[false,false,false,false,false,false,false,false,false,false,false,false,false,false,false,false,false,false,false,false,false] (by kernel_rfl) rfl rfl ⟨impl_Sample_neighbors.cell_keep ((blk_cell X.out 0).trans rfl) HB.out,impl_Sample_neighbors.cell_keep ((blk_cell Y.out 0).trans rfl) HB.out,impl_Sample_neighbors.cell_keep Z.out HB.out,impl_Sample_neighbors.cell_keep aa.out HB.out⟩ (fun J => ?_);generalize W.drew=w13 at HB HW J ⊢;refine pure_ (i:=0) (N:=some 7) (v := ?_) (a' := ?_) #[true,false,false,false,false,false,false,false,false,false,false,false,false,false,false,false,false,false,false,false,false] rfl rfl (by kernel_rfl) (fun _ _ _ h=>h) (Or.inl ⟨by rfl,?_⟩) ?_ ?_;rotate_left
 · intro w';go_simp;with_reducible rfl
 rotate_left
 · exact aP
 refine pure_ (i:=2) (N:=some 9) (v := ?_) (a' := ?_) #[true,false,true,false,false,false,false,false,false,false,false,false,false,false,false,false,false,false,false,false,false] rfl rfl (by kernel_rfl) (fun _ _ _ h=>h) (Or.inl ⟨by rfl,?_⟩) ?_ ?_;rotate_left
 · intro w';go_simp;with_reducible rfl
 rotate_left
 · exact aP
 refine pure_ (i:=7) (N:=some 14) (v := ?_) (a' := ?_) #[true,false,true,false,false,false,false,true,false,false,false,false,false,false,false,false,false,false,false,false,false] rfl rfl (by kernel_rfl) (fun _ _ _ h=>h) (Or.inl ⟨by rfl,?_⟩) ?_ ?_;rotate_left
 · intro w';go_simp;with_reducible rfl
 rotate_left
 · exact aP
 refine pure_ (i:=9) (N:=some 16) (v := ?_) (a' := ?_) #[true,false,true,false,false,false,false,true,false,true,false,false,false,false,false,false,false,false,false,false,false] rfl rfl (by kernel_rfl) (fun _ _ _ h=>h) (Or.inl ⟨by rfl,?_⟩) ?_ ?_;rotate_left
 · intro w';go_simp;with_reducible rfl
 rotate_left
 · exact aP
 refine pure_ (i:=15) (N:=some 22) (v := ?_) (a' := ?_) #[true,false,true,false,false,false,false,true,false,true,false,false,false,false,false,true,false,false,false,false,false] rfl rfl (by kernel_rfl) (fun _ _ _ h=>h) (Or.inl ⟨by rfl,?_⟩) ?_ ?_;rotate_left
 · intro w';go_simp;with_reducible rfl
 rotate_left
 · exact aP
 refine pure_ (i:=16) (N:=some 23) (v := ?_) (a' := ?_) #[true,false,true,false,false,false,false,true,false,true,false,false,false,false,false,true,true,false,false,false,false] rfl rfl (by kernel_rfl) (fun _ _ _ h=>h) (Or.inl ⟨by rfl,?_⟩) ?_ ?_;rotate_left
 · intro w';go_simp;with_reducible rfl
 rotate_left
 · exact aP
 refine pure_ (i:=17) (N:=some 24) (v := ?_) (a' := ?_) #[true,false,true,false,false,false,false,true,false,true,false,false,false,false,false,true,true,true,false,false,false] rfl rfl (by kernel_rfl) (fun _ _ _ h=>h) (Or.inl ⟨by rfl,?_⟩) ?_ ?_;rotate_left
 · intro w';go_simp;with_reducible rfl
 rotate_left
 · exact aP
 refine take_ (i:=1) (N:=some 8) (v := ?_) (a' := ?_) #[true,true,true,false,false,false,false,true,false,true,false,false,false,false,false,true,true,true,false,false,false] rfl rfl (by kernel_rfl) (fun _ _ _ h=>h) (Or.inl ⟨by rfl,?_⟩) J ?_ ?_;rotate_left
 · rintro w' ⟨s0,s1,s2,s3⟩;go_simp;with_reducible rfl
 rotate_left
 · exact aP
 refine pure_ (i:=3) (N:=some 10) (v := ?_) (a' := ?_) #[true,true,true,true,false,false,false,true,false,true,false,false,false,false,false,true,true,true,false,false,false] rfl rfl (by kernel_rfl) (fun _ _ _ h=>h) (Or.inl ⟨by rfl,?_⟩) ?_ ?_;rotate_left
 · intro w';go_simp;with_reducible rfl
 rotate_left
 · exact aP
 refine take_ (i:=4) (N:=some 11) (v := ?_) (a' := ?_) #[true,true,true,true,true,false,false,true,false,true,false,false,false,false,false,true,true,true,false,false,false] rfl rfl (by kernel_rfl) (fun _ _ _ h=>h) (Or.inl ⟨by rfl,?_⟩) J ?_ ?_;rotate_left
 · rintro w' ⟨s0,s1,s2,s3⟩;go_simp;with_reducible rfl
 rotate_left
 · exact aP
 refine take_ (i:=5) (N:=some 12) (v := ?_) (a' := ?_) #[true,true,true,true,true,true,false,true,false,true,false,false,false,false,false,true,true,true,false,false,false] rfl rfl (by kernel_rfl) (fun _ _ _ h=>h) (Or.inl ⟨by rfl,?_⟩) J ?_ ?_;rotate_left
 · rintro w' ⟨s0,s1,s2,s3⟩;go_simp;with_reducible rfl
 rotate_left
 · exact aP
 refine take_ (i:=8) (N:=some 15) (v := ?_) (a' := ?_) #[true,true,true,true,true,true,false,true,true,true,false,false,false,false,false,true,true,true,false,false,false] rfl rfl (by kernel_rfl) (fun _ _ _ h=>h) (Or.inl ⟨by rfl,?_⟩) J ?_ ?_;rotate_left
 · rintro w' ⟨s0,s1,s2,s3⟩;go_simp;with_reducible rfl
 rotate_left
 · exact aP
 refine pure_ (i:=10) (N:=some 17) (v := ?_) (a' := ?_) #[true,true,true,true,true,true,false,true,true,true,true,false,false,false,false,true,true,true,false,false,false] rfl rfl (by kernel_rfl) (fun _ _ _ h=>h) (Or.inl ⟨by rfl,?_⟩) ?_ ?_;rotate_left
 · intro w';go_simp;with_reducible rfl
 rotate_left
 · exact aP
 refine take_ (i:=11) (N:=some 18) (v := ?_) (a' := ?_) #[true,true,true,true,true,true,false,true,true,true,true,true,false,false,false,true,true,true,false,false,false] rfl rfl (by kernel_rfl) (fun _ _ _ h=>h) (Or.inl ⟨by rfl,?_⟩) J ?_ ?_;rotate_left
 · rintro w' ⟨s0,s1,s2,s3⟩;go_simp;with_reducible rfl
 rotate_left
 · exact aP
 refine take_ (i:=12) (N:=some 19) (v := ?_) (a' := ?_) #[true,true,true,true,true,true,false,true,true,true,true,true,true,false,false,true,true,true,false,false,false] rfl rfl (by kernel_rfl) (fun _ _ _ h=>h) (Or.inl ⟨by rfl,?_⟩) J ?_ ?_;rotate_left
 · rintro w' ⟨s0,s1,s2,s3⟩;go_simp;with_reducible rfl
 rotate_left
 · exact aP
 refine one_ (i:=6) (N:=some 13) #[true,true,true,true,true,true,true,true,true,true,true,true,true,false,false,true,true,true,false,false,false] rfl rfl (by kernel_rfl) (by decide) (fun K hK => ?_);refine goes_ Try.func159 (by kernel_rfl) rfl #[.slice Ai (rd_L3 P i).length ci,.slice A1 x.length c1] (by rfl) rfl rfl aT ?_;with_reducible refine (impl_squares.calls k _ _ (rd_L3 P i) _ _ x s _ ?side1 ?side2 ?side3 ?side4 HS.out).mono ?_
 (case side1=>exact Kd.C_below ay.out HB.out);(case side2=>exact aB.out);(case side3=>exact Kd.C_below ao.out HB.out);(case side4=>exact ak.out);rintro e w14 ⟨rfl,hd⟩;refine ⟨_,rfl,?_⟩;have hb:=hd.below;replace HB:=Aside0.mk (below_step HB.out hb);replace HW:=Aside0.mk (HW.out.drawn hd);clear hd hb;refine hK.out _ _ ⟨impl_Sample_neighbors.cell_keep ((blk_cell X.out 0).trans rfl) HB.out,impl_Sample_neighbors.cell_keep ((blk_cell Y.out 0).trans rfl) HB.out,impl_Sample_neighbors.cell_keep Z.out HB.out,impl_Sample_neighbors.cell_keep aa.out HB.out⟩ (fun J => ?_);clear hK K;refine norm_ (a' := ?_) ?_ ?_;rotate_left
 · show Act.put _ (some 13) _=_
   simp only[Act.put,List.setIfInBounds_toArray,List.set_cons_zero,List.set_cons_succ,i64_w,i32_w];rfl
 refine one_ (i:=13) (N:=some 20) #[true,true,true,true,true,true,true,true,true,true,true,true,true,true,false,true,true,true,false,false,false] rfl rfl (by kernel_rfl) (by decide) (fun K hK => ?_);refine goes_ Try.func159 (by kernel_rfl) rfl #[.slice Aj (rd_L3 P j).length cj,.slice A1 x.length c1] (by rfl) rfl rfl aT ?_;with_reducible refine (impl_squares.calls k _ _ (rd_L3 P j) _ _ x t _ ?side1 ?side2 ?side3 ?side4 HT.out).mono ?_
 (case side1=>exact Kd.C_below az.out HB.out);(case side2=>exact aC.out);(case side3=>exact Kd.C_below ao.out HB.out);(case side4=>exact ak.out);rintro e aH ⟨rfl,hd⟩;refine ⟨_,rfl,?_⟩;have hb:=hd.below;replace HB:=Aside0.mk (below_step HB.out hb);replace HW:=Aside0.mk (HW.out.drawn hd);clear hd hb;refine hK.out _ _ ⟨impl_Sample_neighbors.cell_keep ((blk_cell X.out 0).trans rfl) HB.out,impl_Sample_neighbors.cell_keep ((blk_cell Y.out 0).trans rfl) HB.out,impl_Sample_neighbors.cell_keep Z.out HB.out,impl_Sample_neighbors.cell_keep aa.out HB.out⟩ (fun J => ?_);clear hK K;refine norm_ (a' := ?_) ?_ ?_;rotate_left
 · show Act.put _ (some 20) _=_
   simp only[Act.put,List.setIfInBounds_toArray,List.set_cons_zero,List.set_cons_succ,i64_w,i32_w];rfl
 refine one_ (i:=14) (N:=some 21) #[true,true,true,true,true,true,true,true,true,true,true,true,true,true,true,true,true,true,false,false,false] rfl rfl (by kernel_rfl) (by decide) (fun K hK => ?_);refine goes_ Try.func158 (by kernel_rfl) rfl #[.int .i64 s,.int .i64 t] (by rfl) rfl rfl aT ?_;with_reducible refine (cmp_Compare_int.calls s t cc _ al.out).mono ?_
 rintro e U ⟨rfl,hd⟩;refine ⟨_,rfl,?_⟩;have hb:=hd.below;replace HB:=Aside0.mk (below_step HB.out hb);replace HW:=Aside0.mk (HW.out.drawn hd);clear hd hb;refine hK.out _ _ ⟨impl_Sample_neighbors.cell_keep ((blk_cell X.out 0).trans rfl) HB.out,impl_Sample_neighbors.cell_keep ((blk_cell Y.out 0).trans rfl) HB.out,impl_Sample_neighbors.cell_keep Z.out HB.out,impl_Sample_neighbors.cell_keep aa.out HB.out⟩ (fun J => ?_);clear hK K;refine norm_ (a' := ?_) ?_ ?_;rotate_left
 · show Act.put _ (some 21) _=_
   simp only[Act.put,List.setIfInBounds_toArray,List.set_cons_zero,List.set_cons_succ,i64_w,i32_w];rfl
 refine one_ (i:=18) (N:=some 25) #[true,true,true,true,true,true,true,true,true,true,true,true,true,true,true,true,true,true,true,false,false] rfl rfl (by kernel_rfl) (by decide) (fun K hK => ?_);refine event_step (v := .slice (some ⟨U.heap.size,0,none⟩) 2 2) (w1:=U.alloc (.cells #[.int .i64 cc,.int .i64 (wrap64 (i-j))] 3)) (by rfl) (by first|(go_simp;done)|(go_simp;rfl)) ?_;have hb:=below_alloc (Below.refl U.heap.size U) (.cells #[.int .i64 cc,.int .i64 (wrap64 (i-j))] 3);have aD:Aside0 (Kd.C (Kd.int .i64) (U.alloc (.cells #[.int .i64 cc,.int .i64 (wrap64 (i-j))] 3)) (some ⟨U.heap.size,0,none⟩) [cc,wrap64 (i-j)].length [cc,wrap64 (i-j)]):=Aside0.mk (Kd.R_reads' (Go.Proofs.Ytkbahcbankfffaa.Sl.R_of_reps (Kd.int .i64) (W:=U) (base:=0) (e:=3) (xs:=[cc,wrap64 (i-j)]) (inner:=[.int .i64 cc,.int .i64 (wrap64 (i-j))]) (ok:=fun _=>True) (Reps.one (show Kd.M (Kd.int .i64) _ _ _ cc [.int .i64 cc] from rfl) (Reps.one (show Kd.M (Kd.int .i64) _ _ _ (wrap64 (i-j)) [.int .i64 (wrap64 (i-j))] from rfl) (Reps.none _ _))) trivial (Nat.zero_le _) (by simp))).2.2;replace HB:=Aside0.mk (below_step HB.out hb);replace HW:=Aside0.mk (HW.out.alloc (.cells #[.int .i64 cc,.int .i64 (wrap64 (i-j))] 3));clear hb;refine hK.out _ _ ⟨impl_Sample_neighbors.cell_keep ((blk_cell X.out 0).trans rfl) HB.out,impl_Sample_neighbors.cell_keep ((blk_cell Y.out 0).trans rfl) HB.out,impl_Sample_neighbors.cell_keep Z.out HB.out,impl_Sample_neighbors.cell_keep aa.out HB.out⟩ (fun J => ?_);clear hK K;refine norm_ (a' := ?_) ?_ ?_;rotate_left
 · show Act.put _ (some 25) _=_
   simp only[Act.put,List.setIfInBounds_toArray,List.set_cons_zero,List.set_cons_succ,i64_w,i32_w];rfl
 refine one_ (i:=19) (N:=some 26) #[true,true,true,true,true,true,true,true,true,true,true,true,true,true,true,true,true,true,true,true,false] rfl rfl (by kernel_rfl) (by decide) (fun K hK => ?_);refine goes_ Try.func157 (by kernel_rfl) rfl #[.slice (some ⟨U.heap.size,0,none⟩) [cc,wrap64 (i-j)].length 2] (by rfl) rfl rfl aT ?_;with_reducible refine (cmp_Or_int.calls k _ _ [cc,wrap64 (i-j)] _ _ ?side1 ?side2 am.out).mono ?_
 (case side1=>exact aD.out);(case side2=>exact Nat.le_refl _);rintro e aI ⟨rfl,hd⟩;refine ⟨_,rfl,?_⟩;have hb:=hd.below;replace HB:=Aside0.mk (below_step HB.out hb);replace HW:=Aside0.mk (HW.out.drawn hd);clear hd hb;refine hK.out _ _ ⟨impl_Sample_neighbors.cell_keep ((blk_cell X.out 0).trans rfl) HB.out,impl_Sample_neighbors.cell_keep ((blk_cell Y.out 0).trans rfl) HB.out,impl_Sample_neighbors.cell_keep Z.out HB.out,impl_Sample_neighbors.cell_keep aa.out HB.out⟩ (fun J => ?_);clear hK K;refine norm_ (a' := ?_) ?_ ?_;rotate_left
 · show Act.put _ (some 26) _=_
   simp only[Act.put,List.setIfInBounds_toArray,List.set_cons_zero,List.set_cons_succ,i64_w,i32_w];rfl
 refine pure_ (i:=20) (N:=some 6) (v := ?_) (a' := ?_) #[true,true,true,true,true,true,true,true,true,true,true,true,true,true,true,true,true,true,true,true,true] rfl rfl (by kernel_rfl) (fun _ _ _ h=>h) (Or.inl ⟨by rfl,?_⟩) ?_ ?_;rotate_left
 · intro w';go_simp;with_reducible rfl
 rotate_left
 · exact aP
 refine done_ (by kernel_rfl) ?_;go_wp2;go_ret
 exact ⟨rfl,HW.out⟩
theorem impl_Sample_neighbors.putEnc {k:Nat} {P:List (List Int)} {x:List Int} [Inhabited (impl_Sample_neighbors.T k P x)] (W:World) (g:Nat) (d:Array (impl_Sample_neighbors.T k P x)):Go.Sort.putRow (impl_Sample_neighbors.enc (k:=k) (P:=P) (x:=x)) W g 0 d=Go.Sort.putRow (Value.int .i64) W g 0 (d.map (fun z=>z.1)):=by
 unfold Go.Sort.putRow;refine congrArg (Go.Sort.mapBlock W g) ?_;funext cs
 unfold Go.Sort.putCells;congr 1
 funext k' v
 by_cases h:0≤k' ∧ k' < 0+d.size
 · rw[if_pos h,if_pos (by rw[Array.size_map];exact h)];have hk:k' - 0<d.size:=by omega
   rw[getElem!_pos d (k' - 0) hk,getElem!_pos (d.map (fun z=>z.1)) (k' - 0) (by rw[Array.size_map];exact hk),Array.getElem_map];rfl
 · rw[if_neg h,if_neg (by rw[Array.size_map];exact h)]
theorem impl_Sample_neighbors.stable {α:Type} [Inhabited α] (enc:α→Value) (cf:α→α→Int) (g:Nat) (cb:Array Value) (blk cap:Nat) (d:Array α) (w:World) (eg:∀ args w,(callFunc g args).run Try.prog w = .ok (.enter g args) w) (J:Go.Proofs.CmpLays1 Try.prog g cb enc cf blk 0 d.size w) (R:Go.Proofs.Row1 enc w blk 0 d) (Y:d.size<20) :
 Calls Try.prog 167 #[.slice (some ⟨blk,0,none⟩) d.size cap,.int .i64 d.size,.func (.func g) #[] cb] w fun e w' => e = .returned (.tuple #[])∧Go.Proofs.SW enc w blk 0 (Go.Sort.insertionSort (Go.Proofs.ltOf cf) d 0 d.size) w' := by
 have hi:=Go.Proofs.Try.insertionSortCmpFunc_s_f181 enc cf g cb blk 0 cap 0 d.size d d w w eg J R rfl (Go.Proofs.SW.start R.hH) (Nat.zero_le _) (Nat.le_refl _) (by omega);have HI:=Aside0.mk hi;clear hi J R eg;have U:decide ((20:Int)≤(d.size:Int))=false:=decide_eq_false (by omega);have X:decide ((20:Int)<(d.size:Int))=false:=decide_eq_false (by omega);go_enter Try.func167,Try.ntmps167;go_wp2;refine wp_loop_rounds 1 ?_;rw[rounds_succ];go_wp2_with (first|(go_at_call 181;refine HI.out.mono ?_;rintro e w' ⟨rfl,hS⟩))
 refine wp_loop_rounds 1 ?_;rw[rounds_succ];go_wp2;go_end0
 exact ⟨rfl,hS⟩
set_option maxHeartbeats 8000000 in
theorem impl_Sample_neighbors.sort {α:Type} [Inhabited α] (enc:α→Value) (cf:α→α→Int) (g:Nat) (cb:Array Value) (blk cap:Nat) (d:Array α) (w:World) (eg:∀ args w,(callFunc g args).run Try.prog w = .ok (.enter g args) w) (J:Go.Proofs.CmpLays1 Try.prog g cb enc cf blk 0 d.size w) (R:Go.Proofs.Row1 enc w blk 0 d) (U:d.size<20) :
 Calls Try.prog 155 #[.slice (some ⟨blk,0,none⟩) d.size cap,.func (.func g) #[] cb] w fun e w' => e = .returned (.tuple #[])∧Go.Proofs.SW enc w blk 0 (Go.Sort.insertionSort (Go.Proofs.ltOf cf) d 0 d.size) w' := by
 have HI:=Aside0.mk (impl_Sample_neighbors.stable enc cf g cb blk cap d w eg J R U);clear J R eg;go_enter Try.func155,Try.ntmps155;go_wp2_with (first|(go_at_call 167;refine HI.out.mono ?_;rintro e w' ⟨rfl,hS⟩))
 go_end0
 exact ⟨rfl,hS⟩
theorem impl_Sample_neighbors.reps_of {w:World} {base:Nat} {ok:Nat→Prop} {xs:List Int} {inner:List Value} (h:Reps ((Kd.int .i64).M w base ok) 1 xs inner):inner=xs.map (Value.int .i64):=by
 have hl:inner.length=xs.length:=by have:=h.1;omega
 refine List.ext_getElem (by rw[List.length_map];exact hl) (fun i h1 h2 => ?_);have hi:i<xs.length:=by omega
 have e:(inner.drop (i*1)).take 1=[Value.int .i64 xs[i]]:=h.2 i xs[i] (List.getElem?_eq_getElem hi);have J:((inner.drop (i*1)).take 1)[0]? = some (Value.int .i64 xs[i]):=by rw[e];rfl
 rw[List.getElem?_take,if_pos (by decide),List.getElem?_drop,show i*1+0=i from by omega,List.getElem?_eq_getElem h1] at J;rw[List.getElem_map];exact Option.some.inj J
theorem impl_Sample_neighbors.reps_to (w:World) (base:Nat) (ok:Nat→Prop) (xs:List Int):Reps ((Kd.int .i64).M w base ok) 1 xs (xs.map (Value.int .i64)):=by
 refine ⟨by simp,fun j p hp => ?_⟩;obtain ⟨hj,rfl⟩:=List.getElem?_eq_some_iff.1 hp;show ((xs.map (Value.int .i64)).drop (j*1)).take 1=[Value.int .i64 xs[j]]
 rw[Nat.mul_one,← List.map_drop,List.drop_eq_getElem_cons hj];rfl
theorem impl_Sample_neighbors.calls (k:Nat) (aa:Option Addr) (ae:Nat) (J:List (List Int)) (ab:Option Addr) (af:Nat) (U:List Int) (A1:Option Addr) (c1:Nat) (l1:List Int) (A2:Option Addr) (c2:Nat) (l2:List Int) (r:List Int) (w:World) (aw:Kd.C (Kd.slice 3 (Kd.int .i64)) w aa J.length J) (a3:J.length≤ae) (aY:Kd.C (Kd.int .i64) w ab U.length U) (a4:U.length≤af) (hr1:Kd.C (Kd.int .i64) w A1 l1.length l1) (aq:l1.length≤c1) (hr2:Kd.C (Kd.int .i64) w A2 l2.length l2) (ar:l2.length≤c2) (h:impl_Sample_neighbors.f k J U l1 l2=some r) :
 Calls Try.prog 137 #[.agg #[.slice aa J.length ae,.slice ab U.length af],.slice A1 l1.length c1,.slice A2 l2.length c2] w fun e w' => ∃ aB:Value,e = .returned (aB)∧Kd.R (Kd.int .i64) 3 w' w.heap.size (fun _=>True) aB r∧Below w.heap.size w w' := by
 have hu:=Try.underlying52;unfold impl_Sample_neighbors.f at h;split at h
 · next hk =>
   obtain ⟨aW,aQ,hok⟩:=hk;have ak:(l2.attachWith (fun i=>impl_Sample_neighbors.okB k J l1 i=true) hok).map (fun z=>z.1)=l2:=by simp
   generalize l2.attachWith (fun i=>impl_Sample_neighbors.okB k J l1 i=true) hok=L at h ak;cases L with
   | nil=>exact absurd h (by simp[impl_Sample_neighbors.res])
   | cons a L =>
    obtain ⟨az,av⟩:∃ i:Inhabited (impl_Sample_neighbors.T k J l1),i=⟨a⟩:=⟨_,rfl⟩;have hr:=Option.some.inj h;rw[← av] at hr;clear av;obtain ⟨D,hD⟩:∃ D,D=impl_Sample_neighbors.srt az (a::L):=⟨_,rfl⟩;rw[← hD] at hr;have HD:=Aside0.mk hD;clear hD;have hf:impl_copied.f l2=some l2:=by
     have:([]:List Int).length+l2.length<17592186044416:=by simp;omega
     simp only[impl_copied.f,Option.bind_some,if_pos this,List.nil_append]
    have HF:=Aside0.mk hf;have HR:=Aside0.mk hr;have HM:=Aside0.mk ak;have aK:=Aside0.mk aw;have aL:=Aside0.mk hr1;have aI:=Aside0.mk aq;have aM:=Aside0.mk hr2;have aJ:=Aside0.mk ar;have HB:=Aside0.mk (Below.refl w.heap.size w);clear h hf hr ak aw aY hr1 hr2 aq ar;have hmf:∀ (fn:Fn) (first cap:Array Value) (w:World),(Instr.makeFunc fn first cap).run Try.prog w = .ok (.func fn first cap) w:=fun _ _ _ _=>rfl
    go_enter Try.func137,Try.ntmps137;go_wp2_with (first|(refine gD 3 ?_;refine box_event ?hg (N:=3) ?hd (cs:=#[.slice aa J.length ae,.slice ab U.length af]) (t:=52) ?hr ?_;(case hd=>rfl);(case hg=>rfl);(case hr=>go_simp <;> rfl);intro X hg w3 Z hb;have ac:=Aside0.mk Z;have ai:=gS (w:=w) hg (bB HB);replace HB:=Aside0.mk (below_step (bB HB) hb);clear hb Z hg)|(refine gD 4 ?_;refine box_event ?hg (N:=4) ?hd (cs:=#[.slice A1 l1.length c1]) (t:=24) ?hr ?_;(case hd=>rfl);(case hg=>rfl);(case hr=>go_simp <;> rfl);intro Y hg w4 Z hb;have am:=Aside0.mk Z;have aE:=gS (w:=w) hg (bC HB ai);replace ac:=Aside0.mk (bW ac hb);replace HB:=Aside0.mk (below_step (bC HB ai) hb);clear hb Z hg))
    refine calls_of_args (args' := #[.slice A2 l2.length c2]) (by rfl) ?_;(with_reducible refine (impl_copied.calls _ _ l2 l2 _ ?side1 ?side2 HF.out).mono ?_);(case side1=>exact cB aM HB);(case side2=>exact aJ.out);rintro e w9 ⟨v9,rfl,ho,hb⟩;have hbase:=below_size (bD HB ai aE);obtain ⟨_,inner,hown,hrep⟩:=ho;obtain rfl:=impl_Sample_neighbors.reps_of hrep;rcases hown.2 with ⟨hnil,aX⟩|⟨g,cap,cur,hv,hgb,hblk,q1,q2,q3,q4⟩
    · have e0:=HM.out;rw[List.eq_nil_of_length_eq_zero aX] at e0;simp at e0
    · subst hv;have ap:Go.Sort.Holds (Value.int .i64) w9 g 0 l2.toArray:=Go.holds_of_blockI hblk (by have h5:=q4;rw[show (Kd.int .i64).sz=1 from rfl,Nat.mul_one] at h5;exact h5);have hsz:(a::L).toArray.size=l2.length:=by rw[← HM.out];simp
      have hH:Go.Sort.Holds (impl_Sample_neighbors.enc (k:=k) (P:=J) (x:=l1)) w9 g 0 (a::L).toArray:=by
       intro j hj;have hj2:j<l2.toArray.size:=by simpa [hsz] using hj
       have h0:=ap j hj2;refine ⟨?_,h0.2⟩;rw[h0.1];have e1:l2.toArray[j]! = ((a::L).toArray[j]!).1:=by
        rw[getElem!_pos _ j hj2,getElem!_pos _ j hj];have e2:=congrArg (fun z:List Int=>z[j]?) HM.out;simp only[List.getElem?_map] at e2;have hjl:j<(a::L).length:=by simpa using hj
        have aU:j<l2.length:=by simpa using hj2
        rw[List.getElem?_eq_getElem hjl,List.getElem?_eq_getElem aU] at e2;simpa using (Option.some.inj e2).symm
       rw[e1];rfl
      have aR:g<w9.heap.size:=blk_lt hblk;have aC := Aside0.mk (bW ac hb);have aD := Aside0.mk (bW am hb);have g3:X≠g:=Nat.ne_of_lt (Nat.lt_of_lt_of_le (blk_lt ac.out) hgb);have g4:Y≠g:=Nat.ne_of_lt (Nat.lt_of_lt_of_le (blk_lt am.out) hgb);have au:Go.Proofs.CmpLays1 Try.prog 156 #[.pointer (some ⟨X,0,none⟩),.pointer (some ⟨Y,0,none⟩)] (impl_Sample_neighbors.enc (k:=k) (P:=J) (x:=l1)) (fun a b:impl_Sample_neighbors.T k J l1=>impl_Sample_neighbors.cf k J l1 a.1 b.1) g 0 (a::L).toArray.size w9:=by
       intro m os dk hdk u v;have hg:=Go.grownBy_sortedI (w:=w9) (g:=g) (n:=m) (os:=os) (dk.map (fun z=>z.1));rw[← impl_Sample_neighbors.putEnc] at hg;have ag:=pw_below_grown (below_step HB.out hb) _ (Nat.le_trans hbase hb.size) hg (fun k_ e_=>by injection e_ with e_;omega);exact impl_Sample_neighbors.clos k aW aa ae J (.slice ab U.length af) A1 c1 l1 u.1 v.1 X Y _ (Kd.C_below aK.out ag) (Kd.C_below aL.out ag) aI.out (blk_grown aC.out hg (by simpa using g3)) (blk_grown aD.out hg (by simpa using g4)) u.2 v.2
      have hR:Go.Proofs.Row1 (impl_Sample_neighbors.enc (k:=k) (P:=J) (x:=l1)) w9 g 0 (a::L).toArray:=⟨fun _=>rfl,hH,aR⟩;have ay:Calls Try.prog 155 #[.slice (some ⟨g,0,none⟩) (a::L).toArray.size cap,.func (.func 156) #[] #[.pointer (some ⟨X,0,none⟩),.pointer (some ⟨Y,0,none⟩)]] w9 fun e w' => e = .returned (.tuple #[])∧Go.Proofs.SW (impl_Sample_neighbors.enc (k:=k) (P:=J) (x:=l1)) w9 g 0 D w' := by
       rw[HD.out];exact impl_Sample_neighbors.sort (impl_Sample_neighbors.enc (k:=k) (P:=J) (x:=l1)) (fun a b:impl_Sample_neighbors.T k J l1=>impl_Sample_neighbors.cf k J l1 a.1 b.1) 156 #[.pointer (some ⟨X,0,none⟩),.pointer (some ⟨Y,0,none⟩)] g cap (a::L).toArray w9 (enters_of Try.func156 (by kernel_rfl) rfl) au hR (by rw[hsz];exact aQ)
      have aN:=Aside0.mk ay;have aG:=Aside0.mk hblk;have HQ:=Aside0.mk (⟨hgb,q1,q2,q3⟩:_∧_∧_∧_);have aF:=Aside0.mk (below_step HB.out hb);have aO:=Aside0.mk hsz;have aH:=Aside0.mk (Nat.le_trans hbase hb.size);have ao:=Aside0.mk hbase;clear ay au hR hH ap hblk q4 hgb q1 q2 q3 hb hsz hbase g3 g4 hown hrep;go_wp2_with (fail)
      refine calls_of_args (args' := #[.slice (some ⟨g,0,none⟩) (a::L).toArray.size cap,.func (.func 156) #[] #[.pointer (some ⟨X,0,none⟩),.pointer (some ⟨Y,0,none⟩)]]) (by rw[aO.out]) ?_;refine aN.out.mono ?_;rintro e a6 ⟨rfl,n,os,rfl⟩;go_wp2;go_ret
      have hp:=(impl_Sample_neighbors.srt_tell az (a::L)).1;rw[← HD.out] at hp;have ax:(D.toList.map (fun z=>z.1)).length=l2.length:=by
       rw[List.length_map,hp.length_eq,← HM.out,List.length_map]
      have al:=Go.ownsRow_sortedI (n:=n) (os:=os) (ts:=D.toList.map (fun z=>z.1)) ax (Nat.le_trans ao.out HQ.out.1) aG.out HQ.out.2.1 HQ.out.2.2.1 HQ.out.2.2.2;have hg:=Go.grownBy_sortedI (w:=w9) (g:=g) (n:=n) (os:=os) (D.toList.map (fun z=>z.1)).toArray;have e1:(D.toList.map (fun z:impl_Sample_neighbors.T k J l1=>z.1)).toArray=D.map (fun z=>z.1):=by apply Array.ext';simp
      rw[e1,← impl_Sample_neighbors.putEnc] at al hg;have hr:D.toList.map (fun z=>z.1)=r:=HR.out;rw[hr] at al;have ag:=pw_below_grown aF.out _ aH.out hg (fun k_ e_=>by injection e_ with e_;have:=HQ.out.1;have:=ao.out;omega);refine ⟨_,rfl,⟨fun _ _=>trivial,_,?_,impl_Sample_neighbors.reps_to _ _ _ r⟩,ag⟩;have aZ:r.length=l2.length:=by rw[← hr];exact ax
      rw[aZ];exact al
 · exact absurd h (by simp)
end Go.Proofs.Ytkbahcbankfffaa.PFnPlanesOfPairs
