import Derived.Test.YtkbahcbankfffaaPFnPlanesOfPairsx0
import Derived.Test.YtkbahcbankfffaaPFnPlanesOfPairsx2
import Derived.Test.YtkbahcbankfffaaSh
import Derived.Test.YtkbahcbankfffaaSz
namespace Go.Proofs.Ytkbahcbankfffaa.PFnPlanesOfPairs
open Go.RowKit Go.Proofs.Ytkbahcbankfffaa.Sh Go.Proofs.YtkbahcbankfffaaW.PrintWords Go.Proofs.YtkbahcbankfffaaW.PrintLast Go.Proofs.YtkbahcbankfffaaW.PrintMore
attribute [local go_sem] max2_int min2_int max_two min_two max_three min_three max_four min_four
set_option linter.unusedVariables false
set_option maxHeartbeats 8000000
set_option maxRecDepth 100000
set_option linter.unusedSimpArgs false
def impl_Sample_with.l0:Nat→Int→List Int→List Int→Int→Int→Option (List Int)
 | 0,_,_,_,_,_=>none
 | k+1,x1,U,J,X,x12=>if x12<X then (if 0≤x12 then (if x12<(J.length:Int) then (if (rd J x12)=x1 then (if U.length<17592186044416 then (impl_Sample_with.l0 k x1 (U++[x12]) J X (wrap64 (x12+1))) else (none)) else (impl_Sample_with.l0 k x1 U J X (wrap64 (x12+1)))) else (none)) else (none)) else (some U)
def impl_Sample_with.f (k:Nat) (U:List (List Int)) (J:List Int) (a1:Int):Option (List Int):=impl_Sample_with.l0 k a1 (([]:List Int)) J (J.length:Int) 0
theorem impl_Sample_with.calls (k:Nat) (ae:Option Addr) (af:Nat) (Y:List (List Int)) (ah:Option Addr) (ag:Nat) (J:List Int) (a1:Int) (r:List Int) (w:World) (ay:Kd.C (Kd.slice 3 (Kd.int .i64)) w ae Y.length Y) (aw:Y.length≤af) (az:Kd.C (Kd.int .i64) w ah J.length J) (ax:J.length≤ag) (h:impl_Sample_with.f k Y J a1=some r) :
 Calls Try.prog 83 #[.agg #[.slice ae Y.length af,.slice ah J.length ag],.int .i64 a1] w fun e w' => ∃ aC:Value,e = .returned (aC)∧Kd.R (Kd.int .i64) 3 w' w.heap.size (fun _=>True) aC r∧Below w.heap.size w w' := by
 have a6:=Try.underlying52;have a4:=Aside0.mk ay;have a2:=Aside0.mk aw;clear ay aw;have aq:=Aside0.mk az;have a3:=Aside0.mk ax;clear az ax;have HB:=Aside0.mk (Below.refl w.heap.size w);have H:(impl_Sample_with.l0 k a1 (([]:List Int)) J (J.length:Int) 0)=some r:=h;clear h;obtain ⟨aE,ao⟩:∃ y_:List Int,y_=(([]:List Int)):=⟨_,rfl⟩;replace H:(impl_Sample_with.l0 k a1 aE J (J.length:Int) 0)=some r:=yH ao H
 have ar:=Aside0.mk ao;clear ao;have H' := Aside0.mk H;clear H;go_enter Try.func83,Try.ntmps83;go_wp2_with (first|(refine gD 2 ?_;refine box_event ?hg (N:=2) ?hd (cs:=#[.slice ae Y.length af,.slice ah J.length ag]) (t:=52) ?hr ?_;(case hd=>rfl);(case hg=>rfl);(case hr=>go_simp <;> rfl);intro al hg w3 av hb;have X:=Aside0.mk (av);have aZ:=gS (w:=w) hg (bB HB);have Z:=gS (w:=w) hg (bB HB);replace HB:=Aside0.mk (below_step (bB HB) hb);clear hb av hg)|(refine gD 8 ?_;refine Kd.R_lit (Kd.int .i64) _ 3 ?hg (N:=8) ?hd (xs:=([]:List Int)) (inner:=[]) (ok:=fun _=>True) (okp:=fun _=>True) ?hr ?hp (fun _ hk=>hk) trivial (Below.refl _ _) (Nat.le_refl _) (by simp) ?_;(case hd=>rfl);(case hg=>rfl);(case hr=>go_simp <;> rfl);(case hp=>exact (Reps.none _ _));intro a7 w4 aj hb hg_ hnew_;clear hg_ hnew_;(first|rw[← ar.out] at aj|(simp only[Int.reduceToNat] at aj;rw[← ar.out] at aj));have aH:=Aside0.mk (Kd.R_lower aj (below_size (bC HB Z)));replace X:=Aside0.mk (bW X hb);replace HB:=Aside0.mk (below_step (bC HB Z) hb);clear hb aj;have aQ:w4.cell? ⟨al,0,none⟩=some (.slice ae Y.length af):=(blk_cell X.out 0).trans rfl;have aR:w4.cell? ⟨al,1,none⟩=some (.slice ah J.length ag):=(blk_cell X.out 1).trans rfl;have aU:=blk_frozen X.out 0;have aW:=blk_frozen X.out 1))
 go_loopg [5,12] k (fun kq v5 aX w' => ∃ (ac:List Int) (U:Int),aX = .int .i64 U∧Aside0 (impl_Sample_with.l0 kq a1 ac J (J.length:Int) U=some r)∧Aside0 (kq≤k)∧Aside0 (Kd.R (Kd.int .i64) 3 w' w.heap.size (fun _=>True) v5 ac)∧Aside0 (w'.heap[al]? = some (.cells #[(.slice ae Y.length af),(.slice ah J.length ag)] 52 (0,0)))∧Aside0 (Below w.heap.size w w'))
 case atStart=>exact ⟨(aE),(0),rD,H',⟨Nat.le_refl _⟩,⟨pR aH⟩,⟨pB X⟩,⟨bC HB Z⟩⟩
 case round =>
  clear H';try clear aQ
  try clear aR
  try clear aU
  try clear aW
  obtain ⟨ac,U,rfl,HA,HK1,ai,X,HB⟩:=hrel;cases gk with
  | zero=>exact absurd HA.out (by simp[impl_Sample_with.l0])
  | succ k1 =>
   have H:=HA.out;clear HA;simp only[impl_Sample_with.l0] at H;by_cases c7:U<(J.length:Int)
   · replace H:=iP c7 H;have aN:=decide_eq_true c7;clear c7;by_cases c8:0≤U
     · replace H:=iP c8 H;have a5:=decide_eq_true c8;clear c8;by_cases c9:U<(J.length:Int)
       · replace H:=iP c9 H;have c9b0:=decide_eq_true c9;clear c9;by_cases c10:(rd J U)=a1
         · replace H:=iP c10 H;have c10b0:=qT c10;have aM:=nF c10;clear c10;by_cases c11:ac.length<17592186044416
           · replace H:=iP c11 H;have aJ:=Aside0.mk c11;clear c11;obtain ⟨aG,ap⟩:∃ y_:List Int,y_=(ac++[U]):=⟨_,rfl⟩;replace H:(impl_Sample_with.l0 k1 a1 aG J (J.length:Int) (wrap64 (U+1)))=some r:=yH ap H
             have aK:=Aside0.mk ap;clear ap;have H' := Aside0.mk H;clear H;have aa:0≤(U:Int):=of_decide_eq_true aS;have ab:U<(J.length:Int):=of_decide_eq_true aS;obtain ⟨au,am,ak⟩:=Kd.at_int aq.out U aa ab;cases am
             replace ak:=hC HB ak;replace aa:=eq_true aa;replace ab:=eq_true ab;go_wp2_with (first|((with_reducible refine gate_builtin (b := .append) (xs:=#[.tmp 20,.tmp 22]) rfl ?_);at_builtin;refine Kd.R_append (Kd.int .i64) (w0:=w) w.heap.size rfl (.tmp 20) (.tmp 22) 24 3 (.int .i64 0) 8 rfl Try.underlying24 info3 rfl (by decide) (by omega) u5 ac U [.int .i64 U] (fun _=>True) (fun _=>False) rfl rfl ?aP (fun _ hk=>hk.elim) ?aF ?aO ?aB ?aS ?aL ?_;(case aP=>exact rfl);(case aB=>exact (bC HB Z));(case aF=>exact (fun _ _=>trivial));(case aO=>exact (pR ai));(case aS=>exact (below_size (bC HB Z)));(case aL=>have:=aJ.out;omega);intro a8 a9 ho hb hg hat;rw[← aK.out] at ho;have aI:=Aside0.mk (ho);replace X:=Aside0.mk (blk_grown (g:=al) (o := .cells #[.slice ae Y.length af,.slice (some au) J.length ag] 52 (0,0)) (pB X) hg (Kd.R_ne ai.out X.out (by decide)));replace HB:=Aside0.mk (hb);clear ai;clear ho hb hg hat))
             go_roundg k1
             case measure=>exact kM HK1
             case rel=>exact ⟨(aG),(wrap64 (U+1)),rD,H',⟨kM HK1⟩,⟨pR aI⟩,⟨pB X⟩,⟨bC HB Z⟩⟩
           · replace H:=iN c11 H;cases H
         · replace H:=iN c10 H;have c10b0:=qF c10;have aM:=nT c10;have H' := Aside0.mk H;clear H;have aa:0≤(U:Int):=of_decide_eq_true aS;have ab:U<(J.length:Int):=of_decide_eq_true aS;obtain ⟨au,am,ak⟩:=Kd.at_int aq.out U aa ab;cases am
           replace ak:=hC HB ak;replace aa:=eq_true aa;replace ab:=eq_true ab;go_wp2;go_roundg k1
           case measure=>exact kM HK1
           case rel=>exact ⟨(ac),(wrap64 (U+1)),rD,H',⟨kM HK1⟩,⟨pR ai⟩,⟨pB X⟩,⟨bC HB Z⟩⟩
       · replace H:=iN c9 H;cases H
     · replace H:=iN c8 H;cases H
   · replace H:=iN c7 H;have aN:=decide_eq_false c7;clear c7;obtain rfl:=Option.some.inj H;go_wp2;go_ret
     exact ⟨_,eW,by (with_reducible repeat (first|apply Kd.R_alloc|apply Kd.R_drewN|apply Kd.R_drew));exact ai.out,bC HB Z⟩
def impl_isLabel.f (a0:Int):Option (Bool):=if a0=1 then (some true) else (some (a0==(-1)))
theorem impl_isLabel.calls (a0:Int) (r:Bool) (w:World) (h:impl_isLabel.f a0=some r) :
 Calls Try.prog 93 #[.int .i64 a0] w fun e w' => e = .returned (.bool r)∧Drawn0 w w' := by
 have H:(if a0=1 then (some true) else (some (a0==(-1))))=some r:=h;clear h;by_cases c2:a0=1
 · replace H:=iP c2 H;have J:=qT c2;have U:=nF c2;clear c2;obtain rfl:=Option.some.inj H;go_enter Try.func93,Try.ntmps93;go_wp2;go_ret
   exact ⟨rD,dR⟩
 · replace H:=iN c2 H;have J:=qF c2;have U:=nT c2;obtain rfl:=Option.some.inj H;go_enter Try.func93,Try.ntmps93;go_wp2;go_ret
   exact ⟨rD,dR⟩
mutual
def impl_IsSample.j0:Nat→Bool→List (List Int)→List Int→Option (Bool)
 | 0,_,_,_=>none
 | k+1,ac,U,X=>if ac=true then (some false) else (impl_IsSample.l0 k U (U.length:Int) 0 U X)
def impl_IsSample.l0:Nat→List (List Int)→Int→Int→List (List Int)→List Int→Option (Bool)
 | 0,_,_,_,_,_=>none
 | k+1,Y,Z,J,U,X=>if J<Z then (if 0≤J then (if J<(Y.length:Int) then ((impl_IsPoint.f k (rd_L3 Y J)).bind fun aa=>(if aa=true then (if 0<(U.length:Int) then (if ((rd_L3 Y J).length:Int)=((rd_L3 U 0).length:Int) then (if J<(X.length:Int) then ((impl_isLabel.f (rd X J)).bind fun ab=>(if ab=true then (impl_IsSample.l0 k Y Z (wrap64 (J+1)) U X) else (some false))) else (none)) else (some false)) else (none)) else (some false))) else (none)) else (none)) else (some true)
end
def impl_IsSample.f (k:Nat) (J:List (List Int)) (U:List Int):Option (Bool):=if (J.length:Int)>16 then (impl_IsSample.j0 k true J U) else (impl_IsSample.j0 k ((U.length:Int) != (J.length:Int)) J U)
theorem impl_IsSample.calls (k:Nat) (ap:Option Addr) (af:Nat) (J:List (List Int)) (ae:Option Addr) (ag:Nat) (Y:List Int) (r:Bool) (w:World) (a3:Kd.C (Kd.slice 3 (Kd.int .i64)) w ap J.length J) (aZ:J.length≤af) (a4:Kd.C (Kd.int .i64) w ae Y.length Y) (a2:Y.length≤ag) (h:impl_IsSample.f k J Y=some r) :
 Calls Try.prog 92 #[.agg #[.slice ap J.length af,.slice ae Y.length ag]] w fun e w' => e = .returned (.bool r)∧Below w.heap.size w w' := by
 have bO:=Try.underlying52;have aw:=Aside0.mk a3;have bk:=Aside0.mk aZ;clear a3 aZ;have aU:=Aside0.mk a4;have bl:=Aside0.mk a2;clear a4 a2;have HB:=Aside0.mk (Below.refl w.heap.size w);have H:(if (J.length:Int)>16 then (impl_IsSample.j0 k true J Y) else (impl_IsSample.j0 k ((Y.length:Int) != (J.length:Int)) J Y))=some r:=h;clear h;have aL:=Aside0.mk H;clear H;go_enter Try.func92,Try.ntmps92;go_upto_region 1 with (first|(refine gD 1 ?_;refine box_event ?hg (N:=1) ?hd (cs:=#[.slice ap J.length af,.slice ae Y.length ag]) (t:=52) ?hr ?_;(case hd=>rfl);(case hg=>rfl);(case hr=>go_simp <;> rfl);intro ab hg w3 aY hb;have X:=Aside0.mk (aY);have bj:=gS (w:=w) hg (bB HB);have am:=gS (w:=w) hg (bB HB);replace HB:=Aside0.mk (below_step (bB HB) hb);clear hb aY hg))
 (try simp only[Act.put,List.setIfInBounds_toArray,List.set_cons_zero,List.set_cons_succ]);go_cut [17] (fun bh wc=>∃ (kq:Nat) (aK:Bool),bh = .bool aK∧Aside0 (impl_IsSample.j0 kq aK J Y=some r)∧Aside0 (kq≤k)∧Aside0 (wc.heap[ab]? = some (.cells #[(.slice ap J.length af),(.slice ae Y.length ag)] 52 (0,0)))∧Aside0 (Below w.heap.size w wc))
 case first =>
  have H:=aL.out;clear aL;by_cases c4:(J.length:Int)>16
  · replace H:=iP c4 H;have c4b0:=decide_eq_true c4;have c4b1:decide (16<J.length)=true:=decide_eq_true (by omega);clear c4;(first|rw[c4b0]|(simp only[i64_w,i32_w];rw[c4b0])|rw[c4b1]|skip);have H' := Aside0.mk H;clear H;have bv:w3.cell? ⟨ab,0,none⟩=some (.slice ap J.length af):=(blk_cell X.out 0).trans rfl;have bw:w3.cell? ⟨ab,1,none⟩=some (.slice ae Y.length ag):=(blk_cell X.out 1).trans rfl;have bK:=blk_frozen X.out 0;have bL:=blk_frozen X.out 1;go_wp2;go_meet
    case rel=>exact ⟨_,(true),rD,H',⟨by first|omega|exact Nat.le_refl _⟩,⟨pB X⟩,⟨bC HB am⟩⟩
  · replace H:=iN c4 H;have c4b0:=decide_eq_false c4;have c4b1:decide (16<J.length)=false:=decide_eq_false (by omega);clear c4;(first|rw[c4b0]|(simp only[i64_w,i32_w];rw[c4b0])|rw[c4b1]|skip);have H' := Aside0.mk H;clear H;have bx:w3.cell? ⟨ab,0,none⟩=some (.slice ap J.length af):=(blk_cell X.out 0).trans rfl;have bz:w3.cell? ⟨ab,1,none⟩=some (.slice ae Y.length ag):=(blk_cell X.out 1).trans rfl;have bM:=blk_frozen X.out 0;have bN:=blk_frozen X.out 1;go_wp2;go_meet
    case rel=>exact ⟨_,(((Y.length:Int) != (J.length:Int))),rD,H',⟨by first|omega|exact Nat.le_refl _⟩,⟨pB X⟩,⟨bC HB am⟩⟩
 case rest =>
  clear aL;obtain ⟨kq,aK,rfl,HA,aR,X,HB⟩:=hcut;cases kq with
  | zero=>exact absurd HA.out (by simp[impl_IsSample.j0])
  | succ a5 =>
   have H:=HA.out;clear HA;simp only[impl_IsSample.j0] at H;by_cases c7:aK=true
   · subst c7;replace H:=iT H;obtain rfl:=Option.some.inj H;go_wp2;go_ret
     exact ⟨eW,bC HB am⟩
   · replace c7:=Bool.eq_false_iff.mpr c7;subst c7;replace H:=iF H;have H' := Aside0.mk H;clear H;have ba:wc.cell? ⟨ab,0,none⟩=some (.slice ap J.length af):=(blk_cell X.out 0).trans rfl;have bb:wc.cell? ⟨ab,1,none⟩=some (.slice ae Y.length ag):=(blk_cell X.out 1).trans rfl;have bc:=blk_frozen X.out 0;have bd:=blk_frozen X.out 1;go_wp2;go_loopg [21] a5 (fun kq bi w' => ∃ (U:Int),bi = .int .i64 U∧Aside0 (impl_IsSample.l0 kq J (J.length:Int) U J Y=some r)∧Aside0 (kq≤a5)∧Aside0 (w'.heap[ab]? = some (.cells #[(.slice ap J.length af),(.slice ae Y.length ag)] 52 (0,0)))∧Aside0 (Below w.heap.size w w'))
     case atStart=>exact ⟨(0),rD,H',⟨Nat.le_refl _⟩,⟨pB X⟩,⟨bC HB am⟩⟩
     case round =>
      clear H';try clear c7
      try clear ba
      try clear bb
      try clear bc
      try clear bd
      obtain ⟨U,rfl,HA,HK2,X,HB⟩:=hrel;cases gk with
      | zero=>exact absurd HA.out (by simp[impl_IsSample.l0])
      | succ k2 =>
       have H:=HA.out;clear HA;simp only[impl_IsSample.l0] at H;by_cases c9:U<(J.length:Int)
       · replace H:=iP c9 H;have c9b0:=decide_eq_true c9;clear c9;by_cases c10:0≤U
         · replace H:=iP c10 H;have c10b0:=decide_eq_true c10;clear c10;by_cases c11:U<(J.length:Int)
           · replace H:=iP c11 H;have c11b0:=decide_eq_true c11;clear c11;obtain ⟨bf,aG,H⟩:=bS H;by_cases aH:bf=true
             · subst aH;replace H:=iT H;by_cases aI:0<(J.length:Int)
               · replace H:=iP aI H;have bm:=decide_eq_true aI;have bn:decide (0<J.length)=true:=decide_eq_true (by omega);clear aI;by_cases c15:((rd_L3 J U).length:Int)=((rd_L3 J 0).length:Int)
                 · replace H:=iP c15 H;have c15b0:=qT c15;have a8:=nF c15;have a9:((rd_L3 J U).length==(rd_L3 J 0).length)=true:=by first|simpa using c15|(simp at c15 ⊢;omega)
                   clear c15;by_cases c16:U<(Y.length:Int)
                   · replace H:=iP c16 H;have c16b0:=decide_eq_true c16;clear c16;obtain ⟨bg,aN,H⟩:=bS H;by_cases c18:bg=true
                     · subst c18;replace H:=iT H;have H' := Aside0.mk H;clear H;have Z:0≤(U:Int):=of_decide_eq_true aS;have aa:U<(J.length:Int):=of_decide_eq_true aS;obtain ⟨ao,au,ay,az,aj,ai,ah⟩:=at_L3 aw.out U Z aa;cases az
                       replace aj:=hC HB aj;have ax:=Aside0.mk ah;have av:=Aside0.mk ai;clear ah ai;replace Z:=eq_true Z;replace aa:=eq_true aa;go_wp2_with (first|(refine gL 27 Try.func73 #[.slice au (rd_L3 J U).length ay] ?_;(with_reducible refine (impl_IsPoint.calls k2 _ _ (rd_L3 J U) true _ ?side1 ?side2 aG.out).mono ?_);(case side1=>exact cB ax HB);(case side2=>exact av.out);rintro e w' ⟨rfl,⟨nd,rfl⟩⟩;refine ⟨_,rfl,?_⟩;have bo:wr.cell? ⟨ab,0,none⟩=some (.slice (some ao) J.length af):=(blk_cell X.out 0).trans rfl;have bp:wr.cell? ⟨ab,1,none⟩=some (.slice ae Y.length ag):=(blk_cell X.out 1).trans rfl;have bA:=blk_frozen X.out 0;have bF:=blk_frozen X.out 1;have ak:0≤(0:Int):=(by omega);have al:0<(J.length:Int):=of_decide_eq_true aS;obtain ⟨aD,aO,aX,aE,ac,ar,aq⟩:=at_L3 aw.out 0 ak al;obtain rfl:ao=aD:=(by injection aE);have a6:(0<J.length)=True:=eq_true (by omega);(try rw[show ((0:Int)).toNat=0 from rfl] at ac);(try rw[Addr.add_zero'] at ac);replace ac:=hC HB ac;have aW:=Aside0.mk aq;have aQ:=Aside0.mk ar;clear aq ar;replace ak:=eq_true ak;replace al:=eq_true al;have aB:0≤(U:Int):=of_decide_eq_true aS;have aC:U<(Y.length:Int):=of_decide_eq_true aS;obtain ⟨a7,aM,aF⟩:=Kd.at_int aU.out U aB aC;cases aM;replace aF:=hC HB aF;replace aB:=eq_true aB;replace aC:=eq_true aC)|(go_at_call 93;(with_reducible refine (impl_isLabel.calls (rd Y U) true _ aN.out).mono ?_);rintro e w' ⟨rfl,⟨nd,rfl⟩⟩))
                       go_roundg k2
                       case measure=>have:=aR.out;have:=HK2.out;omega
                       case rel=>exact ⟨(wrap64 (U+1)),rD,H',⟨by have:=aR.out;have:=HK2.out;omega⟩,⟨pB X⟩,⟨bC HB am⟩⟩
                     · replace c18:=Bool.eq_false_iff.mpr c18;subst c18;replace H:=iF H;obtain rfl:=Option.some.inj H;have Z:0≤(U:Int):=of_decide_eq_true aS;have aa:U<(J.length:Int):=of_decide_eq_true aS;obtain ⟨ao,au,ay,az,aj,ai,ah⟩:=at_L3 aw.out U Z aa;cases az
                       replace aj:=hC HB aj;have ax:=Aside0.mk ah;have av:=Aside0.mk ai;clear ah ai;replace Z:=eq_true Z;replace aa:=eq_true aa;go_wp2_with (first|(refine gL 27 Try.func73 #[.slice au (rd_L3 J U).length ay] ?_;(with_reducible refine (impl_IsPoint.calls k2 _ _ (rd_L3 J U) true _ ?side1 ?side2 aG.out).mono ?_);(case side1=>exact cB ax HB);(case side2=>exact av.out);rintro e w' ⟨rfl,⟨nd,rfl⟩⟩;refine ⟨_,rfl,?_⟩;have bq:wr.cell? ⟨ab,0,none⟩=some (.slice (some ao) J.length af):=(blk_cell X.out 0).trans rfl;have br:wr.cell? ⟨ab,1,none⟩=some (.slice ae Y.length ag):=(blk_cell X.out 1).trans rfl;have bG:=blk_frozen X.out 0;have bH:=blk_frozen X.out 1;have ak:0≤(0:Int):=(by omega);have al:0<(J.length:Int):=of_decide_eq_true aS;obtain ⟨aD,aO,aX,aE,ac,ar,aq⟩:=at_L3 aw.out 0 ak al;obtain rfl:ao=aD:=(by injection aE);have a6:(0<J.length)=True:=eq_true (by omega);(try rw[show ((0:Int)).toNat=0 from rfl] at ac);(try rw[Addr.add_zero'] at ac);replace ac:=hC HB ac;have aW:=Aside0.mk aq;have aQ:=Aside0.mk ar;clear aq ar;replace ak:=eq_true ak;replace al:=eq_true al;have aB:0≤(U:Int):=of_decide_eq_true aS;have aC:U<(Y.length:Int):=of_decide_eq_true aS;obtain ⟨a7,aM,aF⟩:=Kd.at_int aU.out U aB aC;cases aM;replace aF:=hC HB aF;replace aB:=eq_true aB;replace aC:=eq_true aC)|(go_at_call 93;(with_reducible refine (impl_isLabel.calls (rd Y U) false _ aN.out).mono ?_);rintro e w' ⟨rfl,⟨nd,rfl⟩⟩))
                       go_ret
                       exact ⟨eW,bC HB am⟩
                   · replace H:=iN c16 H;cases H
                 · replace H:=iN c15 H;have c15b0:=qF c15;have a8:=nT c15;have a9:((rd_L3 J U).length==(rd_L3 J 0).length)=false:=by first|simpa using c15|(simp at c15 ⊢;omega)
                   obtain rfl:=Option.some.inj H;have Z:0≤(U:Int):=of_decide_eq_true aS;have aa:U<(J.length:Int):=of_decide_eq_true aS;obtain ⟨ao,au,ay,az,aj,ai,ah⟩:=at_L3 aw.out U Z aa;cases az
                   replace aj:=hC HB aj;have ax:=Aside0.mk ah;have av:=Aside0.mk ai;clear ah ai;replace Z:=eq_true Z;replace aa:=eq_true aa;go_wp2_with (first|(refine gL 27 Try.func73 #[.slice au (rd_L3 J U).length ay] ?_;(with_reducible refine (impl_IsPoint.calls k2 _ _ (rd_L3 J U) true _ ?side1 ?side2 aG.out).mono ?_);(case side1=>exact cB ax HB);(case side2=>exact av.out);rintro e w' ⟨rfl,⟨nd,rfl⟩⟩;refine ⟨_,rfl,?_⟩;have bs:wr.cell? ⟨ab,0,none⟩=some (.slice (some ao) J.length af):=(blk_cell X.out 0).trans rfl;have bu:wr.cell? ⟨ab,1,none⟩=some (.slice ae Y.length ag):=(blk_cell X.out 1).trans rfl;have bI:=blk_frozen X.out 0;have bJ:=blk_frozen X.out 1;have ak:0≤(0:Int):=(by omega);have al:0<(J.length:Int):=of_decide_eq_true aS;obtain ⟨aD,aO,aX,aE,ac,ar,aq⟩:=at_L3 aw.out 0 ak al;obtain rfl:ao=aD:=(by injection aE);have a6:(0<J.length)=True:=eq_true (by omega);(try rw[show ((0:Int)).toNat=0 from rfl] at ac);(try rw[Addr.add_zero'] at ac);replace ac:=hC HB ac;have aW:=Aside0.mk aq;have aQ:=Aside0.mk ar;clear aq ar;replace ak:=eq_true ak;replace al:=eq_true al))
                   go_ret
                   exact ⟨eW,bC HB am⟩
               · replace H:=iN aI H;cases H
             · replace aH:=Bool.eq_false_iff.mpr aH;subst aH;replace H:=iF H;obtain rfl:=Option.some.inj H;have Z:0≤(U:Int):=of_decide_eq_true aS;have aa:U<(J.length:Int):=of_decide_eq_true aS;obtain ⟨ao,au,ay,az,aj,ai,ah⟩:=at_L3 aw.out U Z aa;cases az
               replace aj:=hC HB aj;have ax:=Aside0.mk ah;have av:=Aside0.mk ai;clear ah ai;replace Z:=eq_true Z;replace aa:=eq_true aa;go_wp2_with (first|(refine gL 27 Try.func73 #[.slice au (rd_L3 J U).length ay] ?_;(with_reducible refine (impl_IsPoint.calls k2 _ _ (rd_L3 J U) false _ ?side1 ?side2 aG.out).mono ?_);(case side1=>exact cB ax HB);(case side2=>exact av.out);rintro e w' ⟨rfl,⟨nd,rfl⟩⟩;refine ⟨_,rfl,?_⟩))
               go_ret
               exact ⟨eW,bC HB am⟩
           · replace H:=iN c11 H;cases H
         · replace H:=iN c10 H;cases H
       · replace H:=iN c9 H;have c9b0:=decide_eq_false c9;clear c9;obtain rfl:=Option.some.inj H;go_wp2;go_ret
         exact ⟨eW,bC HB am⟩
def impl_isMixed.f (k:Nat) (J:List (List Int)) (U:List Int):Option (Bool):=(impl_IsSample.f k J U).bind fun X=>(if X=true then ((impl_Sample_with.f k J U 1).bind fun Y=>(if (Y.length:Int)>0 then ((impl_Sample_with.f k J U (-1)).bind fun Z=>(some (decide ((Z.length:Int)>0)))) else (some false))) else (some false))
theorem impl_isMixed.calls (k:Nat) (Y:Option Addr) (ab:Nat) (U:List (List Int)) (Z:Option Addr) (ac:Nat) (X:List Int) (r:Bool) (w:World) (ax:Kd.C (Kd.slice 3 (Kd.int .i64)) w Y U.length U) (av:U.length≤ab) (ay:Kd.C (Kd.int .i64) w Z X.length X) (aw:X.length≤ac) (h:impl_isMixed.f k U X=some r) :
 Calls Try.prog 82 #[.agg #[.slice Y U.length ab,.slice Z X.length ac]] w fun e w' => e = .returned (.bool r)∧Below w.heap.size w w' := by
 have bk:=Try.underlying52;have al:=Aside0.mk ax;have ai:=Aside0.mk av;clear ax av;have am:=Aside0.mk ay;have aj:=Aside0.mk aw;clear ay aw;have HB:=Aside0.mk (Below.refl w.heap.size w);have H:((impl_IsSample.f k U X).bind fun ap=>(if ap=true then ((impl_Sample_with.f k U X 1).bind fun ah=>(if (ah.length:Int)>0 then ((impl_Sample_with.f k U X (-1)).bind fun aq=>(some (decide ((aq.length:Int)>0)))) else (some false))) else (some false)))=some r:=h;clear h;obtain ⟨ap,A2,H⟩:=bS H;by_cases c3:ap=true
 · subst c3;replace H:=iT H;obtain ⟨ah,A4,H⟩:=bS H;by_cases c5:(ah.length:Int)>0
   · replace H:=iP c5 H;have c5b0:=decide_eq_true c5;have c5b1:decide (0<ah.length)=true:=decide_eq_true (by omega);clear c5;obtain ⟨aq,A6,H⟩:=bS H;obtain rfl:=Option.some.inj H;go_enter Try.func82,Try.ntmps82;go_wp2_with (first|(refine gD 1 ?_;refine box_event ?hg (N:=1) ?hd (cs:=#[.slice Y U.length ab,.slice Z X.length ac]) (t:=52) ?hr ?_;(case hd=>rfl);(case hg=>rfl);(case hr=>go_simp <;> rfl);intro ae hg w7 ag hb;have J:=Aside0.mk (ag);have au:=gS (w:=w) hg (bB HB);have aa:=gS (w:=w) hg (bB HB);replace HB:=Aside0.mk (below_step (bB HB) hb);clear hb ag hg;have a5:w7.cell? ⟨ae,0,none⟩=some (.slice Y U.length ab):=(blk_cell J.out 0).trans rfl;have a6:w7.cell? ⟨ae,1,none⟩=some (.slice Z X.length ac):=(blk_cell J.out 1).trans rfl;have bi:=blk_frozen J.out 0;have bj:=blk_frozen J.out 1)|(refine gL 4 Try.func92 #[.agg #[.slice Y U.length ab,.slice Z X.length ac]] ?_;(with_reducible refine (impl_IsSample.calls k _ _ U _ _ X true _ ?side1 ?side2 ?side3 ?side4 A2.out).mono ?_);(case side1=>exact cB al HB);(case side2=>exact ai.out);(case side3=>exact cB am HB);(case side4=>exact aj.out);rintro e w9 ⟨rfl,hb⟩;refine ⟨_,rfl,?_⟩;replace J:=Aside0.mk (bW J hb);replace HB:=Aside0.mk (below_step (bC HB aa) hb);(try clear hb);have aQ:w9.cell? ⟨ae,0,none⟩=some (.slice Y U.length ab):=(blk_cell J.out 0).trans rfl;have aR:w9.cell? ⟨ae,1,none⟩=some (.slice Z X.length ac):=(blk_cell J.out 1).trans rfl;have a7:=blk_frozen J.out 0;have a8:=blk_frozen J.out 1)|(go_at_call 83;(with_reducible refine (impl_Sample_with.calls k _ _ U _ _ X 1 ah _ ?side1 ?side2 ?side3 ?side4 A4.out).mono ?_);(case side1=>exact cB al HB);(case side2=>exact ai.out);(case side3=>exact cB am HB);(case side4=>exact aj.out);rintro e az ⟨aJ,rfl,af,hb⟩;have ak:=Aside0.mk (Kd.R_lower af (below_size (bC HB aa)));replace J:=Aside0.mk (bW J hb);replace HB:=Aside0.mk (below_step (bC HB aa) hb);(try clear hb);(try clear af);obtain ⟨aK,co12,eo12⟩:=Kd.R_slice ak.out;subst eo12;have aU:az.cell? ⟨ae,0,none⟩=some (.slice Y U.length ab):=(blk_cell J.out 0).trans rfl;have aW:az.cell? ⟨ae,1,none⟩=some (.slice Z X.length ac):=(blk_cell J.out 1).trans rfl;have a9:=blk_frozen J.out 0;have ba:=blk_frozen J.out 1)|(go_at_call 83;(with_reducible refine (impl_Sample_with.calls k _ _ U _ _ X (-1) aq _ ?side1 ?side2 ?side3 ?side4 A6.out).mono ?_);(case side1=>exact cB al HB);(case side2=>exact ai.out);(case side3=>exact cB am HB);(case side4=>exact aj.out);rintro e w14 ⟨bl,rfl,af,hb⟩;have aG:=Aside0.mk (Kd.R_lower (Kd.R_new' af (Kd.R_lt (pR ak))) (below_size (bC HB aa)));replace ak:=Aside0.mk (Kd.R_elder' (pR ak) (Kd.R_base af) hb);replace J:=Aside0.mk (bW J hb);replace HB:=Aside0.mk (below_step (bC HB aa) hb);(try clear hb);(try clear af);obtain ⟨aL,aN,aH⟩:=Kd.R_slice aG.out;subst aH))
     go_ret
     exact ⟨eW,bC HB aa⟩
   · replace H:=iN c5 H;have c5b0:=decide_eq_false c5;have c5b1:decide (0<ah.length)=false:=decide_eq_false (by omega);clear c5;obtain rfl:=Option.some.inj H;go_enter Try.func82,Try.ntmps82;go_wp2_with (first|(refine gD 1 ?_;refine box_event ?hg (N:=1) ?hd (cs:=#[.slice Y U.length ab,.slice Z X.length ac]) (t:=52) ?hr ?_;(case hd=>rfl);(case hg=>rfl);(case hr=>go_simp <;> rfl);intro ae hg aB ag hb;have J:=Aside0.mk (ag);have au:=gS (w:=w) hg (bB HB);have aa:=gS (w:=w) hg (bB HB);replace HB:=Aside0.mk (below_step (bB HB) hb);clear hb ag hg;have aX:aB.cell? ⟨ae,0,none⟩=some (.slice Y U.length ab):=(blk_cell J.out 0).trans rfl;have aY:aB.cell? ⟨ae,1,none⟩=some (.slice Z X.length ac):=(blk_cell J.out 1).trans rfl;have bb:=blk_frozen J.out 0;have bc:=blk_frozen J.out 1)|(refine gL 4 Try.func92 #[.agg #[.slice Y U.length ab,.slice Z X.length ac]] ?_;(with_reducible refine (impl_IsSample.calls k _ _ U _ _ X true _ ?side1 ?side2 ?side3 ?side4 A2.out).mono ?_);(case side1=>exact cB al HB);(case side2=>exact ai.out);(case side3=>exact cB am HB);(case side4=>exact aj.out);rintro e aC ⟨rfl,hb⟩;refine ⟨_,rfl,?_⟩;replace J:=Aside0.mk (bW J hb);replace HB:=Aside0.mk (below_step (bC HB aa) hb);(try clear hb);have aZ:aC.cell? ⟨ae,0,none⟩=some (.slice Y U.length ab):=(blk_cell J.out 0).trans rfl;have a2:aC.cell? ⟨ae,1,none⟩=some (.slice Z X.length ac):=(blk_cell J.out 1).trans rfl;have bd:=blk_frozen J.out 0;have bf:=blk_frozen J.out 1)|(go_at_call 83;(with_reducible refine (impl_Sample_with.calls k _ _ U _ _ X 1 ah _ ?side1 ?side2 ?side3 ?side4 A4.out).mono ?_);(case side1=>exact cB al HB);(case side2=>exact ai.out);(case side3=>exact cB am HB);(case side4=>exact aj.out);rintro e bm ⟨aJ,rfl,af,hb⟩;have ak:=Aside0.mk (Kd.R_lower af (below_size (bC HB aa)));replace J:=Aside0.mk (bW J hb);replace HB:=Aside0.mk (below_step (bC HB aa) hb);(try clear hb);(try clear af);obtain ⟨aM,aO,aI⟩:=Kd.R_slice ak.out;subst aI))
     go_ret
     exact ⟨eW,bC HB aa⟩
 · replace c3:=Bool.eq_false_iff.mpr c3;subst c3;replace H:=iF H;obtain rfl:=Option.some.inj H;go_enter Try.func82,Try.ntmps82;go_wp2_with (first|(refine gD 1 ?_;refine box_event ?hg (N:=1) ?hd (cs:=#[.slice Y U.length ab,.slice Z X.length ac]) (t:=52) ?hr ?_;(case hd=>rfl);(case hg=>rfl);(case hr=>go_simp <;> rfl);intro ae hg aD ag hb;have J:=Aside0.mk (ag);have au:=gS (w:=w) hg (bB HB);have aa:=gS (w:=w) hg (bB HB);replace HB:=Aside0.mk (below_step (bB HB) hb);clear hb ag hg;have a3:aD.cell? ⟨ae,0,none⟩=some (.slice Y U.length ab):=(blk_cell J.out 0).trans rfl;have a4:aD.cell? ⟨ae,1,none⟩=some (.slice Z X.length ac):=(blk_cell J.out 1).trans rfl;have bg:=blk_frozen J.out 0;have bh:=blk_frozen J.out 1)|(refine gL 4 Try.func92 #[.agg #[.slice Y U.length ab,.slice Z X.length ac]] ?_;(with_reducible refine (impl_IsSample.calls k _ _ U _ _ X false _ ?side1 ?side2 ?side3 ?side4 A2.out).mono ?_);(case side1=>exact cB al HB);(case side2=>exact ai.out);(case side3=>exact cB am HB);(case side4=>exact aj.out);rintro e bn ⟨rfl,hb⟩;refine ⟨_,rfl,?_⟩;replace J:=Aside0.mk (bW J hb);replace HB:=Aside0.mk (below_step (bC HB aa) hb);(try clear hb);(try clear hi)))
   go_ret
   exact ⟨eW,bC HB aa⟩
end Go.Proofs.Ytkbahcbankfffaa.PFnPlanesOfPairs
