import Derived.Test.YtkbahcbankfffaaPFnPlanesOfPairsx0
import Derived.Test.YtkbahcbankfffaaPFnPlanesOfPairsx1
import Derived.Test.YtkbahcbankfffaaSh
import Derived.Test.YtkbahcbankfffaaSz
namespace Go.Proofs.Ytkbahcbankfffaa.PFnPlanesOfPairs
open Go.RowKit Go.Proofs.Ytkbahcbankfffaa.Sh Go.Proofs.YtkbahcbankfffaaW.PrintWords Go.Proofs.YtkbahcbankfffaaW.PrintLast Go.Proofs.YtkbahcbankfffaaW.PrintMore
attribute [local go_sem] max2_int min2_int max_two min_two max_three min_three max_four min_four
set_option linter.unusedVariables false
set_option maxHeartbeats 8000000
set_option maxRecDepth 100000
set_option linter.unusedSimpArgs false
def impl_allWithin.l0:Nat→Int→Int→List Int→Int→Int→Option (Bool)
 | 0,_,_,_,_,_=>none
 | k+1,x1,Y,U,X,J=>if J<X then (if 0≤J then (if J<(U.length:Int) then ((impl_within.f (rd U J) x1 Y).bind fun Z=>(if Z=true then (impl_allWithin.l0 k x1 Y U X (wrap64 (J+1))) else (some false))) else (none)) else (none)) else (some true)
def impl_allWithin.f (k:Nat) (l0:List Int) (a1:Int) (J:Int):Option (Bool):=impl_allWithin.l0 k a1 J l0 (l0.length:Int) 0
theorem impl_allWithin.calls (k:Nat) (A0:Option Addr) (c0:Nat) (l0:List Int) (a1:Int) (U:Int) (r:Bool) (w:World) (ae:Kd.C (Kd.int .i64) w A0 l0.length l0) (hc0:l0.length≤c0) (h:impl_allWithin.f k l0 a1 U=some r) :
 Calls Try.prog 120 #[.slice A0 l0.length c0,.int .i64 a1,.int .i64 U] w fun e w' => e = .returned (.bool r)∧Drawn0 w w' := by
 have ac:=Aside0.mk ae;have aj:=Aside0.mk hc0;clear ae hc0;have H:(impl_allWithin.l0 k a1 U l0 (l0.length:Int) 0)=some r:=h;clear h;have H' := Aside0.mk H;clear H;go_enter Try.func120,Try.ntmps120;go_wp2;go_loopg [11] k (fun kq ai w' => ∃ (J:Int),ai = .int .i64 J∧Aside0 (impl_allWithin.l0 kq a1 U l0 (l0.length:Int) J=some r)∧Aside0 (kq≤k)∧Drawn0 w w')
 case atStart=>exact ⟨(0),rD,H',⟨Nat.le_refl _⟩,dR⟩
 case round =>
  clear H';obtain ⟨J,rfl,HA,HK1,⟨m1,rfl⟩⟩:=hrel;cases gk with
  | zero=>exact absurd HA.out (by simp[impl_allWithin.l0])
  | succ k1 =>
   have H:=HA.out;clear HA;simp only[impl_allWithin.l0] at H;by_cases c4:J<(l0.length:Int)
   · replace H:=iP c4 H;have c4b0:=decide_eq_true c4;clear c4;by_cases c5:0≤J
     · replace H:=iP c5 H;have c5b0:=decide_eq_true c5;clear c5;by_cases c6:J<(l0.length:Int)
       · replace H:=iP c6 H;have ak:=decide_eq_true c6;clear c6;obtain ⟨ah,A7,H⟩:=bS H;by_cases c8:ah=true
         · subst c8;replace H:=iT H;have H' := Aside0.mk H;clear H;have X:0≤(J:Int):=of_decide_eq_true aS;have Y:J<(l0.length:Int):=of_decide_eq_true aS;obtain ⟨af,Z,ag⟩:=Kd.at_int ac.out J X Y;cases Z
           replace X:=eq_true X;replace Y:=eq_true Y;go_wp2_with (first|(refine gL 18 Try.func55 #[.int .i64 (rd l0 J),.int .i64 a1,.int .i64 U] ?_;(with_reducible refine (impl_within.calls (rd l0 J) a1 U true _ A7.out).mono ?_);rintro e w' ⟨rfl,⟨nd,rfl⟩⟩;refine ⟨_,rfl,?_⟩))
           go_roundg k1
           case measure=>exact kM HK1
           case rel=>exact ⟨(wrap64 (J+1)),rD,H',⟨kM HK1⟩,dR⟩
         · replace c8:=Bool.eq_false_iff.mpr c8;subst c8;replace H:=iF H;obtain rfl:=Option.some.inj H;have X:0≤(J:Int):=of_decide_eq_true aS;have Y:J<(l0.length:Int):=of_decide_eq_true aS;obtain ⟨af,Z,ag⟩:=Kd.at_int ac.out J X Y;cases Z
           replace X:=eq_true X;replace Y:=eq_true Y;go_wp2_with (first|(refine gL 18 Try.func55 #[.int .i64 (rd l0 J),.int .i64 a1,.int .i64 U] ?_;(with_reducible refine (impl_within.calls (rd l0 J) a1 U false _ A7.out).mono ?_);rintro e w' ⟨rfl,⟨nd,rfl⟩⟩;refine ⟨_,rfl,?_⟩))
           go_ret
           exact ⟨rD,dR⟩
       · replace H:=iN c6 H;cases H
     · replace H:=iN c5 H;cases H
   · replace H:=iN c4 H;have c4b0:=decide_eq_false c4;clear c4;obtain rfl:=Option.some.inj H;go_wp2;go_ret
     exact ⟨rD,dR⟩
def impl_IsPoint.f (k:Nat) (l0:List Int):Option (Bool):=(impl_within.f (l0.length:Int) 1 4).bind fun J=>(if J=true then ((impl_allWithin.f k l0 (-9) 9).bind fun U=>(some U)) else (some false))
theorem impl_IsPoint.calls (k:Nat) (X:Option Addr) (c0:Nat) (l0:List Int) (r:Bool) (w:World) (Z:Kd.C (Kd.int .i64) w X l0.length l0) (hc0:l0.length≤c0) (h:impl_IsPoint.f k l0=some r) :
 Calls Try.prog 73 #[.slice X l0.length c0] w fun e w' => e = .returned (.bool r)∧Drawn0 w w' := by
 have ac:=Aside0.mk Z;have ab:=Aside0.mk hc0;clear Z hc0;have H:((impl_within.f (l0.length:Int) 1 4).bind fun J=>(if J=true then ((impl_allWithin.f k l0 (-9) 9).bind fun U=>(some U)) else (some false)))=some r:=h;clear h;obtain ⟨J,Y,H⟩:=bS H;by_cases c3:J=true
 · subst c3;replace H:=iT H;obtain ⟨U,A4,H⟩:=bS H;obtain rfl:=Option.some.inj H;go_enter Try.func73,Try.ntmps73;go_wp2_with (first|(refine gL 5 Try.func55 #[.int .i64 (l0.length:Int),.int .i64 1,.int .i64 4] ?_;(with_reducible refine (impl_within.calls (l0.length:Int) 1 4 true _ Y.out).mono ?_);rintro e w' ⟨rfl,⟨nd,rfl⟩⟩;refine ⟨_,rfl,?_⟩)|(go_at_call 120;(with_reducible refine (impl_allWithin.calls k _ _ l0 (-9) 9 U _ ?side1 ?side2 A4.out).mono ?_);(case side1=>exact cC ac);(case side2=>exact ab.out);rintro e w' ⟨rfl,⟨nd,rfl⟩⟩))
   go_ret
   exact ⟨rD,dR⟩
 · replace c3:=Bool.eq_false_iff.mpr c3;subst c3;replace H:=iF H;obtain rfl:=Option.some.inj H;go_enter Try.func73,Try.ntmps73;go_wp2_with (first|(refine gL 5 Try.func55 #[.int .i64 (l0.length:Int),.int .i64 1,.int .i64 4] ?_;(with_reducible refine (impl_within.calls (l0.length:Int) 1 4 false _ Y.out).mono ?_);rintro e w' ⟨rfl,⟨nd,rfl⟩⟩;refine ⟨_,rfl,?_⟩))
   go_ret
   exact ⟨rD,dR⟩
def slices_Equal_int_int.l0:Nat→List Int→List Int→Int→Int→Option (Bool)
 | 0,_,_,_,_=>none
 | k+1,x0,x1,x12,x13=>if x13<x12 then (if 0≤x13 then (if x13<(x0.length:Int) then (if x13<(x1.length:Int) then (if (rd x0 x13)=(rd x1 x13) then (slices_Equal_int_int.l0 k x0 x1 x12 (wrap64 (x13+1))) else (some false)) else (none)) else (none)) else (none)) else (some true)
def slices_Equal_int_int.f (k:Nat) (l0:List Int) (l1:List Int):Option (Bool):=if (l0.length:Int)=(l1.length:Int) then (slices_Equal_int_int.l0 k l0 l1 (l0.length:Int) 0) else (some false)
theorem slices_Equal_int_int.calls (k:Nat) (A0:Option Addr) (c0:Nat) (l0:List Int) (A1:Option Addr) (c1:Nat) (l1:List Int) (r:Bool) (w:World) (aj:Kd.C (Kd.int .i64) w A0 l0.length l0) (hc0:l0.length≤c0) (hr1:Kd.C (Kd.int .i64) w A1 l1.length l1) (ai:l1.length≤c1) (h:slices_Equal_int_int.f k l0 l1=some r) :
 Calls Try.prog 74 #[.slice A0 l0.length c0,.slice A1 l1.length c1] w fun e w' => e = .returned (.bool r)∧Drawn0 w w' := by
 have ac:=Aside0.mk aj;have ar:=Aside0.mk hc0;clear aj hc0;have ae:=Aside0.mk hr1;have au:=Aside0.mk ai;clear hr1 ai;have H:(if (l0.length:Int)=(l1.length:Int) then (slices_Equal_int_int.l0 k l0 l1 (l0.length:Int) 0) else (some false))=some r:=h;clear h;by_cases c3:(l0.length:Int)=(l1.length:Int)
 · replace H:=iP c3 H;have af:=qT c3;have ag:=nF c3;have ah:(l0.length==l1.length)=true:=by first|simpa using c3|(simp at c3 ⊢;omega)
   clear c3;have H' := Aside0.mk H;clear H;go_enter Try.func74,Try.ntmps74;go_wp2;repeat (go_quiet (fail);try go_wp2)
   go_loopg [13] k (fun kq v13 w' => ∃ (x13_1:Int),v13 = .int .i64 x13_1∧Aside0 (slices_Equal_int_int.l0 kq l0 l1 (l0.length:Int) x13_1=some r)∧Aside0 (kq≤k)∧Drawn0 w w')
   case atStart=>exact ⟨(0),rD,H',⟨Nat.le_refl _⟩,dR⟩
   case round =>
    clear H';try clear c1
    try clear c3
    try clear af
    try clear ag
    try clear ah
    obtain ⟨x13_1,rfl,HA,HK1,⟨m1,rfl⟩⟩:=hrel;cases gk with
    | zero=>exact absurd HA.out (by simp[slices_Equal_int_int.l0])
    | succ k1 =>
     have H:=HA.out;clear HA;simp only[slices_Equal_int_int.l0] at H;by_cases c4:x13_1<(l0.length:Int)
     · replace H:=iP c4 H;have c4b0:=decide_eq_true c4;clear c4;by_cases c5:0≤x13_1
       · replace H:=iP c5 H;have c5b0:=decide_eq_true c5;clear c5;by_cases c6:x13_1<(l0.length:Int)
         · replace H:=iP c6 H;have av:=decide_eq_true c6;clear c6;by_cases c7:x13_1<(l1.length:Int)
           · replace H:=iP c7 H;have aw:=decide_eq_true c7;clear c7;by_cases c8:(rd l0 x13_1)=(rd l1 x13_1)
             · replace H:=iP c8 H;have am:=qT c8;have ao:=nF c8;clear c8;have H' := Aside0.mk H;clear H;have J:0≤(x13_1:Int):=of_decide_eq_true aS;have X:x13_1<(l0.length:Int):=of_decide_eq_true aS;obtain ⟨ak,Z,ap⟩:=Kd.at_int ac.out x13_1 J X;cases Z
               replace J:=eq_true J;replace X:=eq_true X;have U:0≤(x13_1:Int):=of_decide_eq_true aS;have Y:x13_1<(l1.length:Int):=of_decide_eq_true aS;obtain ⟨al,aa,aq⟩:=Kd.at_int ae.out x13_1 U Y;cases aa
               replace U:=eq_true U;replace Y:=eq_true Y;go_wp2;repeat (go_quiet (fail);try go_wp2)
               go_roundg k1
               case measure=>exact kM HK1
               case rel=>exact ⟨(wrap64 (x13_1+1)),rD,H',⟨kM HK1⟩,dR⟩
             · replace H:=iN c8 H;have am:=qF c8;have ao:=nT c8;obtain rfl:=Option.some.inj H;have J:0≤(x13_1:Int):=of_decide_eq_true aS;have X:x13_1<(l0.length:Int):=of_decide_eq_true aS;obtain ⟨ak,Z,ap⟩:=Kd.at_int ac.out x13_1 J X;cases Z
               replace J:=eq_true J;replace X:=eq_true X;have U:0≤(x13_1:Int):=of_decide_eq_true aS;have Y:x13_1<(l1.length:Int):=of_decide_eq_true aS;obtain ⟨al,aa,aq⟩:=Kd.at_int ae.out x13_1 U Y;cases aa
               replace U:=eq_true U;replace Y:=eq_true Y;go_wp2;repeat (go_quiet (fail);try go_wp2)
               go_ret
               exact ⟨rD,dR⟩
           · replace H:=iN c7 H;cases H
         · replace H:=iN c6 H;cases H
       · replace H:=iN c5 H;cases H
     · replace H:=iN c4 H;have c4b0:=decide_eq_false c4;clear c4;obtain rfl:=Option.some.inj H;go_wp2;repeat (go_quiet (fail);try go_wp2)
       go_ret
       exact ⟨rD,dR⟩
 · replace H:=iN c3 H;have af:=qF c3;have ag:=nT c3;have ah:(l0.length==l1.length)=false:=by first|simpa using c3|(simp at c3 ⊢;omega)
   obtain rfl:=Option.some.inj H;go_enter Try.func74,Try.ntmps74;go_wp2;repeat (go_quiet (fail);try go_wp2)
   go_ret
   exact ⟨rD,dR⟩
def impl_product.l0:Nat→List Int→Int→List Int→Int→Int→Option (Int)
 | 0,_,_,_,_,_=>none
 | k+1,x1,U,x8,X,J=>if J<X then (if 0≤J then (if J<(x8.length:Int) then (if J<(x1.length:Int) then (impl_product.l0 k x1 (wrap64 (U+(wrap64 ((rd x8 J)*(rd x1 J))))) x8 X (wrap64 (J+1))) else (none)) else (none)) else (none)) else (some U)
def impl_product.f (k:Nat) (l0:List Int) (l1:List Int):Option (Int):=impl_product.l0 k l1 0 l0 (l0.length:Int) 0
theorem impl_product.calls (k:Nat) (A0:Option Addr) (c0:Nat) (l0:List Int) (A1:Option Addr) (c1:Nat) (l1:List Int) (r:Int) (w:World) (ae:Kd.C (Kd.int .i64) w A0 l0.length l0) (hc0:l0.length≤c0) (hr1:Kd.C (Kd.int .i64) w A1 l1.length l1) (ac:l1.length≤c1) (h:impl_product.f k l0 l1=some r) :
 Calls Try.prog 75 #[.slice A0 l0.length c0,.slice A1 l1.length c1] w fun e w' => e = .returned (.int .i64 r)∧Drawn0 w w' := by
 have af:=Aside0.mk ae;have am:=Aside0.mk hc0;clear ae hc0;have ag:=Aside0.mk hr1;have ao:=Aside0.mk ac;clear hr1 ac;have H:(impl_product.l0 k l1 0 l0 (l0.length:Int) 0)=some r:=h;clear h;have H' := Aside0.mk H;clear H;go_enter Try.func75,Try.ntmps75;go_wp2;go_loopg [5,10] k (fun kq v5 ak w' => ∃ (U:Int) (J:Int),v5 = .int .i64 U∧ak = .int .i64 J∧Aside0 (impl_product.l0 kq l1 U l0 (l0.length:Int) J=some r)∧Aside0 (kq≤k)∧Drawn0 w w')
 case atStart=>exact ⟨(0),(0),rD,rD,H',⟨Nat.le_refl _⟩,dR⟩
 case round =>
  clear H';try clear c1
  obtain ⟨U,J,rfl,rfl,HA,HK1,⟨m1,rfl⟩⟩:=hrel;cases gk with
  | zero=>exact absurd HA.out (by simp[impl_product.l0])
  | succ k1 =>
   have H:=HA.out;clear HA;simp only[impl_product.l0] at H;by_cases c3:J<(l0.length:Int)
   · replace H:=iP c3 H;have ah:=decide_eq_true c3;clear c3;by_cases c4:0≤J
     · replace H:=iP c4 H;have c4b0:=decide_eq_true c4;clear c4;by_cases c5:J<(l0.length:Int)
       · replace H:=iP c5 H;have c5b0:=decide_eq_true c5;clear c5;by_cases c6:J<(l1.length:Int)
         · replace H:=iP c6 H;have ar:=decide_eq_true c6;clear c6;have H' := Aside0.mk H;clear H;have X:0≤(J:Int):=of_decide_eq_true aS;have Z:J<(l0.length:Int):=of_decide_eq_true aS;obtain ⟨ap,ai,au⟩:=Kd.at_int af.out J X Z;cases ai
           replace X:=eq_true X;replace Z:=eq_true Z;have Y:0≤(J:Int):=of_decide_eq_true aS;have aa:J<(l1.length:Int):=of_decide_eq_true aS;obtain ⟨aq,aj,av⟩:=Kd.at_int ag.out J Y aa;cases aj
           replace Y:=eq_true Y;replace aa:=eq_true aa;go_wp2;go_roundg k1
           case measure=>exact kM HK1
           case rel=>exact ⟨(wrap64 (U+(wrap64 ((rd l0 J)*(rd l1 J))))),(wrap64 (J+1)),rD,rD,H',⟨kM HK1⟩,dR⟩
         · replace H:=iN c6 H;cases H
       · replace H:=iN c5 H;cases H
     · replace H:=iN c4 H;cases H
   · replace H:=iN c3 H;have ah:=decide_eq_false c3;clear c3;obtain rfl:=Option.some.inj H;go_wp2;go_ret
     exact ⟨rD,dR⟩
def impl_IsPlane.f (k:Nat) (J:List Int) (U:Int):Option (Bool):=(impl_within.f (J.length:Int) 1 4).bind fun X=>(if X=true then ((impl_allWithin.f k J (-99) 99).bind fun Y=>(if Y=true then ((impl_within.f U (-99) 99).bind fun Z=>(some Z)) else (some false))) else (some false))
theorem impl_IsPlane.calls (k:Nat) (Y:Option Addr) (Z:Nat) (J:List Int) (X:Int) (r:Bool) (w:World) (ao:Kd.C (Kd.int .i64) w Y J.length J) (am:J.length≤Z) (h:impl_IsPlane.f k J X=some r) :
 Calls Try.prog 76 #[.agg #[.slice Y J.length Z,.int .i64 X]] w fun e w' => e = .returned (.bool r)∧Below w.heap.size w w' := by
 have aH:=Try.underlying47;have al:=Aside0.mk ao;have ak:=Aside0.mk am;clear ao am;have HB:=Aside0.mk (Below.refl w.heap.size w);have H:((impl_within.f (J.length:Int) 1 4).bind fun af=>(if af=true then ((impl_allWithin.f k J (-99) 99).bind fun ag=>(if ag=true then ((impl_within.f X (-99) 99).bind fun ah=>(some ah)) else (some false))) else (some false)))=some r:=h;clear h;obtain ⟨af,A2,H⟩:=bS H;by_cases c3:af=true
 · subst c3;replace H:=iT H;obtain ⟨ag,A4,H⟩:=bS H;by_cases c5:ag=true
   · subst c5;replace H:=iT H;obtain ⟨ah,A6,H⟩:=bS H;obtain rfl:=Option.some.inj H;go_enter Try.func76,Try.ntmps76;go_wp2_with (first|(refine gD 1 ?_;refine box_event ?hg (N:=1) ?hd (cs:=#[.slice Y J.length Z,.int .i64 X]) (t:=47) ?hr ?_;(case hd=>rfl);(case hg=>rfl);(case hr=>go_simp <;> rfl);intro aa hg w7 ab hb;have U:=Aside0.mk (ab);have aj:=gS (w:=w) hg (bB HB);have ac:=gS (w:=w) hg (bB HB);replace HB:=Aside0.mk (below_step (bB HB) hb);clear hb ab hg;have ay:w7.cell? ⟨aa,0,none⟩=some (.slice Y J.length Z):=(blk_cell U.out 0).trans rfl;have az:w7.cell? ⟨aa,1,none⟩=some (.int .i64 X):=(blk_cell U.out 1).trans rfl;have aF:=blk_frozen U.out 0;have aG:=blk_frozen U.out 1)|(refine gL 6 Try.func55 #[.int .i64 (J.length:Int),.int .i64 1,.int .i64 4] ?_;(with_reducible refine (impl_within.calls (J.length:Int) 1 4 true _ A2.out).mono ?_);rintro e w' ⟨rfl,⟨nd,rfl⟩⟩;refine ⟨_,rfl,?_⟩)|(go_at_call 120;(with_reducible refine (impl_allWithin.calls k _ _ J (-99) 99 true _ ?side1 ?side2 A4.out).mono ?_);(case side1=>repeat (first|exact (Kd.C_below al.out (bC HB ac))|(with_reducible refine Kd.C_alloc ?_ _)|(with_reducible refine Kd.C_drewN ?_ _)|(with_reducible refine Kd.C_drew ?_)));(case side2=>exact ak.out);rintro e w' ⟨rfl,⟨nd,rfl⟩⟩)|(go_at_call 55;(with_reducible refine (impl_within.calls X (-99) 99 ah _ A6.out).mono ?_);rintro e w' ⟨rfl,⟨nd,rfl⟩⟩))
     go_ret
     exact ⟨eW,bC HB ac⟩
   · replace c5:=Bool.eq_false_iff.mpr c5;subst c5;replace H:=iF H;obtain rfl:=Option.some.inj H;go_enter Try.func76,Try.ntmps76;go_wp2_with (first|(refine gD 1 ?_;refine box_event ?hg (N:=1) ?hd (cs:=#[.slice Y J.length Z,.int .i64 X]) (t:=47) ?hr ?_;(case hd=>rfl);(case hg=>rfl);(case hr=>go_simp <;> rfl);intro aa hg w9 ab hb;have U:=Aside0.mk (ab);have aj:=gS (w:=w) hg (bB HB);have ac:=gS (w:=w) hg (bB HB);replace HB:=Aside0.mk (below_step (bB HB) hb);clear hb ab hg;have au:w9.cell? ⟨aa,0,none⟩=some (.slice Y J.length Z):=(blk_cell U.out 0).trans rfl;have av:w9.cell? ⟨aa,1,none⟩=some (.int .i64 X):=(blk_cell U.out 1).trans rfl;have aB:=blk_frozen U.out 0;have aC:=blk_frozen U.out 1)|(refine gL 6 Try.func55 #[.int .i64 (J.length:Int),.int .i64 1,.int .i64 4] ?_;(with_reducible refine (impl_within.calls (J.length:Int) 1 4 true _ A2.out).mono ?_);rintro e w' ⟨rfl,⟨nd,rfl⟩⟩;refine ⟨_,rfl,?_⟩)|(go_at_call 120;(with_reducible refine (impl_allWithin.calls k _ _ J (-99) 99 false _ ?side1 ?side2 A4.out).mono ?_);(case side1=>repeat (first|exact (Kd.C_below al.out (bC HB ac))|(with_reducible refine Kd.C_alloc ?_ _)|(with_reducible refine Kd.C_drewN ?_ _)|(with_reducible refine Kd.C_drew ?_)));(case side2=>exact ak.out);rintro e w' ⟨rfl,⟨nd,rfl⟩⟩))
     go_ret
     exact ⟨eW,bC HB ac⟩
 · replace c3:=Bool.eq_false_iff.mpr c3;subst c3;replace H:=iF H;obtain rfl:=Option.some.inj H;go_enter Try.func76,Try.ntmps76;go_wp2_with (first|(refine gD 1 ?_;refine box_event ?hg (N:=1) ?hd (cs:=#[.slice Y J.length Z,.int .i64 X]) (t:=47) ?hr ?_;(case hd=>rfl);(case hg=>rfl);(case hr=>go_simp <;> rfl);intro aa hg ap ab hb;have U:=Aside0.mk (ab);have aj:=gS (w:=w) hg (bB HB);have ac:=gS (w:=w) hg (bB HB);replace HB:=Aside0.mk (below_step (bB HB) hb);clear hb ab hg;have aw:ap.cell? ⟨aa,0,none⟩=some (.slice Y J.length Z):=(blk_cell U.out 0).trans rfl;have ax:ap.cell? ⟨aa,1,none⟩=some (.int .i64 X):=(blk_cell U.out 1).trans rfl;have aD:=blk_frozen U.out 0;have aE:=blk_frozen U.out 1)|(refine gL 6 Try.func55 #[.int .i64 (J.length:Int),.int .i64 1,.int .i64 4] ?_;(with_reducible refine (impl_within.calls (J.length:Int) 1 4 false _ A2.out).mono ?_);rintro e w' ⟨rfl,⟨nd,rfl⟩⟩;refine ⟨_,rfl,?_⟩))
   go_ret
   exact ⟨eW,bC HB ac⟩
end Go.Proofs.Ytkbahcbankfffaa.PFnPlanesOfPairs
