import Derived.Test.YtkbahcbankfffaaPFnPlanesOfPairsx0
import Derived.Test.YtkbahcbankfffaaPFnPlanesOfPairsx5
import Derived.Test.YtkbahcbankfffaaSh
import Derived.Test.YtkbahcbankfffaaSz
namespace Go.Proofs.Ytkbahcbankfffaa.PFnPlanesOfPairs
open Go.RowKit Go.Proofs.Ytkbahcbankfffaa.Sh Go.Proofs.YtkbahcbankfffaaW.PrintWords Go.Proofs.YtkbahcbankfffaaW.PrintLast Go.Proofs.YtkbahcbankfffaaW.PrintMore
attribute [local go_sem] max2_int min2_int max_two min_two max_three min_three max_four min_four
set_option linter.unusedVariables false
set_option maxHeartbeats 8000000
set_option maxRecDepth 100000
set_option linter.unusedSimpArgs false
def spec_l1Has.l0:Nat→List Int→Int→Int→Option (Bool)
 | 0,_,_,_=>none
 | k+1,x0,x1,J=>if J<(x0.length:Int) then (if 0≤J then (if (rd x0 J)=x1 then (some true) else (spec_l1Has.l0 k x0 x1 (wrap64 (J+1)))) else (none)) else (some false)
def spec_l1Has.f (k:Nat) (l0:List Int) (a1:Int):Option (Bool):=spec_l1Has.l0 k l0 a1 0
theorem spec_l1Has.calls (k:Nat) (Z:Option Addr) (c0:Nat) (l0:List Int) (a1:Int) (r:Bool) (w:World) (ab:Kd.C (Kd.int .i64) w Z l0.length l0) (hc0:l0.length≤c0) (h:spec_l1Has.f k l0 a1=some r) :
 Calls Try.prog 130 #[.slice Z l0.length c0,.int .i64 a1] w fun e w' => e = .returned (.bool r)∧Drawn0 w w' := by
 have aa:=Aside0.mk ab;have ah:=Aside0.mk hc0;clear ab hc0;have H:(spec_l1Has.l0 k l0 a1 0)=some r:=h;clear h;have H' := Aside0.mk H;clear H;go_enter Try.func130,Try.ntmps130;go_wp2;go_loopg [5] k (fun kq v5 w' => ∃ (J:Int),v5 = .int .i64 J∧Aside0 (spec_l1Has.l0 kq l0 a1 J=some r)∧Aside0 (kq≤k)∧Drawn0 w w')
 case atStart=>exact ⟨(0),rD,H',⟨Nat.le_refl _⟩,dR⟩
 case round =>
  clear H';obtain ⟨J,rfl,HA,HK1,⟨m1,rfl⟩⟩:=hrel;cases gk with
  | zero=>exact absurd HA.out (by simp[spec_l1Has.l0])
  | succ k1 =>
   have H:=HA.out;clear HA;simp only[spec_l1Has.l0] at H;by_cases c3:J<(l0.length:Int)
   · replace H:=iP c3 H;have ae:=decide_eq_true c3;clear c3;by_cases c4:0≤J
     · replace H:=iP c4 H;have c4b0:=decide_eq_true c4;clear c4;by_cases c5:(rd l0 J)=a1
       · replace H:=iP c5 H;have c5b0:=qT c5;have c5b1:=nF c5;clear c5;obtain rfl:=Option.some.inj H;have U:0≤(J:Int):=of_decide_eq_true aS;have X:J<(l0.length:Int):=of_decide_eq_true aS;obtain ⟨ac,Y,af⟩:=Kd.at_int aa.out J U X;cases Y
         replace U:=eq_true U;replace X:=eq_true X;go_wp2;go_ret
         exact ⟨rD,dR⟩
       · replace H:=iN c5 H;have c5b0:=qF c5;have c5b1:=nT c5;have H' := Aside0.mk H;clear H;have U:0≤(J:Int):=of_decide_eq_true aS;have X:J<(l0.length:Int):=of_decide_eq_true aS;obtain ⟨ac,Y,af⟩:=Kd.at_int aa.out J U X;cases Y
         replace U:=eq_true U;replace X:=eq_true X;go_wp2;go_roundg k1
         case measure=>exact kM HK1
         case rel=>exact ⟨(wrap64 (J+1)),rD,H',⟨kM HK1⟩,dR⟩
     · replace H:=iN c4 H;cases H
   · replace H:=iN c3 H;have ae:=decide_eq_false c3;clear c3;obtain rfl:=Option.some.inj H;go_wp2;go_ret
     exact ⟨rD,dR⟩
def spec_l4Mixed.f (k:Nat) (U:List (List Int)) (J:List Int):Option (Bool):=(spec_l2Sample.f k U J).bind fun X=>(if X=true then ((spec_l1Has.f k J 1).bind fun Y=>(if Y=true then ((spec_l1Has.f k J (-1)).bind fun Z=>(some Z)) else (some false))) else (some false))
theorem spec_l4Mixed.calls (k:Nat) (Y:Option Addr) (aa:Nat) (X:List (List Int)) (Z:Option Addr) (ab:Nat) (U:List Int) (r:Bool) (w:World) (av:Kd.C (Kd.slice 3 (Kd.int .i64)) w Y X.length X) (ar:X.length≤aa) (aw:Kd.C (Kd.int .i64) w Z U.length U) (au:U.length≤ab) (h:spec_l4Mixed.f k X U=some r) :
 Calls Try.prog 84 #[.agg #[.slice Y X.length aa,.slice Z U.length ab]] w fun e w' => e = .returned (.bool r)∧Below w.heap.size w w' := by
 have a3:=Try.underlying52;have ak:=Aside0.mk av;have aj:=Aside0.mk ar;clear av ar;have ah:=Aside0.mk aw;have ag:=Aside0.mk au;clear aw au;have HB:=Aside0.mk (Below.refl w.heap.size w);have H:((spec_l2Sample.f k X U).bind fun al=>(if al=true then ((spec_l1Has.f k U 1).bind fun am=>(if am=true then ((spec_l1Has.f k U (-1)).bind fun ao=>(some ao)) else (some false))) else (some false)))=some r:=h;clear h;obtain ⟨al,A2,H⟩:=bS H;by_cases c3:al=true
 · subst c3;replace H:=iT H;obtain ⟨am,A4,H⟩:=bS H;by_cases c5:am=true
   · subst c5;replace H:=iT H;obtain ⟨ao,A6,H⟩:=bS H;obtain rfl:=Option.some.inj H;go_enter Try.func84,Try.ntmps84;go_wp2_with (first|(refine gD 1 ?_;refine box_event ?hg (N:=1) ?hd (cs:=#[.slice Y X.length aa,.slice Z U.length ab]) (t:=52) ?hr ?_;(case hd=>rfl);(case hg=>rfl);(case hr=>go_simp <;> rfl);intro ac hg w7 af hb;have J:=Aside0.mk (af);have aq:=gS (w:=w) hg (bB HB);have ae:=gS (w:=w) hg (bB HB);replace HB:=Aside0.mk (below_step (bB HB) hb);clear hb af hg;have aL:w7.cell? ⟨ac,0,none⟩=some (.slice Y X.length aa):=(blk_cell J.out 0).trans rfl;have aM:w7.cell? ⟨ac,1,none⟩=some (.slice Z U.length ab):=(blk_cell J.out 1).trans rfl;have aZ:=blk_frozen J.out 0;have a2:=blk_frozen J.out 1)|(refine gL 4 Try.func94 #[.agg #[.slice Y X.length aa,.slice Z U.length ab]] ?_;(with_reducible refine (spec_l2Sample.calls k _ _ X _ _ U true _ ?side1 ?side2 ?side3 ?side4 A2.out).mono ?_);(case side1=>exact cB ak HB);(case side2=>exact aj.out);(case side3=>exact cB ah HB);(case side4=>exact ag.out);rintro e w9 ⟨rfl,hb⟩;refine ⟨_,rfl,?_⟩;replace J:=Aside0.mk (bW J hb);replace HB:=Aside0.mk (below_step (bC HB ae) hb);(try clear hb);have aD:w9.cell? ⟨ac,0,none⟩=some (.slice Y X.length aa):=(blk_cell J.out 0).trans rfl;have aE:w9.cell? ⟨ac,1,none⟩=some (.slice Z U.length ab):=(blk_cell J.out 1).trans rfl;have aN:=blk_frozen J.out 0;have aO:=blk_frozen J.out 1)|(go_at_call 130;(with_reducible refine (spec_l1Has.calls k _ _ U 1 true _ ?side1 ?side2 A4.out).mono ?_);(case side1=>exact cB ah HB);(case side2=>exact ag.out);rintro e w' ⟨rfl,⟨nd,rfl⟩⟩)|(go_at_call 130;(with_reducible refine (spec_l1Has.calls k _ _ U (-1) ao _ ?side1 ?side2 A6.out).mono ?_);(case side1=>repeat (first|exact (Kd.C_below ah.out (bC HB ae))|(with_reducible refine Kd.C_alloc ?_ _)|(with_reducible refine Kd.C_drewN ?_ _)|(with_reducible refine Kd.C_drew ?_)));(case side2=>exact ag.out);rintro e w' ⟨rfl,⟨nd,rfl⟩⟩))
     go_ret
     exact ⟨eW,bC HB ae⟩
   · replace c5:=Bool.eq_false_iff.mpr c5;subst c5;replace H:=iF H;obtain rfl:=Option.some.inj H;go_enter Try.func84,Try.ntmps84;go_wp2_with (first|(refine gD 1 ?_;refine box_event ?hg (N:=1) ?hd (cs:=#[.slice Y X.length aa,.slice Z U.length ab]) (t:=52) ?hr ?_;(case hd=>rfl);(case hg=>rfl);(case hr=>go_simp <;> rfl);intro ac hg ax af hb;have J:=Aside0.mk (af);have aq:=gS (w:=w) hg (bB HB);have ae:=gS (w:=w) hg (bB HB);replace HB:=Aside0.mk (below_step (bB HB) hb);clear hb af hg;have aF:ax.cell? ⟨ac,0,none⟩=some (.slice Y X.length aa):=(blk_cell J.out 0).trans rfl;have aG:ax.cell? ⟨ac,1,none⟩=some (.slice Z U.length ab):=(blk_cell J.out 1).trans rfl;have aQ:=blk_frozen J.out 0;have aR:=blk_frozen J.out 1)|(refine gL 4 Try.func94 #[.agg #[.slice Y X.length aa,.slice Z U.length ab]] ?_;(with_reducible refine (spec_l2Sample.calls k _ _ X _ _ U true _ ?side1 ?side2 ?side3 ?side4 A2.out).mono ?_);(case side1=>exact cB ak HB);(case side2=>exact aj.out);(case side3=>exact cB ah HB);(case side4=>exact ag.out);rintro e ay ⟨rfl,hb⟩;refine ⟨_,rfl,?_⟩;replace J:=Aside0.mk (bW J hb);replace HB:=Aside0.mk (below_step (bC HB ae) hb);(try clear hb);have aH:ay.cell? ⟨ac,0,none⟩=some (.slice Y X.length aa):=(blk_cell J.out 0).trans rfl;have aI:ay.cell? ⟨ac,1,none⟩=some (.slice Z U.length ab):=(blk_cell J.out 1).trans rfl;have aU:=blk_frozen J.out 0;have aW:=blk_frozen J.out 1)|(go_at_call 130;(with_reducible refine (spec_l1Has.calls k _ _ U 1 false _ ?side1 ?side2 A4.out).mono ?_);(case side1=>exact cB ah HB);(case side2=>exact ag.out);rintro e w' ⟨rfl,⟨nd,rfl⟩⟩))
     go_ret
     exact ⟨eW,bC HB ae⟩
 · replace c3:=Bool.eq_false_iff.mpr c3;subst c3;replace H:=iF H;obtain rfl:=Option.some.inj H;go_enter Try.func84,Try.ntmps84;go_wp2_with (first|(refine gD 1 ?_;refine box_event ?hg (N:=1) ?hd (cs:=#[.slice Y X.length aa,.slice Z U.length ab]) (t:=52) ?hr ?_;(case hd=>rfl);(case hg=>rfl);(case hr=>go_simp <;> rfl);intro ac hg az af hb;have J:=Aside0.mk (af);have aq:=gS (w:=w) hg (bB HB);have ae:=gS (w:=w) hg (bB HB);replace HB:=Aside0.mk (below_step (bB HB) hb);clear hb af hg;have aJ:az.cell? ⟨ac,0,none⟩=some (.slice Y X.length aa):=(blk_cell J.out 0).trans rfl;have aK:az.cell? ⟨ac,1,none⟩=some (.slice Z U.length ab):=(blk_cell J.out 1).trans rfl;have aX:=blk_frozen J.out 0;have aY:=blk_frozen J.out 1)|(refine gL 4 Try.func94 #[.agg #[.slice Y X.length aa,.slice Z U.length ab]] ?_;(with_reducible refine (spec_l2Sample.calls k _ _ X _ _ U false _ ?side1 ?side2 ?side3 ?side4 A2.out).mono ?_);(case side1=>exact cB ak HB);(case side2=>exact aj.out);(case side3=>exact cB ah HB);(case side4=>exact ag.out);rintro e a4 ⟨rfl,hb⟩;refine ⟨_,rfl,?_⟩;replace J:=Aside0.mk (bW J hb);replace HB:=Aside0.mk (below_step (bC HB ae) hb);(try clear hb);(try clear hi)))
   go_ret
   exact ⟨eW,bC HB ae⟩
def spec_l8Ones.l0:Nat→List Int→Int→List (List Int)→List Int→Option (List Int)
 | 0,_,_,_,_=>none
 | k+1,J,U,X,Y=>if U<(X.length:Int) then (if J.length<17592186044416 then (spec_l8Ones.l0 k (J++[1]) (wrap64 (U+1)) X Y) else (none)) else (some J)
def spec_l8Ones.f (k:Nat) (J:List (List Int)) (U:List Int):Option (List Int):=spec_l8Ones.l0 k (([]:List Int)) 0 J U
theorem spec_l8Ones.calls (k:Nat) (Y:Option Addr) (ab:Nat) (U:List (List Int)) (Z:Option Addr) (ac:Nat) (X:List Int) (r:List Int) (w:World) (aq:Kd.C (Kd.slice 3 (Kd.int .i64)) w Y U.length U) (ao:U.length≤ab) (ar:Kd.C (Kd.int .i64) w Z X.length X) (ap:X.length≤ac) (h:spec_l8Ones.f k U X=some r) :
 Calls Try.prog 85 #[.agg #[.slice Y U.length ab,.slice Z X.length ac]] w fun e w' => ∃ au:Value,e = .returned (au)∧Kd.R (Kd.int .i64) 3 w' w.heap.size (fun _=>True) au r∧Below w.heap.size w w' := by
 have aZ:=Try.underlying52;have aJ:=Aside0.mk aq;have aH:=Aside0.mk ao;clear aq ao;have aK:=Aside0.mk ar;have aI:=Aside0.mk ap;clear ar ap;have HB:=Aside0.mk (Below.refl w.heap.size w);have H:(spec_l8Ones.l0 k (([]:List Int)) 0 U X)=some r:=h;clear h;obtain ⟨av,aj⟩:∃ y_:List Int,y_=(([]:List Int)):=⟨_,rfl⟩;replace H:(spec_l8Ones.l0 k av 0 U X)=some r:=yH aj H
 have al:=Aside0.mk aj;clear aj;have H' := Aside0.mk H;clear H;go_enter Try.func85,Try.ntmps85;go_wp2_with (first|(refine gD 1 ?_;refine box_event ?hg (N:=1) ?hd (cs:=#[.slice Y U.length ab,.slice Z X.length ac]) (t:=52) ?hr ?_;(case hd=>rfl);(case hg=>rfl);(case hr=>go_simp <;> rfl);intro ae hg w2 am hb;have J:=Aside0.mk (am);have aG:=gS (w:=w) hg (bB HB);have aa:=gS (w:=w) hg (bB HB);replace HB:=Aside0.mk (below_step (bB HB) hb);clear hb am hg)|(refine gD 5 ?_;refine Kd.R_lit (Kd.int .i64) _ 3 ?hg (N:=5) ?hd (xs:=([]:List Int)) (inner:=[]) (ok:=fun _=>True) (okp:=fun _=>True) ?hr ?hp (fun _ hk=>hk) trivial (Below.refl _ _) (Nat.le_refl _) (by simp) ?_;(case hd=>rfl);(case hg=>rfl);(case hr=>go_simp <;> rfl);(case hp=>exact (Reps.none _ _));intro a2 w3 ah hb hg_ hnew_;clear hg_ hnew_;(first|rw[← al.out] at ah|(simp only[Int.reduceToNat] at ah;rw[← al.out] at ah));have ax:=Aside0.mk (Kd.R_lower ah (below_size (bC HB aa)));replace J:=Aside0.mk (bW J hb);replace HB:=Aside0.mk (below_step (bC HB aa) hb);clear hb ah))
 go_loopg [3,4] k (fun kq v3 v4 w' => ∃ (af:List Int) (ag:Int),v4 = .int .i64 ag∧Aside0 (spec_l8Ones.l0 kq af ag U X=some r)∧Aside0 (kq≤k)∧Aside0 (Kd.R (Kd.int .i64) 3 w' w.heap.size (fun _=>True) v3 af)∧Aside0 (w'.heap[ae]? = some (.cells #[(.slice Y U.length ab),(.slice Z X.length ac)] 52 (0,0)))∧Aside0 (Below w.heap.size w w'))
 case atStart=>exact ⟨(av),(0),rD,H',⟨Nat.le_refl _⟩,⟨pR ax⟩,⟨pB J⟩,⟨bC HB aa⟩⟩
 case round =>
  clear H';obtain ⟨af,ag,rfl,HA,HK1,ai,J,HB⟩:=hrel;cases gk with
  | zero=>exact absurd HA.out (by simp[spec_l8Ones.l0])
  | succ k1 =>
   have H:=HA.out;clear HA;simp only[spec_l8Ones.l0] at H;by_cases c5:ag<(U.length:Int)
   · replace H:=iP c5 H;have c5b0:=decide_eq_true c5;clear c5;by_cases c6:af.length<17592186044416
     · replace H:=iP c6 H;have az:=Aside0.mk c6;clear c6;obtain ⟨aw,ak⟩:∃ y_:List Int,y_=(af++[1]):=⟨_,rfl⟩;replace H:(spec_l8Ones.l0 k1 aw (wrap64 (ag+1)) U X)=some r:=yH ak H
       have aC:=Aside0.mk ak;clear ak;have H' := Aside0.mk H;clear H;have aM:wr.cell? ⟨ae,0,none⟩=some (.slice Y U.length ab):=(blk_cell J.out 0).trans rfl;have aN:wr.cell? ⟨ae,1,none⟩=some (.slice Z X.length ac):=(blk_cell J.out 1).trans rfl;have aU:=blk_frozen J.out 0;have aW:=blk_frozen J.out 1;go_wp2_with (first|((with_reducible refine gate_builtin (b := .append) (xs:=#[.tmp 13,.tmp 14]) rfl ?_);at_builtin;refine Kd.R_append (Kd.int .i64) (w0:=w) w.heap.size rfl (.tmp 13) (.tmp 14) 24 3 (.int .i64 0) 8 rfl Try.underlying24 info3 rfl (by decide) (by omega) u3 af 1 [.int .i64 1] (fun _=>True) (fun _=>False) rfl rfl ?aP (fun _ hk=>hk.elim) ?aF ?aO ?aB ?aS ?aL ?_;(case aP=>exact rfl);(case aB=>exact (bC HB aa));(case aF=>exact (fun _ _=>trivial));(case aO=>exact (pR ai));(case aS=>exact (below_size (bC HB aa)));(case aL=>have:=az.out;omega);intro a3 w8 ho hb hg hat;rw[← aC.out] at ho;have ay:=Aside0.mk (ho);replace J:=Aside0.mk (blk_grown (g:=ae) (o := .cells #[.slice Y U.length ab,.slice Z X.length ac] 52 (0,0)) (pB J) hg (Kd.R_ne ai.out J.out (by decide)));replace HB:=Aside0.mk (hb);clear ai;clear ho hb hg hat))
       go_roundg k1
       case measure=>exact kM HK1
       case rel=>exact ⟨(aw),(wrap64 (ag+1)),rD,H',⟨kM HK1⟩,⟨pR ay⟩,⟨pB J⟩,⟨bC HB aa⟩⟩
     · replace H:=iN c6 H;cases H
   · replace H:=iN c5 H;have c5b0:=decide_eq_false c5;clear c5;obtain rfl:=Option.some.inj H;have aQ:wr.cell? ⟨ae,0,none⟩=some (.slice Y U.length ab):=(blk_cell J.out 0).trans rfl;have aR:wr.cell? ⟨ae,1,none⟩=some (.slice Z X.length ac):=(blk_cell J.out 1).trans rfl;have aX:=blk_frozen J.out 0;have aY:=blk_frozen J.out 1;go_wp2;go_ret
     exact ⟨_,eW,by (with_reducible repeat (first|apply Kd.R_alloc|apply Kd.R_drewN|apply Kd.R_drew));exact ai.out,bC HB aa⟩
end Go.Proofs.Ytkbahcbankfffaa.PFnPlanesOfPairs
