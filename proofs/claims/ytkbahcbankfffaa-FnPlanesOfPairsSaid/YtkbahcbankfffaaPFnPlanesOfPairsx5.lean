import Derived.Test.YtkbahcbankfffaaPFnPlanesOfPairsx0
import Derived.Test.YtkbahcbankfffaaPFnPlanesOfPairsx3
import Derived.Test.YtkbahcbankfffaaSh
import Derived.Test.YtkbahcbankfffaaSz
namespace Go.Proofs.Ytkbahcbankfffaa.PFnPlanesOfPairs
open Go.RowKit Go.Proofs.Ytkbahcbankfffaa.Sh Go.Proofs.YtkbahcbankfffaaW.PrintWords Go.Proofs.YtkbahcbankfffaaW.PrintLast Go.Proofs.YtkbahcbankfffaaW.PrintMore
attribute [local go_sem] max2_int min2_int max_two min_two max_three min_three max_four min_four
set_option linter.unusedVariables false
set_option maxHeartbeats 8000000
set_option maxRecDepth 100000
set_option linter.unusedSimpArgs false
def laws_rInts.l0:Nat→List Int→List Int→Int→Option (Bool)
 | 0,_,_,_=>none
 | k+1,x0,x1,J=>if J<(x0.length:Int) then (if 0≤J then (if J<(x1.length:Int) then (if (rd x0 J)=(rd x1 J) then (laws_rInts.l0 k x0 x1 (wrap64 (J+1))) else (some false)) else (none)) else (none)) else (some true)
def laws_rInts.f (k:Nat) (l0:List Int) (l1:List Int):Option (Bool):=if (l0.length:Int)=(l1.length:Int) then (laws_rInts.l0 k l0 l1 0) else (some false)
theorem laws_rInts.calls (k:Nat) (A0:Option Addr) (c0:Nat) (l0:List Int) (A1:Option Addr) (c1:Nat) (l1:List Int) (r:Bool) (w:World) (ak:Kd.C (Kd.int .i64) w A0 l0.length l0) (hc0:l0.length≤c0) (hr1:Kd.C (Kd.int .i64) w A1 l1.length l1) (aj:l1.length≤c1) (h:laws_rInts.f k l0 l1=some r) :
 Calls Try.prog 28 #[.slice A0 l0.length c0,.slice A1 l1.length c1] w fun e w' => e = .returned (.bool r)∧Drawn0 w w' := by
 have ae:=Aside0.mk ak;have av:=Aside0.mk hc0;clear ak hc0;have af:=Aside0.mk hr1;have aw:=Aside0.mk aj;clear hr1 aj;have H:(if (l0.length:Int)=(l1.length:Int) then (laws_rInts.l0 k l0 l1 0) else (some false))=some r:=h;clear h;by_cases c3:(l0.length:Int)=(l1.length:Int)
 · replace H:=iP c3 H;have ag:=qT c3;have ah:=nF c3;have ai:(l0.length==l1.length)=true:=by first|simpa using c3|(simp at c3 ⊢;omega)
   clear c3;have H' := Aside0.mk H;clear H;go_enter Try.func28,Try.ntmps28;go_wp2;repeat (go_quiet (fail);try go_wp2)
   go_loopg [5] k (fun kq v5 w' => ∃ (J:Int),v5 = .int .i64 J∧Aside0 (laws_rInts.l0 kq l0 l1 J=some r)∧Aside0 (kq≤k)∧Drawn0 w w')
   case atStart=>exact ⟨(0),rD,H',⟨Nat.le_refl _⟩,dR⟩
   case round =>
    clear H';try clear c1
    try clear c3
    try clear ag
    try clear ah
    try clear ai
    obtain ⟨J,rfl,HA,HK1,⟨m1,rfl⟩⟩:=hrel;cases gk with
    | zero=>exact absurd HA.out (by simp[laws_rInts.l0])
    | succ k1 =>
     have H:=HA.out;clear HA;simp only[laws_rInts.l0] at H;by_cases c4:J<(l0.length:Int)
     · replace H:=iP c4 H;have c4b0:=decide_eq_true c4;clear c4;by_cases c5:0≤J
       · replace H:=iP c5 H;have c5b0:=decide_eq_true c5;clear c5;by_cases c6:J<(l1.length:Int)
         · replace H:=iP c6 H;have ax:=decide_eq_true c6;clear c6;by_cases c7:(rd l0 J)=(rd l1 J)
           · replace H:=iP c7 H;have ao:=qT c7;have ap:=nF c7;clear c7;have H' := Aside0.mk H;clear H;have U:0≤(J:Int):=of_decide_eq_true aS;have Y:J<(l0.length:Int):=of_decide_eq_true aS;obtain ⟨al,aa,aq⟩:=Kd.at_int ae.out J U Y;cases aa
             replace U:=eq_true U;replace Y:=eq_true Y;have X:0≤(J:Int):=of_decide_eq_true aS;have Z:J<(l1.length:Int):=of_decide_eq_true aS;obtain ⟨am,ab,ar⟩:=Kd.at_int af.out J X Z;cases ab
             replace X:=eq_true X;replace Z:=eq_true Z;go_wp2;repeat (go_quiet (fail);try go_wp2)
             go_roundg k1
             case measure=>exact kM HK1
             case rel=>exact ⟨(wrap64 (J+1)),rD,H',⟨kM HK1⟩,dR⟩
           · replace H:=iN c7 H;have ao:=qF c7;have ap:=nT c7;obtain rfl:=Option.some.inj H;have U:0≤(J:Int):=of_decide_eq_true aS;have Y:J<(l0.length:Int):=of_decide_eq_true aS;obtain ⟨al,aa,aq⟩:=Kd.at_int ae.out J U Y;cases aa
             replace U:=eq_true U;replace Y:=eq_true Y;have X:0≤(J:Int):=of_decide_eq_true aS;have Z:J<(l1.length:Int):=of_decide_eq_true aS;obtain ⟨am,ab,ar⟩:=Kd.at_int af.out J X Z;cases ab
             replace X:=eq_true X;replace Z:=eq_true Z;go_wp2;repeat (go_quiet (fail);try go_wp2)
             go_ret
             exact ⟨rD,dR⟩
         · replace H:=iN c6 H;cases H
       · replace H:=iN c5 H;cases H
     · replace H:=iN c4 H;have c4b0:=decide_eq_false c4;clear c4;obtain rfl:=Option.some.inj H;go_wp2;repeat (go_quiet (fail);try go_wp2)
       go_ret
       exact ⟨rD,dR⟩
 · replace H:=iN c3 H;have ag:=qF c3;have ah:=nT c3;have ai:(l0.length==l1.length)=false:=by first|simpa using c3|(simp at c3 ⊢;omega)
   obtain rfl:=Option.some.inj H;go_enter Try.func28,Try.ntmps28;go_wp2;repeat (go_quiet (fail);try go_wp2)
   go_ret
   exact ⟨rD,dR⟩
def laws_rPlane.f (k:Nat) (X:List Int) (J:Int) (Y:List Int) (U:Int):Option (Bool):=if J=U then ((laws_rInts.f k X Y).bind fun Z=>(some Z)) else (some false)
theorem laws_rPlane.calls (k:Nat) (ae:Option Addr) (ag:Nat) (X:List Int) (ab:Int) (af:Option Addr) (ah:Nat) (Y:List Int) (ac:Int) (r:Bool) (w:World) (au:Kd.C (Kd.int .i64) w ae X.length X) (aq:X.length≤ag) (av:Kd.C (Kd.int .i64) w af Y.length Y) (ar:Y.length≤ah) (h:laws_rPlane.f k X ab Y ac=some r) :
 Calls Try.prog 24 #[.agg #[.slice ae X.length ag,.int .i64 ab],.agg #[.slice af Y.length ah,.int .i64 ac]] w fun e w' => e = .returned (.bool r)∧Below w.heap.size w w' := by
 have a6:=Try.underlying47;have aC:=Aside0.mk au;have az:=Aside0.mk aq;clear au aq;have aD:=Aside0.mk av;have aB:=Aside0.mk ar;clear av ar;have HB:=Aside0.mk (Below.refl w.heap.size w);have H:(if ab=ac then ((laws_rInts.f k X Y).bind fun ap=>(some ap)) else (some false))=some r:=h;clear h;by_cases c3:ab=ac
 · replace H:=iP c3 H;have aE:=qT c3;have aF:=nF c3;clear c3;obtain ⟨ap,A4,H⟩:=bS H;obtain rfl:=Option.some.inj H;go_enter Try.func24,Try.ntmps24;go_wp2_with (first|(refine gD 2 ?_;refine box_event ?hg (N:=2) ?hd (cs:=#[.slice ae X.length ag,.int .i64 ab]) (t:=47) ?hr ?_;(case hd=>rfl);(case hg=>rfl);(case hr=>go_simp <;> rfl);intro ai hg w5 U hb;have J:=Aside0.mk (U);have ax:=gS (w:=w) hg (bB HB);have aa:=gS (w:=w) hg (bB HB);replace HB:=Aside0.mk (below_step (bB HB) hb);clear hb U hg)|(refine gD 3 ?_;refine box_event ?hg (N:=3) ?hd (cs:=#[.slice af Y.length ah,.int .i64 ac]) (t:=47) ?hr ?_;(case hd=>rfl);(case hg=>rfl);(case hr=>go_simp <;> rfl);intro aj hg w6 U hb;have Z:=Aside0.mk (U);have ay:=gS (w:=w) hg (bC HB aa);have al:=gS (w:=w) hg (bC HB aa);have am:=gN hg J;have ao:=gM hg J;replace J:=Aside0.mk (bW J hb);replace HB:=Aside0.mk (below_step (bC HB aa) hb);clear hb U hg;have a3:=am.out;have a5:=ao.out;have aK:w6.cell? ⟨ai,0,none⟩=some (.slice ae X.length ag):=(blk_cell J.out 0).trans rfl;have aL:w6.cell? ⟨ai,1,none⟩=some (.int .i64 ab):=(blk_cell J.out 1).trans rfl;have aW:=blk_frozen J.out 0;have aX:=blk_frozen J.out 1;have aM:w6.cell? ⟨aj,0,none⟩=some (.slice af Y.length ah):=(blk_cell Z.out 0).trans rfl;have aN:w6.cell? ⟨aj,1,none⟩=some (.int .i64 ac):=(blk_cell Z.out 1).trans rfl;have aY:=blk_frozen Z.out 0;have aZ:=blk_frozen Z.out 1)|(go_at_call 28;(with_reducible refine (laws_rInts.calls k _ _ X _ _ Y ap _ ?side1 ?side2 ?side3 ?side4 A4.out).mono ?_);(case side1=>exact cB aC HB);(case side2=>exact az.out);(case side3=>exact cB aD HB);(case side4=>exact aB.out);rintro e w' ⟨rfl,⟨nd,rfl⟩⟩))
   go_ret
   exact ⟨eW,bD HB aa al⟩
 · replace H:=iN c3 H;have aE:=qF c3;have aF:=nT c3;obtain rfl:=Option.some.inj H;go_enter Try.func24,Try.ntmps24;go_wp2_with (first|(refine gD 2 ?_;refine box_event ?hg (N:=2) ?hd (cs:=#[.slice ae X.length ag,.int .i64 ab]) (t:=47) ?hr ?_;(case hd=>rfl);(case hg=>rfl);(case hr=>go_simp <;> rfl);intro ai hg a7 U hb;have J:=Aside0.mk (U);have ax:=gS (w:=w) hg (bB HB);have aa:=gS (w:=w) hg (bB HB);replace HB:=Aside0.mk (below_step (bB HB) hb);clear hb U hg)|(refine gD 3 ?_;refine box_event ?hg (N:=3) ?hd (cs:=#[.slice af Y.length ah,.int .i64 ac]) (t:=47) ?hr ?_;(case hd=>rfl);(case hg=>rfl);(case hr=>go_simp <;> rfl);intro aj hg ak U hb;have Z:=Aside0.mk (U);have ay:=gS (w:=w) hg (bC HB aa);have al:=gS (w:=w) hg (bC HB aa);have am:=gN hg J;have ao:=gM hg J;replace J:=Aside0.mk (bW J hb);replace HB:=Aside0.mk (below_step (bC HB aa) hb);clear hb U hg;have a2:=am.out;have a4:=ao.out;have aG:ak.cell? ⟨ai,0,none⟩=some (.slice ae X.length ag):=(blk_cell J.out 0).trans rfl;have aH:ak.cell? ⟨ai,1,none⟩=some (.int .i64 ab):=(blk_cell J.out 1).trans rfl;have aO:=blk_frozen J.out 0;have aQ:=blk_frozen J.out 1;have aI:ak.cell? ⟨aj,0,none⟩=some (.slice af Y.length ah):=(blk_cell Z.out 0).trans rfl;have aJ:ak.cell? ⟨aj,1,none⟩=some (.int .i64 ac):=(blk_cell Z.out 1).trans rfl;have aR:=blk_frozen Z.out 0;have aU:=blk_frozen Z.out 1))
   go_ret
   exact ⟨eW,bD HB aa al⟩
def spec_l2Labels.l0:Nat→List Int→Int→Option (Bool)
 | 0,_,_=>none
 | k+1,x0,J=>if J<(x0.length:Int) then (if 0≤J then (if (rd x0 J)=1 then (spec_l2Labels.l0 k x0 (wrap64 (J+1))) else (if (rd x0 J)=(-1) then (spec_l2Labels.l0 k x0 (wrap64 (J+1))) else (some false))) else (none)) else (some true)
def spec_l2Labels.f (k:Nat) (l0:List Int):Option (Bool):=spec_l2Labels.l0 k l0 0
theorem spec_l2Labels.calls (k:Nat) (A0:Option Addr) (c0:Nat) (l0:List Int) (r:Bool) (w:World) (ah:Kd.C (Kd.int .i64) w A0 l0.length l0) (hc0:l0.length≤c0) (h:spec_l2Labels.f k l0=some r) :
 Calls Try.prog 139 #[.slice A0 l0.length c0] w fun e w' => e = .returned (.bool r)∧Drawn0 w w' := by
 have aa:=Aside0.mk ah;have am:=Aside0.mk hc0;clear ah hc0;have H:(spec_l2Labels.l0 k l0 0)=some r:=h;clear h;have H' := Aside0.mk H;clear H;go_enter Try.func139,Try.ntmps139;go_wp2;go_loopg [3] k (fun kq v3 w' => ∃ (J:Int),v3 = .int .i64 J∧Aside0 (spec_l2Labels.l0 kq l0 J=some r)∧Aside0 (kq≤k)∧Drawn0 w w')
 case atStart=>exact ⟨(0),rD,H',⟨Nat.le_refl _⟩,dR⟩
 case round =>
  clear H';try clear c1
  obtain ⟨J,rfl,HA,HK1,⟨m1,rfl⟩⟩:=hrel;cases gk with
  | zero=>exact absurd HA.out (by simp[spec_l2Labels.l0])
  | succ k1 =>
   have H:=HA.out;clear HA;simp only[spec_l2Labels.l0] at H;by_cases c2:J<(l0.length:Int)
   · replace H:=iP c2 H;have aj:=decide_eq_true c2;clear c2;by_cases c3:0≤J
     · replace H:=iP c3 H;have ao:=decide_eq_true c3;clear c3;by_cases c4:(rd l0 J)=1
       · replace H:=iP c4 H;have c4b0:=qT c4;have c4b1:=nF c4;clear c4;have H' := Aside0.mk H;clear H;have U:0≤(J:Int):=of_decide_eq_true aS;have X:J<(l0.length:Int):=of_decide_eq_true aS;obtain ⟨ac,ab,ai⟩:=Kd.at_int aa.out J U X;cases ab
         replace U:=eq_true U;replace X:=eq_true X;go_wp2;go_roundg k1
         case measure=>exact kM HK1
         case rel=>exact ⟨(wrap64 (J+1)),rD,H',⟨kM HK1⟩,dR⟩
       · replace H:=iN c4 H;have c4b0:=qF c4;have c4b1:=nT c4;by_cases c5:(rd l0 J)=(-1)
         · replace H:=iP c5 H;have c5b0:=qT c5;have c5b1:=nF c5;clear c5;have H' := Aside0.mk H;clear H;have U:0≤(J:Int):=of_decide_eq_true aS;have X:J<(l0.length:Int):=of_decide_eq_true aS;obtain ⟨ac,ab,ai⟩:=Kd.at_int aa.out J U X;cases ab
           replace U:=eq_true U;replace X:=eq_true X;have Y:0≤(J:Int):=of_decide_eq_true aS;have Z:J<(l0.length:Int):=of_decide_eq_true aS;obtain ⟨ae,af,ak⟩:=Kd.at_int aa.out J Y Z;obtain rfl:ac=ae:=(by injection af);replace Y:=eq_true Y;replace Z:=eq_true Z;go_wp2;go_roundg k1
           case measure=>exact kM HK1
           case rel=>exact ⟨(wrap64 (J+1)),rD,H',⟨kM HK1⟩,dR⟩
         · replace H:=iN c5 H;have c5b0:=qF c5;have c5b1:=nT c5;obtain rfl:=Option.some.inj H;have U:0≤(J:Int):=of_decide_eq_true aS;have X:J<(l0.length:Int):=of_decide_eq_true aS;obtain ⟨ac,ab,ai⟩:=Kd.at_int aa.out J U X;cases ab
           replace U:=eq_true U;replace X:=eq_true X;have Y:0≤(J:Int):=of_decide_eq_true aS;have Z:J<(l0.length:Int):=of_decide_eq_true aS;obtain ⟨ae,af,ak⟩:=Kd.at_int aa.out J Y Z;obtain rfl:ac=ae:=(by injection af);replace Y:=eq_true Y;replace Z:=eq_true Z;go_wp2;go_ret
           exact ⟨rD,dR⟩
     · replace H:=iN c3 H;cases H
   · replace H:=iN c2 H;have aj:=decide_eq_false c2;clear c2;obtain rfl:=Option.some.inj H;go_wp2;go_ret
     exact ⟨rD,dR⟩
mutual
def spec_l2Sample.j0:Nat→Bool→List (List Int)→List Int→Option (Bool)
 | 0,_,_,_=>none
 | k+1,Z,J,X=>if Z=true then (some false) else (spec_l2Sample.l0 k 0 J X)
def spec_l2Sample.l0:Nat→Int→List (List Int)→List Int→Option (Bool)
 | 0,_,_,_=>none
 | k+1,U,J,X=>if U<(J.length:Int) then (if 0≤U then ((spec_l2Point.f k (rd_L3 J U)).bind fun Y=>(if Y=true then (if 0<(J.length:Int) then (if ((rd_L3 J U).length:Int)=((rd_L3 J 0).length:Int) then (spec_l2Sample.l0 k (wrap64 (U+1)) J X) else (some false)) else (none)) else (some false))) else (none)) else (some true)
end
def spec_l2Sample.f (k:Nat) (J:List (List Int)) (U:List Int):Option (Bool):=if (J.length:Int)>16 then (spec_l2Sample.j0 k true J U) else (if (U.length:Int)=(J.length:Int) then ((spec_l2Labels.f k U).bind fun X=>(spec_l2Sample.j0 k (!X) J U)) else (spec_l2Sample.j0 k true J U))
theorem spec_l2Sample.calls (k:Nat) (ah:Option Addr) (aj:Nat) (J:List (List Int)) (ai:Option Addr) (ak:Nat) (Y:List Int) (r:Bool) (w:World) (bf:Kd.C (Kd.slice 3 (Kd.int .i64)) w ah J.length J) (bc:J.length≤aj) (bg:Kd.C (Kd.int .i64) w ai Y.length Y) (bd:Y.length≤ak) (h:spec_l2Sample.f k J Y=some r) :
 Calls Try.prog 94 #[.agg #[.slice ah J.length aj,.slice ai Y.length ak]] w fun e w' => e = .returned (.bool r)∧Below w.heap.size w w' := by
 have b3:=Try.underlying52;have ap:=Aside0.mk bf;have bq:=Aside0.mk bc;clear bf bc;have a2:=Aside0.mk bg;have aW:=Aside0.mk bd;clear bg bd;have HB:=Aside0.mk (Below.refl w.heap.size w);have H:(if (J.length:Int)>16 then (spec_l2Sample.j0 k true J Y) else (if (Y.length:Int)=(J.length:Int) then ((spec_l2Labels.f k Y).bind fun aK=>(spec_l2Sample.j0 k (!aK) J Y)) else (spec_l2Sample.j0 k true J Y)))=some r:=h;clear h;have aX:=Aside0.mk H;clear H;go_enter Try.func94,Try.ntmps94;go_upto_region 1 with (first|(refine gD 1 ?_;refine box_event ?hg (N:=1) ?hd (cs:=#[.slice ah J.length aj,.slice ai Y.length ak]) (t:=52) ?hr ?_;(case hd=>rfl);(case hg=>rfl);(case hr=>go_simp <;> rfl);intro aa hg w3 aC hb;have X:=Aside0.mk (aC);have a9:=gS (w:=w) hg (bB HB);have am:=gS (w:=w) hg (bB HB);replace HB:=Aside0.mk (below_step (bB HB) hb);clear hb aC hg))
 repeat (go_quiet (first|(refine gD 1 ?_;refine box_event ?hg (N:=1) ?hd (cs:=#[.slice ah J.length aj,.slice ai Y.length ak]) (t:=52) ?hr ?_;(case hd=>rfl);(case hg=>rfl);(case hr=>go_simp <;> rfl);intro aa hg w3 aC hb;have X:=Aside0.mk (aC);have a9:=gS (w:=w) hg (bB HB);have am:=gS (w:=w) hg (bB HB);replace HB:=Aside0.mk (below_step (bB HB) hb);clear hb aC hg));go_upto_region 1 with (first|(refine gD 1 ?_;refine box_event ?hg (N:=1) ?hd (cs:=#[.slice ah J.length aj,.slice ai Y.length ak]) (t:=52) ?hr ?_;(case hd=>rfl);(case hg=>rfl);(case hr=>go_simp <;> rfl);intro aa hg w3 aC hb;have X:=Aside0.mk (aC);have a9:=gS (w:=w) hg (bB HB);have am:=gS (w:=w) hg (bB HB);replace HB:=Aside0.mk (below_step (bB HB) hb);clear hb aC hg)))
 (try simp only[Act.put,List.setIfInBounds_toArray,List.set_cons_zero,List.set_cons_succ]);go_cut [22] (fun bo wc=>∃ (kq:Nat) (aO:Bool),bo = .bool aO∧Aside0 (spec_l2Sample.j0 kq aO J Y=some r)∧Aside0 (kq≤k)∧Aside0 (wc.heap[aa]? = some (.cells #[(.slice ah J.length aj),(.slice ai Y.length ak)] 52 (0,0)))∧Aside0 (Below w.heap.size w wc))
 case first =>
  have H:=aX.out;clear aX;by_cases c4:(J.length:Int)>16
  · replace H:=iP c4 H;have c4b0:=decide_eq_true c4;have c4b1:decide (16<J.length)=true:=decide_eq_true (by omega);clear c4;(first|rw[c4b0]|(simp only[i64_w,i32_w];rw[c4b0])|rw[c4b1]|skip);have H' := Aside0.mk H;clear H;have bH:w3.cell? ⟨aa,0,none⟩=some (.slice ah J.length aj):=(blk_cell X.out 0).trans rfl;have bI:w3.cell? ⟨aa,1,none⟩=some (.slice ai Y.length ak):=(blk_cell X.out 1).trans rfl;have bX:=blk_frozen X.out 0;have bY:=blk_frozen X.out 1;go_wp2;repeat (go_quiet (fail);try go_wp2)
    go_meet
    case rel=>exact ⟨_,(true),rD,H',⟨by first|omega|exact Nat.le_refl _⟩,⟨pB X⟩,⟨bC HB am⟩⟩
  · replace H:=iN c4 H;have c4b0:=decide_eq_false c4;have c4b1:decide (16<J.length)=false:=decide_eq_false (by omega);clear c4;(first|rw[c4b0]|(simp only[i64_w,i32_w];rw[c4b0])|rw[c4b1]|skip);by_cases c6:(Y.length:Int)=(J.length:Int)
    · replace H:=iP c6 H;have bk:=qT c6;have bl:=nF c6;have bm:(Y.length==J.length)=true:=by first|simpa using c6|(simp at c6 ⊢;omega)
      clear c6;obtain ⟨aK,A7,H⟩:=bS H;have H' := Aside0.mk H;clear H;have bJ:w3.cell? ⟨aa,0,none⟩=some (.slice ah J.length aj):=(blk_cell X.out 0).trans rfl;have bK:w3.cell? ⟨aa,1,none⟩=some (.slice ai Y.length ak):=(blk_cell X.out 1).trans rfl;have bZ:=blk_frozen X.out 0;have b0:=blk_frozen X.out 1;go_wp2_with (first|(go_at_call 139;(with_reducible refine (spec_l2Labels.calls k _ _ Y aK _ ?side1 ?side2 A7.out).mono ?_);(case side1=>exact cB a2 HB);(case side2=>exact aW.out);rintro e w' ⟨rfl,⟨nd,rfl⟩⟩;(try first|exact ⟨rfl,_,World.drewN_drewN _ _ _⟩|exact ⟨rfl,_,Eq.trans (World.drewN_drewN _ _ _) (congrArg (World.drewN _) (Nat.add_assoc _ _ _))⟩)))
      repeat (go_quiet (first|(go_at_call 139;(with_reducible refine (spec_l2Labels.calls k _ _ Y aK _ ?side1 ?side2 A7.out).mono ?_);(case side1=>exact cB a2 HB);(case side2=>exact aW.out);rintro e w' ⟨rfl,⟨nd,rfl⟩⟩;(try first|exact ⟨rfl,_,World.drewN_drewN _ _ _⟩|exact ⟨rfl,_,Eq.trans (World.drewN_drewN _ _ _) (congrArg (World.drewN _) (Nat.add_assoc _ _ _))⟩)));try go_wp2_with (first|(go_at_call 139;(with_reducible refine (spec_l2Labels.calls k _ _ Y aK _ ?side1 ?side2 A7.out).mono ?_);(case side1=>exact cB a2 HB);(case side2=>exact aW.out);rintro e w' ⟨rfl,⟨nd,rfl⟩⟩;(try first|exact ⟨rfl,_,World.drewN_drewN _ _ _⟩|exact ⟨rfl,_,Eq.trans (World.drewN_drewN _ _ _) (congrArg (World.drewN _) (Nat.add_assoc _ _ _))⟩))))
      go_meet
      case rel=>exact ⟨_,(!aK),rD,H',⟨by first|omega|exact Nat.le_refl _⟩,⟨pB X⟩,⟨bC HB am⟩⟩
    · replace H:=iN c6 H;have bk:=qF c6;have bl:=nT c6;have bm:(Y.length==J.length)=false:=by first|simpa using c6|(simp at c6 ⊢;omega)
      have H' := Aside0.mk H;clear H;have bL:w3.cell? ⟨aa,0,none⟩=some (.slice ah J.length aj):=(blk_cell X.out 0).trans rfl;have bM:w3.cell? ⟨aa,1,none⟩=some (.slice ai Y.length ak):=(blk_cell X.out 1).trans rfl;have b1:=blk_frozen X.out 0;have b2:=blk_frozen X.out 1;go_wp2;repeat (go_quiet (fail);try go_wp2)
      go_meet
      case rel=>exact ⟨_,(true),rD,H',⟨by first|omega|exact Nat.le_refl _⟩,⟨pB X⟩,⟨bC HB am⟩⟩
 case rest =>
  clear aX;obtain ⟨kq,aO,rfl,HA,ba,X,HB⟩:=hcut;cases kq with
  | zero=>exact absurd HA.out (by simp[spec_l2Sample.j0])
  | succ bh =>
   have H:=HA.out;clear HA;simp only[spec_l2Sample.j0] at H;by_cases c10:aO=true
   · subst c10;replace H:=iT H;obtain rfl:=Option.some.inj H;go_wp2;repeat (go_quiet (fail);try go_wp2)
     go_ret
     exact ⟨eW,bC HB am⟩
   · replace c10:=Bool.eq_false_iff.mpr c10;subst c10;replace H:=iF H;have H' := Aside0.mk H;clear H;go_wp2;repeat (go_quiet (fail);try go_wp2)
     go_loopg [3] bh (fun kq v3 w' => ∃ (U:Int),v3 = .int .i64 U∧Aside0 (spec_l2Sample.l0 kq U J Y=some r)∧Aside0 (kq≤bh)∧Aside0 (w'.heap[aa]? = some (.cells #[(.slice ah J.length aj),(.slice ai Y.length ak)] 52 (0,0)))∧Aside0 (Below w.heap.size w w'))
     case atStart=>exact ⟨(0),rD,H',⟨Nat.le_refl _⟩,⟨pB X⟩,⟨bC HB am⟩⟩
     case round =>
      clear H';try clear c1
      try clear c10
      obtain ⟨U,rfl,HA,HK2,X,HB⟩:=hrel;cases gk with
      | zero=>exact absurd HA.out (by simp[spec_l2Sample.l0])
      | succ k2 =>
       have H:=HA.out;clear HA;simp only[spec_l2Sample.l0] at H;by_cases c11:U<(J.length:Int)
       · replace H:=iP c11 H;have c11b0:=decide_eq_true c11;clear c11;by_cases aM:0≤U
         · replace H:=iP aM H;have br:=decide_eq_true aM;clear aM;obtain ⟨bn,aB,H⟩:=bS H;by_cases aN:bn=true
           · subst aN;replace H:=iT H;by_cases c15:0<(J.length:Int)
             · replace H:=iP c15 H;have c15b0:=decide_eq_true c15;have bs:decide (0<J.length)=true:=decide_eq_true (by omega);clear c15;by_cases c16:((rd_L3 J U).length:Int)=((rd_L3 J 0).length:Int)
               · replace H:=iP c16 H;have c16b0:=qT c16;have bi:=nF c16;have bj:((rd_L3 J U).length==(rd_L3 J 0).length)=true:=by first|simpa using c16|(simp at c16 ⊢;omega)
                 clear c16;have H' := Aside0.mk H;clear H;have bu:wr.cell? ⟨aa,0,none⟩=some (.slice ah J.length aj):=(blk_cell X.out 0).trans rfl;have bv:wr.cell? ⟨aa,1,none⟩=some (.slice ai Y.length ak):=(blk_cell X.out 1).trans rfl;have bN:=blk_frozen X.out 0;have bO:=blk_frozen X.out 1;have ax:0≤(U:Int):=of_decide_eq_true aS;have ay:U<(J.length:Int):=of_decide_eq_true aS;obtain ⟨az,a8,bb,aL,al,aE,aD⟩:=at_L3 ap.out U ax ay;cases aL
                 replace al:=hC HB al;have aq:=Aside0.mk aD;have ao:=Aside0.mk aE;clear aD aE;replace ax:=eq_true ax;replace ay:=eq_true ay;have ac:0≤(U:Int):=of_decide_eq_true aS;have af:U<(J.length:Int):=of_decide_eq_true aS;obtain ⟨aG,aQ,a5,aI,ab,av,ar⟩:=at_L3 ap.out U ac af;obtain rfl:az=aG:=(by injection aI);replace ab:=hC HB ab;have a3:=Aside0.mk ar;have aY:=Aside0.mk av;clear ar av;replace ac:=eq_true ac;replace af:=eq_true af;have ea_:=Option.some.inj (al.symm.trans ab);injection ea_ with ea_ en_ ec_;subst ea_;subst ec_;clear en_;have ae:0≤(0:Int):=(by omega);have ag:0<(J.length:Int):=of_decide_eq_true aS;obtain ⟨aH,aR,a6,aJ,Z,aw,au⟩:=at_L3 ap.out 0 ae ag;obtain rfl:az=aH:=(by injection aJ);have a7:(0<J.length)=True:=eq_true (by omega);(try rw[show ((0:Int)).toNat=0 from rfl] at Z);(try rw[Addr.add_zero'] at Z);replace Z:=hC HB Z;have a4:=Aside0.mk au;have aZ:=Aside0.mk aw;clear au aw;replace ae:=eq_true ae;replace ag:=eq_true ag
                 go_wp2_with (first|(go_at_call 77;(with_reducible refine (spec_l2Point.calls k2 _ _ (rd_L3 J U) true _ ?side1 ?side2 aB.out).mono ?_);(case side1=>exact cB aq HB);(case side2=>exact ao.out);rintro e w' ⟨rfl,⟨nd,rfl⟩⟩;(try first|exact ⟨rfl,_,World.drewN_drewN _ _ _⟩|exact ⟨rfl,_,Eq.trans (World.drewN_drewN _ _ _) (congrArg (World.drewN _) (Nat.add_assoc _ _ _))⟩)))
                 repeat (go_quiet (first|(go_at_call 77;(with_reducible refine (spec_l2Point.calls k2 _ _ (rd_L3 J U) true _ ?side1 ?side2 aB.out).mono ?_);(case side1=>exact cB aq HB);(case side2=>exact ao.out);rintro e w' ⟨rfl,⟨nd,rfl⟩⟩;(try first|exact ⟨rfl,_,World.drewN_drewN _ _ _⟩|exact ⟨rfl,_,Eq.trans (World.drewN_drewN _ _ _) (congrArg (World.drewN _) (Nat.add_assoc _ _ _))⟩)));try go_wp2_with (first|(go_at_call 77;(with_reducible refine (spec_l2Point.calls k2 _ _ (rd_L3 J U) true _ ?side1 ?side2 aB.out).mono ?_);(case side1=>exact cB aq HB);(case side2=>exact ao.out);rintro e w' ⟨rfl,⟨nd,rfl⟩⟩;(try first|exact ⟨rfl,_,World.drewN_drewN _ _ _⟩|exact ⟨rfl,_,Eq.trans (World.drewN_drewN _ _ _) (congrArg (World.drewN _) (Nat.add_assoc _ _ _))⟩);have ac:0≤(U:Int):=of_decide_eq_true aS;have af:U<(J.length:Int):=of_decide_eq_true aS;obtain ⟨aG,aQ,a5,aI,ab,av,ar⟩:=at_L3 ap.out U ac af;obtain rfl:az=aG:=(by injection aI);replace ab:=hC HB ab;have a3:=Aside0.mk ar;have aY:=Aside0.mk av;clear ar av;replace ac:=eq_true ac;replace af:=eq_true af;have ea_:=Option.some.inj (al.symm.trans ab);injection ea_ with ea_ en_ ec_;subst ea_;subst ec_;clear en_;have ae:0≤(0:Int):=(by omega);have ag:0<(J.length:Int):=of_decide_eq_true aS;obtain ⟨aH,aR,a6,aJ,Z,aw,au⟩:=at_L3 ap.out 0 ae ag;obtain rfl:az=aH:=(by injection aJ);have a7:(0<J.length)=True:=eq_true (by omega);(try rw[show ((0:Int)).toNat=0 from rfl] at Z);(try rw[Addr.add_zero'] at Z);replace Z:=hC HB Z;have a4:=Aside0.mk au;have aZ:=Aside0.mk aw;clear au aw;replace ae:=eq_true ae;replace ag:=eq_true ag)))
                 go_roundg k2
                 case measure=>have:=ba.out;have:=HK2.out;omega
                 case rel=>exact ⟨(wrap64 (U+1)),rD,H',⟨by have:=ba.out;have:=HK2.out;omega⟩,⟨pB X⟩,⟨bC HB am⟩⟩
               · replace H:=iN c16 H;have c16b0:=qF c16;have bi:=nT c16;have bj:((rd_L3 J U).length==(rd_L3 J 0).length)=false:=by first|simpa using c16|(simp at c16 ⊢;omega)
                 obtain rfl:=Option.some.inj H;have bw:wr.cell? ⟨aa,0,none⟩=some (.slice ah J.length aj):=(blk_cell X.out 0).trans rfl;have bx:wr.cell? ⟨aa,1,none⟩=some (.slice ai Y.length ak):=(blk_cell X.out 1).trans rfl;have bP:=blk_frozen X.out 0;have bQ:=blk_frozen X.out 1;have ax:0≤(U:Int):=of_decide_eq_true aS;have ay:U<(J.length:Int):=of_decide_eq_true aS;obtain ⟨az,a8,bb,aL,al,aE,aD⟩:=at_L3 ap.out U ax ay;cases aL
                 replace al:=hC HB al;have aq:=Aside0.mk aD;have ao:=Aside0.mk aE;clear aD aE;replace ax:=eq_true ax;replace ay:=eq_true ay;have ac:0≤(U:Int):=of_decide_eq_true aS;have af:U<(J.length:Int):=of_decide_eq_true aS;obtain ⟨aG,aQ,a5,aI,ab,av,ar⟩:=at_L3 ap.out U ac af;obtain rfl:az=aG:=(by injection aI);replace ab:=hC HB ab;have a3:=Aside0.mk ar;have aY:=Aside0.mk av;clear ar av;replace ac:=eq_true ac;replace af:=eq_true af;have ea_:=Option.some.inj (al.symm.trans ab);injection ea_ with ea_ en_ ec_;subst ea_;subst ec_;clear en_;have ae:0≤(0:Int):=(by omega);have ag:0<(J.length:Int):=of_decide_eq_true aS;obtain ⟨aH,aR,a6,aJ,Z,aw,au⟩:=at_L3 ap.out 0 ae ag;obtain rfl:az=aH:=(by injection aJ);have a7:(0<J.length)=True:=eq_true (by omega);(try rw[show ((0:Int)).toNat=0 from rfl] at Z);(try rw[Addr.add_zero'] at Z);replace Z:=hC HB Z;have a4:=Aside0.mk au;have aZ:=Aside0.mk aw;clear au aw;replace ae:=eq_true ae;replace ag:=eq_true ag
                 go_wp2_with (first|(go_at_call 77;(with_reducible refine (spec_l2Point.calls k2 _ _ (rd_L3 J U) true _ ?side1 ?side2 aB.out).mono ?_);(case side1=>exact cB aq HB);(case side2=>exact ao.out);rintro e w' ⟨rfl,⟨nd,rfl⟩⟩;(try first|exact ⟨rfl,_,World.drewN_drewN _ _ _⟩|exact ⟨rfl,_,Eq.trans (World.drewN_drewN _ _ _) (congrArg (World.drewN _) (Nat.add_assoc _ _ _))⟩)))
                 repeat (go_quiet (first|(go_at_call 77;(with_reducible refine (spec_l2Point.calls k2 _ _ (rd_L3 J U) true _ ?side1 ?side2 aB.out).mono ?_);(case side1=>exact cB aq HB);(case side2=>exact ao.out);rintro e w' ⟨rfl,⟨nd,rfl⟩⟩;(try first|exact ⟨rfl,_,World.drewN_drewN _ _ _⟩|exact ⟨rfl,_,Eq.trans (World.drewN_drewN _ _ _) (congrArg (World.drewN _) (Nat.add_assoc _ _ _))⟩)));try go_wp2_with (first|(go_at_call 77;(with_reducible refine (spec_l2Point.calls k2 _ _ (rd_L3 J U) true _ ?side1 ?side2 aB.out).mono ?_);(case side1=>exact cB aq HB);(case side2=>exact ao.out);rintro e w' ⟨rfl,⟨nd,rfl⟩⟩;(try first|exact ⟨rfl,_,World.drewN_drewN _ _ _⟩|exact ⟨rfl,_,Eq.trans (World.drewN_drewN _ _ _) (congrArg (World.drewN _) (Nat.add_assoc _ _ _))⟩);have ac:0≤(U:Int):=of_decide_eq_true aS;have af:U<(J.length:Int):=of_decide_eq_true aS;obtain ⟨aG,aQ,a5,aI,ab,av,ar⟩:=at_L3 ap.out U ac af;obtain rfl:az=aG:=(by injection aI);replace ab:=hC HB ab;have a3:=Aside0.mk ar;have aY:=Aside0.mk av;clear ar av;replace ac:=eq_true ac;replace af:=eq_true af;have ea_:=Option.some.inj (al.symm.trans ab);injection ea_ with ea_ en_ ec_;subst ea_;subst ec_;clear en_;have ae:0≤(0:Int):=(by omega);have ag:0<(J.length:Int):=of_decide_eq_true aS;obtain ⟨aH,aR,a6,aJ,Z,aw,au⟩:=at_L3 ap.out 0 ae ag;obtain rfl:az=aH:=(by injection aJ);have a7:(0<J.length)=True:=eq_true (by omega);(try rw[show ((0:Int)).toNat=0 from rfl] at Z);(try rw[Addr.add_zero'] at Z);replace Z:=hC HB Z;have a4:=Aside0.mk au;have aZ:=Aside0.mk aw;clear au aw;replace ae:=eq_true ae;replace ag:=eq_true ag)))
                 go_ret
                 exact ⟨eW,bC HB am⟩
             · replace H:=iN c15 H;cases H
           · replace aN:=Bool.eq_false_iff.mpr aN;subst aN;replace H:=iF H;obtain rfl:=Option.some.inj H;have bz:wr.cell? ⟨aa,0,none⟩=some (.slice ah J.length aj):=(blk_cell X.out 0).trans rfl;have bA:wr.cell? ⟨aa,1,none⟩=some (.slice ai Y.length ak):=(blk_cell X.out 1).trans rfl;have bR:=blk_frozen X.out 0;have bT:=blk_frozen X.out 1;have ax:0≤(U:Int):=of_decide_eq_true aS;have ay:U<(J.length:Int):=of_decide_eq_true aS;obtain ⟨az,a8,bb,aL,al,aE,aD⟩:=at_L3 ap.out U ax ay;cases aL
             replace al:=hC HB al;have aq:=Aside0.mk aD;have ao:=Aside0.mk aE;clear aD aE;replace ax:=eq_true ax;replace ay:=eq_true ay;go_wp2_with (first|(go_at_call 77;(with_reducible refine (spec_l2Point.calls k2 _ _ (rd_L3 J U) false _ ?side1 ?side2 aB.out).mono ?_);(case side1=>exact cB aq HB);(case side2=>exact ao.out);rintro e w' ⟨rfl,⟨nd,rfl⟩⟩;(try first|exact ⟨rfl,_,World.drewN_drewN _ _ _⟩|exact ⟨rfl,_,Eq.trans (World.drewN_drewN _ _ _) (congrArg (World.drewN _) (Nat.add_assoc _ _ _))⟩)))
             repeat (go_quiet (first|(go_at_call 77;(with_reducible refine (spec_l2Point.calls k2 _ _ (rd_L3 J U) false _ ?side1 ?side2 aB.out).mono ?_);(case side1=>exact cB aq HB);(case side2=>exact ao.out);rintro e w' ⟨rfl,⟨nd,rfl⟩⟩;(try first|exact ⟨rfl,_,World.drewN_drewN _ _ _⟩|exact ⟨rfl,_,Eq.trans (World.drewN_drewN _ _ _) (congrArg (World.drewN _) (Nat.add_assoc _ _ _))⟩)));try go_wp2_with (first|(go_at_call 77;(with_reducible refine (spec_l2Point.calls k2 _ _ (rd_L3 J U) false _ ?side1 ?side2 aB.out).mono ?_);(case side1=>exact cB aq HB);(case side2=>exact ao.out);rintro e w' ⟨rfl,⟨nd,rfl⟩⟩;(try first|exact ⟨rfl,_,World.drewN_drewN _ _ _⟩|exact ⟨rfl,_,Eq.trans (World.drewN_drewN _ _ _) (congrArg (World.drewN _) (Nat.add_assoc _ _ _))⟩))))
             go_ret
             exact ⟨eW,bC HB am⟩
         · replace H:=iN aM H;cases H
       · replace H:=iN c11 H;have c11b0:=decide_eq_false c11;clear c11;obtain rfl:=Option.some.inj H;have bF:wr.cell? ⟨aa,0,none⟩=some (.slice ah J.length aj):=(blk_cell X.out 0).trans rfl;have bG:wr.cell? ⟨aa,1,none⟩=some (.slice ai Y.length ak):=(blk_cell X.out 1).trans rfl;have bU:=blk_frozen X.out 0;have bV:=blk_frozen X.out 1;go_wp2;repeat (go_quiet (fail);try go_wp2)
         go_ret
         exact ⟨eW,bC HB am⟩
end Go.Proofs.Ytkbahcbankfffaa.PFnPlanesOfPairs
