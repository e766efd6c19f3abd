import Derived.Test.YtkbahcbankfffaaPFnPairsx0
import Derived.Test.YtkbahcbankfffaaPFnPairsx2
import Derived.Test.YtkbahcbankfffaaSh
import Derived.Test.YtkbahcbankfffaaSz
namespace Go.Proofs.Ytkbahcbankfffaa.PFnPairs
open Go.RowKit Go.Proofs.Ytkbahcbankfffaa.Sh Go.Proofs.YtkbahcbankfffaaW.PrintWords Go.Proofs.YtkbahcbankfffaaW.PrintLast Go.Proofs.YtkbahcbankfffaaW.PrintMore
attribute [local go_sem] max2_int min2_int max_two min_two max_three min_three max_four min_four
set_option linter.unusedVariables false
set_option maxHeartbeats 8000000
set_option maxRecDepth 100000
set_option linter.unusedSimpArgs false
def spec_l2Numbers.l0:Nat→List Int→Int→Int→Option (Bool)
 | 0,_,_,_=>none
 | k+1,x0,x1,x5=>if x5<(x0.length:Int) then (if 0≤x5 then ((spec_l1In.f (rd x0 x5) (wrap64 (-x1)) x1).bind fun t155=>(if t155=true then (spec_l2Numbers.l0 k x0 x1 (wrap64 (x5+1))) else (some false))) else (none)) else (some true)
def spec_l2Numbers.f (k:Nat) (l0:List Int) (a1:Int):Option (Bool):=spec_l2Numbers.l0 k l0 a1 0
theorem spec_l2Numbers.calls (k:Nat) (A0:Option Addr) (c0:Nat) (l0:List Int) (a1:Int) (r:Bool) (w:World) (hr0:Kd.C (Kd.int .i64) w A0 l0.length l0) (hc0:l0.length≤c0) (h:spec_l2Numbers.f k l0 a1=some r) :
 Calls Try.prog 134 #[.slice A0 l0.length c0,.int .i64 a1] w fun e w' => e = .returned (.bool r)∧Drawn0 w w' := by
 have HR0:=Aside0.mk hr0;have HC0:=Aside0.mk hc0;clear hr0 hc0;have H:(spec_l2Numbers.l0 k l0 a1 0)=some r:=h;clear h;have H' := Aside0.mk H;clear H;go_enter Try.func134,Try.ntmps134;go_wp2;go_loopg [5] k (fun kq v5 w' => ∃ (x5_1:Int),v5 = .int .i64 x5_1∧Aside0 (spec_l2Numbers.l0 kq l0 a1 x5_1=some r)∧Aside0 (kq≤k)∧Drawn0 w w')
 case atStart=>exact ⟨(0),rD,H',⟨Nat.le_refl _⟩,dR⟩
 case round =>
  clear H';obtain ⟨x5_1,rfl,HA,HK1,⟨m1,rfl⟩⟩:=hrel;cases gk with
  | zero=>exact absurd HA.out (by simp[spec_l2Numbers.l0])
  | succ k1 =>
   have H:=HA.out;clear HA;simp only[spec_l2Numbers.l0] at H;by_cases c3:x5_1<(l0.length:Int)
   · replace H:=iP c3 H;have c3b0:=decide_eq_true c3;clear c3;by_cases c4:0≤x5_1
     · replace H:=iP c4 H;have c4b0:=decide_eq_true c4;clear c4;obtain ⟨t155,A5,H⟩:=bS H;by_cases c6:t155=true
       · subst c6;replace H:=iT H;have H' := Aside0.mk H;clear H;have p154:0≤(x5_1:Int):=of_decide_eq_true aS;have q154:x5_1<(l0.length:Int):=of_decide_eq_true aS;obtain ⟨ad154,e154,hx154_0⟩:=Kd.at_int HR0.out x5_1 p154 q154;cases e154
         replace p154:=eq_true p154;replace q154:=eq_true q154;go_wp2_with (first|(refine gL 19 Try.func115 #[.int .i64 (rd l0 x5_1),.int .i64 (wrap64 (-a1)),.int .i64 a1] ?_;(with_reducible refine (spec_l1In.calls (rd l0 x5_1) (wrap64 (-a1)) a1 true _ A5.out).mono ?_);rintro e w' ⟨rfl,⟨nd,rfl⟩⟩;refine ⟨_,rfl,?_⟩))
         go_roundg k1
         case measure=>exact kM HK1
         case rel=>exact ⟨(wrap64 (x5_1+1)),rD,H',⟨kM HK1⟩,dR⟩
       · replace c6:=Bool.eq_false_iff.mpr c6;subst c6;replace H:=iF H;obtain rfl:=Option.some.inj H;have p154:0≤(x5_1:Int):=of_decide_eq_true aS;have q154:x5_1<(l0.length:Int):=of_decide_eq_true aS;obtain ⟨ad154,e154,hx154_0⟩:=Kd.at_int HR0.out x5_1 p154 q154;cases e154
         replace p154:=eq_true p154;replace q154:=eq_true q154;go_wp2_with (first|(refine gL 19 Try.func115 #[.int .i64 (rd l0 x5_1),.int .i64 (wrap64 (-a1)),.int .i64 a1] ?_;(with_reducible refine (spec_l1In.calls (rd l0 x5_1) (wrap64 (-a1)) a1 false _ A5.out).mono ?_);rintro e w' ⟨rfl,⟨nd,rfl⟩⟩;refine ⟨_,rfl,?_⟩))
         go_ret
         exact ⟨rD,dR⟩
     · replace H:=iN c4 H;cases H
   · replace H:=iN c3 H;have c3b0:=decide_eq_false c3;clear c3;obtain rfl:=Option.some.inj H;go_wp2;go_ret
     exact ⟨rD,dR⟩
def spec_l2Plane.f (k:Nat) (l0_0:List Int) (a0_1:Int):Option (Bool):=(spec_l1In.f (l0_0.length:Int) 1 4).bind fun t157=>(if t157=true then ((spec_l2Numbers.f k l0_0 99).bind fun t158=>(if t158=true then ((spec_l1In.f a0_1 (-99) 99).bind fun t159=>(some t159)) else (some false))) else (some false))
theorem spec_l2Plane.calls (k:Nat) (A0_0:Option Addr) (c0_0:Nat) (l0_0:List Int) (a0_1:Int) (r:Bool) (w:World) (hr0_0:Kd.C (Kd.int .i64) w A0_0 l0_0.length l0_0) (hc0_0:l0_0.length≤c0_0) (h:spec_l2Plane.f k l0_0 a0_1=some r) :
 Calls Try.prog 118 #[.agg #[.slice A0_0 l0_0.length c0_0,.int .i64 a0_1]] w fun e w' => e = .returned (.bool r)∧Below w.heap.size w w' := by
 have hu47:=Try.underlying47;have HR0_0:=Aside0.mk hr0_0;have HC0_0:=Aside0.mk hc0_0;clear hr0_0 hc0_0;have HB:=Aside0.mk (Below.refl w.heap.size w);have H:((spec_l1In.f (l0_0.length:Int) 1 4).bind fun t157=>(if t157=true then ((spec_l2Numbers.f k l0_0 99).bind fun t158=>(if t158=true then ((spec_l1In.f a0_1 (-99) 99).bind fun t159=>(some t159)) else (some false))) else (some false)))=some r:=h;clear h;obtain ⟨t157,A2,H⟩:=bS H;by_cases c3:t157=true
 · subst c3;replace H:=iT H;obtain ⟨t158,A4,H⟩:=bS H;by_cases c5:t158=true
   · subst c5;replace H:=iT H;obtain ⟨t159,A6,H⟩:=bS H;obtain rfl:=Option.some.inj H;go_enter Try.func118,Try.ntmps118;go_wp2_with (first|(refine gD 1 ?_;refine box_event ?hg (N:=1) ?hd (cs:=#[.slice A0_0 l0_0.length c0_0,.int .i64 a0_1]) (t:=47) ?hr ?_;(case hd=>rfl);(case hg=>rfl);(case hr=>go_simp <;> rfl);intro gb156 hg w7 hbox hb;have BK156:=Aside0.mk (hbox);have GW156:=gS (w:=w) hg (bB HB);have GE156:=gS (w:=w) hg (bB HB);replace HB:=Aside0.mk (below_step (bB HB) hb);clear hb hbox hg;have hcz8_0:w7.cell? ⟨gb156,0,none⟩=some (.slice A0_0 l0_0.length c0_0):=(blk_cell BK156.out 0).trans rfl;have hcz8_1:w7.cell? ⟨gb156,1,none⟩=some (.int .i64 a0_1):=(blk_cell BK156.out 1).trans rfl;have hfz8_0:=blk_frozen BK156.out 0;have hfz8_1:=blk_frozen BK156.out 1)|(refine gL 6 Try.func115 #[.int .i64 (l0_0.length:Int),.int .i64 1,.int .i64 4] ?_;(with_reducible refine (spec_l1In.calls (l0_0.length:Int) 1 4 true _ A2.out).mono ?_);rintro e w' ⟨rfl,⟨nd,rfl⟩⟩;refine ⟨_,rfl,?_⟩)|(go_at_call 134;(with_reducible refine (spec_l2Numbers.calls k _ _ l0_0 99 true _ ?side1 ?side2 A4.out).mono ?_);(case side1=>repeat (first|exact (Kd.C_below HR0_0.out (bC HB GE156))|(with_reducible refine Kd.C_alloc ?_ _)|(with_reducible refine Kd.C_drewN ?_ _)|(with_reducible refine Kd.C_drew ?_)));(case side2=>exact HC0_0.out);rintro e w' ⟨rfl,⟨nd,rfl⟩⟩)|(go_at_call 115;(with_reducible refine (spec_l1In.calls a0_1 (-99) 99 t159 _ A6.out).mono ?_);rintro e w' ⟨rfl,⟨nd,rfl⟩⟩))
     go_ret
     exact ⟨eW,bC HB GE156⟩
   · replace c5:=Bool.eq_false_iff.mpr c5;subst c5;replace H:=iF H;obtain rfl:=Option.some.inj H;go_enter Try.func118,Try.ntmps118;go_wp2_with (first|(refine gD 1 ?_;refine box_event ?hg (N:=1) ?hd (cs:=#[.slice A0_0 l0_0.length c0_0,.int .i64 a0_1]) (t:=47) ?hr ?_;(case hd=>rfl);(case hg=>rfl);(case hr=>go_simp <;> rfl);intro gb156 hg w9 hbox hb;have BK156:=Aside0.mk (hbox);have GW156:=gS (w:=w) hg (bB HB);have GE156:=gS (w:=w) hg (bB HB);replace HB:=Aside0.mk (below_step (bB HB) hb);clear hb hbox hg;have hcz10_0:w9.cell? ⟨gb156,0,none⟩=some (.slice A0_0 l0_0.length c0_0):=(blk_cell BK156.out 0).trans rfl;have hcz10_1:w9.cell? ⟨gb156,1,none⟩=some (.int .i64 a0_1):=(blk_cell BK156.out 1).trans rfl;have hfz10_0:=blk_frozen BK156.out 0;have hfz10_1:=blk_frozen BK156.out 1)|(refine gL 6 Try.func115 #[.int .i64 (l0_0.length:Int),.int .i64 1,.int .i64 4] ?_;(with_reducible refine (spec_l1In.calls (l0_0.length:Int) 1 4 true _ A2.out).mono ?_);rintro e w' ⟨rfl,⟨nd,rfl⟩⟩;refine ⟨_,rfl,?_⟩)|(go_at_call 134;(with_reducible refine (spec_l2Numbers.calls k _ _ l0_0 99 false _ ?side1 ?side2 A4.out).mono ?_);(case side1=>repeat (first|exact (Kd.C_below HR0_0.out (bC HB GE156))|(with_reducible refine Kd.C_alloc ?_ _)|(with_reducible refine Kd.C_drewN ?_ _)|(with_reducible refine Kd.C_drew ?_)));(case side2=>exact HC0_0.out);rintro e w' ⟨rfl,⟨nd,rfl⟩⟩))
     go_ret
     exact ⟨eW,bC HB GE156⟩
 · replace c3:=Bool.eq_false_iff.mpr c3;subst c3;replace H:=iF H;obtain rfl:=Option.some.inj H;go_enter Try.func118,Try.ntmps118;go_wp2_with (first|(refine gD 1 ?_;refine box_event ?hg (N:=1) ?hd (cs:=#[.slice A0_0 l0_0.length c0_0,.int .i64 a0_1]) (t:=47) ?hr ?_;(case hd=>rfl);(case hg=>rfl);(case hr=>go_simp <;> rfl);intro gb156 hg w11 hbox hb;have BK156:=Aside0.mk (hbox);have GW156:=gS (w:=w) hg (bB HB);have GE156:=gS (w:=w) hg (bB HB);replace HB:=Aside0.mk (below_step (bB HB) hb);clear hb hbox hg;have hcz12_0:w11.cell? ⟨gb156,0,none⟩=some (.slice A0_0 l0_0.length c0_0):=(blk_cell BK156.out 0).trans rfl;have hcz12_1:w11.cell? ⟨gb156,1,none⟩=some (.int .i64 a0_1):=(blk_cell BK156.out 1).trans rfl;have hfz12_0:=blk_frozen BK156.out 0;have hfz12_1:=blk_frozen BK156.out 1)|(refine gL 6 Try.func115 #[.int .i64 (l0_0.length:Int),.int .i64 1,.int .i64 4] ?_;(with_reducible refine (spec_l1In.calls (l0_0.length:Int) 1 4 false _ A2.out).mono ?_);rintro e w' ⟨rfl,⟨nd,rfl⟩⟩;refine ⟨_,rfl,?_⟩))
   go_ret
   exact ⟨eW,bC HB GE156⟩
def spec_l2Dot.l0:Nat→List Int→List Int→Int→Int→Option (Int)
 | 0,_,_,_,_=>none
 | k+1,x0,x1,x5,x6=>if x6<(x0.length:Int) then (if 0≤x6 then (if x6<(x1.length:Int) then (spec_l2Dot.l0 k x0 x1 (wrap64 (x5+(wrap64 ((rd x0 x6)*(rd x1 x6))))) (wrap64 (x6+1))) else (none)) else (none)) else (some x5)
def spec_l2Dot.f (k:Nat) (l0:List Int) (l1:List Int):Option (Int):=spec_l2Dot.l0 k l0 l1 0 0
theorem spec_l2Dot.calls (k:Nat) (A0:Option Addr) (c0:Nat) (l0:List Int) (A1:Option Addr) (c1:Nat) (l1:List Int) (r:Int) (w:World) (hr0:Kd.C (Kd.int .i64) w A0 l0.length l0) (hc0:l0.length≤c0) (hr1:Kd.C (Kd.int .i64) w A1 l1.length l1) (hc1:l1.length≤c1) (h:spec_l2Dot.f k l0 l1=some r) :
 Calls Try.prog 79 #[.slice A0 l0.length c0,.slice A1 l1.length c1] w fun e w' => e = .returned (.int .i64 r)∧Drawn0 w w' := by
 have HR0:=Aside0.mk hr0;have HC0:=Aside0.mk hc0;clear hr0 hc0;have HR1:=Aside0.mk hr1;have HC1:=Aside0.mk hc1;clear hr1 hc1;have H:(spec_l2Dot.l0 k l0 l1 0 0)=some r:=h;clear h;have H' := Aside0.mk H;clear H;go_enter Try.func79,Try.ntmps79;go_wp2;repeat (go_quiet (fail);try go_wp2)
 go_loopg [5,6] k (fun kq v5 v6 w' => ∃ (x5_1:Int) (x6_1:Int),v5 = .int .i64 x5_1∧v6 = .int .i64 x6_1∧Aside0 (spec_l2Dot.l0 kq l0 l1 x5_1 x6_1=some r)∧Aside0 (kq≤k)∧Drawn0 w w')
 case atStart=>exact ⟨(0),(0),rD,rD,H',⟨Nat.le_refl _⟩,dR⟩
 case round =>
  clear H';try clear c1
  obtain ⟨x5_1,x6_1,rfl,rfl,HA,HK1,⟨m1,rfl⟩⟩:=hrel;cases gk with
  | zero=>exact absurd HA.out (by simp[spec_l2Dot.l0])
  | succ k1 =>
   have H:=HA.out;clear HA;simp only[spec_l2Dot.l0] at H;by_cases c3:x6_1<(l0.length:Int)
   · replace H:=iP c3 H;have c3b0:=decide_eq_true c3;clear c3;by_cases c4:0≤x6_1
     · replace H:=iP c4 H;have c4b0:=decide_eq_true c4;clear c4;by_cases c5:x6_1<(l1.length:Int)
       · replace H:=iP c5 H;have c5b0:=decide_eq_true c5;clear c5;have H' := Aside0.mk H;clear H;have p160:0≤(x6_1:Int):=of_decide_eq_true aS;have q160:x6_1<(l0.length:Int):=of_decide_eq_true aS;obtain ⟨ad160,e160,hx160_0⟩:=Kd.at_int HR0.out x6_1 p160 q160;cases e160
         replace p160:=eq_true p160;replace q160:=eq_true q160;have p161:0≤(x6_1:Int):=of_decide_eq_true aS;have q161:x6_1<(l1.length:Int):=of_decide_eq_true aS;obtain ⟨ad161,e161,hx161_0⟩:=Kd.at_int HR1.out x6_1 p161 q161;cases e161
         replace p161:=eq_true p161;replace q161:=eq_true q161;go_wp2;repeat (go_quiet (fail);try go_wp2)
         go_roundg k1
         case measure=>exact kM HK1
         case rel=>exact ⟨(wrap64 (x5_1+(wrap64 ((rd l0 x6_1)*(rd l1 x6_1))))),(wrap64 (x6_1+1)),rD,rD,H',⟨kM HK1⟩,dR⟩
       · replace H:=iN c5 H;cases H
     · replace H:=iN c4 H;cases H
   · replace H:=iN c3 H;have c3b0:=decide_eq_false c3;clear c3;obtain rfl:=Option.some.inj H;go_wp2;repeat (go_quiet (fail);try go_wp2)
     go_ret
     exact ⟨rD,dR⟩
def spec_l2Side.f (k:Nat) (l0_0:List Int) (a0_1:Int) (l1:List Int):Option (Int):=(spec_l2Dot.f k l0_0 l1).bind fun t163=>(if t163≥a0_1 then (some 1) else (some (-1)))
theorem spec_l2Side.calls (k:Nat) (A0_0:Option Addr) (c0_0:Nat) (l0_0:List Int) (a0_1:Int) (A1:Option Addr) (c1:Nat) (l1:List Int) (r:Int) (w:World) (hr0_0:Kd.C (Kd.int .i64) w A0_0 l0_0.length l0_0) (hc0_0:l0_0.length≤c0_0) (hr1:Kd.C (Kd.int .i64) w A1 l1.length l1) (hc1:l1.length≤c1) (h:spec_l2Side.f k l0_0 a0_1 l1=some r) :
 Calls Try.prog 146 #[.agg #[.slice A0_0 l0_0.length c0_0,.int .i64 a0_1],.slice A1 l1.length c1] w fun e w' => e = .returned (.int .i64 r)∧Below w.heap.size w w' := by
 have hu47:=Try.underlying47;have HR0_0:=Aside0.mk hr0_0;have HC0_0:=Aside0.mk hc0_0;clear hr0_0 hc0_0;have HR1:=Aside0.mk hr1;have HC1:=Aside0.mk hc1;clear hr1 hc1;have HB:=Aside0.mk (Below.refl w.heap.size w);have H:((spec_l2Dot.f k l0_0 l1).bind fun t163=>(if t163≥a0_1 then (some 1) else (some (-1))))=some r:=h;clear h;obtain ⟨t163,A3,H⟩:=bS H;by_cases c4:t163≥a0_1
 · replace H:=iP c4 H;have c4b0:=decide_eq_true c4;clear c4;obtain rfl:=Option.some.inj H;go_enter Try.func146,Try.ntmps146;go_wp2_with (first|(refine gD 2 ?_;refine box_event ?hg (N:=2) ?hd (cs:=#[.slice A0_0 l0_0.length c0_0,.int .i64 a0_1]) (t:=47) ?hr ?_;(case hd=>rfl);(case hg=>rfl);(case hr=>go_simp <;> rfl);intro gb162 hg w5 hbox hb;have BK162:=Aside0.mk (hbox);have GW162:=gS (w:=w) hg (bB HB);have GE162:=gS (w:=w) hg (bB HB);replace HB:=Aside0.mk (below_step (bB HB) hb);clear hb hbox hg;have hcz6_0:w5.cell? ⟨gb162,0,none⟩=some (.slice A0_0 l0_0.length c0_0):=(blk_cell BK162.out 0).trans rfl;have hcz6_1:w5.cell? ⟨gb162,1,none⟩=some (.int .i64 a0_1):=(blk_cell BK162.out 1).trans rfl;have hfz6_0:=blk_frozen BK162.out 0;have hfz6_1:=blk_frozen BK162.out 1)|(go_at_call 79;(with_reducible refine (spec_l2Dot.calls k _ _ l0_0 _ _ l1 t163 _ ?side1 ?side2 ?side3 ?side4 A3.out).mono ?_);(case side1=>exact cB HR0_0 HB);(case side2=>exact HC0_0.out);(case side3=>exact cB HR1 HB);(case side4=>exact HC1.out);rintro e w' ⟨rfl,⟨nd,rfl⟩⟩;(try first|exact ⟨rfl,_,World.drewN_drewN _ _ _⟩|exact ⟨rfl,_,Eq.trans (World.drewN_drewN _ _ _) (congrArg (World.drewN _) (Nat.add_assoc _ _ _))⟩)))
   repeat (go_quiet (first|(refine gD 2 ?_;refine box_event ?hg (N:=2) ?hd (cs:=#[.slice A0_0 l0_0.length c0_0,.int .i64 a0_1]) (t:=47) ?hr ?_;(case hd=>rfl);(case hg=>rfl);(case hr=>go_simp <;> rfl);intro gb162 hg w5 hbox hb;have BK162:=Aside0.mk (hbox);have GW162:=gS (w:=w) hg (bB HB);have GE162:=gS (w:=w) hg (bB HB);replace HB:=Aside0.mk (below_step (bB HB) hb);clear hb hbox hg;have hcz6_0:w5.cell? ⟨gb162,0,none⟩=some (.slice A0_0 l0_0.length c0_0):=(blk_cell BK162.out 0).trans rfl;have hcz6_1:w5.cell? ⟨gb162,1,none⟩=some (.int .i64 a0_1):=(blk_cell BK162.out 1).trans rfl;have hfz6_0:=blk_frozen BK162.out 0;have hfz6_1:=blk_frozen BK162.out 1)|(go_at_call 79;(with_reducible refine (spec_l2Dot.calls k _ _ l0_0 _ _ l1 t163 _ ?side1 ?side2 ?side3 ?side4 A3.out).mono ?_);(case side1=>exact cB HR0_0 HB);(case side2=>exact HC0_0.out);(case side3=>exact cB HR1 HB);(case side4=>exact HC1.out);rintro e w' ⟨rfl,⟨nd,rfl⟩⟩;(try first|exact ⟨rfl,_,World.drewN_drewN _ _ _⟩|exact ⟨rfl,_,Eq.trans (World.drewN_drewN _ _ _) (congrArg (World.drewN _) (Nat.add_assoc _ _ _))⟩)));try go_wp2_with (first|(refine gD 2 ?_;refine box_event ?hg (N:=2) ?hd (cs:=#[.slice A0_0 l0_0.length c0_0,.int .i64 a0_1]) (t:=47) ?hr ?_;(case hd=>rfl);(case hg=>rfl);(case hr=>go_simp <;> rfl);intro gb162 hg w5 hbox hb;have BK162:=Aside0.mk (hbox);have GW162:=gS (w:=w) hg (bB HB);have GE162:=gS (w:=w) hg (bB HB);replace HB:=Aside0.mk (below_step (bB HB) hb);clear hb hbox hg;have hcz6_0:w5.cell? ⟨gb162,0,none⟩=some (.slice A0_0 l0_0.length c0_0):=(blk_cell BK162.out 0).trans rfl;have hcz6_1:w5.cell? ⟨gb162,1,none⟩=some (.int .i64 a0_1):=(blk_cell BK162.out 1).trans rfl;have hfz6_0:=blk_frozen BK162.out 0;have hfz6_1:=blk_frozen BK162.out 1)|(go_at_call 79;(with_reducible refine (spec_l2Dot.calls k _ _ l0_0 _ _ l1 t163 _ ?side1 ?side2 ?side3 ?side4 A3.out).mono ?_);(case side1=>exact cB HR0_0 HB);(case side2=>exact HC0_0.out);(case side3=>exact cB HR1 HB);(case side4=>exact HC1.out);rintro e w' ⟨rfl,⟨nd,rfl⟩⟩;(try first|exact ⟨rfl,_,World.drewN_drewN _ _ _⟩|exact ⟨rfl,_,Eq.trans (World.drewN_drewN _ _ _) (congrArg (World.drewN _) (Nat.add_assoc _ _ _))⟩))))
   go_ret
   exact ⟨eW,bC HB GE162⟩
 · replace H:=iN c4 H;have c4b0:=decide_eq_false c4;clear c4;obtain rfl:=Option.some.inj H;go_enter Try.func146,Try.ntmps146;go_wp2_with (first|(refine gD 2 ?_;refine box_event ?hg (N:=2) ?hd (cs:=#[.slice A0_0 l0_0.length c0_0,.int .i64 a0_1]) (t:=47) ?hr ?_;(case hd=>rfl);(case hg=>rfl);(case hr=>go_simp <;> rfl);intro gb162 hg w7 hbox hb;have BK162:=Aside0.mk (hbox);have GW162:=gS (w:=w) hg (bB HB);have GE162:=gS (w:=w) hg (bB HB);replace HB:=Aside0.mk (below_step (bB HB) hb);clear hb hbox hg;have hcz8_0:w7.cell? ⟨gb162,0,none⟩=some (.slice A0_0 l0_0.length c0_0):=(blk_cell BK162.out 0).trans rfl;have hcz8_1:w7.cell? ⟨gb162,1,none⟩=some (.int .i64 a0_1):=(blk_cell BK162.out 1).trans rfl;have hfz8_0:=blk_frozen BK162.out 0;have hfz8_1:=blk_frozen BK162.out 1)|(go_at_call 79;(with_reducible refine (spec_l2Dot.calls k _ _ l0_0 _ _ l1 t163 _ ?side1 ?side2 ?side3 ?side4 A3.out).mono ?_);(case side1=>exact cB HR0_0 HB);(case side2=>exact HC0_0.out);(case side3=>exact cB HR1 HB);(case side4=>exact HC1.out);rintro e w' ⟨rfl,⟨nd,rfl⟩⟩;(try first|exact ⟨rfl,_,World.drewN_drewN _ _ _⟩|exact ⟨rfl,_,Eq.trans (World.drewN_drewN _ _ _) (congrArg (World.drewN _) (Nat.add_assoc _ _ _))⟩)))
   repeat (go_quiet (first|(refine gD 2 ?_;refine box_event ?hg (N:=2) ?hd (cs:=#[.slice A0_0 l0_0.length c0_0,.int .i64 a0_1]) (t:=47) ?hr ?_;(case hd=>rfl);(case hg=>rfl);(case hr=>go_simp <;> rfl);intro gb162 hg w7 hbox hb;have BK162:=Aside0.mk (hbox);have GW162:=gS (w:=w) hg (bB HB);have GE162:=gS (w:=w) hg (bB HB);replace HB:=Aside0.mk (below_step (bB HB) hb);clear hb hbox hg;have hcz8_0:w7.cell? ⟨gb162,0,none⟩=some (.slice A0_0 l0_0.length c0_0):=(blk_cell BK162.out 0).trans rfl;have hcz8_1:w7.cell? ⟨gb162,1,none⟩=some (.int .i64 a0_1):=(blk_cell BK162.out 1).trans rfl;have hfz8_0:=blk_frozen BK162.out 0;have hfz8_1:=blk_frozen BK162.out 1)|(go_at_call 79;(with_reducible refine (spec_l2Dot.calls k _ _ l0_0 _ _ l1 t163 _ ?side1 ?side2 ?side3 ?side4 A3.out).mono ?_);(case side1=>exact cB HR0_0 HB);(case side2=>exact HC0_0.out);(case side3=>exact cB HR1 HB);(case side4=>exact HC1.out);rintro e w' ⟨rfl,⟨nd,rfl⟩⟩;(try first|exact ⟨rfl,_,World.drewN_drewN _ _ _⟩|exact ⟨rfl,_,Eq.trans (World.drewN_drewN _ _ _) (congrArg (World.drewN _) (Nat.add_assoc _ _ _))⟩)));try go_wp2_with (first|(refine gD 2 ?_;refine box_event ?hg (N:=2) ?hd (cs:=#[.slice A0_0 l0_0.length c0_0,.int .i64 a0_1]) (t:=47) ?hr ?_;(case hd=>rfl);(case hg=>rfl);(case hr=>go_simp <;> rfl);intro gb162 hg w7 hbox hb;have BK162:=Aside0.mk (hbox);have GW162:=gS (w:=w) hg (bB HB);have GE162:=gS (w:=w) hg (bB HB);replace HB:=Aside0.mk (below_step (bB HB) hb);clear hb hbox hg;have hcz8_0:w7.cell? ⟨gb162,0,none⟩=some (.slice A0_0 l0_0.length c0_0):=(blk_cell BK162.out 0).trans rfl;have hcz8_1:w7.cell? ⟨gb162,1,none⟩=some (.int .i64 a0_1):=(blk_cell BK162.out 1).trans rfl;have hfz8_0:=blk_frozen BK162.out 0;have hfz8_1:=blk_frozen BK162.out 1)|(go_at_call 79;(with_reducible refine (spec_l2Dot.calls k _ _ l0_0 _ _ l1 t163 _ ?side1 ?side2 ?side3 ?side4 A3.out).mono ?_);(case side1=>exact cB HR0_0 HB);(case side2=>exact HC0_0.out);(case side3=>exact cB HR1 HB);(case side4=>exact HC1.out);rintro e w' ⟨rfl,⟨nd,rfl⟩⟩;(try first|exact ⟨rfl,_,World.drewN_drewN _ _ _⟩|exact ⟨rfl,_,Eq.trans (World.drewN_drewN _ _ _) (congrArg (World.drewN _) (Nat.add_assoc _ _ _))⟩))))
   go_ret
   exact ⟨eW,bC HB GE162⟩
def spec_l2BitPoint.l0:Nat→Int→Int→List Int→Int→Option (List Int)
 | 0,_,_,_,_=>none
 | k+1,x0,x1,x5,x6=>if x6<x0 then (if 0≤x6 then (if x5.length<17592186044416 then (spec_l2BitPoint.l0 k x0 x1 (x5++[Go.bits .and .i64 (shr .i64 x1 x6) 1]) (wrap64 (x6+1))) else (none)) else (none)) else (some x5)
def spec_l2BitPoint.f (k:Nat) (a0:Int) (a1:Int):Option (List Int):=spec_l2BitPoint.l0 k a0 a1 (([]:List Int)) 0
theorem spec_l2BitPoint.calls (k:Nat) (a0:Int) (a1:Int) (r:List Int) (w:World) (h:spec_l2BitPoint.f k a0 a1=some r) :
 Calls Try.prog 147 #[.int .i64 a0,.int .i64 a1] w fun e w' => ∃ v0_:Value,e = .returned (v0_)∧Kd.R (Kd.int .i64) 3 w' w.heap.size (fun _=>True) v0_ r∧Below w.heap.size w w' := by
 have HB:=Aside0.mk (Below.refl w.heap.size w);have H:(spec_l2BitPoint.l0 k a0 a1 (([]:List Int)) 0)=some r:=h;clear h;obtain ⟨y164,hy164⟩:∃ y_:List Int,y_=(([]:List Int)):=⟨_,rfl⟩;replace H:(spec_l2BitPoint.l0 k a0 a1 y164 0)=some r:=yH hy164 H
 have Ny164:=Aside0.mk hy164;clear hy164;have H' := Aside0.mk H;clear H;go_enter Try.func147,Try.ntmps147;go_wp2_with (first|(refine gD 7 ?_;refine Kd.R_lit (Kd.int .i64) _ 3 ?hg (N:=7) ?hd (xs:=([]:List Int)) (inner:=[]) (ok:=fun _=>True) (okp:=fun _=>True) ?hr ?hp (fun _ hk=>hk) trivial (Below.refl _ _) (Nat.le_refl _) (by simp) ?_;(case hd=>rfl);(case hg=>rfl);(case hr=>go_simp <;> rfl);(case hp=>exact (Reps.none _ _));intro v165 w3 ho4 hb hg_ hnew_;clear hg_ hnew_;(first|rw[← Ny164.out] at ho4|(simp only[Int.reduceToNat] at ho4;rw[← Ny164.out] at ho4));have HO166:=Aside0.mk (Kd.R_lower ho4 (below_size (bB HB)));replace HB:=Aside0.mk (below_step (bB HB) hb);clear hb ho4))
 go_loopg [5,6] k (fun kq v5 v6 w' => ∃ (x5_1:List Int) (x6_1:Int),v6 = .int .i64 x6_1∧Aside0 (spec_l2BitPoint.l0 kq a0 a1 x5_1 x6_1=some r)∧Aside0 (kq≤k)∧Aside0 (Kd.R (Kd.int .i64) 3 w' w.heap.size (fun _=>True) v5 x5_1)∧Aside0 (Below w.heap.size w w'))
 case atStart=>exact ⟨(y164),(0),rD,H',⟨Nat.le_refl _⟩,⟨pR HO166⟩,⟨bB HB⟩⟩
 case round =>
  clear H';try clear c1
  obtain ⟨x5_1,x6_1,rfl,HA,HK1,HO_5,HB⟩:=hrel;cases gk with
  | zero=>exact absurd HA.out (by simp[spec_l2BitPoint.l0])
  | succ k1 =>
   have H:=HA.out;clear HA;simp only[spec_l2BitPoint.l0] at H;by_cases c5:x6_1<a0
   · replace H:=iP c5 H;have c5b0:=decide_eq_true c5;clear c5;by_cases c6:0≤x6_1
     · replace H:=iP c6 H;have c6b0:=eq_true c6;have c6b1:=decide_eq_true c6;clear c6;obtain ⟨ji7,hji7⟩:∃ j_:Int,(shr .i64 a1 x6_1)=j_:=⟨_,rfl⟩;replace H:(if x5_1.length<17592186044416 then (spec_l2BitPoint.l0 k1 a0 a1 (x5_1++[Go.bits .and .i64 (ji7) 1]) (wrap64 (x6_1+1))) else (none))=some r:=by first|(rw[hji7] at H;exact H)|(simp only[hji7] at H ⊢;exact H)
       have hji7_:(a1 / 2 ^ min x6_1.toNat 64)=ji7:=hji7;have hji7z:x6_1≤64→(a1 / 2 ^ x6_1.toNat)=ji7:=shr_small hji7;by_cases c8:x5_1.length<17592186044416
       · replace H:=iP c8 H;have LMc8:=Aside0.mk c8;clear c8;obtain ⟨y167,hy167⟩:∃ y_:List Int,y_=(x5_1++[Go.bits .and .i64 (ji7) 1]):=⟨_,rfl⟩;replace H:(spec_l2BitPoint.l0 k1 a0 a1 y167 (wrap64 (x6_1+1)))=some r:=yH hy167 H
         have Ny167:=Aside0.mk hy167;clear hy167;have H' := Aside0.mk H;clear H;go_wp2_with (first|((with_reducible refine gate_builtin (b := .append) (xs:=#[.tmp 13,.tmp 18]) rfl ?_);at_builtin;refine Kd.R_append (Kd.int .i64) (w0:=w) w.heap.size rfl (.tmp 13) (.tmp 18) 24 3 (.int .i64 0) 8 rfl Try.underlying24 info3 rfl (by decide) (by omega) u5 x5_1 (Go.bits .and .i64 (ji7) 1) [.int .i64 (Go.bits .and .i64 (ji7) 1)] (fun _=>True) (fun _=>False) rfl rfl ?aP (fun _ hk=>hk.elim) ?aF ?aO ?aB ?aS ?aL ?_;(case aP=>exact rfl);(case aB=>exact (bB HB));(case aF=>exact (fun _ _=>trivial));(case aO=>exact (pR HO_5));(case aS=>exact (below_size (bB HB)));(case aL=>have:=LMc8.out;omega);intro v168 w9 ho hb hg hat;rw[← Ny167.out] at ho;have HO169:=Aside0.mk (ho);replace HB:=Aside0.mk (hb);clear HO_5;clear ho hb hg hat))
         go_roundg k1
         case measure=>exact kM HK1
         case rel=>exact ⟨(y167),(wrap64 (x6_1+1)),rD,H',⟨kM HK1⟩,⟨pR HO169⟩,⟨bB HB⟩⟩
       · replace H:=iN c8 H;cases H
     · replace H:=iN c6 H;cases H
   · replace H:=iN c5 H;have c5b0:=decide_eq_false c5;clear c5;obtain rfl:=Option.some.inj H;go_wp2;go_ret
     exact ⟨_,eW,by refine xR ?_;exact HO_5.out,bB HB⟩
def spec_l2TableOf.l0:Nat→Int→List Int→Int→List Int→Int→Option (List Int)
 | 0,_,_,_,_,_=>none
 | k+1,x0,x5,x6,x171000,x171001=>if 0≤x0 then (if x6<(shl .i64 1 x0) then ((spec_l2BitPoint.f k x0 x6).bind fun t174=>((spec_l2Side.f k x171000 x171001 t174).bind fun t177=>(if x5.length<17592186044416 then (spec_l2TableOf.l0 k x0 (x5++[wrap64 (Int.tdiv (wrap64 (t177+1)) 2)]) (wrap64 (x6+1)) x171000 x171001) else (none)))) else (some x5)) else (none)
def spec_l2TableOf.f (k:Nat) (a0:Int) (l1_0:List Int) (a1_1:Int):Option (List Int):=spec_l2TableOf.l0 k a0 (([]:List Int)) 0 l1_0 a1_1
def spec_l2TableOf.T5:Bool×List (List Nat×List Nat):=(true,[([],[]),([],[]),([],[]),([],[]),([2,3],[2,3]),([1,4,4],[1,4]),([5],[5]),([6],[6]),([7],[7]),([0,8,5],[0,8]),([9,9,0,1,2,3,4,5,6,7,8,9],[0,9])])
def spec_l2TableOf.B5:List Nat:=[0,0,0,0,12,30,62,126,254,511,1023]
theorem spec_l2TableOf.tab5:rtab .any (opsOf Try.f119 5)=spec_l2TableOf.T5:=by kernel_rfl
theorem spec_l2TableOf.bits5:waitsOk spec_l2TableOf.T5.2 spec_l2TableOf.B5=true:=by kernel_rfl
theorem spec_l2TableOf.calls (k:Nat) (a0:Int) (A1_0:Option Addr) (c1_0:Nat) (l1_0:List Int) (a1_1:Int) (r:List Int) (w:World) (hr1_0:Kd.C (Kd.int .i64) w A1_0 l1_0.length l1_0) (hc1_0:l1_0.length≤c1_0) (h:spec_l2TableOf.f k a0 l1_0 a1_1=some r) :
 Calls Try.prog 119 #[.int .i64 a0,.agg #[.slice A1_0 l1_0.length c1_0,.int .i64 a1_1]] w fun e w' => ∃ v0_:Value,e = .returned (v0_)∧Kd.R (Kd.int .i64) 3 w' w.heap.size (fun _=>True) v0_ r∧Below w.heap.size w w' := by
 have hu47:=Try.underlying47;have HR1_0:=Aside0.mk hr1_0;have HC1_0:=Aside0.mk hc1_0;clear hr1_0 hc1_0;have HB:=Aside0.mk (Below.refl w.heap.size w);have H:(spec_l2TableOf.l0 k a0 (([]:List Int)) 0 l1_0 a1_1)=some r:=h;clear h;obtain ⟨y171,hy171⟩:∃ y_:List Int,y_=(([]:List Int)):=⟨_,rfl⟩;replace H:(spec_l2TableOf.l0 k a0 y171 0 l1_0 a1_1)=some r:=yH hy171 H
 have Ny171:=Aside0.mk hy171;clear hy171;have H' := Aside0.mk H;clear H;go_enter Try.func119,Try.ntmps119;go_wp2_with (first|(refine gD 3 ?_;refine box_event ?hg (N:=3) ?hd (cs:=#[.slice A1_0 l1_0.length c1_0,.int .i64 a1_1]) (t:=47) ?hr ?_;(case hd=>rfl);(case hg=>rfl);(case hr=>go_simp <;> rfl);intro gb170 hg w3 hbox hb;have BK170:=Aside0.mk (hbox);have GW170:=gS (w:=w) hg (bB HB);have GE170:=gS (w:=w) hg (bB HB);replace HB:=Aside0.mk (below_step (bB HB) hb);clear hb hbox hg)|(refine gD 7 ?_;refine Kd.R_lit (Kd.int .i64) _ 3 ?hg (N:=7) ?hd (xs:=([]:List Int)) (inner:=[]) (ok:=fun _=>True) (okp:=fun _=>True) ?hr ?hp (fun _ hk=>hk) trivial (Below.refl _ _) (Nat.le_refl _) (by simp) ?_;(case hd=>rfl);(case hg=>rfl);(case hr=>go_simp <;> rfl);(case hp=>exact (Reps.none _ _));intro v172 w4 ho5 hb hg_ hnew_;clear hg_ hnew_;(first|rw[← Ny171.out] at ho5|(simp only[Int.reduceToNat] at ho5;rw[← Ny171.out] at ho5));have HO173:=Aside0.mk (Kd.R_lower ho5 (below_size (bC HB GE170)));replace BK170:=Aside0.mk (bW BK170 hb);replace HB:=Aside0.mk (below_step (bC HB GE170) hb);clear hb ho5))
 go_loopg [5,6] k (fun kq v5 v6 w' => ∃ (x5_1:List Int) (x6_1:Int),v6 = .int .i64 x6_1∧Aside0 (spec_l2TableOf.l0 kq a0 x5_1 x6_1 l1_0 a1_1=some r)∧Aside0 (kq≤k)∧Aside0 (Kd.R (Kd.int .i64) 3 w' w.heap.size (fun _=>True) v5 x5_1)∧Aside0 (w'.heap[gb170]? = some (.cells #[(.slice A1_0 l1_0.length c1_0),.int .i64 a1_1] 47 (0,0)))∧Aside0 (Below w.heap.size w w'))
 case atStart=>exact ⟨(y171),(0),rD,H',⟨Nat.le_refl _⟩,⟨pR HO173⟩,⟨pB BK170⟩,⟨bC HB GE170⟩⟩
 case round =>
  clear H';try clear c1
  obtain ⟨x5_1,x6_1,rfl,HA,HK1,HO_5,BK170,HB⟩:=hrel;cases gk with
  | zero=>exact absurd HA.out (by simp[spec_l2TableOf.l0])
  | succ k1 =>
   have H:=HA.out;clear HA;simp only[spec_l2TableOf.l0] at H;by_cases c6:0≤a0
   · replace H:=iP c6 H;have c6b0:=eq_true c6;have c6b1:=decide_eq_true c6;clear c6;obtain ⟨ji7,hji7⟩:∃ j_:Int,(shl .i64 1 a0)=j_:=⟨_,rfl⟩;replace H:(if x6_1<(ji7) then ((spec_l2BitPoint.f k1 a0 x6_1).bind fun t174=>((spec_l2Side.f k1 l1_0 a1_1 t174).bind fun t177=>(if x5_1.length<17592186044416 then (spec_l2TableOf.l0 k1 a0 (x5_1++[wrap64 (Int.tdiv (wrap64 (t177+1)) 2)]) (wrap64 (x6_1+1)) l1_0 a1_1) else (none)))) else (some x5_1))=some r:=by first|(rw[hji7] at H;exact H)|(simp only[hji7] at H ⊢;exact H)
     have hji7_:(IntKind.i64.wrap (1*2 ^ min a0.toNat 64))=ji7:=hji7;have hji7z:a0≤64→(IntKind.i64.wrap (1*2 ^ a0.toNat))=ji7:=shl_small hji7;have hji7u:(IntKind.i64.wrap (2 ^ min a0.toNat 64))=ji7:=by have h_:=hji7_;rw[Int.one_mul] at h_;exact h_
     have hji7v:a0≤64→(IntKind.i64.wrap (2 ^ a0.toNat))=ji7:=fun hle_=>by have h_:=hji7z hle_;rw[Int.one_mul] at h_;exact h_
     have hji7y:(wrap64 (1*2 ^ min a0.toNat 64))=ji7:=(i64_w _).symm.trans hji7_;have hji7x:a0≤64→(wrap64 (1*2 ^ a0.toNat))=ji7:=fun h_=>(i64_w _).symm.trans (hji7z h_)
     by_cases c8:x6_1<(ji7)
     · replace H:=iP c8 H;have c8b0:=decide_eq_true c8;clear c8;obtain ⟨t174,A9,H⟩:=bS H;obtain ⟨t177,A10,H⟩:=bS H;by_cases c11:x5_1.length<17592186044416
       · replace H:=iP c11 H;have LMc11:=Aside0.mk c11;clear c11;obtain ⟨y178,hy178⟩:∃ y_:List Int,y_=(x5_1++[wrap64 (Int.tdiv (wrap64 (t177+1)) 2)]):=⟨_,rfl⟩;replace H:(spec_l2TableOf.l0 k1 a0 y178 (wrap64 (x6_1+1)) l1_0 a1_1)=some r:=yH hy178 H
         have Ny178:=Aside0.mk hy178;clear hy178;have H' := Aside0.mk H;clear H;try go_wp2
         replace HO_5:=Aside0.mk (Kd.R_drew HO_5.out);replace BK170:=Aside0.mk (blk_drew BK170.out);replace HB:=Aside0.mk (below_drew1 HB.out);refine start_ (n:=11) (S:=fun w' => w'.cell? ⟨gb170,0,none⟩=some (.slice A1_0 l1_0.length c1_0)∧w'.cell? ⟨gb170,1,none⟩=some (.int .i64 a1_1)) (ds:=[]) #[false,false,false,false,false,false,false,false,false,false,false] (by kernel_rfl) rfl rfl ⟨(blk_cell BK170.out 0).trans rfl,(blk_cell BK170.out 1).trans rfl⟩ (fun hHeld => ?_);refine with_tabW spec_l2TableOf.tab5 spec_l2TableOf.bits5 (fun HT_ HW_ => ?_);generalize wr.drew=w12 at HO_5 BK170 HB hHeld ⊢;refine pure_ (i:=0) (N:=some 14) (v := ?_) (a' := ?_) #[true,false,false,false,false,false,false,false,false,false,false] rfl rfl (any_of HT_.out (by kernel_rfl)) (fun _ _ _ h=>h) (Or.inl ⟨by rfl,?_⟩) ?_ ?_;rotate_left
         · intro w';go_simp;with_reducible rfl
         rotate_left
         · exact aP
         refine pure_ (i:=2) (N:=some 16) (v := ?_) (a' := ?_) #[true,false,true,false,false,false,false,false,false,false,false] rfl rfl (any_of HT_.out (by kernel_rfl)) (fun _ _ _ h=>h) (Or.inl ⟨by rfl,?_⟩) ?_ ?_;rotate_left
         · intro w';go_simp;with_reducible rfl
         rotate_left
         · exact aP
         refine pure_ (i:=3) (N:=some 17) (v := ?_) (a' := ?_) #[true,false,true,true,false,false,false,false,false,false,false] rfl rfl (any_of HT_.out (by kernel_rfl)) (fun _ _ _ h=>h) (Or.inl ⟨by rfl,?_⟩) ?_ ?_;rotate_left
         · intro w';go_simp;with_reducible rfl
         rotate_left
         · exact aP
         refine take_ (i:=1) (N:=some 15) (v := ?_) (a' := ?_) #[true,true,true,true,false,false,false,false,false,false,false] rfl rfl (take_ofW HT_.out HW_.out (by kernel_rfl)) (fun _ _ _ h=>h) (Or.inl ⟨by rfl,?_⟩) hHeld ?_ ?_;rotate_left
         · rintro w' ⟨s0,s1⟩;go_simp;with_reducible rfl
         rotate_left
         · exact aP
         refine one_ (i:=4) (N:=some 18) #[true,true,true,true,true,false,false,false,false,false,false] rfl rfl (one_of HT_.out (by kernel_rfl)) (by decide) (fun K hK => ?_);refine goes_ Try.func147 (by kernel_rfl) rfl #[.int .i64 a0,.int .i64 x6_1] (by rfl) rfl rfl aT ?_;with_reducible refine (spec_l2BitPoint.calls k1 a0 x6_1 t174 _ A9.out).mono ?_
         rintro e w13 ⟨v175,rfl,ho0,hb⟩;refine ⟨_,rfl,?_⟩;have HO176:=Aside0.mk (Kd.R_lower (Kd.R_new' ho0 (Kd.R_lt (pR HO_5))) (below_size (bC HB GE170)));replace HO_5:=Aside0.mk (Kd.R_elder' (pR HO_5) (Kd.R_base ho0) hb);replace BK170:=Aside0.mk (bW BK170 hb);replace HB:=Aside0.mk (below_step (bC HB GE170) hb);(try clear hb);(try clear ho0);obtain ⟨Ao14,co14,eo14⟩:=Kd.R_slice HO176.out;(first|subst eo14|(injection eo14 with f1_ f2_ f3_;have f4_:=f1_.symm;have f5_:=f3_.symm;clear f1_ f2_ f3_;subst f4_;subst f5_));refine hK.out _ _ ⟨(blk_cell BK170.out 0).trans rfl,(blk_cell BK170.out 1).trans rfl⟩ (fun hHeld => ?_);clear hK K;refine norm_ (a' := ?_) ?_ ?_;rotate_left
         · show Act.put _ (some 18) _=_
           simp only[Act.put,List.setIfInBounds_toArray,List.set_cons_zero,List.set_cons_succ,i64_w,i32_w];rfl
         refine one_ (i:=5) (N:=some 19) #[true,true,true,true,true,true,false,false,false,false,false] rfl rfl (one_of HT_.out (by kernel_rfl)) (by decide) (fun K hK => ?_);refine goes_ Try.func146 (by kernel_rfl) rfl #[.agg #[.slice A1_0 l1_0.length c1_0,.int .i64 a1_1],.slice Ao14 t174.length co14] (by rfl) rfl rfl aT ?_;with_reducible refine (spec_l2Side.calls k1 _ _ l1_0 a1_1 _ _ t174 t177 _ ?side1 ?side2 ?side3 ?side4 A10.out).mono ?_
         (case side1=>exact cB HR1_0 HB);(case side2=>exact HC1_0.out);(case side3=>exact cR HO176);(case side4=>exact (Kd.R_reads' HO176.out).2.1);rintro e w15 ⟨rfl,hb⟩;refine ⟨_,rfl,?_⟩;replace HO_5:=Aside0.mk (Kd.R_below (pR HO_5) hb);replace HO176:=Aside0.mk (Kd.R_below (pR HO176) hb);replace BK170:=Aside0.mk (bW BK170 hb);replace HB:=Aside0.mk (below_step (bC HB GE170) hb);(try clear hb);refine hK.out _ _ ⟨(blk_cell BK170.out 0).trans rfl,(blk_cell BK170.out 1).trans rfl⟩ (fun hHeld => ?_);clear hK K;refine norm_ (a' := ?_) ?_ ?_;rotate_left
         · show Act.put _ (some 19) _=_
           simp only[Act.put,List.setIfInBounds_toArray,List.set_cons_zero,List.set_cons_succ,i64_w,i32_w];rfl
         refine pure_ (i:=6) (N:=some 20) (v := ?_) (a' := ?_) #[true,true,true,true,true,true,true,false,false,false,false] rfl rfl (any_of HT_.out (by kernel_rfl)) (fun _ _ _ h=>h) (Or.inl ⟨by rfl,?_⟩) ?_ ?_;rotate_left
         · intro w';go_simp;with_reducible rfl
         rotate_left
         · exact aP
         refine pure_ (i:=7) (N:=some 21) (v := ?_) (a' := ?_) #[true,true,true,true,true,true,true,true,false,false,false] rfl rfl (any_of HT_.out (by kernel_rfl)) (fun _ _ _ h=>h) (Or.inl ⟨by rfl,?_⟩) ?_ ?_;rotate_left
         · intro w';go_simp;with_reducible rfl
         rotate_left
         · exact aP
         refine one_ (i:=8) (N:=some 22) #[true,true,true,true,true,true,true,true,true,false,false] rfl rfl (one_of HT_.out (by kernel_rfl)) (by decide) (fun K hK => ?_);refine value_ (w1 := ?_) (v := ?_) (by rfl) rfl ?_ ?_;rotate_left 2
         · go_simp;constructor
           · rfl
           · rfl
         refine hK.out _ _ ⟨(blk_cell (blk_alloc BK170.out _) 0).trans rfl,(blk_cell (blk_alloc BK170.out _) 1).trans rfl⟩ (fun hHeld => ?_);clear hK K;refine norm_ (a' := ?_) ?_ ?_;rotate_left
         · show Act.put _ (some 22) _=_
           simp only[Act.put,List.setIfInBounds_toArray,List.set_cons_zero,List.set_cons_succ,i64_w,i32_w];rfl
         refine one_ (i:=9) (N:=some 23) #[true,true,true,true,true,true,true,true,true,true,false] rfl rfl (one_of HT_.out (by kernel_rfl)) (by decide) (fun K hK => ?_);refine Kd.R_append_step (Kd.int .i64) (w0:=w) w.heap.size (by rfl) (.tmp 14) (.tmp 22) 24 3 (.int .i64 0) 8 rfl Try.underlying24 info3 rfl (by decide) (by omega) u5 x5_1 (wrap64 (Int.tdiv (wrap64 (t177+1)) 2)) [.int .i64 (wrap64 (Int.tdiv (wrap64 (t177+1)) 2))] (fun k_=>some k_≠(.slice Ao14 t174.length co14:Value).ownBlock) (fun _=>False) rfl rfl ?aP (fun _ hk=>hk.elim) ?aF ?aO ?aB ?aS ?aL ?_;(case aP=>exact rfl);(case aB=>exact (bC HB GE170));(case aF=>exact (fun k_ hk=>Kd.fresh' (Kd.R_lt (pR HO176)) k_ hk));(case aO=>exact (by refine xR ?_;exact Kd.R_mono HO_5.out (fun _ hk=>hk.2)));(case aS=>exact (below_size (bC HB GE170)));(case aL=>have:=LMc11.out;omega);intro v179 w16 ho hb hg hat;rw[← Ny178.out] at ho;have HO180:=Aside0.mk (ho);replace BK170:=Aside0.mk (blk_grown (g:=gb170) (o := .cells #[.slice A1_0 l1_0.length c1_0,.int .i64 a1_1] 47 (0,0)) (pB BK170) hg (Kd.R_ne HO_5.out BK170.out (by decide)));replace HO176:=Aside0.mk (Kd.R_after (ok:=(fun _=>True)) (pR HO176) hg hat);replace HB:=Aside0.mk (hb);clear HO_5;clear ho hb hg hat;refine hK.out _ _ ⟨(blk_cell BK170.out 0).trans rfl,(blk_cell BK170.out 1).trans rfl⟩ (fun hHeld => ?_);clear hK K;refine norm_ (a' := ?_) ?_ ?_;rotate_left
         · show Act.put _ (some 23) _=_
           simp only[Act.put,List.setIfInBounds_toArray,List.set_cons_zero,List.set_cons_succ,i64_w,i32_w];rfl
         refine pure_ (i:=10) (N:=some 5) (v := ?_) (a' := ?_) #[true,true,true,true,true,true,true,true,true,true,true] rfl rfl (any_of HT_.out (by kernel_rfl)) (fun _ _ _ h=>h) (Or.inl ⟨by rfl,?_⟩) ?_ ?_;rotate_left
         · intro w';go_simp;with_reducible rfl
         rotate_left
         · exact aP
         refine done_ (done_of HT_.out (by kernel_rfl)) ?_;try go_wp2
         go_roundg k1
         case measure=>exact kM HK1
         case rel=>exact ⟨(y178),(wrap64 (x6_1+1)),rD,H',⟨kM HK1⟩,⟨by refine xR ?_;exact Kd.R_mono HO180.out (fun _ hk=>trivial)⟩,⟨pB BK170⟩,⟨bC HB GE170⟩⟩
       · replace H:=iN c11 H;cases H
     · replace H:=iN c8 H;have c8b0:=decide_eq_false c8;clear c8;obtain rfl:=Option.some.inj H;go_wp2;go_ret
       exact ⟨_,by first|rfl|(simp[errW_none,errW_some] <;> rfl)|(simp only[← hji7];first|rfl|(simp[errW_none,errW_some] <;> rfl))|(simp[*,errW_none,errW_some] <;> rfl),by refine xR ?_;exact HO_5.out,bC HB GE170⟩
   · replace H:=iN c6 H;cases H
end Go.Proofs.Ytkbahcbankfffaa.PFnPairs
