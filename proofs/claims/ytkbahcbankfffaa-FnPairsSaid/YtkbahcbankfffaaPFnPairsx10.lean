import Derived.Test.YtkbahcbankfffaaPFnPairsx0
import Derived.Test.YtkbahcbankfffaaSh
import Derived.Test.YtkbahcbankfffaaSz
namespace Go.Proofs.Ytkbahcbankfffaa.PFnPairs
open Go.RowKit Go.Proofs.Ytkbahcbankfffaa.Sh Go.Proofs.YtkbahcbankfffaaW.PrintWords Go.Proofs.YtkbahcbankfffaaW.PrintLast Go.Proofs.YtkbahcbankfffaaW.PrintMore
attribute [local go_sem] max2_int min2_int max_two min_two max_three min_three max_four min_four
set_option linter.unusedVariables false
set_option maxHeartbeats 8000000
set_option maxRecDepth 100000
set_option linter.unusedSimpArgs false
def spec_l9Joined.l0:Nat→List Int→List Int→List Int→List Int→Int→Option (Bool)
 | 0,_,_,_,_,_=>none
 | k+1,x0,x1,x2,x3,x9=>if x9<(x0.length:Int) then (if 0≤x9 then (if x9<(x1.length:Int) then (if x9<(x2.length:Int) then (if 0≤(wrap64 ((rd x1 x9)+(wrap64 (2*(rd x2 x9))))) then (if (wrap64 ((rd x1 x9)+(wrap64 (2*(rd x2 x9)))))<(x3.length:Int) then (if (rd x3 (wrap64 ((rd x1 x9)+(wrap64 (2*(rd x2 x9))))))=(rd x0 x9) then (spec_l9Joined.l0 k x0 x1 x2 x3 (wrap64 (x9+1))) else (some false)) else (none)) else (none)) else (none)) else (none)) else (none)) else (some true)
def spec_l9Joined.f (k:Nat) (l0:List Int) (l1:List Int) (l2:List Int) (l3:List Int):Option (Bool):=spec_l9Joined.l0 k l0 l1 l2 l3 0
theorem spec_l9Joined.calls (k:Nat) (A0:Option Addr) (c0:Nat) (l0:List Int) (A1:Option Addr) (c1:Nat) (l1:List Int) (A2:Option Addr) (c2:Nat) (l2:List Int) (A3:Option Addr) (c3:Nat) (l3:List Int) (r:Bool) (w:World) (hr0:Kd.C (Kd.int .i64) w A0 l0.length l0) (hc0:l0.length≤c0) (hr1:Kd.C (Kd.int .i64) w A1 l1.length l1) (hc1:l1.length≤c1) (hr2:Kd.C (Kd.int .i64) w A2 l2.length l2) (hc2:l2.length≤c2) (hr3:Kd.C (Kd.int .i64) w A3 l3.length l3) (hc3:l3.length≤c3) (h:spec_l9Joined.f k l0 l1 l2 l3=some r) :
 Calls Try.prog 125 #[.slice A0 l0.length c0,.slice A1 l1.length c1,.slice A2 l2.length c2,.slice A3 l3.length c3] w fun e w' => e = .returned (.bool r)∧Drawn0 w w' := by
 have HR0:=Aside0.mk hr0;have HC0:=Aside0.mk hc0;clear hr0 hc0;have HR1:=Aside0.mk hr1;have HC1:=Aside0.mk hc1;clear hr1 hc1;have HR2:=Aside0.mk hr2;have HC2:=Aside0.mk hc2;clear hr2 hc2;have HR3:=Aside0.mk hr3;have HC3:=Aside0.mk hc3;clear hr3 hc3;have H:(spec_l9Joined.l0 k l0 l1 l2 l3 0)=some r:=h;clear h;have H' := Aside0.mk H;clear H;go_enter Try.func125,Try.ntmps125;go_wp2;repeat (go_quiet (fail);try go_wp2)
 go_loopg [9] k (fun kq v9 w' => ∃ (x9_1:Int),v9 = .int .i64 x9_1∧Aside0 (spec_l9Joined.l0 kq l0 l1 l2 l3 x9_1=some r)∧Aside0 (kq≤k)∧Drawn0 w w')
 case atStart=>exact ⟨(0),rD,H',⟨Nat.le_refl _⟩,dR⟩
 case round =>
  clear H';try clear c1
  try clear c2
  try clear c3
  obtain ⟨x9_1,rfl,HA,HK1,⟨m1,rfl⟩⟩:=hrel;cases gk with
  | zero=>exact absurd HA.out (by simp[spec_l9Joined.l0])
  | succ k1 =>
   have H:=HA.out;clear HA;simp only[spec_l9Joined.l0] at H;by_cases c5:x9_1<(l0.length:Int)
   · replace H:=iP c5 H;have c5b0:=decide_eq_true c5;clear c5;by_cases c6:0≤x9_1
     · replace H:=iP c6 H;have c6b0:=decide_eq_true c6;clear c6;by_cases c7:x9_1<(l1.length:Int)
       · replace H:=iP c7 H;have c7b0:=decide_eq_true c7;clear c7;by_cases c8:x9_1<(l2.length:Int)
         · replace H:=iP c8 H;have c8b0:=decide_eq_true c8;clear c8;obtain ⟨ji9,hji9⟩:∃ j_:Int,(wrap64 ((rd l1 x9_1)+(wrap64 (2*(rd l2 x9_1)))))=j_:=⟨_,rfl⟩;replace H:(if 0≤(ji9) then (if (ji9)<(l3.length:Int) then (if (rd l3 (ji9))=(rd l0 x9_1) then (spec_l9Joined.l0 k1 l0 l1 l2 l3 (wrap64 (x9_1+1))) else (some false)) else (none)) else (none))=some r:=by first|(rw[hji9] at H;exact H)|(simp only[hji9] at H ⊢;exact H)
           have hji9w:(IntKind.i64.wrap ((rd l1 x9_1)+(wrap64 (2*(rd l2 x9_1)))))=ji9:=(i64_w _).trans hji9;by_cases c10:0≤(ji9)
           · replace H:=iP c10 H;have c10b0:=decide_eq_true c10;clear c10;by_cases c11:(ji9)<(l3.length:Int)
             · replace H:=iP c11 H;have c11b0:=decide_eq_true c11;clear c11;by_cases c12:(rd l3 (ji9))=(rd l0 x9_1)
               · replace H:=iP c12 H;have c12b0:=qT c12;have c12b1:=nF c12;clear c12;have H' := Aside0.mk H;clear H;have p329:0≤(x9_1:Int):=of_decide_eq_true aS;have q329:x9_1<(l1.length:Int):=of_decide_eq_true aS;obtain ⟨ad329,e329,hx329_0⟩:=Kd.at_int HR1.out x9_1 p329 q329;cases e329
                 replace p329:=eq_true p329;replace q329:=eq_true q329;have p330:0≤(x9_1:Int):=of_decide_eq_true aS;have q330:x9_1<(l2.length:Int):=of_decide_eq_true aS;obtain ⟨ad330,e330,hx330_0⟩:=Kd.at_int HR2.out x9_1 p330 q330;cases e330
                 replace p330:=eq_true p330;replace q330:=eq_true q330;have p331:0≤((ji9):Int):=of_decide_eq_true aS;have q331:(ji9)<(l3.length:Int):=of_decide_eq_true aS;obtain ⟨ad331,e331,hx331_0⟩:=Kd.at_int HR3.out (ji9) p331 q331;cases e331
                 replace p331:=eq_true p331;replace q331:=eq_true q331;have p332:0≤(x9_1:Int):=of_decide_eq_true aS;have q332:x9_1<(l0.length:Int):=of_decide_eq_true aS;obtain ⟨ad332,e332,hx332_0⟩:=Kd.at_int HR0.out x9_1 p332 q332;cases e332
                 replace p332:=eq_true p332;replace q332:=eq_true q332;go_wp2;repeat (go_quiet (fail);try go_wp2)
                 go_roundg k1
                 case measure=>exact kM HK1
                 case rel=>exact ⟨(wrap64 (x9_1+1)),rD,H',⟨kM HK1⟩,dR⟩
               · replace H:=iN c12 H;have c12b0:=qF c12;have c12b1:=nT c12;obtain rfl:=Option.some.inj H;have p329:0≤(x9_1:Int):=of_decide_eq_true aS;have q329:x9_1<(l1.length:Int):=of_decide_eq_true aS;obtain ⟨ad329,e329,hx329_0⟩:=Kd.at_int HR1.out x9_1 p329 q329;cases e329
                 replace p329:=eq_true p329;replace q329:=eq_true q329;have p330:0≤(x9_1:Int):=of_decide_eq_true aS;have q330:x9_1<(l2.length:Int):=of_decide_eq_true aS;obtain ⟨ad330,e330,hx330_0⟩:=Kd.at_int HR2.out x9_1 p330 q330;cases e330
                 replace p330:=eq_true p330;replace q330:=eq_true q330;have p331:0≤((ji9):Int):=of_decide_eq_true aS;have q331:(ji9)<(l3.length:Int):=of_decide_eq_true aS;obtain ⟨ad331,e331,hx331_0⟩:=Kd.at_int HR3.out (ji9) p331 q331;cases e331
                 replace p331:=eq_true p331;replace q331:=eq_true q331;have p332:0≤(x9_1:Int):=of_decide_eq_true aS;have q332:x9_1<(l0.length:Int):=of_decide_eq_true aS;obtain ⟨ad332,e332,hx332_0⟩:=Kd.at_int HR0.out x9_1 p332 q332;cases e332
                 replace p332:=eq_true p332;replace q332:=eq_true q332;go_wp2;repeat (go_quiet (fail);try go_wp2)
                 go_ret
                 exact ⟨by first|rfl|(simp;done)|(simp only[← hji9] <;> (first|rfl|simp))|(simp[*];done),dR⟩
             · replace H:=iN c11 H;cases H
           · replace H:=iN c10 H;cases H
         · replace H:=iN c8 H;cases H
       · replace H:=iN c7 H;cases H
     · replace H:=iN c6 H;cases H
   · replace H:=iN c5 H;have c5b0:=decide_eq_false c5;clear c5;obtain rfl:=Option.some.inj H;go_wp2;repeat (go_quiet (fail);try go_wp2)
     go_ret
     exact ⟨rD,dR⟩
end Go.Proofs.Ytkbahcbankfffaa.PFnPairs
