import Derived.Test.YtkbahcbankfffaaPFnPairsx0
import Derived.Test.YtkbahcbankfffaaPFnPairsx8
import Derived.Test.YtkbahcbankfffaaSh
import Derived.Test.YtkbahcbankfffaaSz
namespace Go.Proofs.Ytkbahcbankfffaa.PFnPairs
open Go.RowKit Go.Proofs.Ytkbahcbankfffaa.Sh Go.Proofs.YtkbahcbankfffaaW.PrintWords Go.Proofs.YtkbahcbankfffaaW.PrintLast Go.Proofs.YtkbahcbankfffaaW.PrintMore
attribute [local go_sem] max2_int min2_int max_two min_two max_three min_three max_four min_four
set_option linter.unusedVariables false
set_option maxHeartbeats 8000000
set_option maxRecDepth 100000
set_option linter.unusedSimpArgs false
mutual
def spec_l5Find.l0:Nat→Int→List Int→Int→Option (List Int)
 | 0,_,_,_=>none
 | k+1,x0,x1,x5=>if x5<(x1.length:Int) then (spec_l5Find.l1 k x0 x1 x5 x5) else (some (([]:List Int)))
def spec_l5Find.l1:Nat→Int→List Int→Int→Int→Option (List Int)
 | 0,_,_,_,_=>none
 | k+1,x0,x1,x5,x6=>if x6<(x1.length:Int) then (spec_l5Find.l2 k x0 x1 x5 x6 0) else (spec_l5Find.l0 k x0 x1 (wrap64 (x5+1)))
def spec_l5Find.l2:Nat→Int→List Int→Int→Int→Int→Option (List Int)
 | 0,_,_,_,_,_=>none
 | k+1,x0,x1,x5,x6,x7=>if x7<(x1.length:Int) then (if 0≤x5 then (if x5<(x1.length:Int) then (if (rd x1 x5)=1 then (if 0≤x6 then (if x6<(x1.length:Int) then (spec_l5Find.j3 k x0 x1 x5 x6 x7 ((rd x1 x6)==1)) else (none)) else (none)) else (spec_l5Find.j3 k x0 x1 x5 x6 x7 false)) else (none)) else (none)) else (spec_l5Find.j3 k x0 x1 x5 x6 x7 false)
def spec_l5Find.j3:Nat→Int→List Int→Int→Int→Int→Bool→Option (List Int)
 | 0,_,_,_,_,_,_=>none
 | k+1,x0,x1,x5,x6,x7,x40=>if x40=true then (spec_l5Find.l3 k x0 x1 x5 x6 x7 x7) else (spec_l5Find.l1 k x0 x1 x5 (wrap64 (x6+1)))
def spec_l5Find.l3:Nat→Int→List Int→Int→Int→Int→Int→Option (List Int)
 | 0,_,_,_,_,_,_=>none
 | k+1,x0,x1,x5,x6,x7,x8=>if x8<(x1.length:Int) then ((some (([x5,x6,x7,x8]:List Int):List Int)).bind fun y310=>((spec_l5Trade.f k x0 x1 y310).bind fun t313=>(if t313=true then (some y310) else (spec_l5Find.l3 k x0 x1 x5 x6 x7 (wrap64 (x8+1)))))) else (spec_l5Find.l2 k x0 x1 x5 x6 (wrap64 (x7+1)))
end
def spec_l5Find.f (k:Nat) (a0:Int) (l1:List Int):Option (List Int):=spec_l5Find.l0 k a0 l1 0
theorem spec_l5Find.calls (k:Nat) (a0:Int) (A1:Option Addr) (c1:Nat) (l1:List Int) (r:List Int) (w:World) (hr1:Kd.C (Kd.int .i64) w A1 l1.length l1) (hc1:l1.length≤c1) (h:spec_l5Find.f k a0 l1=some r) :
 Calls Try.prog 62 #[.int .i64 a0,.slice A1 l1.length c1] w fun e w' => ∃ v0_:Value,e = .returned (v0_)∧Kd.R (Kd.int .i64) 3 w' w.heap.size (fun _=>True) v0_ r∧Below w.heap.size w w' := by
 have HR1:=Aside0.mk hr1;have HC1:=Aside0.mk hc1;clear hr1 hc1;have HB:=Aside0.mk (Below.refl w.heap.size w);have H:(spec_l5Find.l0 k a0 l1 0)=some r:=h;clear h;have H' := Aside0.mk H;clear H;go_enter Try.func62,Try.ntmps62;go_wp2;go_loopg [5] k (fun kq v5 w' => ∃ (x5_1:Int),v5 = .int .i64 x5_1∧Aside0 (spec_l5Find.l0 kq a0 l1 x5_1=some r)∧Aside0 (kq≤k)∧Aside0 (Below w.heap.size w w'))
 case atStart=>exact ⟨(0),rD,H',⟨Nat.le_refl _⟩,⟨bB HB⟩⟩
 case round =>
  clear H';try clear c1
  obtain ⟨x5_1,rfl,HA,HK1,HB⟩:=hrel;cases gk with
  | zero=>exact absurd HA.out (by simp[spec_l5Find.l0])
  | succ k1 =>
   have H:=HA.out;clear HA;simp only[spec_l5Find.l0] at H;by_cases c3:x5_1<(l1.length:Int)
   · replace H:=iP c3 H;have c3b0:=decide_eq_true c3;clear c3;have H' := Aside0.mk H;clear H;go_wp2;go_loopg [6] k1 (fun kq v6 w' => ∃ (x6_2:Int),v6 = .int .i64 x6_2∧Aside0 (spec_l5Find.l1 kq a0 l1 x5_1 x6_2=some r)∧Aside0 (kq≤k1)∧Aside0 (Below w.heap.size w w'))
     case atStart=>exact ⟨(x5_1),rD,H',⟨Nat.le_refl _⟩,⟨bB HB⟩⟩
     case round =>
      clear H';try clear c1
      try clear c3
      try clear c3b0
      obtain ⟨x6_2,rfl,HA,HK2,HB⟩:=hrel;cases gk with
      | zero=>exact absurd HA.out (by simp[spec_l5Find.l1])
      | succ k2 =>
       have H:=HA.out;clear HA;simp only[spec_l5Find.l1] at H;by_cases c4:x6_2<(l1.length:Int)
       · replace H:=iP c4 H;have c4b0:=decide_eq_true c4;clear c4;have H' := Aside0.mk H;clear H;go_wp2;go_loopg [7] k2 (fun kq v7 w' => ∃ (x7_3:Int),v7 = .int .i64 x7_3∧Aside0 (spec_l5Find.l2 kq a0 l1 x5_1 x6_2 x7_3=some r)∧Aside0 (kq≤k2)∧Aside0 (Below w.heap.size w w'))
         case atStart=>exact ⟨(0),rD,H',⟨Nat.le_refl _⟩,⟨bB HB⟩⟩
         case round =>
          clear H';try clear c1
          try clear c3
          try clear c3b0
          try clear c4
          try clear c4b0
          obtain ⟨x7_3,rfl,HA,HK3,HB⟩:=hrel;cases gk with
          | zero=>exact absurd HA.out (by simp[spec_l5Find.l2])
          | succ k3 =>
           have H:=HA.out;clear HA;simp only[spec_l5Find.l2] at H;have HC5:=Aside0.mk H;clear H;go_upto_region 8 with (fail)
           go_cut [40] (fun v40 wc=>∃ (kq:Nat) (x40_4:Bool),v40 = .bool x40_4∧Aside0 (spec_l5Find.j3 kq a0 l1 x5_1 x6_2 x7_3 x40_4=some r)∧Aside0 (kq≤k3)∧Aside0 (Below w.heap.size w wc))
           case first =>
            have H:=HC5.out;clear HC5;by_cases c6:x7_3<(l1.length:Int)
            · replace H:=iP c6 H;have c6b0:=decide_eq_true c6;clear c6;(first|rw[c6b0]|(simp only[i64_w,i32_w];rw[c6b0])|rw[c6b1]|skip);by_cases c7:0≤x5_1
              · replace H:=iP c7 H;have c7b0:=decide_eq_true c7;clear c7;by_cases c8:x5_1<(l1.length:Int)
                · replace H:=iP c8 H;have c8b0:=decide_eq_true c8;clear c8;by_cases c9:(rd l1 x5_1)=1
                  · replace H:=iP c9 H;have c9b0:=qT c9;have c9b1:=nF c9;clear c9;by_cases c10:0≤x6_2
                    · replace H:=iP c10 H;have c10b0:=decide_eq_true c10;clear c10;by_cases c11:x6_2<(l1.length:Int)
                      · replace H:=iP c11 H;have c11b0:=decide_eq_true c11;clear c11;have H' := Aside0.mk H;clear H;have p308:0≤(x5_1:Int):=of_decide_eq_true aS;have q308:x5_1<(l1.length:Int):=of_decide_eq_true aS;obtain ⟨ad308,e308,hx308_0⟩:=Kd.at_int HR1.out x5_1 p308 q308;cases e308
                        replace hx308_0:=hC HB hx308_0;replace p308:=eq_true p308;replace q308:=eq_true q308;have p309:0≤(x6_2:Int):=of_decide_eq_true aS;have q309:x6_2<(l1.length:Int):=of_decide_eq_true aS;obtain ⟨ad309,e309,hx309_0⟩:=Kd.at_int HR1.out x6_2 p309 q309;obtain rfl:ad308=ad309:=(by injection e309);replace hx309_0:=hC HB hx309_0;replace p309:=eq_true p309;replace q309:=eq_true q309;go_wp2;go_meet
                        case rel=>exact ⟨_,(((rd l1 x6_2)==1)),rD,H',⟨by have:=HK1.out;have:=HK2.out;have:=HK3.out;first|omega|exact Nat.le_refl _⟩,⟨bB HB⟩⟩
                      · replace H:=iN c11 H;cases H
                    · replace H:=iN c10 H;cases H
                  · replace H:=iN c9 H;have c9b0:=qF c9;have c9b1:=nT c9;have H' := Aside0.mk H;clear H;have p308:0≤(x5_1:Int):=of_decide_eq_true aS;have q308:x5_1<(l1.length:Int):=of_decide_eq_true aS;obtain ⟨ad308,e308,hx308_0⟩:=Kd.at_int HR1.out x5_1 p308 q308;cases e308
                    replace hx308_0:=hC HB hx308_0;replace p308:=eq_true p308;replace q308:=eq_true q308;go_wp2;go_meet
                    case rel=>exact ⟨_,(false),rD,H',⟨by have:=HK1.out;have:=HK2.out;have:=HK3.out;first|omega|exact Nat.le_refl _⟩,⟨bB HB⟩⟩
                · replace H:=iN c8 H;cases H
              · replace H:=iN c7 H;cases H
            · replace H:=iN c6 H;have c6b0:=decide_eq_false c6;clear c6;(first|rw[c6b0]|(simp only[i64_w,i32_w];rw[c6b0])|rw[c6b1]|skip);have H' := Aside0.mk H;clear H;go_wp2;go_meet
              case rel=>exact ⟨_,(false),rD,H',⟨by have:=HK1.out;have:=HK2.out;have:=HK3.out;first|omega|exact Nat.le_refl _⟩,⟨bB HB⟩⟩
           case rest =>
            clear HC5;try clear c1
            try clear c3
            try clear c3b0
            try clear c4
            try clear c4b0
            obtain ⟨kq,x40_4,rfl,HA,HJ4,HB⟩:=hcut;cases kq with
            | zero=>exact absurd HA.out (by simp[spec_l5Find.j3])
            | succ kj4 =>
             have H:=HA.out;clear HA;simp only[spec_l5Find.j3] at H;by_cases c12:x40_4=true
             · subst c12;replace H:=iT H;have H' := Aside0.mk H;clear H;go_wp2;go_loopg [8] kj4 (fun kq v8 w' => ∃ (x8_5:Int),v8 = .int .i64 x8_5∧Aside0 (spec_l5Find.l3 kq a0 l1 x5_1 x6_2 x7_3 x8_5=some r)∧Aside0 (kq≤kj4)∧Aside0 (Below w.heap.size w w'))
               case atStart=>exact ⟨(x7_3),rD,H',⟨Nat.le_refl _⟩,⟨bB HB⟩⟩
               case round =>
                clear H';try clear c1
                try clear c3
                try clear c3b0
                try clear c4
                try clear c4b0
                try clear c12
                obtain ⟨x8_5,rfl,HA,HK5,HB⟩:=hrel;cases gk with
                | zero=>exact absurd HA.out (by simp[spec_l5Find.l3])
                | succ k5 =>
                 have H:=HA.out;clear HA;simp only[spec_l5Find.l3] at H;by_cases c13:x8_5<(l1.length:Int)
                 · replace H:=iP c13 H;have c13b0:=decide_eq_true c13;clear c13;obtain ⟨y310,hy310⟩:∃ y_:List Int,y_=(([x5_1,x6_2,x7_3,x8_5]:List Int)):=⟨_,rfl⟩;replace H:((spec_l5Trade.f k5 a0 l1 y310).bind fun t313=>(if t313=true then (some y310) else (spec_l5Find.l3 k5 a0 l1 x5_1 x6_2 x7_3 (wrap64 (x8_5+1)))))=some r:=yH hy310 H
                   have Ny310:=Aside0.mk hy310;clear hy310;obtain ⟨t313,A14,H⟩:=bS H;by_cases c15:t313=true
                   · subst c15;replace H:=iT H;obtain rfl:=Option.some.inj H;go_wp2_with (first|(refine gD 54 ?_;refine Kd.R_lit (Kd.int .i64) _ 3 ?hg (N:=54) ?hd (xs:=([x5_1,x6_2,x7_3,x8_5]:List Int)) (inner:=[.int .i64 x5_1,.int .i64 x6_2,.int .i64 x7_3,.int .i64 x8_5]) (ok:=fun _=>True) (okp:=fun _=>True) ?hr ?hp (fun _ hk=>hk) trivial (Below.refl _ _) (Nat.le_refl _) (by simp) ?_;(case hd=>rfl);(case hg=>rfl);(case hr=>go_simp <;> rfl);(case hp=>exact (Reps.one (show Kd.M (Kd.int .i64) _ _ _ x5_1 [.int .i64 x5_1] from rfl) (Reps.one (show Kd.M (Kd.int .i64) _ _ _ x6_2 [.int .i64 x6_2] from rfl) (Reps.one (show Kd.M (Kd.int .i64) _ _ _ x7_3 [.int .i64 x7_3] from rfl) (Reps.one (show Kd.M (Kd.int .i64) _ _ _ x8_5 [.int .i64 x8_5] from rfl) (Reps.none _ _))))));intro v311 w16 ho17 hb hg_ hnew_;clear hg_ hnew_;(first|rw[← Ny310.out] at ho17|(simp only[Int.reduceToNat] at ho17;rw[← Ny310.out] at ho17));have HO312:=Aside0.mk (Kd.R_lower ho17 (below_size (bB HB)));replace HB:=Aside0.mk (below_step (bB HB) hb);clear hb ho17;obtain ⟨Ao18,co18,eo18⟩:=Kd.R_slice HO312.out;subst eo18)|(refine gL 58 Try.func127 #[.int .i64 a0,.slice A1 l1.length c1,.slice Ao18 y310.length co18] ?_;(with_reducible refine (spec_l5Trade.calls k5 a0 _ _ l1 _ _ y310 true _ ?side1 ?side2 ?side3 ?side4 A14.out).mono ?_);(case side1=>exact cB HR1 HB);(case side2=>exact HC1.out);(case side3=>exact cR HO312);(case side4=>exact (Kd.R_reads' HO312.out).2.1);rintro e w' ⟨rfl,⟨nd,rfl⟩⟩;refine ⟨_,rfl,?_⟩))
                     go_ret
                     exact ⟨_,eW,by refine xR ?_;exact HO312.out,bB HB⟩
                   · replace c15:=Bool.eq_false_iff.mpr c15;subst c15;replace H:=iF H;have H' := Aside0.mk H;clear H;go_wp2_with (first|(refine gD 54 ?_;refine Kd.R_lit (Kd.int .i64) _ 3 ?hg (N:=54) ?hd (xs:=([x5_1,x6_2,x7_3,x8_5]:List Int)) (inner:=[.int .i64 x5_1,.int .i64 x6_2,.int .i64 x7_3,.int .i64 x8_5]) (ok:=fun _=>True) (okp:=fun _=>True) ?hr ?hp (fun _ hk=>hk) trivial (Below.refl _ _) (Nat.le_refl _) (by simp) ?_;(case hd=>rfl);(case hg=>rfl);(case hr=>go_simp <;> rfl);(case hp=>exact (Reps.one (show Kd.M (Kd.int .i64) _ _ _ x5_1 [.int .i64 x5_1] from rfl) (Reps.one (show Kd.M (Kd.int .i64) _ _ _ x6_2 [.int .i64 x6_2] from rfl) (Reps.one (show Kd.M (Kd.int .i64) _ _ _ x7_3 [.int .i64 x7_3] from rfl) (Reps.one (show Kd.M (Kd.int .i64) _ _ _ x8_5 [.int .i64 x8_5] from rfl) (Reps.none _ _))))));intro v311 w19 ho20 hb hg_ hnew_;clear hg_ hnew_;(first|rw[← Ny310.out] at ho20|(simp only[Int.reduceToNat] at ho20;rw[← Ny310.out] at ho20));have HO312:=Aside0.mk (Kd.R_lower ho20 (below_size (bB HB)));replace HB:=Aside0.mk (below_step (bB HB) hb);clear hb ho20;obtain ⟨Ao21,co21,eo21⟩:=Kd.R_slice HO312.out;subst eo21)|(refine gL 58 Try.func127 #[.int .i64 a0,.slice A1 l1.length c1,.slice Ao21 y310.length co21] ?_;(with_reducible refine (spec_l5Trade.calls k5 a0 _ _ l1 _ _ y310 false _ ?side1 ?side2 ?side3 ?side4 A14.out).mono ?_);(case side1=>exact cB HR1 HB);(case side2=>exact HC1.out);(case side3=>exact cR HO312);(case side4=>exact (Kd.R_reads' HO312.out).2.1);rintro e w' ⟨rfl,⟨nd,rfl⟩⟩;refine ⟨_,rfl,?_⟩))
                     go_roundg k5
                     case measure=>have:=HK1.out;have:=HK2.out;have:=HK3.out;have:=HJ4.out;have:=HK5.out;omega
                     case rel=>exact ⟨(wrap64 (x8_5+1)),rD,H',⟨by have:=HK1.out;have:=HK2.out;have:=HK3.out;have:=HJ4.out;have:=HK5.out;omega⟩,⟨bB HB⟩⟩
                 · replace H:=iN c13 H;have c13b0:=decide_eq_false c13;clear c13;have H' := Aside0.mk H;clear H;go_wp2;go_roundg k5
                   case measure=>have:=HK1.out;have:=HK2.out;have:=HK3.out;have:=HJ4.out;have:=HK5.out;omega
                   case rel=>exact ⟨(wrap64 (x7_3+1)),rD,H',⟨by have:=HK1.out;have:=HK2.out;have:=HK3.out;have:=HJ4.out;have:=HK5.out;omega⟩,⟨bB HB⟩⟩
             · replace c12:=Bool.eq_false_iff.mpr c12;subst c12;replace H:=iF H;have H' := Aside0.mk H;clear H;go_wp2;go_roundg kj4
               case measure=>have:=HK1.out;have:=HK2.out;have:=HK3.out;have:=HJ4.out;omega
               case rel=>exact ⟨(wrap64 (x6_2+1)),rD,H',⟨by have:=HK1.out;have:=HK2.out;have:=HK3.out;have:=HJ4.out;omega⟩,⟨bB HB⟩⟩
       · replace H:=iN c4 H;have c4b0:=decide_eq_false c4;clear c4;have H' := Aside0.mk H;clear H;go_wp2;go_roundg k2
         case measure=>have:=HK1.out;have:=HK2.out;omega
         case rel=>exact ⟨(wrap64 (x5_1+1)),rD,H',⟨by have:=HK1.out;have:=HK2.out;omega⟩,⟨bB HB⟩⟩
   · replace H:=iN c3 H;have c3b0:=decide_eq_false c3;clear c3;obtain ⟨y305,hy305⟩:∃ y_:List Int,y_=(([]:List Int)):=⟨_,rfl⟩;replace H:(some y305)=some r:=yH hy305 H
     have Ny305:=Aside0.mk hy305;clear hy305;obtain rfl:=Option.some.inj H;go_wp2_with (first|(refine gD 60 ?_;refine Kd.R_lit (Kd.int .i64) _ 3 ?hg (N:=60) ?hd (xs:=([]:List Int)) (inner:=[]) (ok:=fun _=>True) (okp:=fun _=>True) ?hr ?hp (fun _ hk=>hk) trivial (Below.refl _ _) (Nat.le_refl _) (by simp) ?_;(case hd=>rfl);(case hg=>rfl);(case hr=>go_simp <;> rfl);(case hp=>exact (Reps.none _ _));intro v306 w22 ho23 hb hg_ hnew_;clear hg_ hnew_;(first|rw[← Ny305.out] at ho23|(simp only[Int.reduceToNat] at ho23;rw[← Ny305.out] at ho23));have HO307:=Aside0.mk (Kd.R_lower ho23 (below_size (bB HB)));replace HB:=Aside0.mk (below_step (bB HB) hb);clear hb ho23))
     go_ret
     exact ⟨_,eW,by refine xR ?_;exact HO307.out,bB HB⟩
mutual
def spec_l9Thresholds.l0:Nat→Int→List (List Int)→Int→Option ((List (List Int)))
 | 0,_,_,_=>none
 | k+1,x0,x3,x4=>if 0≤x0 then (if x4<(shl .i64 1 (shl .u64 1 x0)) then (spec_l9Thresholds.l1 k x0 x3 x4 (([]:List Int)) 0) else (some x3)) else (none)
def spec_l9Thresholds.l1:Nat→Int→List (List Int)→Int→List Int→Int→Option ((List (List Int)))
 | 0,_,_,_,_,_=>none
 | k+1,x0,x3,x4,x5,x6=>if 0≤x0 then (if x6<(shl .i64 1 x0) then (if 0≤(wrap64 ((wrap64 ((shl .i64 1 x0)-1))-x6)) then (if x5.length<17592186044416 then (spec_l9Thresholds.l1 k x0 x3 x4 (x5++[Go.bits .and .i64 (shr .i64 x4 (wrap64 ((wrap64 ((shl .i64 1 x0)-1))-x6))) 1]) (wrap64 (x6+1))) else (none)) else (none)) else ((spec_l5Find.f k x0 x5).bind fun t323=>(if (t323.length:Int)=0 then (if x3.length<5864062014805 then (spec_l9Thresholds.l0 k x0 (x3++[x5]) (wrap64 (x4+1))) else (none)) else (spec_l9Thresholds.l0 k x0 x3 (wrap64 (x4+1)))))) else (none)
end
def spec_l9Thresholds.f (k:Nat) (a0:Int):Option ((List (List Int))):=spec_l9Thresholds.l0 k a0 (([]:List (List Int))) 0
theorem spec_l9Thresholds.calls (k:Nat) (a0:Int) (r:List (List Int)) (w:World) (h:spec_l9Thresholds.f k a0=some r) :
 Calls Try.prog 124 #[.int .i64 a0] w fun e w' => ∃ v0_:Value,e = .returned (v0_)∧Kd.S (Kd.slice 3 (Kd.int .i64)) 24 w' w.heap.size (fun _=>True) v0_ r∧Below w.heap.size w w' := by
 have HB:=Aside0.mk (Below.refl w.heap.size w);have H:(spec_l9Thresholds.l0 k a0 (([]:List (List Int))) 0)=some r:=h;clear h;obtain ⟨y314,hy314⟩:∃ y_:List (List Int),y_=(([]:List (List Int))):=⟨_,rfl⟩;replace H:(spec_l9Thresholds.l0 k a0 y314 0)=some r:=yH hy314 H
 have Ny314:=Aside0.mk hy314;clear hy314;have H' := Aside0.mk H;clear H;go_enter Try.func124,Try.ntmps124;go_wp2_with (first|(refine gD 7 ?_;refine Kd.S_lit (Kd.slice 3 (Kd.int .i64)) _ 24 ?hg (N:=7) ?hd (xs:=([]:List (List Int))) (inner:=[]) (ok:=fun _=>True) (okp:=fun _=>True) ?hr ?hp (fun _ hk=>hk) trivial (Below.refl _ _) (Nat.le_refl _) (by simp) ?_;(case hd=>rfl);(case hg=>rfl);(case hr=>go_simp <;> rfl);(case hp=>exact (Reps.none _ _));intro v315 w2 ho3 hb hg_ hnew_;clear hg_ hnew_;(first|rw[← Ny314.out] at ho3|(simp only[Int.reduceToNat] at ho3;rw[← Ny314.out] at ho3));have HO316:=Aside0.mk (Kd.S_lower ho3 (below_size (bB HB)));replace HB:=Aside0.mk (below_step (bB HB) hb);clear hb ho3))
 go_loopg [3,4] k (fun kq v3 v4 w' => ∃ (x3_1:List (List Int)) (x4_1:Int),v4 = .int .i64 x4_1∧Aside0 (spec_l9Thresholds.l0 kq a0 x3_1 x4_1=some r)∧Aside0 (kq≤k)∧Aside0 (Kd.S (Kd.slice 3 (Kd.int .i64)) 24 w' w.heap.size (fun _=>True) v3 x3_1)∧Aside0 (Below w.heap.size w w'))
 case atStart=>exact ⟨(y314),(0),rD,H',⟨Nat.le_refl _⟩,⟨pS HO316⟩,⟨bB HB⟩⟩
 case round =>
  clear H';try clear c1
  obtain ⟨x3_1,x4_1,rfl,HA,HK1,HO_3,HB⟩:=hrel;cases gk with
  | zero=>exact absurd HA.out (by simp[spec_l9Thresholds.l0])
  | succ k1 =>
   have H:=HA.out;clear HA;simp only[spec_l9Thresholds.l0] at H;by_cases c4:0≤a0
   · replace H:=iP c4 H;have c4b0:=eq_true c4;have c4b1:=decide_eq_true c4;clear c4;obtain ⟨ji5,hji5⟩:∃ j_:Int,(shl .u64 1 a0)=j_:=⟨_,rfl⟩;replace H:(if x4_1<(shl .i64 1 (ji5)) then (spec_l9Thresholds.l1 k1 a0 x3_1 x4_1 (([]:List Int)) 0) else (some x3_1))=some r:=by first|(rw[hji5] at H;exact H)|(simp only[hji5] at H ⊢;exact H)
     have hji5_:(IntKind.u64.wrap (1*2 ^ min a0.toNat 64))=ji5:=hji5;have hji5n:(0≤ji5)=True:=eq_true (by rw[← hji5_];exact Int.emod_nonneg _ (by decide));have hji5z:a0≤64→(IntKind.u64.wrap (1*2 ^ a0.toNat))=ji5:=shl_small hji5;have hji5u:(IntKind.u64.wrap (2 ^ min a0.toNat 64))=ji5:=by have h_:=hji5_;rw[Int.one_mul] at h_;exact h_
     have hji5v:a0≤64→(IntKind.u64.wrap (2 ^ a0.toNat))=ji5:=fun hle_=>by have h_:=hji5z hle_;rw[Int.one_mul] at h_;exact h_
     obtain ⟨ji6,hji6⟩:∃ j_:Int,(shl .i64 1 (ji5))=j_:=⟨_,rfl⟩;replace H:(if x4_1<(ji6) then (spec_l9Thresholds.l1 k1 a0 x3_1 x4_1 (([]:List Int)) 0) else (some x3_1))=some r:=by first|(rw[hji6] at H;exact H)|(simp only[hji6] at H ⊢;exact H)
     have hji6_:(IntKind.i64.wrap (1*2 ^ min (ji5).toNat 64))=ji6:=hji6;have hji6z:(ji5)≤64→(IntKind.i64.wrap (1*2 ^ (ji5).toNat))=ji6:=shl_small hji6;have hji6u:(IntKind.i64.wrap (2 ^ min (ji5).toNat 64))=ji6:=by have h_:=hji6_;rw[Int.one_mul] at h_;exact h_
     have hji6v:(ji5)≤64→(IntKind.i64.wrap (2 ^ (ji5).toNat))=ji6:=fun hle_=>by have h_:=hji6z hle_;rw[Int.one_mul] at h_;exact h_
     have hji6y:(wrap64 (1*2 ^ min (ji5).toNat 64))=ji6:=(i64_w _).symm.trans hji6_;have hji6x:(ji5)≤64→(wrap64 (1*2 ^ (ji5).toNat))=ji6:=fun h_=>(i64_w _).symm.trans (hji6z h_)
     by_cases c7:x4_1<(ji6)
     · replace H:=iP c7 H;have c7b0:=decide_eq_true c7;clear c7;obtain ⟨y317,hy317⟩:∃ y_:List Int,y_=(([]:List Int)):=⟨_,rfl⟩;replace H:(spec_l9Thresholds.l1 k1 a0 x3_1 x4_1 y317 0)=some r:=yH hy317 H
       have Ny317:=Aside0.mk hy317;clear hy317;have H' := Aside0.mk H;clear H;go_wp2_with (first|(refine gD 15 ?_;refine Kd.R_lit (Kd.int .i64) _ 3 ?hg (N:=15) ?hd (xs:=([]:List Int)) (inner:=[]) (ok:=fun _=>True) (okp:=fun _=>True) ?hr ?hp (fun _ hk=>hk) trivial (Below.refl _ _) (Nat.le_refl _) (by simp) ?_;(case hd=>rfl);(case hg=>rfl);(case hr=>go_simp <;> rfl);(case hp=>exact (Reps.none _ _));intro v318 w8 ho9 hb hg_ hnew_;clear hg_ hnew_;(first|rw[← Ny317.out] at ho9|(simp only[Int.reduceToNat] at ho9;rw[← Ny317.out] at ho9));have HO319:=Aside0.mk (Kd.R_lower ho9 (below_size (bB HB)));replace HO_3:=Aside0.mk (Kd.S_elder' (pS HO_3) (Kd.R_base ho9) hb);replace HB:=Aside0.mk (below_step (bB HB) hb);clear hb ho9))
       go_loopg [5,6] k1 (fun kq v5 v6 w' => ∃ (x5_2:List Int) (x6_2:Int),v6 = .int .i64 x6_2∧Aside0 (spec_l9Thresholds.l1 kq a0 x3_1 x4_1 x5_2 x6_2=some r)∧Aside0 (kq≤k1)∧Aside0 (Kd.S (Kd.slice 3 (Kd.int .i64)) 24 w' w.heap.size (fun k_=>some k_≠(v5:Value).ownBlock) u3 x3_1)∧Aside0 (Kd.R (Kd.int .i64) 3 w' w.heap.size (fun _=>True) v5 x5_2)∧Aside0 (Below w.heap.size w w'))
       case atStart=>exact ⟨(y317),(0),rD,H',⟨Nat.le_refl _⟩,⟨by refine xS ?_;exact Kd.S_mono HO_3.out (fun _ hk=>hk.2)⟩,⟨pR HO319⟩,⟨bB HB⟩⟩
       case round =>
        clear H';try clear c1
        try clear c4
        try clear c4b0
        try clear c4b1
        try clear c7
        try clear c7b0
        obtain ⟨x5_2,x6_2,rfl,HA,HK2,HO_3,HO_5,HB⟩:=hrel;cases gk with
        | zero=>exact absurd HA.out (by simp[spec_l9Thresholds.l1])
        | succ k2 =>
         have H:=HA.out;clear HA;simp only[spec_l9Thresholds.l1] at H;by_cases c10:0≤a0
         · replace H:=iP c10 H;have c10b0:=eq_true c10;have c10b1:=decide_eq_true c10;clear c10;obtain ⟨ji11,hji11⟩:∃ j_:Int,(shl .i64 1 a0)=j_:=⟨_,rfl⟩;replace H:(if x6_2<(ji11) then (if 0≤(wrap64 ((wrap64 ((ji11)-1))-x6_2)) then (if x5_2.length<17592186044416 then (spec_l9Thresholds.l1 k2 a0 x3_1 x4_1 (x5_2++[Go.bits .and .i64 (shr .i64 x4_1 (wrap64 ((wrap64 ((ji11)-1))-x6_2))) 1]) (wrap64 (x6_2+1))) else (none)) else (none)) else ((spec_l5Find.f k2 a0 x5_2).bind fun t323=>(if (t323.length:Int)=0 then (if x3_1.length<5864062014805 then (spec_l9Thresholds.l0 k2 a0 (x3_1++[x5_2]) (wrap64 (x4_1+1))) else (none)) else (spec_l9Thresholds.l0 k2 a0 x3_1 (wrap64 (x4_1+1))))))=some r:=by first|(rw[hji11] at H;exact H)|(simp only[hji11] at H ⊢;exact H)
           have hji11_:(IntKind.i64.wrap (1*2 ^ min a0.toNat 64))=ji11:=hji11;have hji11z:a0≤64→(IntKind.i64.wrap (1*2 ^ a0.toNat))=ji11:=shl_small hji11;have hji11u:(IntKind.i64.wrap (2 ^ min a0.toNat 64))=ji11:=by have h_:=hji11_;rw[Int.one_mul] at h_;exact h_
           have hji11v:a0≤64→(IntKind.i64.wrap (2 ^ a0.toNat))=ji11:=fun hle_=>by have h_:=hji11z hle_;rw[Int.one_mul] at h_;exact h_
           have hji11y:(wrap64 (1*2 ^ min a0.toNat 64))=ji11:=(i64_w _).symm.trans hji11_;have hji11x:a0≤64→(wrap64 (1*2 ^ a0.toNat))=ji11:=fun h_=>(i64_w _).symm.trans (hji11z h_)
           by_cases c12:x6_2<(ji11)
           · replace H:=iP c12 H;have c12b0:=decide_eq_true c12;clear c12;have c13b0:=eq_true (of_decide_eq_true aS:0≤a0);obtain ⟨ji15,hji15⟩:∃ j_:Int,(wrap64 ((wrap64 ((ji11)-1))-x6_2))=j_:=⟨_,rfl⟩;replace H:(if 0≤(ji15) then (if x5_2.length<17592186044416 then (spec_l9Thresholds.l1 k2 a0 x3_1 x4_1 (x5_2++[Go.bits .and .i64 (shr .i64 x4_1 (ji15)) 1]) (wrap64 (x6_2+1))) else (none)) else (none))=some r:=by first|(rw[hji15] at H;exact H)|(simp only[hji15] at H ⊢;exact H)
             have hji15w:(IntKind.i64.wrap ((wrap64 ((ji11)-1))-x6_2))=ji15:=(i64_w _).trans hji15;by_cases c16:0≤(ji15)
             · replace H:=iP c16 H;have c16b0:=eq_true c16;have c16b1:=decide_eq_true c16;clear c16;obtain ⟨ji17,hji17⟩:∃ j_:Int,(shr .i64 x4_1 (ji15))=j_:=⟨_,rfl⟩;replace H:(if x5_2.length<17592186044416 then (spec_l9Thresholds.l1 k2 a0 x3_1 x4_1 (x5_2++[Go.bits .and .i64 (ji17) 1]) (wrap64 (x6_2+1))) else (none))=some r:=by first|(rw[hji17] at H;exact H)|(simp only[hji17] at H ⊢;exact H)
               have hji17_:(x4_1 / 2 ^ min (ji15).toNat 64)=ji17:=hji17;have hji17z:(ji15)≤64→(x4_1 / 2 ^ (ji15).toNat)=ji17:=shr_small hji17;by_cases c18:x5_2.length<17592186044416
               · replace H:=iP c18 H;have LMc18:=Aside0.mk c18;clear c18;obtain ⟨y320,hy320⟩:∃ y_:List Int,y_=(x5_2++[Go.bits .and .i64 (ji17) 1]):=⟨_,rfl⟩;replace H:(spec_l9Thresholds.l1 k2 a0 x3_1 x4_1 y320 (wrap64 (x6_2+1)))=some r:=yH hy320 H
                 have Ny320:=Aside0.mk hy320;clear hy320;have H' := Aside0.mk H;clear H;go_wp2_with (first|((with_reducible refine gate_builtin (b := .append) (xs:=#[.tmp 22,.tmp 31]) rfl ?_);at_builtin;refine Kd.R_append (Kd.int .i64) (w0:=w) w.heap.size rfl (.tmp 22) (.tmp 31) 24 3 (.int .i64 0) 8 rfl Try.underlying24 info3 rfl (by decide) (by omega) u5 x5_2 (Go.bits .and .i64 (ji17) 1) [.int .i64 (Go.bits .and .i64 (ji17) 1)] (fun _=>True) (fun _=>False) rfl rfl ?aP (fun _ hk=>hk.elim) ?aF ?aO ?aB ?aS ?aL ?_;(case aP=>exact rfl);(case aB=>exact (bB HB));(case aF=>exact (fun _ _=>trivial));(case aO=>exact (pR HO_5));(case aS=>exact (below_size (bB HB)));(case aL=>have:=LMc18.out;omega);intro v321 w19 ho hb hg hat;rw[← Ny320.out] at ho;have HO322:=Aside0.mk (ho);replace HO_3:=Aside0.mk (Kd.S_after (ok:=(fun _=>True)) (by refine xS ?_;exact Kd.S_mono HO_3.out (fun _ hk=>⟨trivial,hk⟩)) hg hat);replace HB:=Aside0.mk (hb);clear HO_5;clear ho hb hg hat))
                 go_roundg k2
                 case measure=>have:=HK1.out;have:=HK2.out;omega
                 case rel=>exact ⟨(y320),(wrap64 (x6_2+1)),rD,H',⟨by have:=HK1.out;have:=HK2.out;omega⟩,⟨by refine xS ?_;exact Kd.S_mono HO_3.out (fun _ hk=>hk.2)⟩,⟨pR HO322⟩,⟨bB HB⟩⟩
               · replace H:=iN c18 H;cases H
             · replace H:=iN c16 H;cases H
           · replace H:=iN c12 H;have c12b0:=decide_eq_false c12;clear c12;obtain ⟨t323,A20,H⟩:=bS H;by_cases c21:(t323.length:Int)=0
             · replace H:=iP c21 H;have c21b0:=qT c21;have c21b1:=nF c21;clear c21;by_cases c22:x3_1.length<5864062014805
               · replace H:=iP c22 H;have LMc22:=Aside0.mk c22;clear c22;obtain ⟨y326,hy326⟩:∃ y_:List (List Int),y_=(x3_1++[x5_2]):=⟨_,rfl⟩;replace H:(spec_l9Thresholds.l0 k2 a0 y326 (wrap64 (x4_1+1)))=some r:=yH hy326 H
                 have Ny326:=Aside0.mk hy326;clear hy326;have H' := Aside0.mk H;clear H;obtain ⟨Ao23,co23,eo23⟩:=Kd.R_slice HO_5.out;subst eo23;go_wp2_with (first|(refine gL 35 Try.func62 #[.int .i64 a0,.slice Ao23 x5_2.length co23] ?_;(with_reducible refine (spec_l5Find.calls k2 a0 _ _ x5_2 t323 _ ?side1 ?side2 A20.out).mono ?_);(case side1=>exact cR HO_5);(case side2=>exact (Kd.R_reads' HO_5.out).2.1);rintro e w24 ⟨v324,rfl,ho0,hb⟩;refine ⟨_,rfl,?_⟩;have HO325:=Aside0.mk (Kd.R_lower (Kd.R_new' ho0 (Kd.R_lt (pR HO_5))) (below_size (bB HB)));replace HO_3:=Aside0.mk (Kd.S_elder' (pS HO_3) (Kd.R_base ho0) hb);replace HO_5:=Aside0.mk (Kd.R_elder' (pR HO_5) (Kd.R_base ho0) hb);replace HB:=Aside0.mk (below_step (bB HB) hb);(try clear hb);(try clear ho0);obtain ⟨Ao25,co25,eo25⟩:=Kd.R_slice HO325.out;subst eo25)|((with_reducible refine gate_builtin (b := .append) (xs:=#[.tmp 38,.tmp 40]) rfl ?_);at_builtin;refine Kd.S_append (Kd.slice 3 (Kd.int .i64)) (w0:=w) w.heap.size rfl (.tmp 38) (.tmp 40) 27 24 (.slice none 0 0) 24 rfl Try.underlying27 info24 rfl (by decide) (by omega) u3 x3_1 x5_2 [.slice Ao23 x5_2.length co23] (fun k_=>some k_≠(.slice Ao25 t323.length co25:Value).ownBlock) (fun k_=>some k_=(.slice Ao23 x5_2.length co23:Value).ownBlock) rfl rfl ?aP (fun k_ hk_=>((Kd.R_mono (ok' := fun k_=>((fun k_=>some k_≠(.slice Ao25 t323.length co25:Value).ownBlock)) k_∧some k_≠(u3:Value).ownBlock) (Kd.R_apart' (HO_5.out) (Kd.S_typed HO_3.out) (by decide)) (fun k_ hk=>⟨hk.1.2,hk.2⟩))).1 k_ hk_.symm) ?aF ?aO ?aB ?aS ?aL ?_;(case aP=>exact Kd.M_row (Kd.R_mono (Kd.R_tight rfl (Kd.R_mono (ok' := fun k_=>((fun k_=>some k_≠(.slice Ao25 t323.length co25:Value).ownBlock)) k_∧some k_≠(u3:Value).ownBlock) (Kd.R_apart' (HO_5.out) (Kd.S_typed HO_3.out) (by decide)) (fun k_ hk=>⟨hk.1.2,hk.2⟩))) (fun _ h_=>h_)));(case aB=>exact (bB HB));(case aF=>exact (fun k_ hk=>Kd.fresh' (Kd.R_lt (pR HO325)) k_ hk));(case aO=>exact (by refine xS ?_;exact Kd.S_mono HO_3.out (fun k_ hk=>⟨hk.2,fun e_=>hk.1 e_⟩)));(case aS=>exact (below_size (bB HB)));(case aL=>have:=LMc22.out;omega);intro v327 w26 ho hb hg hat;rw[← Ny326.out] at ho;have HO328:=Aside0.mk (ho);replace HO325:=Aside0.mk (Kd.R_over' (pR HO325) (Kd.S_typed (pS HO_3)) (by decide) hg);replace HB:=Aside0.mk (hb);clear HO_3 HO_5;clear ho hb hg hat))
                 go_roundg k2
                 case measure=>have:=HK1.out;have:=HK2.out;omega
                 case rel=>exact ⟨(y326),(wrap64 (x4_1+1)),rD,H',⟨by have:=HK1.out;have:=HK2.out;omega⟩,⟨by refine xS ?_;exact Kd.S_mono HO328.out (fun _ hk=>trivial)⟩,⟨bB HB⟩⟩
               · replace H:=iN c22 H;cases H
             · replace H:=iN c21 H;have c21b0:=qF c21;have c21b1:=nT c21;have c21b2:¬ (t323=[]):=fun h_=>c21 (by rw[h_];rfl)
               have H' := Aside0.mk H;clear H;obtain ⟨Ao27,co27,eo27⟩:=Kd.R_slice HO_5.out;subst eo27;go_wp2_with (first|(refine gL 35 Try.func62 #[.int .i64 a0,.slice Ao27 x5_2.length co27] ?_;(with_reducible refine (spec_l5Find.calls k2 a0 _ _ x5_2 t323 _ ?side1 ?side2 A20.out).mono ?_);(case side1=>exact cR HO_5);(case side2=>exact (Kd.R_reads' HO_5.out).2.1);rintro e w28 ⟨v324,rfl,ho0,hb⟩;refine ⟨_,rfl,?_⟩;have HO325:=Aside0.mk (Kd.R_lower (Kd.R_new' ho0 (Kd.R_lt (pR HO_5))) (below_size (bB HB)));replace HO_3:=Aside0.mk (Kd.S_elder' (pS HO_3) (Kd.R_base ho0) hb);replace HO_5:=Aside0.mk (Kd.R_elder' (pR HO_5) (Kd.R_base ho0) hb);replace HB:=Aside0.mk (below_step (bB HB) hb);(try clear hb);(try clear ho0);obtain ⟨Ao29,co29,eo29⟩:=Kd.R_slice HO325.out;subst eo29))
               go_roundg k2
               case measure=>have:=HK1.out;have:=HK2.out;omega
               case rel=>exact ⟨(x3_1),(wrap64 (x4_1+1)),rD,H',⟨by have:=HK1.out;have:=HK2.out;omega⟩,⟨by refine xS ?_;exact Kd.S_mono HO_3.out (fun _ hk=>trivial)⟩,⟨bB HB⟩⟩
         · replace H:=iN c10 H;cases H
     · replace H:=iN c7 H;have c7b0:=decide_eq_false c7;clear c7;obtain rfl:=Option.some.inj H;go_wp2;go_ret
       exact ⟨_,by first|rfl|(simp[errW_none,errW_some] <;> rfl)|(simp only[← hji5,← hji6];first|rfl|(simp[errW_none,errW_some] <;> rfl))|(simp[*,errW_none,errW_some] <;> rfl),by refine xS ?_;exact HO_3.out,bB HB⟩
   · replace H:=iN c4 H;cases H
end Go.Proofs.Ytkbahcbankfffaa.PFnPairs
