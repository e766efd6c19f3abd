import Derived.Test.YtkbahcbankfffaaMp
import Derived.Test.YtkbahcbankfffaaSm
import Derived.Test.YtkbahcbankfffaaCl
import Derived.Test.YtkbahcbankfffaaPFnPairsx0
import Derived.Test.YtkbahcbankfffaaPFnPairsx4
import Derived.Test.YtkbahcbankfffaaSh
import Derived.Test.YtkbahcbankfffaaSz
namespace Go.Proofs.Ytkbahcbankfffaa.PFnPairs
open Go.RowKit Go.Proofs.Ytkbahcbankfffaa.Sh Go.Proofs.YtkbahcbankfffaaW.PrintWords Go.Proofs.YtkbahcbankfffaaW.PrintLast Go.Proofs.YtkbahcbankfffaaW.PrintMore
attribute [local go_sem] max2_int min2_int max_two min_two max_three min_three max_four min_four
set_option linter.unusedVariables false
set_option maxHeartbeats 8000000
set_option maxRecDepth 100000
set_option linter.unusedSimpArgs false
def impl_isTable.f (k:Nat) (a0:Int) (l1:List Int):Option (Bool):=(impl_within.f a0 0 4).bind fun t231=>(if t231=true then (if 0≤a0 then (if (l1.length:Int)=(shl .i64 1 a0) then ((impl_allWithin.f k l1 0 1).bind fun t232=>(some t232)) else (some false)) else (none)) else (some false))
theorem impl_isTable.calls (k:Nat) (a0:Int) (A1:Option Addr) (c1:Nat) (l1:List Int) (r:Bool) (w:World) (hr1:Kd.C (Kd.int .i64) w A1 l1.length l1) (hc1:l1.length≤c1) (h:impl_isTable.f k a0 l1=some r) :
 Calls Try.prog 56 #[.int .i64 a0,.slice A1 l1.length c1] w fun e w' => e = .returned (.bool r)∧Drawn0 w w' := by
 have HR1:=Aside0.mk hr1;have HC1:=Aside0.mk hc1;clear hr1 hc1;have H:((impl_within.f a0 0 4).bind fun t231=>(if t231=true then (if 0≤a0 then (if (l1.length:Int)=(shl .i64 1 a0) then ((impl_allWithin.f k l1 0 1).bind fun t232=>(some t232)) else (some false)) else (none)) else (some false)))=some r:=h;clear h;obtain ⟨t231,A3,H⟩:=bS H;by_cases c4:t231=true
 · subst c4;replace H:=iT H;by_cases c5:0≤a0
   · replace H:=iP c5 H;have c5b0:=eq_true c5;have c5b1:=decide_eq_true c5;clear c5;obtain ⟨ji6,hji6⟩:∃ j_:Int,(shl .i64 1 a0)=j_:=⟨_,rfl⟩;replace H:(if (l1.length:Int)=(ji6) then ((impl_allWithin.f k l1 0 1).bind fun t232=>(some t232)) else (some false))=some r:=by first|(rw[hji6] at H;exact H)|(simp only[hji6] at H ⊢;exact H)
     (try rw[hji6] at A3);have hji6_:(IntKind.i64.wrap (1*2 ^ min a0.toNat 64))=ji6:=hji6;have hji6z:a0≤64→(IntKind.i64.wrap (1*2 ^ a0.toNat))=ji6:=shl_small hji6;have hji6u:(IntKind.i64.wrap (2 ^ min a0.toNat 64))=ji6:=by have h_:=hji6_;rw[Int.one_mul] at h_;exact h_
     have hji6v:a0≤64→(IntKind.i64.wrap (2 ^ a0.toNat))=ji6:=fun hle_=>by have h_:=hji6z hle_;rw[Int.one_mul] at h_;exact h_
     have hji6y:(wrap64 (1*2 ^ min a0.toNat 64))=ji6:=(i64_w _).symm.trans hji6_;have hji6x:a0≤64→(wrap64 (1*2 ^ a0.toNat))=ji6:=fun h_=>(i64_w _).symm.trans (hji6z h_)
     by_cases c7:(l1.length:Int)=(ji6)
     · replace H:=iP c7 H;have c7b0:=qT c7;have c7b1:=nF c7;clear c7;obtain ⟨t232,A8,H⟩:=bS H;obtain rfl:=Option.some.inj H;go_enter Try.func56,Try.ntmps56;go_wp2_with (first|(refine gL 6 Try.func55 #[.int .i64 a0,.int .i64 0,.int .i64 4] ?_;(with_reducible refine (impl_within.calls a0 0 4 true _ A3.out).mono ?_);rintro e w' ⟨rfl,⟨nd,rfl⟩⟩;refine ⟨_,rfl,?_⟩)|(go_at_call 120;(with_reducible refine (impl_allWithin.calls k _ _ l1 0 1 t232 _ ?side1 ?side2 A8.out).mono ?_);(case side1=>exact cC HR1);(case side2=>exact HC1.out);rintro e w' ⟨rfl,⟨nd,rfl⟩⟩))
       go_ret
       exact ⟨by first|rfl|(simp;done)|(simp only[← hji6] <;> (first|rfl|simp))|(simp[*];done),dR⟩
     · replace H:=iN c7 H;have c7b0:=qF c7;have c7b1:=nT c7;obtain rfl:=Option.some.inj H;go_enter Try.func56,Try.ntmps56;go_wp2_with (first|(refine gL 6 Try.func55 #[.int .i64 a0,.int .i64 0,.int .i64 4] ?_;(with_reducible refine (impl_within.calls a0 0 4 true _ A3.out).mono ?_);rintro e w' ⟨rfl,⟨nd,rfl⟩⟩;refine ⟨_,rfl,?_⟩))
       go_ret
       exact ⟨by first|rfl|(simp;done)|(simp only[← hji6] <;> (first|rfl|simp))|(simp[*];done),dR⟩
   · replace H:=iN c5 H;cases H
 · replace c4:=Bool.eq_false_iff.mpr c4;subst c4;replace H:=iF H;obtain rfl:=Option.some.inj H;go_enter Try.func56,Try.ntmps56;go_wp2_with (first|(refine gL 6 Try.func55 #[.int .i64 a0,.int .i64 0,.int .i64 4] ?_;(with_reducible refine (impl_within.calls a0 0 4 false _ A3.out).mono ?_);rintro e w' ⟨rfl,⟨nd,rfl⟩⟩;refine ⟨_,rfl,?_⟩))
   go_ret
   exact ⟨rD,dR⟩
def impl_product.l0:Nat→List Int→Int→List Int→Int→Int→Option (Int)
 | 0,_,_,_,_,_=>none
 | k+1,x1,x5,x8,x9,x10=>if x10<x9 then (if 0≤x10 then (if x10<(x8.length:Int) then (if x10<(x1.length:Int) then (impl_product.l0 k x1 (wrap64 (x5+(wrap64 ((rd x8 x10)*(rd x1 x10))))) x8 x9 (wrap64 (x10+1))) else (none)) else (none)) else (none)) else (some x5)
def impl_product.f (k:Nat) (l0:List Int) (l1:List Int):Option (Int):=impl_product.l0 k l1 0 l0 (l0.length:Int) 0
theorem impl_product.calls (k:Nat) (A0:Option Addr) (c0:Nat) (l0:List Int) (A1:Option Addr) (c1:Nat) (l1:List Int) (r:Int) (w:World) (hr0:Kd.C (Kd.int .i64) w A0 l0.length l0) (hc0:l0.length≤c0) (hr1:Kd.C (Kd.int .i64) w A1 l1.length l1) (hc1:l1.length≤c1) (h:impl_product.f k l0 l1=some r) :
 Calls Try.prog 75 #[.slice A0 l0.length c0,.slice A1 l1.length c1] w fun e w' => e = .returned (.int .i64 r)∧Drawn0 w w' := by
 have HR0:=Aside0.mk hr0;have HC0:=Aside0.mk hc0;clear hr0 hc0;have HR1:=Aside0.mk hr1;have HC1:=Aside0.mk hc1;clear hr1 hc1;have H:(impl_product.l0 k l1 0 l0 (l0.length:Int) 0)=some r:=h;clear h;have H' := Aside0.mk H;clear H;go_enter Try.func75,Try.ntmps75;go_wp2;go_loopg [5,10] k (fun kq v5 v10 w' => ∃ (x5_1:Int) (x10_1:Int),v5 = .int .i64 x5_1∧v10 = .int .i64 x10_1∧Aside0 (impl_product.l0 kq l1 x5_1 l0 (l0.length:Int) x10_1=some r)∧Aside0 (kq≤k)∧Drawn0 w w')
 case atStart=>exact ⟨(0),(0),rD,rD,H',⟨Nat.le_refl _⟩,dR⟩
 case round =>
  clear H';try clear c1
  obtain ⟨x5_1,x10_1,rfl,rfl,HA,HK1,⟨m1,rfl⟩⟩:=hrel;cases gk with
  | zero=>exact absurd HA.out (by simp[impl_product.l0])
  | succ k1 =>
   have H:=HA.out;clear HA;simp only[impl_product.l0] at H;by_cases c3:x10_1<(l0.length:Int)
   · replace H:=iP c3 H;have c3b0:=decide_eq_true c3;clear c3;by_cases c4:0≤x10_1
     · replace H:=iP c4 H;have c4b0:=decide_eq_true c4;clear c4;by_cases c5:x10_1<(l0.length:Int)
       · replace H:=iP c5 H;have c5b0:=decide_eq_true c5;clear c5;by_cases c6:x10_1<(l1.length:Int)
         · replace H:=iP c6 H;have c6b0:=decide_eq_true c6;clear c6;have H' := Aside0.mk H;clear H;have p233:0≤(x10_1:Int):=of_decide_eq_true aS;have q233:x10_1<(l0.length:Int):=of_decide_eq_true aS;obtain ⟨ad233,e233,hx233_0⟩:=Kd.at_int HR0.out x10_1 p233 q233;cases e233
           replace p233:=eq_true p233;replace q233:=eq_true q233;have p234:0≤(x10_1:Int):=of_decide_eq_true aS;have q234:x10_1<(l1.length:Int):=of_decide_eq_true aS;obtain ⟨ad234,e234,hx234_0⟩:=Kd.at_int HR1.out x10_1 p234 q234;cases e234
           replace p234:=eq_true p234;replace q234:=eq_true q234;go_wp2;go_roundg k1
           case measure=>exact kM HK1
           case rel=>exact ⟨(wrap64 (x5_1+(wrap64 ((rd l0 x10_1)*(rd l1 x10_1))))),(wrap64 (x10_1+1)),rD,rD,H',⟨kM HK1⟩,dR⟩
         · replace H:=iN c6 H;cases H
       · replace H:=iN c5 H;cases H
     · replace H:=iN c4 H;cases H
   · replace H:=iN c3 H;have c3b0:=decide_eq_false c3;clear c3;obtain rfl:=Option.some.inj H;go_wp2;go_ret
     exact ⟨rD,dR⟩
def impl_bitPoint.l0:Nat→Int→List Int→Int→Int→Option (List Int)
 | 0,_,_,_,_=>none
 | k+1,x1,x5,x8,x9=>if x9<x8 then (if 0≤x9 then (if x5.length<17592186044416 then (impl_bitPoint.l0 k x1 (x5++[Go.bits .and .i64 (shr .i64 x1 x9) 1]) x8 (wrap64 (x9+1))) else (none)) else (none)) else (some x5)
def impl_bitPoint.f (k:Nat) (a0:Int) (a1:Int):Option (List Int):=impl_bitPoint.l0 k a1 (([]:List Int)) a0 0
theorem impl_bitPoint.calls (k:Nat) (a0:Int) (a1:Int) (r:List Int) (w:World) (h:impl_bitPoint.f k a0 a1=some r) :
 Calls Try.prog 133 #[.int .i64 a0,.int .i64 a1] w fun e w' => ∃ v0_:Value,e = .returned (v0_)∧Kd.R (Kd.int .i64) 3 w' w.heap.size (fun _=>True) v0_ r∧Below w.heap.size w w' := by
 have HB:=Aside0.mk (Below.refl w.heap.size w);have H:(impl_bitPoint.l0 k a1 (([]:List Int)) a0 0)=some r:=h;clear h;obtain ⟨y235,hy235⟩:∃ y_:List Int,y_=(([]:List Int)):=⟨_,rfl⟩;replace H:(impl_bitPoint.l0 k a1 y235 a0 0)=some r:=yH hy235 H
 have Ny235:=Aside0.mk hy235;clear hy235;have H' := Aside0.mk H;clear H;go_enter Try.func133,Try.ntmps133;go_wp2_with (first|(refine gD 7 ?_;refine Kd.R_lit (Kd.int .i64) _ 3 ?hg (N:=7) ?hd (xs:=([]:List Int)) (inner:=[]) (ok:=fun _=>True) (okp:=fun _=>True) ?hr ?hp (fun _ hk=>hk) trivial (Below.refl _ _) (Nat.le_refl _) (by simp) ?_;(case hd=>rfl);(case hg=>rfl);(case hr=>go_simp <;> rfl);(case hp=>exact (Reps.none _ _));intro v236 w3 ho4 hb hg_ hnew_;clear hg_ hnew_;(first|rw[← Ny235.out] at ho4|(simp only[Int.reduceToNat] at ho4;rw[← Ny235.out] at ho4));have HO237:=Aside0.mk (Kd.R_lower ho4 (below_size (bB HB)));replace HB:=Aside0.mk (below_step (bB HB) hb);clear hb ho4))
 go_loopg [5,9] k (fun kq v5 v9 w' => ∃ (x5_1:List Int) (x9_1:Int),v9 = .int .i64 x9_1∧Aside0 (impl_bitPoint.l0 kq a1 x5_1 a0 x9_1=some r)∧Aside0 (kq≤k)∧Aside0 (Kd.R (Kd.int .i64) 3 w' w.heap.size (fun _=>True) v5 x5_1)∧Aside0 (Below w.heap.size w w'))
 case atStart=>exact ⟨(y235),(0),rD,H',⟨Nat.le_refl _⟩,⟨pR HO237⟩,⟨bB HB⟩⟩
 case round =>
  clear H';try clear c1
  obtain ⟨x5_1,x9_1,rfl,HA,HK1,HO_5,HB⟩:=hrel;cases gk with
  | zero=>exact absurd HA.out (by simp[impl_bitPoint.l0])
  | succ k1 =>
   have H:=HA.out;clear HA;simp only[impl_bitPoint.l0] at H;by_cases c5:x9_1<a0
   · replace H:=iP c5 H;have c5b0:=decide_eq_true c5;clear c5;by_cases c6:0≤x9_1
     · replace H:=iP c6 H;have c6b0:=eq_true c6;have c6b1:=decide_eq_true c6;clear c6;obtain ⟨ji7,hji7⟩:∃ j_:Int,(shr .i64 a1 x9_1)=j_:=⟨_,rfl⟩;replace H:(if x5_1.length<17592186044416 then (impl_bitPoint.l0 k1 a1 (x5_1++[Go.bits .and .i64 (ji7) 1]) a0 (wrap64 (x9_1+1))) else (none))=some r:=by first|(rw[hji7] at H;exact H)|(simp only[hji7] at H ⊢;exact H)
       have hji7_:(a1 / 2 ^ min x9_1.toNat 64)=ji7:=hji7;have hji7z:x9_1≤64→(a1 / 2 ^ x9_1.toNat)=ji7:=shr_small hji7;by_cases c8:x5_1.length<17592186044416
       · replace H:=iP c8 H;have LMc8:=Aside0.mk c8;clear c8;obtain ⟨y238,hy238⟩:∃ y_:List Int,y_=(x5_1++[Go.bits .and .i64 (ji7) 1]):=⟨_,rfl⟩;replace H:(impl_bitPoint.l0 k1 a1 y238 a0 (wrap64 (x9_1+1)))=some r:=yH hy238 H
         have Ny238:=Aside0.mk hy238;clear hy238;have H' := Aside0.mk H;clear H;go_wp2_with (first|((with_reducible refine gate_builtin (b := .append) (xs:=#[.tmp 12,.tmp 17]) rfl ?_);at_builtin;refine Kd.R_append (Kd.int .i64) (w0:=w) w.heap.size rfl (.tmp 12) (.tmp 17) 24 3 (.int .i64 0) 8 rfl Try.underlying24 info3 rfl (by decide) (by omega) u5 x5_1 (Go.bits .and .i64 (ji7) 1) [.int .i64 (Go.bits .and .i64 (ji7) 1)] (fun _=>True) (fun _=>False) rfl rfl ?aP (fun _ hk=>hk.elim) ?aF ?aO ?aB ?aS ?aL ?_;(case aP=>exact rfl);(case aB=>exact (bB HB));(case aF=>exact (fun _ _=>trivial));(case aO=>exact (pR HO_5));(case aS=>exact (below_size (bB HB)));(case aL=>have:=LMc8.out;omega);intro v239 w9 ho hb hg hat;rw[← Ny238.out] at ho;have HO240:=Aside0.mk (ho);replace HB:=Aside0.mk (hb);clear HO_5;clear ho hb hg hat))
         go_roundg k1
         case measure=>exact kM HK1
         case rel=>exact ⟨(y238),(wrap64 (x9_1+1)),rD,H',⟨kM HK1⟩,⟨pR HO240⟩,⟨bB HB⟩⟩
       · replace H:=iN c8 H;cases H
     · replace H:=iN c6 H;cases H
   · replace H:=iN c5 H;have c5b0:=decide_eq_false c5;clear c5;obtain rfl:=Option.some.inj H;go_wp2;go_ret
     exact ⟨_,eW,by refine xR ?_;exact HO_5.out,bB HB⟩
def impl_productsOf.l0:Nat→Int→List Int→List Int→Int→Int→Option (List Int)
 | 0,_,_,_,_,_=>none
 | k+1,x0,x1,x5,x9,x10=>if x10<x9 then ((impl_bitPoint.f k x0 x10).bind fun t244=>((impl_product.f k x1 t244).bind fun t247=>(if x5.length<17592186044416 then (impl_productsOf.l0 k x0 x1 (x5++[t247]) x9 (wrap64 (x10+1))) else (none)))) else (some x5)
def impl_productsOf.f (k:Nat) (a0:Int) (l1:List Int):Option (List Int):=if 0≤a0 then (impl_productsOf.l0 k a0 l1 (([]:List Int)) (shl .i64 1 a0) 0) else (none)
theorem impl_productsOf.calls (k:Nat) (a0:Int) (A1:Option Addr) (c1:Nat) (l1:List Int) (r:List Int) (w:World) (hr1:Kd.C (Kd.int .i64) w A1 l1.length l1) (hc1:l1.length≤c1) (h:impl_productsOf.f k a0 l1=some r) :
 Calls Try.prog 152 #[.int .i64 a0,.slice A1 l1.length c1] w fun e w' => ∃ v0_:Value,e = .returned (v0_)∧Kd.R (Kd.int .i64) 3 w' w.heap.size (fun _=>True) v0_ r∧Below w.heap.size w w' := by
 have HR1:=Aside0.mk hr1;have HC1:=Aside0.mk hc1;clear hr1 hc1;have HB:=Aside0.mk (Below.refl w.heap.size w);have H:(if 0≤a0 then (impl_productsOf.l0 k a0 l1 (([]:List Int)) (shl .i64 1 a0) 0) else (none))=some r:=h;clear h;obtain ⟨y241,hy241⟩:∃ y_:List Int,y_=(([]:List Int)):=⟨_,rfl⟩;replace H:(if 0≤a0 then (impl_productsOf.l0 k a0 l1 y241 (shl .i64 1 a0) 0) else (none))=some r:=yH hy241 H
 have Ny241:=Aside0.mk hy241;clear hy241;by_cases c3:0≤a0
 · replace H:=iP c3 H;have c3b0:=eq_true c3;have c3b1:=decide_eq_true c3;clear c3;obtain ⟨ji4,hji4⟩:∃ j_:Int,(shl .i64 1 a0)=j_:=⟨_,rfl⟩;replace H:(impl_productsOf.l0 k a0 l1 y241 ji4 0)=some r:=by first|(rw[hji4] at H;exact H)|(simp only[hji4] at H ⊢;exact H)
   have hji4_:(IntKind.i64.wrap (1*2 ^ min a0.toNat 64))=ji4:=hji4;have hji4z:a0≤64→(IntKind.i64.wrap (1*2 ^ a0.toNat))=ji4:=shl_small hji4;have hji4u:(IntKind.i64.wrap (2 ^ min a0.toNat 64))=ji4:=by have h_:=hji4_;rw[Int.one_mul] at h_;exact h_
   have hji4v:a0≤64→(IntKind.i64.wrap (2 ^ a0.toNat))=ji4:=fun hle_=>by have h_:=hji4z hle_;rw[Int.one_mul] at h_;exact h_
   have hji4y:(wrap64 (1*2 ^ min a0.toNat 64))=ji4:=(i64_w _).symm.trans hji4_;have hji4x:a0≤64→(wrap64 (1*2 ^ a0.toNat))=ji4:=fun h_=>(i64_w _).symm.trans (hji4z h_)
   have H' := Aside0.mk H;clear H;go_enter Try.func152,Try.ntmps152;go_wp2_with (first|(refine gD 7 ?_;refine Kd.R_lit (Kd.int .i64) _ 3 ?hg (N:=7) ?hd (xs:=([]:List Int)) (inner:=[]) (ok:=fun _=>True) (okp:=fun _=>True) ?hr ?hp (fun _ hk=>hk) trivial (Below.refl _ _) (Nat.le_refl _) (by simp) ?_;(case hd=>rfl);(case hg=>rfl);(case hr=>go_simp <;> rfl);(case hp=>exact (Reps.none _ _));intro v242 w5 ho6 hb hg_ hnew_;clear hg_ hnew_;(first|rw[← Ny241.out] at ho6|(simp only[Int.reduceToNat] at ho6;rw[← Ny241.out] at ho6));have HO243:=Aside0.mk (Kd.R_lower ho6 (below_size (bB HB)));replace HB:=Aside0.mk (below_step (bB HB) hb);clear hb ho6))
   go_loopg [5,10] k (fun kq v5 v10 w' => ∃ (x5_1:List Int) (x10_1:Int),v10 = .int .i64 x10_1∧Aside0 (impl_productsOf.l0 kq a0 l1 x5_1 ji4 x10_1=some r)∧Aside0 (kq≤k)∧Aside0 (Kd.R (Kd.int .i64) 3 w' w.heap.size (fun _=>True) v5 x5_1)∧Aside0 (Below w.heap.size w w'))
   case atStart=>exact ⟨(y241),(0),rD,H',⟨Nat.le_refl _⟩,⟨pR HO243⟩,⟨bB HB⟩⟩
   case round =>
    clear H';try clear c1
    try clear c3
    try clear c3b0
    try clear c3b1
    obtain ⟨x5_1,x10_1,rfl,HA,HK1,HO_5,HB⟩:=hrel;cases gk with
    | zero=>exact absurd HA.out (by simp[impl_productsOf.l0])
    | succ k1 =>
     have H:=HA.out;clear HA;simp only[impl_productsOf.l0] at H;by_cases c7:x10_1<ji4
     · replace H:=iP c7 H;have c7b0:=decide_eq_true c7;clear c7;obtain ⟨t244,A8,H⟩:=bS H;obtain ⟨t247,A9,H⟩:=bS H;by_cases c10:x5_1.length<17592186044416
       · replace H:=iP c10 H;have LMc10:=Aside0.mk c10;clear c10;obtain ⟨y248,hy248⟩:∃ y_:List Int,y_=(x5_1++[t247]):=⟨_,rfl⟩;replace H:(impl_productsOf.l0 k1 a0 l1 y248 ji4 (wrap64 (x10_1+1)))=some r:=yH hy248 H
         have Ny248:=Aside0.mk hy248;clear hy248;have H' := Aside0.mk H;clear H;go_wp2_with (first|(refine gL 17 Try.func133 #[.int .i64 a0,.int .i64 x10_1] ?_;(with_reducible refine (impl_bitPoint.calls k1 a0 x10_1 t244 _ A8.out).mono ?_);rintro e w11 ⟨v245,rfl,ho0,hb⟩;refine ⟨_,rfl,?_⟩;have HO246:=Aside0.mk (Kd.R_lower (Kd.R_new' ho0 (Kd.R_lt (pR HO_5))) (below_size (bB HB)));replace HO_5:=Aside0.mk (Kd.R_elder' (pR HO_5) (Kd.R_base ho0) hb);replace HB:=Aside0.mk (below_step (bB HB) hb);(try clear hb);(try clear ho0);obtain ⟨Ao12,co12,eo12⟩:=Kd.R_slice HO246.out;subst eo12)|(refine gL 18 Try.func75 #[.slice A1 l1.length c1,.slice Ao12 t244.length co12] ?_;(with_reducible refine (impl_product.calls k1 _ _ l1 _ _ t244 t247 _ ?side1 ?side2 ?side3 ?side4 A9.out).mono ?_);(case side1=>exact cB HR1 HB);(case side2=>exact HC1.out);(case side3=>exact cR HO246);(case side4=>exact (Kd.R_reads' HO246.out).2.1);rintro e w' ⟨rfl,⟨nd,rfl⟩⟩;refine ⟨_,rfl,?_⟩)|((with_reducible refine gate_builtin (b := .append) (xs:=#[.tmp 13,.tmp 19]) rfl ?_);at_builtin;refine Kd.R_append (Kd.int .i64) (w0:=w) w.heap.size rfl (.tmp 13) (.tmp 19) 24 3 (.int .i64 0) 8 rfl Try.underlying24 info3 rfl (by decide) (by omega) u5 x5_1 t247 [.int .i64 t247] (fun k_=>some k_≠(.slice Ao12 t244.length co12:Value).ownBlock) (fun _=>False) rfl rfl ?aP (fun _ hk=>hk.elim) ?aF ?aO ?aB ?aS ?aL ?_;(case aP=>exact rfl);(case aB=>exact (bB HB));(case aF=>exact (fun k_ hk=>Kd.fresh' (Kd.R_lt (pR HO246)) k_ hk));(case aO=>exact (by refine xR ?_;exact Kd.R_mono HO_5.out (fun _ hk=>hk.2)));(case aS=>exact (below_size (bB HB)));(case aL=>have:=LMc10.out;omega);intro v249 w13 ho hb hg hat;rw[← Ny248.out] at ho;have HO250:=Aside0.mk (ho);replace HO246:=Aside0.mk (Kd.R_after (ok:=(fun _=>True)) (pR HO246) hg hat);replace HB:=Aside0.mk (hb);clear HO_5;clear ho hb hg hat))
         go_roundg k1
         case measure=>exact kM HK1
         case rel=>exact ⟨(y248),(wrap64 (x10_1+1)),rD,H',⟨kM HK1⟩,⟨by refine xR ?_;exact Kd.R_mono HO250.out (fun _ hk=>trivial)⟩,⟨bB HB⟩⟩
       · replace H:=iN c10 H;cases H
     · replace H:=iN c7 H;have c7b0:=decide_eq_false c7;clear c7;obtain rfl:=Option.some.inj H;go_wp2;go_ret
       exact ⟨_,by first|rfl|(simp[errW_none,errW_some] <;> rfl)|(simp only[← hji4];first|rfl|(simp[errW_none,errW_some] <;> rfl))|(simp[*,errW_none,errW_some] <;> rfl),by refine xR ?_;exact HO_5.out,bB HB⟩
 · replace H:=iN c3 H;cases H
mutual
def impl_thresholdTables.cl.l0:Nat→List Int→Int→List Int→List Int→Int→Int→Option (List Int)
 | 0,_,_,_,_,_,_=>none
 | k+1,x0,x1,x2,x13,x14,x15=>if x15<x14 then (if 0≤x15 then (if x15<(x13.length:Int) then ((impl_productsOf.f k x1 x0).bind fun t126=>(impl_thresholdTables.cl.l1 k x0 x1 x2 (rd x13 x15) 0 x13 x14 x15 t126 (t126.length:Int) 0)) else (none)) else (none)) else (some x2)
def impl_thresholdTables.cl.l1:Nat→List Int→Int→List Int→Int→Int→List Int→Int→Int→List Int→Int→Int→Option (List Int)
 | 0,_,_,_,_,_,_,_,_,_,_,_=>none
 | k+1,x0,x1,x2,x5,x6,x13,x14,x15,x21,x22,x23=>if x23<x22 then (if 0≤x23 then (if x23<(x21.length:Int) then (if (rd x21 x23)≥x5 then (impl_thresholdTables.cl.l1 k x0 x1 x2 x5 (Go.bits .or .i64 x6 (shl .i64 1 x23)) x13 x14 x15 x21 x22 (wrap64 (x23+1))) else (impl_thresholdTables.cl.l1 k x0 x1 x2 x5 x6 x13 x14 x15 x21 x22 (wrap64 (x23+1)))) else (none)) else (none)) else (if (Lit.int .i64 x6).wf=true∧x2.length<1000000 then (impl_thresholdTables.cl.l0 k x0 x1 (x2++[x6]) x13 x14 (wrap64 (x15+1))) else none)
end
def impl_thresholdTables.cl.f (k:Nat) (l0:List Int) (a1:Int) (a2:List Int):Option (List Int):=(impl_productsOf.f k a1 l0).bind fun t119=>(if t119.length<17592186044416 then ((some (t119++[99]:List Int)).bind fun y122=>(impl_thresholdTables.cl.l0 k l0 a1 a2 y122 (y122.length:Int) 0)) else (none))
def impl_thresholdTables.Inv (gN gM gm:Nat) (w:World) (n:Int) (s:List Int) (A:Option Addr) (w1:World):Prop :=
 (∀ ad:Addr,A=some ad→w.heap.size≤ad.block)∧w1.heap[gN]? = some (.cells #[.int .i64 n] 3 (0,0))∧w1.heap[gM]? = some (.cells #[.map (some gm)] 137 (0,0))∧Go.Proofs.Ytkbahcbankfffaa.Mp.MapB Try.prog 3 4 w1 gm s.length (fun q=>decide (q∈s))
theorem impl_thresholdTables.move {gN gM gm:Nat} {w:World} {n:Int} (hN:gN<w.heap.size) (hM:gM<w.heap.size) (hm:gm<w.heap.size):∀ s A w1 w2,impl_thresholdTables.Inv gN gM gm w n s A w1→w.heap.size≤w1.heap.size→(∀ q,q<w1.heap.size→(∀ ad:Addr,A=some ad→q≠ad.block)→w2.heap[q]? = w1.heap[q]?)→impl_thresholdTables.Inv gN gM gm w n s A w2:=by
 rintro s A w1 w2 ⟨h1,h2,h3,h4⟩ hsz hmv;have mv:∀ {g:Nat},g<w.heap.size→w2.heap[g]? = w1.heap[g]? := fun {g} hg=>hmv g (by omega) (fun ad he=>by have:=h1 ad he;omega)
 exact ⟨h1,(mv hN).trans h2,(mv hM).trans h3,h4.move (mv hm)⟩
theorem impl_thresholdTables.begin {gN gM gm:Nat} {w:World} {n:Int} (hN:w.heap[gN]? = some (.cells #[.int .i64 n] 3 (0,0))) (hM:w.heap[gM]? = some (.cells #[.map (some gm)] 137 (0,0))) (hm:Go.Proofs.Ytkbahcbankfffaa.Mp.MapB Try.prog 3 4 w gm 0 (fun _=>false)) :
 ∀ A w1,(∀ ad:Addr,A=some ad→w.heap.size≤ad.block)→w.heap.size≤w1.heap.size→(∀ q,q<w.heap.size→w1.heap[q]? = w.heap[q]?)→impl_thresholdTables.Inv gN gM gm w n [] A w1 :=
 fun A w1 h1 hsz hmv=>⟨h1,(hmv _ (blk_lt hN)).trans hN,(hmv _ (blk_lt hM)).trans hM,by simpa using hm.move (hmv gm hm.lt)⟩
theorem impl_thresholdTables.vis (k:Nat) (a1:Int) (gN gM gm:Nat) (w00 wB:World) (hge:w00.heap.size≤gm) (hgm:gm<wB.heap.size) (hwB:wB.heap.size≤wB.heap.size) (nN:gN≠gm) (nM:gM≠gm) (l0:List Int) (s s' : List Int) (A0:Option Addr) (c0:Nat) (w:World) (hI:impl_thresholdTables.Inv gN gM gm wB a1 s A0 w) (hsz:wB.heap.size≤w.heap.size) (hf:impl_thresholdTables.cl.f k l0 a1 s=some s') (hb00:Below w00.heap.size w00 w) (hx:∀ W',Kept w W' (fun q=>q=gm)→Kd.C (Kd.int .i64) W' A0 l0.length l0) (hc0:l0.length≤c0) :
 Calls Try.prog 165 (#[.slice A0 l0.length c0]++#[.pointer (some ⟨gN,0,none⟩),.pointer (some ⟨gM,0,none⟩)]) w fun e w' => e = .returned (.tuple #[])∧impl_thresholdTables.Inv gN gM gm wB a1 s' A0 w' ∧ Below w00.heap.size w00 w' ∧ Kept w w' (fun q=>q=gm):=by
 obtain ⟨hI1,hIN,hIM,hMM⟩:=hI;have HI1:=Aside0.mk hI1;have QN:=Aside0.mk hIN;have QM:=Aside0.mk hIM;have HM0:=Aside0.mk hMM;have NN:=Aside0.mk nN;have NM:=Aside0.mk nM;have HGE:=Aside0.mk hge;have HGL:=Aside0.mk (Nat.lt_of_lt_of_le hgm hsz);have HB00:=Aside0.mk hb00;have HX:=Aside0.mk hx;have HC0:=Aside0.mk hc0;have HF:=Aside0.mk hf;have hczN:w.cell? ⟨gN,0,none⟩=some (.int .i64 a1):=(blk_cell hIN 0).trans rfl;clear hI1 hIN hIM hMM nN nM hge hgm hwB hsz hb00 hx hc0 hf;refine calls_of_args (args' := #[.slice A0 l0.length c0,.pointer (some ⟨gN,0,none⟩),.pointer (some ⟨gM,0,none⟩)]) (by rfl) ?_;have HB:=Aside0.mk (Below.refl w.heap.size w);have H:((impl_productsOf.f k a1 l0).bind fun t119=>(if t119.length<17592186044416 then ((some (t119++[99]:List Int)).bind fun y122=>(impl_thresholdTables.cl.l0 k l0 a1 s y122 (y122.length:Int) 0)) else (none)))=some s' := HF.out;clear HF;replace H:=Option.bind_eq_some_iff.mp H;obtain ⟨t119,A40,H⟩:=H;replace H:(if t119.length<17592186044416 then ((some (t119++[99]:List Int)).bind fun y122=>(impl_thresholdTables.cl.l0 k l0 a1 s y122 (y122.length:Int) 0)) else (none))=some s' := H;have A4:=Aside0.mk A40;clear A40;by_cases c5:t119.length<17592186044416
 · replace H:=iP c5 H;have LMc5:=Aside0.mk c5;clear c5;obtain ⟨y122,hy122⟩:∃ y_:List Int,y_=(t119++[99]):=⟨_,rfl⟩;replace H:(impl_thresholdTables.cl.l0 k l0 a1 s y122 (y122.length:Int) 0)=some s' := yH hy122 H
   have Ny122:=Aside0.mk hy122;clear hy122;have H' := Aside0.mk H;clear H;go_enter Try.func165,Try.ntmps165;go_wp2_with (first|(refine gL 11 Try.func152 #[.int .i64 a1,.slice A0 l0.length c0] ?_;(with_reducible refine (impl_productsOf.calls k a1 _ _ l0 t119 _ ?side1 ?side2 A4.out).mono ?_);(case side1=>exact HX.out w (Kept.refl _ _));(case side2=>exact HC0.out);rintro e w6 ⟨v120,rfl,ho0,hb⟩;refine ⟨_,rfl,?_⟩;have HO121:=Aside0.mk (Kd.R_lower ho0 (below_size (bB HB)));replace HB:=Aside0.mk (below_step (bB HB) hb);(try clear hb);(try clear ho0))|((with_reducible refine gate_builtin (b := .append) (xs:=#[.tmp 11,.tmp 12]) rfl ?_);at_builtin;refine Kd.R_append (Kd.int .i64) (w0:=w) w.heap.size rfl (.tmp 11) (.tmp 12) 24 3 (.int .i64 0) 8 rfl Try.underlying24 info3 rfl (by decide) (by omega) v120 t119 99 [.int .i64 99] (fun _=>True) (fun _=>False) rfl rfl ?aP (fun _ hk=>hk.elim) ?aF ?aO ?aB ?aS ?aL ?_;(case aP=>exact rfl);(case aB=>exact (bB HB));(case aF=>exact (fun _ _=>trivial));(case aO=>exact (pR HO121));(case aS=>exact (below_size (bB HB)));(case aL=>have:=LMc5.out;omega);intro v123 w7 ho hb hg hat;rw[← Ny122.out] at ho;have HO124:=Aside0.mk (ho);replace HB:=Aside0.mk (hb);clear HO121;clear ho hb hg hat;obtain ⟨Ao8,co8,eo8⟩:=Kd.R_slice HO124.out;subst eo8))
   go_loopg [15] k (fun kq v15 w' => ∃ (x2_1:List Int) (x15_1:Int),v15 = .int .i64 x15_1∧Aside0 (impl_thresholdTables.cl.l0 kq l0 a1 x2_1 y122 (y122.length:Int) x15_1=some s')∧Aside0 (kq≤k)∧Aside0 (Kd.R (Kd.int .i64) 3 w' w.heap.size (fun _=>True) (.slice Ao8 y122.length co8) y122)∧Aside0 (Go.Proofs.Ytkbahcbankfffaa.Cl.Bk w00 w (fun q=>q=gm) w')∧Aside0 (Go.Proofs.Ytkbahcbankfffaa.Mp.MapB Try.prog 3 4 w' gm x2_1.length (fun q=>decide (q∈x2_1))))
   case atStart=>exact ⟨s,(0),rD,H',⟨Nat.le_refl _⟩,⟨pR HO124⟩,⟨Go.Proofs.Ytkbahcbankfffaa.Cl.Bk.start HB00.out HB.out⟩,⟨HM0.out.move (HB.out.block gm HGL.out)⟩⟩
   case round =>
    clear H';try clear c1
    try clear c5
    clear HB;try clear hczN
    obtain ⟨x2_1,x15_1,rfl,HA,HK1,HO_13,HB,HM⟩:=hrel;have hczN:wr.cell? ⟨gN,0,none⟩=some (.int .i64 a1):=(blk_cell (blk_kept QN.out HB.out.2 NN.out) 0).trans rfl;cases gk with
    | zero=>exact absurd HA.out (by simp[impl_thresholdTables.cl.l0])
    | succ k1 =>
     have H:=HA.out;clear HA;simp only[impl_thresholdTables.cl.l0] at H;by_cases c9:x15_1<(y122.length:Int)
     · replace H:=iP c9 H;have c9b0:=decide_eq_true c9;clear c9;by_cases c10:0≤x15_1
       · replace H:=iP c10 H;have c10b0:=decide_eq_true c10;clear c10;by_cases c11:x15_1<(y122.length:Int)
         · replace H:=iP c11 H;have c11b0:=decide_eq_true c11;clear c11;replace H:=Option.bind_eq_some_iff.mp H;obtain ⟨t126,A120,H⟩:=H;replace H:(impl_thresholdTables.cl.l1 k1 l0 a1 x2_1 (rd y122 x15_1) 0 y122 (y122.length:Int) x15_1 t126 (t126.length:Int) 0)=some s' := H;have A12:=Aside0.mk A120;clear A120;have H' := Aside0.mk H;clear H;have p125:0≤(x15_1:Int):=of_decide_eq_true aS;have q125:x15_1<(y122.length:Int):=of_decide_eq_true aS;obtain ⟨ad125,e125,hx125_0⟩:=Kd.at_int (Kd.R_reads' HO_13.out).2.2 x15_1 p125 q125;cases e125
           replace p125:=eq_true p125;replace q125:=eq_true q125;go_wp2_with (first|(refine gL 21 Try.func152 #[.int .i64 a1,.slice A0 l0.length c0] ?_;(with_reducible refine (impl_productsOf.calls k1 a1 _ _ l0 t126 _ ?side1 ?side2 A12.out).mono ?_);(case side1=>exact HX.out _ HB.out.2);(case side2=>exact HC0.out);rintro e w13 ⟨v127,rfl,ho0,hb⟩;refine ⟨_,rfl,?_⟩;have n0_:=Aside0.mk (Kd.R_elder' (pR HO_13) (Kd.R_base ho0) hb);have n1_:=Aside0.mk (Kd.R_lower (Kd.R_new' ho0 (Kd.R_lt (pR HO_13))) HB.out.2.1);have n2_:=Aside0.mk (Go.Proofs.Ytkbahcbankfffaa.Cl.Bk.step HB.out hb);have n3_:=Aside0.mk (HM.out.move (hb.block gm HM.out.lt));clear HO_13;clear HB;clear HM;have HO_13:=n0_;have HO128:=n1_;have HB:=n2_;have HM:=n3_;clear n0_ n1_ n2_ n3_;(try clear hb);(try clear ho0);obtain ⟨Ao14,co14,eo14⟩:=Kd.R_slice HO128.out;subst eo14))
           go_loopg [6,23] k1 (fun kq v6 v23 w' => ∃ (x6_2:Int) (x23_2:Int),v6 = .int .i64 x6_2∧v23 = .int .i64 x23_2∧Aside0 (impl_thresholdTables.cl.l1 kq l0 a1 x2_1 (rd y122 x15_1) x6_2 y122 (y122.length:Int) x15_1 t126 (t126.length:Int) x23_2=some s')∧Aside0 (kq≤k1)∧Aside0 (Kd.R (Kd.int .i64) 3 w' w.heap.size (fun k_=>some k_≠((.slice Ao14 t126.length co14):Value).ownBlock) (.slice (some ad125) y122.length co8) y122)∧Aside0 (Kd.R (Kd.int .i64) 3 w' w.heap.size (fun k_=>some k_≠((.slice (some ad125) y122.length co8):Value).ownBlock) (.slice Ao14 t126.length co14) t126)∧Aside0 (Go.Proofs.Ytkbahcbankfffaa.Cl.Bk w00 w (fun q=>q=gm) w')∧Aside0 (Go.Proofs.Ytkbahcbankfffaa.Mp.MapB Try.prog 3 4 w' gm x2_1.length (fun q=>decide (q∈x2_1))))
           case atStart=>exact ⟨(0),(0),rD,rD,H',⟨Nat.le_refl _⟩,⟨by refine xR ?_;exact Kd.R_mono HO_13.out (fun _ hk=>hk.2)⟩,⟨by refine xR ?_;exact Kd.R_mono HO128.out (fun _ hk=>hk.2)⟩,HB,HM⟩
           case round =>
            clear H';try clear c1
            try clear c5
            try clear c9
            try clear c9b0
            try clear c10
            try clear c10b0
            try clear c11
            try clear c11b0
            try clear hx125_0
            try clear p125
            try clear q125
            clear HB HM;try clear hczN
            obtain ⟨x6_2,x23_2,rfl,rfl,HA,HK2,HO_13,HO_21,HB,HM⟩:=hrel;cases gk with
            | zero=>exact absurd HA.out (by simp[impl_thresholdTables.cl.l1])
            | succ k2 =>
             have H:=HA.out;clear HA;simp only[impl_thresholdTables.cl.l1] at H;by_cases c15:x23_2<(t126.length:Int)
             · replace H:=iP c15 H;have c15b0:=decide_eq_true c15;clear c15;by_cases c16:0≤x23_2
               · replace H:=iP c16 H;have c16b0:=decide_eq_true c16;clear c16;by_cases c17:x23_2<(t126.length:Int)
                 · replace H:=iP c17 H;have c17b0:=decide_eq_true c17;clear c17;by_cases c18:(rd t126 x23_2)≥(rd y122 x15_1)
                   · replace H:=iP c18 H;have c18b0:=decide_eq_true c18;clear c18;have c19b0:=eq_true (of_decide_eq_true aS:0≤x23_2);obtain ⟨ji20,hji20⟩:∃ j_:Int,(shl .i64 1 x23_2)=j_:=⟨_,rfl⟩;replace H:(impl_thresholdTables.cl.l1 k2 l0 a1 x2_1 (rd y122 x15_1) (Go.bits .or .i64 x6_2 (ji20)) y122 (y122.length:Int) x15_1 t126 (t126.length:Int) (wrap64 (x23_2+1)))=some s' := by first|(rw[hji20] at H;exact H)|(simp only[hji20] at H ⊢;exact H)
                     have hji20_:(IntKind.i64.wrap (1*2 ^ min x23_2.toNat 64))=ji20:=hji20;have hji20z:x23_2≤64→(IntKind.i64.wrap (1*2 ^ x23_2.toNat))=ji20:=shl_small hji20;have hji20u:(IntKind.i64.wrap (2 ^ min x23_2.toNat 64))=ji20:=by have h_:=hji20_;rw[Int.one_mul] at h_;exact h_
                     have hji20v:x23_2≤64→(IntKind.i64.wrap (2 ^ x23_2.toNat))=ji20:=fun hle_=>by have h_:=hji20z hle_;rw[Int.one_mul] at h_;exact h_
                     have hji20y:(wrap64 (1*2 ^ min x23_2.toNat 64))=ji20:=(i64_w _).symm.trans hji20_;have hji20x:x23_2≤64→(wrap64 (1*2 ^ x23_2.toNat))=ji20:=fun h_=>(i64_w _).symm.trans (hji20z h_)
                     have H' := Aside0.mk H;clear H;have p129:0≤(x23_2:Int):=of_decide_eq_true aS;have q129:x23_2<(t126.length:Int):=of_decide_eq_true aS;obtain ⟨ad129,e129,hx129_0⟩:=Kd.at_int (Kd.R_reads' HO_21.out).2.2 x23_2 p129 q129;cases e129
                     replace p129:=eq_true p129;replace q129:=eq_true q129;go_wp2;go_roundg k2
                     case measure=>have:=HK1.out;have:=HK2.out;omega
                     case rel=>exact ⟨(Go.bits .or .i64 x6_2 (ji20)),(wrap64 (x23_2+1)),(by first|rfl|(simp;done)|(simp only[← hji20] <;> (first|rfl|simp))|(simp[*];done)),rD,H',⟨by have:=HK1.out;have:=HK2.out;omega⟩,⟨pR HO_13⟩,⟨pR HO_21⟩,HB,HM⟩
                   · replace H:=iN c18 H;have c18b0:=decide_eq_false c18;clear c18;have H' := Aside0.mk H;clear H;have p129:0≤(x23_2:Int):=of_decide_eq_true aS;have q129:x23_2<(t126.length:Int):=of_decide_eq_true aS;obtain ⟨ad129,e129,hx129_0⟩:=Kd.at_int (Kd.R_reads' HO_21.out).2.2 x23_2 p129 q129;cases e129
                     replace p129:=eq_true p129;replace q129:=eq_true q129;go_wp2;go_roundg k2
                     case measure=>have:=HK1.out;have:=HK2.out;omega
                     case rel=>exact ⟨(x6_2),(wrap64 (x23_2+1)),rD,rD,H',⟨by have:=HK1.out;have:=HK2.out;omega⟩,⟨pR HO_13⟩,⟨pR HO_21⟩,HB,HM⟩
                 · replace H:=iN c17 H;cases H
               · replace H:=iN c16 H;cases H
             · replace H:=iN c15 H;have c15b0:=decide_eq_false c15;clear c15;by_cases cw:(Lit.int .i64 x6_2).wf=true∧x2_1.length<1000000
               · rw[if_pos cw] at H;have H' := Aside0.mk H;clear H;have hczM:wr.cell? ⟨gM,0,none⟩=some (.map (some gm)):=(blk_cell (blk_kept QM.out HB.out.2 NM.out) 0).trans rfl;obtain ⟨w30,hrun,hm30,hg30⟩:=HM.out.update (t:=137) Try.underlying3 Try.underlying4 Try.underlying137 (by have:=cw.2;simp only[maxLen];omega) x6_2 cw.1;have n0_:=Aside0.mk (Kd.R_mono (Kd.R_grown (Kd.R_bound HO_13.out) hg30 (fun q hq he=>by injection he with he;have:=hq.2.1;have:=HGL.out;omega)) (ok' := fun _=>True) (fun _ _=>trivial));have n1_:=Aside0.mk (Go.Proofs.Ytkbahcbankfffaa.Cl.Bk.grown HB.out hg30 rfl HGE.out);have n2_:Aside0 (Go.Proofs.Ytkbahcbankfffaa.Mp.MapB Try.prog 3 4 w30 gm (x2_1++[x6_2]).length (fun q=>decide (q∈x2_1++[x6_2]))):=Aside0.mk (by
                  have e_:(fun q=>decide (q∈x2_1++[x6_2]))=(fun q=>if q=x6_2 then true else decide (q∈x2_1)):=by
                   funext q
                   by_cases e:q=x6_2 <;> simp[e]
                  rw[e_,List.length_append,List.length_singleton];exact hm30)
                 clear hm30 hg30 HO_13 HB HM;go_wp2;go_roundg k2
                 case measure=>have:=HK1.out;have:=HK2.out;omega
                 case rel=>exact ⟨(x2_1++[x6_2]),(wrap64 (x15_1+1)),rD,H',⟨by have:=HK1.out;have:=HK2.out;omega⟩,n0_,n1_,n2_⟩
               · rw[if_neg cw] at H;cases H
         · replace H:=iN c11 H;cases H
       · replace H:=iN c10 H;cases H
     · replace H:=iN c9 H;have c9b0:=decide_eq_false c9;clear c9;obtain rfl:=Option.some.inj H;go_wp2;first|go_end0|((try simp only[Exit.inBlock,Exit.then]);refine bodyPost_ret (results_none rfl _ _ _) rfl ?_)
       exact ⟨rfl,⟨HI1.out,blk_kept QN.out HB.out.2 NN.out,blk_kept QM.out HB.out.2 NM.out,HM.out⟩,HB.out.1,HB.out.2⟩
 · replace H:=iN c5 H;cases H
theorem impl_thresholdTables.tabs (k:Nat) (a0 a1:Int) (ks:List Int) (w:World) (h:Go.Proofs.Ytkbahcbankfffaa.Sm.impl_smallWeights.f (fun x s=>impl_thresholdTables.cl.f k x a0 s) k a0 a1 []=some ks) :
 Calls Try.prog 148 #[.int .i64 a0,.int .i64 a1] w fun e w' => ∃ gm,e = .returned (.map (some gm))∧w.heap.size≤gm∧Go.Proofs.Ytkbahcbankfffaa.Mp.MapB Try.prog 3 4 w' gm ks.length (fun q=>decide (q∈ks))∧Below w.heap.size w w' := by
 have hmf:∀ (fn:Fn) (first cap:Array Value) (w:World),(Instr.makeFunc fn first cap).run Try.prog w = .ok (.func fn first cap) w:=fun _ _ _ _=>rfl
 have hmm:=@run_makeMap Try.prog;have hsm:=Go.Proofs.Ytkbahcbankfffaa.Mp.store_map Try.prog;have HKS:=Aside0.mk h;have HB:=Aside0.mk (Below.refl w.heap.size w);clear h;go_enter Try.func148,Try.ntmps148;go_wp2_with (first|(refine gD 2 ?_;refine box_event ?hg (N:=2) ?hd (cs:=#[.int .i64 a0]) (t:=3) ?hr ?_;(case hd=>rfl);(case hg=>rfl);(case hr=>go_simp <;> rfl);intro gN hg w2 hbox hb;have BN:=Aside0.mk (hbox);replace HB:=Aside0.mk (below_step HB.out hb);clear hb hbox hg)|(refine gD 6 ?_;refine Go.Proofs.Ytkbahcbankfffaa.Mp.map_event 3 4 ?hg ?hr ?_;(case hg=>rfl);(case hr=>go_simp <;> rfl);intro gm hg w3 hmm hb;have HM:=Aside0.mk (hmm);have GEM:=Aside0.mk ((by rw[hg];exact HB.out.size:w.heap.size≤gm));have NN:=Aside0.mk ((by rw[hg];exact Nat.ne_of_lt (blk_lt BN.out):gN≠gm));replace BN:=Aside0.mk (blk_below BN.out hb);replace HB:=Aside0.mk (below_step HB.out hb);clear hb hmm hg)|(refine gD 5 ?_;refine box_event ?hg (N:=5) ?hd (cs:=#[.map none]) (t:=137) ?hr ?_;(case hd=>rfl);(case hg=>rfl);(case hr=>go_simp <;> rfl);intro gM hg w4 hbox hb;have BM:=Aside0.mk (hbox);have GEB:=Aside0.mk ((by rw[hg];exact HB.out.size:w.heap.size≤gM));have NM:=Aside0.mk ((by rw[hg];exact Nat.ne_of_gt HM.out.lt:gM≠gm));have NB:=Aside0.mk ((by rw[hg];exact Nat.ne_of_lt (blk_lt BN.out):gN≠gM));replace BN:=Aside0.mk (blk_below BN.out hb);replace HM:=Aside0.mk (HM.out.move (hb.block gm HM.out.lt));replace HB:=Aside0.mk (below_step HB.out hb);clear hb hbox hg;have hs0:w4.cell? ⟨gM,0,none⟩=some (.map none):=(blk_cell BM.out 0).trans rfl;have hf0:=blk_frozen BM.out 0)|((with_reducible refine gate_store (t:=137) (p:=5) rfl ?_);refine store_event (t:=137) (p:=5) (v := ?vo_w5) (w1:=(w4.setCell ⟨gM,0,none⟩ (.map (some gm)))) ?hg ?ho ?hn ?hr ?_;(case ho=>rfl);(case hg=>rfl);(case hn=>rfl);(case hr=>go_simp <;> rfl);intro w5 hw;replace BN:Aside0 (w5.heap[gN]? = some (.cells #[.int .i64 a0] 3 (0,0))):=Aside0.mk (by rw[hw];exact blk_far BN.out NB.out _);replace BM:Aside0 (w5.heap[gM]? = some (.cells #[.map (some gm)] 137 (0,0))):=Aside0.mk (by rw[hw];exact (blk_set BM.out 0 _).trans rfl);replace HM:Aside0 (Go.Proofs.Ytkbahcbankfffaa.Mp.MapB Try.prog 3 4 w5 gm 0 (fun _=>false)):=Aside0.mk (by rw[hw];exact HM.out.move (Below.heap_setCell _ _ _ gm (fun h_=>NM.out h_.symm)));replace HB:Aside0 (Below w.heap.size w w5):=Aside0.mk (by rw[hw];exact below_set HB.out GEB.out);clear hs0 hf0 hw;have hs1:w5.cell? ⟨gN,0,none⟩=some (.int .i64 a0):=(blk_cell BN.out 0).trans rfl)|(refine gL 10 Try.func149 #[.int .i64 a0,.int .i64 a1,.func (.func 165) #[] #[.pointer (some ⟨gN,0,none⟩),.pointer (some ⟨gM,0,none⟩)]] ?_;refine (Go.Proofs.Ytkbahcbankfffaa.Sm.impl_smallWeights.tell (impl_thresholdTables.Inv gN gM gm w5 a0) (fun x s=>impl_thresholdTables.cl.f k x a0 s) (fun q=>q=gm) 165 _ #[.pointer (some ⟨gN,0,none⟩),.pointer (some ⟨gM,0,none⟩)] Try.func165 (by kernel_rfl) rfl w w5 HB.out (fun q hq=>by subst hq;exact HM.out.lt) (impl_thresholdTables.move (blk_lt BN.out) (blk_lt BM.out) HM.out.lt) (fun x s s' A c w1 hI hA hf hb hsz hx hc=>impl_thresholdTables.vis k a0 gN gM gm w w5 GEM.out HM.out.lt (Nat.le_refl _) NN.out NM.out x s s' A c w1 hI hsz hf hb hx hc) k a0 a1 [] ks (impl_thresholdTables.begin BN.out BM.out HM.out) HKS.out).mono ?_;rintro e w9 ⟨rfl,⟨A9,hI9⟩,hB9,hK9⟩;refine ⟨_,rfl,?_⟩;clear hs1;obtain ⟨_,_,hM9,hm9⟩:=hI9;have n0_:=Aside0.mk hM9;have n1_:=Aside0.mk hm9;have n2_:=Aside0.mk hB9;clear BN BM HM HB;have BM:=n0_;have HM:=n1_;have HB:=n2_;clear n0_ n1_ n2_ hM9 hm9 hB9 hK9;have hs2:w9.cell? ⟨gM,0,none⟩=some (.map (some gm)):=(blk_cell BM.out 0).trans rfl))
 go_ret
 exact ⟨gm,rfl,GEM.out,HM.out,HB.out⟩
mutual
def impl_thresholdTables.l0 (ks:List Int):Nat→List (List Int)→Int→Int→Int→Option ((List (List Int)))
 | 0,_,_,_,_=>none
 | k+1,x3,x5,x17,x18=>if x18<x17 then (impl_thresholdTables.l1 ks k x3 x5 x18 (([]:List Int)) 0 x17 x18 x5 0) else (some x3)
def impl_thresholdTables.l1 (ks:List Int):Nat→List (List Int)→Int→Int→List Int→Int→Int→Int→Int→Int→Option ((List (List Int)))
 | 0,_,_,_,_,_,_,_,_,_=>none
 | k+1,x3,x5,x6,x7,x8,x17,x18,x22,x23=>if x23<x22 then (if 0≤(wrap64 ((wrap64 (x5-1))-x23)) then (if x7.length<17592186044416 then (if 0≤x23 then (impl_thresholdTables.l1 ks k x3 x5 x6 (x7++[Go.bits .and .i64 (shr .i64 x6 (wrap64 ((wrap64 (x5-1))-x23))) 1]) (Go.bits .or .i64 x8 (shl .i64 (Go.bits .and .i64 (shr .i64 x6 (wrap64 ((wrap64 (x5-1))-x23))) 1) x23)) x17 x18 x22 (wrap64 (x23+1))) else (none)) else (none)) else (none)) else (if (Lit.int .i64 x8).wf=true then (if x8∈ks then (if x3.length<5864062014805 then (impl_thresholdTables.l0 ks k (x3++[x7]) x5 x17 (wrap64 (x18+1))) else (none)) else (impl_thresholdTables.l0 ks k x3 x5 x17 (wrap64 (x18+1)))) else none)
end
def impl_thresholdTables.f (k:Nat) (a0:Int):Option ((List (List Int))):=(Go.Proofs.Ytkbahcbankfffaa.Sm.impl_smallWeights.f (fun x s=>impl_thresholdTables.cl.f k x a0 s) k a0 3 []).bind fun ks=>(if 0≤a0 then (if 0≤(shl .i64 1 a0) then (impl_thresholdTables.l0 ks k (([]:List (List Int))) (shl .i64 1 a0) (shl .i64 1 (shl .i64 1 a0)) 0) else (none)) else (none))
theorem impl_thresholdTables.calls (k:Nat) (a0:Int) (r:List (List Int)) (w:World) (h:impl_thresholdTables.f k a0=some r) :
 Calls Try.prog 121 #[.int .i64 a0] w fun e w' => ∃ v0_:Value,e = .returned (v0_)∧Kd.S (Kd.slice 3 (Kd.int .i64)) 24 w' w.heap.size (fun _=>True) v0_ r∧Below w.heap.size w w' := by
 have HB:=Aside0.mk (Below.refl w.heap.size w);obtain ⟨ks,hks,h⟩:=Option.bind_eq_some_iff.mp h;have HKS:=Aside0.mk hks;clear hks;have hbz:∀ w_:World,(zeroValue 4).run Try.prog w_ = .ok (.bool false) w_:=fun _=>by kernel_rfl
 have H:(if 0≤a0 then (if 0≤(shl .i64 1 a0) then (impl_thresholdTables.l0 ks k (([]:List (List Int))) (shl .i64 1 a0) (shl .i64 1 (shl .i64 1 a0)) 0) else (none)) else (none))=some r:=h;clear h;obtain ⟨y101,hy101⟩:∃ y_:List (List Int),y_=(([]:List (List Int))):=⟨_,rfl⟩;replace H:(if 0≤a0 then (if 0≤(shl .i64 1 a0) then (impl_thresholdTables.l0 ks k y101 (shl .i64 1 a0) (shl .i64 1 (shl .i64 1 a0)) 0) else (none)) else (none))=some r:=yH hy101 H
 have Ny101:=Aside0.mk hy101;clear hy101;by_cases c2:0≤a0
 · replace H:=iP c2 H;have c2b0:=eq_true c2;have c2b1:=decide_eq_true c2;clear c2;obtain ⟨ji3,hji3⟩:∃ j_:Int,(shl .i64 1 a0)=j_:=⟨_,rfl⟩;replace H:(if 0≤(ji3) then (impl_thresholdTables.l0 ks k y101 ji3 (shl .i64 1 (ji3)) 0) else (none))=some r:=by first|(rw[hji3] at H;exact H)|(simp only[hji3] at H ⊢;exact H)
   have hji3_:(IntKind.i64.wrap (1*2 ^ min a0.toNat 64))=ji3:=hji3;have hji3z:a0≤64→(IntKind.i64.wrap (1*2 ^ a0.toNat))=ji3:=shl_small hji3;have hji3u:(IntKind.i64.wrap (2 ^ min a0.toNat 64))=ji3:=by have h_:=hji3_;rw[Int.one_mul] at h_;exact h_
   have hji3v:a0≤64→(IntKind.i64.wrap (2 ^ a0.toNat))=ji3:=fun hle_=>by have h_:=hji3z hle_;rw[Int.one_mul] at h_;exact h_
   have hji3y:(wrap64 (1*2 ^ min a0.toNat 64))=ji3:=(i64_w _).symm.trans hji3_;have hji3x:a0≤64→(wrap64 (1*2 ^ a0.toNat))=ji3:=fun h_=>(i64_w _).symm.trans (hji3z h_)
   by_cases c4:0≤(ji3)
   · replace H:=iP c4 H;have c4b0:=eq_true c4;have c4b1:=decide_eq_true c4;clear c4;obtain ⟨ji5,hji5⟩:∃ j_:Int,(shl .i64 1 (ji3))=j_:=⟨_,rfl⟩;replace H:(impl_thresholdTables.l0 ks k y101 ji3 ji5 0)=some r:=by first|(rw[hji5] at H;exact H)|(simp only[hji5] at H ⊢;exact H)
     have hji5_:(IntKind.i64.wrap (1*2 ^ min (ji3).toNat 64))=ji5:=hji5;have hji5z:(ji3)≤64→(IntKind.i64.wrap (1*2 ^ (ji3).toNat))=ji5:=shl_small hji5;have hji5u:(IntKind.i64.wrap (2 ^ min (ji3).toNat 64))=ji5:=by have h_:=hji5_;rw[Int.one_mul] at h_;exact h_
     have hji5v:(ji3)≤64→(IntKind.i64.wrap (2 ^ (ji3).toNat))=ji5:=fun hle_=>by have h_:=hji5z hle_;rw[Int.one_mul] at h_;exact h_
     have hji5y:(wrap64 (1*2 ^ min (ji3).toNat 64))=ji5:=(i64_w _).symm.trans hji5_;have hji5x:(ji3)≤64→(wrap64 (1*2 ^ (ji3).toNat))=ji5:=fun h_=>(i64_w _).symm.trans (hji5z h_)
     have H' := Aside0.mk H;clear H;go_enter Try.func121,Try.ntmps121;go_wp2_with (first|(refine gD 11 ?_;refine Kd.S_lit (Kd.slice 3 (Kd.int .i64)) _ 24 ?hg (N:=11) ?hd (xs:=([]:List (List Int))) (inner:=[]) (ok:=fun _=>True) (okp:=fun _=>True) ?hr ?hp (fun _ hk=>hk) trivial (Below.refl _ _) (Nat.le_refl _) (by simp) ?_;(case hd=>rfl);(case hg=>rfl);(case hr=>go_simp <;> rfl);(case hp=>exact (Reps.none _ _));intro v102 w6 ho7 hb hg_ hnew_;clear hg_ hnew_;(first|rw[← Ny101.out] at ho7|(simp only[Int.reduceToNat] at ho7;rw[← Ny101.out] at ho7));have HO103:=Aside0.mk (Kd.S_lower ho7 (below_size (bB HB)));replace HB:=Aside0.mk (below_step (bB HB) hb);clear hb ho7)|(refine gL 13 Try.func148 #[.int .i64 a0,.int .i64 3] ?_;refine (impl_thresholdTables.tabs k a0 3 ks _ HKS.out).mono ?_;rintro e w5 ⟨gm,rfl,hgm,hmm,hb⟩;refine ⟨_,rfl,?_⟩;have n0_:=Aside0.mk (Kd.S_below (pS HO103) hb);have n1_:=Aside0.mk (below_step (bB HB) hb);have HM:=Aside0.mk hmm;clear HO103 HB hmm hb;have HO103:=n0_;have HB:=n1_;clear n0_ n1_))
     go_loopg [3,18] k (fun kq v3 v18 w' => ∃ (x3_1:List (List Int)) (x18_1:Int),v18 = .int .i64 x18_1∧Aside0 (impl_thresholdTables.l0 ks kq x3_1 ji3 ji5 x18_1=some r)∧Aside0 (kq≤k)∧Aside0 (Kd.S (Kd.slice 3 (Kd.int .i64)) 24 w' w.heap.size (fun _=>True) v3 x3_1)∧Aside0 (Below w.heap.size w w')∧Aside0 (Go.Proofs.Ytkbahcbankfffaa.Mp.MapB Try.prog 3 4 w' gm ks.length (fun q=>decide (q∈ks))))
     case atStart=>exact ⟨(y101),(0),rD,H',⟨Nat.le_refl _⟩,⟨pS HO103⟩,⟨bB HB⟩,HM⟩
     case round =>
      clear H';try clear c2
      try clear c2b0
      try clear c2b1
      try clear c4
      try clear c4b0
      try clear c4b1
      clear HM;obtain ⟨x3_1,x18_1,rfl,HA,HK1,HO_3,HB,HM⟩:=hrel;cases gk with
      | zero=>exact absurd HA.out (by simp[impl_thresholdTables.l0])
      | succ k1 =>
       have H:=HA.out;clear HA;simp only[impl_thresholdTables.l0] at H;by_cases c8:x18_1<ji5
       · replace H:=iP c8 H;have c8b0:=decide_eq_true c8;clear c8;obtain ⟨y104,hy104⟩:∃ y_:List Int,y_=(([]:List Int)):=⟨_,rfl⟩;replace H:(impl_thresholdTables.l1 ks k1 x3_1 ji3 x18_1 y104 0 ji5 x18_1 ji3 0)=some r:=yH hy104 H
         have Ny104:=Aside0.mk hy104;clear hy104;have H' := Aside0.mk H;clear H;go_wp2_with (first|(refine gD 21 ?_;refine Kd.R_lit (Kd.int .i64) _ 3 ?hg (N:=21) ?hd (xs:=([]:List Int)) (inner:=[]) (ok:=fun _=>True) (okp:=fun _=>True) ?hr ?hp (fun _ hk=>hk) trivial (Below.refl _ _) (Nat.le_refl _) (by simp) ?_;(case hd=>rfl);(case hg=>rfl);(case hr=>go_simp <;> rfl);(case hp=>exact (Reps.none _ _));intro v105 w9 ho10 hb hg_ hnew_;have nM_:=Aside0.mk (HM.out.move (hb.block gm HM.out.lt));clear HM;have HM:=nM_;clear nM_;clear hg_ hnew_;(first|rw[← Ny104.out] at ho10|(simp only[Int.reduceToNat] at ho10;rw[← Ny104.out] at ho10));have HO106:=Aside0.mk (Kd.R_lower ho10 (below_size (bB HB)));replace HO_3:=Aside0.mk (Kd.S_elder' (pS HO_3) (Kd.R_base ho10) hb);replace HB:=Aside0.mk (below_step (bB HB) hb);clear hb ho10))
         go_loopg [7,8,23] k1 (fun kq v7 v8 v23 w' => ∃ (x7_2:List Int) (x8_2:Int) (x23_2:Int),v8 = .int .i64 x8_2∧v23 = .int .i64 x23_2∧Aside0 (impl_thresholdTables.l1 ks kq x3_1 ji3 x18_1 x7_2 x8_2 ji5 x18_1 ji3 x23_2=some r)∧Aside0 (kq≤k1)∧Aside0 (Kd.S (Kd.slice 3 (Kd.int .i64)) 24 w' w.heap.size (fun k_=>some k_≠(v7:Value).ownBlock) u3 x3_1)∧Aside0 (Kd.R (Kd.int .i64) 3 w' w.heap.size (fun _=>True) v7 x7_2)∧Aside0 (Below w.heap.size w w')∧Aside0 (Go.Proofs.Ytkbahcbankfffaa.Mp.MapB Try.prog 3 4 w' gm ks.length (fun q=>decide (q∈ks))))
         case atStart=>exact ⟨(y104),(0),(0),rD,rD,H',⟨Nat.le_refl _⟩,⟨by refine xS ?_;exact Kd.S_mono HO_3.out (fun _ hk=>hk.2)⟩,⟨pR HO106⟩,⟨bB HB⟩,HM⟩
         case round =>
          clear H';try clear c2
          try clear c2b0
          try clear c2b1
          try clear c4
          try clear c4b0
          try clear c4b1
          try clear c8
          try clear c8b0
          clear HM;obtain ⟨x7_2,x8_2,x23_2,rfl,rfl,HA,HK2,HO_3,HO_7,HB,HM⟩:=hrel;cases gk with
          | zero=>exact absurd HA.out (by simp[impl_thresholdTables.l1])
          | succ k2 =>
           have H:=HA.out;clear HA;simp only[impl_thresholdTables.l1] at H;by_cases c11:x23_2<ji3
           · replace H:=iP c11 H;have c11b0:=decide_eq_true c11;clear c11;obtain ⟨ji12,hji12⟩:∃ j_:Int,(wrap64 ((wrap64 (ji3-1))-x23_2))=j_:=⟨_,rfl⟩;replace H:(if 0≤(ji12) then (if x7_2.length<17592186044416 then (if 0≤x23_2 then (impl_thresholdTables.l1 ks k2 x3_1 ji3 x18_1 (x7_2++[Go.bits .and .i64 (shr .i64 x18_1 (ji12)) 1]) (Go.bits .or .i64 x8_2 (shl .i64 (Go.bits .and .i64 (shr .i64 x18_1 (ji12)) 1) x23_2)) ji5 x18_1 ji3 (wrap64 (x23_2+1))) else (none)) else (none)) else (none))=some r:=by first|(rw[hji12] at H;exact H)|(simp only[hji12] at H ⊢;exact H)
             have hji12w:(IntKind.i64.wrap ((wrap64 (ji3-1))-x23_2))=ji12:=(i64_w _).trans hji12;by_cases c13:0≤(ji12)
             · replace H:=iP c13 H;have c13b0:=eq_true c13;have c13b1:=decide_eq_true c13;clear c13;obtain ⟨ji14,hji14⟩:∃ j_:Int,(shr .i64 x18_1 (ji12))=j_:=⟨_,rfl⟩;replace H:(if x7_2.length<17592186044416 then (if 0≤x23_2 then (impl_thresholdTables.l1 ks k2 x3_1 ji3 x18_1 (x7_2++[Go.bits .and .i64 (ji14) 1]) (Go.bits .or .i64 x8_2 (shl .i64 (Go.bits .and .i64 (ji14) 1) x23_2)) ji5 x18_1 ji3 (wrap64 (x23_2+1))) else (none)) else (none))=some r:=by first|(rw[hji14] at H;exact H)|(simp only[hji14] at H ⊢;exact H)
               have hji14_:(x18_1 / 2 ^ min (ji12).toNat 64)=ji14:=hji14;have hji14z:(ji12)≤64→(x18_1 / 2 ^ (ji12).toNat)=ji14:=shr_small hji14;by_cases c15:x7_2.length<17592186044416
               · replace H:=iP c15 H;have LMc15:=Aside0.mk c15;clear c15;obtain ⟨y107,hy107⟩:∃ y_:List Int,y_=(x7_2++[Go.bits .and .i64 (ji14) 1]):=⟨_,rfl⟩;replace H:(if 0≤x23_2 then (impl_thresholdTables.l1 ks k2 x3_1 ji3 x18_1 y107 (Go.bits .or .i64 x8_2 (shl .i64 (Go.bits .and .i64 (ji14) 1) x23_2)) ji5 x18_1 ji3 (wrap64 (x23_2+1))) else (none))=some r:=yH hy107 H
                 have Ny107:=Aside0.mk hy107;clear hy107;by_cases c16:0≤x23_2
                 · replace H:=iP c16 H;have c16b0:=eq_true c16;have c16b1:=decide_eq_true c16;clear c16;obtain ⟨ji17,hji17⟩:∃ j_:Int,(shl .i64 (Go.bits .and .i64 (ji14) 1) x23_2)=j_:=⟨_,rfl⟩;replace H:(impl_thresholdTables.l1 ks k2 x3_1 ji3 x18_1 y107 (Go.bits .or .i64 x8_2 (ji17)) ji5 x18_1 ji3 (wrap64 (x23_2+1)))=some r:=by first|(rw[hji17] at H;exact H)|(simp only[hji17] at H ⊢;exact H)
                   have hji17_:(IntKind.i64.wrap ((Go.bits .and .i64 (ji14) 1)*2 ^ min x23_2.toNat 64))=ji17:=hji17;have hji17z:x23_2≤64→(IntKind.i64.wrap ((Go.bits .and .i64 (ji14) 1)*2 ^ x23_2.toNat))=ji17:=shl_small hji17;have hji17y:(wrap64 ((Go.bits .and .i64 (ji14) 1)*2 ^ min x23_2.toNat 64))=ji17:=(i64_w _).symm.trans hji17_;have hji17x:x23_2≤64→(wrap64 ((Go.bits .and .i64 (ji14) 1)*2 ^ x23_2.toNat))=ji17:=fun h_=>(i64_w _).symm.trans (hji17z h_)
                   have H' := Aside0.mk H;clear H;go_wp2_with (first|((with_reducible refine gate_builtin (b := .append) (xs:=#[.tmp 33,.tmp 35]) rfl ?_);at_builtin;refine Kd.R_append (Kd.int .i64) (w0:=w) w.heap.size rfl (.tmp 33) (.tmp 35) 24 3 (.int .i64 0) 8 rfl Try.underlying24 info3 rfl (by decide) (by omega) u7 x7_2 (Go.bits .and .i64 (ji14) 1) [.int .i64 (Go.bits .and .i64 (ji14) 1)] (fun _=>True) (fun _=>False) rfl rfl ?aP (fun _ hk=>hk.elim) ?aF ?aO ?aB ?aS ?aL ?_;(case aP=>exact rfl);(case aB=>exact (bB HB));(case aF=>exact (fun _ _=>trivial));(case aO=>exact (pR HO_7));(case aS=>exact (below_size (bB HB)));(case aL=>have:=LMc15.out;omega);intro v108 w18 ho hb hg hat;have nM_:=Aside0.mk (HM.out.grown hg (Kd.R_typed HO_7.out));clear HM;have HM:=nM_;clear nM_;rw[← Ny107.out] at ho;have HO109:=Aside0.mk (ho);replace HO_3:=Aside0.mk (Kd.S_after (ok:=(fun _=>True)) (by refine xS ?_;exact Kd.S_mono HO_3.out (fun _ hk=>⟨trivial,hk⟩)) hg hat);replace HB:=Aside0.mk (hb);clear HO_7;clear ho hb hg hat))
                   go_roundg k2
                   case measure=>have:=HK1.out;have:=HK2.out;omega
                   case rel=>exact ⟨(y107),(Go.bits .or .i64 x8_2 (ji17)),(wrap64 (x23_2+1)),(by first|rfl|(simp;done)|(simp only[← hji17] <;> (first|rfl|simp))|(simp[*];done)),rD,H',⟨by have:=HK1.out;have:=HK2.out;omega⟩,⟨by refine xS ?_;exact Kd.S_mono HO_3.out (fun _ hk=>hk.2)⟩,⟨pR HO109⟩,⟨bB HB⟩,HM⟩
                 · replace H:=iN c16 H;cases H
               · replace H:=iN c15 H;cases H
             · replace H:=iN c13 H;cases H
           · replace H:=iN c11 H;have c11b0:=decide_eq_false c11;clear c11;by_cases cw:(Lit.int .i64 x8_2).wf=true
             · rw[if_pos cw] at H;have hlook:=HM.out.look (t:=137) Try.underlying3 Try.underlying4 Try.underlying137 (hbz _) x8_2 cw;by_cases c19:x8_2∈ks
               · replace H:=iP c19 H;have c19b0:=decide_eq_true c19;clear c19;by_cases c20:x3_1.length<5864062014805
                 · replace H:=iP c20 H;have LMc20:=Aside0.mk c20;clear c20;obtain ⟨y110,hy110⟩:∃ y_:List (List Int),y_=(x3_1++[x7_2]):=⟨_,rfl⟩;replace H:(impl_thresholdTables.l0 ks k2 y110 ji3 ji5 (wrap64 (x18_1+1)))=some r:=yH hy110 H
                   have Ny110:=Aside0.mk hy110;clear hy110;have H' := Aside0.mk H;clear H;obtain ⟨Ao22,co22,eo22⟩:=Kd.R_slice HO_7.out;subst eo22;go_wp2_with (first|((with_reducible refine gate_builtin (b := .append) (xs:=#[.tmp 46,.tmp 48]) rfl ?_);at_builtin;refine Kd.S_append (Kd.slice 3 (Kd.int .i64)) (w0:=w) w.heap.size rfl (.tmp 46) (.tmp 48) 27 24 (.slice none 0 0) 24 rfl Try.underlying27 info24 rfl (by decide) (by omega) u3 x3_1 x7_2 [.slice Ao22 x7_2.length co22] (fun _=>True) (fun k_=>some k_=(.slice Ao22 x7_2.length co22:Value).ownBlock) rfl rfl ?aP (fun k_ hk_=>((Kd.R_mono (ok' := fun k_=>((fun _=>True)) k_∧some k_≠(u3:Value).ownBlock) (Kd.R_apart' (HO_7.out) (Kd.S_typed HO_3.out) (by decide)) (fun k_ hk=>⟨trivial,hk.2⟩))).1 k_ hk_.symm) ?aF ?aO ?aB ?aS ?aL ?_;(case aP=>exact Kd.M_row (Kd.R_mono (Kd.R_tight rfl (Kd.R_mono (ok' := fun k_=>((fun _=>True)) k_∧some k_≠(u3:Value).ownBlock) (Kd.R_apart' (HO_7.out) (Kd.S_typed HO_3.out) (by decide)) (fun k_ hk=>⟨trivial,hk.2⟩))) (fun _ h_=>h_)));(case aB=>exact (bB HB));(case aF=>exact (fun _ _=>trivial));(case aO=>exact (by refine xS ?_;exact Kd.S_mono HO_3.out (fun k_ hk=>⟨trivial,fun e_=>hk e_⟩)));(case aS=>exact (below_size (bB HB)));(case aL=>have:=LMc20.out;omega);intro v111 w21 ho hb hg hat;have nM_:=Aside0.mk (HM.out.grown hg (Kd.S_typed HO_3.out));clear HM;have HM:=nM_;clear nM_;rw[← Ny110.out] at ho;have HO112:=Aside0.mk (ho);replace HB:=Aside0.mk (hb);clear HO_3 HO_7;clear ho hb hg hat))
                   go_roundg k2
                   case measure=>have:=HK1.out;have:=HK2.out;omega
                   case rel=>exact ⟨(y110),(wrap64 (x18_1+1)),rD,H',⟨by have:=HK1.out;have:=HK2.out;omega⟩,⟨pS HO112⟩,⟨bB HB⟩,HM⟩
                 · replace H:=iN c20 H;cases H
               · replace H:=iN c19 H;have c19b0:=decide_eq_false c19;have H' := Aside0.mk H;clear H;go_wp2;go_roundg k2
                 case measure=>have:=HK1.out;have:=HK2.out;omega
                 case rel=>exact ⟨(x3_1),(wrap64 (x18_1+1)),rD,H',⟨by have:=HK1.out;have:=HK2.out;omega⟩,⟨by refine xS ?_;exact Kd.S_mono HO_3.out (fun _ hk=>trivial)⟩,⟨bB HB⟩,HM⟩
             · rw[if_neg cw] at H;cases H
       · replace H:=iN c8 H;have c8b0:=decide_eq_false c8;clear c8;obtain rfl:=Option.some.inj H;go_wp2;go_ret
         exact ⟨_,by first|rfl|(simp[errW_none,errW_some] <;> rfl)|(simp only[← hji3,← hji5];first|rfl|(simp[errW_none,errW_some] <;> rfl))|(simp[*,errW_none,errW_some] <;> rfl),by refine xS ?_;exact HO_3.out,bB HB⟩
   · replace H:=iN c4 H;cases H
 · replace H:=iN c2 H;cases H
end Go.Proofs.Ytkbahcbankfffaa.PFnPairs
