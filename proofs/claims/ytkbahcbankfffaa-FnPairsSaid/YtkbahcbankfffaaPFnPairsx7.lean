import Derived.Test.YtkbahcbankfffaaPFnPairsx0
import Derived.Test.YtkbahcbankfffaaPFnPairsx2
import Derived.Test.YtkbahcbankfffaaSh
import Derived.Test.YtkbahcbankfffaaSz
namespace Go.Proofs.Ytkbahcbankfffaa.PFnPairs
open Go.RowKit Go.Proofs.Ytkbahcbankfffaa.Sh Go.Proofs.YtkbahcbankfffaaW.PrintWords Go.Proofs.YtkbahcbankfffaaW.PrintLast Go.Proofs.YtkbahcbankfffaaW.PrintMore
attribute [local go_sem] max2_int min2_int max_two min_two max_three min_three max_four min_four
set_option linter.unusedVariables false
set_option maxHeartbeats 8000000
set_option maxRecDepth 100000
set_option linter.unusedSimpArgs false
mutual
def spec_l2Table.j0:Nat→List Int→Bool→Option (Bool)
 | 0,_,_=>none
 | k+1,x1,x15=>if x15=true then (some false) else (spec_l2Table.l0 k x1 0)
def spec_l2Table.l0:Nat→List Int→Int→Option (Bool)
 | 0,_,_=>none
 | k+1,x1,x5=>if x5<(x1.length:Int) then (if 0≤x5 then ((spec_l1In.f (rd x1 x5) 0 1).bind fun t278=>(if t278=true then (spec_l2Table.l0 k x1 (wrap64 (x5+1))) else (some false))) else (none)) else (some true)
end
def spec_l2Table.f (k:Nat) (a0:Int) (l1:List Int):Option (Bool):=(spec_l1In.f a0 0 4).bind fun t276=>(if t276=true then (if 0≤a0 then (spec_l2Table.j0 k l1 ((l1.length:Int) != (shl .i64 1 a0))) else (none)) else (spec_l2Table.j0 k l1 true))
theorem spec_l2Table.calls (k:Nat) (a0:Int) (A1:Option Addr) (c1:Nat) (l1:List Int) (r:Bool) (w:World) (hr1:Kd.C (Kd.int .i64) w A1 l1.length l1) (hc1:l1.length≤c1) (h:spec_l2Table.f k a0 l1=some r) :
 Calls Try.prog 123 #[.int .i64 a0,.slice A1 l1.length c1] w fun e w' => e = .returned (.bool r)∧Drawn0 w w' := by
 have HR1:=Aside0.mk hr1;have HC1:=Aside0.mk hc1;clear hr1 hc1;have H:((spec_l1In.f a0 0 4).bind fun t276=>(if t276=true then (if 0≤a0 then (spec_l2Table.j0 k l1 ((l1.length:Int) != (shl .i64 1 a0))) else (none)) else (spec_l2Table.j0 k l1 true)))=some r:=h;clear h;have HC3:=Aside0.mk H;clear H;go_enter Try.func123,Try.ntmps123;go_upto_region 1 with (fail)
 go_cut [15] (fun v15 wc=>∃ (kq:Nat) (x15_2:Bool),v15 = .bool x15_2∧Aside0 (spec_l2Table.j0 kq l1 x15_2=some r)∧Aside0 (kq≤k)∧Drawn0 w wc)
 case first =>
  have H:=HC3.out;clear HC3;obtain ⟨t276,A4,H⟩:=bS H;by_cases c5:t276=true
  · subst c5;replace H:=iT H;by_cases c6:0≤a0
    · replace H:=iP c6 H;have c6b0:=eq_true c6;have c6b1:=decide_eq_true c6;clear c6;obtain ⟨ji7,hji7⟩:∃ j_:Int,(shl .i64 1 a0)=j_:=⟨_,rfl⟩;replace H:(spec_l2Table.j0 k l1 ((l1.length:Int) != (ji7)))=some r:=by first|(rw[hji7] at H;exact H)|(simp only[hji7] at H ⊢;exact H)
      (try rw[hji7] at A4);have hji7_:(IntKind.i64.wrap (1*2 ^ min a0.toNat 64))=ji7:=hji7;have hji7z:a0≤64→(IntKind.i64.wrap (1*2 ^ a0.toNat))=ji7:=shl_small hji7;have hji7u:(IntKind.i64.wrap (2 ^ min a0.toNat 64))=ji7:=by have h_:=hji7_;rw[Int.one_mul] at h_;exact h_
      have hji7v:a0≤64→(IntKind.i64.wrap (2 ^ a0.toNat))=ji7:=fun hle_=>by have h_:=hji7z hle_;rw[Int.one_mul] at h_;exact h_
      have hji7y:(wrap64 (1*2 ^ min a0.toNat 64))=ji7:=(i64_w _).symm.trans hji7_;have hji7x:a0≤64→(wrap64 (1*2 ^ a0.toNat))=ji7:=fun h_=>(i64_w _).symm.trans (hji7z h_)
      have H' := Aside0.mk H;clear H;go_wp2_with (first|(refine gL 7 Try.func115 #[.int .i64 a0,.int .i64 0,.int .i64 4] ?_;(with_reducible refine (spec_l1In.calls a0 0 4 true _ A4.out).mono ?_);rintro e w' ⟨rfl,⟨nd,rfl⟩⟩;refine ⟨_,rfl,?_⟩))
      go_meet
      case rel=>exact ⟨_,(((l1.length:Int) != (ji7))),(by first|rfl|(simp;done)|(simp only[← hji7] <;> (first|rfl|simp))|(simp[*];done)),H',⟨by first|omega|exact Nat.le_refl _⟩,dR⟩
    · replace H:=iN c6 H;cases H
  · replace c5:=Bool.eq_false_iff.mpr c5;subst c5;replace H:=iF H;have H' := Aside0.mk H;clear H;go_wp2_with (first|(refine gL 7 Try.func115 #[.int .i64 a0,.int .i64 0,.int .i64 4] ?_;(with_reducible refine (spec_l1In.calls a0 0 4 false _ A4.out).mono ?_);rintro e w' ⟨rfl,⟨nd,rfl⟩⟩;refine ⟨_,rfl,?_⟩))
    go_meet
    case rel=>exact ⟨_,(true),rD,H',⟨by first|omega|exact Nat.le_refl _⟩,dR⟩
 case rest =>
  clear HC3;try clear c1
  obtain ⟨kq,x15_2,rfl,HA,HJ2,⟨mc2,rfl⟩⟩:=hcut;cases kq with
  | zero=>exact absurd HA.out (by simp[spec_l2Table.j0])
  | succ kj2 =>
   have H:=HA.out;clear HA;simp only[spec_l2Table.j0] at H;by_cases c8:x15_2=true
   · subst c8;replace H:=iT H;obtain rfl:=Option.some.inj H;go_wp2;go_ret
     exact ⟨rD,dR⟩
   · replace c8:=Bool.eq_false_iff.mpr c8;subst c8;replace H:=iF H;have H' := Aside0.mk H;clear H;go_wp2;go_loopg [5] kj2 (fun kq v5 w' => ∃ (x5_2:Int),v5 = .int .i64 x5_2∧Aside0 (spec_l2Table.l0 kq l1 x5_2=some r)∧Aside0 (kq≤kj2)∧Drawn0 w w')
     case atStart=>exact ⟨(0),rD,H',⟨Nat.le_refl _⟩,dR⟩
     case round =>
      clear H';try clear c1
      try clear c8
      obtain ⟨x5_2,rfl,HA,HK2,⟨m2,rfl⟩⟩:=hrel;cases gk with
      | zero=>exact absurd HA.out (by simp[spec_l2Table.l0])
      | succ k2 =>
       have H:=HA.out;clear HA;simp only[spec_l2Table.l0] at H;by_cases c9:x5_2<(l1.length:Int)
       · replace H:=iP c9 H;have c9b0:=decide_eq_true c9;clear c9;by_cases c10:0≤x5_2
         · replace H:=iP c10 H;have c10b0:=decide_eq_true c10;clear c10;obtain ⟨t278,A11,H⟩:=bS H;by_cases c12:t278=true
           · subst c12;replace H:=iT H;have H' := Aside0.mk H;clear H;have p277:0≤(x5_2:Int):=of_decide_eq_true aS;have q277:x5_2<(l1.length:Int):=of_decide_eq_true aS;obtain ⟨ad277,e277,hx277_0⟩:=Kd.at_int HR1.out x5_2 p277 q277;cases e277
             replace p277:=eq_true p277;replace q277:=eq_true q277;go_wp2_with (first|(refine gL 26 Try.func115 #[.int .i64 (rd l1 x5_2),.int .i64 0,.int .i64 1] ?_;(with_reducible refine (spec_l1In.calls (rd l1 x5_2) 0 1 true _ A11.out).mono ?_);rintro e w' ⟨rfl,⟨nd,rfl⟩⟩;refine ⟨_,rfl,?_⟩))
             go_roundg k2
             case measure=>have:=HJ2.out;have:=HK2.out;omega
             case rel=>exact ⟨(wrap64 (x5_2+1)),rD,H',⟨by have:=HJ2.out;have:=HK2.out;omega⟩,dR⟩
           · replace c12:=Bool.eq_false_iff.mpr c12;subst c12;replace H:=iF H;obtain rfl:=Option.some.inj H;have p277:0≤(x5_2:Int):=of_decide_eq_true aS;have q277:x5_2<(l1.length:Int):=of_decide_eq_true aS;obtain ⟨ad277,e277,hx277_0⟩:=Kd.at_int HR1.out x5_2 p277 q277;cases e277
             replace p277:=eq_true p277;replace q277:=eq_true q277;go_wp2_with (first|(refine gL 26 Try.func115 #[.int .i64 (rd l1 x5_2),.int .i64 0,.int .i64 1] ?_;(with_reducible refine (spec_l1In.calls (rd l1 x5_2) 0 1 false _ A11.out).mono ?_);rintro e w' ⟨rfl,⟨nd,rfl⟩⟩;refine ⟨_,rfl,?_⟩))
             go_ret
             exact ⟨rD,dR⟩
         · replace H:=iN c10 H;cases H
       · replace H:=iN c9 H;have c9b0:=decide_eq_false c9;clear c9;obtain rfl:=Option.some.inj H;go_wp2;go_ret
         exact ⟨rD,dR⟩
def spec_l9Three.f (k:Nat) (a0:Int) (l1:List Int):Option (Bool):=(spec_l1In.f a0 1 3).bind fun t279=>(if t279=true then ((spec_l2Table.f k a0 l1).bind fun t280=>(some t280)) else (some false))
theorem spec_l9Three.calls (k:Nat) (a0:Int) (A1:Option Addr) (c1:Nat) (l1:List Int) (r:Bool) (w:World) (hr1:Kd.C (Kd.int .i64) w A1 l1.length l1) (hc1:l1.length≤c1) (h:spec_l9Three.f k a0 l1=some r) :
 Calls Try.prog 59 #[.int .i64 a0,.slice A1 l1.length c1] w fun e w' => e = .returned (.bool r)∧Drawn0 w w' := by
 have HR1:=Aside0.mk hr1;have HC1:=Aside0.mk hc1;clear hr1 hc1;have H:((spec_l1In.f a0 1 3).bind fun t279=>(if t279=true then ((spec_l2Table.f k a0 l1).bind fun t280=>(some t280)) else (some false)))=some r:=h;clear h;obtain ⟨t279,A3,H⟩:=bS H;by_cases c4:t279=true
 · subst c4;replace H:=iT H;obtain ⟨t280,A5,H⟩:=bS H;obtain rfl:=Option.some.inj H;go_enter Try.func59,Try.ntmps59;go_wp2_with (first|(refine gL 6 Try.func115 #[.int .i64 a0,.int .i64 1,.int .i64 3] ?_;(with_reducible refine (spec_l1In.calls a0 1 3 true _ A3.out).mono ?_);rintro e w' ⟨rfl,⟨nd,rfl⟩⟩;refine ⟨_,rfl,?_⟩)|(go_at_call 123;(with_reducible refine (spec_l2Table.calls k a0 _ _ l1 t280 _ ?side1 ?side2 A5.out).mono ?_);(case side1=>exact cC HR1);(case side2=>exact HC1.out);rintro e w' ⟨rfl,⟨nd,rfl⟩⟩))
   go_ret
   exact ⟨rD,dR⟩
 · replace c4:=Bool.eq_false_iff.mpr c4;subst c4;replace H:=iF H;obtain rfl:=Option.some.inj H;go_enter Try.func59,Try.ntmps59;go_wp2_with (first|(refine gL 6 Try.func115 #[.int .i64 a0,.int .i64 1,.int .i64 3] ?_;(with_reducible refine (spec_l1In.calls a0 1 3 false _ A3.out).mono ?_);rintro e w' ⟨rfl,⟨nd,rfl⟩⟩;refine ⟨_,rfl,?_⟩))
   go_ret
   exact ⟨rD,dR⟩
def spec_l1Own.f (l0:List Int):Option (List Int):=(some (([]:List Int):List Int)).bind fun y281=>(if y281.length+l0.length<17592186044416 then (some (y281++l0)) else (none))
theorem spec_l1Own.calls (A0:Option Addr) (c0:Nat) (l0:List Int) (r:List Int) (w:World) (hr0:Kd.C (Kd.int .i64) w A0 l0.length l0) (hc0:l0.length≤c0) (h:spec_l1Own.f l0=some r) :
 Calls Try.prog 72 #[.slice A0 l0.length c0] w fun e w' => ∃ v0_:Value,e = .returned (v0_)∧Kd.R (Kd.int .i64) 3 w' w.heap.size (fun _=>True) v0_ r∧Below w.heap.size w w' := by
 have HR0:=Aside0.mk hr0;have HC0:=Aside0.mk hc0;clear hr0 hc0;have HB:=Aside0.mk (Below.refl w.heap.size w);have H:((some (([]:List Int):List Int)).bind fun y281=>(if y281.length+l0.length<17592186044416 then (some (y281++l0)) else (none)))=some r:=h;clear h;obtain ⟨y281,hy281⟩:∃ y_:List Int,y_=(([]:List Int)):=⟨_,rfl⟩;replace H:(if y281.length+l0.length<17592186044416 then (some (y281++l0)) else (none))=some r:=yH hy281 H
 have Ny281:=Aside0.mk hy281;clear hy281;by_cases c2:y281.length+l0.length<17592186044416
 · replace H:=iP c2 H;have LMc2:=Aside0.mk c2;clear c2;obtain ⟨y284,hy284⟩:∃ y_:List Int,y_=(y281++l0):=⟨_,rfl⟩;replace H:(some y284)=some r:=yH hy284 H
   have Ny284:=Aside0.mk hy284;clear hy284;obtain rfl:=Option.some.inj H;go_enter Try.func72,Try.ntmps72;go_wp2_with (first|(refine gD 3 ?_;refine Kd.R_lit (Kd.int .i64) _ 3 ?hg (N:=3) ?hd (xs:=([]:List Int)) (inner:=[]) (ok:=fun _=>True) (okp:=fun _=>True) ?hr ?hp (fun _ hk=>hk) trivial (Below.refl _ _) (Nat.le_refl _) (by simp) ?_;(case hd=>rfl);(case hg=>rfl);(case hr=>go_simp <;> rfl);(case hp=>exact (Reps.none _ _));intro v282 w3 ho4 hb hg_ hnew_;clear hg_ hnew_;(first|rw[← Ny281.out] at ho4|(simp only[Int.reduceToNat] at ho4;rw[← Ny281.out] at ho4));have HO283:=Aside0.mk (Kd.R_lower ho4 (below_size (bB HB)));replace HB:=Aside0.mk (below_step (bB HB) hb);clear hb ho4)|((with_reducible refine gate_builtin (b := .append) (xs:=#[.tmp 3,.tmp 4]) rfl ?_);at_builtin;refine Kd.R_append_rows (Kd.int .i64) (w0:=w) w.heap.size rfl (.tmp 3) (.tmp 4) 24 3 (.int .i64 0) 8 rfl Try.underlying24 info3 rfl (by decide) (by omega) v282 y281 l0 _ _ _ (fun _=>True) (fun _=>False) rfl rfl ?aO ?aR (fun _ _ h=>h) (fun _ h=>h.elim) ?aF ?aB ?aS ?aL ?_;(case aR=>exact cB HR0 HB);(case aB=>exact (bB HB));(case aF=>exact (fun _ _=>trivial));(case aO=>exact (pR HO283));(case aS=>exact (below_size (bB HB)));(case aL=>have:=LMc2.out;omega);intro v285 w5 ho hb hg hat;rw[← Ny284.out] at ho;have HO286:=Aside0.mk (ho);replace HB:=Aside0.mk (hb);clear HO283;clear ho hb hg hat))
   go_ret
   exact ⟨_,eW,by refine xR ?_;exact HO286.out,bB HB⟩
 · replace H:=iN c2 H;cases H
end Go.Proofs.Ytkbahcbankfffaa.PFnPairs
