/- impl.smallWeights, for any function that it is handed: what it calls, one list of weights behind the other. -/
import Derived.Test.YtkbahcbankfffaaProg
import Derived.Below
import Derived.Deep.Draws
import Derived.Deep.AppendLies
import Derived.Maps.AppendAt
import Derived.OwnWalk
import Derived.Laws.BytesArg
import Derived.Laws.MakeOwn
import Derived.Laws.OwnMore
import Derived.Deep.OwnRows
import Derived.Tactics
import Derived.Lib.ConvBytes
import Derived.Laws.Slices
import Derived.WalkKit
import Derived.KernelRfl
import Derived.RowKit3
import Derived.Deep.LoopGhost
import Derived.Deep.QuietTactic
import Derived.BigQuiet
import Derived.WideLaws
import Derived.Deep.DeepCutAuto
import Derived.Deep.CutBlock
import Derived.Deep.RegionHeld3
import Derived.Laws.Rows
import Derived.Lib.AppendStr
import Derived.ArgAppend
import Derived.Laws.IdiomCopy
import Derived.OrdersHeld
import Derived.Laws.BitsLemmas
import Derived.RowKit
import Derived.Test.YtkbahcbankfffaaWWords
import Derived.Test.YtkbahcbankfffaaWLast
import Derived.Test.YtkbahcbankfffaaWTab
import Derived.Test.YtkbahcbankfffaaWFour
import Derived.Test.YtkbahcbankfffaaWQPut
import Derived.Test.YtkbahcbankfffaaWApart
import Derived.Test.YtkbahcbankfffaaWArr
import Derived.Test.YtkbahcbankfffaaWZeros
import Derived.Test.YtkbahcbankfffaaWFoot
import Derived.Test.YtkbahcbankfffaaWKept
import Derived.Test.YtkbahcbankfffaaWShare
import Derived.Test.YtkbahcbankfffaaWN
import Derived.Test.YtkbahcbankfffaaWFootNe
import Derived.Test.YtkbahcbankfffaaWAt
import Derived.Test.YtkbahcbankfffaaWEqStruct
import Derived.Test.YtkbahcbankfffaaWRepsOne
import Derived.Test.YtkbahcbankfffaaWInv
import Derived.Test.YtkbahcbankfffaaWInvWords
import Derived.Test.YtkbahcbankfffaaWGuard
import Derived.Test.YtkbahcbankfffaaWNEv
import Derived.Test.YtkbahcbankfffaaWMore
import Derived.Test.YtkbahcbankfffaaSh
import Derived.Test.YtkbahcbankfffaaCl
namespace Go.Proofs.Ytkbahcbankfffaa.Sm
open Go.RowKit Go.Proofs.Ytkbahcbankfffaa.Sh Go.Proofs.YtkbahcbankfffaaW.PrintWords Go.Proofs.YtkbahcbankfffaaW.PrintLast Go.Proofs.YtkbahcbankfffaaW.PrintMore
attribute [local go_sem] max2_int min2_int max_two min_two max_three min_three max_four min_four   -- for this text's walks alone
set_option linter.unusedVariables false
set_option linter.unusedSimpArgs false
theorem info3:(Try.prog.info? 3).map (fun i=>(i.zero,i.size,i.bytes))=some (some (.int .i64 0),1,8):=by kernel_rfl
/-! ### impl_smallWeights: function 149 -/
mutual
def impl_smallWeights.l0 {σ:Type} (f:List Int→σ→Option σ):Nat→Int→Int→List Int→Int→Int→σ→Option σ
 | 0,_,_,_,_,_,_=>none
 | k+1,x0,x1,x6,x12,x13,s=>if x13<x12 then (if 0≤x13 then (if x13<(x6.length:Int) then (impl_smallWeights.l0 f k x0 x1 (x6.set (x13:Int).toNat (wrap64 (-x1))) x12 (wrap64 (x13+1)) s) else (none)) else (none)) else (impl_smallWeights.l1 f k x0 x1 x6 s)
def impl_smallWeights.l1 {σ:Type} (f:List Int→σ→Option σ):Nat→Int→Int→List Int→σ→Option σ
 | 0,_,_,_,_=>none
 | k+1,x0,x1,x6,s=>(f x6 s).bind fun s=>impl_smallWeights.l2 f k x0 x1 x6 (wrap64 (x0-1)) s
def impl_smallWeights.l2 {σ:Type} (f:List Int→σ→Option σ):Nat→Int→Int→List Int→Int→σ→Option σ
 | 0,_,_,_,_,_=>none
 | k+1,x0,x1,x6,x8,s=>if x8≥0 then (if 0≤x8 then (if x8<(x6.length:Int) then (if (rd x6 x8)=x1 then (impl_smallWeights.l2 f k x0 x1 (x6.set (x8:Int).toNat (wrap64 (-x1))) (wrap64 (x8-1)) s) else (if x8<0 then (some s) else (impl_smallWeights.l1 f k x0 x1 (x6.set (x8:Int).toNat (wrap64 ((rd x6 x8)+1))) s))) else (none)) else (none)) else (if x8<0 then (some s) else (if 0≤x8 then (if x8<(x6.length:Int) then (impl_smallWeights.l1 f k x0 x1 (x6.set (x8:Int).toNat (wrap64 ((rd x6 x8)+1))) s) else (none)) else (none)))
end
def impl_smallWeights.f {σ:Type} (f:List Int→σ→Option σ) (k:Nat) (a0:Int) (a1:Int) (s0:σ):Option σ:=if 0≤a0 then (if (a0:Int).toNat≤35184372088832 then ((some (List.replicate (a0:Int).toNat 0:List Int)).bind fun y101=>(impl_smallWeights.l0 f k a0 a1 y101 (y101.length:Int) 0 s0)) else (none)) else (none)
set_option maxHeartbeats 8000000 in
set_option maxRecDepth 100000 in
theorem impl_smallWeights.tell {σ:Type} (Inv:σ→Option Addr→World→Prop) (f:List Int→σ→Option σ) (S:Nat→Prop) (fv:Nat) (fn:Func) (cb:Array Value) (hfv:Try.prog.funcs[fv]? = some fn) (hnm:(fn.name == "runtime.NumGoroutine")=false) (hbd:fn.body.isSome=true) (w00 w:World) (hb00:Below w00.heap.size w00 w) (hS:∀ q,S q→q<w.heap.size)
    (hmove:∀ s A w1 w2,Inv s A w1→w.heap.size≤w1.heap.size→(∀ q,q<w1.heap.size→(∀ ad:Addr,A=some ad→q≠ad.block)→w2.heap[q]? = w1.heap[q]?)→Inv s A w2)
    (hvis:∀ (x:List Int) (s s' : σ) (A:Option Addr) (c:Nat) (w1:World),Inv s A w1→(∀ ad:Addr,A=some ad→w.heap.size≤ad.block∧ad.block<w1.heap.size)→f x s=some s' → Below w00.heap.size w00 w1→w.heap.size≤w1.heap.size→(∀ W',Kept w1 W' S→Kd.C (Kd.int .i64) W' A x.length x)→x.length≤c→Calls Try.prog fv (#[.slice A x.length c]++cb) w1 fun e w' => e = .returned (.tuple #[])∧Inv s' A w' ∧ Below w00.heap.size w00 w' ∧ Kept w1 w' S)
    (k:Nat) (a0:Int) (a1:Int) (s0 s1:σ) (hI:∀ A w1,(∀ ad:Addr,A=some ad→w.heap.size≤ad.block)→w.heap.size≤w1.heap.size→(∀ q,q<w.heap.size→w1.heap[q]? = w.heap[q]?)→Inv s0 A w1) (h:impl_smallWeights.f f k a0 a1 s0=some s1) :
    Calls Try.prog 149 #[.int .i64 a0,.int .i64 a1,.func (.func fv) #[] cb] w fun e w' => e = .returned (.tuple #[])∧(∃ A,Inv s1 A w')∧Below w00.heap.size w00 w' ∧ Kept w w' S:=by
 have HI:=Aside0.mk hI
 have HW0:=Aside0.mk hb00.size
 have HSS:=Aside0.mk hS
 have HMV:=Aside0.mk hmove
 have HVV:=Aside0.mk hvis
 have HB:=Aside0.mk (show Go.Proofs.Ytkbahcbankfffaa.Cl.Bk w00 w S w from ⟨hb00,Kept.refl w S⟩)
 clear hI hb00 hS hmove hvis
 have H:(if 0≤a0 then (if (a0:Int).toNat≤35184372088832 then ((some (List.replicate (a0:Int).toNat 0:List Int)).bind fun y101=>(impl_smallWeights.l0 f k a0 a1 y101 (y101.length:Int) 0 s0)) else (none)) else (none))=some s1:=h
 clear h
 by_cases c4:0≤a0
 · rw[if_pos c4] at H
   have c4b0:=eq_true c4
   have c4b1:decide (0≤a0)=true:=decide_eq_true c4
   clear c4
   by_cases c5:(a0:Int).toNat≤35184372088832
   · rw[if_pos c5] at H
     have c5b0:=eq_true c5
     have c5b1:decide ((a0:Int).toNat≤35184372088832)=true:=decide_eq_true c5
     clear c5
     obtain ⟨y101,hy101⟩:∃ y_:List Int,y_=(List.replicate (a0:Int).toNat 0):=⟨_,rfl⟩
     replace H:(impl_smallWeights.l0 f k a0 a1 y101 (y101.length:Int) 0 s0)=some s1:=by first|(rw[hy101];with_reducible exact H)|(have H2_:=(Option.bind_some _ _).symm.trans H;rw[hy101];with_reducible exact H2_)|(have H2_:=(Option.bind_some _ _).symm.trans H;with_reducible exact H2_)|with_reducible exact H|(rw[hy101];exact H)|exact H
     have Ny101:=Aside0.mk hy101
     clear hy101
     have H' := Aside0.mk H
     clear H
     go_enter Try.func149,Try.ntmps149
     go_wp2_with (first|((with_reducible refine gate_dst (N:=10) rfl ?_);refine Kd.R_make (Kd.int .i64) _ 3 rfl (N:=10) rfl 24 _ _ rfl a0 rfl rfl Try.underlying24 (.int .i64 0) 8 info3 rfl (by decide) (by omega) 0 (ok:=fun _=>True) (okp:=fun _=>True) rfl (fun _ hk=>hk) trivial (of_decide_eq_true aS) (Nat.le_trans (Nat.mul_le_mul_right _ (of_decide_eq_true aS:a0.toNat≤35184372088832)) (by omega)) (Below.refl _ _) (Nat.le_refl _) ?_;intro v102 w6 ho7 hb hg_ hnew_;clear hg_ hnew_;(first|rw[← Ny101.out] at ho7|(simp only[Int.reduceToNat] at ho7;rw[← Ny101.out] at ho7));have n0_:=Aside0.mk ho7;have n1_:=Aside0.mk (Go.Proofs.Ytkbahcbankfffaa.Cl.Bk.step HB.out hb);have n2_:=Aside0.mk (fun A hA=>HI.out A _ hA hb.size (fun q hq=>hb.block q hq));clear HB HI;have HO103:=n0_;have HB:=n1_;have HI:=n2_;clear n0_ n1_ n2_;clear hb ho7;obtain ⟨Ao8,co8,eo8⟩:=Kd.R_slice HO103.out;subst eo8))
     go_loopg [13] k (fun kq v13 w' => ∃ (s:σ) (x6_1:List Int) (x13_1:Int),v13 = .int .i64 x13_1∧Aside0 (impl_smallWeights.l0 f kq a0 a1 x6_1 (y101.length:Int) x13_1 s=some s1)∧Aside0 (kq≤k)∧Aside0 (Kd.R (Kd.int .i64) 3 w' w.heap.size (fun _=>True) (.slice Ao8 y101.length co8) x6_1)∧Aside0 (Go.Proofs.Ytkbahcbankfffaa.Cl.Bk w00 w S w')∧Aside0 (Inv s Ao8 w'))
     case atStart=>exact ⟨s0,(y101),(0),rD,H',⟨Nat.le_refl _⟩,⟨pR HO103⟩,HB,⟨HI.out _ (fun ad e_=>((Kd.R_bound HO103.out).1 ad.block (by rw[e_];simp[Value.ownBlock])).2.1)⟩⟩
     case round =>
      clear H'
      try clear c4
      try clear c4b0
      try clear c4b1
      try clear c5
      try clear c5b0
      try clear c5b1
      clear HI HB
      obtain ⟨s,x6_1,x13_1,rfl,HA,HK1,HO_6,HB,HI⟩:=hrel
      have hl6_1:=(Kd.R_reads' HO_6.out).1
      rw[hl6_1] at HO_6
      (try simp only[hl6_1])
      cases gk with
      | zero=>exact absurd HA.out (by simp[impl_smallWeights.l0])
      | succ k1 =>
       have H:=HA.out
       clear HA
       simp only[impl_smallWeights.l0] at H
       by_cases c9:x13_1<(y101.length:Int)
       · rw[if_pos c9] at H
         have c9b0:decide (x13_1<(y101.length:Int))=true:=decide_eq_true c9
         (try simp only[hl6_1] at c9b0)
         clear c9
         by_cases c10:0≤x13_1
         · rw[if_pos c10] at H
           have c10b0:decide (0≤x13_1)=true:=decide_eq_true c10
           clear c10
           by_cases c11:x13_1<(x6_1.length:Int)
           · rw[if_pos c11] at H
             have c11b0:decide (x13_1<(x6_1.length:Int))=true:=decide_eq_true c11
             (try simp only[hl6_1] at c11b0)
             clear c11
             obtain ⟨y104,hy104⟩:∃ y_:List Int,y_=(x6_1.set (x13_1:Int).toNat (wrap64 (-a1))):=⟨_,rfl⟩
             replace H:(impl_smallWeights.l0 f k1 a0 a1 y104 (y101.length:Int) (wrap64 (x13_1+1)) s)=some s1:=by first|(rw[hy104];with_reducible exact H)|(have H2_:=(Option.bind_some _ _).symm.trans H;rw[hy104];with_reducible exact H2_)|(have H2_:=(Option.bind_some _ _).symm.trans H;with_reducible exact H2_)|with_reducible exact H|(rw[hy104];exact H)|exact H
             have Ny104:=Aside0.mk hy104
             clear hy104
             have H' := Aside0.mk H
             clear H
             have p12:0≤(x13_1:Int):=of_decide_eq_true aS
             have q12:(x13_1:Int)<((x6_1.length:Int):Int):=of_decide_eq_true aS
             obtain ⟨go12,co12,eo12,gb12,gl12,cl12,HG12⟩:=Kd.R_form HO_6.out (by omega)
             (first|cases eo12|(injection eo12 with ea_ en_ ec_;(first|subst ea_|(injection ea_ with ea_;subst ea_));subst ec_;clear en_))
             have GB12:=Aside0.mk gb12
             have GG12:=Aside0.mk HG12
             clear gb12 gl12 HG12
             obtain ⟨hx12_0,hf12_0⟩:=Kd.R_celln 0 HO_6.out (x13_1:Int) p12 q12
             replace p12:=eq_true p12
             replace q12:=eq_true q12
             have HP13:=Kd.R_putg HO_6.out (x13_1:Int) (wrap64 (-a1))
             go_wp2_with (first|((with_reducible refine gate_store (t:=3) (p:=20) rfl ?_);refine store_event (t:=3) (p:=20) (v := ?vo_w14) (w1:=(wr.setCell ⟨go12,(x13_1:Int).toNat,none⟩ (.int .i64 (wrap64 (-a1))))) ?hg ?ho ?hn ?hr ?_;(case ho=>rfl);(case hg=>rfl);(case hn=>rfl);(case hr=>first|(go_simp;done)|(go_simp;rfl));intro w14 hw;have hg:wr.grownBy w14 (some go12):=(by rw[hw];exact HP13.2);have hp_:Kd.R (Kd.int .i64) 3 w14 w.heap.size (fun _=>True) (.slice (some ⟨go12,0,none⟩) x6_1.length co8) y104:=(by rw[hw,Ny104.out];exact HP13.1);clear HP13;have n0_:=Aside0.mk (hp_);have n1_:=Aside0.mk ((by rw[hw];exact Go.Proofs.Ytkbahcbankfffaa.Cl.Bk.set HB.out GB12.out HW0.out:Go.Proofs.Ytkbahcbankfffaa.Cl.Bk w00 w S w14));have n2_:Aside0 (Inv s (some ⟨go12,0,none⟩) w14):=Aside0.mk (by rw[hw];exact HMV.out s (some ⟨go12,0,none⟩) wr _ HI.out HB.out.2.1 (fun q _ hn=>Below.heap_setCell _ _ _ q (hn ⟨go12,0,none⟩ rfl)));clear HO_6;clear HB;clear HI;have HO_6:=n0_;have HB:=n1_;have HI:=n2_;clear n0_ n1_ n2_;clear hg hw hp_))
             (try simp only[← hl6_1])
             go_roundg k1
             case measure=>have:=HK1.out;omega
             case rel=>exact ⟨s,(y104),(wrap64 (x13_1+1)),rD,H',⟨by have:=HK1.out;omega⟩,⟨by (try simp only[hl6_1]);(with_reducible repeat (first|apply Kd.R_alloc|apply Kd.R_drewN|apply Kd.R_drew));exact HO_6.out⟩,HB,HI⟩
           · rw[if_neg c11] at H
             exact absurd H (by simp)
         · rw[if_neg c10] at H
           exact absurd H (by simp)
       · rw[if_neg c9] at H
         have c9b0:decide (x13_1<(y101.length:Int))=false:=decide_eq_false c9
         (try simp only[hl6_1] at c9b0)
         clear c9
         have H' := Aside0.mk H
         clear H
         go_wp2
         go_loopg [] k1 (fun kq w' => ∃ (s:σ) (x6_2:List Int),Aside0 (impl_smallWeights.l1 f kq a0 a1 x6_2 s=some s1)∧Aside0 (kq≤k1)∧Aside0 (Kd.R (Kd.int .i64) 3 w' w.heap.size (fun _=>True) (.slice Ao8 x6_1.length co8) x6_2)∧Aside0 (Go.Proofs.Ytkbahcbankfffaa.Cl.Bk w00 w S w')∧Aside0 (Inv s Ao8 w'))
         case atStart=>exact ⟨s,(x6_1),H',⟨Nat.le_refl _⟩,⟨by (try simp only[hl6_1]);(with_reducible repeat (first|apply Kd.R_alloc|apply Kd.R_drewN|apply Kd.R_drew));exact HO_6.out⟩,HB,HI⟩
         case round =>
          clear H'
          try clear c4
          try clear c4b0
          try clear c4b1
          try clear c5
          try clear c5b0
          try clear c5b1
          try clear c9
          try clear c9b0
          try clear c10
          clear HI HB HO_6
          obtain ⟨so,x6_2,HA,HK2,HO_6,HB,HI⟩:=hrel
          have hl6_2:=(Kd.R_reads' HO_6.out).1
          rw[hl6_2] at HO_6
          (try simp only[hl6_2])
          cases gk with
          | zero=>exact absurd HA.out (by simp[impl_smallWeights.l1])
          | succ k2 =>
           have H:=HA.out
           clear HA
           simp only[impl_smallWeights.l1] at H
           obtain ⟨s,hfs,H⟩:=Option.bind_eq_some_iff.mp H
           have H' := Aside0.mk H
           clear H
           have HVS:=Aside0.mk (HVV.out x6_2 so s _ _ wr HI.out (fun ad e_=>by have h_:=(Kd.R_bound HO_6.out).1 ad.block (by rw[e_];simp[Value.ownBlock]);exact ⟨h_.2.1,h_.2.2.1⟩) hfs HB.out.1 HB.out.2.1 (Kd.C_kept_own (Kd.R_mono (ok' := fun q=>w.heap.size≤q) (Kd.R_bound HO_6.out) (fun q hq=>hq.2.1)) (fun q hq hs=>by have:=HSS.out q hs;omega)) (Kd.R_reads' HO_6.out).2.1)
           clear hfs
           go_wp2_with (first|((with_reducible refine gate_dst (N:=24) rfl ?_);refine Go.Proofs.Ytkbahcbankfffaa.Cl.goesVL_ (some 24) rfl rfl cb hfv hnm hbd (#[.slice Ao8 x6_2.length co8]++cb) rfl (by rfl) Go.Proofs.Ytkbahcbankfffaa.Cl.aA ?_;refine HVS.out.mono ?_;rintro e w9 ⟨rfl,hI9,hB9,hK9⟩;refine ⟨_,rfl,?_⟩;have n0_:=Aside0.mk (Kd.R_mono (Kd.R_kept (ok:=fun q=>w.heap.size≤q) (Kd.R_mono (Kd.R_bound HO_6.out) (fun q hq=>hq.2.1)) hK9 (fun q hq hs=>by have:=HSS.out q hs;omega)) (fun _ _=>trivial));have n1_:=Aside0.mk (Go.Proofs.Ytkbahcbankfffaa.Cl.Bk.call HB.out hB9 hK9);have n2_:=Aside0.mk hI9;clear HO_6 HB HI HVS hI9 hB9 hK9;have HO_6:=n0_;have HB:=n1_;have HI:=n2_;clear n0_ n1_ n2_))
           go_loopg [8] k2 (fun kq v8 w' => ∃ (s:σ) (x6_3:List Int) (x8_3:Int),v8 = .int .i64 x8_3∧Aside0 (impl_smallWeights.l2 f kq a0 a1 x6_3 x8_3 s=some s1)∧Aside0 (kq≤k2)∧Aside0 (Kd.R (Kd.int .i64) 3 w' w.heap.size (fun _=>True) (.slice Ao8 x6_2.length co8) x6_3)∧Aside0 (Go.Proofs.Ytkbahcbankfffaa.Cl.Bk w00 w S w')∧Aside0 (Inv s Ao8 w'))
           case atStart=>exact ⟨s,(x6_2),(wrap64 (a0-1)),rD,H',⟨Nat.le_refl _⟩,⟨by (try simp only[hl6_1]);(try simp only[hl6_2]);(with_reducible repeat (first|apply Kd.R_alloc|apply Kd.R_drewN|apply Kd.R_drew));exact HO_6.out⟩,HB,HI⟩
           case round =>
            clear H'
            try clear c4
            try clear c4b0
            try clear c4b1
            try clear c5
            try clear c5b0
            try clear c5b1
            try clear c9
            try clear c9b0
            try clear c10
            clear HI HB HO_6
            obtain ⟨s,x6_3,x8_3,rfl,HA,HK3,HO_6,HB,HI⟩:=hrel
            have hl6_3:=(Kd.R_reads' HO_6.out).1
            rw[hl6_3] at HO_6
            (try simp only[hl6_3])
            cases gk with
            | zero=>exact absurd HA.out (by simp[impl_smallWeights.l2])
            | succ k3 =>
             have H:=HA.out
             clear HA
             simp only[impl_smallWeights.l2] at H
             by_cases c15:x8_3≥0
             · rw[if_pos c15] at H
               have c15b0:decide (0≤x8_3)=true:=decide_eq_true c15
               clear c15
               by_cases c16:0≤x8_3
               · rw[if_pos c16] at H
                 have c16b0:decide (0≤x8_3)=true:=decide_eq_true c16
                 clear c16
                 by_cases c17:x8_3<(x6_3.length:Int)
                 · rw[if_pos c17] at H
                   have c17b0:decide (x8_3<(x6_3.length:Int))=true:=decide_eq_true c17
                   (try simp only[hl6_1,hl6_2,hl6_3] at c17b0)
                   clear c17
                   by_cases c18:(rd x6_3 x8_3)=a1
                   · rw[if_pos c18] at H
                     have c18b0:((rd x6_3 x8_3)==a1)=true:=beq_iff_eq.mpr c18
                     have c18b1:((rd x6_3 x8_3) != a1)=false:=bne_eq_false_iff_eq.mpr c18
                     clear c18
                     obtain ⟨y106,hy106⟩:∃ y_:List Int,y_=(x6_3.set (x8_3:Int).toNat (wrap64 (-a1))):=⟨_,rfl⟩
                     replace H:(impl_smallWeights.l2 f k3 a0 a1 y106 (wrap64 (x8_3-1)) s)=some s1:=by first|(rw[hy106];with_reducible exact H)|(have H2_:=(Option.bind_some _ _).symm.trans H;rw[hy106];with_reducible exact H2_)|(have H2_:=(Option.bind_some _ _).symm.trans H;with_reducible exact H2_)|with_reducible exact H|(rw[hy106];exact H)|exact H
                     have Ny106:=Aside0.mk hy106
                     clear hy106
                     have H' := Aside0.mk H
                     clear H
                     have p105:0≤(x8_3:Int):=of_decide_eq_true aS
                     have q105:x8_3<(x6_3.length:Int):=of_decide_eq_true aS
                     obtain ⟨ad105,e105,hx105_0⟩:=Kd.at_int (Kd.R_reads' HO_6.out).2.2 x8_3 p105 q105
                     cases e105
                     replace p105:=eq_true p105
                     replace q105:=eq_true q105
                     have p19:0≤(x8_3:Int):=of_decide_eq_true aS
                     have q19:(x8_3:Int)<((x6_3.length:Int):Int):=of_decide_eq_true aS
                     obtain ⟨go19,co19,eo19,gb19,gl19,cl19,HG19⟩:=Kd.R_form HO_6.out (by omega)
                     (first|cases eo19|(injection eo19 with ea_ en_ ec_;(first|subst ea_|(injection ea_ with ea_;subst ea_));subst ec_;clear en_))
                     have GB19:=Aside0.mk gb19
                     have GG19:=Aside0.mk HG19
                     clear gb19 gl19 HG19
                     (first|simp only[add_plain] at hx105_0|skip)
                     obtain ⟨hx19_0,hf19_0⟩:=Kd.R_celln 0 HO_6.out (x8_3:Int) p19 q19
                     replace p19:=eq_true p19
                     replace q19:=eq_true q19
                     have HP20:=Kd.R_putg HO_6.out (x8_3:Int) (wrap64 (-a1))
                     go_wp2_with (first|((with_reducible refine gate_store (t:=3) (p:=41) rfl ?_);refine store_event (t:=3) (p:=41) (v := ?vo_w21) (w1:=(wr.setCell ⟨go19,(x8_3:Int).toNat,none⟩ (.int .i64 (wrap64 (-a1))))) ?hg ?ho ?hn ?hr ?_;(case ho=>rfl);(case hg=>rfl);(case hn=>rfl);(case hr=>first|(go_simp;done)|(go_simp;rfl));intro w21 hw;have hg:wr.grownBy w21 (some go19):=(by rw[hw];exact HP20.2);have hp_:Kd.R (Kd.int .i64) 3 w21 w.heap.size (fun _=>True) (.slice (some ⟨go19,0,none⟩) x6_3.length co8) y106:=(by rw[hw,Ny106.out];exact HP20.1);clear HP20;have n0_:=Aside0.mk (hp_);have n1_:=Aside0.mk ((by rw[hw];exact Go.Proofs.Ytkbahcbankfffaa.Cl.Bk.set HB.out GB19.out HW0.out:Go.Proofs.Ytkbahcbankfffaa.Cl.Bk w00 w S w21));have n2_:Aside0 (Inv s (some ⟨go19,0,none⟩) w21):=Aside0.mk (by rw[hw];exact HMV.out s (some ⟨go19,0,none⟩) wr _ HI.out HB.out.2.1 (fun q _ hn=>Below.heap_setCell _ _ _ q (hn ⟨go19,0,none⟩ rfl)));clear HO_6;clear HB;clear HI;have HO_6:=n0_;have HB:=n1_;have HI:=n2_;clear n0_ n1_ n2_;clear hg hw hp_))
                     (try simp only[← hl6_3])
                     go_roundg k3
                     case measure=>have:=HK1.out;have:=HK2.out;have:=HK3.out;omega
                     case rel=>exact ⟨s,(y106),(wrap64 (x8_3-1)),rD,H',⟨by have:=HK1.out;have:=HK2.out;have:=HK3.out;omega⟩,⟨by (try simp only[hl6_1]);(try simp only[hl6_2]);(try simp only[hl6_3]);(with_reducible repeat (first|apply Kd.R_alloc|apply Kd.R_drewN|apply Kd.R_drew));exact HO_6.out⟩,HB,HI⟩
                   · rw[if_neg c18] at H
                     have c18b0:((rd x6_3 x8_3)==a1)=false:=beq_eq_false_iff_ne.mpr c18
                     have c18b1:((rd x6_3 x8_3) != a1)=true:=bne_iff_ne.mpr c18
                     by_cases c22:x8_3<0
                     · rw[if_pos c22] at H
                       obtain rfl:=Option.some.inj H
                       have c22b0:decide (x8_3<0)=true:=decide_eq_true c22
                       clear c22
                       have p105:0≤(x8_3:Int):=of_decide_eq_true aS
                       have q105:x8_3<(x6_3.length:Int):=of_decide_eq_true aS
                       obtain ⟨ad105,e105,hx105_0⟩:=Kd.at_int (Kd.R_reads' HO_6.out).2.2 x8_3 p105 q105
                       cases e105
                       replace p105:=eq_true p105
                       replace q105:=eq_true q105
                       go_wp2
                       first|go_end0|((try simp only[Exit.inBlock,Exit.then]);refine bodyPost_ret (results_none rfl _ _ _) rfl ?_)
                       exact ⟨eW,⟨_,HI.out⟩,HB.out.1,HB.out.2⟩
                     · rw[if_neg c22] at H
                       have c22b0:decide (x8_3<0)=false:=decide_eq_false c22
                       clear c22
                       obtain ⟨y108,hy108⟩:∃ y_:List Int,y_=(x6_3.set (x8_3:Int).toNat (wrap64 ((rd x6_3 x8_3)+1))):=⟨_,rfl⟩
                       replace H:(impl_smallWeights.l1 f k3 a0 a1 y108 s)=some s1:=by first|(rw[hy108];with_reducible exact H)|(have H2_:=(Option.bind_some _ _).symm.trans H;rw[hy108];with_reducible exact H2_)|(have H2_:=(Option.bind_some _ _).symm.trans H;with_reducible exact H2_)|with_reducible exact H|(rw[hy108];exact H)|exact H
                       have Ny108:=Aside0.mk hy108
                       clear hy108
                       have H' := Aside0.mk H
                       clear H
                       have p105:0≤(x8_3:Int):=of_decide_eq_true aS
                       have q105:x8_3<(x6_3.length:Int):=of_decide_eq_true aS
                       obtain ⟨ad105,e105,hx105_0⟩:=Kd.at_int (Kd.R_reads' HO_6.out).2.2 x8_3 p105 q105
                       cases e105
                       replace p105:=eq_true p105
                       replace q105:=eq_true q105
                       have p107:0≤(x8_3:Int):=of_decide_eq_true aS
                       have q107:x8_3<(x6_3.length:Int):=of_decide_eq_true aS
                       obtain ⟨ad107,e107,hx107_0⟩:=Kd.at_int (Kd.R_reads' HO_6.out).2.2 x8_3 p107 q107
                       obtain rfl:ad105=ad107:=(by injection e107)
                       replace p107:=eq_true p107
                       replace q107:=eq_true q107
                       have p23:0≤(x8_3:Int):=of_decide_eq_true aS
                       have q23:(x8_3:Int)<((x6_3.length:Int):Int):=of_decide_eq_true aS
                       obtain ⟨go23,co23,eo23,gb23,gl23,cl23,HG23⟩:=Kd.R_form HO_6.out (by omega)
                       (first|cases eo23|(injection eo23 with ea_ en_ ec_;(first|subst ea_|(injection ea_ with ea_;subst ea_));subst ec_;clear en_))
                       have GB23:=Aside0.mk gb23
                       have GG23:=Aside0.mk HG23
                       clear gb23 gl23 HG23
                       (first|simp only[add_plain] at hx105_0|skip)
                       (first|simp only[add_plain] at hx107_0|skip)
                       obtain ⟨hx23_0,hf23_0⟩:=Kd.R_celln 0 HO_6.out (x8_3:Int) p23 q23
                       replace p23:=eq_true p23
                       replace q23:=eq_true q23
                       have HP24:=Kd.R_putg HO_6.out (x8_3:Int) (wrap64 ((rd x6_3 x8_3)+1))
                       go_wp2_with (first|((with_reducible refine gate_store (t:=3) (p:=51) rfl ?_);refine store_event (t:=3) (p:=51) (v := ?vo_w25) (w1:=(wr.setCell ⟨go23,(x8_3:Int).toNat,none⟩ (.int .i64 (wrap64 ((rd x6_3 x8_3)+1))))) ?hg ?ho ?hn ?hr ?_;(case ho=>rfl);(case hg=>rfl);(case hn=>rfl);(case hr=>first|(go_simp;done)|(go_simp;rfl));intro w25 hw;have hg:wr.grownBy w25 (some go23):=(by rw[hw];exact HP24.2);have hp_:Kd.R (Kd.int .i64) 3 w25 w.heap.size (fun _=>True) (.slice (some ⟨go23,0,none⟩) x6_3.length co8) y108:=(by rw[hw,Ny108.out];exact HP24.1);clear HP24;have n0_:=Aside0.mk (hp_);have n1_:=Aside0.mk ((by rw[hw];exact Go.Proofs.Ytkbahcbankfffaa.Cl.Bk.set HB.out GB23.out HW0.out:Go.Proofs.Ytkbahcbankfffaa.Cl.Bk w00 w S w25));have n2_:Aside0 (Inv s (some ⟨go23,0,none⟩) w25):=Aside0.mk (by rw[hw];exact HMV.out s (some ⟨go23,0,none⟩) wr _ HI.out HB.out.2.1 (fun q _ hn=>Below.heap_setCell _ _ _ q (hn ⟨go23,0,none⟩ rfl)));clear HO_6;clear HB;clear HI;have HO_6:=n0_;have HB:=n1_;have HI:=n2_;clear n0_ n1_ n2_;clear hg hw hp_))
                       (try simp only[← hl6_2,← hl6_3])
                       go_roundg k3
                       case measure=>have:=HK1.out;have:=HK2.out;have:=HK3.out;omega
                       case rel=>exact ⟨s,(y108),H',⟨by have:=HK1.out;have:=HK2.out;have:=HK3.out;omega⟩,⟨by (try simp only[hl6_1]);(try simp only[hl6_2]);(try simp only[hl6_3]);(with_reducible repeat (first|apply Kd.R_alloc|apply Kd.R_drewN|apply Kd.R_drew));exact HO_6.out⟩,HB,HI⟩
                 · rw[if_neg c17] at H
                   exact absurd H (by simp)
               · rw[if_neg c16] at H
                 exact absurd H (by simp)
             · rw[if_neg c15] at H
               have c15b0:decide (0≤x8_3)=false:=decide_eq_false c15
               clear c15
               by_cases c26:x8_3<0
               · rw[if_pos c26] at H
                 obtain rfl:=Option.some.inj H
                 have c26b0:decide (x8_3<0)=true:=decide_eq_true c26
                 clear c26
                 go_wp2
                 first|go_end0|((try simp only[Exit.inBlock,Exit.then]);refine bodyPost_ret (results_none rfl _ _ _) rfl ?_)
                 exact ⟨eW,⟨_,HI.out⟩,HB.out.1,HB.out.2⟩
               · exact absurd (Int.not_le.1 (of_decide_eq_false c15b0)) c26
   · rw[if_neg c5] at H
     exact absurd H (by simp)
 · rw[if_neg c4] at H
   exact absurd H (by simp)
end Go.Proofs.Ytkbahcbankfffaa.Sm
