import Derived.Test.YtpknkpbellchgaaPFnExactDuelWorstx0
import Derived.Test.YtpknkpbellchgaaSh
import Derived.Test.YtpknkpbellchgaaCl
import Derived.Test.YtpknkpbellchgaaRg
import Derived.Test.YtpknkpbellchgaaDuA
import Derived.Maps.Own
import Derived.LoopN
import Derived.DeepKeys4
import Derived.Maps.Views
import Derived.Maps.OwnSet
namespace Go.Proofs.Ytpknkpbellchgaa.PFnExactDuelWorst
open Go.RowKit Go.Proofs.Ytpknkpbellchgaa.Sh Go.Proofs.YtpknkpbellchgaaW.PrintWords Go.Proofs.YtpknkpbellchgaaW.PrintLast Go.Proofs.YtpknkpbellchgaaW.PrintMore
attribute [local go_sem] max2_int min2_int max_two min_two max_three min_three max_four min_four
set_option linter.unusedVariables false
set_option linter.unusedSimpArgs false
set_option maxHeartbeats 8000000
set_option maxRecDepth 100000
attribute [local go_sem] ix0 ix1 ix2 ix3 pt0 pt1 pt2 pt3 eq33
theorem visit_calls (Z:St→Prop) (B M gA gT gD:Nat) (s p:St) (m:Nat) (hs:ok8 s) (hp:le4 p s) (W:World) (hE:Env Z B M gA gT gD s m W) (hBW:B≤W.heap.size) (hBM:B≤M) (hG:Dl.Gc s.1 s.2.1 s.2.2.1 s.2.2.2 p.1 p.2.1 p.2.2.1 p.2.2.2=true) (hIH:∀ s',ok8 s'→Dl.lessd (Dl.wtd s.1 s.2.1 s.2.2.1 s.2.2.2) s'.1 s'.2.1 s'.2.2.1 s'.2.2.2=true→∀ w L,Inv Z w M L→B≤w.heap.size→Calls Try.prog 12 #[.map (some M),aS s'] w fun e w'=>e=.returned (.int .i64 (tS s':Int))∧Below B w w'∧Kept w w' (fun q=>q=M)∧∃ L',Inv Z w' M L'):
 Calls Try.prog 23 #[aS p,.pointer (some ⟨gA,0,none⟩),.pointer (some ⟨gT,0,none⟩),.pointer (some ⟨gD,0,none⟩)] W fun e W'=>e=.returned (.bool false)∧Below B W W'∧Kept W W' (fun q=>q=gT∨q=M)∧Env Z B M gA gT gD s (Dl.Gd s.1 s.2.1 s.2.2.1 s.2.2.2 p.1 p.2.1 p.2.2.1 p.2.2.2 m) W':=by
  have hLess:=@less_S s p hs hp
  have hB1:=@behind_S s (rest s p) hs rest_le
  have hB2:=@behind_S s p hs hp
  obtain ⟨r,hr⟩:∃ r,rest s p=r:=⟨_,rfl⟩
  rw[hr] at hLess hB1
  obtain ⟨o1,ho1⟩:∃ r_,low s r=r_:=⟨_,rfl⟩
  obtain ⟨o2,ho2⟩:∃ r_,low s p=r_:=⟨_,rfl⟩
  obtain ⟨v1,hv1⟩:∃ r_,liv o1=r_:=⟨_,rfl⟩
  obtain ⟨v2,hv2⟩:∃ r_,liv o2=r_:=⟨_,rfl⟩
  rw[ho1,hv1] at hB1
  rw[ho2,hv2] at hB2
  have hGd:=Gd_eq hp m
  rw[Gc_eq hp] at hG
  rw[hr,ho1,ho2,hv1,hv2] at hGd hG
  replace hGd:=Aside0.mk hGd;replace hG:=Aside0.mk hG;replace hIH:=Aside0.mk hIH
  clear hr ho1 ho2 hv1 hv2 hs
  replace hp:=Aside0.mk hp;replace hBW:=Aside0.mk hBW
  have e0:Below W.heap.size W (W.alloc (cA p)):=below_alloc (Below.refl _ _) _
  have E0:=Aside0.mk (hE.below e0)
  have Y0:=Aside0.mk (heap_alloc_new W (cA p))
  have HL:=Aside0.mk hLess
  have HB1:=Aside0.mk hB1
  have HB2:=Aside0.mk hB2
  have HB:=Aside0.mk e0
  clear hLess hB1 hB2 e0 hE
  obtain ⟨p1,p2,p3,p4⟩:=p
  obtain ⟨r1,r2,r3,r4⟩:=r
  obtain ⟨a1,a2,a3,a4⟩:=s
  obtain ⟨x1,x2,x3,x4⟩:=o1
  obtain ⟨y1,y2,y3,y4⟩:=o2
  obtain ⟨q0,q1,q2,q3⟩:=four E0.out.a
  obtain ⟨z0,z1,z2,z3⟩:=four Y0.out
  generalize hw1:W.alloc (cA (p1,p2,p3,p4))=w1 at *
  unfold cA at hw1
  simp only [aS,arr] at HL HB1 HB2
  unfold aS arr
  go_enter Try.func23,Try.ntmps23
  go_upto_region 6 with (first|(go_at_call 24;refine (HL.out _).mono ?_;rintro e w2 ⟨rfl,hb⟩;clear q0 q1 q2 q3 z0 z1 z2 z3;have hb3:=below_alloc hb (cA (r1,r2,r3,r4));have E1:=Aside0.mk (E0.out.below hb3);have Y1:=Aside0.mk (blk_below Y0.out hb3);have R1:=Aside0.mk (heap_alloc_new w2 (cA (r1,r2,r3,r4)));replace HB:=Aside0.mk (below_step HB.out hb3);clear hb hb3 E0 Y0 hw1;obtain ⟨q0,q1,q2,q3⟩:=four E1.out.a;obtain ⟨z0,z1,z2,z3⟩:=four R1.out;generalize hw3:w2.alloc (cA (r1,r2,r3,r4))=w3 at *;unfold cA at hw3)|(go_at_call 25;refine (HB1.out _).mono ?_;rintro e w4 ⟨rfl,hb⟩;clear q0 q1 q2 q3 z0 z1 z2 z3;have hb3:=below_alloc hb (cA (x1,x2,x3,x4));have E2:=Aside0.mk (E1.out.below hb3);have Y2:=Aside0.mk (blk_below Y1.out hb3);have X2:=Aside0.mk (heap_alloc_new w4 (cA (x1,x2,x3,x4)));replace HB:=Aside0.mk (below_step HB.out hb3);clear hb hb3 E1 Y1 R1 hw3 HB1;obtain ⟨q0,q1,q2,q3⟩:=four E2.out.a;obtain ⟨z0,z1,z2,z3⟩:=four Y2.out;generalize hw5:w4.alloc (cA (x1,x2,x3,x4))=w5 at *;unfold cA at hw5)|(go_at_call 25;refine (HB2.out _).mono ?_;rintro e w6 ⟨rfl,hb⟩;clear q0 q1 q2 q3 z0 z1 z2 z3;have hb3:=below_alloc hb (cA (y1,y2,y3,y4));have E3:=Aside0.mk (E2.out.below hb3);have X3:=Aside0.mk (blk_below X2.out hb3);have Z3:=Aside0.mk (heap_alloc_new w6 (cA (y1,y2,y3,y4)));replace HB:=Aside0.mk (below_step HB.out hb3);clear hb hb3 E2 Y2 X2 hw5 HB2;generalize hw7:w6.alloc (cA (y1,y2,y3,y4))=w7 at *;unfold cA at hw7))
  obtain ⟨q0,q1,q2,q3⟩:=four E3.out.a
  obtain ⟨z0,z1,z2,z3⟩:=four X3.out
  obtain ⟨u0,u1,u2,u3⟩:=four Z3.out
  cases v1
  · go_wp2
    go_ret
    exact ⟨rfl,HB.out.mono hBW.out,Kept.of_below HB.out _,by rw[hGd.out];exact E3.out⟩
  cases v2
  · go_wp2
    go_ret
    exact ⟨rfl,HB.out.mono hBW.out,Kept.of_below HB.out _,by rw[hGd.out];exact E3.out⟩
  obtain ⟨b1,hb1⟩:∃ b,eqS (x1,x2,x3,x4) (a1,a2,a3,a4)=b:=⟨_,rfl⟩
  obtain ⟨b2,hb2⟩:∃ b,eqS (y1,y2,y3,y4) (a1,a2,a3,a4)=b:=⟨_,rfl⟩
  have hc1:=eqS_int (x1,x2,x3,x4) (a1,a2,a3,a4)
  have hc2:=eqS_int (y1,y2,y3,y4) (a1,a2,a3,a4)
  rw[hb1] at hc1;rw[hb2] at hc2
  simp only at hc1 hc2
  replace hGd:=hGd.out;replace hG:=hG.out
  rw[hb1,hb2] at hGd hG
  simp only [Bool.and_self,cond_true] at hGd hG
  replace hGd:=Aside0.mk hGd
  clear hb1 hb2
  cases b1
  rotate_left
  · have HT2:=Aside0.mk (hIH.out (y1,y2,y3,y4) (lessd_ok hG) hG)
    simp only [aS,arr] at HT2
    clear hIH hG hBM
    go_wp2
    refine start_ (n:=7) (S:=fun w'=>w'.cell? ⟨gT,0,none⟩=some (.int .i64 (m:Int))∧w'.cell? ⟨gD,0,none⟩=some (.map (some M))∧w'.cell? ⟨w6.heap.size,0,none⟩=some (.int .i64 (y1:Int))∧w'.cell? ⟨w6.heap.size,1,none⟩=some (.int .i64 (y2:Int))∧w'.cell? ⟨w6.heap.size,2,none⟩=some (.int .i64 (y3:Int))∧w'.cell? ⟨w6.heap.size,3,none⟩=some (.int .i64 (y4:Int))) (ds:=[6]) #[false,false,false,false,false,false,false] (by kernel_rfl) rfl rfl ⟨(blk_cell E3.out.t 0).trans rfl,(blk_cell E3.out.d 0).trans rfl,u0,u1,u2,u3⟩ (fun aa=>?_)
    have E4:=Aside0.mk (E3.out.drew)
    have Z4:=Aside0.mk (blk_drew Z3.out)
    have HB4:=Aside0.mk (below_drew1 HB.out)
    clear E3 X3 Z3 HB q0 q1 q2 q3 z0 z1 z2 z3 u0 u1 u2 u3
    generalize w7.drew=w8 at *
    refine tW 0 56 aa ?_;refine tW 1 57 aa ?_;refine tW 2 58 aa ?_
    refine oW 3 59 (fun K hK=>?_)
    refine gO Try.func12 #[.map (some M),.agg #[.int .i64 (y1:Int),.int .i64 (y2:Int),.int .i64 (y3:Int),.int .i64 (y4:Int)]] ?_
    obtain ⟨L0,hI0⟩:=E4.out.m
    refine (HT2.out w8 L0 hI0 (Nat.le_trans hBW.out HB4.out.size)).mono ?_
    rintro e w9 ⟨rfl,hb,hk,hL⟩
    refine ⟨_,rfl,?_⟩
    have E5:=Aside0.mk (E4.out.kept hk hL)
    have Z5:=Aside0.mk (blk_kept Z4.out hk (hI0.far Z4.out))
    have HB5:=Aside0.mk (Below.trans (HB4.out.mono hBW.out) hb)
    have HK5:=Aside0.mk (Kept.then_ (Kept.of_below HB4.out (fun q=>q=gT∨q=M)) hk (fun _ hq=>.inl (.inr hq)))
    have HF:=Aside0.mk (hI0.far E4.out.t)
    clear hb hk hL E4 Z4 HB4 hI0
    obtain ⟨u0,u1,u2,u3⟩:=four Z5.out
    refine hK.out _ _ ⟨(blk_cell E5.out.t 0).trans rfl,(blk_cell E5.out.d 0).trans rfl,u0,u1,u2,u3⟩ (fun aa=>?_);clear hK K
    refine nV 59 ?_
    refine vV 4 60 ?_
    have hmx:=mx_int (m:=m) (tS_le (y1,y2,y3,y4))
    refine vV 5 61 ?_
    refine lW 6 (fun K hK=>?_)
    have f0:w9.cell? ⟨gT,0,none⟩=some (.int .i64 (m:Int)):=(blk_cell E5.out.t 0).trans rfl
    have f1:=blk_frozen E5.out.t 0
    refine skip_ (w1:=?_) (by rfl) rfl ?_ ?_;rotate_left
    · go_simp;rfl
    refine hK.out _ _ ?_;clear hK K;refine dW ?_
    clear hmx
    go_wp2
    go_ret
    refine ⟨rfl,fin E5.out HB5.out HK5.out HF.out ?_⟩
    rw[hGd.out];rfl
  cases b2
  rotate_left
  · have HT1:=Aside0.mk (hIH.out (x1,x2,x3,x4) (lessd_ok hG) hG)
    simp only [aS,arr] at HT1
    clear hIH hG hBM
    go_wp2
    refine start_ (n:=7) (S:=fun w'=>w'.cell? ⟨gT,0,none⟩=some (.int .i64 (m:Int))∧w'.cell? ⟨gD,0,none⟩=some (.map (some M))∧w'.cell? ⟨w4.heap.size,0,none⟩=some (.int .i64 (x1:Int))∧w'.cell? ⟨w4.heap.size,1,none⟩=some (.int .i64 (x2:Int))∧w'.cell? ⟨w4.heap.size,2,none⟩=some (.int .i64 (x3:Int))∧w'.cell? ⟨w4.heap.size,3,none⟩=some (.int .i64 (x4:Int))) (ds:=[6]) #[false,false,false,false,false,false,false] (by kernel_rfl) rfl rfl ⟨(blk_cell E3.out.t 0).trans rfl,(blk_cell E3.out.d 0).trans rfl,z0,z1,z2,z3⟩ (fun aa=>?_)
    have E4:=Aside0.mk (E3.out.drew)
    have Z4:=Aside0.mk (blk_drew X3.out)
    have HB4:=Aside0.mk (below_drew1 HB.out)
    clear E3 X3 Z3 HB q0 q1 q2 q3 z0 z1 z2 z3 u0 u1 u2 u3
    generalize w7.drew=w8 at *
    refine tW 0 66 aa ?_;refine tW 1 67 aa ?_;refine tW 2 68 aa ?_
    refine oW 3 69 (fun K hK=>?_)
    refine gO Try.func12 #[.map (some M),.agg #[.int .i64 (x1:Int),.int .i64 (x2:Int),.int .i64 (x3:Int),.int .i64 (x4:Int)]] ?_
    obtain ⟨L0,hI0⟩:=E4.out.m
    refine (HT1.out w8 L0 hI0 (Nat.le_trans hBW.out HB4.out.size)).mono ?_
    rintro e w9 ⟨rfl,hb,hk,hL⟩
    refine ⟨_,rfl,?_⟩
    have E5:=Aside0.mk (E4.out.kept hk hL)
    have Z5:=Aside0.mk (blk_kept Z4.out hk (hI0.far Z4.out))
    have HB5:=Aside0.mk (Below.trans (HB4.out.mono hBW.out) hb)
    have HK5:=Aside0.mk (Kept.then_ (Kept.of_below HB4.out (fun q=>q=gT∨q=M)) hk (fun _ hq=>.inl (.inr hq)))
    have HF:=Aside0.mk (hI0.far E4.out.t)
    clear hb hk hL E4 Z4 HB4 hI0
    obtain ⟨u0,u1,u2,u3⟩:=four Z5.out
    refine hK.out _ _ ⟨(blk_cell E5.out.t 0).trans rfl,(blk_cell E5.out.d 0).trans rfl,u0,u1,u2,u3⟩ (fun aa=>?_);clear hK K
    refine nV 69 ?_
    refine vV 4 70 ?_
    have hmx:=mx_int (m:=m) (tS_le (x1,x2,x3,x4))
    refine vV 5 71 ?_
    refine lW 6 (fun K hK=>?_)
    have f0:w9.cell? ⟨gT,0,none⟩=some (.int .i64 (m:Int)):=(blk_cell E5.out.t 0).trans rfl
    have f1:=blk_frozen E5.out.t 0
    refine skip_ (w1:=?_) (by rfl) rfl ?_ ?_;rotate_left
    · go_simp;rfl
    refine hK.out _ _ ?_;clear hK K;refine dW ?_
    clear hmx
    go_wp2
    go_ret
    refine ⟨rfl,fin E5.out HB5.out HK5.out HF.out ?_⟩
    rw[hGd.out];rfl
  simp only [cond_false,Bool.and_eq_true] at hG
  have HT2:=Aside0.mk (hIH.out (y1,y2,y3,y4) (lessd_ok hG.1) hG.1)
  have HT1:=Aside0.mk (hIH.out (x1,x2,x3,x4) (lessd_ok hG.2) hG.2)
  simp only [aS,arr] at HT1 HT2
  clear hIH hG hBM
  go_wp2
  refine start_ (n:=8) (S:=fun w'=>w'.cell? ⟨gD,0,none⟩=some (.map (some M))∧w'.cell? ⟨w4.heap.size,0,none⟩=some (.int .i64 (x1:Int))∧w'.cell? ⟨w4.heap.size,1,none⟩=some (.int .i64 (x2:Int))∧w'.cell? ⟨w4.heap.size,2,none⟩=some (.int .i64 (x3:Int))∧w'.cell? ⟨w4.heap.size,3,none⟩=some (.int .i64 (x4:Int))∧w'.cell? ⟨w6.heap.size,0,none⟩=some (.int .i64 (y1:Int))∧w'.cell? ⟨w6.heap.size,1,none⟩=some (.int .i64 (y2:Int))∧w'.cell? ⟨w6.heap.size,2,none⟩=some (.int .i64 (y3:Int))∧w'.cell? ⟨w6.heap.size,3,none⟩=some (.int .i64 (y4:Int))) (ds:=[]) #[false,false,false,false,false,false,false,false] (by kernel_rfl) rfl rfl ⟨(blk_cell E3.out.d 0).trans rfl,z0,z1,z2,z3,u0,u1,u2,u3⟩ (fun aa=>?_)
  have E4:=Aside0.mk (E3.out.drew)
  have X4:=Aside0.mk (blk_drew X3.out)
  have Z4:=Aside0.mk (blk_drew Z3.out)
  have HB4:=Aside0.mk (below_drew1 HB.out)
  clear E3 X3 Z3 HB q0 q1 q2 q3 z0 z1 z2 z3 u0 u1 u2 u3
  generalize w7.drew=w8 at *
  refine tW 0 28 aa ?_;refine tW 1 29 aa ?_;refine tW 3 31 aa ?_;refine tW 4 32 aa ?_
  refine oW 2 30 (fun K hK=>?_)
  refine gO Try.func12 #[.map (some M),.agg #[.int .i64 (x1:Int),.int .i64 (x2:Int),.int .i64 (x3:Int),.int .i64 (x4:Int)]] ?_
  obtain ⟨L0,hI0⟩:=E4.out.m
  refine (HT1.out w8 L0 hI0 (Nat.le_trans hBW.out HB4.out.size)).mono ?_
  rintro e w9 ⟨rfl,hb,hk,hL⟩
  refine ⟨_,rfl,?_⟩
  have E5:=Aside0.mk (E4.out.kept hk hL)
  have X5:=Aside0.mk (blk_kept X4.out hk (hI0.far X4.out))
  have Z5:=Aside0.mk (blk_kept Z4.out hk (hI0.far Z4.out))
  have HB5:=Aside0.mk (Below.trans (HB4.out.mono hBW.out) hb)
  have HK5:=Aside0.mk (Kept.then_ (Kept.of_below HB4.out (fun q=>q=gT∨q=M)) hk (fun _ hq=>.inl (.inr hq)))
  clear hb hk hL E4 X4 Z4 HB4 hI0
  obtain ⟨u0,u1,u2,u3⟩:=four Z5.out
  obtain ⟨z0,z1,z2,z3⟩:=four X5.out
  refine hK.out _ _ ⟨(blk_cell E5.out.d 0).trans rfl,z0,z1,z2,z3,u0,u1,u2,u3⟩ (fun aa=>?_);clear hK K
  refine nV 30 ?_
  refine oW 5 33 (fun K hK=>?_)
  refine gO Try.func12 #[.map (some M),.agg #[.int .i64 (y1:Int),.int .i64 (y2:Int),.int .i64 (y3:Int),.int .i64 (y4:Int)]] ?_
  obtain ⟨L0,hI0⟩:=E5.out.m
  refine (HT2.out w9 L0 hI0 (Nat.le_trans hBW.out HK5.out.1)).mono ?_
  rintro e w10 ⟨rfl,hb,hk,hL⟩
  refine ⟨_,rfl,?_⟩
  have E6:=Aside0.mk (E5.out.kept hk hL)
  have X6:=Aside0.mk (blk_kept X5.out hk (hI0.far X5.out))
  have Z6:=Aside0.mk (blk_kept Z5.out hk (hI0.far Z5.out))
  have HB6:=Aside0.mk (Below.trans HB5.out hb)
  have HK6:=Aside0.mk (HK5.out.then_ hk (fun _ hq=>.inl (.inr hq)))
  have HF:=Aside0.mk (hI0.far E5.out.t)
  clear hb hk hL E5 X5 Z5 HB5 HK5 hI0 u0 u1 u2 u3 z0 z1 z2 z3
  obtain ⟨u0,u1,u2,u3⟩:=four Z6.out
  obtain ⟨z0,z1,z2,z3⟩:=four X6.out
  refine hK.out _ _ ⟨(blk_cell E6.out.d 0).trans rfl,z0,z1,z2,z3,u0,u1,u2,u3⟩ (fun aa=>?_);clear hK K
  refine nV 33 ?_
  refine vV 6 11 ?_;refine vV 7 12 ?_;refine dW ?_
  clear u0 u1 u2 u3 z0 z1 z2 z3
  have f0:w10.cell? ⟨gT,0,none⟩=some (.int .i64 (m:Int)):=(blk_cell E6.out.t 0).trans rfl
  have f1:=blk_frozen E6.out.t 0
  generalize htx:tS (x1,x2,x3,x4)=tx at *
  generalize hty:tS (y1,y2,y3,y4)=ty at *
  have hx15:tx≤15:=by rw[← htx];exact tS_le _
  have hy15:ty≤15:=by rw[← hty];exact tS_le _
  have k1:=mx_int (m:=tx) hy15
  have k2:=mx_int (m:=ty) hx15
  have k3:=mn_int (Dl.mx tx (Nat.succ ty)) (Dl.mx ty (Nat.succ tx))
  have k5:=mn_nat (Dl.mx tx (Nat.succ ty)) (Dl.mx ty (Nat.succ tx))
  have k6:=mx_nat' m (Dl.mn (Dl.mx tx (Nat.succ ty)) (Dl.mx ty (Nat.succ tx)))
  have k4:=mx_nat m (Dl.mn (Dl.mx tx (Nat.succ ty)) (Dl.mx ty (Nat.succ tx)))
  generalize hv3:Dl.mx m (Dl.mn (Dl.mx tx (Nat.succ ty)) (Dl.mx ty (Nat.succ tx)))=v3 at *
  generalize hv2:Dl.mn (Dl.mx tx (Nat.succ ty)) (Dl.mx ty (Nat.succ tx))=v2 at *
  generalize hv1:Dl.mx tx (Nat.succ ty)=va at *
  generalize hv0:Dl.mx ty (Nat.succ tx)=vb at *
  clear htx hty hx15 hy15 hv2 hv1 hv0 hv3
  go_wp2
  go_ret
  refine ⟨rfl,fin E6.out HB6.out HK6.out HF.out ?_⟩
  rw[hGd.out];rfl
end Go.Proofs.Ytpknkpbellchgaa.PFnExactDuelWorst
