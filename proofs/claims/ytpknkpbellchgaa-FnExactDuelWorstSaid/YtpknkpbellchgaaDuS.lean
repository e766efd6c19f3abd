import Derived.Test.YtpknkpbellchgaaPFnExactDuelWorstx0
import Derived.Test.YtpknkpbellchgaaSh
import Derived.Test.YtpknkpbellchgaaCl
import Derived.Test.YtpknkpbellchgaaRg
import Derived.Test.YtpknkpbellchgaaDuV
import Derived.Maps.Own
import Derived.LoopN
import Derived.DeepKeys4
import Derived.Maps.Views
import Derived.Maps.OwnSet
namespace Go.Proofs.Ytpknkpbellchgaa.PFnExactDuelWorst
open Go.RowKit Go.Proofs.Ytpknkpbellchgaa.Sh Go.Proofs.YtpknkpbellchgaaW.PrintWords Go.Proofs.YtpknkpbellchgaaW.PrintLast Go.Proofs.YtpknkpbellchgaaW.PrintMore
attribute [local go_sem] max2_int min2_int max_two min_two max_three min_three max_four min_four
set_option linter.unusedVariables false
set_option linter.unusedSimpArgs false
set_option maxHeartbeats 8000000
set_option maxRecDepth 100000
attribute [local go_sem] ix0 ix1 ix2 ix3 pt0 pt1 pt2 pt3 eq33
theorem from_step {k a b c d w x y z m:Nat} {r:Nat} (h:Dl.from_ a b c d (k+1) w x y z m=some r):Dl.Gc a b c d w x y z=true∧(bif Nat.blt z d then Dl.from_ a b c d k w x y (Nat.succ z) (Dl.Gd a b c d w x y z m) else bif Nat.blt y c then Dl.from_ a b c d k w x (Nat.succ y) 0 (Dl.Gd a b c d w x y z m) else bif Nat.blt x b then Dl.from_ a b c d k w (Nat.succ x) 0 0 (Dl.Gd a b c d w x y z m) else bif Nat.blt w a then Dl.from_ a b c d k (Nat.succ w) 0 0 0 (Dl.Gd a b c d w x y z m) else some (Dl.Gd a b c d w x y z m))=some r:=by
  unfold Dl.from_ at h
  cases hg:Dl.Gc a b c d w x y z with
  | false=>rw[hg] at h;cases h
  | true=>rw[hg] at h;exact ⟨rfl,h⟩
theorem blt_t {x y:Nat} (h:x<y):Nat.blt x y=true:=by unfold Nat.blt;rw[Nat.ble_eq];exact h
theorem blt_f {x y:Nat} (h:¬x<y):Nat.blt x y=false:=by
  unfold Nat.blt
  rw[← Bool.not_eq_true,Nat.ble_eq]
  exact h
def SP (Z:St→Prop) (B M gA gT gD gB gP:Nat) (W:World) (s:St) (m':Nat) (kq:Nat) (w':World):Prop:=∃ (p:St) (m:Nat),Dl.from_ s.1 s.2.1 s.2.2.1 s.2.2.2 kq p.1 p.2.1 p.2.2.1 p.2.2.2 m=some m'∧le4 p s∧Env Z B M gA gT gD s m w'∧w'.heap[gB]? = some (cA s)∧w'.heap[gP]? = some (cA p)∧Below B W w'∧Kept W w' (fun q=>q=gT∨q=M)
def NT (B M gA gT gD n:Nat):Prop:=gT≠n∧M≠n∧gT≠n+1∧M≠n+1∧B≤n+1∧gA≠n+1∧gD≠n+1
theorem Env.far {Z:St→Prop} {B M gA gT gD n:Nat} {s:St} {m:Nat} {W:World} (h:Env Z B M gA gT gD s m W) (j:Nat) (hn:NT B M gA gT gD n) (v:Value):Env Z B M gA gT gD s m (W.setCell ⟨n+1,j,none⟩ v):=by
  obtain ⟨n1,n2,n3,n4,n5,n6,n7⟩:=hn
  exact ⟨blk_far h.a n6 _,blk_far h.t n3 _,blk_far h.d n7 _,h.m.imp fun L hL=>hL.same (Below.heap_setCell _ _ _ _ n4),h.b⟩
theorem eight {g g':Nat} {s p:St} {W:World} (h:W.heap[g]? = some (cA p)) (h':W.heap[g']? = some (cA s)):W.cell? ⟨g,0,none⟩=some (.int .i64 (p.1:Int))∧W.cell? ⟨g,1,none⟩=some (.int .i64 (p.2.1:Int))∧W.cell? ⟨g,2,none⟩=some (.int .i64 (p.2.2.1:Int))∧W.cell? ⟨g,3,none⟩=some (.int .i64 (p.2.2.2:Int))∧W.cell? ⟨g',0,none⟩=some (.int .i64 (s.1:Int))∧W.cell? ⟨g',1,none⟩=some (.int .i64 (s.2.1:Int))∧W.cell? ⟨g',2,none⟩=some (.int .i64 (s.2.2.1:Int))∧W.cell? ⟨g',3,none⟩=some (.int .i64 (s.2.2.2:Int)):=
  ⟨(four h).1,(four h).2.1,(four h).2.2.1,(four h).2.2.2,four h'⟩
theorem splits_calls (Z:St→Prop) (B M gA gT gD:Nat) (s:St) (k m':Nat) (hs:ok8 s) (W:World) (hE:Env Z B M gA gT gD s 0 W) (hBW:B≤W.heap.size) (hBM:B≤M) (hF:Dl.from_ s.1 s.2.1 s.2.2.1 s.2.2.2 k 0 0 0 0 0=some m') (hIH:∀ s',ok8 s'→Dl.lessd (Dl.wtd s.1 s.2.1 s.2.2.1 s.2.2.2) s'.1 s'.2.1 s'.2.2.1 s'.2.2.2=true→∀ w L,Inv Z w M L→B≤w.heap.size→Calls Try.prog 12 #[.map (some M),aS s'] w fun e w'=>e=.returned (.int .i64 (tS s':Int))∧Below B w w'∧Kept w w' (fun q=>q=M)∧∃ L',Inv Z w' M L'):
 Calls Try.prog 22 #[aS s,.func (.func 23) #[] #[.pointer (some ⟨gA,0,none⟩),.pointer (some ⟨gT,0,none⟩),.pointer (some ⟨gD,0,none⟩)]] W fun e W'=>e=.returned (.tuple #[])∧Below B W W'∧Kept W W' (fun q=>q=gT∨q=M)∧Env Z B M gA gT gD s m' W':=by
  have HV:=Aside0.mk (fun (p:St) (m:Nat) (hp:le4 p s) (W:World) (hE:Env Z B M gA gT gD s m W) (hb:B≤W.heap.size) (hG:Dl.Gc s.1 s.2.1 s.2.2.1 s.2.2.2 p.1 p.2.1 p.2.2.1 p.2.2.2=true)=>visit_calls Z B M gA gT gD s p m hs hp W hE hb hBM hG hIH)
  have hb0:Below W.heap.size W (W.alloc (cA s)):=below_alloc (Below.refl _ _) _
  have hb1:Below W.heap.size W ((W.alloc (cA s)).alloc (cA (0,0,0,0))):=below_alloc hb0 _
  have HS:=Aside0.mk (show SP Z B M gA gT gD W.heap.size (W.heap.size+1) W s m' k ((W.alloc (cA s)).alloc (cA (0,0,0,0))) from ⟨(0,0,0,0),0,hF,⟨Nat.zero_le _,Nat.zero_le _,Nat.zero_le _,Nat.zero_le _⟩,hE.below hb1,blk_alloc (blk_new W (cA s)) _,by have h:=blk_new (W.alloc (cA s)) (cA (0,0,0,0));rw[World.size_alloc] at h;exact h,hb1.mono hBW,Kept.of_below hb1 _⟩)
  have hgB:W.heap.size<W.heap.size+1:=Nat.lt_succ_self _
  have HBW:=Aside0.mk hBW
  have NT0:=Aside0.mk (show NT B M gA gT gD W.heap.size from ⟨Nat.ne_of_lt (blk_lt hE.t),Nat.ne_of_lt (hE.m.elim fun L hL=>hL.lt),Nat.ne_of_lt (Nat.lt_succ_of_lt (blk_lt hE.t)),Nat.ne_of_lt (Nat.lt_succ_of_lt (hE.m.elim fun L hL=>hL.lt)),Nat.le_succ_of_le hBW,Nat.ne_of_lt (Nat.lt_succ_of_lt (blk_lt hE.a)),Nat.ne_of_lt (Nat.lt_succ_of_lt (blk_lt hE.d))⟩)
  have hs8:=Aside0.mk hs
  clear hIH hF hE hs hBM hb0 hb1 hBW hgB
  obtain ⟨a1,a2,a3,a4⟩:=s
  unfold aS arr
  go_enter Try.func22,Try.ntmps22
  go_wp2
  go_loopg [] k (fun kq w'=>Aside0 (SP Z B M gA gT gD W.heap.size (W.heap.size+1) W (a1,a2,a3,a4) m' kq w'))
  case atStart=>exact HS
  case round=>
    obtain ⟨⟨p1,p2,p3,p4⟩,m,hf,hp,hE,hB,hP,hb,hk⟩:=hrel.out
    clear hrel HS
    cases gk with
    | zero=>cases hf
    | succ k1=>
      obtain ⟨hG,hf⟩:=from_step hf
      have HC:=Aside0.mk (HV.out (p1,p2,p3,p4) m hp wr hE (Nat.le_trans HBW.out hk.1) hG)
      have NB:=Aside0.mk (show ¬(W.heap.size=gT∨W.heap.size=M) from fun h=>h.elim (fun h=>NT0.out.1 h.symm) (fun h=>NT0.out.2.1 h.symm))
      have NP:=Aside0.mk (show ¬(W.heap.size+1=gT∨W.heap.size+1=M) from fun h=>h.elim (fun h=>NT0.out.2.2.1 h.symm) (fun h=>NT0.out.2.2.2.1 h.symm))
      have GB:=Aside0.mk hB;have GP:=Aside0.mk hP;have HBR:=Aside0.mk hb;have HKR:=Aside0.mk hk;have HP:=Aside0.mk hp
      obtain ⟨q0,q1,q2,q3⟩:=four hP
      clear hE hB hP hb hk hG hp
      by_cases c4:p4<a4
      · rw[blt_t c4] at hf
        simp only [cond_true] at hf
        replace hf:=Aside0.mk hf
        have n4:((p4:Int)==(a4:Int))=false:=beq_eq_false_iff_ne.mpr (by omega)
        replace c4:=Aside0.mk c4
        go_upto_region 3 with (first|((with_reducible refine gate_dst (N:=9) rfl ?_);refine Go.Proofs.Ytpknkpbellchgaa.Cl.goesVL_ (some 9) rfl rfl #[.pointer (some ⟨gA,0,none⟩),.pointer (some ⟨gT,0,none⟩),.pointer (some ⟨gD,0,none⟩)] Try.func23 (by kernel_rfl) rfl #[aS (p1,p2,p3,p4),.pointer (some ⟨gA,0,none⟩),.pointer (some ⟨gT,0,none⟩),.pointer (some ⟨gD,0,none⟩)] rfl (by rfl) Go.Proofs.Ytpknkpbellchgaa.Cl.aV ?_;refine HC.out.mono ?_;rintro e w9 ⟨rfl,hb9,hk9,hE9⟩;refine ⟨_,rfl,?_⟩;have HB:=Aside0.mk (Below.trans HBR.out hb9);have HK:=Aside0.mk (HKR.out.then_ hk9 (fun _ hq=>.inl hq));have HE:=Aside0.mk hE9;have GB9:=Aside0.mk (blk_kept GB.out hk9 NB.out);have GP9:=Aside0.mk (blk_kept GP.out hk9 NP.out);clear hb9 hk9 hE9 q0 q1 q2 q3 HC GB GP HBR HKR))
        go_wp2
        refine wp_loop_rounds 6 ?_
        rw[rounds_succ]
        go_wp2
        refine start_ (n:=11) (S:=fun w'=>w'.cell? ⟨W.heap.size+1,0,none⟩=some (.int .i64 (p1:Int))∧w'.cell? ⟨W.heap.size+1,1,none⟩=some (.int .i64 (p2:Int))∧w'.cell? ⟨W.heap.size+1,2,none⟩=some (.int .i64 (p3:Int))∧w'.cell? ⟨W.heap.size+1,3,none⟩=some (.int .i64 (p4:Int))∧w'.cell? ⟨W.heap.size,0,none⟩=some (.int .i64 (a1:Int))∧w'.cell? ⟨W.heap.size,1,none⟩=some (.int .i64 (a2:Int))∧w'.cell? ⟨W.heap.size,2,none⟩=some (.int .i64 (a3:Int))∧w'.cell? ⟨W.heap.size,3,none⟩=some (.int .i64 (a4:Int))) (ds:=[]) #[false,false,false,false,false,false,false,false,false,false,false] (by kernel_rfl) rfl rfl (eight GP9.out GB9.out) (fun aa=>?_)
        replace GP9:=Aside0.mk (blk_drew GP9.out);replace GB9:=Aside0.mk (blk_drew GB9.out);replace HB:=Aside0.mk (below_drew1 HB.out);replace HK:=Aside0.mk (HK.out.drew);replace HE:=Aside0.mk HE.out.drew
        generalize hww:World.drew _=v0 at *;clear hww
        refine vV 0 10 ?_;refine vV 1 11 ?_;refine vV 2 12 ?_;refine vV 3 13 ?_;refine vV 4 14 ?_;refine tW 5 15 aa ?_;refine vV 6 16 ?_;refine vV 7 17 ?_;refine tW 8 18 aa ?_;refine vV 9 19 ?_;refine vV 10 20 ?_;refine dW ?_
        clear aa
        have f0:=blk_frozen GP9.out 3;have q0:=(four GP9.out).2.2.2
        have wv:wrap64 ((p4:Int)+1)=((Nat.succ p4:Nat):Int):=by have h1:=hs8.out;have h2:=c4.out;unfold ok8 at h1;simp only at h1;unfold wrap64;omega
        go_wp2
        clear f0 q0 wv
        go_roundg k1
        case measure=>exact Nat.lt_succ_self _
        refine ⟨(p1,p2,p3,Nat.succ p4),_,hf.out,by have h1:=HP.out;have h2:=c4.out;unfold le4 at h1 ⊢;simp only at h1 ⊢;omega,HE.out.far 3 NT0.out _,blk_far (p:=⟨W.heap.size+1,3,none⟩) GB9.out (Nat.ne_of_lt (Nat.lt_succ_self _)) _,(blk_set GP9.out 3 _).trans rfl,HB.out.setCell (p:=⟨W.heap.size+1,3,none⟩) NT0.out.2.2.2.2.1 _,HK.out.setCell (p:=⟨W.heap.size+1,3,none⟩) (.inr (Nat.le_succ _)) _⟩
      rw[blt_f c4] at hf
      obtain rfl:a4=p4:=(Nat.le_antisymm HP.out.2.2.2 (Nat.le_of_not_lt c4)).symm
      clear c4
      by_cases c3:p3<a3
      · rw[blt_t c3] at hf
        simp only [cond_true] at hf
        replace hf:=Aside0.mk hf
        have n3:((p3:Int)==(a3:Int))=false:=beq_eq_false_iff_ne.mpr (by omega)
        replace c3:=Aside0.mk c3
        go_upto_region 3 with (first|((with_reducible refine gate_dst (N:=9) rfl ?_);refine Go.Proofs.Ytpknkpbellchgaa.Cl.goesVL_ (some 9) rfl rfl #[.pointer (some ⟨gA,0,none⟩),.pointer (some ⟨gT,0,none⟩),.pointer (some ⟨gD,0,none⟩)] Try.func23 (by kernel_rfl) rfl #[aS (p1,p2,p3,a4),.pointer (some ⟨gA,0,none⟩),.pointer (some ⟨gT,0,none⟩),.pointer (some ⟨gD,0,none⟩)] rfl (by rfl) Go.Proofs.Ytpknkpbellchgaa.Cl.aV ?_;refine HC.out.mono ?_;rintro e w9 ⟨rfl,hb9,hk9,hE9⟩;refine ⟨_,rfl,?_⟩;have HB:=Aside0.mk (Below.trans HBR.out hb9);have HK:=Aside0.mk (HKR.out.then_ hk9 (fun _ hq=>.inl hq));have HE:=Aside0.mk hE9;have GB9:=Aside0.mk (blk_kept GB.out hk9 NB.out);have GP9:=Aside0.mk (blk_kept GP.out hk9 NP.out);clear hb9 hk9 hE9 q0 q1 q2 q3 HC GB GP HBR HKR))
        go_wp2
        refine wp_loop_rounds 6 ?_
        rw[rounds_succ]
        go_wp2
        refine start_ (n:=11) (S:=fun w'=>w'.cell? ⟨W.heap.size+1,0,none⟩=some (.int .i64 (p1:Int))∧w'.cell? ⟨W.heap.size+1,1,none⟩=some (.int .i64 (p2:Int))∧w'.cell? ⟨W.heap.size+1,2,none⟩=some (.int .i64 (p3:Int))∧w'.cell? ⟨W.heap.size+1,3,none⟩=some (.int .i64 (a4:Int))∧w'.cell? ⟨W.heap.size,0,none⟩=some (.int .i64 (a1:Int))∧w'.cell? ⟨W.heap.size,1,none⟩=some (.int .i64 (a2:Int))∧w'.cell? ⟨W.heap.size,2,none⟩=some (.int .i64 (a3:Int))∧w'.cell? ⟨W.heap.size,3,none⟩=some (.int .i64 (a4:Int))) (ds:=[]) #[false,false,false,false,false,false,false,false,false,false,false] (by kernel_rfl) rfl rfl (eight GP9.out GB9.out) (fun aa=>?_)
        replace GP9:=Aside0.mk (blk_drew GP9.out);replace GB9:=Aside0.mk (blk_drew GB9.out);replace HB:=Aside0.mk (below_drew1 HB.out);replace HK:=Aside0.mk (HK.out.drew);replace HE:=Aside0.mk HE.out.drew
        generalize hww:World.drew _=v0 at *;clear hww
        refine vV 0 10 ?_;refine vV 1 11 ?_;refine vV 2 12 ?_;refine vV 3 13 ?_;refine vV 4 14 ?_;refine tW 5 15 aa ?_;refine vV 6 16 ?_;refine vV 7 17 ?_;refine tW 8 18 aa ?_;refine vV 9 19 ?_;refine vV 10 20 ?_;refine dW ?_
        clear aa
        have f0:=blk_frozen GP9.out 3;have q0:=(four GP9.out).2.2.2
        go_wp2
        clear f0 q0
        replace GP9:=Aside0.mk (show (World.setCell v0 ⟨W.heap.size+1,3,none⟩ (.int .i64 0)).heap[W.heap.size+1]? = some (cA (p1,p2,p3,0)) from (blk_set GP9.out 3 _).trans rfl);replace GB9:=Aside0.mk (show (World.setCell v0 ⟨W.heap.size+1,3,none⟩ (.int .i64 0)).heap[W.heap.size]? = some (cA (a1,a2,a3,a4)) from blk_far (p:=⟨W.heap.size+1,3,none⟩) GB9.out (Nat.ne_of_lt (Nat.lt_succ_self _)) (.int .i64 0));replace HB:=Aside0.mk (HB.out.setCell (p:=⟨W.heap.size+1,3,none⟩) NT0.out.2.2.2.2.1 (.int .i64 0));replace HK:=Aside0.mk (HK.out.setCell (p:=⟨W.heap.size+1,3,none⟩) (.inr (Nat.le_succ _)) (.int .i64 0));replace HE:=Aside0.mk (HE.out.far 3 NT0.out (.int .i64 0))
        generalize hww:World.setCell v0 ⟨W.heap.size+1,3,none⟩ (.int .i64 0)=u0 at *;clear hww
        rw[rounds_succ]
        go_wp2
        refine start_ (n:=11) (S:=fun w'=>w'.cell? ⟨W.heap.size+1,0,none⟩=some (.int .i64 (p1:Int))∧w'.cell? ⟨W.heap.size+1,1,none⟩=some (.int .i64 (p2:Int))∧w'.cell? ⟨W.heap.size+1,2,none⟩=some (.int .i64 (p3:Int))∧w'.cell? ⟨W.heap.size+1,3,none⟩=some (.int .i64 (0:Int))∧w'.cell? ⟨W.heap.size,0,none⟩=some (.int .i64 (a1:Int))∧w'.cell? ⟨W.heap.size,1,none⟩=some (.int .i64 (a2:Int))∧w'.cell? ⟨W.heap.size,2,none⟩=some (.int .i64 (a3:Int))∧w'.cell? ⟨W.heap.size,3,none⟩=some (.int .i64 (a4:Int))) (ds:=[]) #[false,false,false,false,false,false,false,false,false,false,false] (by kernel_rfl) rfl rfl (eight GP9.out GB9.out) (fun aa=>?_)
        replace GP9:=Aside0.mk (blk_drew GP9.out);replace GB9:=Aside0.mk (blk_drew GB9.out);replace HB:=Aside0.mk (below_drew1 HB.out);replace HK:=Aside0.mk (HK.out.drew);replace HE:=Aside0.mk HE.out.drew
        generalize hww:World.drew _=v1 at *;clear hww
        refine vV 0 10 ?_;refine vV 1 11 ?_;refine vV 2 12 ?_;refine vV 3 13 ?_;refine vV 4 14 ?_;refine tW 5 15 aa ?_;refine vV 6 16 ?_;refine vV 7 17 ?_;refine tW 8 18 aa ?_;refine vV 9 19 ?_;refine vV 10 20 ?_;refine dW ?_
        clear aa
        have f0:=blk_frozen GP9.out 2;have q0:=(four GP9.out).2.2.1
        have wv:wrap64 ((p3:Int)+1)=((Nat.succ p3:Nat):Int):=by have h1:=hs8.out;have h2:=c3.out;unfold ok8 at h1;simp only at h1;unfold wrap64;omega
        go_wp2
        clear f0 q0 wv
        go_roundg k1
        case measure=>exact Nat.lt_succ_self _
        refine ⟨(p1,p2,Nat.succ p3,0),_,hf.out,by have h1:=HP.out;have h2:=c3.out;unfold le4 at h1 ⊢;simp only at h1 ⊢;omega,HE.out.far 2 NT0.out _,blk_far (p:=⟨W.heap.size+1,2,none⟩) GB9.out (Nat.ne_of_lt (Nat.lt_succ_self _)) _,(blk_set GP9.out 2 _).trans rfl,HB.out.setCell (p:=⟨W.heap.size+1,2,none⟩) NT0.out.2.2.2.2.1 _,HK.out.setCell (p:=⟨W.heap.size+1,2,none⟩) (.inr (Nat.le_succ _)) _⟩
      rw[blt_f c3] at hf
      obtain rfl:a3=p3:=(Nat.le_antisymm HP.out.2.2.1 (Nat.le_of_not_lt c3)).symm
      clear c3
      by_cases c2:p2<a2
      · rw[blt_t c2] at hf
        simp only [cond_true] at hf
        replace hf:=Aside0.mk hf
        have n2:((p2:Int)==(a2:Int))=false:=beq_eq_false_iff_ne.mpr (by omega)
        replace c2:=Aside0.mk c2
        go_upto_region 3 with (first|((with_reducible refine gate_dst (N:=9) rfl ?_);refine Go.Proofs.Ytpknkpbellchgaa.Cl.goesVL_ (some 9) rfl rfl #[.pointer (some ⟨gA,0,none⟩),.pointer (some ⟨gT,0,none⟩),.pointer (some ⟨gD,0,none⟩)] Try.func23 (by kernel_rfl) rfl #[aS (p1,p2,a3,a4),.pointer (some ⟨gA,0,none⟩),.pointer (some ⟨gT,0,none⟩),.pointer (some ⟨gD,0,none⟩)] rfl (by rfl) Go.Proofs.Ytpknkpbellchgaa.Cl.aV ?_;refine HC.out.mono ?_;rintro e w9 ⟨rfl,hb9,hk9,hE9⟩;refine ⟨_,rfl,?_⟩;have HB:=Aside0.mk (Below.trans HBR.out hb9);have HK:=Aside0.mk (HKR.out.then_ hk9 (fun _ hq=>.inl hq));have HE:=Aside0.mk hE9;have GB9:=Aside0.mk (blk_kept GB.out hk9 NB.out);have GP9:=Aside0.mk (blk_kept GP.out hk9 NP.out);clear hb9 hk9 hE9 q0 q1 q2 q3 HC GB GP HBR HKR))
        go_wp2
        refine wp_loop_rounds 6 ?_
        rw[rounds_succ]
        go_wp2
        refine start_ (n:=11) (S:=fun w'=>w'.cell? ⟨W.heap.size+1,0,none⟩=some (.int .i64 (p1:Int))∧w'.cell? ⟨W.heap.size+1,1,none⟩=some (.int .i64 (p2:Int))∧w'.cell? ⟨W.heap.size+1,2,none⟩=some (.int .i64 (a3:Int))∧w'.cell? ⟨W.heap.size+1,3,none⟩=some (.int .i64 (a4:Int))∧w'.cell? ⟨W.heap.size,0,none⟩=some (.int .i64 (a1:Int))∧w'.cell? ⟨W.heap.size,1,none⟩=some (.int .i64 (a2:Int))∧w'.cell? ⟨W.heap.size,2,none⟩=some (.int .i64 (a3:Int))∧w'.cell? ⟨W.heap.size,3,none⟩=some (.int .i64 (a4:Int))) (ds:=[]) #[false,false,false,false,false,false,false,false,false,false,false] (by kernel_rfl) rfl rfl (eight GP9.out GB9.out) (fun aa=>?_)
        replace GP9:=Aside0.mk (blk_drew GP9.out);replace GB9:=Aside0.mk (blk_drew GB9.out);replace HB:=Aside0.mk (below_drew1 HB.out);replace HK:=Aside0.mk (HK.out.drew);replace HE:=Aside0.mk HE.out.drew
        generalize hww:World.drew _=v0 at *;clear hww
        refine vV 0 10 ?_;refine vV 1 11 ?_;refine vV 2 12 ?_;refine vV 3 13 ?_;refine vV 4 14 ?_;refine tW 5 15 aa ?_;refine vV 6 16 ?_;refine vV 7 17 ?_;refine tW 8 18 aa ?_;refine vV 9 19 ?_;refine vV 10 20 ?_;refine dW ?_
        clear aa
        have f0:=blk_frozen GP9.out 3;have q0:=(four GP9.out).2.2.2
        go_wp2
        clear f0 q0
        replace GP9:=Aside0.mk (show (World.setCell v0 ⟨W.heap.size+1,3,none⟩ (.int .i64 0)).heap[W.heap.size+1]? = some (cA (p1,p2,a3,0)) from (blk_set GP9.out 3 _).trans rfl);replace GB9:=Aside0.mk (show (World.setCell v0 ⟨W.heap.size+1,3,none⟩ (.int .i64 0)).heap[W.heap.size]? = some (cA (a1,a2,a3,a4)) from blk_far (p:=⟨W.heap.size+1,3,none⟩) GB9.out (Nat.ne_of_lt (Nat.lt_succ_self _)) (.int .i64 0));replace HB:=Aside0.mk (HB.out.setCell (p:=⟨W.heap.size+1,3,none⟩) NT0.out.2.2.2.2.1 (.int .i64 0));replace HK:=Aside0.mk (HK.out.setCell (p:=⟨W.heap.size+1,3,none⟩) (.inr (Nat.le_succ _)) (.int .i64 0));replace HE:=Aside0.mk (HE.out.far 3 NT0.out (.int .i64 0))
        generalize hww:World.setCell v0 ⟨W.heap.size+1,3,none⟩ (.int .i64 0)=u0 at *;clear hww
        rw[rounds_succ]
        go_wp2
        refine start_ (n:=11) (S:=fun w'=>w'.cell? ⟨W.heap.size+1,0,none⟩=some (.int .i64 (p1:Int))∧w'.cell? ⟨W.heap.size+1,1,none⟩=some (.int .i64 (p2:Int))∧w'.cell? ⟨W.heap.size+1,2,none⟩=some (.int .i64 (a3:Int))∧w'.cell? ⟨W.heap.size+1,3,none⟩=some (.int .i64 (0:Int))∧w'.cell? ⟨W.heap.size,0,none⟩=some (.int .i64 (a1:Int))∧w'.cell? ⟨W.heap.size,1,none⟩=some (.int .i64 (a2:Int))∧w'.cell? ⟨W.heap.size,2,none⟩=some (.int .i64 (a3:Int))∧w'.cell? ⟨W.heap.size,3,none⟩=some (.int .i64 (a4:Int))) (ds:=[]) #[false,false,false,false,false,false,false,false,false,false,false] (by kernel_rfl) rfl rfl (eight GP9.out GB9.out) (fun aa=>?_)
        replace GP9:=Aside0.mk (blk_drew GP9.out);replace GB9:=Aside0.mk (blk_drew GB9.out);replace HB:=Aside0.mk (below_drew1 HB.out);replace HK:=Aside0.mk (HK.out.drew);replace HE:=Aside0.mk HE.out.drew
        generalize hww:World.drew _=v1 at *;clear hww
        refine vV 0 10 ?_;refine vV 1 11 ?_;refine vV 2 12 ?_;refine vV 3 13 ?_;refine vV 4 14 ?_;refine tW 5 15 aa ?_;refine vV 6 16 ?_;refine vV 7 17 ?_;refine tW 8 18 aa ?_;refine vV 9 19 ?_;refine vV 10 20 ?_;refine dW ?_
        clear aa
        have f0:=blk_frozen GP9.out 2;have q0:=(four GP9.out).2.2.1
        go_wp2
        clear f0 q0
        replace GP9:=Aside0.mk (show (World.setCell v1 ⟨W.heap.size+1,2,none⟩ (.int .i64 0)).heap[W.heap.size+1]? = some (cA (p1,p2,0,0)) from (blk_set GP9.out 2 _).trans rfl);replace GB9:=Aside0.mk (show (World.setCell v1 ⟨W.heap.size+1,2,none⟩ (.int .i64 0)).heap[W.heap.size]? = some (cA (a1,a2,a3,a4)) from blk_far (p:=⟨W.heap.size+1,2,none⟩) GB9.out (Nat.ne_of_lt (Nat.lt_succ_self _)) (.int .i64 0));replace HB:=Aside0.mk (HB.out.setCell (p:=⟨W.heap.size+1,2,none⟩) NT0.out.2.2.2.2.1 (.int .i64 0));replace HK:=Aside0.mk (HK.out.setCell (p:=⟨W.heap.size+1,2,none⟩) (.inr (Nat.le_succ _)) (.int .i64 0));replace HE:=Aside0.mk (HE.out.far 2 NT0.out (.int .i64 0))
        generalize hww:World.setCell v1 ⟨W.heap.size+1,2,none⟩ (.int .i64 0)=u1 at *;clear hww
        rw[rounds_succ]
        go_wp2
        refine start_ (n:=11) (S:=fun w'=>w'.cell? ⟨W.heap.size+1,0,none⟩=some (.int .i64 (p1:Int))∧w'.cell? ⟨W.heap.size+1,1,none⟩=some (.int .i64 (p2:Int))∧w'.cell? ⟨W.heap.size+1,2,none⟩=some (.int .i64 (0:Int))∧w'.cell? ⟨W.heap.size+1,3,none⟩=some (.int .i64 (0:Int))∧w'.cell? ⟨W.heap.size,0,none⟩=some (.int .i64 (a1:Int))∧w'.cell? ⟨W.heap.size,1,none⟩=some (.int .i64 (a2:Int))∧w'.cell? ⟨W.heap.size,2,none⟩=some (.int .i64 (a3:Int))∧w'.cell? ⟨W.heap.size,3,none⟩=some (.int .i64 (a4:Int))) (ds:=[]) #[false,false,false,false,false,false,false,false,false,false,false] (by kernel_rfl) rfl rfl (eight GP9.out GB9.out) (fun aa=>?_)
        replace GP9:=Aside0.mk (blk_drew GP9.out);replace GB9:=Aside0.mk (blk_drew GB9.out);replace HB:=Aside0.mk (below_drew1 HB.out);replace HK:=Aside0.mk (HK.out.drew);replace HE:=Aside0.mk HE.out.drew
        generalize hww:World.drew _=v2 at *;clear hww
        refine vV 0 10 ?_;refine vV 1 11 ?_;refine vV 2 12 ?_;refine vV 3 13 ?_;refine vV 4 14 ?_;refine tW 5 15 aa ?_;refine vV 6 16 ?_;refine vV 7 17 ?_;refine tW 8 18 aa ?_;refine vV 9 19 ?_;refine vV 10 20 ?_;refine dW ?_
        clear aa
        have f0:=blk_frozen GP9.out 1;have q0:=(four GP9.out).2.1
        have wv:wrap64 ((p2:Int)+1)=((Nat.succ p2:Nat):Int):=by have h1:=hs8.out;have h2:=c2.out;unfold ok8 at h1;simp only at h1;unfold wrap64;omega
        go_wp2
        clear f0 q0 wv
        go_roundg k1
        case measure=>exact Nat.lt_succ_self _
        refine ⟨(p1,Nat.succ p2,0,0),_,hf.out,by have h1:=HP.out;have h2:=c2.out;unfold le4 at h1 ⊢;simp only at h1 ⊢;omega,HE.out.far 1 NT0.out _,blk_far (p:=⟨W.heap.size+1,1,none⟩) GB9.out (Nat.ne_of_lt (Nat.lt_succ_self _)) _,(blk_set GP9.out 1 _).trans rfl,HB.out.setCell (p:=⟨W.heap.size+1,1,none⟩) NT0.out.2.2.2.2.1 _,HK.out.setCell (p:=⟨W.heap.size+1,1,none⟩) (.inr (Nat.le_succ _)) _⟩
      rw[blt_f c2] at hf
      obtain rfl:a2=p2:=(Nat.le_antisymm HP.out.2.1 (Nat.le_of_not_lt c2)).symm
      clear c2
      by_cases c1:p1<a1
      · rw[blt_t c1] at hf
        simp only [cond_true] at hf
        replace hf:=Aside0.mk hf
        have n1:((p1:Int)==(a1:Int))=false:=beq_eq_false_iff_ne.mpr (by omega)
        replace c1:=Aside0.mk c1
        go_upto_region 3 with (first|((with_reducible refine gate_dst (N:=9) rfl ?_);refine Go.Proofs.Ytpknkpbellchgaa.Cl.goesVL_ (some 9) rfl rfl #[.pointer (some ⟨gA,0,none⟩),.pointer (some ⟨gT,0,none⟩),.pointer (some ⟨gD,0,none⟩)] Try.func23 (by kernel_rfl) rfl #[aS (p1,a2,a3,a4),.pointer (some ⟨gA,0,none⟩),.pointer (some ⟨gT,0,none⟩),.pointer (some ⟨gD,0,none⟩)] rfl (by rfl) Go.Proofs.Ytpknkpbellchgaa.Cl.aV ?_;refine HC.out.mono ?_;rintro e w9 ⟨rfl,hb9,hk9,hE9⟩;refine ⟨_,rfl,?_⟩;have HB:=Aside0.mk (Below.trans HBR.out hb9);have HK:=Aside0.mk (HKR.out.then_ hk9 (fun _ hq=>.inl hq));have HE:=Aside0.mk hE9;have GB9:=Aside0.mk (blk_kept GB.out hk9 NB.out);have GP9:=Aside0.mk (blk_kept GP.out hk9 NP.out);clear hb9 hk9 hE9 q0 q1 q2 q3 HC GB GP HBR HKR))
        go_wp2
        refine wp_loop_rounds 6 ?_
        rw[rounds_succ]
        go_wp2
        refine start_ (n:=11) (S:=fun w'=>w'.cell? ⟨W.heap.size+1,0,none⟩=some (.int .i64 (p1:Int))∧w'.cell? ⟨W.heap.size+1,1,none⟩=some (.int .i64 (a2:Int))∧w'.cell? ⟨W.heap.size+1,2,none⟩=some (.int .i64 (a3:Int))∧w'.cell? ⟨W.heap.size+1,3,none⟩=some (.int .i64 (a4:Int))∧w'.cell? ⟨W.heap.size,0,none⟩=some (.int .i64 (a1:Int))∧w'.cell? ⟨W.heap.size,1,none⟩=some (.int .i64 (a2:Int))∧w'.cell? ⟨W.heap.size,2,none⟩=some (.int .i64 (a3:Int))∧w'.cell? ⟨W.heap.size,3,none⟩=some (.int .i64 (a4:Int))) (ds:=[]) #[false,false,false,false,false,false,false,false,false,false,false] (by kernel_rfl) rfl rfl (eight GP9.out GB9.out) (fun aa=>?_)
        replace GP9:=Aside0.mk (blk_drew GP9.out);replace GB9:=Aside0.mk (blk_drew GB9.out);replace HB:=Aside0.mk (below_drew1 HB.out);replace HK:=Aside0.mk (HK.out.drew);replace HE:=Aside0.mk HE.out.drew
        generalize hww:World.drew _=v0 at *;clear hww
        refine vV 0 10 ?_;refine vV 1 11 ?_;refine vV 2 12 ?_;refine vV 3 13 ?_;refine vV 4 14 ?_;refine tW 5 15 aa ?_;refine vV 6 16 ?_;refine vV 7 17 ?_;refine tW 8 18 aa ?_;refine vV 9 19 ?_;refine vV 10 20 ?_;refine dW ?_
        clear aa
        have f0:=blk_frozen GP9.out 3;have q0:=(four GP9.out).2.2.2
        go_wp2
        clear f0 q0
        replace GP9:=Aside0.mk (show (World.setCell v0 ⟨W.heap.size+1,3,none⟩ (.int .i64 0)).heap[W.heap.size+1]? = some (cA (p1,a2,a3,0)) from (blk_set GP9.out 3 _).trans rfl);replace GB9:=Aside0.mk (show (World.setCell v0 ⟨W.heap.size+1,3,none⟩ (.int .i64 0)).heap[W.heap.size]? = some (cA (a1,a2,a3,a4)) from blk_far (p:=⟨W.heap.size+1,3,none⟩) GB9.out (Nat.ne_of_lt (Nat.lt_succ_self _)) (.int .i64 0));replace HB:=Aside0.mk (HB.out.setCell (p:=⟨W.heap.size+1,3,none⟩) NT0.out.2.2.2.2.1 (.int .i64 0));replace HK:=Aside0.mk (HK.out.setCell (p:=⟨W.heap.size+1,3,none⟩) (.inr (Nat.le_succ _)) (.int .i64 0));replace HE:=Aside0.mk (HE.out.far 3 NT0.out (.int .i64 0))
        generalize hww:World.setCell v0 ⟨W.heap.size+1,3,none⟩ (.int .i64 0)=u0 at *;clear hww
        rw[rounds_succ]
        go_wp2
        refine start_ (n:=11) (S:=fun w'=>w'.cell? ⟨W.heap.size+1,0,none⟩=some (.int .i64 (p1:Int))∧w'.cell? ⟨W.heap.size+1,1,none⟩=some (.int .i64 (a2:Int))∧w'.cell? ⟨W.heap.size+1,2,none⟩=some (.int .i64 (a3:Int))∧w'.cell? ⟨W.heap.size+1,3,none⟩=some (.int .i64 (0:Int))∧w'.cell? ⟨W.heap.size,0,none⟩=some (.int .i64 (a1:Int))∧w'.cell? ⟨W.heap.size,1,none⟩=some (.int .i64 (a2:Int))∧w'.cell? ⟨W.heap.size,2,none⟩=some (.int .i64 (a3:Int))∧w'.cell? ⟨W.heap.size,3,none⟩=some (.int .i64 (a4:Int))) (ds:=[]) #[false,false,false,false,false,false,false,false,false,false,false] (by kernel_rfl) rfl rfl (eight GP9.out GB9.out) (fun aa=>?_)
        replace GP9:=Aside0.mk (blk_drew GP9.out);replace GB9:=Aside0.mk (blk_drew GB9.out);replace HB:=Aside0.mk (below_drew1 HB.out);replace HK:=Aside0.mk (HK.out.drew);replace HE:=Aside0.mk HE.out.drew
        generalize hww:World.drew _=v1 at *;clear hww
        refine vV 0 10 ?_;refine vV 1 11 ?_;refine vV 2 12 ?_;refine vV 3 13 ?_;refine vV 4 14 ?_;refine tW 5 15 aa ?_;refine vV 6 16 ?_;refine vV 7 17 ?_;refine tW 8 18 aa ?_;refine vV 9 19 ?_;refine vV 10 20 ?_;refine dW ?_
        clear aa
        have f0:=blk_frozen GP9.out 2;have q0:=(four GP9.out).2.2.1
        go_wp2
        clear f0 q0
        replace GP9:=Aside0.mk (show (World.setCell v1 ⟨W.heap.size+1,2,none⟩ (.int .i64 0)).heap[W.heap.size+1]? = some (cA (p1,a2,0,0)) from (blk_set GP9.out 2 _).trans rfl);replace GB9:=Aside0.mk (show (World.setCell v1 ⟨W.heap.size+1,2,none⟩ (.int .i64 0)).heap[W.heap.size]? = some (cA (a1,a2,a3,a4)) from blk_far (p:=⟨W.heap.size+1,2,none⟩) GB9.out (Nat.ne_of_lt (Nat.lt_succ_self _)) (.int .i64 0));replace HB:=Aside0.mk (HB.out.setCell (p:=⟨W.heap.size+1,2,none⟩) NT0.out.2.2.2.2.1 (.int .i64 0));replace HK:=Aside0.mk (HK.out.setCell (p:=⟨W.heap.size+1,2,none⟩) (.inr (Nat.le_succ _)) (.int .i64 0));replace HE:=Aside0.mk (HE.out.far 2 NT0.out (.int .i64 0))
        generalize hww:World.setCell v1 ⟨W.heap.size+1,2,none⟩ (.int .i64 0)=u1 at *;clear hww
        rw[rounds_succ]
        go_wp2
        refine start_ (n:=11) (S:=fun w'=>w'.cell? ⟨W.heap.size+1,0,none⟩=some (.int .i64 (p1:Int))∧w'.cell? ⟨W.heap.size+1,1,none⟩=some (.int .i64 (a2:Int))∧w'.cell? ⟨W.heap.size+1,2,none⟩=some (.int .i64 (0:Int))∧w'.cell? ⟨W.heap.size+1,3,none⟩=some (.int .i64 (0:Int))∧w'.cell? ⟨W.heap.size,0,none⟩=some (.int .i64 (a1:Int))∧w'.cell? ⟨W.heap.size,1,none⟩=some (.int .i64 (a2:Int))∧w'.cell? ⟨W.heap.size,2,none⟩=some (.int .i64 (a3:Int))∧w'.cell? ⟨W.heap.size,3,none⟩=some (.int .i64 (a4:Int))) (ds:=[]) #[false,false,false,false,false,false,false,false,false,false,false] (by kernel_rfl) rfl rfl (eight GP9.out GB9.out) (fun aa=>?_)
        replace GP9:=Aside0.mk (blk_drew GP9.out);replace GB9:=Aside0.mk (blk_drew GB9.out);replace HB:=Aside0.mk (below_drew1 HB.out);replace HK:=Aside0.mk (HK.out.drew);replace HE:=Aside0.mk HE.out.drew
        generalize hww:World.drew _=v2 at *;clear hww
        refine vV 0 10 ?_;refine vV 1 11 ?_;refine vV 2 12 ?_;refine vV 3 13 ?_;refine vV 4 14 ?_;refine tW 5 15 aa ?_;refine vV 6 16 ?_;refine vV 7 17 ?_;refine tW 8 18 aa ?_;refine vV 9 19 ?_;refine vV 10 20 ?_;refine dW ?_
        clear aa
        have f0:=blk_frozen GP9.out 1;have q0:=(four GP9.out).2.1
        go_wp2
        clear f0 q0
        replace GP9:=Aside0.mk (show (World.setCell v2 ⟨W.heap.size+1,1,none⟩ (.int .i64 0)).heap[W.heap.size+1]? = some (cA (p1,0,0,0)) from (blk_set GP9.out 1 _).trans rfl);replace GB9:=Aside0.mk (show (World.setCell v2 ⟨W.heap.size+1,1,none⟩ (.int .i64 0)).heap[W.heap.size]? = some (cA (a1,a2,a3,a4)) from blk_far (p:=⟨W.heap.size+1,1,none⟩) GB9.out (Nat.ne_of_lt (Nat.lt_succ_self _)) (.int .i64 0));replace HB:=Aside0.mk (HB.out.setCell (p:=⟨W.heap.size+1,1,none⟩) NT0.out.2.2.2.2.1 (.int .i64 0));replace HK:=Aside0.mk (HK.out.setCell (p:=⟨W.heap.size+1,1,none⟩) (.inr (Nat.le_succ _)) (.int .i64 0));replace HE:=Aside0.mk (HE.out.far 1 NT0.out (.int .i64 0))
        generalize hww:World.setCell v2 ⟨W.heap.size+1,1,none⟩ (.int .i64 0)=u2 at *;clear hww
        rw[rounds_succ]
        go_wp2
        refine start_ (n:=11) (S:=fun w'=>w'.cell? ⟨W.heap.size+1,0,none⟩=some (.int .i64 (p1:Int))∧w'.cell? ⟨W.heap.size+1,1,none⟩=some (.int .i64 (0:Int))∧w'.cell? ⟨W.heap.size+1,2,none⟩=some (.int .i64 (0:Int))∧w'.cell? ⟨W.heap.size+1,3,none⟩=some (.int .i64 (0:Int))∧w'.cell? ⟨W.heap.size,0,none⟩=some (.int .i64 (a1:Int))∧w'.cell? ⟨W.heap.size,1,none⟩=some (.int .i64 (a2:Int))∧w'.cell? ⟨W.heap.size,2,none⟩=some (.int .i64 (a3:Int))∧w'.cell? ⟨W.heap.size,3,none⟩=some (.int .i64 (a4:Int))) (ds:=[]) #[false,false,false,false,false,false,false,false,false,false,false] (by kernel_rfl) rfl rfl (eight GP9.out GB9.out) (fun aa=>?_)
        replace GP9:=Aside0.mk (blk_drew GP9.out);replace GB9:=Aside0.mk (blk_drew GB9.out);replace HB:=Aside0.mk (below_drew1 HB.out);replace HK:=Aside0.mk (HK.out.drew);replace HE:=Aside0.mk HE.out.drew
        generalize hww:World.drew _=v3 at *;clear hww
        refine vV 0 10 ?_;refine vV 1 11 ?_;refine vV 2 12 ?_;refine vV 3 13 ?_;refine vV 4 14 ?_;refine tW 5 15 aa ?_;refine vV 6 16 ?_;refine vV 7 17 ?_;refine tW 8 18 aa ?_;refine vV 9 19 ?_;refine vV 10 20 ?_;refine dW ?_
        clear aa
        have f0:=blk_frozen GP9.out 0;have q0:=(four GP9.out).1
        have wv:wrap64 ((p1:Int)+1)=((Nat.succ p1:Nat):Int):=by have h1:=hs8.out;have h2:=c1.out;unfold ok8 at h1;simp only at h1;unfold wrap64;omega
        go_wp2
        clear f0 q0 wv
        go_roundg k1
        case measure=>exact Nat.lt_succ_self _
        refine ⟨(Nat.succ p1,0,0,0),_,hf.out,by have h1:=HP.out;have h2:=c1.out;unfold le4 at h1 ⊢;simp only at h1 ⊢;omega,HE.out.far 0 NT0.out _,blk_far (p:=⟨W.heap.size+1,0,none⟩) GB9.out (Nat.ne_of_lt (Nat.lt_succ_self _)) _,(blk_set GP9.out 0 _).trans rfl,HB.out.setCell (p:=⟨W.heap.size+1,0,none⟩) NT0.out.2.2.2.2.1 _,HK.out.setCell (p:=⟨W.heap.size+1,0,none⟩) (.inr (Nat.le_succ _)) _⟩
      rw[blt_f c1] at hf
      obtain rfl:a1=p1:=(Nat.le_antisymm HP.out.1 (Nat.le_of_not_lt c1)).symm
      clear c1
      simp only [cond_false] at hf
      replace hf:=Aside0.mk hf
      go_upto_region 3 with (first|((with_reducible refine gate_dst (N:=9) rfl ?_);refine Go.Proofs.Ytpknkpbellchgaa.Cl.goesVL_ (some 9) rfl rfl #[.pointer (some ⟨gA,0,none⟩),.pointer (some ⟨gT,0,none⟩),.pointer (some ⟨gD,0,none⟩)] Try.func23 (by kernel_rfl) rfl #[aS (a1,a2,a3,a4),.pointer (some ⟨gA,0,none⟩),.pointer (some ⟨gT,0,none⟩),.pointer (some ⟨gD,0,none⟩)] rfl (by rfl) Go.Proofs.Ytpknkpbellchgaa.Cl.aV ?_;refine HC.out.mono ?_;rintro e w9 ⟨rfl,hb9,hk9,hE9⟩;refine ⟨_,rfl,?_⟩;have HB:=Aside0.mk (Below.trans HBR.out hb9);have HK:=Aside0.mk (HKR.out.then_ hk9 (fun _ hq=>.inl hq));have HE:=Aside0.mk hE9;have GB9:=Aside0.mk (blk_kept GB.out hk9 NB.out);have GP9:=Aside0.mk (blk_kept GP.out hk9 NP.out);clear hb9 hk9 hE9 q0 q1 q2 q3 HC GB GP HBR HKR))
      go_wp2
      refine wp_loop_rounds 6 ?_
      rw[rounds_succ]
      go_wp2
      refine start_ (n:=11) (S:=fun w'=>w'.cell? ⟨W.heap.size+1,0,none⟩=some (.int .i64 (a1:Int))∧w'.cell? ⟨W.heap.size+1,1,none⟩=some (.int .i64 (a2:Int))∧w'.cell? ⟨W.heap.size+1,2,none⟩=some (.int .i64 (a3:Int))∧w'.cell? ⟨W.heap.size+1,3,none⟩=some (.int .i64 (a4:Int))∧w'.cell? ⟨W.heap.size,0,none⟩=some (.int .i64 (a1:Int))∧w'.cell? ⟨W.heap.size,1,none⟩=some (.int .i64 (a2:Int))∧w'.cell? ⟨W.heap.size,2,none⟩=some (.int .i64 (a3:Int))∧w'.cell? ⟨W.heap.size,3,none⟩=some (.int .i64 (a4:Int))) (ds:=[]) #[false,false,false,false,false,false,false,false,false,false,false] (by kernel_rfl) rfl rfl (eight GP9.out GB9.out) (fun aa=>?_)
      replace GP9:=Aside0.mk (blk_drew GP9.out);replace GB9:=Aside0.mk (blk_drew GB9.out);replace HB:=Aside0.mk (below_drew1 HB.out);replace HK:=Aside0.mk (HK.out.drew);replace HE:=Aside0.mk HE.out.drew
      generalize hww:World.drew _=v0 at *;clear hww
      refine vV 0 10 ?_;refine vV 1 11 ?_;refine vV 2 12 ?_;refine vV 3 13 ?_;refine vV 4 14 ?_;refine tW 5 15 aa ?_;refine vV 6 16 ?_;refine vV 7 17 ?_;refine tW 8 18 aa ?_;refine vV 9 19 ?_;refine vV 10 20 ?_;refine dW ?_
      clear aa
      have f0:=blk_frozen GP9.out 3;have q0:=(four GP9.out).2.2.2
      go_wp2
      clear f0 q0
      replace GP9:=Aside0.mk (show (World.setCell v0 ⟨W.heap.size+1,3,none⟩ (.int .i64 0)).heap[W.heap.size+1]? = some (cA (a1,a2,a3,0)) from (blk_set GP9.out 3 _).trans rfl);replace GB9:=Aside0.mk (show (World.setCell v0 ⟨W.heap.size+1,3,none⟩ (.int .i64 0)).heap[W.heap.size]? = some (cA (a1,a2,a3,a4)) from blk_far (p:=⟨W.heap.size+1,3,none⟩) GB9.out (Nat.ne_of_lt (Nat.lt_succ_self _)) (.int .i64 0));replace HB:=Aside0.mk (HB.out.setCell (p:=⟨W.heap.size+1,3,none⟩) NT0.out.2.2.2.2.1 (.int .i64 0));replace HK:=Aside0.mk (HK.out.setCell (p:=⟨W.heap.size+1,3,none⟩) (.inr (Nat.le_succ _)) (.int .i64 0));replace HE:=Aside0.mk (HE.out.far 3 NT0.out (.int .i64 0))
      generalize hww:World.setCell v0 ⟨W.heap.size+1,3,none⟩ (.int .i64 0)=u0 at *;clear hww
      rw[rounds_succ]
      go_wp2
      refine start_ (n:=11) (S:=fun w'=>w'.cell? ⟨W.heap.size+1,0,none⟩=some (.int .i64 (a1:Int))∧w'.cell? ⟨W.heap.size+1,1,none⟩=some (.int .i64 (a2:Int))∧w'.cell? ⟨W.heap.size+1,2,none⟩=some (.int .i64 (a3:Int))∧w'.cell? ⟨W.heap.size+1,3,none⟩=some (.int .i64 (0:Int))∧w'.cell? ⟨W.heap.size,0,none⟩=some (.int .i64 (a1:Int))∧w'.cell? ⟨W.heap.size,1,none⟩=some (.int .i64 (a2:Int))∧w'.cell? ⟨W.heap.size,2,none⟩=some (.int .i64 (a3:Int))∧w'.cell? ⟨W.heap.size,3,none⟩=some (.int .i64 (a4:Int))) (ds:=[]) #[false,false,false,false,false,false,false,false,false,false,false] (by kernel_rfl) rfl rfl (eight GP9.out GB9.out) (fun aa=>?_)
      replace GP9:=Aside0.mk (blk_drew GP9.out);replace GB9:=Aside0.mk (blk_drew GB9.out);replace HB:=Aside0.mk (below_drew1 HB.out);replace HK:=Aside0.mk (HK.out.drew);replace HE:=Aside0.mk HE.out.drew
      generalize hww:World.drew _=v1 at *;clear hww
      refine vV 0 10 ?_;refine vV 1 11 ?_;refine vV 2 12 ?_;refine vV 3 13 ?_;refine vV 4 14 ?_;refine tW 5 15 aa ?_;refine vV 6 16 ?_;refine vV 7 17 ?_;refine tW 8 18 aa ?_;refine vV 9 19 ?_;refine vV 10 20 ?_;refine dW ?_
      clear aa
      have f0:=blk_frozen GP9.out 2;have q0:=(four GP9.out).2.2.1
      go_wp2
      clear f0 q0
      replace GP9:=Aside0.mk (show (World.setCell v1 ⟨W.heap.size+1,2,none⟩ (.int .i64 0)).heap[W.heap.size+1]? = some (cA (a1,a2,0,0)) from (blk_set GP9.out 2 _).trans rfl);replace GB9:=Aside0.mk (show (World.setCell v1 ⟨W.heap.size+1,2,none⟩ (.int .i64 0)).heap[W.heap.size]? = some (cA (a1,a2,a3,a4)) from blk_far (p:=⟨W.heap.size+1,2,none⟩) GB9.out (Nat.ne_of_lt (Nat.lt_succ_self _)) (.int .i64 0));replace HB:=Aside0.mk (HB.out.setCell (p:=⟨W.heap.size+1,2,none⟩) NT0.out.2.2.2.2.1 (.int .i64 0));replace HK:=Aside0.mk (HK.out.setCell (p:=⟨W.heap.size+1,2,none⟩) (.inr (Nat.le_succ _)) (.int .i64 0));replace HE:=Aside0.mk (HE.out.far 2 NT0.out (.int .i64 0))
      generalize hww:World.setCell v1 ⟨W.heap.size+1,2,none⟩ (.int .i64 0)=u1 at *;clear hww
      rw[rounds_succ]
      go_wp2
      refine start_ (n:=11) (S:=fun w'=>w'.cell? ⟨W.heap.size+1,0,none⟩=some (.int .i64 (a1:Int))∧w'.cell? ⟨W.heap.size+1,1,none⟩=some (.int .i64 (a2:Int))∧w'.cell? ⟨W.heap.size+1,2,none⟩=some (.int .i64 (0:Int))∧w'.cell? ⟨W.heap.size+1,3,none⟩=some (.int .i64 (0:Int))∧w'.cell? ⟨W.heap.size,0,none⟩=some (.int .i64 (a1:Int))∧w'.cell? ⟨W.heap.size,1,none⟩=some (.int .i64 (a2:Int))∧w'.cell? ⟨W.heap.size,2,none⟩=some (.int .i64 (a3:Int))∧w'.cell? ⟨W.heap.size,3,none⟩=some (.int .i64 (a4:Int))) (ds:=[]) #[false,false,false,false,false,false,false,false,false,false,false] (by kernel_rfl) rfl rfl (eight GP9.out GB9.out) (fun aa=>?_)
      replace GP9:=Aside0.mk (blk_drew GP9.out);replace GB9:=Aside0.mk (blk_drew GB9.out);replace HB:=Aside0.mk (below_drew1 HB.out);replace HK:=Aside0.mk (HK.out.drew);replace HE:=Aside0.mk HE.out.drew
      generalize hww:World.drew _=v2 at *;clear hww
      refine vV 0 10 ?_;refine vV 1 11 ?_;refine vV 2 12 ?_;refine vV 3 13 ?_;refine vV 4 14 ?_;refine tW 5 15 aa ?_;refine vV 6 16 ?_;refine vV 7 17 ?_;refine tW 8 18 aa ?_;refine vV 9 19 ?_;refine vV 10 20 ?_;refine dW ?_
      clear aa
      have f0:=blk_frozen GP9.out 1;have q0:=(four GP9.out).2.1
      go_wp2
      clear f0 q0
      replace GP9:=Aside0.mk (show (World.setCell v2 ⟨W.heap.size+1,1,none⟩ (.int .i64 0)).heap[W.heap.size+1]? = some (cA (a1,0,0,0)) from (blk_set GP9.out 1 _).trans rfl);replace GB9:=Aside0.mk (show (World.setCell v2 ⟨W.heap.size+1,1,none⟩ (.int .i64 0)).heap[W.heap.size]? = some (cA (a1,a2,a3,a4)) from blk_far (p:=⟨W.heap.size+1,1,none⟩) GB9.out (Nat.ne_of_lt (Nat.lt_succ_self _)) (.int .i64 0));replace HB:=Aside0.mk (HB.out.setCell (p:=⟨W.heap.size+1,1,none⟩) NT0.out.2.2.2.2.1 (.int .i64 0));replace HK:=Aside0.mk (HK.out.setCell (p:=⟨W.heap.size+1,1,none⟩) (.inr (Nat.le_succ _)) (.int .i64 0));replace HE:=Aside0.mk (HE.out.far 1 NT0.out (.int .i64 0))
      generalize hww:World.setCell v2 ⟨W.heap.size+1,1,none⟩ (.int .i64 0)=u2 at *;clear hww
      rw[rounds_succ]
      go_wp2
      refine start_ (n:=11) (S:=fun w'=>w'.cell? ⟨W.heap.size+1,0,none⟩=some (.int .i64 (a1:Int))∧w'.cell? ⟨W.heap.size+1,1,none⟩=some (.int .i64 (0:Int))∧w'.cell? ⟨W.heap.size+1,2,none⟩=some (.int .i64 (0:Int))∧w'.cell? ⟨W.heap.size+1,3,none⟩=some (.int .i64 (0:Int))∧w'.cell? ⟨W.heap.size,0,none⟩=some (.int .i64 (a1:Int))∧w'.cell? ⟨W.heap.size,1,none⟩=some (.int .i64 (a2:Int))∧w'.cell? ⟨W.heap.size,2,none⟩=some (.int .i64 (a3:Int))∧w'.cell? ⟨W.heap.size,3,none⟩=some (.int .i64 (a4:Int))) (ds:=[]) #[false,false,false,false,false,false,false,false,false,false,false] (by kernel_rfl) rfl rfl (eight GP9.out GB9.out) (fun aa=>?_)
      replace GP9:=Aside0.mk (blk_drew GP9.out);replace GB9:=Aside0.mk (blk_drew GB9.out);replace HB:=Aside0.mk (below_drew1 HB.out);replace HK:=Aside0.mk (HK.out.drew);replace HE:=Aside0.mk HE.out.drew
      generalize hww:World.drew _=v3 at *;clear hww
      refine vV 0 10 ?_;refine vV 1 11 ?_;refine vV 2 12 ?_;refine vV 3 13 ?_;refine vV 4 14 ?_;refine tW 5 15 aa ?_;refine vV 6 16 ?_;refine vV 7 17 ?_;refine tW 8 18 aa ?_;refine vV 9 19 ?_;refine vV 10 20 ?_;refine dW ?_
      clear aa
      have f0:=blk_frozen GP9.out 0;have q0:=(four GP9.out).1
      go_wp2
      clear f0 q0
      replace GP9:=Aside0.mk (show (World.setCell v3 ⟨W.heap.size+1,0,none⟩ (.int .i64 0)).heap[W.heap.size+1]? = some (cA (0,0,0,0)) from (blk_set GP9.out 0 _).trans rfl);replace GB9:=Aside0.mk (show (World.setCell v3 ⟨W.heap.size+1,0,none⟩ (.int .i64 0)).heap[W.heap.size]? = some (cA (a1,a2,a3,a4)) from blk_far (p:=⟨W.heap.size+1,0,none⟩) GB9.out (Nat.ne_of_lt (Nat.lt_succ_self _)) (.int .i64 0));replace HB:=Aside0.mk (HB.out.setCell (p:=⟨W.heap.size+1,0,none⟩) NT0.out.2.2.2.2.1 (.int .i64 0));replace HK:=Aside0.mk (HK.out.setCell (p:=⟨W.heap.size+1,0,none⟩) (.inr (Nat.le_succ _)) (.int .i64 0));replace HE:=Aside0.mk (HE.out.far 0 NT0.out (.int .i64 0))
      generalize hww:World.setCell v3 ⟨W.heap.size+1,0,none⟩ (.int .i64 0)=u3 at *;clear hww
      rw[rounds_succ]
      go_wp2
      refine start_ (n:=11) (S:=fun w'=>True) (ds:=[]) #[false,false,false,false,false,false,false,false,false,false,false] (by kernel_rfl) rfl rfl trivial (fun aa=>?_)
      replace HB:=Aside0.mk (below_drew1 HB.out);replace HK:=Aside0.mk (HK.out.drew);replace HE:=Aside0.mk HE.out.drew
      generalize hww:World.drew _=v4 at *;clear hww
      refine vV 0 10 ?_;refine vV 1 11 ?_;refine vV 2 12 ?_;refine vU 3 13 ?_;refine vU 4 14 ?_;refine vU 5 15 ?_;refine vU 6 16 ?_;refine vU 7 17 ?_;refine vU 8 18 ?_;refine vU 9 19 ?_;refine vV 10 20 ?_;refine dW ?_
      go_wp2
      refine bodyPost_ret (v:=.tuple #[]) (by simp [results,Try.results22,go_sem]) rfl ?_
      exact ⟨rfl,HB.out,HK.out,by have h:=Option.some.inj hf.out;rw[← h];exact HE.out⟩
end Go.Proofs.Ytpknkpbellchgaa.PFnExactDuelWorst
