import Derived.Test.YtpknkpbellchgaaPFnExactDuelWorstx
import Derived.Test.YtpknkpbellchgaaSh
import Derived.Test.YtpknkpbellchgaaCl
import Derived.Test.YtpknkpbellchgaaRg
import Derived.Test.YtpknkpbellchgaaDuW
import Derived.Maps.Own
import Derived.LoopN
import Derived.DeepKeys4
import Derived.Maps.Views
import Derived.Maps.OwnSet
namespace Go.Proofs.Ytpknkpbellchgaa.PFnExactDuelWorst
open Go.RowKit Go.Proofs.Ytpknkpbellchgaa.Sh Go.Proofs.YtpknkpbellchgaaW.PrintWords Go.Proofs.YtpknkpbellchgaaW.PrintLast Go.Proofs.YtpknkpbellchgaaW.PrintMore
attribute [local go_sem] max2_int min2_int max_two min_two max_three min_three max_four min_four
set_option linter.unusedVariables false
set_option linter.unusedSimpArgs false
set_option maxHeartbeats 8000000
set_option maxRecDepth 100000
attribute [local go_sem] ix0 ix1 ix2 ix3 pt0 pt1 pt2 pt3 eq33
mutual
def duF : Nat → List Int → List Int → Option (Int × List Int)
 | 0,_,_ => none
 | k+1,l,T => (spec_l11Key.f k l).bind fun key => if 0≤key then (if key<(T.length:Int) then (if rd T key>0 then some (wrap64 (rd T key-1),T) else (spec_l11Splits.f k l []).bind fun sp => (duL k l sp 0 0 T).bind fun bT => if key<(bT.2.length:Int) then some (bT.1,bT.2.set key.toNat (wrap64 (bT.1+1))) else none) else none) else none
def duL : Nat → List Int → List (List Int) → Int → Int → List Int → Option (Int × List Int)
 | 0,_,_,_,_,_ => none
 | k+1,l,sp,i,b,T => if i<(sp.length:Int) then (if 0≤i then (fcF k l (rd_L1 sp i) T).bind fun xT => (spec_l1Most.f b xT.1).bind fun b' => duL k l sp (wrap64 (i+1)) b' xT.2 else none) else some (b,T)
def fcF : Nat → List Int → List Int → List Int → Option (Int × List Int)
 | 0,_,_,_ => none
 | k+1,l,s,T => (spec_l11Rest.f k l s).bind fun rest => (spec_l11Alive.f k s).bind fun a => if a=true then (spec_l11Alive.f k rest).bind fun b => (if b=true then (spec_l11Hurt.f k l s).bind fun lo => (spec_l11Hurt.f k l rest).bind fun hi => (spec_l11Alive.f k lo).bind fun c => (if c=true then (spec_l11Alive.f k hi).bind fun d => (if d=true then (duF k lo T).bind fun xT => (duF k hi xT.2).bind fun yT => (spec_l1Least.f xT.1 yT.1).bind fun m => some (wrap64 (1+m),yT.2) else some (0,T)) else some (0,T)) else fcA k l T) else fcA k l T
def fcA : Nat → List Int → List Int → Option (Int × List Int)
 | 0,_,_ => none
 | k+1,l,T => (spec_l11Hurt.f k l l).bind fun all => (spec_l11Alive.f k all).bind fun a => if a=true then (duF k all T).bind fun xT => some (wrap64 (1+xT.1),xT.2) else some (0,T)
end
/-- the table: block g reads as T -/
def TF (w:World) (g:Nat) (T:List Int):Prop:=∃ cur:Array Value,w.heap[g]? = some (.cells cur 3 (0,0))∧T.length≤cur.size∧∀ i,i<T.length→cur[i]? = some (.int .i64 (T.getD i 0))
theorem TF.same {w w':World} {g:Nat} {T:List Int} (h:TF w g T) (e:w'.heap[g]? = w.heap[g]?):TF w' g T:=by
  obtain ⟨cur,hb,r⟩:=h
  exact ⟨cur,e.trans hb,r⟩
theorem TF.lt {w:World} {g:Nat} {T:List Int} (h:TF w g T):g<w.heap.size:=by
  obtain ⟨cur,hb,_⟩:=h
  exact blk_lt hb
theorem TF.below {w w':World} {g:Nat} {T:List Int} (h:TF w g T) (hb:Below w.heap.size w w'):TF w' g T:=h.same (hb.block _ h.lt)
theorem TF.at_ {w:World} {g:Nat} {T:List Int} (h:TF w g T) (i:Int) (h0:0≤i) (h1:i<(T.length:Int)):w.cell? ⟨g,i.toNat,none⟩=some (.int .i64 (rd T i))∧w.frozen? ⟨g,i.toNat,none⟩=false:=by
  obtain ⟨cur,hb,hl,hc⟩:=h
  have hi:i.toNat<T.length:=by omega
  refine ⟨(blk_cell hb _).trans ((hc _ hi).trans ?_),blk_frozen hb _⟩
  rfl
theorem TF.set {w:World} {g:Nat} {T:List Int} (h:TF w g T) (i:Nat) (x:Int):TF (w.setCell ⟨g,i,none⟩ (.int .i64 x)) g (T.set i x):=by
  obtain ⟨cur,hb,hl,hc⟩:=h
  refine ⟨_,blk_set hb i _,by simpa using hl,fun j hj=>?_⟩
  have hj2:j<T.length:=by simpa using hj
  rw[Array.getElem?_setIfInBounds]
  by_cases e:i=j
  · subst e
    rw[if_pos rfl,if_pos (by omega)]
    simp [hj2]
  · rw[if_neg e,hc j hj2]
    simp [List.getD_eq_getElem?_getD,List.getElem?_set,e]
def Lv (w:World) (g:Nat) (A:Option Addr) (l:List Int):Prop:=∀ W',Kept w W' (fun q=>q=g)→Kd.C (Kd.int .i64) W' A l.length l
theorem Lv.kept {w w':World} {g:Nat} {A:Option Addr} {l:List Int} (h:Lv w g A l) (hk:Kept w w' (fun q=>q=g)):Lv w' g A l:=fun W' hk'=>h W' (hk.then_ hk' (fun _ h2=>.inl h2))
theorem Lv.now {w:World} {g:Nat} {A:Option Addr} {l:List Int} (h:Lv w g A l):Kd.C (Kd.int .i64) w A l.length l:=h w (Kept.refl _ _)
theorem Lv.own {w w':World} {g:Nat} {A:Option Addr} {c:Nat} {l:List Int} {ok:Nat→Prop} (h:Kd.R (Kd.int .i64) 3 w' w.heap.size ok (.slice A l.length c) l) (hg:g<w.heap.size):Lv w' g A l:=Kd.C_kept_own (Kd.R_mono (Kd.R_bound h) (fun _ hk=>hk.2.1)) (fun k hk e=>by subst e;omega)
def Post (B g:Nat) (w:World) (r:Int) (T':List Int) (n:Nat) (e:Ending) (w':World):Prop:=e=.returned (.int .i64 r)∧Below B w w'∧Kept w w' (fun q=>q=g)∧TF w' g T'∧T'.length=n
def DuW (B g n ct k:Nat):Prop:=∀ (l T:List Int) (r:Int) (T':List Int) (A:Option Addr) (c:Nat) (w:World),duF k l T=some (r,T')→Lv w g A l→l.length≤c→TF w g T→T.length=n→n≤ct→B≤w.heap.size→Calls Try.prog 9 #[.slice A l.length c,.slice (some ⟨g,0,none⟩) n ct] w fun e w'=>Post B g w r T' n e w'
def FcW (B g n ct k:Nat):Prop:=∀ (l s T:List Int) (r:Int) (T':List Int) (A A2:Option Addr) (c c2:Nat) (w:World),fcF k l s T=some (r,T')→Lv w g A l→l.length≤c→Lv w g A2 s→s.length≤c2→TF w g T→T.length=n→n≤ct→B≤w.heap.size→Calls Try.prog 18 #[.slice A l.length c,.slice A2 s.length c2,.slice (some ⟨g,0,none⟩) n ct] w fun e w'=>Post B g w r T' n e w'
theorem Kd.V_none {α:Type} (d:Kd α) (e:Nat) (W:World) (base:Nat) (ok:Nat→Prop) (A:Option Addr):Kd.V d e W base ok (.slice A ([]:List α).length 0) []:=⟨A,0,rfl,Nat.le_refl _,fun _ _=>⟨rfl,by simp,fun h=>absurd h (Nat.lt_irrefl 0)⟩⟩
theorem rows_kept {w w':World} {g:Nat} {A:Option Addr} {c:Nat} {sp:List (List Int)} (h:Kd.N (Kd.slice 3 (Kd.int .i64)) 22 w' w.heap.size (fun k_=>(False∨w.heap.size≤k_)) (.slice A sp.length c) sp) (hg:g<w.heap.size):∀ W',Kept w' W' (fun q=>q=g)→Kd.C (Kd.slice 3 (Kd.int .i64)) W' A sp.length sp:=fun W' hk=>(Kd.N_reads' (Kd.N_kept h hk (fun q ho (e:q=g)=>ho.elim (fun h=>h) (fun h=>by omega)))).2.2
theorem row_lv {w2 wr:World} {g:Nat} {A3:Option Addr} {sp:List (List Int)} (hs:∀ W',Kept w2 W' (fun q=>q=g)→Kd.C (Kd.slice 3 (Kd.int .i64)) W' A3 sp.length sp) (ha:∀ ad,A3=some ad→ad.block≠g) (hk:Kept w2 wr (fun q=>q=g)) (i:Int) (h0:0≤i) (h1:i<(sp.length:Int)):∃ ad A4 c4,A3=some ad∧wr.cell? (ad.add i.toNat)=some (.slice A4 (rd_L1 sp i).length c4)∧(rd_L1 sp i).length≤c4∧Lv wr g A4 (rd_L1 sp i):=by
  obtain ⟨ad,A4,c4,e4,hcell,hl4,hC4⟩:=at_L1 (hs wr hk) i h0 h1
  refine ⟨ad,A4,c4,e4,hcell,hl4,fun W' hk'=>?_⟩
  obtain ⟨ad2,A5,c5,e5,hcell5,_,hC5⟩:=at_L1 (hs W' (hk.then_ hk' (fun _ h2=>.inl h2))) i h0 h1
  obtain rfl:ad=ad2:=Option.some.inj (e4.symm.trans e5)
  have h:=cell_kept hcell hk' (by have h:=ha ad e4;unfold Addr.add;split <;> exact h)
  rw[hcell5] at h
  injection h with h
  injection h with h _ _
  rw[← h]
  exact hC5
theorem du_walk (B g n ct:Nat) (hBg:B≤g) (k:Nat) (ih:∀ m,m<k→FcW B g n ct m):DuW B g n ct k:=by
  intro l T r T' A c w h hL hc hT hn hct hBw
  cases k with
  | zero=>cases h
  | succ k=>
  unfold duF at h
  obtain ⟨key,hkey,h⟩:=Option.bind_eq_some_iff.mp h
  by_cases c1:0≤key
  · rw[if_pos c1] at h
    by_cases c2:key<(T.length:Int)
    · rw[if_pos c2] at h
      obtain ⟨t0,f0⟩:=hT.at_ key c1 c2
      rw[hn] at c2
      have HN:=Aside0.mk hn
      have HL:=Aside0.mk hL;have HC:=Aside0.mk hc;have HT:=Aside0.mk hT;have HCT:=Aside0.mk hct;have HBW:=Aside0.mk hBw;have HK:=Aside0.mk hkey;have C1:=Aside0.mk c1;have C2:=Aside0.mk c2
      replace c1:=eq_true c1;replace c2:=eq_true c2
      clear hL hc hT hct hBw hkey hn
      by_cases c3:rd T key>0
      · rw[if_pos c3] at h
        simp only [Option.some.injEq,Prod.mk.injEq] at h
        obtain ⟨rfl,rfl⟩:=h
        have c3b:=decide_eq_true c3
        clear c3
        go_enter Try.func9,Try.ntmps9
        go_wp2_with (first|(go_at_call 15;(with_reducible refine (spec_l11Key.calls k _ _ l key _ HL.out.now HC.out HK.out).mono ?_);rintro e w' ⟨rfl,⟨nd,rfl⟩⟩))
        go_ret
        exact ⟨rfl,by repeat (first|exact Below.refl _ _|apply pw_below_drewN),Kept.drewN (Kept.refl _ _) _,HT.out,HN.out⟩
      · rw[if_neg c3] at h
        have c3b:=decide_eq_false c3
        obtain ⟨sp,hsp,h⟩:=Option.bind_eq_some_iff.mp h
        obtain ⟨⟨b,T1⟩,hb,h⟩:=Option.bind_eq_some_iff.mp h
        have HSP:=Aside0.mk hsp;have HLB:=Aside0.mk hb;have HF:=Aside0.mk h
        clear c3 hsp hb h
        go_enter Try.func9,Try.ntmps9
        go_wp2_with (first|(go_at_call 15;(with_reducible refine (spec_l11Key.calls k _ _ l key _ HL.out.now HC.out HK.out).mono ?_);rintro e w' ⟨rfl,⟨nd,rfl⟩⟩;have hb0:Below w.heap.size w ((w.drewN nd).alloc (.cells #[] 3 (0,0))):=Below.alloc (pw_below_drewN (Below.refl _ _) _) (Nat.le_refl _) _;have HB0:=Aside0.mk hb0;have HV:=Aside0.mk (Kd.V_none (Kd.int .i64) 3 ((w.drewN nd).alloc (.cells #[] 3 (0,0))) ((w.drewN nd).alloc (.cells #[] 3 (0,0))).heap.size (fun _=>False) (some ⟨w.heap.size,0,none⟩));clear hb0)|(go_at_call 16;refine (spec_l11Splits.calls k _ _ l (fun _=>False) _ _ [] sp _ (Kd.C_below HL.out.now HB0.out) HC.out HV.out HSP.out).mono ?_;rintro e w2 ⟨v2,rfl,hN,hb⟩;obtain ⟨A3,c3,rfl⟩:=Kd.N_slice hN;have HB2:=Aside0.mk (below_step HB0.out hb);have HS:=Aside0.mk (rows_kept (w:=(w.drewN nd).alloc (.cells #[] 3 (0,0))) hN (Nat.lt_of_lt_of_le HT.out.lt HB0.out.size));have HC3:=Aside0.mk (Kd.N_reads' hN).2.1;have HA3:=Aside0.mk (show ∀ ad,A3=some ad→ad.block≠g from fun ad e=>by have h:=Kd.N_base hN ad.block (by rw[e];rfl);have h2:=Nat.lt_of_lt_of_le HT.out.lt HB0.out.size;omega);clear hb hN HV t0 f0))
        clear HSP
        have hk0:Kept w w2 (fun q=>q=g):=Kept.of_below HB2.out _
        go_loopg [6,8] k (fun kq v6 v8 w'=>∃ (b1 i:Int),v6=.int .i64 b1∧v8=.int .i64 i∧Aside0 (∃ T2,duL kq l sp i b1 T2=some (b,T1)∧TF w' g T2∧T2.length=n)∧Aside0 (kq≤k)∧Aside0 (Below B w w')∧Aside0 (Kept w w' (fun q=>q=g))∧Aside0 (Kept w2 w' (fun q=>q=g)))
        case atStart=>exact ⟨0,0,rfl,rfl,⟨T,HLB.out,HT.out.below HB2.out,HN.out⟩,⟨Nat.le_refl _⟩,⟨HB2.out.mono HBW.out⟩,⟨hk0⟩,⟨Kept.refl _ _⟩⟩
        case round=>
          clear HLB hk0
          obtain ⟨b1,i,rfl,rfl,HT2,HK1,HBR,HKR,HK2⟩:=hrel
          obtain ⟨T2,hd,hT2,hl2⟩:=HT2.out
          cases gk with
          | zero=>cases hd
          | succ k1=>
            unfold duL at hd
            by_cases c4:i<(sp.length:Int)
            · rw[if_pos c4] at hd
              by_cases c5:0≤i
              · rw[if_pos c5] at hd
                obtain ⟨⟨x,T3⟩,hx,hd⟩:=Option.bind_eq_some_iff.mp hd
                obtain ⟨b2,hb2,hd⟩:=Option.bind_eq_some_iff.mp hd
                obtain ⟨ad,A4,c4',rfl,hcell,hl4,hlv⟩:=row_lv HS.out HA3.out HK2.out i c5 c4
                have HF:=Aside0.mk (ih k1 (by have:=HK1.out;omega) l (rd_L1 sp i) T2 x T3 A A4 c c4' wr hx (HL.out.kept HKR.out) HC.out hlv hl4 hT2 hl2 HCT.out (Nat.le_trans HBW.out HKR.out.1))
                have HM:=Aside0.mk hb2;have HD:=Aside0.mk hd
                have c4b:=decide_eq_true c4
                have d4:=eq_true c4;have d5:=eq_true c5
                have C4:=Aside0.mk c4;have C5:=Aside0.mk c5
                clear hx hlv hl4 hT2 hl2 hb2 hd c4 c5 HT2
                go_wp2_with (first|(go_at_call 18;refine HF.out.mono ?_;rintro e w5 ⟨rfl,hb5,hk5,hT5,hl5⟩;have HB5:=Aside0.mk (Below.trans HBR.out hb5);have HK5:=Aside0.mk (HKR.out.then_ hk5 (fun _ h2=>.inl h2));have HK25:=Aside0.mk (HK2.out.then_ hk5 (fun _ h2=>.inl h2));have HT5:=Aside0.mk hT5;have HL5:=Aside0.mk hl5;clear hb5 hk5 hT5 hl5 hcell)|(go_at_call 17;(with_reducible refine (spec_l1Most.calls b1 x b2 _ HM.out).mono ?_);rintro e w' ⟨rfl,⟨nd,rfl⟩⟩))
                go_roundg k1
                case measure=>exact Nat.lt_succ_self _
                exact ⟨b2,wrap64 (i+1),rfl,rfl,⟨T3,HD.out,HT5.out.same rfl,HL5.out⟩,⟨by have:=HK1.out;omega⟩,⟨pw_below_drewN HB5.out _⟩,⟨HK5.out.drewN _⟩,⟨HK25.out.drewN _⟩⟩
              · rw[if_neg c5] at hd
                cases hd
            · rw[if_neg c4] at hd
              simp only [Option.some.injEq,Prod.mk.injEq] at hd
              obtain ⟨rfl,rfl⟩:=hd
              have c4b:=decide_eq_false c4
              have h:=HF.out
              by_cases c6:key<(T2.length:Int)
              · rw[if_pos c6] at h
                simp only [Option.some.injEq,Prod.mk.injEq] at h
                obtain ⟨rfl,rfl⟩:=h
                obtain ⟨t1,f1⟩:=hT2.at_ key C1.out c6
                have HT3:=Aside0.mk (hT2.set key.toNat (wrap64 (b1+1)))
                have HL3:=Aside0.mk hl2
                clear c4 c6 hT2 hl2 HT2 HF
                go_wp2
                go_ret
                exact ⟨rfl,HBR.out.setCell (p:=⟨g,key.toNat,none⟩) hBg _,HKR.out.setCell (p:=⟨g,key.toNat,none⟩) (.inl rfl) _,HT3.out,by rw[List.length_set];exact HL3.out⟩
              · rw[if_neg c6] at h
                cases h
    · rw[if_neg c2] at h
      cases h
  · rw[if_neg c1] at h
    cases h
end Go.Proofs.Ytpknkpbellchgaa.PFnExactDuelWorst
