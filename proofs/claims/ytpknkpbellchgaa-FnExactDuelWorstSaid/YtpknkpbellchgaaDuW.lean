import Derived.Test.YtpknkpbellchgaaPFnExactDuelWorstx0
import Derived.Test.YtpknkpbellchgaaSh
import Derived.Test.YtpknkpbellchgaaCl
import Derived.Test.YtpknkpbellchgaaRg
import Derived.Test.YtpknkpbellchgaaDuS
import Derived.Maps.Own
import Derived.LoopN
import Derived.DeepKeys4
import Derived.Maps.Views
import Derived.Maps.OwnSet
namespace Go.Proofs.Ytpknkpbellchgaa.PFnExactDuelWorst
open Go.RowKit Go.Proofs.Ytpknkpbellchgaa.Sh Go.Proofs.YtpknkpbellchgaaW.PrintWords Go.Proofs.YtpknkpbellchgaaW.PrintLast Go.Proofs.YtpknkpbellchgaaW.PrintMore
attribute [local go_sem] max2_int min2_int max_two min_two max_three min_three max_four min_four
set_option linter.unusedVariables false
set_option linter.unusedSimpArgs false
set_option maxHeartbeats 8000000
set_option maxRecDepth 100000
attribute [local go_sem] ix0 ix1 ix2 ix3 pt0 pt1 pt2 pt3 eq33
theorem Inv.snoc {Z:St→Prop} {w:World} {M:Nat} {L:List St} {s:St} (h1:∀ x∈L,ok8 x∧Z x) (h2:L.Nodup) (hn:s∉L) (h8:ok8 s) (hz:Z s) (hm:w.ownsMap (H:=Unit) Try.prog 33 (plainElem Try.prog 3) M (L.length+1) ((mapOf L).put (klit s) (.lit (.int .i64 (tS s:Int))))):Inv Z w M (L++[s]):=by
  refine ⟨fun x hx=>?_,?_,?_⟩
  · rcases List.mem_append.1 hx with h | h
    · exact h1 x h
    · rw[List.mem_singleton.1 h]
      exact ⟨h8,hz⟩
  · refine List.nodup_append.2 ⟨h2,by simp,fun a ha b hb=>?_⟩
    rw[List.mem_singleton.1 hb]
    rintro rfl
    exact hn ha
  · have e:mapOf (H:=Unit) (L++[s])=(mapOf L).put (klit s) (.lit (.int .i64 (tS s:Int))):=by
      unfold mapOf
      rw[List.foldl_append]
      rfl
    rw[e,List.length_append]
    exact hm
theorem okd_row {a b c d:Nat} (h:Dl.okd a b c d=true):Dl.one a b c d=true:=by
  have h1:=h
  unfold Dl.okd at h1
  simp only [Bool.and_eq_true,Nat.ble_eq,Nat.add_eq] at h1
  have hr:∀ i,i<9→Dl.row i=true:=fun i hi=>by
    match i,hi with
    | 0,_=>exact Dl.row0
    | 1,_=>exact Dl.row1
    | 2,_=>exact Dl.row2
    | 3,_=>exact Dl.row3
    | 4,_=>exact Dl.row4
    | 5,_=>exact Dl.row5
    | 6,_=>exact Dl.row6
    | 7,_=>exact Dl.row7
    | 8,_=>exact Dl.row8
    | n+9,hi=>omega
  have ha:=hr a (by omega)
  unfold Dl.row Dl.upd at ha
  have hb:=List.all_eq_true.1 ha b (List.mem_range.2 (by omega))
  rw[Bool.or_eq_true] at hb
  have hb2:=hb.resolve_left (by rw[blt_f (by simp only [Nat.add_eq];omega)];decide)
  have hc:=List.all_eq_true.1 hb2 c (List.mem_range.2 (by omega))
  rw[Bool.or_eq_true] at hc
  have hc2:=hc.resolve_left (by rw[blt_f (by simp only [Nat.add_eq];omega)];decide)
  exact List.all_eq_true.1 hc2 d (List.mem_range.2 (by omega))
theorem one_parts {a b c d:Nat} (h:Dl.okd a b c d=true):Dl.best a b c d=Dl.Td a b c d∧Dl.fine a b c d=true∧Dl.from_ a b c d 82 0 0 0 0 0=some (Dl.Td a b c d):=by
  have h1:=okd_row h
  unfold Dl.one at h1
  rw[h] at h1
  simp only [Bool.not_true,Bool.false_or,Bool.and_eq_true] at h1
  refine ⟨Nat.eq_of_beq_eq_true h1.1.1,h1.1.2,?_⟩
  have h2:=h1.2
  cases hf:Dl.from_ a b c d 82 0 0 0 0 0 with
  | none=>rw[hf] at h2;cases h2
  | some m=>
    rw[hf] at h2
    rw[Nat.eq_of_beq_eq_true h2]
def okS (s:St):Bool:=Dl.okd s.1 s.2.1 s.2.2.1 s.2.2.2
def wS (s:St):Nat:=Dl.wtd s.1 s.2.1 s.2.2.1 s.2.2.2
theorem okS_8 {s:St} (h:okS s=true):ok8 s:=by
  unfold okS Dl.okd at h
  simp only [Bool.and_eq_true,Nat.ble_eq,Nat.add_eq] at h
  unfold ok8
  omega
theorem lessd_iff {k:Nat} {s:St} (h:Dl.lessd k s.1 s.2.1 s.2.2.1 s.2.2.2=true):okS s=true∧wS s<k:=by
  unfold Dl.lessd at h
  rw[Bool.and_eq_true] at h
  refine ⟨h.1,?_⟩
  have h2:=h.2
  unfold Nat.blt at h2
  rw[Nat.ble_eq] at h2
  exact h2
theorem worst_calls (B M:Nat) (hBM:B≤M):∀ (n:Nat) (Z:St→Prop) (s:St),okS s=true→wS s<n→(∀ x,wS x≤wS s→Z x)→∀ w L,Inv Z w M L→B≤w.heap.size→Calls Try.prog 12 #[.map (some M),aS s] w fun e w'=>e=.returned (.int .i64 (tS s:Int))∧Below B w w'∧Kept w w' (fun q=>q=M)∧∃ L',Inv Z w' M L':=by
  intro n
  induction n with
  | zero=>intro Z s _ h;omega
  | succ n ih=>
    intro Z s hs hn hZ w L hI hBw
    have h8:=okS_8 hs
    obtain ⟨v,ps,hrun,hv⟩:=((hI.2.2.alloc (.cells #[.map (some M)] 30 (0,0))).alloc (cA s)).look_ok law33 u30 (zero3 _) (Go.plainElem_int u3 (by decide:(Lit.int .i64 0).wf=true)) (klit_eq h8)
    rw[has_map h8 (fun x hx=>(hI.1 x hx).1)] at hrun
    obtain ⟨c,rfl,hc,_⟩:=Go.plainElem_int_inv u3 hv
    simp only [Prod.mk.injEq] at hc
    have hb1:Below w.heap.size w ((w.alloc (.cells #[.map (some M)] 30 (0,0))).alloc (cA s)):=below_alloc (below_alloc (Below.refl _ _) _) _
    have hD:((w.alloc (.cells #[.map (some M)] 30 (0,0))).alloc (cA s)).heap[w.heap.size]? = some (.cells #[.map (some M)] 30 (0,0)):=blk_alloc (blk_new w _) _
    have hA:((w.alloc (.cells #[.map (some M)] 30 (0,0))).alloc (cA s)).heap[w.heap.size+1]? = some (cA s):=by
      have h:=blk_new (w.alloc (.cells #[.map (some M)] 30 (0,0))) (cA s)
      rw[World.size_alloc] at h
      exact h
    have hI1:Inv Z ((w.alloc (.cells #[.map (some M)] 30 (0,0))).alloc (cA s)) M L:=hI.below hb1
    have hmf:∀ (fn:Fn) (first cap:Array Value) (w:World),(Instr.makeFunc fn first cap).run Try.prog w=.ok (.func fn first cap) w:=fun _ _ _ _=>rfl
    have ht:s∈L→c=(tS s:Int):=fun hin=>by
      have h:=at_map (H:=Unit) h8 (fun x hx=>(hI.1 x hx).1) hin (.lit (.int .i64 0))
      rw[hc.1] at h
      unfold dS at h
      injection h with h
      injection h with _ h
    have HI:=Aside0.mk hI1;have HB1:=Aside0.mk hb1;have HD:=Aside0.mk hD;have HA:=Aside0.mk hA;have HT:=Aside0.mk ht;have H8:=Aside0.mk h8;have HSS:=Aside0.mk hs;have HN:=Aside0.mk hn;have HZ:=Aside0.mk hZ;have HBW:=Aside0.mk hBw;have IH:=Aside0.mk ih
    have hI0:=Aside0.mk hI
    clear hI hI1 hb1 hD hA hc hv ht h8 hs hn hZ hBw ih
    obtain ⟨a1,a2,a3,a4⟩:=s
    have x0:=(blk_cell HD.out 0).trans rfl
    obtain ⟨z0,z1,z2,z3⟩:=four HA.out
    by_cases hin:(a1,a2,a3,a4)∈L
    · rw[decide_eq_true hin] at hrun
      obtain rfl:=HT.out hin
      clear hin HT
      simp only [aS,arr] at hrun
      generalize hw1:(w.alloc (.cells #[.map (some M)] 30 (0,0))).alloc (cA (a1,a2,a3,a4))=w1 at *
      unfold cA at hw1
      unfold aS arr
      go_enter Try.func12,Try.ntmps12
      go_wp2
      go_ret
      exact ⟨rfl,HB1.out.mono HBW.out,Kept.of_below HB1.out _,L,HI.out⟩
    · rw[decide_eq_false hin] at hrun
      simp only [aS,arr] at hrun
      have hIz:Inv (fun x=>Z x∧x≠(a1,a2,a3,a4)) ((w.alloc (.cells #[.map (some M)] 30 (0,0))).alloc (cA (a1,a2,a3,a4))) M L:=⟨fun x hx=>⟨(HI.out.1 x hx).1,(HI.out.1 x hx).2,fun e=>hin (e▸hx)⟩,HI.out.2.1,HI.out.2.2⟩
      replace HI:=Aside0.mk hIz
      clear hin hIz HT
      generalize hw1:(w.alloc (.cells #[.map (some M)] 30 (0,0))).alloc (cA (a1,a2,a3,a4))=w1 at *
      unfold cA at hw1
      have hb2:Below w1.heap.size w1 (w1.alloc (.cells #[.int .i64 0] 3 (0,0))):=below_alloc (Below.refl _ _) _
      have HE:=Aside0.mk (show Env (fun x=>Z x∧x≠(a1,a2,a3,a4)) B M (w.heap.size+1) w1.heap.size w.heap.size (a1,a2,a3,a4) 0 (w1.alloc (.cells #[.int .i64 0] 3 (0,0))) from ⟨blk_below HA.out hb2,blk_new _ _,blk_below HD.out hb2,⟨L,HI.out.below hb2⟩,Nat.le_trans HBW.out HB1.out.size⟩)
      have HSP:=Aside0.mk (splits_calls (fun x=>Z x∧x≠(a1,a2,a3,a4)) B M (w.heap.size+1) w1.heap.size w.heap.size (a1,a2,a3,a4) 82 (Dl.Td a1 a2 a3 a4) H8.out _ HE.out (Nat.le_trans (Nat.le_trans HBW.out HB1.out.size) hb2.size) hBM (one_parts HSS.out).2.2 (fun s' h8' hl w' L' hI' hB'=>IH.out (fun x=>Z x∧x≠(a1,a2,a3,a4)) s' (lessd_iff hl).1 (Nat.lt_of_lt_of_le (lessd_iff hl).2 (Nat.le_of_lt_succ HN.out)) (fun x hx=>⟨HZ.out x (Nat.le_of_lt (Nat.lt_of_le_of_lt hx (lessd_iff hl).2)),fun e=>absurd (e▸hx:wS (a1,a2,a3,a4)≤wS s') (Nat.not_le.2 (lessd_iff hl).2)⟩) w' L' hI' hB'))
      have HB2:=Aside0.mk (below_step HB1.out hb2)
      obtain ⟨q0,q1,q2,q3⟩:=four HE.out.a
      have y0:=(blk_cell HE.out.d 0).trans rfl
      clear hb2
      unfold aS arr
      go_enter Try.func12,Try.ntmps12
      go_wp2_with (first|(go_at_call 22;refine HSP.out.mono ?_;rintro e w3 ⟨rfl,hb,hk,hE⟩;obtain ⟨L3,hI3⟩:=hE.m;have hn:(a1,a2,a3,a4)∉L3:=fun h=>(hI3.1 _ h).2.2 rfl;have hsz:=few hI3.2.1 (fun x hx=>(hI3.1 x hx).1);obtain ⟨w4,hrun4,hown4,hg4⟩:=hI3.2.2.update law33 u30 (by unfold maxLen;omega) (klit_eq H8.out) (Go.plainElem_int u3 (WalkArith.wf_i64 (by have h:=tS_le (a1,a2,a3,a4);omega):(Lit.int .i64 (tS (a1,a2,a3,a4):Int)).wf=true));have hM:w1.heap.size≠M:=hI3.far hE.t;have HI4:=Aside0.mk (Inv.snoc (Z:=Z) (fun x hx=>⟨(hI3.1 x hx).1,(hI3.1 x hx).2.1⟩) hI3.2.1 hn H8.out (HZ.out _ (Nat.le_refl _)) hown4);have HB4:=Aside0.mk (Below.grown (Below.trans (HB2.out.mono HBW.out) hb) hg4 (Nat.le_trans HBW.out (Nat.le_trans HB2.out.size hb.size)) (fun k e=>by injection e with e;subst e;exact hBM));have HK4:=Aside0.mk (Kept.of_grown hg4 (Kept.then_ (Kept.of_below HB2.out (fun q=>q=M)) hk (fun q hq=>hq.elim (fun h=>.inr (by rw[h];exact HB1.out.size)) (fun h=>.inl h))) (fun k e=>by injection e with e;exact .inl e.symm));clear q0 q1 q2 q3 y0 HSP HE IH;have y0:=(blk_cell hE.d 0).trans rfl;obtain ⟨q0,q1,q2,q3⟩:=four hE.a;have y1:=(blk_cell hE.t 0).trans rfl;have y2:w4.cell? ⟨w1.heap.size,0,none⟩=some (.int .i64 (Dl.Td a1 a2 a3 a4:Int)):=(blk_cell ((hg4.block _ (blk_lt hE.t) (fun e=>hM (by injection e))).trans hE.t) 0).trans rfl;simp only [aS,arr,tS] at hrun4;clear hE hI3 hn hsz hown4 hg4 hM hb hk))
      go_ret
      exact ⟨rfl,HB4.out,HK4.out,_,HI4.out⟩
end Go.Proofs.Ytpknkpbellchgaa.PFnExactDuelWorst
