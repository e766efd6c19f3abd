import Derived.Test.YtkbahcbankfffaaPFnPairsx0
import Derived.Test.YtkbahcbankfffaaPFnPairsx7
import Derived.Test.YtkbahcbankfffaaPFnPairsx13
import Derived.Test.YtkbahcbankfffaaSh
import Derived.Test.YtkbahcbankfffaaSz
namespace Go.Proofs.Ytkbahcbankfffaa.PFnPairs
open Go.RowKit Go.Proofs.Ytkbahcbankfffaa.Sh Go.Proofs.YtkbahcbankfffaaW.PrintWords Go.Proofs.YtkbahcbankfffaaW.PrintLast Go.Proofs.YtkbahcbankfffaaW.PrintMore
attribute [local go_sem] max2_int min2_int max_two min_two max_three min_three max_four min_four
set_option linter.unusedVariables false
set_option maxHeartbeats 8000000
set_option maxRecDepth 100000
set_option linter.unusedSimpArgs false
mutual
def spec_l5Weights.l0:Nat→Int→List (List Int)→Int→Option ((List (List Int)))
 | 0,_,_,_=>none
 | k+1,x0,x3,x4=>if x4<x0 then (spec_l5Weights.l1 k x0 x3 x4 (([]:List (List Int))) 0) else (some x3)
def spec_l5Weights.l1:Nat→Int→List (List Int)→Int→List (List Int)→Int→Option ((List (List Int)))
 | 0,_,_,_,_,_=>none
 | k+1,x0,x3,x4,x5,x6=>if x6<(x3.length:Int) then (spec_l5Weights.l2 k x0 x3 x4 x5 x6 (-3)) else (spec_l5Weights.l0 k x0 x5 (wrap64 (x4+1)))
def spec_l5Weights.l2:Nat→Int→List (List Int)→Int→List (List Int)→Int→Int→Option ((List (List Int)))
 | 0,_,_,_,_,_,_=>none
 | k+1,x0,x3,x4,x5,x6,x7=>if x7≤3 then (if 0≤x6 then (if x6<(x3.length:Int) then ((spec_l1Own.f (rd_L3 x3 x6)).bind fun t439=>(if t439.length<17592186044416 then (if x5.length<5864062014805 then (spec_l5Weights.l2 k x0 x3 x4 (x5++[(t439++[x7])]) x6 (wrap64 (x7+1))) else (none)) else (none))) else (none)) else (none)) else (spec_l5Weights.l1 k x0 x3 x4 x5 (wrap64 (x6+1)))
end
def spec_l5Weights.f (k:Nat) (a0:Int):Option ((List (List Int))):=spec_l5Weights.l0 k a0 (([(([]:List Int))]:List (List Int))) 0
theorem spec_l5Weights.calls (k:Nat) (a0:Int) (r:List (List Int)) (w:World) (h:spec_l5Weights.f k a0=some r) :
 Calls Try.prog 153 #[.int .i64 a0] w fun e w' => ∃ v0_:Value,e = .returned (v0_)∧Kd.N (Kd.slice 3 (Kd.int .i64)) 24 w' w.heap.size (fun k_=>(w.heap.size≤k_)) v0_ r∧Below w.heap.size w w' := by
 have HB:=Aside0.mk (Below.refl w.heap.size w);have H:(spec_l5Weights.l0 k a0 (([(([]:List Int))]:List (List Int))) 0)=some r:=h;clear h;obtain ⟨y429,hy429⟩:∃ y_:List Int,y_=(([]:List Int)):=⟨_,rfl⟩;replace H:(spec_l5Weights.l0 k a0 (([y429]:List (List Int))) 0)=some r:=yH hy429 H
 have Ny429:=Aside0.mk hy429;clear hy429;obtain ⟨y432,hy432⟩:∃ y_:List (List Int),y_=(([y429]:List (List Int))):=⟨_,rfl⟩;replace H:(spec_l5Weights.l0 k a0 y432 0)=some r:=yH hy432 H
 have Ny432:=Aside0.mk hy432;clear hy432;have H' := Aside0.mk H;clear H;go_enter Try.func153,Try.ntmps153;go_wp2_with (first|(refine gD 8 ?_;refine Kd.R_lit (Kd.int .i64) _ 3 ?hg (N:=8) ?hd (xs:=([]:List Int)) (inner:=[]) (ok:=fun _=>True) (okp:=fun _=>True) ?hr ?hp (fun _ hk=>hk) trivial (Below.refl _ _) (Nat.le_refl _) (by simp) ?_;(case hd=>rfl);(case hg=>rfl);(case hr=>go_simp <;> rfl);(case hp=>exact (Reps.none _ _));intro v430 w2 ho3 hb hg_ hnew_;clear hg_ hnew_;(first|rw[← Ny429.out] at ho3|(simp only[Int.reduceToNat] at ho3;rw[← Ny429.out] at ho3));have HO431:=Aside0.mk (Kd.R_lower (Kd.R_newM (M:=fun k_=>(w.heap.size≤k_)) ho3 (below_size (bB HB)) (fun k_ h_=>h_)) (below_size (bB HB)));replace HB:=Aside0.mk (below_step (bB HB) hb);clear hb ho3;obtain ⟨Ao4,co4,eo4⟩:=Kd.R_slice HO431.out;subst eo4)|(refine gD 9 ?_;refine Kd.N_lit (Kd.slice 3 (Kd.int .i64)) _ 24 ?hg (N' := 9) ?hd (xs:=([y429]:List (List Int))) (inner:=[.slice Ao4 y429.length co4]) (ok:=(fun k_=>(w.heap.size≤k_))) (okp:=(fun k_=>(w.heap.size≤k_))) ?hr ?hp (fun _ hk=>hk) ((show ∀ k_,w2.heap.size≤k_→(fun k_=>(w.heap.size≤k_)) k_ from fun k_ hk=>(Nat.le_trans (below_size (bB HB)) hk)) _ (Nat.le_refl _)) (Below.refl _ _) (Nat.le_refl _) (by simp) ?_;(case hd=>rfl);(case hg=>rfl);(case hr=>go_simp <;> rfl);(case hp=>exact (Reps.one (show Kd.FK (Kd.slice 3 (Kd.int .i64)) _ _ y429 [.slice Ao4 y429.length co4] from (Kd.FK_slice_mk (Kd.R_reads' (Kd.R_mono (ok' := (fun k_=>(w.heap.size≤k_))) (HO431.out) (fun k_ hk=>hk.1))).2.1 (Kd.R_F (Kd.R_mono (ok' := (fun k_=>(w.heap.size≤k_))) (HO431.out) (fun k_ hk=>hk.1))))) (Reps.none _ _)));intro v433 w5 ho6 hb hg_ hnew_;clear hg_ hnew_;(first|rw[← Ny432.out] at ho6|(simp only[Int.reduceToNat] at ho6;rw[← Ny432.out] at ho6));have HO434:=Aside0.mk (Kd.N_lower ho6 (below_size (bB HB)));replace HB:=Aside0.mk (below_step (bB HB) hb);clear HO431;clear hb ho6))
 go_loopg [3,4] k (fun kq v3 v4 w' => ∃ (x3_1:List (List Int)) (x4_1:Int),v4 = .int .i64 x4_1∧Aside0 (spec_l5Weights.l0 kq a0 x3_1 x4_1=some r)∧Aside0 (kq≤k)∧Aside0 (Kd.N (Kd.slice 3 (Kd.int .i64)) 24 w' w.heap.size (fun k_=>(w.heap.size≤k_)) v3 x3_1)∧Aside0 (Below w.heap.size w w'))
 case atStart=>exact ⟨(y432),(0),rD,H',⟨Nat.le_refl _⟩,⟨pN HO434⟩,⟨bB HB⟩⟩
 case round =>
  clear H';obtain ⟨x3_1,x4_1,rfl,HA,HK1,HO_3,HB⟩:=hrel;cases gk with
  | zero=>exact absurd HA.out (by simp[spec_l5Weights.l0])
  | succ k1 =>
   have H:=HA.out;clear HA;simp only[spec_l5Weights.l0] at H;by_cases c7:x4_1<a0
   · replace H:=iP c7 H;have c7b0:=decide_eq_true c7;clear c7;obtain ⟨y435,hy435⟩:∃ y_:List (List Int),y_=(([]:List (List Int))):=⟨_,rfl⟩;replace H:(spec_l5Weights.l1 k1 a0 x3_1 x4_1 y435 0)=some r:=yH hy435 H
     have Ny435:=Aside0.mk hy435;clear hy435;have H' := Aside0.mk H;clear H;go_wp2_with (first|(refine gD 15 ?_;refine Kd.N_lit (Kd.slice 3 (Kd.int .i64)) _ 24 ?hg (N' := 15) ?hd (xs:=([]:List (List Int))) (inner:=[]) (ok:=(fun k_=>(w.heap.size≤k_)∧some k_≠(u3:Value).ownBlock)) (okp:=(fun k_=>(w.heap.size≤k_)∧some k_≠(u3:Value).ownBlock)) ?hr ?hp (fun _ hk=>hk) ((show ∀ k_,wr.heap.size≤k_→(fun k_=>(w.heap.size≤k_)∧some k_≠(u3:Value).ownBlock) k_ from fun k_ hk=>⟨(Nat.le_trans (below_size (bB HB)) hk),Kd.fresh' (Kd.N_lt (pN HO_3)) k_ hk⟩) _ (Nat.le_refl _)) (Below.refl _ _) (Nat.le_refl _) (by simp) ?_;(case hd=>rfl);(case hg=>rfl);(case hr=>go_simp <;> rfl);(case hp=>exact (Reps.none _ _));intro v436 w8 ho9 hb hg_ hnew_;clear hg_ hnew_;(first|rw[← Ny435.out] at ho9|(simp only[Int.reduceToNat] at ho9;rw[← Ny435.out] at ho9));have HO437:=Aside0.mk (Kd.N_lower ho9 (below_size (bB HB)));replace HO_3:=Aside0.mk (Kd.N_elder' (pN HO_3) (Kd.N_base ho9) hb);replace HB:=Aside0.mk (below_step (bB HB) hb);clear hb ho9))
     go_loopg [5,6] k1 (fun kq v5 v6 w' => ∃ (x5_2:List (List Int)) (x6_2:Int),v6 = .int .i64 x6_2∧Aside0 (spec_l5Weights.l1 kq a0 x3_1 x4_1 x5_2 x6_2=some r)∧Aside0 (kq≤k1)∧Aside0 (Kd.N (Kd.slice 3 (Kd.int .i64)) 24 w' w.heap.size (fun k_=>(w.heap.size≤k_)∧some k_≠(v5:Value).ownBlock) u3 x3_1)∧Aside0 (Kd.N (Kd.slice 3 (Kd.int .i64)) 24 w' w.heap.size (fun k_=>(w.heap.size≤k_)∧some k_≠(u3:Value).ownBlock) v5 x5_2)∧Aside0 (Below w.heap.size w w'))
     case atStart=>exact ⟨(y435),(0),rD,H',⟨Nat.le_refl _⟩,⟨pN HO_3⟩,⟨pN HO437⟩,⟨bB HB⟩⟩
     case round =>
      clear H';try clear c7
      try clear c7b0
      obtain ⟨x5_2,x6_2,rfl,HA,HK2,HO_3,HO_5,HB⟩:=hrel;cases gk with
      | zero=>exact absurd HA.out (by simp[spec_l5Weights.l1])
      | succ k2 =>
       have H:=HA.out;clear HA;simp only[spec_l5Weights.l1] at H;by_cases c10:x6_2<(x3_1.length:Int)
       · replace H:=iP c10 H;have c10b0:=decide_eq_true c10;clear c10;have H' := Aside0.mk H;clear H;obtain ⟨Ao11,co11,eo11⟩:=Kd.N_slice HO_3.out;subst eo11;go_wp2;go_loopg [5,7] k2 (fun kq v5 v7 w' => ∃ (x5_3:List (List Int)) (x7_3:Int),v7 = .int .i64 x7_3∧Aside0 (spec_l5Weights.l2 kq a0 x3_1 x4_1 x5_3 x6_2 x7_3=some r)∧Aside0 (kq≤k2)∧Aside0 (Kd.N (Kd.slice 3 (Kd.int .i64)) 24 w' w.heap.size (fun k_=>(w.heap.size≤k_)∧some k_≠(v5:Value).ownBlock) (.slice Ao11 x3_1.length co11) x3_1)∧Aside0 (Kd.N (Kd.slice 3 (Kd.int .i64)) 24 w' w.heap.size (fun k_=>(w.heap.size≤k_)∧some k_≠((.slice Ao11 x3_1.length co11):Value).ownBlock) v5 x5_3)∧Aside0 (Below w.heap.size w w'))
         case atStart=>exact ⟨(x5_2),((-3)),rD,H',⟨Nat.le_refl _⟩,⟨pN HO_3⟩,⟨pN HO_5⟩,⟨bB HB⟩⟩
         case round =>
          clear H';try clear c7
          try clear c7b0
          try clear c10
          try clear c10b0
          obtain ⟨x5_3,x7_3,rfl,HA,HK3,HO_3,HO_5,HB⟩:=hrel;cases gk with
          | zero=>exact absurd HA.out (by simp[spec_l5Weights.l2])
          | succ k3 =>
           have H:=HA.out;clear HA;simp only[spec_l5Weights.l2] at H;by_cases c12:x7_3≤3
           · replace H:=iP c12 H;have c12b0:=decide_eq_true c12;clear c12;by_cases c13:0≤x6_2
             · replace H:=iP c13 H;have c13b0:=decide_eq_true c13;clear c13;by_cases c14:x6_2<(x3_1.length:Int)
               · replace H:=iP c14 H;have c14b0:=decide_eq_true c14;clear c14;obtain ⟨t439,A15,H⟩:=bS H;by_cases c16:t439.length<17592186044416
                 · replace H:=iP c16 H;have LMc16:=Aside0.mk c16;clear c16;obtain ⟨y442,hy442⟩:∃ y_:List Int,y_=(t439++[x7_3]):=⟨_,rfl⟩;replace H:(if x5_3.length<5864062014805 then (spec_l5Weights.l2 k3 a0 x3_1 x4_1 (x5_3++[y442]) x6_2 (wrap64 (x7_3+1))) else (none))=some r:=yH hy442 H
                   have Ny442:=Aside0.mk hy442;clear hy442;by_cases c17:x5_3.length<5864062014805
                   · replace H:=iP c17 H;have LMc17:=Aside0.mk c17;clear c17;obtain ⟨y445,hy445⟩:∃ y_:List (List Int),y_=(x5_3++[y442]):=⟨_,rfl⟩;replace H:(spec_l5Weights.l2 k3 a0 x3_1 x4_1 y445 x6_2 (wrap64 (x7_3+1)))=some r:=yH hy445 H
                     have Ny445:=Aside0.mk hy445;clear hy445;have H' := Aside0.mk H;clear H;have p438:0≤(x6_2:Int):=of_decide_eq_true aS;have q438:x6_2<(x3_1.length:Int):=of_decide_eq_true aS;obtain ⟨ad438,A438_0,c438_0,e438,hx438_0,hl438_0,hi438_0⟩:=at_L3 (Kd.N_reads' HO_3.out).2.2 x6_2 p438 q438;cases e438
                     obtain ⟨ce438,hce438,hMe438,hcc438⟩:=Kd.N_get HO_3.out [] x6_2 p438 (by first|exact q438|exact of_decide_eq_true aS|(have e_:=(Kd.N_reads' HO_3.out).1;omega));obtain ⟨ua438_0,uc438_0,rfl,ul438_0,ge438_0⟩:=Kd.FK_slice_open hMe438;have hv438_0:=hcc438 0 _ rfl;rw[Nat.add_zero,show ((Kd.slice 3 (Kd.int .i64))).sz=1 from rfl,Nat.mul_one] at hv438_0;replace hv438_0:=Option.some.inj (hv438_0.symm.trans hx438_0);injection hv438_0 with hva_ hvn_ hvc_
                     rw[hva_] at ge438_0;rw[hvc_] at ul438_0;have HL438_0:=Aside0.mk (show Kd.V (Kd.int .i64) 3 _ w.heap.size _ _ (rd_L3 x3_1 x6_2) from Kd.V_mk ul438_0 ge438_0);clear hva_ hvn_ hvc_ ge438_0 ul438_0;clear hcc438 hce438;have HR438_0:=Aside0.mk hi438_0;have HC438_0:=Aside0.mk hl438_0;clear hi438_0 hl438_0;replace p438:=eq_true p438;replace q438:=eq_true q438;go_wp2_with (first|(refine gL 31 Try.func72 #[.slice A438_0 (rd_L3 x3_1 x6_2).length c438_0] ?_;(with_reducible refine (spec_l1Own.calls _ _ (rd_L3 x3_1 x6_2) t439 _ ?side1 ?side2 A15.out).mono ?_);(case side1=>repeat (first|exact (by repeat (first|(with_reducible exact HR438_0.out)|(with_reducible refine Kd.C_alloc ?_ _)|(with_reducible refine Kd.C_drewN ?_ _)|(with_reducible refine Kd.C_drew ?_)|exact HR438_0.out))|(with_reducible refine Kd.C_alloc ?_ _)|(with_reducible refine Kd.C_drewN ?_ _)|(with_reducible refine Kd.C_drew ?_)));(case side2=>exact HC438_0.out);rintro e w18 ⟨v440,rfl,ho0,hb⟩;refine ⟨_,rfl,?_⟩;have HO441:=Aside0.mk (Kd.R_lower (Kd.R_newM (M:=fun k_=>(w.heap.size≤k_)) ho0 (below_size (bB HB)) (fun k_ h_=>h_)) (below_size (bB HB)));replace HO_3:=Aside0.mk (Kd.N_elder' (pN HO_3) (Kd.R_base ho0) hb);replace HO_5:=Aside0.mk (Kd.N_elder' (pN HO_5) (Kd.R_base ho0) hb);replace HL438_0:=Aside0.mk (Kd.V_elder' (by refine xV ?_;exact HL438_0.out) (Kd.R_base ho0) hb);replace HR438_0:=Aside0.mk (Kd.C_below (by repeat (first|(with_reducible exact HR438_0.out)|(with_reducible refine Kd.C_alloc ?_ _)|(with_reducible refine Kd.C_drewN ?_ _)|(with_reducible refine Kd.C_drew ?_)|exact HR438_0.out)) hb);replace HB:=Aside0.mk (below_step (bB HB) hb);(try clear hb);(try clear ho0))|((with_reducible refine gate_builtin (b := .append) (xs:=#[.tmp 31,.tmp 33]) rfl ?_);at_builtin;refine Kd.R_append (Kd.int .i64) (w0:=w) w.heap.size rfl (.tmp 31) (.tmp 33) 24 3 (.int .i64 0) 8 rfl Try.underlying24 info3 rfl (by decide) (by omega) v440 t439 x7_3 [.int .i64 x7_3] (fun k_=>(w.heap.size≤k_)) (fun _=>False) rfl rfl ?aP (fun _ hk=>hk.elim) ?aF ?aO ?aB ?aS ?aL ?_;(case aP=>exact rfl);(case aB=>exact (bB HB));(case aF=>exact (fun k_ hk=>(Nat.le_trans (below_size (bB HB)) hk)));(case aO=>exact (by refine xR ?_;exact Kd.R_mono HO441.out (fun _ hk=>hk.1)));(case aS=>exact (below_size (bB HB)));(case aL=>have:=LMc16.out;omega);intro v443 w19 ho hb hg hat;rw[← Ny442.out] at ho;have HO444:=Aside0.mk (ho);replace HO_3:=Aside0.mk (Kd.N_afterv (ok:=(fun k_=>(w.heap.size≤k_)∧some k_≠(u5:Value).ownBlock)) (pN HO_3) hg hat);replace HO_5:=Aside0.mk (Kd.N_afterv (ok:=(fun k_=>(w.heap.size≤k_)∧some k_≠(.slice (some ad438) x3_1.length co11:Value).ownBlock)) (pN HO_5) hg hat);replace HL438_0:=Aside0.mk (Kd.V_afterv (ok:=(fun k_=>(w.heap.size≤k_)∧some k_≠(.slice (some ad438) x3_1.length co11:Value).ownBlock∧some k_≠(u5:Value).ownBlock)) (by refine xV ?_;exact Kd.V_mono HL438_0.out (fun _ hk=>⟨⟨hk.1.1.1,⟨hk.1.2,hk.1.1.2⟩⟩,hk.2⟩)) hg hat);replace HB:=Aside0.mk (hb);clear HO441;clear ho hb hg hat;obtain ⟨Ao21,co21,eo21⟩:=Kd.R_slice HO444.out;subst eo21)|((with_reducible refine gate_builtin (b := .append) (xs:=#[.tmp 26,.tmp 35]) rfl ?_);at_builtin;refine Kd.N_append (Kd.slice 3 (Kd.int .i64)) (w0:=w) w.heap.size rfl (.tmp 26) (.tmp 35) 27 24 (.slice none 0 0) 24 rfl Try.underlying27 info24 rfl (by decide) (by omega) u5 x5_3 y442 [.slice Ao21 y442.length co21] (fun k_=>(w.heap.size≤k_)∧some k_≠(.slice (some ad438) x3_1.length co11:Value).ownBlock) (fun k_=>((fun k_=>(w.heap.size≤k_)∧some k_≠(.slice (some ad438) x3_1.length co11:Value).ownBlock)) k_∧some k_≠(u5:Value).ownBlock) rfl rfl ?aP (fun _ hk=>hk) ?aF ?aO ?aB ?aS ?aL ?_;(case aP=>exact (Kd.FK_slice_mk (Kd.R_reads' (Kd.R_mono (ok' := (fun k_=>((fun k_=>(w.heap.size≤k_)∧some k_≠(.slice (some ad438) x3_1.length co11:Value).ownBlock)) k_∧some k_≠(u5:Value).ownBlock)) (Kd.R_apart' (Kd.R_apart' (HO444.out) (Kd.N_typed HO_3.out) (by decide)) (Kd.N_typed HO_5.out) (by decide)) (fun k_ hk=>⟨⟨hk.1.1,hk.1.2⟩,hk.2⟩))).2.1 (Kd.R_F (Kd.R_mono (ok' := (fun k_=>((fun k_=>(w.heap.size≤k_)∧some k_≠(.slice (some ad438) x3_1.length co11:Value).ownBlock)) k_∧some k_≠(u5:Value).ownBlock)) (Kd.R_apart' (Kd.R_apart' (HO444.out) (Kd.N_typed HO_3.out) (by decide)) (Kd.N_typed HO_5.out) (by decide)) (fun k_ hk=>⟨⟨hk.1.1,hk.1.2⟩,hk.2⟩)))));(case aB=>exact (bB HB));(case aF=>exact (fun k_ hk=>⟨(Nat.le_trans (below_size (bB HB)) hk),Kd.fresh' (Kd.N_lt (pN HO_3)) k_ hk⟩));(case aO=>exact (by refine xN ?_;exact Kd.N_mono HO_5.out (fun _ hk=>⟨hk.1.1,hk.1.2⟩)));(case aS=>exact (below_size (bB HB)));(case aL=>have:=LMc17.out;omega);intro v446 w20 ho hb hg hat;rw[← Ny445.out] at ho;have HO447:=Aside0.mk (ho);replace HO_3:=Aside0.mk (Kd.N_afterv (ok:=(fun k_=>(w.heap.size≤k_)∧some k_≠(.slice Ao21 y442.length co21:Value).ownBlock)) (by refine xN ?_;exact Kd.N_mono HO_3.out (fun _ hk=>⟨⟨hk.1.1,hk.2⟩,hk.1.2⟩)) hg hat);replace HL438_0:=Aside0.mk (Kd.V_afterv (ok:=(fun k_=>(w.heap.size≤k_)∧some k_≠(.slice (some ad438) x3_1.length co11:Value).ownBlock∧some k_≠(.slice Ao21 y442.length co21:Value).ownBlock)) (by refine xV ?_;exact Kd.V_mono HL438_0.out (fun _ hk=>⟨⟨hk.1.1,⟨hk.1.2.1,hk.2⟩⟩,hk.1.2.2⟩)) hg hat);replace HB:=Aside0.mk (hb);clear HO_5 HO444;clear ho hb hg hat))
                     go_roundg k3
                     case measure=>have:=HK1.out;have:=HK2.out;have:=HK3.out;omega
                     case rel=>exact ⟨(y445),(wrap64 (x7_3+1)),rD,H',⟨by have:=HK1.out;have:=HK2.out;have:=HK3.out;omega⟩,⟨by refine xN ?_;exact Kd.N_mono HO_3.out (fun _ hk=>⟨hk.1.1,hk.2⟩)⟩,⟨pN HO447⟩,⟨bB HB⟩⟩
                   · replace H:=iN c17 H;cases H
                 · replace H:=iN c16 H;cases H
               · replace H:=iN c14 H;cases H
             · replace H:=iN c13 H;cases H
           · replace H:=iN c12 H;have c12b0:=decide_eq_false c12;clear c12;have H' := Aside0.mk H;clear H;go_wp2;go_roundg k3
             case measure=>have:=HK1.out;have:=HK2.out;have:=HK3.out;omega
             case rel=>exact ⟨(x5_3),(wrap64 (x6_2+1)),rD,H',⟨by have:=HK1.out;have:=HK2.out;have:=HK3.out;omega⟩,⟨pN HO_3⟩,⟨pN HO_5⟩,⟨bB HB⟩⟩
       · replace H:=iN c10 H;have c10b0:=decide_eq_false c10;clear c10;have H' := Aside0.mk H;clear H;obtain ⟨Ao22,co22,eo22⟩:=Kd.N_slice HO_3.out;subst eo22;go_wp2;go_roundg k2
         case measure=>have:=HK1.out;have:=HK2.out;omega
         case rel=>exact ⟨(x5_2),(wrap64 (x4_1+1)),rD,H',⟨by have:=HK1.out;have:=HK2.out;omega⟩,⟨by refine xN ?_;exact Kd.N_mono HO_5.out (fun _ hk=>hk.1)⟩,⟨bB HB⟩⟩
   · replace H:=iN c7 H;have c7b0:=decide_eq_false c7;clear c7;obtain rfl:=Option.some.inj H;go_wp2;go_ret
     exact ⟨_,eW,by refine xN ?_;exact HO_3.out,bB HB⟩
def spec_l1Most.f (a0:Int) (a1:Int):Option (Int):=if a0>a1 then (some a0) else (some a1)
theorem spec_l1Most.calls (a0:Int) (a1:Int) (r:Int) (w:World) (h:spec_l1Most.f a0 a1=some r) :
 Calls Try.prog 166 #[.int .i64 a0,.int .i64 a1] w fun e w' => e = .returned (.int .i64 r)∧Drawn0 w w' := by
 have H:(if a0>a1 then (some a0) else (some a1))=some r:=h;clear h;by_cases c3:a0>a1
 · replace H:=iP c3 H;have c3b0:=decide_eq_true c3;clear c3;obtain rfl:=Option.some.inj H;go_enter Try.func166,Try.ntmps166;go_wp2;go_ret
   exact ⟨rD,dR⟩
 · replace H:=iN c3 H;have c3b0:=decide_eq_false c3;clear c3;obtain rfl:=Option.some.inj H;go_enter Try.func166,Try.ntmps166;go_wp2;go_ret
   exact ⟨rD,dR⟩
def spec_l5Size.l0:Nat→List Int→Int→Int→Option (Int)
 | 0,_,_,_=>none
 | k+1,x0,x3,x4=>if x4<(x0.length:Int) then (if 0≤x4 then ((spec_l1Most.f (rd x0 x4) (wrap64 (-(rd x0 x4)))).bind fun t450=>(spec_l5Size.l0 k x0 (wrap64 (x3+t450)) (wrap64 (x4+1)))) else (none)) else (some x3)
def spec_l5Size.f (k:Nat) (l0:List Int):Option (Int):=spec_l5Size.l0 k l0 0 0
theorem spec_l5Size.calls (k:Nat) (A0:Option Addr) (c0:Nat) (l0:List Int) (r:Int) (w:World) (hr0:Kd.C (Kd.int .i64) w A0 l0.length l0) (hc0:l0.length≤c0) (h:spec_l5Size.f k l0=some r) :
 Calls Try.prog 154 #[.slice A0 l0.length c0] w fun e w' => e = .returned (.int .i64 r)∧Drawn0 w w' := by
 have HR0:=Aside0.mk hr0;have HC0:=Aside0.mk hc0;clear hr0 hc0;have H:(spec_l5Size.l0 k l0 0 0)=some r:=h;clear h;have H' := Aside0.mk H;clear H;go_enter Try.func154,Try.ntmps154;go_wp2;repeat (go_quiet (fail);try go_wp2)
 go_loopg [3,4] k (fun kq v3 v4 w' => ∃ (x3_1:Int) (x4_1:Int),v3 = .int .i64 x3_1∧v4 = .int .i64 x4_1∧Aside0 (spec_l5Size.l0 kq l0 x3_1 x4_1=some r)∧Aside0 (kq≤k)∧Drawn0 w w')
 case atStart=>exact ⟨(0),(0),rD,rD,H',⟨Nat.le_refl _⟩,dR⟩
 case round =>
  clear H';obtain ⟨x3_1,x4_1,rfl,rfl,HA,HK1,⟨m1,rfl⟩⟩:=hrel;cases gk with
  | zero=>exact absurd HA.out (by simp[spec_l5Size.l0])
  | succ k1 =>
   have H:=HA.out;clear HA;simp only[spec_l5Size.l0] at H;by_cases c2:x4_1<(l0.length:Int)
   · replace H:=iP c2 H;have c2b0:=decide_eq_true c2;clear c2;by_cases c3:0≤x4_1
     · replace H:=iP c3 H;have c3b0:=decide_eq_true c3;clear c3;obtain ⟨t450,A4,H⟩:=bS H;have H' := Aside0.mk H;clear H;have p448:0≤(x4_1:Int):=of_decide_eq_true aS;have q448:x4_1<(l0.length:Int):=of_decide_eq_true aS;obtain ⟨ad448,e448,hx448_0⟩:=Kd.at_int HR0.out x4_1 p448 q448;cases e448
       replace p448:=eq_true p448;replace q448:=eq_true q448;have p449:0≤(x4_1:Int):=of_decide_eq_true aS;have q449:x4_1<(l0.length:Int):=of_decide_eq_true aS;obtain ⟨ad449,e449,hx449_0⟩:=Kd.at_int HR0.out x4_1 p449 q449;obtain rfl:ad448=ad449:=(by injection e449);replace p449:=eq_true p449;replace q449:=eq_true q449;go_wp2_with (first|(go_at_call 166;(with_reducible refine (spec_l1Most.calls (rd l0 x4_1) (wrap64 (-(rd l0 x4_1))) t450 _ A4.out).mono ?_);rintro e w' ⟨rfl,⟨nd,rfl⟩⟩;(try first|exact ⟨rfl,_,World.drewN_drewN _ _ _⟩|exact ⟨rfl,_,Eq.trans (World.drewN_drewN _ _ _) (congrArg (World.drewN _) (Nat.add_assoc _ _ _))⟩)))
       repeat (go_quiet (first|(go_at_call 166;(with_reducible refine (spec_l1Most.calls (rd l0 x4_1) (wrap64 (-(rd l0 x4_1))) t450 _ A4.out).mono ?_);rintro e w' ⟨rfl,⟨nd,rfl⟩⟩;(try first|exact ⟨rfl,_,World.drewN_drewN _ _ _⟩|exact ⟨rfl,_,Eq.trans (World.drewN_drewN _ _ _) (congrArg (World.drewN _) (Nat.add_assoc _ _ _))⟩)));try go_wp2_with (first|(go_at_call 166;(with_reducible refine (spec_l1Most.calls (rd l0 x4_1) (wrap64 (-(rd l0 x4_1))) t450 _ A4.out).mono ?_);rintro e w' ⟨rfl,⟨nd,rfl⟩⟩;(try first|exact ⟨rfl,_,World.drewN_drewN _ _ _⟩|exact ⟨rfl,_,Eq.trans (World.drewN_drewN _ _ _) (congrArg (World.drewN _) (Nat.add_assoc _ _ _))⟩))))
       go_roundg k1
       case measure=>exact kM HK1
       case rel=>exact ⟨(wrap64 (x3_1+t450)),(wrap64 (x4_1+1)),rD,rD,H',⟨kM HK1⟩,dR⟩
     · replace H:=iN c3 H;cases H
   · replace H:=iN c2 H;have c2b0:=decide_eq_false c2;clear c2;obtain rfl:=Option.some.inj H;go_wp2;repeat (go_quiet (fail);try go_wp2)
     go_ret
     exact ⟨rD,dR⟩
mutual
def spec_l5Least.l0:Nat→Int→List Int→List (List Int)→List Int→Bool→Int→Option (List Int×Bool)
 | 0,_,_,_,_,_,_=>none
 | k+1,x0,x1,x6,x7,x8,x9=>if x9<(x6.length:Int) then (if x8=true then (if 0≤x9 then ((spec_l5Size.f k (rd_L3 x6 x9)).bind fun t458=>((spec_l5Size.f k x7).bind fun t459=>(spec_l5Least.j1 k x0 x1 x6 x7 x8 x9 (decide (t458≥t459))))) else (none)) else (spec_l5Least.j1 k x0 x1 x6 x7 x8 x9 false)) else (some (x7,x8))
def spec_l5Least.j1:Nat→Int→List Int→List (List Int)→List Int→Bool→Int→Bool→Option (List Int×Bool)
 | 0,_,_,_,_,_,_,_=>none
 | k+1,x0,x1,x6,x7,x8,x9,x32=>if x32=true then (spec_l5Least.l0 k x0 x1 x6 x7 x8 (wrap64 (x9+1))) else (if 0≤x9 then (if x9<(x6.length:Int) then ((spec_l5Parts.f k x0 x1 (rd_L3 x6 x9)).bind fun bt461=>(if bt461.2.2=true then (spec_l5Least.l0 k x0 x1 x6 (rd_L3 x6 x9) true (wrap64 (x9+1))) else (spec_l5Least.l0 k x0 x1 x6 x7 x8 (wrap64 (x9+1))))) else (none)) else (none))
end
def spec_l5Least.f (k:Nat) (a0:Int) (l1:List Int):Option (List Int×Bool):=(spec_l5Weights.f k a0).bind fun t451=>(spec_l5Least.l0 k a0 l1 t451 (([]:List Int)) false 0)
theorem spec_l5Least.calls (k:Nat) (a0:Int) (A1:Option Addr) (c1:Nat) (l1:List Int) (r1:List Int) (r2:Bool) (w:World) (hr1:Kd.C (Kd.int .i64) w A1 l1.length l1) (hc1:l1.length≤c1) (h:spec_l5Least.f k a0 l1=some (r1,r2)) :
 Calls Try.prog 128 #[.int .i64 a0,.slice A1 l1.length c1] w fun e w' => ∃ v0_:Value,e = .returned (.tuple #[v0_,.bool r2])∧Kd.V (Kd.int .i64) 3 w' w.heap.size (fun k_=>(w.heap.size≤k_)) v0_ r1∧Below w.heap.size w w' := by
 have HR1:=Aside0.mk hr1;have HC1:=Aside0.mk hc1;clear hr1 hc1;have HB:=Aside0.mk (Below.refl w.heap.size w);have H:((spec_l5Weights.f k a0).bind fun t451=>(spec_l5Least.l0 k a0 l1 t451 (([]:List Int)) false 0))=some (r1,r2):=h;clear h;obtain ⟨t451,A3,H⟩:=bS H;obtain ⟨y454,hy454⟩:∃ y_:List Int,y_=(([]:List Int)):=⟨_,rfl⟩;replace H:(spec_l5Least.l0 k a0 l1 t451 y454 false 0)=some (r1,r2):=yH hy454 H
 have Ny454:=Aside0.mk hy454;clear hy454;have H' := Aside0.mk H;clear H;go_enter Try.func128,Try.ntmps128;go_wp2_with (first|(refine gL 14 Try.func153 #[.int .i64 a0] ?_;(with_reducible refine (spec_l5Weights.calls k a0 t451 _ A3.out).mono ?_);rintro e w4 ⟨v452,rfl,ho0,hb⟩;refine ⟨_,rfl,?_⟩;have HO453:=Aside0.mk (Kd.N_lower (Kd.N_mono (ok' := fun k_=>(w.heap.size≤k_)) ho0 (fun k_ hk_=>(Nat.le_trans (below_size (bB HB)) hk_))) (below_size (bB HB)));replace HB:=Aside0.mk (below_step (bB HB) hb);(try clear hb);(try clear ho0))|(refine gD 15 ?_;refine Kd.R_lit (Kd.int .i64) _ 3 ?hg (N:=15) ?hd (xs:=([]:List Int)) (inner:=[]) (ok:=fun _=>True) (okp:=fun _=>True) ?hr ?hp (fun _ hk=>hk) trivial (Below.refl _ _) (Nat.le_refl _) (by simp) ?_;(case hd=>rfl);(case hg=>rfl);(case hr=>go_simp <;> rfl);(case hp=>exact (Reps.none _ _));intro v455 w5 ho6 hb hg_ hnew_;clear hg_ hnew_;(first|rw[← Ny454.out] at ho6|(simp only[Int.reduceToNat] at ho6;rw[← Ny454.out] at ho6));have HO456:=Aside0.mk (Kd.R_lower (Kd.R_newM (M:=fun k_=>(w.heap.size≤k_)) ho6 (below_size (bB HB)) (fun k_ h_=>h_)) (below_size (bB HB)));replace HO453:=Aside0.mk (Kd.N_elder' (pN HO453) (Kd.R_base ho6) hb);replace HB:=Aside0.mk (below_step (bB HB) hb);clear hb ho6))
 go_loopg [7,8,9] k (fun kq v7 v8 v9 w' => ∃ (x7_1:List Int) (x8_1:Bool) (x9_1:Int),v8 = .bool x8_1∧v9 = .int .i64 x9_1∧Aside0 (spec_l5Least.l0 kq a0 l1 t451 x7_1 x8_1 x9_1=some (r1,r2))∧Aside0 (kq≤k)∧Aside0 (Kd.N (Kd.slice 3 (Kd.int .i64)) 24 w' w.heap.size (fun k_=>(w.heap.size≤k_)) v452 t451)∧Aside0 (Kd.V (Kd.int .i64) 3 w' w.heap.size (fun k_=>(w.heap.size≤k_)∧some k_≠(v452:Value).ownBlock) v7 x7_1)∧Aside0 (Below w.heap.size w w'))
 case atStart=>exact ⟨(y454),(false),(0),rD,rD,H',⟨Nat.le_refl _⟩,⟨by refine xN ?_;exact Kd.N_mono HO453.out (fun _ hk=>hk.1)⟩,⟨Kd.R_V (by refine xR ?_;exact Kd.R_mono (Kd.R_apart' HO456.out (Kd.N_typed HO453.out) (by decide)) (fun _ hk=>⟨hk.1.1,hk.2⟩))⟩,⟨bB HB⟩⟩
 case round =>
  clear H';try clear c1
  obtain ⟨x7_1,x8_1,x9_1,rfl,rfl,HA,HK1,HO_6,HO_7,HB⟩:=hrel;cases gk with
  | zero=>exact absurd HA.out (by simp[spec_l5Least.l0])
  | succ k1 =>
   have H:=HA.out;clear HA;simp only[spec_l5Least.l0] at H;by_cases c7:x9_1<(t451.length:Int)
   · replace H:=iP c7 H;have c7b0:=decide_eq_true c7;clear c7;have HC8:=Aside0.mk H;clear H;obtain ⟨Ao9,co9,eo9⟩:=Kd.N_slice HO_6.out;subst eo9;go_upto_region 6 with (fail)
     go_cut [32] (fun v32 wc=>∃ (kq:Nat) (x32_7:Bool),v32 = .bool x32_7∧Aside0 (spec_l5Least.j1 kq a0 l1 t451 x7_1 x8_1 x9_1 x32_7=some (r1,r2))∧Aside0 (kq≤k1)∧Aside0 (Kd.N (Kd.slice 3 (Kd.int .i64)) 24 wc w.heap.size (fun k_=>(w.heap.size≤k_)) (.slice Ao9 t451.length co9) t451)∧Aside0 (Kd.V (Kd.int .i64) 3 wc w.heap.size (fun k_=>(w.heap.size≤k_)∧some k_≠((.slice Ao9 t451.length co9):Value).ownBlock) u7 x7_1)∧Aside0 (Below w.heap.size w wc))
     case first =>
      have H:=HC8.out;clear HC8;by_cases c10:x8_1=true
      · subst c10;replace H:=iT H;by_cases c11:0≤x9_1
        · replace H:=iP c11 H;have c11b0:=decide_eq_true c11;clear c11;(first|rw[c11b0]|(simp only[i64_w,i32_w];rw[c11b0])|rw[c11b1]|skip);obtain ⟨t458,A12,H⟩:=bS H;obtain ⟨t459,A13,H⟩:=bS H;have H' := Aside0.mk H;clear H;have p457:0≤(x9_1:Int):=of_decide_eq_true aS;have q457:x9_1<(t451.length:Int):=of_decide_eq_true aS;obtain ⟨ad457,A457_0,c457_0,e457,hx457_0,hl457_0,hi457_0⟩:=at_L3 (Kd.N_reads' HO_6.out).2.2 x9_1 p457 q457;cases e457
          obtain ⟨ce457,hce457,hMe457,hcc457⟩:=Kd.N_get HO_6.out [] x9_1 p457 (by first|exact q457|exact of_decide_eq_true aS|(have e_:=(Kd.N_reads' HO_6.out).1;omega));obtain ⟨ua457_0,uc457_0,rfl,ul457_0,ge457_0⟩:=Kd.FK_slice_open hMe457;have hv457_0:=hcc457 0 _ rfl;rw[Nat.add_zero,show ((Kd.slice 3 (Kd.int .i64))).sz=1 from rfl,Nat.mul_one] at hv457_0;replace hv457_0:=Option.some.inj (hv457_0.symm.trans hx457_0);injection hv457_0 with hva_ hvn_ hvc_
          rw[hva_] at ge457_0;rw[hvc_] at ul457_0;have HL457_0:=Aside0.mk (show Kd.V (Kd.int .i64) 3 _ w.heap.size _ _ (rd_L3 t451 x9_1) from Kd.V_mk ul457_0 ge457_0);clear hva_ hvn_ hvc_ ge457_0 ul457_0;clear hcc457 hce457;have HR457_0:=Aside0.mk hi457_0;have HC457_0:=Aside0.mk hl457_0;clear hi457_0 hl457_0;replace p457:=eq_true p457;replace q457:=eq_true q457;go_wp2_with (first|(go_at_call 154;(with_reducible refine (spec_l5Size.calls k1 _ _ (rd_L3 t451 x9_1) t458 _ ?side1 ?side2 A12.out).mono ?_);(case side1=>repeat (first|exact (by repeat (first|(with_reducible exact HR457_0.out)|(with_reducible refine Kd.C_alloc ?_ _)|(with_reducible refine Kd.C_drewN ?_ _)|(with_reducible refine Kd.C_drew ?_)|exact HR457_0.out))|(with_reducible refine Kd.C_alloc ?_ _)|(with_reducible refine Kd.C_drewN ?_ _)|(with_reducible refine Kd.C_drew ?_)));(case side2=>exact HC457_0.out);rintro e w' ⟨rfl,⟨nd,rfl⟩⟩;obtain ⟨Ao14,co14,eo14⟩:=Kd.V_slice HO_7.out;subst eo14)|(go_at_call 154;(with_reducible refine (spec_l5Size.calls k1 _ _ x7_1 t459 _ ?side1 ?side2 A13.out).mono ?_);(case side1=>repeat (first|exact (Kd.V_reads' HO_7.out).2.2|(with_reducible refine Kd.C_alloc ?_ _)|(with_reducible refine Kd.C_drewN ?_ _)|(with_reducible refine Kd.C_drew ?_)));(case side2=>exact (Kd.V_reads' HO_7.out).2.1);rintro e w' ⟨rfl,⟨nd,rfl⟩⟩))
          go_meet
          case rel=>exact ⟨_,(decide (t458≥t459)),rD,H',⟨by have:=HK1.out;first|omega|exact Nat.le_refl _⟩,⟨pN HO_6⟩,⟨by refine xV ?_;exact HO_7.out⟩,⟨bB HB⟩⟩
        · replace H:=iN c11 H;cases H
      · replace c10:=Bool.eq_false_iff.mpr c10;subst c10;replace H:=iF H;have H' := Aside0.mk H;clear H;go_wp2;go_meet
        case rel=>exact ⟨_,(false),rD,H',⟨by have:=HK1.out;first|omega|exact Nat.le_refl _⟩,⟨pN HO_6⟩,⟨by refine xV ?_;exact HO_7.out⟩,⟨bB HB⟩⟩
     case rest =>
      clear HC8;try clear c1
      try clear c7
      try clear c7b0
      obtain ⟨kq,x32_7,rfl,HA,HJ7,HO_6,HO_7,HB⟩:=hcut;cases kq with
      | zero=>exact absurd HA.out (by simp[spec_l5Least.j1])
      | succ kj7 =>
       have H:=HA.out;clear HA;simp only[spec_l5Least.j1] at H;by_cases c15:x32_7=true
       · subst c15;replace H:=iT H;have H' := Aside0.mk H;clear H;go_wp2;go_roundg kj7
         case measure=>have:=HK1.out;have:=HJ7.out;omega
         case rel=>exact ⟨(x7_1),(x8_1),(wrap64 (x9_1+1)),rD,rD,H',⟨by have:=HK1.out;have:=HJ7.out;omega⟩,⟨pN HO_6⟩,⟨by refine xV ?_;exact HO_7.out⟩,⟨bB HB⟩⟩
       · replace c15:=Bool.eq_false_iff.mpr c15;subst c15;replace H:=iF H;by_cases c16:0≤x9_1
         · replace H:=iP c16 H;have c16b0:=decide_eq_true c16;clear c16;by_cases c17:x9_1<(t451.length:Int)
           · replace H:=iP c17 H;have c17b0:=decide_eq_true c17;clear c17;replace H:=Option.bind_eq_some_iff.mp H;obtain ⟨⟨t461,t462,t463⟩,A180,H⟩:=H;replace H:(if t463=true then (spec_l5Least.l0 kj7 a0 l1 t451 (rd_L3 t451 x9_1) true (wrap64 (x9_1+1))) else (spec_l5Least.l0 kj7 a0 l1 t451 x7_1 x8_1 (wrap64 (x9_1+1))))=some (r1,r2):=H;have A18:=Aside0.mk A180;clear A180;by_cases c19:t463=true
             · subst c19;replace H:=iT H;have H' := Aside0.mk H;clear H;have p460:0≤(x9_1:Int):=of_decide_eq_true aS;have q460:x9_1<(t451.length:Int):=of_decide_eq_true aS;obtain ⟨ad460,A460_0,c460_0,e460,hx460_0,hl460_0,hi460_0⟩:=at_L3 (Kd.N_reads' HO_6.out).2.2 x9_1 p460 q460;cases e460
               obtain ⟨ce460,hce460,hMe460,hcc460⟩:=Kd.N_get HO_6.out [] x9_1 p460 (by first|exact q460|exact of_decide_eq_true aS|(have e_:=(Kd.N_reads' HO_6.out).1;omega));obtain ⟨ua460_0,uc460_0,rfl,ul460_0,ge460_0⟩:=Kd.FK_slice_open hMe460;have hv460_0:=hcc460 0 _ rfl;rw[Nat.add_zero,show ((Kd.slice 3 (Kd.int .i64))).sz=1 from rfl,Nat.mul_one] at hv460_0;replace hv460_0:=Option.some.inj (hv460_0.symm.trans hx460_0);injection hv460_0 with hva_ hvn_ hvc_
               rw[hva_] at ge460_0;rw[hvc_] at ul460_0;have HL460_0:=Aside0.mk (show Kd.V (Kd.int .i64) 3 _ w.heap.size _ _ (rd_L3 t451 x9_1) from Kd.V_mk ul460_0 ge460_0);clear hva_ hvn_ hvc_ ge460_0 ul460_0;clear hcc460 hce460;have HR460_0:=Aside0.mk hi460_0;have HC460_0:=Aside0.mk hl460_0;clear hi460_0 hl460_0;replace p460:=eq_true p460;replace q460:=eq_true q460;go_wp2_with (first|(refine gL 40 Try.func129 #[.int .i64 a0,.slice A1 l1.length c1,.slice A460_0 (rd_L3 t451 x9_1).length c460_0] ?_;(with_reducible refine (spec_l5Parts.calls kj7 a0 _ _ l1 _ _ (rd_L3 t451 x9_1) t461 t462 true _ ?side1 ?side2 ?side3 ?side4 A18.out).mono ?_);(case side1=>exact cB HR1 HB);(case side2=>exact HC1.out);(case side3=>repeat (first|exact (by repeat (first|(with_reducible exact HR460_0.out)|(with_reducible refine Kd.C_alloc ?_ _)|(with_reducible refine Kd.C_drewN ?_ _)|(with_reducible refine Kd.C_drew ?_)|exact HR460_0.out))|(with_reducible refine Kd.C_alloc ?_ _)|(with_reducible refine Kd.C_drewN ?_ _)|(with_reducible refine Kd.C_drew ?_)));(case side4=>exact HC460_0.out);rintro e w20 ⟨rfl,hb⟩;refine ⟨_,rfl,?_⟩;replace HO_6:=Aside0.mk (Kd.N_below (pN HO_6) hb);replace HO_7:=Aside0.mk (Kd.V_below (by refine xV ?_;exact HO_7.out) hb);replace HL460_0:=Aside0.mk (Kd.V_below (by refine xV ?_;exact HL460_0.out) hb);replace HR460_0:=Aside0.mk (Kd.C_below (by repeat (first|(with_reducible exact HR460_0.out)|(with_reducible refine Kd.C_alloc ?_ _)|(with_reducible refine Kd.C_drewN ?_ _)|(with_reducible refine Kd.C_drew ?_)|exact HR460_0.out)) hb);replace HB:=Aside0.mk (below_step (bB HB) hb);(try clear hb);have p464:0≤(x9_1:Int):=of_decide_eq_true aS;have q464:x9_1<(t451.length:Int):=of_decide_eq_true aS;obtain ⟨ad464,A464_0,c464_0,e464,hx464_0,hl464_0,hi464_0⟩:=at_L3 (Kd.N_reads' HO_6.out).2.2 x9_1 p464 q464;obtain rfl:ad460=ad464:=(by injection e464);obtain ⟨ce464,hce464,hMe464,hcc464⟩:=Kd.N_get HO_6.out [] x9_1 p464 (by first|exact q464|exact of_decide_eq_true aS|(have e_:=(Kd.N_reads' HO_6.out).1;omega));obtain ⟨ua464_0,uc464_0,rfl,ul464_0,ge464_0⟩:=Kd.FK_slice_open hMe464;have hv464_0:=hcc464 0 _ rfl;rw[Nat.add_zero,show ((Kd.slice 3 (Kd.int .i64))).sz=1 from rfl,Nat.mul_one] at hv464_0;replace hv464_0:=Option.some.inj (hv464_0.symm.trans hx464_0);injection hv464_0 with hva_ hvn_ hvc_;rw[hva_] at ge464_0;rw[hvc_] at ul464_0;have HL464_0:=Aside0.mk (show Kd.V (Kd.int .i64) 3 _ w.heap.size _ _ (rd_L3 t451 x9_1) from Kd.V_mk ul464_0 ge464_0);clear hva_ hvn_ hvc_ ge464_0 ul464_0;clear hcc464 hce464;have HR464_0:=Aside0.mk hi464_0;have HC464_0:=Aside0.mk hl464_0;clear hi464_0 hl464_0;replace p464:=eq_true p464;replace q464:=eq_true q464))
               go_roundg kj7
               case measure=>have:=HK1.out;have:=HJ7.out;omega
               case rel=>exact ⟨(rd_L3 t451 x9_1),(true),(wrap64 (x9_1+1)),rD,rD,H',⟨by have:=HK1.out;have:=HJ7.out;omega⟩,⟨pN HO_6⟩,⟨by refine xV ?_;exact HL464_0.out⟩,⟨bB HB⟩⟩
             · replace c19:=Bool.eq_false_iff.mpr c19;subst c19;replace H:=iF H;have H' := Aside0.mk H;clear H;have p460:0≤(x9_1:Int):=of_decide_eq_true aS;have q460:x9_1<(t451.length:Int):=of_decide_eq_true aS;obtain ⟨ad460,A460_0,c460_0,e460,hx460_0,hl460_0,hi460_0⟩:=at_L3 (Kd.N_reads' HO_6.out).2.2 x9_1 p460 q460;cases e460
               obtain ⟨ce460,hce460,hMe460,hcc460⟩:=Kd.N_get HO_6.out [] x9_1 p460 (by first|exact q460|exact of_decide_eq_true aS|(have e_:=(Kd.N_reads' HO_6.out).1;omega));obtain ⟨ua460_0,uc460_0,rfl,ul460_0,ge460_0⟩:=Kd.FK_slice_open hMe460;have hv460_0:=hcc460 0 _ rfl;rw[Nat.add_zero,show ((Kd.slice 3 (Kd.int .i64))).sz=1 from rfl,Nat.mul_one] at hv460_0;replace hv460_0:=Option.some.inj (hv460_0.symm.trans hx460_0);injection hv460_0 with hva_ hvn_ hvc_
               rw[hva_] at ge460_0;rw[hvc_] at ul460_0;have HL460_0:=Aside0.mk (show Kd.V (Kd.int .i64) 3 _ w.heap.size _ _ (rd_L3 t451 x9_1) from Kd.V_mk ul460_0 ge460_0);clear hva_ hvn_ hvc_ ge460_0 ul460_0;clear hcc460 hce460;have HR460_0:=Aside0.mk hi460_0;have HC460_0:=Aside0.mk hl460_0;clear hi460_0 hl460_0;replace p460:=eq_true p460;replace q460:=eq_true q460;go_wp2_with (first|(refine gL 40 Try.func129 #[.int .i64 a0,.slice A1 l1.length c1,.slice A460_0 (rd_L3 t451 x9_1).length c460_0] ?_;(with_reducible refine (spec_l5Parts.calls kj7 a0 _ _ l1 _ _ (rd_L3 t451 x9_1) t461 t462 false _ ?side1 ?side2 ?side3 ?side4 A18.out).mono ?_);(case side1=>exact cB HR1 HB);(case side2=>exact HC1.out);(case side3=>repeat (first|exact (by repeat (first|(with_reducible exact HR460_0.out)|(with_reducible refine Kd.C_alloc ?_ _)|(with_reducible refine Kd.C_drewN ?_ _)|(with_reducible refine Kd.C_drew ?_)|exact HR460_0.out))|(with_reducible refine Kd.C_alloc ?_ _)|(with_reducible refine Kd.C_drewN ?_ _)|(with_reducible refine Kd.C_drew ?_)));(case side4=>exact HC460_0.out);rintro e w21 ⟨rfl,hb⟩;refine ⟨_,rfl,?_⟩;replace HO_6:=Aside0.mk (Kd.N_below (pN HO_6) hb);replace HO_7:=Aside0.mk (Kd.V_below (by refine xV ?_;exact HO_7.out) hb);replace HL460_0:=Aside0.mk (Kd.V_below (by refine xV ?_;exact HL460_0.out) hb);replace HR460_0:=Aside0.mk (Kd.C_below (by repeat (first|(with_reducible exact HR460_0.out)|(with_reducible refine Kd.C_alloc ?_ _)|(with_reducible refine Kd.C_drewN ?_ _)|(with_reducible refine Kd.C_drew ?_)|exact HR460_0.out)) hb);replace HB:=Aside0.mk (below_step (bB HB) hb);(try clear hb);(try clear hi)))
               go_roundg kj7
               case measure=>have:=HK1.out;have:=HJ7.out;omega
               case rel=>exact ⟨(x7_1),(x8_1),(wrap64 (x9_1+1)),rD,rD,H',⟨by have:=HK1.out;have:=HJ7.out;omega⟩,⟨pN HO_6⟩,⟨by refine xV ?_;exact HO_7.out⟩,⟨bB HB⟩⟩
           · replace H:=iN c17 H;cases H
         · replace H:=iN c16 H;cases H
   · replace H:=iN c7 H;have c7b0:=decide_eq_false c7;clear c7;simp only[Option.some.injEq,Prod.mk.injEq] at H;obtain ⟨rfl,rfl⟩:=H;obtain ⟨Ao22,co22,eo22⟩:=Kd.N_slice HO_6.out;subst eo22;go_wp2;go_ret2
     exact ⟨_,eW,by refine xV ?_;exact Kd.V_mono HO_7.out (fun _ hk=>hk.1),bB HB⟩
def spec_l1Has.l0:Nat→List Int→Int→Int→Option (Bool)
 | 0,_,_,_=>none
 | k+1,x0,x1,x5=>if x5<(x0.length:Int) then (if 0≤x5 then (if (rd x0 x5)=x1 then (some true) else (spec_l1Has.l0 k x0 x1 (wrap64 (x5+1)))) else (none)) else (some false)
def spec_l1Has.f (k:Nat) (l0:List Int) (a1:Int):Option (Bool):=spec_l1Has.l0 k l0 a1 0
theorem spec_l1Has.calls (k:Nat) (A0:Option Addr) (c0:Nat) (l0:List Int) (a1:Int) (r:Bool) (w:World) (hr0:Kd.C (Kd.int .i64) w A0 l0.length l0) (hc0:l0.length≤c0) (h:spec_l1Has.f k l0 a1=some r) :
 Calls Try.prog 130 #[.slice A0 l0.length c0,.int .i64 a1] w fun e w' => e = .returned (.bool r)∧Drawn0 w w' := by
 have HR0:=Aside0.mk hr0;have HC0:=Aside0.mk hc0;clear hr0 hc0;have H:(spec_l1Has.l0 k l0 a1 0)=some r:=h;clear h;have H' := Aside0.mk H;clear H;go_enter Try.func130,Try.ntmps130;go_wp2;go_loopg [5] k (fun kq v5 w' => ∃ (x5_1:Int),v5 = .int .i64 x5_1∧Aside0 (spec_l1Has.l0 kq l0 a1 x5_1=some r)∧Aside0 (kq≤k)∧Drawn0 w w')
 case atStart=>exact ⟨(0),rD,H',⟨Nat.le_refl _⟩,dR⟩
 case round =>
  clear H';try clear c1
  obtain ⟨x5_1,rfl,HA,HK1,⟨m1,rfl⟩⟩:=hrel;cases gk with
  | zero=>exact absurd HA.out (by simp[spec_l1Has.l0])
  | succ k1 =>
   have H:=HA.out;clear HA;simp only[spec_l1Has.l0] at H;by_cases c3:x5_1<(l0.length:Int)
   · replace H:=iP c3 H;have c3b0:=decide_eq_true c3;clear c3;by_cases c4:0≤x5_1
     · replace H:=iP c4 H;have c4b0:=decide_eq_true c4;clear c4;by_cases c5:(rd l0 x5_1)=a1
       · replace H:=iP c5 H;have c5b0:=qT c5;have c5b1:=nF c5;clear c5;obtain rfl:=Option.some.inj H;have p465:0≤(x5_1:Int):=of_decide_eq_true aS;have q465:x5_1<(l0.length:Int):=of_decide_eq_true aS;obtain ⟨ad465,e465,hx465_0⟩:=Kd.at_int HR0.out x5_1 p465 q465;cases e465
         replace p465:=eq_true p465;replace q465:=eq_true q465;go_wp2;go_ret
         exact ⟨rD,dR⟩
       · replace H:=iN c5 H;have c5b0:=qF c5;have c5b1:=nT c5;have H' := Aside0.mk H;clear H;have p465:0≤(x5_1:Int):=of_decide_eq_true aS;have q465:x5_1<(l0.length:Int):=of_decide_eq_true aS;obtain ⟨ad465,e465,hx465_0⟩:=Kd.at_int HR0.out x5_1 p465 q465;cases e465
         replace p465:=eq_true p465;replace q465:=eq_true q465;go_wp2;go_roundg k1
         case measure=>exact kM HK1
         case rel=>exact ⟨(wrap64 (x5_1+1)),rD,H',⟨kM HK1⟩,dR⟩
     · replace H:=iN c4 H;cases H
   · replace H:=iN c3 H;have c3b0:=decide_eq_false c3;clear c3;obtain rfl:=Option.some.inj H;go_wp2;go_ret
     exact ⟨rD,dR⟩
end Go.Proofs.Ytkbahcbankfffaa.PFnPairs
