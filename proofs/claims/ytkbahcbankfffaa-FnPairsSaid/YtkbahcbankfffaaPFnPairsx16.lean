import Derived.Test.YtkbahcbankfffaaPFnPairsx0
import Derived.Test.YtkbahcbankfffaaPFnPairsx15
import Derived.Test.YtkbahcbankfffaaSh
import Derived.Test.YtkbahcbankfffaaSz
namespace Go.Proofs.Ytkbahcbankfffaa.PFnPairs
open Go.RowKit Go.Proofs.Ytkbahcbankfffaa.Sh Go.Proofs.YtkbahcbankfffaaW.PrintWords Go.Proofs.YtkbahcbankfffaaW.PrintLast Go.Proofs.YtkbahcbankfffaaW.PrintMore
attribute [local go_sem] max2_int min2_int max_two min_two max_three min_three max_four min_four
set_option linter.unusedVariables false
set_option maxHeartbeats 8000000
set_option maxRecDepth 100000
set_option linter.unusedSimpArgs false
mutual
def laws_vNet.j0:Nat→Bool→Int→List (List (S47))→Int→List (List (S47))→Option (Bool)
 | 0,_,_,_,_,_=>none
 | k+1,x20,x510000,x510001,x511000,x511001=>if x20=true then (some false) else (laws_vNet.l0 k 0 x510000 x510001 x511000 x511001)
def laws_vNet.l0:Nat→Int→Int→List (List (S47))→Int→List (List (S47))→Option (Bool)
 | 0,_,_,_,_,_=>none
 | k+1,x5,x510000,x510001,x511000,x511001=>if x5<(x510001.length:Int) then (if 0≤x5 then (if x5<(x511001.length:Int) then (if ((rd_L7 x510001 x5).length:Int)=((rd_L7 x511001 x5).length:Int) then (laws_vNet.l1 k x5 0 x510000 x510001 x511000 x511001) else (some false)) else (none)) else (none)) else (some true)
def laws_vNet.l1:Nat→Int→Int→Int→List (List (S47))→Int→List (List (S47))→Option (Bool)
 | 0,_,_,_,_,_,_=>none
 | k+1,x5,x6,x510000,x510001,x511000,x511001=>if 0≤x5 then (if x5<(x510001.length:Int) then (if x6<((rd_L7 x510001 x5).length:Int) then (if 0≤x6 then (if x5<(x511001.length:Int) then (if x6<((rd_L7 x511001 x5).length:Int) then ((laws_vPlane.f k ((rd_T47 (rd_L7 x510001 x5) x6).f0) ((rd_T47 (rd_L7 x510001 x5) x6).f1) ((rd_T47 (rd_L7 x511001 x5) x6).f0) ((rd_T47 (rd_L7 x511001 x5) x6).f1)).bind fun t518=>(if t518=true then (laws_vNet.l1 k x5 (wrap64 (x6+1)) x510000 x510001 x511000 x511001) else (some false))) else (none)) else (none)) else (none)) else (laws_vNet.l0 k (wrap64 (x5+1)) x510000 x510001 x511000 x511001)) else (none)) else (none)
end
def laws_vNet.f (k:Nat) (a0_0:Int) (l0_1:List (List (S47))) (a1_0:Int) (l1_1:List (List (S47))):Option (Bool):=if a0_0=a1_0 then (laws_vNet.j0 k ((l0_1.length:Int) != (l1_1.length:Int)) a0_0 l0_1 a1_0 l1_1) else (laws_vNet.j0 k true a0_0 l0_1 a1_0 l1_1)
def laws_vNet.T6:Bool×List (List Nat×List Nat):=(true,[([],[]),([0],[0]),([],[]),([1,2],[1,2]),([3],[3]),([4],[4]),([],[]),([6],[6]),([],[]),([7,8],[7,8]),([9],[9]),([10],[10]),([5,11],[5,11])])
def laws_vNet.B6:List Nat:=[0,1,0,7,15,31,0,64,0,448,960,1984,4095]
theorem laws_vNet.tab6:rtab .any (opsOf Try.f15 6)=laws_vNet.T6:=by kernel_rfl
theorem laws_vNet.bits6:waitsOk laws_vNet.T6.2 laws_vNet.B6=true:=by kernel_rfl
def laws_vNet.T11:Bool×List (List Nat×List Nat):=(true,[([],[]),([0],[0]),([],[]),([1,2],[1,2]),([3],[3]),([],[]),([4,5],[4,5]),([6],[6]),([],[]),([8],[8]),([],[]),([9,10],[9,10]),([11],[11]),([],[]),([12,13],[12,13]),([14],[14]),([7,15],[7,15]),([16],[16])])
def laws_vNet.B11:List Nat:=[0,1,0,7,15,0,63,127,0,256,0,1792,3840,0,16128,32512,65535,131071]
theorem laws_vNet.tab11:rtab .any (opsOf Try.f15 11)=laws_vNet.T11:=by kernel_rfl
theorem laws_vNet.bits11:waitsOk laws_vNet.T11.2 laws_vNet.B11=true:=by kernel_rfl
theorem laws_vNet.calls (k:Nat) (a0_0:Int) (A0_1:Option Addr) (c0_1:Nat) (l0_1:List (List (S47))) (a1_0:Int) (A1_1:Option Addr) (c1_1:Nat) (l1_1:List (List (S47))) (r:Bool) (w:World) (hr0_1:Kd.C (Kd.slice 47 k47) w A0_1 l0_1.length l0_1) (hc0_1:l0_1.length≤c0_1) (hr1_1:Kd.C (Kd.slice 47 k47) w A1_1 l1_1.length l1_1) (hc1_1:l1_1.length≤c1_1) (h:laws_vNet.f k a0_0 l0_1 a1_0 l1_1=some r) :
 Calls Try.prog 15 #[.agg #[.int .i64 a0_0,.slice A0_1 l0_1.length c0_1],.agg #[.int .i64 a1_0,.slice A1_1 l1_1.length c1_1]] w fun e w' => e = .returned (.bool r)∧Below w.heap.size w w' := by
 have hu34:=Try.underlying34;have hu47:=Try.underlying47;have HR0_1:=Aside0.mk hr0_1;have HC0_1:=Aside0.mk hc0_1;clear hr0_1 hc0_1;have HR1_1:=Aside0.mk hr1_1;have HC1_1:=Aside0.mk hc1_1;clear hr1_1 hc1_1;have HB:=Aside0.mk (Below.refl w.heap.size w);have H:(if a0_0=a1_0 then (laws_vNet.j0 k ((l0_1.length:Int) != (l1_1.length:Int)) a0_0 l0_1 a1_0 l1_1) else (laws_vNet.j0 k true a0_0 l0_1 a1_0 l1_1))=some r:=h;clear h;have HC3:=Aside0.mk H;clear H;go_enter Try.func15,Try.ntmps15;go_upto_region 1 with (first|(refine gD 2 ?_;refine box_event ?hg (N:=2) ?hd (cs:=#[.int .i64 a0_0,.slice A0_1 l0_1.length c0_1]) (t:=34) ?hr ?_;(case hd=>rfl);(case hg=>rfl);(case hr=>go_simp <;> rfl);intro gb509 hg w4 hbox hb;have BK509:=Aside0.mk (hbox);have GW509:=gS (w:=w) hg (bB HB);have GE509:=gS (w:=w) hg (bB HB);replace HB:=Aside0.mk (below_step (bB HB) hb);clear hb hbox hg)|(refine gD 3 ?_;refine box_event ?hg (N:=3) ?hd (cs:=#[.int .i64 a1_0,.slice A1_1 l1_1.length c1_1]) (t:=34) ?hr ?_;(case hd=>rfl);(case hg=>rfl);(case hr=>go_simp <;> rfl);intro gb510 hg w5 hbox hb;have BK510:=Aside0.mk (hbox);have GW510:=gS (w:=w) hg (bC HB GE509);have GE510:=gS (w:=w) hg (bC HB GE509);have NB509_510:=gN hg BK509;have NB510_509:=gM hg BK509;replace BK509:=Aside0.mk (bW BK509 hb);replace HB:=Aside0.mk (below_step (bC HB GE509) hb);clear hb hbox hg))
 (try simp only[Act.put,List.setIfInBounds_toArray,List.set_cons_zero,List.set_cons_succ]);go_cut [20] (fun v20 wc=>∃ (kq:Nat) (x20_2:Bool),v20 = .bool x20_2∧Aside0 (laws_vNet.j0 kq x20_2 a0_0 l0_1 a1_0 l1_1=some r)∧Aside0 (kq≤k)∧Aside0 (wc.heap[gb509]? = some (.cells #[.int .i64 a0_0,(.slice A0_1 l0_1.length c0_1)] 34 (0,0)))∧Aside0 (wc.heap[gb510]? = some (.cells #[.int .i64 a1_0,(.slice A1_1 l1_1.length c1_1)] 34 (0,0)))∧Aside0 (Below w.heap.size w wc))
 case first =>
  have H:=HC3.out;clear HC3;by_cases c6:a0_0=a1_0
  · replace H:=iP c6 H;have c6b0:=qT c6;have c6b1:=nF c6;clear c6;(first|rw[c6b0]|(simp only[i64_w,i32_w];rw[c6b0])|rw[c6b1]|skip);have H' := Aside0.mk H;clear H;have hnb7:=NB509_510.out;have hnc7:=NB510_509.out;have hcz8_0:w5.cell? ⟨gb509,0,none⟩=some (.int .i64 a0_0):=(blk_cell BK509.out 0).trans rfl;have hcz8_1:w5.cell? ⟨gb509,1,none⟩=some (.slice A0_1 l0_1.length c0_1):=(blk_cell BK509.out 1).trans rfl;have hfz8_0:=blk_frozen BK509.out 0;have hfz8_1:=blk_frozen BK509.out 1;have hcz9_0:w5.cell? ⟨gb510,0,none⟩=some (.int .i64 a1_0):=(blk_cell BK510.out 0).trans rfl;have hcz9_1:w5.cell? ⟨gb510,1,none⟩=some (.slice A1_1 l1_1.length c1_1):=(blk_cell BK510.out 1).trans rfl;have hfz9_0:=blk_frozen BK510.out 0;have hfz9_1:=blk_frozen BK510.out 1;go_wp2;go_meet
    case rel=>exact ⟨_,(((l0_1.length:Int) != (l1_1.length:Int))),rD,H',⟨by first|omega|exact Nat.le_refl _⟩,⟨pB BK509⟩,⟨pB BK510⟩,⟨bD HB GE509 GE510⟩⟩
  · replace H:=iN c6 H;have c6b0:=qF c6;have c6b1:=nT c6;(first|rw[c6b0]|(simp only[i64_w,i32_w];rw[c6b0])|rw[c6b1]|skip);have H' := Aside0.mk H;clear H;have hnb10:=NB509_510.out;have hnc10:=NB510_509.out;have hcz11_0:w5.cell? ⟨gb509,0,none⟩=some (.int .i64 a0_0):=(blk_cell BK509.out 0).trans rfl;have hcz11_1:w5.cell? ⟨gb509,1,none⟩=some (.slice A0_1 l0_1.length c0_1):=(blk_cell BK509.out 1).trans rfl;have hfz11_0:=blk_frozen BK509.out 0;have hfz11_1:=blk_frozen BK509.out 1;have hcz12_0:w5.cell? ⟨gb510,0,none⟩=some (.int .i64 a1_0):=(blk_cell BK510.out 0).trans rfl;have hcz12_1:w5.cell? ⟨gb510,1,none⟩=some (.slice A1_1 l1_1.length c1_1):=(blk_cell BK510.out 1).trans rfl;have hfz12_0:=blk_frozen BK510.out 0;have hfz12_1:=blk_frozen BK510.out 1;go_wp2;go_meet
    case rel=>exact ⟨_,(true),rD,H',⟨by first|omega|exact Nat.le_refl _⟩,⟨pB BK509⟩,⟨pB BK510⟩,⟨bD HB GE509 GE510⟩⟩
 case rest =>
  clear HC3;obtain ⟨kq,x20_2,rfl,HA,HJ2,BK509,BK510,HB⟩:=hcut;cases kq with
  | zero=>exact absurd HA.out (by simp[laws_vNet.j0])
  | succ kj2 =>
   have H:=HA.out;clear HA;simp only[laws_vNet.j0] at H;by_cases c13:x20_2=true
   · subst c13;replace H:=iT H;obtain rfl:=Option.some.inj H;go_wp2;go_ret
     exact ⟨eW,bD HB GE509 GE510⟩
   · replace c13:=Bool.eq_false_iff.mpr c13;subst c13;replace H:=iF H;have H' := Aside0.mk H;clear H;go_wp2;go_loopg [5] kj2 (fun kq v5 w' => ∃ (x5_2:Int),v5 = .int .i64 x5_2∧Aside0 (laws_vNet.l0 kq x5_2 a0_0 l0_1 a1_0 l1_1=some r)∧Aside0 (kq≤kj2)∧Aside0 (w'.heap[gb509]? = some (.cells #[.int .i64 a0_0,(.slice A0_1 l0_1.length c0_1)] 34 (0,0)))∧Aside0 (w'.heap[gb510]? = some (.cells #[.int .i64 a1_0,(.slice A1_1 l1_1.length c1_1)] 34 (0,0)))∧Aside0 (Below w.heap.size w w'))
     case atStart=>exact ⟨(0),rD,H',⟨Nat.le_refl _⟩,⟨pB BK509⟩,⟨pB BK510⟩,⟨bD HB GE509 GE510⟩⟩
     case round =>
      clear H';try clear c13
      obtain ⟨x5_2,rfl,HA,HK2,BK509,BK510,HB⟩:=hrel;cases gk with
      | zero=>exact absurd HA.out (by simp[laws_vNet.l0])
      | succ k2 =>
       have H:=HA.out;clear HA;simp only[laws_vNet.l0] at H;by_cases c14:x5_2<(l0_1.length:Int)
       · replace H:=iP c14 H;have c14b0:=decide_eq_true c14;clear c14;by_cases c15:0≤x5_2
         · replace H:=iP c15 H;have c15b0:=decide_eq_true c15;clear c15;by_cases c16:x5_2<(l1_1.length:Int)
           · replace H:=iP c16 H;have c16b0:=decide_eq_true c16;clear c16;by_cases c17:((rd_L7 l0_1 x5_2).length:Int)=((rd_L7 l1_1 x5_2).length:Int)
             · replace H:=iP c17 H;have c17b0:=qT c17;have c17b1:=nF c17;have c17b2:((rd_L7 l0_1 x5_2).length==(rd_L7 l1_1 x5_2).length)=true:=by first|simpa using c17|(simp at c17 ⊢;omega)
               clear c17;have H' := Aside0.mk H;clear H;have hnb18:=NB509_510.out;have hnc18:=NB510_509.out;have hcz19_0:wr.cell? ⟨gb509,0,none⟩=some (.int .i64 a0_0):=(blk_cell BK509.out 0).trans rfl;have hcz19_1:wr.cell? ⟨gb509,1,none⟩=some (.slice A0_1 l0_1.length c0_1):=(blk_cell BK509.out 1).trans rfl;have hfz19_0:=blk_frozen BK509.out 0;have hfz19_1:=blk_frozen BK509.out 1;try go_wp2
               replace BK509:=Aside0.mk (blk_drew BK509.out);replace BK510:=Aside0.mk (blk_drew BK510.out);replace HB:=Aside0.mk (below_drew1 HB.out);have p511:0≤(x5_2:Int):=of_decide_eq_true aS;have q511:x5_2<(l0_1.length:Int):=of_decide_eq_true aS;obtain ⟨ad511,A511_0,c511_0,e511,hx511_0,hl511_0,hi511_0⟩:=at_L7 HR0_1.out x5_2 p511 q511;have hw511_0:=hx511_0;cases e511
               replace hx511_0:=hC HB hx511_0;have HR511_0:=Aside0.mk hi511_0;have HC511_0:=Aside0.mk hl511_0;clear hi511_0 hl511_0;replace p511:=eq_true p511;replace q511:=eq_true q511;have p512:0≤(x5_2:Int):=of_decide_eq_true aS;have q512:x5_2<(l1_1.length:Int):=of_decide_eq_true aS;obtain ⟨ad512,A512_0,c512_0,e512,hx512_0,hl512_0,hi512_0⟩:=at_L7 HR1_1.out x5_2 p512 q512;have hw512_0:=hx512_0;cases e512
               replace hx512_0:=hC HB hx512_0;have HR512_0:=Aside0.mk hi512_0;have HC512_0:=Aside0.mk hl512_0;clear hi512_0 hl512_0;replace p512:=eq_true p512;replace q512:=eq_true q512;refine start_ (n:=13) (S:=fun w' => w'.cell? ⟨gb509,0,none⟩=some (.int .i64 a0_0)∧w'.cell? ⟨gb509,1,none⟩=some (.slice (some ad511) l0_1.length c0_1)∧w'.cell? ⟨gb510,0,none⟩=some (.int .i64 a1_0)∧w'.cell? ⟨gb510,1,none⟩=some (.slice (some ad512) l1_1.length c1_1)∧w'.cell? (ad511.add (x5_2).toNat)=some (.slice A511_0 (rd_L7 l0_1 x5_2).length c511_0)∧w'.cell? (ad512.add (x5_2).toNat)=some (.slice A512_0 (rd_L7 l1_1 x5_2).length c512_0)) (ds:=[]) #[false,false,false,false,false,false,false,false,false,false,false,false,false] (by kernel_rfl) rfl rfl ⟨(blk_cell BK509.out 0).trans rfl,(blk_cell BK509.out 1).trans rfl,(blk_cell BK510.out 0).trans rfl,(blk_cell BK510.out 1).trans rfl,((HB.out.cell (World.block_lt_of_cell? w _ hw511_0)).trans hw511_0),((HB.out.cell (World.block_lt_of_cell? w _ hw512_0)).trans hw512_0)⟩ (fun hHeld => ?_);refine with_tabW laws_vNet.tab6 laws_vNet.bits6 (fun HT_ HW_ => ?_);generalize wr.drew=w20 at BK509 BK510 HB HR511_0 HR512_0 hx511_0 hx512_0 hHeld ⊢;refine pure_ (i:=0) (N:=some 28) (v := ?_) (a' := ?_) #[true,false,false,false,false,false,false,false,false,false,false,false,false] rfl rfl (any_of HT_.out (by kernel_rfl)) (fun _ _ _ h=>h) (Or.inl ⟨by rfl,?_⟩) ?_ ?_;rotate_left
               · intro w';go_simp;with_reducible rfl
               rotate_left
               · exact aP
               refine pure_ (i:=2) (N:=some 30) (v := ?_) (a' := ?_) #[true,false,true,false,false,false,false,false,false,false,false,false,false] rfl rfl (any_of HT_.out (by kernel_rfl)) (fun _ _ _ h=>h) (Or.inl ⟨by rfl,?_⟩) ?_ ?_;rotate_left
               · intro w';go_simp;with_reducible rfl
               rotate_left
               · exact aP
               refine pure_ (i:=6) (N:=some 34) (v := ?_) (a' := ?_) #[true,false,true,false,false,false,true,false,false,false,false,false,false] rfl rfl (any_of HT_.out (by kernel_rfl)) (fun _ _ _ h=>h) (Or.inl ⟨by rfl,?_⟩) ?_ ?_;rotate_left
               · intro w';go_simp;with_reducible rfl
               rotate_left
               · exact aP
               refine pure_ (i:=8) (N:=some 36) (v := ?_) (a' := ?_) #[true,false,true,false,false,false,true,false,true,false,false,false,false] rfl rfl (any_of HT_.out (by kernel_rfl)) (fun _ _ _ h=>h) (Or.inl ⟨by rfl,?_⟩) ?_ ?_;rotate_left
               · intro w';go_simp;with_reducible rfl
               rotate_left
               · exact aP
               refine take_ (i:=1) (N:=some 29) (v := ?_) (a' := ?_) #[true,true,true,false,false,false,true,false,true,false,false,false,false] rfl rfl (take_ofW HT_.out HW_.out (by kernel_rfl)) (fun _ _ _ h=>h) (Or.inl ⟨by rfl,?_⟩) hHeld ?_ ?_;rotate_left
               · rintro w' ⟨s0,s1,s2,s3,s4,s5⟩;go_simp;with_reducible rfl
               rotate_left
               · exact aP
               refine pure_ (i:=3) (N:=some 31) (v := ?_) (a' := ?_) #[true,true,true,true,false,false,true,false,true,false,false,false,false] rfl rfl (any_of HT_.out (by kernel_rfl)) (fun _ _ _ h=>h) (Or.inl ⟨by rfl,?_⟩) ?_ ?_;rotate_left
               · intro w';go_simp;with_reducible rfl
               rotate_left
               · exact aP
               refine take_ (i:=4) (N:=some 32) (v := ?_) (a' := ?_) #[true,true,true,true,true,false,true,false,true,false,false,false,false] rfl rfl (take_ofW HT_.out HW_.out (by kernel_rfl)) (fun _ _ _ h=>h) (Or.inl ⟨by rfl,?_⟩) hHeld ?_ ?_;rotate_left
               · rintro w' ⟨s0,s1,s2,s3,s4,s5⟩;go_simp;with_reducible rfl
               rotate_left
               · exact aP
               refine pure_ (i:=5) (N:=some 33) (v := ?_) (a' := ?_) #[true,true,true,true,true,true,true,false,true,false,false,false,false] rfl rfl (any_of HT_.out (by kernel_rfl)) (fun _ _ _ h=>h) (Or.inl ⟨by rfl,?_⟩) ?_ ?_;rotate_left
               · intro w';go_simp;with_reducible rfl
               rotate_left
               · exact aP
               refine take_ (i:=7) (N:=some 35) (v := ?_) (a' := ?_) #[true,true,true,true,true,true,true,true,true,false,false,false,false] rfl rfl (take_ofW HT_.out HW_.out (by kernel_rfl)) (fun _ _ _ h=>h) (Or.inl ⟨by rfl,?_⟩) hHeld ?_ ?_;rotate_left
               · rintro w' ⟨s0,s1,s2,s3,s4,s5⟩;go_simp;with_reducible rfl
               rotate_left
               · exact aP
               refine pure_ (i:=9) (N:=some 37) (v := ?_) (a' := ?_) #[true,true,true,true,true,true,true,true,true,true,false,false,false] rfl rfl (any_of HT_.out (by kernel_rfl)) (fun _ _ _ h=>h) (Or.inl ⟨by rfl,?_⟩) ?_ ?_;rotate_left
               · intro w';go_simp;with_reducible rfl
               rotate_left
               · exact aP
               refine take_ (i:=10) (N:=some 38) (v := ?_) (a' := ?_) #[true,true,true,true,true,true,true,true,true,true,true,false,false] rfl rfl (take_ofW HT_.out HW_.out (by kernel_rfl)) (fun _ _ _ h=>h) (Or.inl ⟨by rfl,?_⟩) hHeld ?_ ?_;rotate_left
               · rintro w' ⟨s0,s1,s2,s3,s4,s5⟩;go_simp;with_reducible rfl
               rotate_left
               · exact aP
               refine pure_ (i:=11) (N:=some 39) (v := ?_) (a' := ?_) #[true,true,true,true,true,true,true,true,true,true,true,true,false] rfl rfl (any_of HT_.out (by kernel_rfl)) (fun _ _ _ h=>h) (Or.inl ⟨by rfl,?_⟩) ?_ ?_;rotate_left
               · intro w';go_simp;with_reducible rfl
               rotate_left
               · exact aP
               refine pure_ (i:=12) (N:=some 40) (v := ?_) (a' := ?_) #[true,true,true,true,true,true,true,true,true,true,true,true,true] rfl rfl (any_of HT_.out (by kernel_rfl)) (fun _ _ _ h=>h) (Or.inl ⟨by rfl,?_⟩) ?_ ?_;rotate_left
               · intro w';go_simp;with_reducible rfl
               rotate_left
               · exact aP
               refine done_ (done_of HT_.out (by kernel_rfl)) ?_;try go_wp2
               go_loopg [6] k2 (fun kq v6 w' => ∃ (x6_3:Int),v6 = .int .i64 x6_3∧Aside0 (laws_vNet.l1 kq x5_2 x6_3 a0_0 l0_1 a1_0 l1_1=some r)∧Aside0 (kq≤k2)∧Aside0 (w'.heap[gb509]? = some (.cells #[.int .i64 a0_0,(.slice (some ad511) l0_1.length c0_1)] 34 (0,0)))∧Aside0 (w'.heap[gb510]? = some (.cells #[.int .i64 a1_0,(.slice (some ad512) l1_1.length c1_1)] 34 (0,0)))∧Aside0 (Below w.heap.size w w'))
               case atStart=>exact ⟨(0),rD,H',⟨Nat.le_refl _⟩,⟨pB BK509⟩,⟨pB BK510⟩,⟨bD HB GE509 GE510⟩⟩
               case round =>
                clear H';try clear c13
                try clear c14
                try clear c14b0
                try clear c15
                try clear c15b0
                try clear c16
                try clear c16b0
                try clear c17
                try clear c17b0
                try clear c17b1
                try clear c17b2
                try clear hcz19_0
                try clear hcz19_1
                try clear hfz19_0
                try clear hfz19_1
                try clear hx511_0
                try clear hx512_0
                try clear p511
                try clear p512
                try clear q511
                try clear q512
                obtain ⟨x6_3,rfl,HA,HK3,BK509,BK510,HB⟩:=hrel;cases gk with
                | zero=>exact absurd HA.out (by simp[laws_vNet.l1])
                | succ k3 =>
                 have H:=HA.out;clear HA;simp only[laws_vNet.l1] at H;by_cases c21:0≤x5_2
                 · replace H:=iP c21 H;have c21b0:=decide_eq_true c21;clear c21;by_cases c22:x5_2<(l0_1.length:Int)
                   · replace H:=iP c22 H;have c22b0:=decide_eq_true c22;clear c22;by_cases c23:x6_3<((rd_L7 l0_1 x5_2).length:Int)
                     · replace H:=iP c23 H;have c23b0:=decide_eq_true c23;clear c23;by_cases c24:0≤x6_3
                       · replace H:=iP c24 H;have c24b0:=decide_eq_true c24;clear c24;by_cases c25:x5_2<(l1_1.length:Int)
                         · replace H:=iP c25 H;have c25b0:=decide_eq_true c25;clear c25;by_cases c26:x6_3<((rd_L7 l1_1 x5_2).length:Int)
                           · replace H:=iP c26 H;have c26b0:=decide_eq_true c26;clear c26;obtain ⟨t518,A27,H⟩:=bS H;by_cases c28:t518=true
                             · subst c28;replace H:=iT H;have H' := Aside0.mk H;clear H;have hnb29:=NB509_510.out;have hnc29:=NB510_509.out;have hcz30_0:wr.cell? ⟨gb509,0,none⟩=some (.int .i64 a0_0):=(blk_cell BK509.out 0).trans rfl;have hcz30_1:wr.cell? ⟨gb509,1,none⟩=some (.slice (some ad511) l0_1.length c0_1):=(blk_cell BK509.out 1).trans rfl;have hfz30_0:=blk_frozen BK509.out 0;have hfz30_1:=blk_frozen BK509.out 1;have p513:0≤(x5_2:Int):=of_decide_eq_true aS;have q513:x5_2<(l0_1.length:Int):=of_decide_eq_true aS;obtain ⟨ad513,A513_0,c513_0,e513,hx513_0,hl513_0,hi513_0⟩:=at_L7 HR0_1.out x5_2 p513 q513;obtain rfl:ad511=ad513:=(by injection e513);replace hx513_0:=hC HB hx513_0;have HR513_0:=Aside0.mk hi513_0;have HC513_0:=Aside0.mk hl513_0;clear hi513_0 hl513_0;replace p513:=eq_true p513;replace q513:=eq_true q513;try go_wp2
                               replace BK509:=Aside0.mk (blk_drew BK509.out);replace BK510:=Aside0.mk (blk_drew BK510.out);replace HB:=Aside0.mk (below_drew1 HB.out);have p514:0≤(x5_2:Int):=of_decide_eq_true aS;have q514:x5_2<(l0_1.length:Int):=of_decide_eq_true aS;obtain ⟨ad514,A514_0,c514_0,e514,hx514_0,hl514_0,hi514_0⟩:=at_L7 HR0_1.out x5_2 p514 q514;have hw514_0:=hx514_0;obtain rfl:ad511=ad514:=(by injection e514);replace hx514_0:=hC HB hx514_0;have HR514_0:=Aside0.mk hi514_0;have HC514_0:=Aside0.mk hl514_0;clear hi514_0 hl514_0;replace p514:=eq_true p514;replace q514:=eq_true q514;have p515:0≤(x6_3:Int):=of_decide_eq_true aS;have q515:x6_3<((rd_L7 l0_1 x5_2).length:Int):=of_decide_eq_true aS;obtain ⟨ad515,A515_0,c515_0,e515,hx515_0,hx515_1,hl515_0,hi515_0⟩:=at_T47 HR514_0.out x6_3 p515 q515;have hw515_1:=hx515_1;have hw515_0:=hx515_0;cases e515
                               replace hx515_0:=hC HB hx515_0;replace hx515_1:=hC HB hx515_1;have HR515_0:=Aside0.mk hi515_0;have HC515_0:=Aside0.mk hl515_0;clear hi515_0 hl515_0;replace p515:=eq_true p515;replace q515:=eq_true q515;have p516:0≤(x5_2:Int):=of_decide_eq_true aS;have q516:x5_2<(l1_1.length:Int):=of_decide_eq_true aS;obtain ⟨ad516,A516_0,c516_0,e516,hx516_0,hl516_0,hi516_0⟩:=at_L7 HR1_1.out x5_2 p516 q516;have hw516_0:=hx516_0;obtain rfl:ad512=ad516:=(by injection e516);replace hx516_0:=hC HB hx516_0;have HR516_0:=Aside0.mk hi516_0;have HC516_0:=Aside0.mk hl516_0;clear hi516_0 hl516_0;replace p516:=eq_true p516;replace q516:=eq_true q516;have p517:0≤(x6_3:Int):=of_decide_eq_true aS;have q517:x6_3<((rd_L7 l1_1 x5_2).length:Int):=of_decide_eq_true aS;obtain ⟨ad517,A517_0,c517_0,e517,hx517_0,hx517_1,hl517_0,hi517_0⟩:=at_T47 HR516_0.out x6_3 p517 q517;have hw517_1:=hx517_1;have hw517_0:=hx517_0;cases e517
                               replace hx517_0:=hC HB hx517_0;replace hx517_1:=hC HB hx517_1;have HR517_0:=Aside0.mk hi517_0;have HC517_0:=Aside0.mk hl517_0;clear hi517_0 hl517_0;replace p517:=eq_true p517;replace q517:=eq_true q517;refine start_ (n:=18) (S:=fun w' => w'.cell? ⟨gb509,0,none⟩=some (.int .i64 a0_0)∧w'.cell? ⟨gb509,1,none⟩=some (.slice (some ad511) l0_1.length c0_1)∧w'.cell? ⟨gb510,0,none⟩=some (.int .i64 a1_0)∧w'.cell? ⟨gb510,1,none⟩=some (.slice (some ad512) l1_1.length c1_1)∧w'.cell? (ad511.add (x5_2).toNat)=some (.slice (some ad515) (rd_L7 l0_1 x5_2).length c514_0)∧w'.cell? (ad515.add ((x6_3).toNat*2))=some (.slice A515_0 ((rd_T47 (rd_L7 l0_1 x5_2) x6_3).f0).length c515_0)∧w'.cell? ⟨(ad515.add ((x6_3).toNat*2)).block,(ad515.add ((x6_3).toNat*2)).off+1,none⟩=some (.int .i64 ((rd_T47 (rd_L7 l0_1 x5_2) x6_3).f1))∧w'.cell? (ad512.add (x5_2).toNat)=some (.slice (some ad517) (rd_L7 l1_1 x5_2).length c516_0)∧w'.cell? (ad517.add ((x6_3).toNat*2))=some (.slice A517_0 ((rd_T47 (rd_L7 l1_1 x5_2) x6_3).f0).length c517_0)∧w'.cell? ⟨(ad517.add ((x6_3).toNat*2)).block,(ad517.add ((x6_3).toNat*2)).off+1,none⟩=some (.int .i64 ((rd_T47 (rd_L7 l1_1 x5_2) x6_3).f1))) (ds:=[]) #[false,false,false,false,false,false,false,false,false,false,false,false,false,false,false,false,false,false] (by kernel_rfl) rfl rfl ⟨(blk_cell BK509.out 0).trans rfl,(blk_cell BK509.out 1).trans rfl,(blk_cell BK510.out 0).trans rfl,(blk_cell BK510.out 1).trans rfl,((HB.out.cell (World.block_lt_of_cell? w _ hw514_0)).trans hw514_0),((HB.out.cell (World.block_lt_of_cell? w _ hw515_0)).trans hw515_0),((HB.out.cell (World.block_lt_of_cell? w _ hw515_1)).trans hw515_1),((HB.out.cell (World.block_lt_of_cell? w _ hw516_0)).trans hw516_0),((HB.out.cell (World.block_lt_of_cell? w _ hw517_0)).trans hw517_0),((HB.out.cell (World.block_lt_of_cell? w _ hw517_1)).trans hw517_1)⟩ (fun hHeld => ?_);refine with_tabW laws_vNet.tab11 laws_vNet.bits11 (fun HT_ HW_ => ?_);generalize wr.drew=w31 at BK509 BK510 HB HR514_0 HR515_0 HR516_0 HR517_0 hx514_0 hx515_0 hx515_1 hx516_0 hx517_0 hx517_1 hHeld ⊢;refine pure_ (i:=0) (N:=some 51) (v := ?_) (a' := ?_) #[true,false,false,false,false,false,false,false,false,false,false,false,false,false,false,false,false,false] rfl rfl (any_of HT_.out (by kernel_rfl)) (fun _ _ _ h=>h) (Or.inl ⟨by rfl,?_⟩) ?_ ?_;rotate_left
                               · intro w';go_simp;with_reducible rfl
                               rotate_left
                               · exact aP
                               refine pure_ (i:=2) (N:=some 53) (v := ?_) (a' := ?_) #[true,false,true,false,false,false,false,false,false,false,false,false,false,false,false,false,false,false] rfl rfl (any_of HT_.out (by kernel_rfl)) (fun _ _ _ h=>h) (Or.inl ⟨by rfl,?_⟩) ?_ ?_;rotate_left
                               · intro w';go_simp;with_reducible rfl
                               rotate_left
                               · exact aP
                               refine pure_ (i:=5) (N:=some 56) (v := ?_) (a' := ?_) #[true,false,true,false,false,true,false,false,false,false,false,false,false,false,false,false,false,false] rfl rfl (any_of HT_.out (by kernel_rfl)) (fun _ _ _ h=>h) (Or.inl ⟨by rfl,?_⟩) ?_ ?_;rotate_left
                               · intro w';go_simp;with_reducible rfl
                               rotate_left
                               · exact aP
                               refine pure_ (i:=8) (N:=some 59) (v := ?_) (a' := ?_) #[true,false,true,false,false,true,false,false,true,false,false,false,false,false,false,false,false,false] rfl rfl (any_of HT_.out (by kernel_rfl)) (fun _ _ _ h=>h) (Or.inl ⟨by rfl,?_⟩) ?_ ?_;rotate_left
                               · intro w';go_simp;with_reducible rfl
                               rotate_left
                               · exact aP
                               refine pure_ (i:=10) (N:=some 61) (v := ?_) (a' := ?_) #[true,false,true,false,false,true,false,false,true,false,true,false,false,false,false,false,false,false] rfl rfl (any_of HT_.out (by kernel_rfl)) (fun _ _ _ h=>h) (Or.inl ⟨by rfl,?_⟩) ?_ ?_;rotate_left
                               · intro w';go_simp;with_reducible rfl
                               rotate_left
                               · exact aP
                               refine pure_ (i:=13) (N:=some 64) (v := ?_) (a' := ?_) #[true,false,true,false,false,true,false,false,true,false,true,false,false,true,false,false,false,false] rfl rfl (any_of HT_.out (by kernel_rfl)) (fun _ _ _ h=>h) (Or.inl ⟨by rfl,?_⟩) ?_ ?_;rotate_left
                               · intro w';go_simp;with_reducible rfl
                               rotate_left
                               · exact aP
                               refine take_ (i:=1) (N:=some 52) (v := ?_) (a' := ?_) #[true,true,true,false,false,true,false,false,true,false,true,false,false,true,false,false,false,false] rfl rfl (take_ofW HT_.out HW_.out (by kernel_rfl)) (fun _ _ _ h=>h) (Or.inl ⟨by rfl,?_⟩) hHeld ?_ ?_;rotate_left
                               · rintro w' ⟨s0,s1,s2,s3,s4,s5,s6,s7,s8,s9⟩;go_simp;with_reducible rfl
                               rotate_left
                               · exact aP
                               refine pure_ (i:=3) (N:=some 54) (v := ?_) (a' := ?_) #[true,true,true,true,false,true,false,false,true,false,true,false,false,true,false,false,false,false] rfl rfl (any_of HT_.out (by kernel_rfl)) (fun _ _ _ h=>h) (Or.inl ⟨by rfl,?_⟩) ?_ ?_;rotate_left
                               · intro w';go_simp;with_reducible rfl
                               rotate_left
                               · exact aP
                               refine take_ (i:=4) (N:=some 55) (v := ?_) (a' := ?_) #[true,true,true,true,true,true,false,false,true,false,true,false,false,true,false,false,false,false] rfl rfl (take_ofW HT_.out HW_.out (by kernel_rfl)) (fun _ _ _ h=>h) (Or.inl ⟨by rfl,?_⟩) hHeld ?_ ?_;rotate_left
                               · rintro w' ⟨s0,s1,s2,s3,s4,s5,s6,s7,s8,s9⟩;go_simp;with_reducible rfl
                               rotate_left
                               · exact aP
                               refine pure_ (i:=6) (N:=some 57) (v := ?_) (a' := ?_) #[true,true,true,true,true,true,true,false,true,false,true,false,false,true,false,false,false,false] rfl rfl (any_of HT_.out (by kernel_rfl)) (fun _ _ _ h=>h) (Or.inl ⟨by rfl,?_⟩) ?_ ?_;rotate_left
                               · intro w';go_simp;with_reducible rfl
                               rotate_left
                               · exact aP
                               refine take_ (i:=7) (N:=some 58) (v := ?_) (a' := ?_) #[true,true,true,true,true,true,true,true,true,false,true,false,false,true,false,false,false,false] rfl rfl (take_ofW HT_.out HW_.out (by kernel_rfl)) (fun _ _ _ h=>h) (Or.inl ⟨by rfl,?_⟩) hHeld ?_ ?_;rotate_left
                               · rintro w' ⟨s0,s1,s2,s3,s4,s5,s6,s7,s8,s9⟩;go_simp;with_reducible rfl
                               rotate_left
                               · exact aP
                               refine take_ (i:=9) (N:=some 60) (v := ?_) (a' := ?_) #[true,true,true,true,true,true,true,true,true,true,true,false,false,true,false,false,false,false] rfl rfl (take_ofW HT_.out HW_.out (by kernel_rfl)) (fun _ _ _ h=>h) (Or.inl ⟨by rfl,?_⟩) hHeld ?_ ?_;rotate_left
                               · rintro w' ⟨s0,s1,s2,s3,s4,s5,s6,s7,s8,s9⟩;go_simp;with_reducible rfl
                               rotate_left
                               · exact aP
                               refine pure_ (i:=11) (N:=some 62) (v := ?_) (a' := ?_) #[true,true,true,true,true,true,true,true,true,true,true,true,false,true,false,false,false,false] rfl rfl (any_of HT_.out (by kernel_rfl)) (fun _ _ _ h=>h) (Or.inl ⟨by rfl,?_⟩) ?_ ?_;rotate_left
                               · intro w';go_simp;with_reducible rfl
                               rotate_left
                               · exact aP
                               refine take_ (i:=12) (N:=some 63) (v := ?_) (a' := ?_) #[true,true,true,true,true,true,true,true,true,true,true,true,true,true,false,false,false,false] rfl rfl (take_ofW HT_.out HW_.out (by kernel_rfl)) (fun _ _ _ h=>h) (Or.inl ⟨by rfl,?_⟩) hHeld ?_ ?_;rotate_left
                               · rintro w' ⟨s0,s1,s2,s3,s4,s5,s6,s7,s8,s9⟩;go_simp;with_reducible rfl
                               rotate_left
                               · exact aP
                               refine pure_ (i:=14) (N:=some 65) (v := ?_) (a' := ?_) #[true,true,true,true,true,true,true,true,true,true,true,true,true,true,true,false,false,false] rfl rfl (any_of HT_.out (by kernel_rfl)) (fun _ _ _ h=>h) (Or.inl ⟨by rfl,?_⟩) ?_ ?_;rotate_left
                               · intro w';go_simp;with_reducible rfl
                               rotate_left
                               · exact aP
                               refine take_ (i:=15) (N:=some 66) (v := ?_) (a' := ?_) #[true,true,true,true,true,true,true,true,true,true,true,true,true,true,true,true,false,false] rfl rfl (take_ofW HT_.out HW_.out (by kernel_rfl)) (fun _ _ _ h=>h) (Or.inl ⟨by rfl,?_⟩) hHeld ?_ ?_;rotate_left
                               · rintro w' ⟨s0,s1,s2,s3,s4,s5,s6,s7,s8,s9⟩;go_simp;with_reducible rfl
                               rotate_left
                               · exact aP
                               refine one_ (i:=16) (N:=some 67) #[true,true,true,true,true,true,true,true,true,true,true,true,true,true,true,true,true,false] rfl rfl (one_of HT_.out (by kernel_rfl)) (by decide) (fun K hK => ?_);refine goes_ Try.func65 (by kernel_rfl) rfl #[.agg #[.slice A515_0 ((rd_T47 (rd_L7 l0_1 x5_2) x6_3).f0).length c515_0,.int .i64 ((rd_T47 (rd_L7 l0_1 x5_2) x6_3).f1)],.agg #[.slice A517_0 ((rd_T47 (rd_L7 l1_1 x5_2) x6_3).f0).length c517_0,.int .i64 ((rd_T47 (rd_L7 l1_1 x5_2) x6_3).f1)]] (by rfl) rfl rfl aT ?_;with_reducible refine (laws_vPlane.calls k3 _ _ ((rd_T47 (rd_L7 l0_1 x5_2) x6_3).f0) ((rd_T47 (rd_L7 l0_1 x5_2) x6_3).f1) _ _ ((rd_T47 (rd_L7 l1_1 x5_2) x6_3).f0) ((rd_T47 (rd_L7 l1_1 x5_2) x6_3).f1) true _ ?side1 ?side2 ?side3 ?side4 A27.out).mono ?_
                               (case side1=>exact cB HR515_0 HB);(case side2=>exact HC515_0.out);(case side3=>exact cB HR517_0 HB);(case side4=>exact HC517_0.out);rintro e w32 ⟨rfl,hb⟩;refine ⟨_,rfl,?_⟩;replace BK509:=Aside0.mk (bW BK509 hb);replace BK510:=Aside0.mk (bW BK510 hb);replace HB:=Aside0.mk (below_step (bD HB GE509 GE510) hb);(try clear hb);refine hK.out _ _ ⟨(blk_cell BK509.out 0).trans rfl,(blk_cell BK509.out 1).trans rfl,(blk_cell BK510.out 0).trans rfl,(blk_cell BK510.out 1).trans rfl,((HB.out.cell (World.block_lt_of_cell? w _ hw514_0)).trans hw514_0),((HB.out.cell (World.block_lt_of_cell? w _ hw515_0)).trans hw515_0),((HB.out.cell (World.block_lt_of_cell? w _ hw515_1)).trans hw515_1),((HB.out.cell (World.block_lt_of_cell? w _ hw516_0)).trans hw516_0),((HB.out.cell (World.block_lt_of_cell? w _ hw517_0)).trans hw517_0),((HB.out.cell (World.block_lt_of_cell? w _ hw517_1)).trans hw517_1)⟩ (fun hHeld => ?_);clear hK K;refine norm_ (a' := ?_) ?_ ?_;rotate_left
                               · show Act.put _ (some 67) _=_
                                 simp only[Act.put,List.setIfInBounds_toArray,List.set_cons_zero,List.set_cons_succ,i64_w,i32_w];rfl
                               refine pure_ (i:=17) (N:=some 68) (v := ?_) (a' := ?_) #[true,true,true,true,true,true,true,true,true,true,true,true,true,true,true,true,true,true] rfl rfl (any_of HT_.out (by kernel_rfl)) (fun _ _ _ h=>h) (Or.inl ⟨by rfl,?_⟩) ?_ ?_;rotate_left
                               · intro w';go_simp;with_reducible rfl
                               rotate_left
                               · exact aP
                               refine done_ (done_of HT_.out (by kernel_rfl)) ?_;try go_wp2
                               go_roundg k3
                               case measure=>have:=HJ2.out;have:=HK2.out;have:=HK3.out;omega
                               case rel=>exact ⟨(wrap64 (x6_3+1)),rD,H',⟨by have:=HJ2.out;have:=HK2.out;have:=HK3.out;omega⟩,⟨pB BK509⟩,⟨pB BK510⟩,⟨bD HB GE509 GE510⟩⟩
                             · replace c28:=Bool.eq_false_iff.mpr c28;subst c28;replace H:=iF H;obtain rfl:=Option.some.inj H;have hnb33:=NB509_510.out;have hnc33:=NB510_509.out;have hcz34_0:wr.cell? ⟨gb509,0,none⟩=some (.int .i64 a0_0):=(blk_cell BK509.out 0).trans rfl;have hcz34_1:wr.cell? ⟨gb509,1,none⟩=some (.slice (some ad511) l0_1.length c0_1):=(blk_cell BK509.out 1).trans rfl;have hfz34_0:=blk_frozen BK509.out 0;have hfz34_1:=blk_frozen BK509.out 1;have p513:0≤(x5_2:Int):=of_decide_eq_true aS;have q513:x5_2<(l0_1.length:Int):=of_decide_eq_true aS;obtain ⟨ad513,A513_0,c513_0,e513,hx513_0,hl513_0,hi513_0⟩:=at_L7 HR0_1.out x5_2 p513 q513;obtain rfl:ad511=ad513:=(by injection e513);replace hx513_0:=hC HB hx513_0;have HR513_0:=Aside0.mk hi513_0;have HC513_0:=Aside0.mk hl513_0;clear hi513_0 hl513_0;replace p513:=eq_true p513;replace q513:=eq_true q513;try go_wp2
                               replace BK509:=Aside0.mk (blk_drew BK509.out);replace BK510:=Aside0.mk (blk_drew BK510.out);replace HB:=Aside0.mk (below_drew1 HB.out);have p514:0≤(x5_2:Int):=of_decide_eq_true aS;have q514:x5_2<(l0_1.length:Int):=of_decide_eq_true aS;obtain ⟨ad514,A514_0,c514_0,e514,hx514_0,hl514_0,hi514_0⟩:=at_L7 HR0_1.out x5_2 p514 q514;have hw514_0:=hx514_0;obtain rfl:ad511=ad514:=(by injection e514);replace hx514_0:=hC HB hx514_0;have HR514_0:=Aside0.mk hi514_0;have HC514_0:=Aside0.mk hl514_0;clear hi514_0 hl514_0;replace p514:=eq_true p514;replace q514:=eq_true q514;have p515:0≤(x6_3:Int):=of_decide_eq_true aS;have q515:x6_3<((rd_L7 l0_1 x5_2).length:Int):=of_decide_eq_true aS;obtain ⟨ad515,A515_0,c515_0,e515,hx515_0,hx515_1,hl515_0,hi515_0⟩:=at_T47 HR514_0.out x6_3 p515 q515;have hw515_1:=hx515_1;have hw515_0:=hx515_0;cases e515
                               replace hx515_0:=hC HB hx515_0;replace hx515_1:=hC HB hx515_1;have HR515_0:=Aside0.mk hi515_0;have HC515_0:=Aside0.mk hl515_0;clear hi515_0 hl515_0;replace p515:=eq_true p515;replace q515:=eq_true q515;have p516:0≤(x5_2:Int):=of_decide_eq_true aS;have q516:x5_2<(l1_1.length:Int):=of_decide_eq_true aS;obtain ⟨ad516,A516_0,c516_0,e516,hx516_0,hl516_0,hi516_0⟩:=at_L7 HR1_1.out x5_2 p516 q516;have hw516_0:=hx516_0;obtain rfl:ad512=ad516:=(by injection e516);replace hx516_0:=hC HB hx516_0;have HR516_0:=Aside0.mk hi516_0;have HC516_0:=Aside0.mk hl516_0;clear hi516_0 hl516_0;replace p516:=eq_true p516;replace q516:=eq_true q516;have p517:0≤(x6_3:Int):=of_decide_eq_true aS;have q517:x6_3<((rd_L7 l1_1 x5_2).length:Int):=of_decide_eq_true aS;obtain ⟨ad517,A517_0,c517_0,e517,hx517_0,hx517_1,hl517_0,hi517_0⟩:=at_T47 HR516_0.out x6_3 p517 q517;have hw517_1:=hx517_1;have hw517_0:=hx517_0;cases e517
                               replace hx517_0:=hC HB hx517_0;replace hx517_1:=hC HB hx517_1;have HR517_0:=Aside0.mk hi517_0;have HC517_0:=Aside0.mk hl517_0;clear hi517_0 hl517_0;replace p517:=eq_true p517;replace q517:=eq_true q517;refine start_ (n:=18) (S:=fun w' => w'.cell? ⟨gb509,0,none⟩=some (.int .i64 a0_0)∧w'.cell? ⟨gb509,1,none⟩=some (.slice (some ad511) l0_1.length c0_1)∧w'.cell? ⟨gb510,0,none⟩=some (.int .i64 a1_0)∧w'.cell? ⟨gb510,1,none⟩=some (.slice (some ad512) l1_1.length c1_1)∧w'.cell? (ad511.add (x5_2).toNat)=some (.slice (some ad515) (rd_L7 l0_1 x5_2).length c514_0)∧w'.cell? (ad515.add ((x6_3).toNat*2))=some (.slice A515_0 ((rd_T47 (rd_L7 l0_1 x5_2) x6_3).f0).length c515_0)∧w'.cell? ⟨(ad515.add ((x6_3).toNat*2)).block,(ad515.add ((x6_3).toNat*2)).off+1,none⟩=some (.int .i64 ((rd_T47 (rd_L7 l0_1 x5_2) x6_3).f1))∧w'.cell? (ad512.add (x5_2).toNat)=some (.slice (some ad517) (rd_L7 l1_1 x5_2).length c516_0)∧w'.cell? (ad517.add ((x6_3).toNat*2))=some (.slice A517_0 ((rd_T47 (rd_L7 l1_1 x5_2) x6_3).f0).length c517_0)∧w'.cell? ⟨(ad517.add ((x6_3).toNat*2)).block,(ad517.add ((x6_3).toNat*2)).off+1,none⟩=some (.int .i64 ((rd_T47 (rd_L7 l1_1 x5_2) x6_3).f1))) (ds:=[]) #[false,false,false,false,false,false,false,false,false,false,false,false,false,false,false,false,false,false] (by kernel_rfl) rfl rfl ⟨(blk_cell BK509.out 0).trans rfl,(blk_cell BK509.out 1).trans rfl,(blk_cell BK510.out 0).trans rfl,(blk_cell BK510.out 1).trans rfl,((HB.out.cell (World.block_lt_of_cell? w _ hw514_0)).trans hw514_0),((HB.out.cell (World.block_lt_of_cell? w _ hw515_0)).trans hw515_0),((HB.out.cell (World.block_lt_of_cell? w _ hw515_1)).trans hw515_1),((HB.out.cell (World.block_lt_of_cell? w _ hw516_0)).trans hw516_0),((HB.out.cell (World.block_lt_of_cell? w _ hw517_0)).trans hw517_0),((HB.out.cell (World.block_lt_of_cell? w _ hw517_1)).trans hw517_1)⟩ (fun hHeld => ?_);refine with_tabW laws_vNet.tab11 laws_vNet.bits11 (fun HT_ HW_ => ?_);generalize wr.drew=w35 at BK509 BK510 HB HR514_0 HR515_0 HR516_0 HR517_0 hx514_0 hx515_0 hx515_1 hx516_0 hx517_0 hx517_1 hHeld ⊢;refine pure_ (i:=0) (N:=some 51) (v := ?_) (a' := ?_) #[true,false,false,false,false,false,false,false,false,false,false,false,false,false,false,false,false,false] rfl rfl (any_of HT_.out (by kernel_rfl)) (fun _ _ _ h=>h) (Or.inl ⟨by rfl,?_⟩) ?_ ?_;rotate_left
                               · intro w';go_simp;with_reducible rfl
                               rotate_left
                               · exact aP
                               refine pure_ (i:=2) (N:=some 53) (v := ?_) (a' := ?_) #[true,false,true,false,false,false,false,false,false,false,false,false,false,false,false,false,false,false] rfl rfl (any_of HT_.out (by kernel_rfl)) (fun _ _ _ h=>h) (Or.inl ⟨by rfl,?_⟩) ?_ ?_;rotate_left
                               · intro w';go_simp;with_reducible rfl
                               rotate_left
                               · exact aP
                               refine pure_ (i:=5) (N:=some 56) (v := ?_) (a' := ?_) #[true,false,true,false,false,true,false,false,false,false,false,false,false,false,false,false,false,false] rfl rfl (any_of HT_.out (by kernel_rfl)) (fun _ _ _ h=>h) (Or.inl ⟨by rfl,?_⟩) ?_ ?_;rotate_left
                               · intro w';go_simp;with_reducible rfl
                               rotate_left
                               · exact aP
                               refine pure_ (i:=8) (N:=some 59) (v := ?_) (a' := ?_) #[true,false,true,false,false,true,false,false,true,false,false,false,false,false,false,false,false,false] rfl rfl (any_of HT_.out (by kernel_rfl)) (fun _ _ _ h=>h) (Or.inl ⟨by rfl,?_⟩) ?_ ?_;rotate_left
                               · intro w';go_simp;with_reducible rfl
                               rotate_left
                               · exact aP
                               refine pure_ (i:=10) (N:=some 61) (v := ?_) (a' := ?_) #[true,false,true,false,false,true,false,false,true,false,true,false,false,false,false,false,false,false] rfl rfl (any_of HT_.out (by kernel_rfl)) (fun _ _ _ h=>h) (Or.inl ⟨by rfl,?_⟩) ?_ ?_;rotate_left
                               · intro w';go_simp;with_reducible rfl
                               rotate_left
                               · exact aP
                               refine pure_ (i:=13) (N:=some 64) (v := ?_) (a' := ?_) #[true,false,true,false,false,true,false,false,true,false,true,false,false,true,false,false,false,false] rfl rfl (any_of HT_.out (by kernel_rfl)) (fun _ _ _ h=>h) (Or.inl ⟨by rfl,?_⟩) ?_ ?_;rotate_left
                               · intro w';go_simp;with_reducible rfl
                               rotate_left
                               · exact aP
                               refine take_ (i:=1) (N:=some 52) (v := ?_) (a' := ?_) #[true,true,true,false,false,true,false,false,true,false,true,false,false,true,false,false,false,false] rfl rfl (take_ofW HT_.out HW_.out (by kernel_rfl)) (fun _ _ _ h=>h) (Or.inl ⟨by rfl,?_⟩) hHeld ?_ ?_;rotate_left
                               · rintro w' ⟨s0,s1,s2,s3,s4,s5,s6,s7,s8,s9⟩;go_simp;with_reducible rfl
                               rotate_left
                               · exact aP
                               refine pure_ (i:=3) (N:=some 54) (v := ?_) (a' := ?_) #[true,true,true,true,false,true,false,false,true,false,true,false,false,true,false,false,false,false] rfl rfl (any_of HT_.out (by kernel_rfl)) (fun _ _ _ h=>h) (Or.inl ⟨by rfl,?_⟩) ?_ ?_;rotate_left
                               · intro w';go_simp;with_reducible rfl
                               rotate_left
                               · exact aP
                               refine take_ (i:=4) (N:=some 55) (v := ?_) (a' := ?_) #[true,true,true,true,true,true,false,false,true,false,true,false,false,true,false,false,false,false] rfl rfl (take_ofW HT_.out HW_.out (by kernel_rfl)) (fun _ _ _ h=>h) (Or.inl ⟨by rfl,?_⟩) hHeld ?_ ?_;rotate_left
                               · rintro w' ⟨s0,s1,s2,s3,s4,s5,s6,s7,s8,s9⟩;go_simp;with_reducible rfl
                               rotate_left
                               · exact aP
                               refine pure_ (i:=6) (N:=some 57) (v := ?_) (a' := ?_) #[true,true,true,true,true,true,true,false,true,false,true,false,false,true,false,false,false,false] rfl rfl (any_of HT_.out (by kernel_rfl)) (fun _ _ _ h=>h) (Or.inl ⟨by rfl,?_⟩) ?_ ?_;rotate_left
                               · intro w';go_simp;with_reducible rfl
                               rotate_left
                               · exact aP
                               refine take_ (i:=7) (N:=some 58) (v := ?_) (a' := ?_) #[true,true,true,true,true,true,true,true,true,false,true,false,false,true,false,false,false,false] rfl rfl (take_ofW HT_.out HW_.out (by kernel_rfl)) (fun _ _ _ h=>h) (Or.inl ⟨by rfl,?_⟩) hHeld ?_ ?_;rotate_left
                               · rintro w' ⟨s0,s1,s2,s3,s4,s5,s6,s7,s8,s9⟩;go_simp;with_reducible rfl
                               rotate_left
                               · exact aP
                               refine take_ (i:=9) (N:=some 60) (v := ?_) (a' := ?_) #[true,true,true,true,true,true,true,true,true,true,true,false,false,true,false,false,false,false] rfl rfl (take_ofW HT_.out HW_.out (by kernel_rfl)) (fun _ _ _ h=>h) (Or.inl ⟨by rfl,?_⟩) hHeld ?_ ?_;rotate_left
                               · rintro w' ⟨s0,s1,s2,s3,s4,s5,s6,s7,s8,s9⟩;go_simp;with_reducible rfl
                               rotate_left
                               · exact aP
                               refine pure_ (i:=11) (N:=some 62) (v := ?_) (a' := ?_) #[true,true,true,true,true,true,true,true,true,true,true,true,false,true,false,false,false,false] rfl rfl (any_of HT_.out (by kernel_rfl)) (fun _ _ _ h=>h) (Or.inl ⟨by rfl,?_⟩) ?_ ?_;rotate_left
                               · intro w';go_simp;with_reducible rfl
                               rotate_left
                               · exact aP
                               refine take_ (i:=12) (N:=some 63) (v := ?_) (a' := ?_) #[true,true,true,true,true,true,true,true,true,true,true,true,true,true,false,false,false,false] rfl rfl (take_ofW HT_.out HW_.out (by kernel_rfl)) (fun _ _ _ h=>h) (Or.inl ⟨by rfl,?_⟩) hHeld ?_ ?_;rotate_left
                               · rintro w' ⟨s0,s1,s2,s3,s4,s5,s6,s7,s8,s9⟩;go_simp;with_reducible rfl
                               rotate_left
                               · exact aP
                               refine pure_ (i:=14) (N:=some 65) (v := ?_) (a' := ?_) #[true,true,true,true,true,true,true,true,true,true,true,true,true,true,true,false,false,false] rfl rfl (any_of HT_.out (by kernel_rfl)) (fun _ _ _ h=>h) (Or.inl ⟨by rfl,?_⟩) ?_ ?_;rotate_left
                               · intro w';go_simp;with_reducible rfl
                               rotate_left
                               · exact aP
                               refine take_ (i:=15) (N:=some 66) (v := ?_) (a' := ?_) #[true,true,true,true,true,true,true,true,true,true,true,true,true,true,true,true,false,false] rfl rfl (take_ofW HT_.out HW_.out (by kernel_rfl)) (fun _ _ _ h=>h) (Or.inl ⟨by rfl,?_⟩) hHeld ?_ ?_;rotate_left
                               · rintro w' ⟨s0,s1,s2,s3,s4,s5,s6,s7,s8,s9⟩;go_simp;with_reducible rfl
                               rotate_left
                               · exact aP
                               refine one_ (i:=16) (N:=some 67) #[true,true,true,true,true,true,true,true,true,true,true,true,true,true,true,true,true,false] rfl rfl (one_of HT_.out (by kernel_rfl)) (by decide) (fun K hK => ?_);refine goes_ Try.func65 (by kernel_rfl) rfl #[.agg #[.slice A515_0 ((rd_T47 (rd_L7 l0_1 x5_2) x6_3).f0).length c515_0,.int .i64 ((rd_T47 (rd_L7 l0_1 x5_2) x6_3).f1)],.agg #[.slice A517_0 ((rd_T47 (rd_L7 l1_1 x5_2) x6_3).f0).length c517_0,.int .i64 ((rd_T47 (rd_L7 l1_1 x5_2) x6_3).f1)]] (by rfl) rfl rfl aT ?_;with_reducible refine (laws_vPlane.calls k3 _ _ ((rd_T47 (rd_L7 l0_1 x5_2) x6_3).f0) ((rd_T47 (rd_L7 l0_1 x5_2) x6_3).f1) _ _ ((rd_T47 (rd_L7 l1_1 x5_2) x6_3).f0) ((rd_T47 (rd_L7 l1_1 x5_2) x6_3).f1) false _ ?side1 ?side2 ?side3 ?side4 A27.out).mono ?_
                               (case side1=>exact cB HR515_0 HB);(case side2=>exact HC515_0.out);(case side3=>exact cB HR517_0 HB);(case side4=>exact HC517_0.out);rintro e w36 ⟨rfl,hb⟩;refine ⟨_,rfl,?_⟩;replace BK509:=Aside0.mk (bW BK509 hb);replace BK510:=Aside0.mk (bW BK510 hb);replace HB:=Aside0.mk (below_step (bD HB GE509 GE510) hb);(try clear hb);refine hK.out _ _ ⟨(blk_cell BK509.out 0).trans rfl,(blk_cell BK509.out 1).trans rfl,(blk_cell BK510.out 0).trans rfl,(blk_cell BK510.out 1).trans rfl,((HB.out.cell (World.block_lt_of_cell? w _ hw514_0)).trans hw514_0),((HB.out.cell (World.block_lt_of_cell? w _ hw515_0)).trans hw515_0),((HB.out.cell (World.block_lt_of_cell? w _ hw515_1)).trans hw515_1),((HB.out.cell (World.block_lt_of_cell? w _ hw516_0)).trans hw516_0),((HB.out.cell (World.block_lt_of_cell? w _ hw517_0)).trans hw517_0),((HB.out.cell (World.block_lt_of_cell? w _ hw517_1)).trans hw517_1)⟩ (fun hHeld => ?_);clear hK K;refine norm_ (a' := ?_) ?_ ?_;rotate_left
                               · show Act.put _ (some 67) _=_
                                 simp only[Act.put,List.setIfInBounds_toArray,List.set_cons_zero,List.set_cons_succ,i64_w,i32_w];rfl
                               refine pure_ (i:=17) (N:=some 68) (v := ?_) (a' := ?_) #[true,true,true,true,true,true,true,true,true,true,true,true,true,true,true,true,true,true] rfl rfl (any_of HT_.out (by kernel_rfl)) (fun _ _ _ h=>h) (Or.inl ⟨by rfl,?_⟩) ?_ ?_;rotate_left
                               · intro w';go_simp;with_reducible rfl
                               rotate_left
                               · exact aP
                               refine done_ (done_of HT_.out (by kernel_rfl)) ?_;try go_wp2
                               go_ret
                               exact ⟨eW,bD HB GE509 GE510⟩
                           · replace H:=iN c26 H;cases H
                         · replace H:=iN c25 H;cases H
                       · replace H:=iN c24 H;cases H
                     · replace H:=iN c23 H;have c23b0:=decide_eq_false c23;clear c23;have H' := Aside0.mk H;clear H;have hnb37:=NB509_510.out;have hnc37:=NB510_509.out;have hcz38_0:wr.cell? ⟨gb509,0,none⟩=some (.int .i64 a0_0):=(blk_cell BK509.out 0).trans rfl;have hcz38_1:wr.cell? ⟨gb509,1,none⟩=some (.slice (some ad511) l0_1.length c0_1):=(blk_cell BK509.out 1).trans rfl;have hfz38_0:=blk_frozen BK509.out 0;have hfz38_1:=blk_frozen BK509.out 1;have p513:0≤(x5_2:Int):=of_decide_eq_true aS;have q513:x5_2<(l0_1.length:Int):=of_decide_eq_true aS;obtain ⟨ad513,A513_0,c513_0,e513,hx513_0,hl513_0,hi513_0⟩:=at_L7 HR0_1.out x5_2 p513 q513;obtain rfl:ad511=ad513:=(by injection e513);replace hx513_0:=hC HB hx513_0;have HR513_0:=Aside0.mk hi513_0;have HC513_0:=Aside0.mk hl513_0;clear hi513_0 hl513_0;replace p513:=eq_true p513;replace q513:=eq_true q513;go_wp2;go_roundg k3
                       case measure=>have:=HJ2.out;have:=HK2.out;have:=HK3.out;omega
                       case rel=>exact ⟨(wrap64 (x5_2+1)),rD,H',⟨by have:=HJ2.out;have:=HK2.out;have:=HK3.out;omega⟩,⟨pB BK509⟩,⟨pB BK510⟩,⟨bD HB GE509 GE510⟩⟩
                   · replace H:=iN c22 H;cases H
                 · replace H:=iN c21 H;cases H
             · replace H:=iN c17 H;have c17b0:=qF c17;have c17b1:=nT c17;have c17b2:((rd_L7 l0_1 x5_2).length==(rd_L7 l1_1 x5_2).length)=false:=by first|simpa using c17|(simp at c17 ⊢;omega)
               obtain rfl:=Option.some.inj H;have hnb39:=NB509_510.out;have hnc39:=NB510_509.out;have hcz40_0:wr.cell? ⟨gb509,0,none⟩=some (.int .i64 a0_0):=(blk_cell BK509.out 0).trans rfl;have hcz40_1:wr.cell? ⟨gb509,1,none⟩=some (.slice A0_1 l0_1.length c0_1):=(blk_cell BK509.out 1).trans rfl;have hfz40_0:=blk_frozen BK509.out 0;have hfz40_1:=blk_frozen BK509.out 1;try go_wp2
               replace BK509:=Aside0.mk (blk_drew BK509.out);replace BK510:=Aside0.mk (blk_drew BK510.out);replace HB:=Aside0.mk (below_drew1 HB.out);have p511:0≤(x5_2:Int):=of_decide_eq_true aS;have q511:x5_2<(l0_1.length:Int):=of_decide_eq_true aS;obtain ⟨ad511,A511_0,c511_0,e511,hx511_0,hl511_0,hi511_0⟩:=at_L7 HR0_1.out x5_2 p511 q511;have hw511_0:=hx511_0;cases e511
               replace hx511_0:=hC HB hx511_0;have HR511_0:=Aside0.mk hi511_0;have HC511_0:=Aside0.mk hl511_0;clear hi511_0 hl511_0;replace p511:=eq_true p511;replace q511:=eq_true q511;have p512:0≤(x5_2:Int):=of_decide_eq_true aS;have q512:x5_2<(l1_1.length:Int):=of_decide_eq_true aS;obtain ⟨ad512,A512_0,c512_0,e512,hx512_0,hl512_0,hi512_0⟩:=at_L7 HR1_1.out x5_2 p512 q512;have hw512_0:=hx512_0;cases e512
               replace hx512_0:=hC HB hx512_0;have HR512_0:=Aside0.mk hi512_0;have HC512_0:=Aside0.mk hl512_0;clear hi512_0 hl512_0;replace p512:=eq_true p512;replace q512:=eq_true q512;refine start_ (n:=13) (S:=fun w' => w'.cell? ⟨gb509,0,none⟩=some (.int .i64 a0_0)∧w'.cell? ⟨gb509,1,none⟩=some (.slice (some ad511) l0_1.length c0_1)∧w'.cell? ⟨gb510,0,none⟩=some (.int .i64 a1_0)∧w'.cell? ⟨gb510,1,none⟩=some (.slice (some ad512) l1_1.length c1_1)∧w'.cell? (ad511.add (x5_2).toNat)=some (.slice A511_0 (rd_L7 l0_1 x5_2).length c511_0)∧w'.cell? (ad512.add (x5_2).toNat)=some (.slice A512_0 (rd_L7 l1_1 x5_2).length c512_0)) (ds:=[]) #[false,false,false,false,false,false,false,false,false,false,false,false,false] (by kernel_rfl) rfl rfl ⟨(blk_cell BK509.out 0).trans rfl,(blk_cell BK509.out 1).trans rfl,(blk_cell BK510.out 0).trans rfl,(blk_cell BK510.out 1).trans rfl,((HB.out.cell (World.block_lt_of_cell? w _ hw511_0)).trans hw511_0),((HB.out.cell (World.block_lt_of_cell? w _ hw512_0)).trans hw512_0)⟩ (fun hHeld => ?_);refine with_tabW laws_vNet.tab6 laws_vNet.bits6 (fun HT_ HW_ => ?_);generalize wr.drew=w41 at BK509 BK510 HB HR511_0 HR512_0 hx511_0 hx512_0 hHeld ⊢;refine pure_ (i:=0) (N:=some 28) (v := ?_) (a' := ?_) #[true,false,false,false,false,false,false,false,false,false,false,false,false] rfl rfl (any_of HT_.out (by kernel_rfl)) (fun _ _ _ h=>h) (Or.inl ⟨by rfl,?_⟩) ?_ ?_;rotate_left
               · intro w';go_simp;with_reducible rfl
               rotate_left
               · exact aP
               refine pure_ (i:=2) (N:=some 30) (v := ?_) (a' := ?_) #[true,false,true,false,false,false,false,false,false,false,false,false,false] rfl rfl (any_of HT_.out (by kernel_rfl)) (fun _ _ _ h=>h) (Or.inl ⟨by rfl,?_⟩) ?_ ?_;rotate_left
               · intro w';go_simp;with_reducible rfl
               rotate_left
               · exact aP
               refine pure_ (i:=6) (N:=some 34) (v := ?_) (a' := ?_) #[true,false,true,false,false,false,true,false,false,false,false,false,false] rfl rfl (any_of HT_.out (by kernel_rfl)) (fun _ _ _ h=>h) (Or.inl ⟨by rfl,?_⟩) ?_ ?_;rotate_left
               · intro w';go_simp;with_reducible rfl
               rotate_left
               · exact aP
               refine pure_ (i:=8) (N:=some 36) (v := ?_) (a' := ?_) #[true,false,true,false,false,false,true,false,true,false,false,false,false] rfl rfl (any_of HT_.out (by kernel_rfl)) (fun _ _ _ h=>h) (Or.inl ⟨by rfl,?_⟩) ?_ ?_;rotate_left
               · intro w';go_simp;with_reducible rfl
               rotate_left
               · exact aP
               refine take_ (i:=1) (N:=some 29) (v := ?_) (a' := ?_) #[true,true,true,false,false,false,true,false,true,false,false,false,false] rfl rfl (take_ofW HT_.out HW_.out (by kernel_rfl)) (fun _ _ _ h=>h) (Or.inl ⟨by rfl,?_⟩) hHeld ?_ ?_;rotate_left
               · rintro w' ⟨s0,s1,s2,s3,s4,s5⟩;go_simp;with_reducible rfl
               rotate_left
               · exact aP
               refine pure_ (i:=3) (N:=some 31) (v := ?_) (a' := ?_) #[true,true,true,true,false,false,true,false,true,false,false,false,false] rfl rfl (any_of HT_.out (by kernel_rfl)) (fun _ _ _ h=>h) (Or.inl ⟨by rfl,?_⟩) ?_ ?_;rotate_left
               · intro w';go_simp;with_reducible rfl
               rotate_left
               · exact aP
               refine take_ (i:=4) (N:=some 32) (v := ?_) (a' := ?_) #[true,true,true,true,true,false,true,false,true,false,false,false,false] rfl rfl (take_ofW HT_.out HW_.out (by kernel_rfl)) (fun _ _ _ h=>h) (Or.inl ⟨by rfl,?_⟩) hHeld ?_ ?_;rotate_left
               · rintro w' ⟨s0,s1,s2,s3,s4,s5⟩;go_simp;with_reducible rfl
               rotate_left
               · exact aP
               refine pure_ (i:=5) (N:=some 33) (v := ?_) (a' := ?_) #[true,true,true,true,true,true,true,false,true,false,false,false,false] rfl rfl (any_of HT_.out (by kernel_rfl)) (fun _ _ _ h=>h) (Or.inl ⟨by rfl,?_⟩) ?_ ?_;rotate_left
               · intro w';go_simp;with_reducible rfl
               rotate_left
               · exact aP
               refine take_ (i:=7) (N:=some 35) (v := ?_) (a' := ?_) #[true,true,true,true,true,true,true,true,true,false,false,false,false] rfl rfl (take_ofW HT_.out HW_.out (by kernel_rfl)) (fun _ _ _ h=>h) (Or.inl ⟨by rfl,?_⟩) hHeld ?_ ?_;rotate_left
               · rintro w' ⟨s0,s1,s2,s3,s4,s5⟩;go_simp;with_reducible rfl
               rotate_left
               · exact aP
               refine pure_ (i:=9) (N:=some 37) (v := ?_) (a' := ?_) #[true,true,true,true,true,true,true,true,true,true,false,false,false] rfl rfl (any_of HT_.out (by kernel_rfl)) (fun _ _ _ h=>h) (Or.inl ⟨by rfl,?_⟩) ?_ ?_;rotate_left
               · intro w';go_simp;with_reducible rfl
               rotate_left
               · exact aP
               refine take_ (i:=10) (N:=some 38) (v := ?_) (a' := ?_) #[true,true,true,true,true,true,true,true,true,true,true,false,false] rfl rfl (take_ofW HT_.out HW_.out (by kernel_rfl)) (fun _ _ _ h=>h) (Or.inl ⟨by rfl,?_⟩) hHeld ?_ ?_;rotate_left
               · rintro w' ⟨s0,s1,s2,s3,s4,s5⟩;go_simp;with_reducible rfl
               rotate_left
               · exact aP
               refine pure_ (i:=11) (N:=some 39) (v := ?_) (a' := ?_) #[true,true,true,true,true,true,true,true,true,true,true,true,false] rfl rfl (any_of HT_.out (by kernel_rfl)) (fun _ _ _ h=>h) (Or.inl ⟨by rfl,?_⟩) ?_ ?_;rotate_left
               · intro w';go_simp;with_reducible rfl
               rotate_left
               · exact aP
               refine pure_ (i:=12) (N:=some 40) (v := ?_) (a' := ?_) #[true,true,true,true,true,true,true,true,true,true,true,true,true] rfl rfl (any_of HT_.out (by kernel_rfl)) (fun _ _ _ h=>h) (Or.inl ⟨by rfl,?_⟩) ?_ ?_;rotate_left
               · intro w';go_simp;with_reducible rfl
               rotate_left
               · exact aP
               refine done_ (done_of HT_.out (by kernel_rfl)) ?_;try go_wp2
               go_ret
               exact ⟨eW,bD HB GE509 GE510⟩
           · replace H:=iN c16 H;cases H
         · replace H:=iN c15 H;cases H
       · replace H:=iN c14 H;have c14b0:=decide_eq_false c14;clear c14;obtain rfl:=Option.some.inj H;have hnb42:=NB509_510.out;have hnc42:=NB510_509.out;have hcz43_0:wr.cell? ⟨gb509,0,none⟩=some (.int .i64 a0_0):=(blk_cell BK509.out 0).trans rfl;have hcz43_1:wr.cell? ⟨gb509,1,none⟩=some (.slice A0_1 l0_1.length c0_1):=(blk_cell BK509.out 1).trans rfl;have hfz43_0:=blk_frozen BK509.out 0;have hfz43_1:=blk_frozen BK509.out 1;go_wp2;go_ret
         exact ⟨eW,bD HB GE509 GE510⟩
end Go.Proofs.Ytkbahcbankfffaa.PFnPairs
