import Derived.Test.YtkbahcbankfffaaPFnPlanesOfPairsx0
import Derived.Test.YtkbahcbankfffaaPFnPlanesOfPairsx15
import Derived.Test.YtkbahcbankfffaaPFnPlanesOfPairsx16
import Derived.Test.YtkbahcbankfffaaSh
import Derived.Test.YtkbahcbankfffaaSz
namespace Go.Proofs.Ytkbahcbankfffaa.PFnPlanesOfPairs
open Go.RowKit Go.Proofs.Ytkbahcbankfffaa.Sh Go.Proofs.YtkbahcbankfffaaW.PrintWords Go.Proofs.YtkbahcbankfffaaW.PrintLast Go.Proofs.YtkbahcbankfffaaW.PrintMore
attribute [local go_sem] max2_int min2_int max_two min_two max_three min_three max_four min_four
set_option linter.unusedVariables false
set_option maxHeartbeats 8000000
set_option maxRecDepth 100000
set_option linter.unusedSimpArgs false
def impl_Sample_near.f (k:Nat) (Y:List (List Int)) (U:List Int) (l1:List Int) (l2:List Int) (J:Int):Option (Int):=(impl_Sample_neighbors.f k Y U l1 l2).bind fun X=>(if 0≤J then (if J≤(X.length:Int) then ((impl_at.f k U (X.take (J:Int).toNat)).bind fun Z=>((impl_total.f k Z).bind fun aa=>(if aa≥0 then (some 1) else (some (-1))))) else (none)) else (none))
def impl_Sample_near.T1:Bool×List (List Nat×List Nat):=(true,[([],[]),([0],[0]),([],[]),([],[]),([],[]),([2,3,4],[2,3,4]),([],[]),([5,6],[5,6]),([1,7,5],[1,7]),([8,8],[8]),([9],[9])])
def impl_Sample_near.B1:List Nat:=[0,1,0,0,0,28,0,124,255,511,1023]
theorem impl_Sample_near.tab1:rtab .any (opsOf Try.f90 1)=impl_Sample_near.T1:=by kernel_rfl
theorem impl_Sample_near.bits1:waitsOk impl_Sample_near.T1.2 impl_Sample_near.B1=true:=by kernel_rfl
theorem impl_Sample_near.calls (k:Nat) (al:Option Addr) (am:Nat) (aa:List (List Int)) (ah:Option Addr) (ai:Nat) (X:List Int) (A1:Option Addr) (c1:Nat) (l1:List Int) (A2:Option Addr) (c2:Nat) (l2:List Int) (Z:Int) (r:Int) (w:World) (bh:Kd.C (Kd.slice 3 (Kd.int .i64)) w al aa.length aa) (ba:aa.length≤am) (bi:Kd.C (Kd.int .i64) w ah X.length X) (bb:X.length≤ai) (hr1:Kd.C (Kd.int .i64) w A1 l1.length l1) (bc:l1.length≤c1) (hr2:Kd.C (Kd.int .i64) w A2 l2.length l2) (bd:l2.length≤c2) (h:impl_Sample_near.f k aa X l1 l2 Z=some r) :
 Calls Try.prog 90 #[.agg #[.slice al aa.length am,.slice ah X.length ai],.slice A1 l1.length c1,.slice A2 l2.length c2,.int .i64 Z] w fun e w' => e = .returned (.int .i64 r)∧Below w.heap.size w w' := by
 have bM:=Try.underlying52;have aY:=Aside0.mk bh;have aU:=Aside0.mk ba;clear bh ba;have az:=Aside0.mk bi;have ay:=Aside0.mk bb;clear bi bb;have aZ:=Aside0.mk hr1;have aW:=Aside0.mk bc;clear hr1 bc;have a2:=Aside0.mk hr2;have aX:=Aside0.mk bd;clear hr2 bd;have HB:=Aside0.mk (Below.refl w.heap.size w);have H:((impl_Sample_neighbors.f k aa X l1 l2).bind fun Y=>(if 0≤Z then (if Z≤(Y.length:Int) then ((impl_at.f k X (Y.take (Z:Int).toNat)).bind fun aj=>((impl_total.f k aj).bind fun ar=>(if ar≥0 then (some 1) else (some (-1))))) else (none)) else (none)))=some r:=h;clear h;obtain ⟨Y,A5,H⟩:=bS H;by_cases c6:0≤Z
 · replace H:=iP c6 H;have bI:=eq_true c6;have bJ:=decide_eq_true c6;clear c6;by_cases c7:Z≤(Y.length:Int)
   · replace H:=iP c7 H;have bK:=eq_true c7;have bL:=decide_eq_true c7;clear c7;obtain ⟨ak,aL⟩:∃ y_:List Int,y_=(Y.take (Z:Int).toNat):=⟨_,rfl⟩;replace H:((impl_at.f k X ak).bind fun aj=>((impl_total.f k aj).bind fun ar=>(if ar≥0 then (some 1) else (some (-1)))))=some r:=yH aL H
     have aB:=Aside0.mk aL;clear aL;obtain ⟨aj,A8,H⟩:=bS H;obtain ⟨ar,A9,H⟩:=bS H;by_cases c10:ar≥0
     · replace H:=iP c10 H;have c10b0:=decide_eq_true c10;clear c10;obtain rfl:=Option.some.inj H;go_enter Try.func90,Try.ntmps90;try go_wp2_with (first|(refine gD 4 ?_;refine box_event ?hg (N:=4) ?hd (cs:=#[.slice al aa.length am,.slice ah X.length ai]) (t:=52) ?hr ?_;(case hd=>rfl);(case hg=>rfl);(case hr=>go_simp <;> rfl);intro av hg bx aw hb;have J:=Aside0.mk (aw);have bn:=gS (w:=w) hg (bB HB);have af:=gS (w:=w) hg (bB HB);replace HB:=Aside0.mk (below_step (bB HB) hb);clear hb aw hg))
       replace J:=Aside0.mk (blk_drew J.out);replace HB:=Aside0.mk (below_drew1 HB.out);refine start_ (n:=11) (S:=fun w' => w'.cell? ⟨av,0,none⟩=some (.slice al aa.length am)∧w'.cell? ⟨av,1,none⟩=some (.slice ah X.length ai)) (ds:=[]) #[false,false,false,false,false,false,false,false,false,false,false] (by kernel_rfl) rfl rfl ⟨(blk_cell J.out 0).trans rfl,(blk_cell J.out 1).trans rfl⟩ (fun ac => ?_);refine with_tabW impl_Sample_near.tab1 impl_Sample_near.bits1 (fun U au => ?_);generalize bx.drew=w12 at J HB ac ⊢;refine pure_ (i:=0) (N:=some 9) (v := ?_) (a' := ?_) #[true,false,false,false,false,false,false,false,false,false,false] rfl rfl (any_of U.out (by kernel_rfl)) (fun _ _ _ h=>h) (Or.inl ⟨by rfl,?_⟩) ?_ ?_;rotate_left
       · intro w';go_simp;with_reducible rfl
       rotate_left
       · exact aP
       refine pure_ (i:=3) (N:=some 12) (v := ?_) (a' := ?_) #[true,false,false,true,false,false,false,false,false,false,false] rfl rfl (any_of U.out (by kernel_rfl)) (fun _ _ _ h=>h) (Or.inl ⟨by rfl,?_⟩) ?_ ?_;rotate_left
       · intro w';go_simp;with_reducible rfl
       rotate_left
       · exact aP
       refine pure_ (i:=4) (N:=some 13) (v := ?_) (a' := ?_) #[true,false,false,true,true,false,false,false,false,false,false] rfl rfl (any_of U.out (by kernel_rfl)) (fun _ _ _ h=>h) (Or.inl ⟨by rfl,?_⟩) ?_ ?_;rotate_left
       · intro w';go_simp;with_reducible rfl
       rotate_left
       · exact aP
       refine pure_ (i:=6) (N:=some 15) (v := ?_) (a' := ?_) #[true,false,false,true,true,false,true,false,false,false,false] rfl rfl (any_of U.out (by kernel_rfl)) (fun _ _ _ h=>h) (Or.inl ⟨by rfl,?_⟩) ?_ ?_;rotate_left
       · intro w';go_simp;with_reducible rfl
       rotate_left
       · exact aP
       refine take_ (i:=1) (N:=some 10) (v := ?_) (a' := ?_) #[true,true,false,true,true,false,true,false,false,false,false] rfl rfl (take_ofW U.out au.out (by kernel_rfl)) (fun _ _ _ h=>h) (Or.inl ⟨by rfl,?_⟩) ac ?_ ?_;rotate_left
       · rintro w' ⟨s0,s1⟩;go_simp;with_reducible rfl
       rotate_left
       · exact aP
       refine take_ (i:=2) (N:=some 11) (v := ?_) (a' := ?_) #[true,true,true,true,true,false,true,false,false,false,false] rfl rfl (take_ofW U.out au.out (by kernel_rfl)) (fun _ _ _ h=>h) (Or.inl ⟨by rfl,?_⟩) ac ?_ ?_;rotate_left
       · rintro w' ⟨s0,s1⟩;go_simp;with_reducible rfl
       rotate_left
       · exact aP
       refine one_ (i:=5) (N:=some 14) #[true,true,true,true,true,true,true,false,false,false,false] rfl rfl (one_of U.out (by kernel_rfl)) (by decide) (fun K hK => ?_);refine goes_ Try.func137 (by kernel_rfl) rfl #[.agg #[.slice al aa.length am,.slice ah X.length ai],.slice A1 l1.length c1,.slice A2 l2.length c2] (by rfl) rfl rfl aT ?_;with_reducible refine (impl_Sample_neighbors.calls k _ _ aa _ _ X _ _ l1 _ _ l2 Y _ ?side1 ?side2 ?side3 ?side4 ?side5 ?side6 ?side7 ?side8 A5.out).mono ?_
       (case side1=>exact cB aY HB);(case side2=>exact aU.out);(case side3=>exact cB az HB);(case side4=>exact ay.out);(case side5=>exact cB aZ HB);(case side6=>exact aW.out);(case side7=>exact cB a2 HB);(case side8=>exact aX.out);rintro e bP ⟨bv,rfl,ae,hb⟩;refine ⟨_,rfl,?_⟩;have ab:=Aside0.mk (Kd.R_lower ae (below_size (bC HB af)));replace J:=Aside0.mk (bW J hb);replace HB:=Aside0.mk (below_step (bC HB af) hb);(try clear hb);(try clear ae);obtain ⟨aE,aC,a4⟩:=Kd.R_slice ab.out;(first|subst a4|(injection a4 with f1_ f2_ f3_;have ap:=f1_.symm;have aq:=f3_.symm;clear f1_ f2_ f3_;subst ap;subst aq));have aM:(Z:Int)≤((Y.length:Int):Int):=of_decide_eq_true aS;obtain ⟨bN,bf,_,bs,_⟩:=info_parts info3;have bj:Y.length≤aC:=(Kd.R_reads' ab.out).2.1;have a8:Kd.C (Kd.int .i64) _ aE Y.length Y:=(Kd.R_reads' ab.out).2.2;have bq:=cut_to (P:=Try.prog) 24 3 .i64 Try.underlying24 bf aE Y.length aC Z (of_decide_eq_true aS) aM bj;have aH:=Kd.C_take (m:=(Z:Int).toNat) a8 (by omega);have aJ:ak.length=(Z:Int).toNat:=(by rw[aB.out,List.length_take];omega);rw[← aB.out] at aH;rw[← aJ] at bq;have ag:=Aside0.mk aH;have aG:=Aside0.mk (show ak.length≤aC from by omega);clear aH a8 bj bf bs;have bG:=Aside0.mk aJ;clear aJ;have bA:=Aside0.mk (show (Z:Int).toNat≤Y.length from by omega);replace aM:=eq_true aM;refine hK.out _ _ ⟨(blk_cell J.out 0).trans rfl,(blk_cell J.out 1).trans rfl⟩ (fun ac => ?_);clear hK K;refine norm_ (a' := ?_) ?_ ?_;rotate_left
       · show Act.put _ (some 14) _=_
         simp only[Act.put,List.setIfInBounds_toArray,List.set_cons_zero,List.set_cons_succ,i64_w,i32_w];rfl
       refine pure_ (i:=7) (N:=some 16) (v := ?_) (a' := ?_) #[true,true,true,true,true,true,true,true,false,false,false] rfl rfl (any_of U.out (by kernel_rfl)) (fun _ _ _ h=>h) (Or.inl ⟨by rfl,?_⟩) ?_ ?_;rotate_left
       · intro w';go_simp;with_reducible rfl
       rotate_left
       · exact aP
       refine one_ (i:=8) (N:=some 17) #[true,true,true,true,true,true,true,true,true,false,false] rfl rfl (one_of U.out (by kernel_rfl)) (by decide) (fun K hK => ?_);refine goes_ Try.func136 (by kernel_rfl) rfl #[.slice ah X.length ai,.slice aE ak.length aC] (by rfl) rfl rfl aT ?_;with_reducible refine (impl_at.calls k _ _ X _ _ ak aj _ ?side1 ?side2 ?side3 ?side4 A8.out).mono ?_
       (case side1=>exact cB az HB);(case side2=>exact ay.out);(case side3=>repeat (first|exact (by repeat (first|(with_reducible exact ag.out)|(with_reducible refine Kd.C_alloc ?_ _)|(with_reducible refine Kd.C_drewN ?_ _)|(with_reducible refine Kd.C_drew ?_)|exact ag.out))|(with_reducible refine Kd.C_alloc ?_ _)|(with_reducible refine Kd.C_drewN ?_ _)|(with_reducible refine Kd.C_drew ?_)));(case side4=>exact aG.out);rintro e bQ ⟨bw,rfl,ae,hb⟩;refine ⟨_,rfl,?_⟩;have ao:=Aside0.mk (Kd.R_lower (Kd.R_new' ae (Kd.R_lt (pR ab))) (below_size (bC HB af)));replace ab:=Aside0.mk (Kd.R_elder' (pR ab) (Kd.R_base ae) hb);replace J:=Aside0.mk (bW J hb);replace ag:=Aside0.mk (Kd.C_below (by repeat (first|(with_reducible exact ag.out)|(with_reducible refine Kd.C_alloc ?_ _)|(with_reducible refine Kd.C_drewN ?_ _)|(with_reducible refine Kd.C_drew ?_)|exact ag.out)) hb);replace HB:=Aside0.mk (below_step (bC HB af) hb);(try clear hb);(try clear ae);obtain ⟨bl,bo,a5⟩:=Kd.R_slice ao.out;(first|subst a5|(injection a5 with f1_ f2_ f3_;have ap:=f1_.symm;have aq:=f3_.symm;clear f1_ f2_ f3_;subst ap;subst aq));refine hK.out _ _ ⟨(blk_cell J.out 0).trans rfl,(blk_cell J.out 1).trans rfl⟩ (fun ac => ?_);clear hK K;refine norm_ (a' := ?_) ?_ ?_;rotate_left
       · show Act.put _ (some 17) _=_
         simp only[Act.put,List.setIfInBounds_toArray,List.set_cons_zero,List.set_cons_succ,i64_w,i32_w];rfl
       refine one_ (i:=9) (N:=some 18) #[true,true,true,true,true,true,true,true,true,true,false] rfl rfl (one_of U.out (by kernel_rfl)) (by decide) (fun K hK => ?_);refine goes_ Try.func135 (by kernel_rfl) rfl #[.slice bl aj.length bo] (by rfl) rfl rfl aT ?_;with_reducible refine (impl_total.calls k _ _ aj ar _ ?side1 ?side2 A9.out).mono ?_
       (case side1=>exact cR ao);(case side2=>exact (Kd.R_reads' ao.out).2.1);rintro e w' ⟨rfl,⟨nd,rfl⟩⟩;refine ⟨_,rfl,?_⟩;refine hK.out _ _ ⟨(blk_cell J.out 0).trans rfl,(blk_cell J.out 1).trans rfl⟩ (fun ac => ?_);clear hK K;refine norm_ (a' := ?_) ?_ ?_;rotate_left
       · show Act.put _ (some 18) _=_
         simp only[Act.put,List.setIfInBounds_toArray,List.set_cons_zero,List.set_cons_succ,i64_w,i32_w];rfl
       refine pure_ (i:=10) (N:=some 19) (v := ?_) (a' := ?_) #[true,true,true,true,true,true,true,true,true,true,true] rfl rfl (any_of U.out (by kernel_rfl)) (fun _ _ _ h=>h) (Or.inl ⟨by rfl,?_⟩) ?_ ?_;rotate_left
       · intro w';go_simp;with_reducible rfl
       rotate_left
       · exact aP
       refine done_ (done_of U.out (by kernel_rfl)) ?_;try go_wp2
       go_ret
       exact ⟨eW,bC HB af⟩
     · replace H:=iN c10 H;have c10b0:=decide_eq_false c10;clear c10;obtain rfl:=Option.some.inj H;go_enter Try.func90,Try.ntmps90;try go_wp2_with (first|(refine gD 4 ?_;refine box_event ?hg (N:=4) ?hd (cs:=#[.slice al aa.length am,.slice ah X.length ai]) (t:=52) ?hr ?_;(case hd=>rfl);(case hg=>rfl);(case hr=>go_simp <;> rfl);intro av hg bz aw hb;have J:=Aside0.mk (aw);have bn:=gS (w:=w) hg (bB HB);have af:=gS (w:=w) hg (bB HB);replace HB:=Aside0.mk (below_step (bB HB) hb);clear hb aw hg))
       replace J:=Aside0.mk (blk_drew J.out);replace HB:=Aside0.mk (below_drew1 HB.out);refine start_ (n:=11) (S:=fun w' => w'.cell? ⟨av,0,none⟩=some (.slice al aa.length am)∧w'.cell? ⟨av,1,none⟩=some (.slice ah X.length ai)) (ds:=[]) #[false,false,false,false,false,false,false,false,false,false,false] (by kernel_rfl) rfl rfl ⟨(blk_cell J.out 0).trans rfl,(blk_cell J.out 1).trans rfl⟩ (fun ac => ?_);refine with_tabW impl_Sample_near.tab1 impl_Sample_near.bits1 (fun U au => ?_);generalize bz.drew=w19 at J HB ac ⊢;refine pure_ (i:=0) (N:=some 9) (v := ?_) (a' := ?_) #[true,false,false,false,false,false,false,false,false,false,false] rfl rfl (any_of U.out (by kernel_rfl)) (fun _ _ _ h=>h) (Or.inl ⟨by rfl,?_⟩) ?_ ?_;rotate_left
       · intro w';go_simp;with_reducible rfl
       rotate_left
       · exact aP
       refine pure_ (i:=3) (N:=some 12) (v := ?_) (a' := ?_) #[true,false,false,true,false,false,false,false,false,false,false] rfl rfl (any_of U.out (by kernel_rfl)) (fun _ _ _ h=>h) (Or.inl ⟨by rfl,?_⟩) ?_ ?_;rotate_left
       · intro w';go_simp;with_reducible rfl
       rotate_left
       · exact aP
       refine pure_ (i:=4) (N:=some 13) (v := ?_) (a' := ?_) #[true,false,false,true,true,false,false,false,false,false,false] rfl rfl (any_of U.out (by kernel_rfl)) (fun _ _ _ h=>h) (Or.inl ⟨by rfl,?_⟩) ?_ ?_;rotate_left
       · intro w';go_simp;with_reducible rfl
       rotate_left
       · exact aP
       refine pure_ (i:=6) (N:=some 15) (v := ?_) (a' := ?_) #[true,false,false,true,true,false,true,false,false,false,false] rfl rfl (any_of U.out (by kernel_rfl)) (fun _ _ _ h=>h) (Or.inl ⟨by rfl,?_⟩) ?_ ?_;rotate_left
       · intro w';go_simp;with_reducible rfl
       rotate_left
       · exact aP
       refine take_ (i:=1) (N:=some 10) (v := ?_) (a' := ?_) #[true,true,false,true,true,false,true,false,false,false,false] rfl rfl (take_ofW U.out au.out (by kernel_rfl)) (fun _ _ _ h=>h) (Or.inl ⟨by rfl,?_⟩) ac ?_ ?_;rotate_left
       · rintro w' ⟨s0,s1⟩;go_simp;with_reducible rfl
       rotate_left
       · exact aP
       refine take_ (i:=2) (N:=some 11) (v := ?_) (a' := ?_) #[true,true,true,true,true,false,true,false,false,false,false] rfl rfl (take_ofW U.out au.out (by kernel_rfl)) (fun _ _ _ h=>h) (Or.inl ⟨by rfl,?_⟩) ac ?_ ?_;rotate_left
       · rintro w' ⟨s0,s1⟩;go_simp;with_reducible rfl
       rotate_left
       · exact aP
       refine one_ (i:=5) (N:=some 14) #[true,true,true,true,true,true,true,false,false,false,false] rfl rfl (one_of U.out (by kernel_rfl)) (by decide) (fun K hK => ?_);refine goes_ Try.func137 (by kernel_rfl) rfl #[.agg #[.slice al aa.length am,.slice ah X.length ai],.slice A1 l1.length c1,.slice A2 l2.length c2] (by rfl) rfl rfl aT ?_;with_reducible refine (impl_Sample_neighbors.calls k _ _ aa _ _ X _ _ l1 _ _ l2 Y _ ?side1 ?side2 ?side3 ?side4 ?side5 ?side6 ?side7 ?side8 A5.out).mono ?_
       (case side1=>exact cB aY HB);(case side2=>exact aU.out);(case side3=>exact cB az HB);(case side4=>exact ay.out);(case side5=>exact cB aZ HB);(case side6=>exact aW.out);(case side7=>exact cB a2 HB);(case side8=>exact aX.out);rintro e bR ⟨bv,rfl,ae,hb⟩;refine ⟨_,rfl,?_⟩;have ab:=Aside0.mk (Kd.R_lower ae (below_size (bC HB af)));replace J:=Aside0.mk (bW J hb);replace HB:=Aside0.mk (below_step (bC HB af) hb);(try clear hb);(try clear ae);obtain ⟨aF,aD,a6⟩:=Kd.R_slice ab.out;(first|subst a6|(injection a6 with f1_ f2_ f3_;have ap:=f1_.symm;have aq:=f3_.symm;clear f1_ f2_ f3_;subst ap;subst aq));have aN:(Z:Int)≤((Y.length:Int):Int):=of_decide_eq_true aS;obtain ⟨bO,bg,_,bu,_⟩:=info_parts info3;have bk:Y.length≤aD:=(Kd.R_reads' ab.out).2.1;have a9:Kd.C (Kd.int .i64) _ aF Y.length Y:=(Kd.R_reads' ab.out).2.2;have br:=cut_to (P:=Try.prog) 24 3 .i64 Try.underlying24 bg aF Y.length aD Z (of_decide_eq_true aS) aN bk;have aI:=Kd.C_take (m:=(Z:Int).toNat) a9 (by omega);have aK:ak.length=(Z:Int).toNat:=(by rw[aB.out,List.length_take];omega);rw[← aB.out] at aI;rw[← aK] at br;have ag:=Aside0.mk aI;have aG:=Aside0.mk (show ak.length≤aD from by omega);clear aI a9 bk bg bu;have bH:=Aside0.mk aK;clear aK;have bF:=Aside0.mk (show (Z:Int).toNat≤Y.length from by omega);replace aN:=eq_true aN;refine hK.out _ _ ⟨(blk_cell J.out 0).trans rfl,(blk_cell J.out 1).trans rfl⟩ (fun ac => ?_);clear hK K;refine norm_ (a' := ?_) ?_ ?_;rotate_left
       · show Act.put _ (some 14) _=_
         simp only[Act.put,List.setIfInBounds_toArray,List.set_cons_zero,List.set_cons_succ,i64_w,i32_w];rfl
       refine pure_ (i:=7) (N:=some 16) (v := ?_) (a' := ?_) #[true,true,true,true,true,true,true,true,false,false,false] rfl rfl (any_of U.out (by kernel_rfl)) (fun _ _ _ h=>h) (Or.inl ⟨by rfl,?_⟩) ?_ ?_;rotate_left
       · intro w';go_simp;with_reducible rfl
       rotate_left
       · exact aP
       refine one_ (i:=8) (N:=some 17) #[true,true,true,true,true,true,true,true,true,false,false] rfl rfl (one_of U.out (by kernel_rfl)) (by decide) (fun K hK => ?_);refine goes_ Try.func136 (by kernel_rfl) rfl #[.slice ah X.length ai,.slice aF ak.length aD] (by rfl) rfl rfl aT ?_;with_reducible refine (impl_at.calls k _ _ X _ _ ak aj _ ?side1 ?side2 ?side3 ?side4 A8.out).mono ?_
       (case side1=>exact cB az HB);(case side2=>exact ay.out);(case side3=>repeat (first|exact (by repeat (first|(with_reducible exact ag.out)|(with_reducible refine Kd.C_alloc ?_ _)|(with_reducible refine Kd.C_drewN ?_ _)|(with_reducible refine Kd.C_drew ?_)|exact ag.out))|(with_reducible refine Kd.C_alloc ?_ _)|(with_reducible refine Kd.C_drewN ?_ _)|(with_reducible refine Kd.C_drew ?_)));(case side4=>exact aG.out);rintro e bT ⟨bw,rfl,ae,hb⟩;refine ⟨_,rfl,?_⟩;have ao:=Aside0.mk (Kd.R_lower (Kd.R_new' ae (Kd.R_lt (pR ab))) (below_size (bC HB af)));replace ab:=Aside0.mk (Kd.R_elder' (pR ab) (Kd.R_base ae) hb);replace J:=Aside0.mk (bW J hb);replace ag:=Aside0.mk (Kd.C_below (by repeat (first|(with_reducible exact ag.out)|(with_reducible refine Kd.C_alloc ?_ _)|(with_reducible refine Kd.C_drewN ?_ _)|(with_reducible refine Kd.C_drew ?_)|exact ag.out)) hb);replace HB:=Aside0.mk (below_step (bC HB af) hb);(try clear hb);(try clear ae);obtain ⟨bm,bp,a7⟩:=Kd.R_slice ao.out;(first|subst a7|(injection a7 with f1_ f2_ f3_;have ap:=f1_.symm;have aq:=f3_.symm;clear f1_ f2_ f3_;subst ap;subst aq));refine hK.out _ _ ⟨(blk_cell J.out 0).trans rfl,(blk_cell J.out 1).trans rfl⟩ (fun ac => ?_);clear hK K;refine norm_ (a' := ?_) ?_ ?_;rotate_left
       · show Act.put _ (some 17) _=_
         simp only[Act.put,List.setIfInBounds_toArray,List.set_cons_zero,List.set_cons_succ,i64_w,i32_w];rfl
       refine one_ (i:=9) (N:=some 18) #[true,true,true,true,true,true,true,true,true,true,false] rfl rfl (one_of U.out (by kernel_rfl)) (by decide) (fun K hK => ?_);refine goes_ Try.func135 (by kernel_rfl) rfl #[.slice bm aj.length bp] (by rfl) rfl rfl aT ?_;with_reducible refine (impl_total.calls k _ _ aj ar _ ?side1 ?side2 A9.out).mono ?_
       (case side1=>exact cR ao);(case side2=>exact (Kd.R_reads' ao.out).2.1);rintro e w' ⟨rfl,⟨nd,rfl⟩⟩;refine ⟨_,rfl,?_⟩;refine hK.out _ _ ⟨(blk_cell J.out 0).trans rfl,(blk_cell J.out 1).trans rfl⟩ (fun ac => ?_);clear hK K;refine norm_ (a' := ?_) ?_ ?_;rotate_left
       · show Act.put _ (some 18) _=_
         simp only[Act.put,List.setIfInBounds_toArray,List.set_cons_zero,List.set_cons_succ,i64_w,i32_w];rfl
       refine pure_ (i:=10) (N:=some 19) (v := ?_) (a' := ?_) #[true,true,true,true,true,true,true,true,true,true,true] rfl rfl (any_of U.out (by kernel_rfl)) (fun _ _ _ h=>h) (Or.inl ⟨by rfl,?_⟩) ?_ ?_;rotate_left
       · intro w';go_simp;with_reducible rfl
       rotate_left
       · exact aP
       refine done_ (done_of U.out (by kernel_rfl)) ?_;try go_wp2
       go_ret
       exact ⟨eW,bC HB af⟩
   · replace H:=iN c7 H;cases H
 · replace H:=iN c6 H;cases H
def slices_Index_int_int.l0:Nat→List Int→Int→Int→Int→Option (Int)
 | 0,_,_,_,_=>none
 | k+1,x0,x1,J,x8=>if x8<J then (if 0≤x8 then (if x8<(x0.length:Int) then (if x1=(rd x0 x8) then (some x8) else (slices_Index_int_int.l0 k x0 x1 J (wrap64 (x8+1)))) else (none)) else (none)) else (some (-1))
def slices_Index_int_int.f (k:Nat) (l0:List Int) (a1:Int):Option (Int):=slices_Index_int_int.l0 k l0 a1 (l0.length:Int) 0
theorem slices_Index_int_int.calls (k:Nat) (Z:Option Addr) (c0:Nat) (l0:List Int) (a1:Int) (r:Int) (w:World) (ab:Kd.C (Kd.int .i64) w Z l0.length l0) (hc0:l0.length≤c0) (h:slices_Index_int_int.f k l0 a1=some r) :
 Calls Try.prog 169 #[.slice Z l0.length c0,.int .i64 a1] w fun e w' => e = .returned (.int .i64 r)∧Drawn0 w w' := by
 have aa:=Aside0.mk ab;have ai:=Aside0.mk hc0;clear ab hc0;have H:(slices_Index_int_int.l0 k l0 a1 (l0.length:Int) 0)=some r:=h;clear h;have H' := Aside0.mk H;clear H;go_enter Try.func169,Try.ntmps169;go_wp2;go_loopg [8] k (fun kq v8 w' => ∃ (J:Int),v8 = .int .i64 J∧Aside0 (slices_Index_int_int.l0 kq l0 a1 (l0.length:Int) J=some r)∧Aside0 (kq≤k)∧Drawn0 w w')
 case atStart=>exact ⟨(0),rD,H',⟨Nat.le_refl _⟩,dR⟩
 case round =>
  clear H';try clear c1
  obtain ⟨J,rfl,HA,HK1,⟨m1,rfl⟩⟩:=hrel;cases gk with
  | zero=>exact absurd HA.out (by simp[slices_Index_int_int.l0])
  | succ k1 =>
   have H:=HA.out;clear HA;simp only[slices_Index_int_int.l0] at H;by_cases c3:J<(l0.length:Int)
   · replace H:=iP c3 H;have ae:=decide_eq_true c3;clear c3;by_cases c4:0≤J
     · replace H:=iP c4 H;have c4b0:=decide_eq_true c4;clear c4;by_cases c5:J<(l0.length:Int)
       · replace H:=iP c5 H;have c5b0:=decide_eq_true c5;clear c5;by_cases c6:a1=(rd l0 J)
         · replace H:=iP c6 H;have af:=qT c6;have ag:=nF c6;clear c6;obtain rfl:=Option.some.inj H;have U:0≤(J:Int):=of_decide_eq_true aS;have X:J<(l0.length:Int):=of_decide_eq_true aS;obtain ⟨ac,Y,ah⟩:=Kd.at_int aa.out J U X;cases Y
           replace U:=eq_true U;replace X:=eq_true X;go_wp2;go_ret
           exact ⟨rD,dR⟩
         · replace H:=iN c6 H;have af:=qF c6;have ag:=nT c6;have H' := Aside0.mk H;clear H;have U:0≤(J:Int):=of_decide_eq_true aS;have X:J<(l0.length:Int):=of_decide_eq_true aS;obtain ⟨ac,Y,ah⟩:=Kd.at_int aa.out J U X;cases Y
           replace U:=eq_true U;replace X:=eq_true X;go_wp2;go_roundg k1
           case measure=>exact kM HK1
           case rel=>exact ⟨(wrap64 (J+1)),rD,H',⟨kM HK1⟩,dR⟩
       · replace H:=iN c5 H;cases H
     · replace H:=iN c4 H;cases H
   · replace H:=iN c3 H;have ae:=decide_eq_false c3;clear c3;obtain rfl:=Option.some.inj H;go_wp2;go_ret
     exact ⟨rD,dR⟩
def slices_Contains_int_int.f (k:Nat) (l0:List Int) (a1:Int):Option (Bool):=(slices_Index_int_int.f k l0 a1).bind fun J=>(some (decide (J≥0)))
theorem slices_Contains_int_int.calls (k:Nat) (J:Option Addr) (c0:Nat) (l0:List Int) (a1:Int) (r:Bool) (w:World) (X:Kd.C (Kd.int .i64) w J l0.length l0) (hc0:l0.length≤c0) (h:slices_Contains_int_int.f k l0 a1=some r) :
 Calls Try.prog 160 #[.slice J l0.length c0,.int .i64 a1] w fun e w' => e = .returned (.bool r)∧Drawn0 w w' := by
 have aa:=Aside0.mk X;have Z:=Aside0.mk hc0;clear X hc0;have H:((slices_Index_int_int.f k l0 a1).bind fun U=>(some (decide (U≥0))))=some r:=h;clear h;obtain ⟨U,Y,H⟩:=bS H;obtain rfl:=Option.some.inj H;go_enter Try.func160,Try.ntmps160;go_wp2_with (first|(refine gL 7 Try.func169 #[.slice J l0.length c0,.int .i64 a1] ?_;(with_reducible refine (slices_Index_int_int.calls k _ _ l0 a1 U _ ?side1 ?side2 Y.out).mono ?_);(case side1=>exact cC aa);(case side2=>exact Z.out);rintro e w' ⟨rfl,⟨nd,rfl⟩⟩;refine ⟨_,rfl,?_⟩))
 go_ret
 exact ⟨rD,dR⟩
def impl_without.l0:Nat→List Int→List Int→Int→Int→Option (List Int)
 | 0,_,_,_,_=>none
 | k+1,x1,U,x8,J=>if J<x8 then ((slices_Contains_int_int.f k x1 J).bind fun X=>(if X=true then (impl_without.l0 k x1 U x8 (wrap64 (J+1))) else (if U.length<17592186044416 then (impl_without.l0 k x1 (U++[J]) x8 (wrap64 (J+1))) else (none)))) else (some U)
def impl_without.f (k:Nat) (a0:Int) (l1:List Int):Option (List Int):=impl_without.l0 k l1 (([]:List Int)) a0 0
theorem impl_without.calls (k:Nat) (a0:Int) (A1:Option Addr) (c1:Nat) (l1:List Int) (r:List Int) (w:World) (hr1:Kd.C (Kd.int .i64) w A1 l1.length l1) (ag:l1.length≤c1) (h:impl_without.f k a0 l1=some r) :
 Calls Try.prog 138 #[.int .i64 a0,.slice A1 l1.length c1] w fun e w' => ∃ ah:Value,e = .returned (ah)∧Kd.R (Kd.int .i64) 3 w' w.heap.size (fun _=>True) ah r∧Below w.heap.size w w' := by
 have ae:=Aside0.mk hr1;have ac:=Aside0.mk ag;clear hr1 ag;have HB:=Aside0.mk (Below.refl w.heap.size w);have H:(impl_without.l0 k l1 (([]:List Int)) a0 0)=some r:=h;clear h;obtain ⟨ai,Z⟩:∃ y_:List Int,y_=(([]:List Int)):=⟨_,rfl⟩;replace H:(impl_without.l0 k l1 ai a0 0)=some r:=yH Z H
 have af:=Aside0.mk Z;clear Z;have H' := Aside0.mk H;clear H;go_enter Try.func138,Try.ntmps138;go_wp2_with (first|(refine gD 7 ?_;refine Kd.R_lit (Kd.int .i64) _ 3 ?hg (N:=7) ?hd (xs:=([]:List Int)) (inner:=[]) (ok:=fun _=>True) (okp:=fun _=>True) ?hr ?hp (fun _ hk=>hk) trivial (Below.refl _ _) (Nat.le_refl _) (by simp) ?_;(case hd=>rfl);(case hg=>rfl);(case hr=>go_simp <;> rfl);(case hp=>exact (Reps.none _ _));intro au w3 X hb hg_ hnew_;clear hg_ hnew_;(first|rw[← af.out] at X|(simp only[Int.reduceToNat] at X;rw[← af.out] at X));have ak:=Aside0.mk (Kd.R_lower X (below_size (bB HB)));replace HB:=Aside0.mk (below_step (bB HB) hb);clear hb X))
 go_loopg [5,9] k (fun kq v5 v9 w' => ∃ (U:List Int) (J:Int),v9 = .int .i64 J∧Aside0 (impl_without.l0 kq l1 U a0 J=some r)∧Aside0 (kq≤k)∧Aside0 (Kd.R (Kd.int .i64) 3 w' w.heap.size (fun _=>True) v5 U)∧Aside0 (Below w.heap.size w w'))
 case atStart=>exact ⟨(ai),(0),rD,H',⟨Nat.le_refl _⟩,⟨pR ak⟩,⟨bB HB⟩⟩
 case round =>
  clear H';try clear c1
  obtain ⟨U,J,rfl,HA,HK1,Y,HB⟩:=hrel;cases gk with
  | zero=>exact absurd HA.out (by simp[impl_without.l0])
  | succ k1 =>
   have H:=HA.out;clear HA;simp only[impl_without.l0] at H;by_cases c5:J<a0
   · replace H:=iP c5 H;have c5b0:=decide_eq_true c5;clear c5;obtain ⟨ap,A6,H⟩:=bS H;by_cases c7:ap=true
     · subst c7;replace H:=iT H;have H' := Aside0.mk H;clear H;go_wp2_with (first|(refine gL 14 Try.func160 #[.slice A1 l1.length c1,.int .i64 J] ?_;(with_reducible refine (slices_Contains_int_int.calls k1 _ _ l1 J true _ ?side1 ?side2 A6.out).mono ?_);(case side1=>exact cB ae HB);(case side2=>exact ac.out);rintro e w' ⟨rfl,⟨nd,rfl⟩⟩;refine ⟨_,rfl,?_⟩))
       go_roundg k1
       case measure=>exact kM HK1
       case rel=>exact ⟨(U),(wrap64 (J+1)),rD,H',⟨kM HK1⟩,⟨pR Y⟩,⟨bB HB⟩⟩
     · replace c7:=Bool.eq_false_iff.mpr c7;subst c7;replace H:=iF H;by_cases c8:U.length<17592186044416
       · replace H:=iP c8 H;have am:=Aside0.mk c8;clear c8;obtain ⟨aj,aa⟩:∃ y_:List Int,y_=(U++[J]):=⟨_,rfl⟩;replace H:(impl_without.l0 k1 l1 aj a0 (wrap64 (J+1)))=some r:=yH aa H
         have ao:=Aside0.mk aa;clear aa;have H' := Aside0.mk H;clear H;go_wp2_with (first|(refine gL 14 Try.func160 #[.slice A1 l1.length c1,.int .i64 J] ?_;(with_reducible refine (slices_Contains_int_int.calls k1 _ _ l1 J false _ ?side1 ?side2 A6.out).mono ?_);(case side1=>exact cB ae HB);(case side2=>exact ac.out);rintro e w' ⟨rfl,⟨nd,rfl⟩⟩;refine ⟨_,rfl,?_⟩)|((with_reducible refine gate_builtin (b := .append) (xs:=#[.tmp 16,.tmp 18]) rfl ?_);at_builtin;refine Kd.R_append (Kd.int .i64) (w0:=w) w.heap.size rfl (.tmp 16) (.tmp 18) 24 3 (.int .i64 0) 8 rfl Try.underlying24 info3 rfl (by decide) (by omega) u5 U J [.int .i64 J] (fun _=>True) (fun _=>False) rfl rfl ?aP (fun _ hk=>hk.elim) ?aF ?aO ?aB ?aS ?aL ?_;(case aP=>exact rfl);(case aB=>exact (bB HB));(case aF=>exact (fun _ _=>trivial));(case aO=>exact (pR Y));(case aS=>exact (below_size (bB HB)));(case aL=>have:=am.out;omega);intro av w9 ho hb hg hat;rw[← ao.out] at ho;have al:=Aside0.mk (ho);replace HB:=Aside0.mk (hb);clear Y;clear ho hb hg hat))
         go_roundg k1
         case measure=>exact kM HK1
         case rel=>exact ⟨(aj),(wrap64 (J+1)),rD,H',⟨kM HK1⟩,⟨pR al⟩,⟨bB HB⟩⟩
       · replace H:=iN c8 H;cases H
   · replace H:=iN c5 H;have c5b0:=decide_eq_false c5;clear c5;obtain rfl:=Option.some.inj H;go_wp2;go_ret
     exact ⟨_,eW,by (with_reducible repeat (first|apply Kd.R_alloc|apply Kd.R_drewN|apply Kd.R_drew));exact Y.out,bB HB⟩
def impl_Sample_everywhere.f (k:Nat) (J:List (List Int)) (X:List Int):Option (List Int):=(impl_without.f k (J.length:Int) ([]:List Int)).bind fun U=>(some U)
theorem impl_Sample_everywhere.calls (k:Nat) (Y:Option Addr) (aa:Nat) (J:List (List Int)) (Z:Option Addr) (ab:Nat) (U:List Int) (r:List Int) (w:World) (ak:Kd.C (Kd.slice 3 (Kd.int .i64)) w Y J.length J) (ah:J.length≤aa) (al:Kd.C (Kd.int .i64) w Z U.length U) (ai:U.length≤ab) (h:impl_Sample_everywhere.f k J U=some r) :
 Calls Try.prog 91 #[.agg #[.slice Y J.length aa,.slice Z U.length ab]] w fun e w' => ∃ am:Value,e = .returned (am)∧Kd.R (Kd.int .i64) 3 w' w.heap.size (fun _=>True) am r∧Below w.heap.size w w' := by
 have aD:=Try.underlying52;have aw:=Aside0.mk ak;have au:=Aside0.mk ah;clear ak ah;have ax:=Aside0.mk al;have av:=Aside0.mk ai;clear al ai;have HB:=Aside0.mk (Below.refl w.heap.size w);have H:((impl_without.f k (J.length:Int) ([]:List Int)).bind fun ae=>(some ae))=some r:=h;clear h;obtain ⟨ae,A2,H⟩:=bS H;obtain rfl:=Option.some.inj H;go_enter Try.func91,Try.ntmps91;go_wp2_with (first|(refine gD 1 ?_;refine box_event ?hg (N:=1) ?hd (cs:=#[.slice Y J.length aa,.slice Z U.length ab]) (t:=52) ?hr ?_;(case hd=>rfl);(case hg=>rfl);(case hr=>go_simp <;> rfl);intro af hg w3 ag hb;have X:=Aside0.mk (ag);have ar:=gS (w:=w) hg (bB HB);have ac:=gS (w:=w) hg (bB HB);replace HB:=Aside0.mk (below_step (bB HB) hb);clear hb ag hg;have ay:w3.cell? ⟨af,0,none⟩=some (.slice Y J.length aa):=(blk_cell X.out 0).trans rfl;have az:w3.cell? ⟨af,1,none⟩=some (.slice Z U.length ab):=(blk_cell X.out 1).trans rfl;have aB:=blk_frozen X.out 0;have aC:=blk_frozen X.out 1)|(refine gL 6 Try.func138 #[.int .i64 (J.length:Int),.slice none 0 0] ?_;(refine (impl_without.calls k (J.length:Int) _ _ ([]:List Int) ae _ ?side1 ?side2 A2.out).mono ?_);(case side1=>exact Kd.C_nil _ _);(case side2=>exact Nat.le_refl _);rintro e w5 ⟨aE,rfl,aj,hb⟩;refine ⟨_,rfl,?_⟩;have aq:=Aside0.mk (Kd.R_lower aj (below_size (bC HB ac)));replace X:=Aside0.mk (bW X hb);replace HB:=Aside0.mk (below_step (bC HB ac) hb);(try clear hb);(try clear aj)))
 go_ret
 exact ⟨_,eW,by (with_reducible repeat (first|apply Kd.R_alloc|apply Kd.R_drewN|apply Kd.R_drew));exact aq.out,bC HB ac⟩
end Go.Proofs.Ytkbahcbankfffaa.PFnPlanesOfPairs
