import Derived.Test.YtkbahcbankfffaaPFnPlanesOfPairsx0
import Derived.Test.YtkbahcbankfffaaPFnPlanesOfPairsx5
import Derived.Test.YtkbahcbankfffaaPFnPlanesOfPairsx10
import Derived.Test.YtkbahcbankfffaaPFnPlanesOfPairsx15
import Derived.Test.YtkbahcbankfffaaPFnPlanesOfPairsx17
import Derived.Test.YtkbahcbankfffaaSh
import Derived.Test.YtkbahcbankfffaaSz
namespace Go.Proofs.Ytkbahcbankfffaa.PFnPlanesOfPairs
open Go.RowKit Go.Proofs.Ytkbahcbankfffaa.Sh Go.Proofs.YtkbahcbankfffaaW.PrintWords Go.Proofs.YtkbahcbankfffaaW.PrintLast Go.Proofs.YtkbahcbankfffaaW.PrintMore
attribute [local go_sem] max2_int min2_int max_two min_two max_three min_three max_four min_four
set_option linter.unusedVariables false
set_option maxHeartbeats 8000000
set_option maxRecDepth 100000
set_option linter.unusedSimpArgs false
def impl_NearLabel.f (k:Nat) (J:List (List Int)) (U:List Int) (l1:List Int) (X:Int):Option (Int×Bool):=(impl_isAsked.f k J U l1 X).bind fun Y=>(if Y=true then ((impl_Sample_everywhere.f k J U).bind fun Z=>((impl_Sample_near.f k J U l1 Z X).bind fun aa=>(some (aa,true)))) else (some (0,false)))
def impl_NearLabel.T3:Bool×List (List Nat×List Nat):=(true,[([],[]),([],[]),([],[]),([2],[2]),([],[]),([0,1,3,4,3],[0,1,3,4]),([5,5,0,1,2,3,4,5],[5]),([6,0,1,2,3,4,5,6],[])])
def impl_NearLabel.B3:List Nat:=[0,0,0,4,0,31,63,127]
theorem impl_NearLabel.tab3:rtab .any (opsOf Try.f30 3)=impl_NearLabel.T3:=by kernel_rfl
theorem impl_NearLabel.bits3:waitsOk impl_NearLabel.T3.2 impl_NearLabel.B3=true:=by kernel_rfl
theorem impl_NearLabel.calls (k:Nat) (Y:Option Addr) (aa:Nat) (U:List (List Int)) (Z:Option Addr) (ab:Nat) (X:List Int) (A1:Option Addr) (c1:Nat) (l1:List Int) (a2:Int) (r1:Int) (r2:Bool) (w:World) (aG:Kd.C (Kd.slice 3 (Kd.int .i64)) w Y U.length U) (aC:U.length≤aa) (aH:Kd.C (Kd.int .i64) w Z X.length X) (aD:X.length≤ab) (hr1:Kd.C (Kd.int .i64) w A1 l1.length l1) (aE:l1.length≤c1) (h:impl_NearLabel.f k U X l1 a2=some (r1,r2)) :
 Calls Try.prog 30 #[.agg #[.slice Y U.length aa,.slice Z X.length ab],.slice A1 l1.length c1,.int .i64 a2] w fun e w' => e = .returned (.tuple #[.int .i64 r1,.bool r2])∧Below w.heap.size w w' := by
 have a7:=Try.underlying52;have ao:=Aside0.mk aG;have al:=Aside0.mk aC;clear aG aC;have ap:=Aside0.mk aH;have am:=Aside0.mk aD;clear aH aD;have ar:=Aside0.mk hr1;have aq:=Aside0.mk aE;clear hr1 aE;have HB:=Aside0.mk (Below.refl w.heap.size w);have H:((impl_isAsked.f k U X l1 a2).bind fun aw=>(if aw=true then ((impl_Sample_everywhere.f k U X).bind fun ak=>((impl_Sample_near.f k U X l1 ak a2).bind fun ax=>(some (ax,true)))) else (some (0,false))))=some (r1,r2):=h;clear h;obtain ⟨aw,A4,H⟩:=bS H;by_cases c5:aw=true
 · subst c5;replace H:=iT H;obtain ⟨ak,A6,H⟩:=bS H;obtain ⟨ax,A7,H⟩:=bS H;simp only[Option.some.injEq,Prod.mk.injEq] at H;obtain ⟨rfl,rfl⟩:=H;go_enter Try.func30,Try.ntmps30;try go_wp2_with (first|(refine gD 3 ?_;refine box_event ?hg (N:=3) ?hd (cs:=#[.slice Y U.length aa,.slice Z X.length ab]) (t:=52) ?hr ?_;(case hd=>rfl);(case hg=>rfl);(case hr=>go_simp <;> rfl);intro ag hg w8 aj hb;have J:=Aside0.mk (aj);have aN:=gS (w:=w) hg (bB HB);have af:=gS (w:=w) hg (bB HB);replace HB:=Aside0.mk (below_step (bB HB) hb);clear hb aj hg;have aY:w8.cell? ⟨ag,0,none⟩=some (.slice Y U.length aa):=(blk_cell J.out 0).trans rfl;have aZ:w8.cell? ⟨ag,1,none⟩=some (.slice Z X.length ab):=(blk_cell J.out 1).trans rfl;have a5:=blk_frozen J.out 0;have a6:=blk_frozen J.out 1)|(refine gL 11 Try.func89 #[.agg #[.slice Y U.length aa,.slice Z X.length ab],.slice A1 l1.length c1,.int .i64 a2] ?_;(with_reducible refine (impl_isAsked.calls k _ _ U _ _ X _ _ l1 a2 true _ ?side1 ?side2 ?side3 ?side4 ?side5 ?side6 A4.out).mono ?_);(case side1=>exact cB ao HB);(case side2=>exact al.out);(case side3=>exact cB ap HB);(case side4=>exact am.out);(case side5=>exact cB ar HB);(case side6=>exact aq.out);rintro e aU ⟨rfl,hb⟩;refine ⟨_,rfl,?_⟩;replace J:=Aside0.mk (bW J hb);replace HB:=Aside0.mk (below_step (bC HB af) hb);(try clear hb);(try clear hi)))
   replace J:=Aside0.mk (blk_drew J.out);replace HB:=Aside0.mk (below_drew1 HB.out);refine start_ (n:=8) (S:=fun w' => w'.cell? ⟨ag,0,none⟩=some (.slice Y U.length aa)∧w'.cell? ⟨ag,1,none⟩=some (.slice Z X.length ab)) (ds:=[]) #[false,false,false,false,false,false,false,false] (by kernel_rfl) rfl rfl ⟨(blk_cell J.out 0).trans rfl,(blk_cell J.out 1).trans rfl⟩ (fun ai => ?_);refine with_tabW impl_NearLabel.tab3 impl_NearLabel.bits3 (fun ae az => ?_);generalize aU.drew=w11 at J HB ai ⊢;refine pure_ (i:=1) (N:=some 14) (v := ?_) (a' := ?_) #[false,true,false,false,false,false,false,false] rfl rfl (any_of ae.out (by kernel_rfl)) (fun _ _ _ h=>h) (Or.inl ⟨by rfl,?_⟩) ?_ ?_;rotate_left
   · intro w';go_simp;with_reducible rfl
   rotate_left
   · exact aP
   refine pure_ (i:=4) (N:=some 17) (v := ?_) (a' := ?_) #[false,true,false,false,true,false,false,false] rfl rfl (any_of ae.out (by kernel_rfl)) (fun _ _ _ h=>h) (Or.inl ⟨by rfl,?_⟩) ?_ ?_;rotate_left
   · intro w';go_simp;with_reducible rfl
   rotate_left
   · exact aP
   refine take_ (i:=0) (N:=some 13) (v := ?_) (a' := ?_) #[true,true,false,false,true,false,false,false] rfl rfl (take_ofW ae.out az.out (by kernel_rfl)) (fun _ _ _ h=>h) (Or.inl ⟨by rfl,?_⟩) ai ?_ ?_;rotate_left
   · rintro w' ⟨s0,s1⟩;go_simp;with_reducible rfl
   rotate_left
   · exact aP
   refine take_ (i:=2) (N:=some 15) (v := ?_) (a' := ?_) #[true,true,true,false,true,false,false,false] rfl rfl (take_ofW ae.out az.out (by kernel_rfl)) (fun _ _ _ h=>h) (Or.inl ⟨by rfl,?_⟩) ai ?_ ?_;rotate_left
   · rintro w' ⟨s0,s1⟩;go_simp;with_reducible rfl
   rotate_left
   · exact aP
   refine one_ (i:=3) (N:=some 16) #[true,true,true,true,true,false,false,false] rfl rfl (one_of ae.out (by kernel_rfl)) (by decide) (fun K hK => ?_);refine goes_ Try.func91 (by kernel_rfl) rfl #[.agg #[.slice Y U.length aa,.slice Z X.length ab]] (by rfl) rfl rfl aT ?_;with_reducible refine (impl_Sample_everywhere.calls k _ _ U _ _ X ak _ ?side1 ?side2 ?side3 ?side4 A6.out).mono ?_
   (case side1=>exact cB ao HB);(case side2=>exact al.out);(case side3=>exact cB ap HB);(case side4=>exact am.out);rintro e a9 ⟨a8,rfl,aF,hb⟩;refine ⟨_,rfl,?_⟩;have ah:=Aside0.mk (Kd.R_lower aF (below_size (bC HB af)));replace J:=Aside0.mk (bW J hb);replace HB:=Aside0.mk (below_step (bC HB af) hb);(try clear hb);(try clear aF);obtain ⟨aM,aO,aB⟩:=Kd.R_slice ah.out;(first|subst aB|(injection aB with f1_ f2_ f3_;have aQ:=f1_.symm;have aR:=f3_.symm;clear f1_ f2_ f3_;subst aQ;subst aR));refine hK.out _ _ ⟨(blk_cell J.out 0).trans rfl,(blk_cell J.out 1).trans rfl⟩ (fun ai => ?_);clear hK K;refine norm_ (a' := ?_) ?_ ?_;rotate_left
   · show Act.put _ (some 16) _=_
     simp only[Act.put,List.setIfInBounds_toArray,List.set_cons_zero,List.set_cons_succ,i64_w,i32_w];rfl
   refine one_ (i:=5) (N:=some 18) #[true,true,true,true,true,true,false,false] rfl rfl (one_of ae.out (by kernel_rfl)) (by decide) (fun K hK => ?_);refine goes_ Try.func90 (by kernel_rfl) rfl #[.agg #[.slice Y U.length aa,.slice Z X.length ab],.slice A1 l1.length c1,.slice aM ak.length aO,.int .i64 a2] (by rfl) rfl rfl aT ?_;with_reducible refine (impl_Sample_near.calls k _ _ U _ _ X _ _ l1 _ _ ak a2 ax _ ?side1 ?side2 ?side3 ?side4 ?side5 ?side6 ?side7 ?side8 A7.out).mono ?_
   (case side1=>exact cB ao HB);(case side2=>exact al.out);(case side3=>exact cB ap HB);(case side4=>exact am.out);(case side5=>exact cB ar HB);(case side6=>exact aq.out);(case side7=>exact cR ah);(case side8=>exact (Kd.R_reads' ah.out).2.1);rintro e w14 ⟨rfl,hb⟩;refine ⟨_,rfl,?_⟩;replace ah:=Aside0.mk (Kd.R_below (pR ah) hb);replace J:=Aside0.mk (bW J hb);replace HB:=Aside0.mk (below_step (bC HB af) hb);(try clear hb);refine hK.out _ _ ⟨(blk_cell J.out 0).trans rfl,(blk_cell J.out 1).trans rfl⟩ (fun ai => ?_);clear hK K;refine norm_ (a' := ?_) ?_ ?_;rotate_left
   · show Act.put _ (some 18) _=_
     simp only[Act.put,List.setIfInBounds_toArray,List.set_cons_zero,List.set_cons_succ,i64_w,i32_w];rfl
   refine pure_ (i:=6) (N:=some 6) (v := ?_) (a' := ?_) #[true,true,true,true,true,true,true,false] rfl rfl (any_of ae.out (by kernel_rfl)) (fun _ _ _ h=>h) (Or.inl ⟨by rfl,?_⟩) ?_ ?_;rotate_left
   · intro w';go_simp;with_reducible rfl
   rotate_left
   · exact aP
   refine pure_ (i:=7) (N:=some 7) (v := ?_) (a' := ?_) #[true,true,true,true,true,true,true,true] rfl rfl (any_of ae.out (by kernel_rfl)) (fun _ _ _ h=>h) (Or.inl ⟨by rfl,?_⟩) ?_ ?_;rotate_left
   · intro w';go_simp;with_reducible rfl
   rotate_left
   · exact aP
   refine done_ (done_of ae.out (by kernel_rfl)) ?_;try go_wp2
   go_ret2
   exact ⟨eW,bC HB af⟩
 · replace c5:=Bool.eq_false_iff.mpr c5;subst c5;replace H:=iF H;simp only[Option.some.injEq,Prod.mk.injEq] at H;obtain ⟨rfl,rfl⟩:=H;go_enter Try.func30,Try.ntmps30;go_wp2_with (first|(refine gD 3 ?_;refine box_event ?hg (N:=3) ?hd (cs:=#[.slice Y U.length aa,.slice Z X.length ab]) (t:=52) ?hr ?_;(case hd=>rfl);(case hg=>rfl);(case hr=>go_simp <;> rfl);intro ag hg aI aj hb;have J:=Aside0.mk (aj);have aN:=gS (w:=w) hg (bB HB);have af:=gS (w:=w) hg (bB HB);replace HB:=Aside0.mk (below_step (bB HB) hb);clear hb aj hg;have aW:aI.cell? ⟨ag,0,none⟩=some (.slice Y U.length aa):=(blk_cell J.out 0).trans rfl;have aX:aI.cell? ⟨ag,1,none⟩=some (.slice Z X.length ab):=(blk_cell J.out 1).trans rfl;have a3:=blk_frozen J.out 0;have a4:=blk_frozen J.out 1)|(refine gL 11 Try.func89 #[.agg #[.slice Y U.length aa,.slice Z X.length ab],.slice A1 l1.length c1,.int .i64 a2] ?_;(with_reducible refine (impl_isAsked.calls k _ _ U _ _ X _ _ l1 a2 false _ ?side1 ?side2 ?side3 ?side4 ?side5 ?side6 A4.out).mono ?_);(case side1=>exact cB ao HB);(case side2=>exact al.out);(case side3=>exact cB ap HB);(case side4=>exact am.out);(case side5=>exact cB ar HB);(case side6=>exact aq.out);rintro e ba ⟨rfl,hb⟩;refine ⟨_,rfl,?_⟩;replace J:=Aside0.mk (bW J hb);replace HB:=Aside0.mk (below_step (bC HB af) hb);(try clear hb);(try clear hi)))
   go_ret2
   exact ⟨eW,bC HB af⟩
def impl_PointsWith.f (k:Nat) (J:List (List Int)) (U:List Int) (a1:Int):Option (List Int×Bool):=(impl_IsSample.f k J U).bind fun X=>(if X=true then ((impl_isLabel.f a1).bind fun Y=>(if Y=true then ((impl_Sample_with.f k J U a1).bind fun Z=>(some (Z,true))) else (some (([]:List Int),false)))) else (some (([]:List Int),false)))
theorem impl_PointsWith.calls (k:Nat) (Y:Option Addr) (aa:Nat) (U:List (List Int)) (Z:Option Addr) (ab:Nat) (X:List Int) (a1:Int) (r1:List Int) (r2:Bool) (w:World) (ay:Kd.C (Kd.slice 3 (Kd.int .i64)) w Y U.length U) (av:U.length≤aa) (az:Kd.C (Kd.int .i64) w Z X.length X) (aw:X.length≤ab) (h:impl_PointsWith.f k U X a1=some (r1,r2)) :
 Calls Try.prog 31 #[.agg #[.slice Y U.length aa,.slice Z X.length ab],.int .i64 a1] w fun e w' => ∃ aB:Value,e = .returned (.tuple #[aB,.bool r2])∧Kd.R (Kd.int .i64) 3 w' w.heap.size (fun _=>True) aB r1∧Below w.heap.size w w' := by
 have a4:=Try.underlying52;have ai:=Aside0.mk ay;have ag:=Aside0.mk av;clear ay av;have aj:=Aside0.mk az;have ah:=Aside0.mk aw;clear az aw;have HB:=Aside0.mk (Below.refl w.heap.size w);have H:((impl_IsSample.f k U X).bind fun ao=>(if ao=true then ((impl_isLabel.f a1).bind fun ap=>(if ap=true then ((impl_Sample_with.f k U X a1).bind fun aq=>(some (aq,true))) else (some (([]:List Int),false)))) else (some (([]:List Int),false))))=some (r1,r2):=h;clear h;obtain ⟨ao,A3,H⟩:=bS H;by_cases c4:ao=true
 · subst c4;replace H:=iT H;obtain ⟨ap,A5,H⟩:=bS H;by_cases c6:ap=true
   · subst c6;replace H:=iT H;obtain ⟨aq,A7,H⟩:=bS H;simp only[Option.some.injEq,Prod.mk.injEq] at H;obtain ⟨rfl,rfl⟩:=H;go_enter Try.func31,Try.ntmps31;go_wp2_with (first|(refine gD 2 ?_;refine box_event ?hg (N:=2) ?hd (cs:=#[.slice Y U.length aa,.slice Z X.length ab]) (t:=52) ?hr ?_;(case hd=>rfl);(case hg=>rfl);(case hr=>go_simp <;> rfl);intro ae hg w8 af hb;have J:=Aside0.mk (af);have au:=gS (w:=w) hg (bB HB);have ac:=gS (w:=w) hg (bB HB);replace HB:=Aside0.mk (below_step (bB HB) hb);clear hb af hg;have aO:w8.cell? ⟨ae,0,none⟩=some (.slice Y U.length aa):=(blk_cell J.out 0).trans rfl;have aQ:w8.cell? ⟨ae,1,none⟩=some (.slice Z X.length ab):=(blk_cell J.out 1).trans rfl;have a2:=blk_frozen J.out 0;have a3:=blk_frozen J.out 1)|(refine gL 7 Try.func92 #[.agg #[.slice Y U.length aa,.slice Z X.length ab]] ?_;(with_reducible refine (impl_IsSample.calls k _ _ U _ _ X true _ ?side1 ?side2 ?side3 ?side4 A3.out).mono ?_);(case side1=>exact cB ai HB);(case side2=>exact ag.out);(case side3=>exact cB aj HB);(case side4=>exact ah.out);rintro e aC ⟨rfl,hb⟩;refine ⟨_,rfl,?_⟩;replace J:=Aside0.mk (bW J hb);replace HB:=Aside0.mk (below_step (bC HB ac) hb);(try clear hb);(try clear hi))|(go_at_call 93;(with_reducible refine (impl_isLabel.calls a1 true _ A5.out).mono ?_);rintro e w' ⟨rfl,⟨nd,rfl⟩⟩;have aI:aC.cell? ⟨ae,0,none⟩=some (.slice Y U.length aa):=(blk_cell J.out 0).trans rfl;have aJ:aC.cell? ⟨ae,1,none⟩=some (.slice Z X.length ab):=(blk_cell J.out 1).trans rfl;have aR:=blk_frozen J.out 0;have aU:=blk_frozen J.out 1)|(refine gL 16 Try.func83 #[.agg #[.slice Y U.length aa,.slice Z X.length ab],.int .i64 a1] ?_;(with_reducible refine (impl_Sample_with.calls k _ _ U _ _ X a1 aq _ ?side1 ?side2 ?side3 ?side4 A7.out).mono ?_);(case side1=>repeat (first|exact (Kd.C_below ai.out (bC HB ac))|(with_reducible refine Kd.C_alloc ?_ _)|(with_reducible refine Kd.C_drewN ?_ _)|(with_reducible refine Kd.C_drew ?_)));(case side2=>exact ag.out);(case side3=>repeat (first|exact (Kd.C_below aj.out (bC HB ac))|(with_reducible refine Kd.C_alloc ?_ _)|(with_reducible refine Kd.C_drewN ?_ _)|(with_reducible refine Kd.C_drew ?_)));(case side4=>exact ah.out);rintro e a6 ⟨a5,rfl,ax,hb⟩;refine ⟨_,rfl,?_⟩;have aH:=Aside0.mk (Kd.R_lower ax (below_size (bC HB ac)));replace J:=Aside0.mk (bW J hb);replace HB:=Aside0.mk (below_step (bC HB ac) hb);(try clear hb);(try clear ax)))
     go_ret2
     exact ⟨_,eW,by (with_reducible repeat (first|apply Kd.R_alloc|apply Kd.R_drewN|apply Kd.R_drew));exact aH.out,bC HB ac⟩
   · replace c6:=Bool.eq_false_iff.mpr c6;subst c6;replace H:=iF H;simp only[Option.some.injEq,Prod.mk.injEq] at H;obtain ⟨rfl,rfl⟩:=H;go_enter Try.func31,Try.ntmps31;go_wp2_with (first|(refine gD 2 ?_;refine box_event ?hg (N:=2) ?hd (cs:=#[.slice Y U.length aa,.slice Z X.length ab]) (t:=52) ?hr ?_;(case hd=>rfl);(case hg=>rfl);(case hr=>go_simp <;> rfl);intro ae hg aD af hb;have J:=Aside0.mk (af);have au:=gS (w:=w) hg (bB HB);have ac:=gS (w:=w) hg (bB HB);replace HB:=Aside0.mk (below_step (bB HB) hb);clear hb af hg;have aK:aD.cell? ⟨ae,0,none⟩=some (.slice Y U.length aa):=(blk_cell J.out 0).trans rfl;have aL:aD.cell? ⟨ae,1,none⟩=some (.slice Z X.length ab):=(blk_cell J.out 1).trans rfl;have aW:=blk_frozen J.out 0;have aX:=blk_frozen J.out 1)|(refine gL 7 Try.func92 #[.agg #[.slice Y U.length aa,.slice Z X.length ab]] ?_;(with_reducible refine (impl_IsSample.calls k _ _ U _ _ X true _ ?side1 ?side2 ?side3 ?side4 A3.out).mono ?_);(case side1=>exact cB ai HB);(case side2=>exact ag.out);(case side3=>exact cB aj HB);(case side4=>exact ah.out);rintro e a7 ⟨rfl,hb⟩;refine ⟨_,rfl,?_⟩;replace J:=Aside0.mk (bW J hb);replace HB:=Aside0.mk (below_step (bC HB ac) hb);(try clear hb);(try clear hi))|(go_at_call 93;(with_reducible refine (impl_isLabel.calls a1 false _ A5.out).mono ?_);rintro e w' ⟨rfl,⟨nd,rfl⟩⟩))
     go_ret2
     exact ⟨_,eW,by first|exact Kd.R_nil _ _ _ _ _|exact Kd.N_nil _ _ _ _ _|exact Kd.V_nil _ _ _ _ _|exact Kd.Q_nil _ _ _ _ _|exact Kd.S_nil _ _ _ _ _,bC HB ac⟩
 · replace c4:=Bool.eq_false_iff.mpr c4;subst c4;replace H:=iF H;simp only[Option.some.injEq,Prod.mk.injEq] at H;obtain ⟨rfl,rfl⟩:=H;go_enter Try.func31,Try.ntmps31;go_wp2_with (first|(refine gD 2 ?_;refine box_event ?hg (N:=2) ?hd (cs:=#[.slice Y U.length aa,.slice Z X.length ab]) (t:=52) ?hr ?_;(case hd=>rfl);(case hg=>rfl);(case hr=>go_simp <;> rfl);intro ae hg aE af hb;have J:=Aside0.mk (af);have au:=gS (w:=w) hg (bB HB);have ac:=gS (w:=w) hg (bB HB);replace HB:=Aside0.mk (below_step (bB HB) hb);clear hb af hg;have aM:aE.cell? ⟨ae,0,none⟩=some (.slice Y U.length aa):=(blk_cell J.out 0).trans rfl;have aN:aE.cell? ⟨ae,1,none⟩=some (.slice Z X.length ab):=(blk_cell J.out 1).trans rfl;have aY:=blk_frozen J.out 0;have aZ:=blk_frozen J.out 1)|(refine gL 7 Try.func92 #[.agg #[.slice Y U.length aa,.slice Z X.length ab]] ?_;(with_reducible refine (impl_IsSample.calls k _ _ U _ _ X false _ ?side1 ?side2 ?side3 ?side4 A3.out).mono ?_);(case side1=>exact cB ai HB);(case side2=>exact ag.out);(case side3=>exact cB aj HB);(case side4=>exact ah.out);rintro e a8 ⟨rfl,hb⟩;refine ⟨_,rfl,?_⟩;replace J:=Aside0.mk (bW J hb);replace HB:=Aside0.mk (below_step (bC HB ac) hb);(try clear hb);(try clear hi)))
   go_ret2
   exact ⟨_,eW,by first|exact Kd.R_nil _ _ _ _ _|exact Kd.N_nil _ _ _ _ _|exact Kd.V_nil _ _ _ _ _|exact Kd.Q_nil _ _ _ _ _|exact Kd.S_nil _ _ _ _ _,bC HB ac⟩
mutual
def spec_PointsWith.j0:Nat→Int→List Int→Bool→List (List Int)→List Int→Option (List Int×Bool)
 | 0,_,_,_,_,_=>none
 | k+1,x1,x6,Y,X,J=>if Y=true then (some (x6,false)) else (spec_PointsWith.l0 k x1 x6 0 X J)
def spec_PointsWith.l0:Nat→Int→List Int→Int→List (List Int)→List Int→Option (List Int×Bool)
 | 0,_,_,_,_,_=>none
 | k+1,x1,x6,U,X,J=>if U<(J.length:Int) then (if 0≤U then (if (rd J U)=x1 then (if x6.length<17592186044416 then (spec_PointsWith.l0 k x1 (x6++[U]) (wrap64 (U+1)) X J) else (none)) else (spec_PointsWith.l0 k x1 x6 (wrap64 (U+1)) X J)) else (none)) else (some (x6,true))
end
def spec_PointsWith.f (k:Nat) (J:List (List Int)) (U:List Int) (a1:Int):Option (List Int×Bool):=(some (([]:List Int):List Int)).bind fun X=>((spec_l2Sample.f k J U).bind fun Y=>(if Y=true then (if a1=1 then (spec_PointsWith.j0 k a1 X false J U) else (spec_PointsWith.j0 k a1 X (a1 != (-1)) J U)) else (spec_PointsWith.j0 k a1 X true J U)))
theorem spec_PointsWith.calls (k:Nat) (Z:Option Addr) (ab:Nat) (X:List (List Int)) (af:Option Addr) (ac:Nat) (U:List Int) (a1:Int) (r1:List Int) (r2:Bool) (w:World) (aU:Kd.C (Kd.slice 3 (Kd.int .i64)) w Z X.length X) (aQ:X.length≤ab) (aW:Kd.C (Kd.int .i64) w af U.length U) (aR:U.length≤ac) (h:spec_PointsWith.f k X U a1=some (r1,r2)) :
 Calls Try.prog 32 #[.agg #[.slice Z X.length ab,.slice af U.length ac],.int .i64 a1] w fun e w' => ∃ aY:Value,e = .returned (.tuple #[aY,.bool r2])∧Kd.R (Kd.int .i64) 3 w' w.heap.size (fun _=>True) aY r1∧Below w.heap.size w w' := by
 have bH:=Try.underlying52;have aE:=Aside0.mk aU;have az:=Aside0.mk aQ;clear aU aQ;have ap:=Aside0.mk aW;have aC:=Aside0.mk aR;clear aW aR;have HB:=Aside0.mk (Below.refl w.heap.size w);have H:((some (([]:List Int):List Int)).bind fun ag=>((spec_l2Sample.f k X U).bind fun au=>(if au=true then (if a1=1 then (spec_PointsWith.j0 k a1 ag false X U) else (spec_PointsWith.j0 k a1 ag (a1 != (-1)) X U)) else (spec_PointsWith.j0 k a1 ag true X U))))=some (r1,r2):=h;clear h;obtain ⟨ag,aI⟩:∃ y_:List Int,y_=(([]:List Int)):=⟨_,rfl⟩;replace H:((spec_l2Sample.f k X U).bind fun au=>(if au=true then (if a1=1 then (spec_PointsWith.j0 k a1 ag false X U) else (spec_PointsWith.j0 k a1 ag (a1 != (-1)) X U)) else (spec_PointsWith.j0 k a1 ag true X U)))=some (r1,r2):=yH aI H
 have aK:=Aside0.mk aI;clear aI;have aD:=Aside0.mk H;clear H;go_enter Try.func32,Try.ntmps32;go_upto_region 2 with (first|(refine gD 2 ?_;refine box_event ?hg (N:=2) ?hd (cs:=#[.slice Z X.length ab,.slice af U.length ac]) (t:=52) ?hr ?_;(case hd=>rfl);(case hg=>rfl);(case hr=>go_simp <;> rfl);intro ae hg w4 aN hb;have J:=Aside0.mk (aN);have bb:=gS (w:=w) hg (bB HB);have aa:=gS (w:=w) hg (bB HB);replace HB:=Aside0.mk (below_step (bB HB) hb);clear hb aN hg)|(refine gD 8 ?_;refine Kd.R_lit (Kd.int .i64) _ 3 ?hg (N:=8) ?hd (xs:=([]:List Int)) (inner:=[]) (ok:=fun _=>True) (okp:=fun _=>True) ?hr ?hp (fun _ hk=>hk) trivial (Below.refl _ _) (Nat.le_refl _) (by simp) ?_;(case hd=>rfl);(case hg=>rfl);(case hr=>go_simp <;> rfl);(case hp=>exact (Reps.none _ _));intro a9 w5 aq hb hg_ hnew_;clear hg_ hnew_;(first|rw[← aK.out] at aq|(simp only[Int.reduceToNat] at aq;rw[← aK.out] at aq));have ah:=Aside0.mk (Kd.R_lower aq (below_size (bC HB aa)));replace J:=Aside0.mk (bW J hb);replace HB:=Aside0.mk (below_step (bC HB aa) hb);clear hb aq))
 (try simp only[Act.put,List.setIfInBounds_toArray,List.set_cons_zero,List.set_cons_succ]);go_cut [19] (fun a7 wc=>∃ (kq:Nat) (ax:Bool),a7 = .bool ax∧Aside0 (spec_PointsWith.j0 kq a1 ag ax X U=some (r1,r2))∧Aside0 (kq≤k)∧Aside0 (Kd.R (Kd.int .i64) 3 wc w.heap.size (fun _=>True) a9 ag)∧Aside0 (wc.heap[ae]? = some (.cells #[(.slice Z X.length ab),(.slice af U.length ac)] 52 (0,0)))∧Aside0 (Below w.heap.size w wc))
 case first =>
  have H:=aD.out;clear aD;obtain ⟨au,A7,H⟩:=bS H;by_cases c8:au=true
  · subst c8;replace H:=iT H;by_cases c9:a1=1
    · replace H:=iP c9 H;have c9b0:=qT c9;have aG:=nF c9;clear c9;(first|rw[c9b0]|(simp only[i64_w,i32_w];rw[c9b0])|rw[aG]|skip);have H' := Aside0.mk H;clear H;have bc:w5.cell? ⟨ae,0,none⟩=some (.slice Z X.length ab):=(blk_cell J.out 0).trans rfl;have bd:w5.cell? ⟨ae,1,none⟩=some (.slice af U.length ac):=(blk_cell J.out 1).trans rfl;have bp:=blk_frozen J.out 0;have bq:=blk_frozen J.out 1;go_wp2_with (first|(refine gL 10 Try.func94 #[.agg #[.slice Z X.length ab,.slice af U.length ac]] ?_;(with_reducible refine (spec_l2Sample.calls k _ _ X _ _ U true _ ?side1 ?side2 ?side3 ?side4 A7.out).mono ?_);(case side1=>exact cB aE HB);(case side2=>exact az.out);(case side3=>exact cB ap HB);(case side4=>exact aC.out);rintro e bJ ⟨rfl,hb⟩;refine ⟨_,rfl,?_⟩;replace ah:=Aside0.mk (Kd.R_below (pR ah) hb);replace J:=Aside0.mk (bW J hb);replace HB:=Aside0.mk (below_step (bC HB aa) hb);(try clear hb);(try clear hi)))
      go_meet
      case rel=>exact ⟨_,(false),rD,H',⟨by first|omega|exact Nat.le_refl _⟩,⟨pR ah⟩,⟨pB J⟩,⟨bC HB aa⟩⟩
    · replace H:=iN c9 H;have c9b0:=qF c9;have aG:=nT c9;(first|rw[c9b0]|(simp only[i64_w,i32_w];rw[c9b0])|rw[aG]|skip);have H' := Aside0.mk H;clear H;have bf:w5.cell? ⟨ae,0,none⟩=some (.slice Z X.length ab):=(blk_cell J.out 0).trans rfl;have bg:w5.cell? ⟨ae,1,none⟩=some (.slice af U.length ac):=(blk_cell J.out 1).trans rfl;have br:=blk_frozen J.out 0;have bs:=blk_frozen J.out 1;go_wp2_with (first|(refine gL 10 Try.func94 #[.agg #[.slice Z X.length ab,.slice af U.length ac]] ?_;(with_reducible refine (spec_l2Sample.calls k _ _ X _ _ U true _ ?side1 ?side2 ?side3 ?side4 A7.out).mono ?_);(case side1=>exact cB aE HB);(case side2=>exact az.out);(case side3=>exact cB ap HB);(case side4=>exact aC.out);rintro e bK ⟨rfl,hb⟩;refine ⟨_,rfl,?_⟩;replace ah:=Aside0.mk (Kd.R_below (pR ah) hb);replace J:=Aside0.mk (bW J hb);replace HB:=Aside0.mk (below_step (bC HB aa) hb);(try clear hb);(try clear hi)))
      go_meet
      case rel=>exact ⟨_,((a1 != (-1))),rD,H',⟨by first|omega|exact Nat.le_refl _⟩,⟨pR ah⟩,⟨pB J⟩,⟨bC HB aa⟩⟩
  · replace c8:=Bool.eq_false_iff.mpr c8;subst c8;replace H:=iF H;have H' := Aside0.mk H;clear H;have bh:w5.cell? ⟨ae,0,none⟩=some (.slice Z X.length ab):=(blk_cell J.out 0).trans rfl;have bi:w5.cell? ⟨ae,1,none⟩=some (.slice af U.length ac):=(blk_cell J.out 1).trans rfl;have bu:=blk_frozen J.out 0;have bv:=blk_frozen J.out 1;go_wp2_with (first|(refine gL 10 Try.func94 #[.agg #[.slice Z X.length ab,.slice af U.length ac]] ?_;(with_reducible refine (spec_l2Sample.calls k _ _ X _ _ U false _ ?side1 ?side2 ?side3 ?side4 A7.out).mono ?_);(case side1=>exact cB aE HB);(case side2=>exact az.out);(case side3=>exact cB ap HB);(case side4=>exact aC.out);rintro e bL ⟨rfl,hb⟩;refine ⟨_,rfl,?_⟩;replace ah:=Aside0.mk (Kd.R_below (pR ah) hb);replace J:=Aside0.mk (bW J hb);replace HB:=Aside0.mk (below_step (bC HB aa) hb);(try clear hb);(try clear hi)))
    go_meet
    case rel=>exact ⟨_,(true),rD,H',⟨by first|omega|exact Nat.le_refl _⟩,⟨pR ah⟩,⟨pB J⟩,⟨bC HB aa⟩⟩
 case rest =>
  clear aD;obtain ⟨kq,ax,rfl,HA,av,HO_6,J,HB⟩:=hcut;cases kq with
  | zero=>exact absurd HA.out (by simp[spec_PointsWith.j0])
  | succ aX =>
   have H:=HA.out;clear HA;simp only[spec_PointsWith.j0] at H;by_cases c16:ax=true
   · subst c16;replace H:=iT H;simp only[Option.some.injEq,Prod.mk.injEq] at H;obtain ⟨rfl,rfl⟩:=H;go_wp2;go_ret2
     exact ⟨_,eW,by (with_reducible repeat (first|apply Kd.R_alloc|apply Kd.R_drewN|apply Kd.R_drew));exact HO_6.out,bC HB aa⟩
   · replace c16:=Bool.eq_false_iff.mpr c16;subst c16;replace H:=iF H;have H' := Aside0.mk H;clear H;go_wp2;go_loopg [6,7] aX (fun kq v6 v7 w' => ∃ (x6_2:List Int) (Y:Int),v7 = .int .i64 Y∧Aside0 (spec_PointsWith.l0 kq a1 x6_2 Y X U=some (r1,r2))∧Aside0 (kq≤aX)∧Aside0 (Kd.R (Kd.int .i64) 3 w' w.heap.size (fun _=>True) v6 x6_2)∧Aside0 (w'.heap[ae]? = some (.cells #[(.slice Z X.length ab),(.slice af U.length ac)] 52 (0,0)))∧Aside0 (Below w.heap.size w w'))
     case atStart=>exact ⟨(ag),(0),rD,H',⟨Nat.le_refl _⟩,⟨pR HO_6⟩,⟨pB J⟩,⟨bC HB aa⟩⟩
     case round =>
      clear H';try clear c1
      try clear c16
      obtain ⟨x6_2,Y,rfl,HA,HK2,HO_6,J,HB⟩:=hrel;cases gk with
      | zero=>exact absurd HA.out (by simp[spec_PointsWith.l0])
      | succ k2 =>
       have H:=HA.out;clear HA;simp only[spec_PointsWith.l0] at H;by_cases c17:Y<(U.length:Int)
       · replace H:=iP c17 H;have c17b0:=decide_eq_true c17;clear c17;by_cases c18:0≤Y
         · replace H:=iP c18 H;have c18b0:=decide_eq_true c18;clear c18;by_cases ai:(rd U Y)=a1
           · replace H:=iP ai H;have a5:=qT ai;have a6:=nF ai;clear ai;by_cases aw:x6_2.length<17592186044416
             · replace H:=iP aw H;have a3:=Aside0.mk aw;clear aw;obtain ⟨aZ,aJ⟩:∃ y_:List Int,y_=(x6_2++[Y]):=⟨_,rfl⟩;replace H:(spec_PointsWith.l0 k2 a1 aZ (wrap64 (Y+1)) X U)=some (r1,r2):=yH aJ H
               have a4:=Aside0.mk aJ;clear aJ;have H' := Aside0.mk H;clear H;have bj:wr.cell? ⟨ae,0,none⟩=some (.slice Z X.length ab):=(blk_cell J.out 0).trans rfl;have bk:wr.cell? ⟨ae,1,none⟩=some (.slice af U.length ac):=(blk_cell J.out 1).trans rfl;have bw:=blk_frozen J.out 0;have bx:=blk_frozen J.out 1;have aj:0≤(Y:Int):=of_decide_eq_true aS;have ak:Y<(U.length:Int):=of_decide_eq_true aS;obtain ⟨aM,aH,ar⟩:=Kd.at_int ap.out Y aj ak;cases aH
               replace ar:=hC HB ar;replace aj:=eq_true aj;replace ak:=eq_true ak;go_wp2_with (first|((with_reducible refine gate_builtin (b := .append) (xs:=#[.tmp 35,.tmp 37]) rfl ?_);at_builtin;refine Kd.R_append (Kd.int .i64) (w0:=w) w.heap.size rfl (.tmp 35) (.tmp 37) 24 3 (.int .i64 0) 8 rfl Try.underlying24 info3 rfl (by decide) (by omega) u6 x6_2 Y [.int .i64 Y] (fun _=>True) (fun _=>False) rfl rfl ?aP (fun _ hk=>hk.elim) ?aF ?aO ?aB ?aS ?aL ?_;(case aP=>exact rfl);(case aB=>exact (bC HB aa));(case aF=>exact (fun _ _=>trivial));(case aO=>exact (pR HO_6));(case aS=>exact (below_size (bC HB aa)));(case aL=>have:=a3.out;omega);intro bI bM ho hb hg hat;rw[← a4.out] at ho;have a2:=Aside0.mk (ho);replace J:=Aside0.mk (blk_grown (g:=ae) (o := .cells #[.slice Z X.length ab,.slice (some aM) U.length ac] 52 (0,0)) (pB J) hg (Kd.R_ne HO_6.out J.out (by decide)));replace HB:=Aside0.mk (hb);clear HO_6;clear ho hb hg hat))
               go_roundg k2
               case measure=>have:=av.out;have:=HK2.out;omega
               case rel=>exact ⟨(aZ),(wrap64 (Y+1)),rD,H',⟨by have:=av.out;have:=HK2.out;omega⟩,⟨pR a2⟩,⟨pB J⟩,⟨bC HB aa⟩⟩
             · replace H:=iN aw H;cases H
           · replace H:=iN ai H;have a5:=qF ai;have a6:=nT ai;have H' := Aside0.mk H;clear H;have bl:wr.cell? ⟨ae,0,none⟩=some (.slice Z X.length ab):=(blk_cell J.out 0).trans rfl;have bm:wr.cell? ⟨ae,1,none⟩=some (.slice af U.length ac):=(blk_cell J.out 1).trans rfl;have bz:=blk_frozen J.out 0;have bA:=blk_frozen J.out 1;have aj:0≤(Y:Int):=of_decide_eq_true aS;have ak:Y<(U.length:Int):=of_decide_eq_true aS;obtain ⟨aM,aH,ar⟩:=Kd.at_int ap.out Y aj ak;cases aH
             replace ar:=hC HB ar;replace aj:=eq_true aj;replace ak:=eq_true ak;go_wp2;go_roundg k2
             case measure=>have:=av.out;have:=HK2.out;omega
             case rel=>exact ⟨(x6_2),(wrap64 (Y+1)),rD,H',⟨by have:=av.out;have:=HK2.out;omega⟩,⟨pR HO_6⟩,⟨pB J⟩,⟨bC HB aa⟩⟩
         · replace H:=iN c18 H;cases H
       · replace H:=iN c17 H;have c17b0:=decide_eq_false c17;clear c17;simp only[Option.some.injEq,Prod.mk.injEq] at H;obtain ⟨rfl,rfl⟩:=H;have bn:wr.cell? ⟨ae,0,none⟩=some (.slice Z X.length ab):=(blk_cell J.out 0).trans rfl;have bo:wr.cell? ⟨ae,1,none⟩=some (.slice af U.length ac):=(blk_cell J.out 1).trans rfl;have bF:=blk_frozen J.out 0;have bG:=blk_frozen J.out 1;go_wp2;go_ret2
         exact ⟨_,eW,by (with_reducible repeat (first|apply Kd.R_alloc|apply Kd.R_drewN|apply Kd.R_drew));exact HO_6.out,bC HB aa⟩
def laws_rDot.l0:Nat→List Int→List Int→Int→Int→Option (Int)
 | 0,_,_,_,_=>none
 | k+1,x0,x1,J,x6=>if x6<(x0.length:Int) then (if x6<(x1.length:Int) then (if 0≤x6 then (laws_rDot.l0 k x0 x1 (wrap64 (J+(wrap64 ((rd x0 x6)*(rd x1 x6))))) (wrap64 (x6+1))) else (none)) else (some J)) else (some J)
def laws_rDot.f (k:Nat) (l0:List Int) (l1:List Int):Option (Int):=laws_rDot.l0 k l0 l1 0 0
theorem laws_rDot.calls (k:Nat) (A0:Option Addr) (c0:Nat) (l0:List Int) (A1:Option Addr) (c1:Nat) (l1:List Int) (r:Int) (w:World) (ac:Kd.C (Kd.int .i64) w A0 l0.length l0) (hc0:l0.length≤c0) (hr1:Kd.C (Kd.int .i64) w A1 l1.length l1) (ab:l1.length≤c1) (h:laws_rDot.f k l0 l1=some r) :
 Calls Try.prog 33 #[.slice A0 l0.length c0,.slice A1 l1.length c1] w fun e w' => e = .returned (.int .i64 r)∧Drawn0 w w' := by
 have ae:=Aside0.mk ac;have al:=Aside0.mk hc0;clear ac hc0;have af:=Aside0.mk hr1;have am:=Aside0.mk ab;clear hr1 ab;have H:(laws_rDot.l0 k l0 l1 0 0)=some r:=h;clear h;have H' := Aside0.mk H;clear H;go_enter Try.func33,Try.ntmps33;go_wp2;repeat (go_quiet (fail);try go_wp2)
 go_loopg [5,6] k (fun kq v5 v6 w' => ∃ (J:Int) (x6_1:Int),v5 = .int .i64 J∧v6 = .int .i64 x6_1∧Aside0 (laws_rDot.l0 kq l0 l1 J x6_1=some r)∧Aside0 (kq≤k)∧Drawn0 w w')
 case atStart=>exact ⟨(0),(0),rD,rD,H',⟨Nat.le_refl _⟩,dR⟩
 case round =>
  clear H';try clear c1
  obtain ⟨J,x6_1,rfl,rfl,HA,HK1,⟨m1,rfl⟩⟩:=hrel;cases gk with
  | zero=>exact absurd HA.out (by simp[laws_rDot.l0])
  | succ k1 =>
   have H:=HA.out;clear HA;simp only[laws_rDot.l0] at H;by_cases c3:x6_1<(l0.length:Int)
   · replace H:=iP c3 H;have ag:=decide_eq_true c3;clear c3;by_cases c4:x6_1<(l1.length:Int)
     · replace H:=iP c4 H;have c4b0:=decide_eq_true c4;clear c4;by_cases c5:0≤x6_1
       · replace H:=iP c5 H;have c5b0:=decide_eq_true c5;clear c5;have H' := Aside0.mk H;clear H;have U:0≤(x6_1:Int):=of_decide_eq_true aS;have Y:x6_1<(l0.length:Int):=of_decide_eq_true aS;obtain ⟨ao,ah,aq⟩:=Kd.at_int ae.out x6_1 U Y;cases ah
         replace U:=eq_true U;replace Y:=eq_true Y;have X:0≤(x6_1:Int):=of_decide_eq_true aS;have Z:x6_1<(l1.length:Int):=of_decide_eq_true aS;obtain ⟨ap,ai,ar⟩:=Kd.at_int af.out x6_1 X Z;cases ai
         replace X:=eq_true X;replace Z:=eq_true Z;go_wp2;repeat (go_quiet (fail);try go_wp2)
         go_roundg k1
         case measure=>exact kM HK1
         case rel=>exact ⟨(wrap64 (J+(wrap64 ((rd l0 x6_1)*(rd l1 x6_1))))),(wrap64 (x6_1+1)),rD,rD,H',⟨kM HK1⟩,dR⟩
       · replace H:=iN c5 H;cases H
     · replace H:=iN c4 H;have c4b0:=decide_eq_false c4;clear c4;obtain rfl:=Option.some.inj H;go_wp2;repeat (go_quiet (fail);try go_wp2)
       go_ret
       exact ⟨rD,dR⟩
   · replace H:=iN c3 H;have ag:=decide_eq_false c3;clear c3;obtain rfl:=Option.some.inj H;go_wp2;repeat (go_quiet (fail);try go_wp2)
     go_ret
     exact ⟨rD,dR⟩
end Go.Proofs.Ytkbahcbankfffaa.PFnPlanesOfPairs
