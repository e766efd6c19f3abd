import Derived.Test.YtkbahcbankfffaaPFnPlanesOfPairsx0
import Derived.Test.YtkbahcbankfffaaPFnPlanesOfPairsx4
import Derived.Test.YtkbahcbankfffaaPFnPlanesOfPairsx12
import Derived.Test.YtkbahcbankfffaaPFnPlanesOfPairsx13
import Derived.Test.YtkbahcbankfffaaSh
import Derived.Test.YtkbahcbankfffaaSz
namespace Go.Proofs.Ytkbahcbankfffaa.PFnPlanesOfPairs
open Go.RowKit Go.Proofs.Ytkbahcbankfffaa.Sh Go.Proofs.YtkbahcbankfffaaW.PrintWords Go.Proofs.YtkbahcbankfffaaW.PrintLast Go.Proofs.YtkbahcbankfffaaW.PrintMore
attribute [local go_sem] max2_int min2_int max_two min_two max_three min_three max_four min_four
set_option linter.unusedVariables false
set_option maxHeartbeats 8000000
set_option maxRecDepth 100000
set_option linter.unusedSimpArgs false
def spec_MeanPlane.l0:Nat→List Int→List Int→Int→Int→List Int→Int→Option (List Int×Int×Bool)
 | 0,_,_,_,_,_,_=>none
 | k+1,x6,U,x8,X,Y,J=>if J<(x6.length:Int) then (if 0≤J then (if J<(U.length:Int) then (if Y.length<17592186044416 then (spec_MeanPlane.l0 k x6 U x8 X (Y++[wrap64 ((wrap64 ((wrap64 (2*x8))*X))*(wrap64 ((wrap64 (X*(rd x6 J)))-(wrap64 (x8*(rd U J))))))]) (wrap64 (J+1))) else (none)) else (none)) else (none)) else (if 1≤(x6.length:Int) then ((spec_l2Dot.f k (x6.drop 1) (x6.drop 1)).bind fun Z=>(if 1≤(U.length:Int) then ((spec_l2Dot.f k (U.drop 1) (U.drop 1)).bind fun aa=>(some (Y,wrap64 ((wrap64 ((wrap64 (X*X))*Z))-(wrap64 ((wrap64 (x8*x8))*aa))),true))) else (none))) else (none))
def spec_MeanPlane.f (k:Nat) (J:List (List Int)) (U:List Int):Option (List Int×Int×Bool):=(spec_l4Mixed.f k J U).bind fun aa=>(if aa=true then ((spec_l8Ones.f k J U).bind fun Z=>((spec_l4Sums.f k J U Z 1).bind fun X=>((spec_l4Sums.f k J U Z (-1)).bind fun Y=>(if 0<(X.length:Int) then (if 0<(Y.length:Int) then (spec_MeanPlane.l0 k X Y (rd X 0) (rd Y 0) (([]:List Int)) 1) else (none)) else (none))))) else (some ((([]:List Int)),0,false)))
def spec_MeanPlane.T4:Bool×List (List Nat×List Nat):=(true,[([],[]),([],[]),([0,1],[0,1]),([],[]),([],[]),([3,4,2],[3,4]),([2,5,0,1,2],[2]),([5,6,0,1,2,3,4,5,6],[5])])
def spec_MeanPlane.B4:List Nat:=[0,0,3,0,0,31,63,127]
theorem spec_MeanPlane.tab4:rtab .any (opsOf Try.f27 4)=spec_MeanPlane.T4:=by kernel_rfl
theorem spec_MeanPlane.bits4:waitsOk spec_MeanPlane.T4.2 spec_MeanPlane.B4=true:=by kernel_rfl
def spec_MeanPlane.T5:Bool×List (List Nat×List Nat):=(true,[([],[]),([0],[0]),([1],[1]),([],[]),([3],[3]),([4],[4]),([],[]),([2,0,1,2],[2]),([5,7,0,1,2,3,4,5,7],[5]),([6,8,0,1,2,3,4,5,6,7,8],[6])])
def spec_MeanPlane.B5:List Nat:=[0,1,3,0,8,24,0,7,191,511]
theorem spec_MeanPlane.tab5:rtab .any (opsOf Try.f27 5)=spec_MeanPlane.T5:=by kernel_rfl
theorem spec_MeanPlane.bits5:waitsOk spec_MeanPlane.T5.2 spec_MeanPlane.B5=true:=by kernel_rfl
def spec_MeanPlane.T9:Bool×List (List Nat×List Nat):=(true,[([],[]),([],[]),([1],[1]),([],[]),([2,3],[2,3]),([],[]),([],[]),([],[]),([6,7],[6,7]),([8],[8]),([5,9],[5,9]),([],[]),([],[]),([],[]),([12,13],[12,13]),([14],[14]),([11,15],[11,15]),([10,16],[10,16]),([4,17],[4,17]),([18],[18]),([0,19],[0,19]),([20,20,0,1,2,3,4,5,6,7,8,9,10,11,12,13,14,15,16,17,18,19,20],[0,20])])
def spec_MeanPlane.B9:List Nat:=[0,0,2,0,14,0,0,0,192,448,992,0,0,0,12288,28672,63488,131040,262142,524286,1048575,2097151]
theorem spec_MeanPlane.tab9:rtab .any (opsOf Try.f27 9)=spec_MeanPlane.T9:=by kernel_rfl
theorem spec_MeanPlane.bits9:waitsOk spec_MeanPlane.T9.2 spec_MeanPlane.B9=true:=by kernel_rfl
def spec_MeanPlane.T10:Bool×List (List Nat×List Nat):=(true,[([],[]),([],[]),([],[]),([1,2],[1,2]),([],[]),([4],[4]),([],[]),([6],[6]),([5,7],[5,7]),([3,8],[3,8]),([],[]),([],[]),([10,11],[10,11]),([],[]),([13],[13]),([],[]),([15],[15]),([14,16,8],[14,16]),([12,17],[12,17]),([9,18],[9,18]),([0,17,0],[0]),([19,20,0,1,2,3,4,5,6,7,8,9,10,11,12,13,14,15,16,17,18,19,20],[19]),([21,0,1,2,3,4,5,6,7,8,9,10,11,12,13,14,15,16,17,18,19,20,21],[])])
def spec_MeanPlane.B10:List Nat:=[0,0,0,6,0,16,0,64,240,510,0,0,3072,0,8192,0,32768,123376,261616,524286,254449,2097151,4194303]
theorem spec_MeanPlane.tab10:rtab .any (opsOf Try.f27 10)=spec_MeanPlane.T10:=by kernel_rfl
theorem spec_MeanPlane.bits10:waitsOk spec_MeanPlane.T10.2 spec_MeanPlane.B10=true:=by kernel_rfl
theorem spec_MeanPlane.calls (k:Nat) (aj:Option Addr) (am:Nat) (Z:List (List Int)) (ak:Option Addr) (ao:Nat) (aa:List Int) (r1:List Int) (r2:Int) (r3:Bool) (w:World) (cJ:Kd.C (Kd.slice 3 (Kd.int .i64)) w aj Z.length Z) (cx:Z.length≤am) (cK:Kd.C (Kd.int .i64) w ak aa.length aa) (cy:aa.length≤ao) (h:spec_MeanPlane.f k Z aa=some (r1,r2,r3)) :
 Calls Try.prog 27 #[.agg #[.slice aj Z.length am,.slice ak aa.length ao]] w fun e w' => ∃ cU:Value,e = .returned (.tuple #[cU,.int .i64 r2,.bool r3])∧Kd.R (Kd.int .i64) 3 w' w.heap.size (fun _=>True) cU r1∧Below w.heap.size w w' := by
 have eo:=Try.underlying52;have aW:=Aside0.mk cJ;have aR:=Aside0.mk cx;clear cJ cx;have aX:=Aside0.mk cK;have aU:=Aside0.mk cy;clear cK cy;have HB:=Aside0.mk (Below.refl w.heap.size w);have H:((spec_l4Mixed.f k Z aa).bind fun cf=>(if cf=true then ((spec_l8Ones.f k Z aa).bind fun aM=>((spec_l4Sums.f k Z aa aM 1).bind fun X=>((spec_l4Sums.f k Z aa aM (-1)).bind fun U=>(if 0<(X.length:Int) then (if 0<(U.length:Int) then (spec_MeanPlane.l0 k X U (rd X 0) (rd U 0) (([]:List Int)) 1) else (none)) else (none))))) else (some ((([]:List Int)),0,false))))=some (r1,r2,r3):=h;clear h;obtain ⟨cf,A2,H⟩:=bS H;by_cases c3:cf=true
 · subst c3;replace H:=iT H;obtain ⟨aM,A4,H⟩:=bS H;obtain ⟨X,A5,H⟩:=bS H;obtain ⟨U,A6,H⟩:=bS H;by_cases c7:0<(X.length:Int)
   · replace H:=iP c7 H;have dw:=decide_eq_true c7;have dx:decide (0<X.length)=true:=decide_eq_true (by omega);clear c7;by_cases c8:0<(U.length:Int)
     · replace H:=iP c8 H;have dy:=decide_eq_true c8;have dz:decide (0<U.length)=true:=decide_eq_true (by omega);clear c8;obtain ⟨cX,bV⟩:∃ y_:List Int,y_=(([]:List Int)):=⟨_,rfl⟩;replace H:(spec_MeanPlane.l0 k X U (rd X 0) (rd U 0) cX 1)=some (r1,r2,r3):=yH bV H
       have ck:=Aside0.mk bV;clear bV;have H' := Aside0.mk H;clear H;go_enter Try.func27,Try.ntmps27;try go_wp2_with (first|(refine gD 1 ?_;refine box_event ?hg (N:=1) ?hd (cs:=#[.slice aj Z.length am,.slice ak aa.length ao]) (t:=52) ?hr ?_;(case hd=>rfl);(case hg=>rfl);(case hr=>go_simp <;> rfl);intro ar hg w9 a4 hb;have Y:=Aside0.mk (a4);have de:=gS (w:=w) hg (bB HB);have af:=gS (w:=w) hg (bB HB);replace HB:=Aside0.mk (below_step (bB HB) hb);clear hb a4 hg;have dE:w9.cell? ⟨ar,0,none⟩=some (.slice aj Z.length am):=(blk_cell Y.out 0).trans rfl;have dF:w9.cell? ⟨ar,1,none⟩=some (.slice ak aa.length ao):=(blk_cell Y.out 1).trans rfl;have dI:=blk_frozen Y.out 0;have dJ:=blk_frozen Y.out 1)|(refine gL 13 Try.func84 #[.agg #[.slice aj Z.length am,.slice ak aa.length ao]] ?_;(with_reducible refine (spec_l4Mixed.calls k _ _ Z _ _ aa true _ ?side1 ?side2 ?side3 ?side4 A2.out).mono ?_);(case side1=>exact cB aW HB);(case side2=>exact aR.out);(case side3=>exact cB aX HB);(case side4=>exact aU.out);rintro e cV ⟨rfl,hb⟩;refine ⟨_,rfl,?_⟩;replace Y:=Aside0.mk (bW Y hb);replace HB:=Aside0.mk (below_step (bC HB af) hb);(try clear hb);have dG:cV.cell? ⟨ar,0,none⟩=some (.slice aj Z.length am):=(blk_cell Y.out 0).trans rfl;have dH:cV.cell? ⟨ar,1,none⟩=some (.slice ak aa.length ao):=(blk_cell Y.out 1).trans rfl;have dK:=blk_frozen Y.out 0;have dL:=blk_frozen Y.out 1)|(refine gL 17 Try.func85 #[.agg #[.slice aj Z.length am,.slice ak aa.length ao]] ?_;(with_reducible refine (spec_l8Ones.calls k _ _ Z _ _ aa aM _ ?side1 ?side2 ?side3 ?side4 A4.out).mono ?_);(case side1=>exact cB aW HB);(case side2=>exact aR.out);(case side3=>exact cB aX HB);(case side4=>exact aU.out);rintro e dN ⟨ex,rfl,au,hb⟩;refine ⟨_,rfl,?_⟩;have ae:=Aside0.mk (Kd.R_lower au (below_size (bC HB af)));replace Y:=Aside0.mk (bW Y hb);replace HB:=Aside0.mk (below_step (bC HB af) hb);(try clear hb);(try clear au)))
       replace ae:=Aside0.mk (Kd.R_drew ae.out);replace Y:=Aside0.mk (blk_drew Y.out);replace HB:=Aside0.mk (below_drew1 HB.out);obtain ⟨ci,cp,cq⟩:=Kd.R_slice ae.out;(first|subst cq|(injection cq with f1_ f2_ f3_;have a2:=f1_.symm;have a3:=f3_.symm;clear f1_ f2_ f3_;subst a2;subst a3));refine start_ (n:=8) (S:=fun w' => w'.cell? ⟨ar,0,none⟩=some (.slice aj Z.length am)∧w'.cell? ⟨ar,1,none⟩=some (.slice ak aa.length ao)) (ds:=[]) #[false,false,false,false,false,false,false,false] (by kernel_rfl) rfl rfl ⟨(blk_cell Y.out 0).trans rfl,(blk_cell Y.out 1).trans rfl⟩ (fun ac => ?_);refine with_tabW spec_MeanPlane.tab4 spec_MeanPlane.bits4 (fun J aG => ?_);generalize dN.drew=w14 at ae Y HB ac ⊢;refine pure_ (i:=1) (N:=some 19) (v := ?_) (a' := ?_) #[false,true,false,false,false,false,false,false] rfl rfl (any_of J.out (by kernel_rfl)) (fun _ _ _ h=>h) (Or.inl ⟨by rfl,?_⟩) ?_ ?_;rotate_left
       · intro w';go_simp;with_reducible rfl
       rotate_left
       · exact aP
       refine pure_ (i:=4) (N:=some 22) (v := ?_) (a' := ?_) #[false,true,false,false,true,false,false,false] rfl rfl (any_of J.out (by kernel_rfl)) (fun _ _ _ h=>h) (Or.inl ⟨by rfl,?_⟩) ?_ ?_;rotate_left
       · intro w';go_simp;with_reducible rfl
       rotate_left
       · exact aP
       refine take_ (i:=0) (N:=some 18) (v := ?_) (a' := ?_) #[true,true,false,false,true,false,false,false] rfl rfl (take_ofW J.out aG.out (by kernel_rfl)) (fun _ _ _ h=>h) (Or.inl ⟨by rfl,?_⟩) ac ?_ ?_;rotate_left
       · rintro w' ⟨s0,s1⟩;go_simp;with_reducible rfl
       rotate_left
       · exact aP
       refine take_ (i:=3) (N:=some 21) (v := ?_) (a' := ?_) #[true,true,false,true,true,false,false,false] rfl rfl (take_ofW J.out aG.out (by kernel_rfl)) (fun _ _ _ h=>h) (Or.inl ⟨by rfl,?_⟩) ac ?_ ?_;rotate_left
       · rintro w' ⟨s0,s1⟩;go_simp;with_reducible rfl
       rotate_left
       · exact aP
       refine one_ (i:=2) (N:=some 20) #[true,true,true,true,true,false,false,false] rfl rfl (one_of J.out (by kernel_rfl)) (by decide) (fun K hK => ?_);refine goes_ Try.func86 (by kernel_rfl) rfl #[.agg #[.slice aj Z.length am,.slice ak aa.length ao],.slice ci aM.length cp,.int .i64 1] (by rfl) rfl rfl aT ?_;with_reducible refine (spec_l4Sums.calls k _ _ Z _ _ aa _ _ aM 1 X _ ?side1 ?side2 ?side3 ?side4 ?side5 ?side6 A5.out).mono ?_
       (case side1=>exact cB aW HB);(case side2=>exact aR.out);(case side3=>exact cB aX HB);(case side4=>exact aU.out);(case side5=>exact cR ae);(case side6=>exact (Kd.R_reads' ae.out).2.1);rintro e eC ⟨ey,rfl,au,hb⟩;refine ⟨_,rfl,?_⟩;have aq:=Aside0.mk (Kd.R_lower (Kd.R_new' au (Kd.R_lt (pR ae))) (below_size (bC HB af)));replace ae:=Aside0.mk (Kd.R_elder' (pR ae) (Kd.R_base au) hb);replace Y:=Aside0.mk (bW Y hb);replace HB:=Aside0.mk (below_step (bC HB af) hb);(try clear hb);(try clear au);refine hK.out _ _ ⟨(blk_cell Y.out 0).trans rfl,(blk_cell Y.out 1).trans rfl⟩ (fun ac => ?_);clear hK K;refine norm_ (a' := ?_) ?_ ?_;rotate_left
       · show Act.put _ (some 20) _=_
         simp only[Act.put,List.setIfInBounds_toArray,List.set_cons_zero,List.set_cons_succ,i64_w,i32_w];rfl
       refine one_ (i:=5) (N:=some 23) #[true,true,true,true,true,true,false,false] rfl rfl (one_of J.out (by kernel_rfl)) (by decide) (fun K hK => ?_);refine goes_ Try.func86 (by kernel_rfl) rfl #[.agg #[.slice aj Z.length am,.slice ak aa.length ao],.slice ci aM.length cp,.int .i64 (-1)] (by rfl) rfl rfl aT ?_;with_reducible refine (spec_l4Sums.calls k _ _ Z _ _ aa _ _ aM (-1) U _ ?side1 ?side2 ?side3 ?side4 ?side5 ?side6 A6.out).mono ?_
       (case side1=>exact cB aW HB);(case side2=>exact aR.out);(case side3=>exact cB aX HB);(case side4=>exact aU.out);(case side5=>exact cR ae);(case side6=>exact (Kd.R_reads' ae.out).2.1);rintro e dO ⟨ez,rfl,au,hb⟩;refine ⟨_,rfl,?_⟩;have aE:=Aside0.mk (Kd.R_lower (Kd.R_new' (Kd.R_new' au (Kd.R_lt (pR ae))) (Kd.R_lt (pR aq))) (below_size (bC HB af)));replace ae:=Aside0.mk (Kd.R_elder' (pR ae) (Kd.R_base au) hb);replace aq:=Aside0.mk (Kd.R_elder' (pR aq) (Kd.R_base au) hb);replace Y:=Aside0.mk (bW Y hb);replace HB:=Aside0.mk (below_step (bC HB af) hb);(try clear hb);(try clear au);refine hK.out _ _ ⟨(blk_cell Y.out 0).trans rfl,(blk_cell Y.out 1).trans rfl⟩ (fun ac => ?_);clear hK K;refine norm_ (a' := ?_) ?_ ?_;rotate_left
       · show Act.put _ (some 23) _=_
         simp only[Act.put,List.setIfInBounds_toArray,List.set_cons_zero,List.set_cons_succ,i64_w,i32_w];rfl
       refine pure_ (i:=6) (N:=some 6) (v := ?_) (a' := ?_) #[true,true,true,true,true,true,true,false] rfl rfl (any_of J.out (by kernel_rfl)) (fun _ _ _ h=>h) (Or.inl ⟨by rfl,?_⟩) ?_ ?_;rotate_left
       · intro w';go_simp;with_reducible rfl
       rotate_left
       · exact aP
       refine pure_ (i:=7) (N:=some 7) (v := ?_) (a' := ?_) #[true,true,true,true,true,true,true,true] rfl rfl (any_of J.out (by kernel_rfl)) (fun _ _ _ h=>h) (Or.inl ⟨by rfl,?_⟩) ?_ ?_;rotate_left
       · intro w';go_simp;with_reducible rfl
       rotate_left
       · exact aP
       refine done_ (done_of J.out (by kernel_rfl)) ?_;try go_wp2
       replace ae:=Aside0.mk (Kd.R_drew ae.out);replace aq:=Aside0.mk (Kd.R_drew aq.out);replace aE:=Aside0.mk (Kd.R_drew aE.out);replace Y:=Aside0.mk (blk_drew Y.out);replace HB:=Aside0.mk (below_drew1 HB.out);obtain ⟨dQ,co19,eo19⟩:=Kd.R_slice aq.out;(first|subst eo19|(injection eo19 with f1_ f2_ f3_;have a2:=f1_.symm;have a3:=f3_.symm;clear f1_ f2_ f3_;subst a2;subst a3));have bp:0≤(0:Int):=(by omega);have br:0<(X.length:Int):=of_decide_eq_true aS;obtain ⟨ah,dA,ba⟩:=Kd.at_int (Kd.R_reads' aq.out).2.2 0 bp br;cases dA
       have eu:(0<X.length)=True:=eq_true (by omega);(try rw[show ((0:Int)).toNat=0 from rfl] at ba);(try rw[Addr.add_zero'] at ba);replace bp:=eq_true bp;replace br:=eq_true br;obtain ⟨dS,ap,cr⟩:=Kd.R_slice aE.out;(first|subst cr|(injection cr with f1_ f2_ f3_;have a2:=f1_.symm;have a3:=f3_.symm;clear f1_ f2_ f3_;subst a2;subst a3));have bq:0≤(0:Int):=(by omega);have bs:0<(U.length:Int):=of_decide_eq_true aS;obtain ⟨ai,dB,bb⟩:=Kd.at_int (Kd.R_reads' aE.out).2.2 0 bq bs;cases dB
       have ev:(0<U.length)=True:=eq_true (by omega);(try rw[show ((0:Int)).toNat=0 from rfl] at bb);(try rw[Addr.add_zero'] at bb);replace bq:=eq_true bq;replace bs:=eq_true bs;refine start_ (n:=10) (S:=fun w' => w'.cell? ah=some (.int .i64 (rd X 0))∧w'.cell? ai=some (.int .i64 (rd U 0))) (ds:=[]) #[false,false,false,false,false,false,false,false,false,false] (by kernel_rfl) rfl rfl ⟨ba,bb⟩ (fun ac => ?_);refine with_tabW spec_MeanPlane.tab5 spec_MeanPlane.bits5 (fun J aG => ?_);generalize dO.drew=w18 at ae aq aE Y HB ba bb ac ⊢;refine pure_ (i:=0) (N:=some 24) (v := ?_) (a' := ?_) #[true,false,false,false,false,false,false,false,false,false] rfl rfl (any_of J.out (by kernel_rfl)) (fun _ _ _ h=>h) (Or.inl ⟨by rfl,?_⟩) ?_ ?_;rotate_left
       · intro w';go_simp;with_reducible rfl
       rotate_left
       · exact aP
       refine pure_ (i:=1) (N:=some 25) (v := ?_) (a' := ?_) #[true,true,false,false,false,false,false,false,false,false] rfl rfl (any_of J.out (by kernel_rfl)) (fun _ _ _ h=>h) (Or.inl ⟨by rfl,?_⟩) ?_ ?_;rotate_left
       · intro w';go_simp;with_reducible rfl
       rotate_left
       · exact aP
       refine pure_ (i:=3) (N:=some 27) (v := ?_) (a' := ?_) #[true,true,false,true,false,false,false,false,false,false] rfl rfl (any_of J.out (by kernel_rfl)) (fun _ _ _ h=>h) (Or.inl ⟨by rfl,?_⟩) ?_ ?_;rotate_left
       · intro w';go_simp;with_reducible rfl
       rotate_left
       · exact aP
       refine pure_ (i:=4) (N:=some 28) (v := ?_) (a' := ?_) #[true,true,false,true,true,false,false,false,false,false] rfl rfl (any_of J.out (by kernel_rfl)) (fun _ _ _ h=>h) (Or.inl ⟨by rfl,?_⟩) ?_ ?_;rotate_left
       · intro w';go_simp;with_reducible rfl
       rotate_left
       · exact aP
       refine take_ (i:=2) (N:=some 26) (v := ?_) (a' := ?_) #[true,true,true,true,true,false,false,false,false,false] rfl rfl (take_ofW J.out aG.out (by kernel_rfl)) (fun _ _ _ h=>h) (Or.inl ⟨by rfl,?_⟩) ac ?_ ?_;rotate_left
       · rintro w' ⟨s0,s1⟩;go_simp;with_reducible rfl
       rotate_left
       · exact aP
       refine pure_ (i:=7) (N:=some 8) (v := ?_) (a' := ?_) #[true,true,true,true,true,false,false,true,false,false] rfl rfl (any_of J.out (by kernel_rfl)) (fun _ _ _ h=>h) (Or.inl ⟨by rfl,?_⟩) ?_ ?_;rotate_left
       · intro w';go_simp;with_reducible rfl
       rotate_left
       · exact aP
       refine take_ (i:=5) (N:=some 29) (v := ?_) (a' := ?_) #[true,true,true,true,true,true,false,true,false,false] rfl rfl (take_ofW J.out aG.out (by kernel_rfl)) (fun _ _ _ h=>h) (Or.inl ⟨by rfl,?_⟩) ac ?_ ?_;rotate_left
       · rintro w' ⟨s0,s1⟩;go_simp;with_reducible rfl
       rotate_left
       · exact aP
       refine pure_ (i:=8) (N:=some 9) (v := ?_) (a' := ?_) #[true,true,true,true,true,true,false,true,true,false] rfl rfl (any_of J.out (by kernel_rfl)) (fun _ _ _ h=>h) (Or.inl ⟨by rfl,?_⟩) ?_ ?_;rotate_left
       · intro w';go_simp;with_reducible rfl
       rotate_left
       · exact aP
       refine one_ (i:=6) (N:=some 30) #[true,true,true,true,true,true,true,true,true,false] rfl rfl (one_of J.out (by kernel_rfl)) (by decide) (fun K hK => ?_);refine Kd.R_lit_step (Kd.int .i64) _ 3 ?hg (N:=30) ?hd (xs:=([]:List Int)) (inner:=[]) (ok:=fun _=>True) (okp:=fun _=>True) ?hr ?hp (fun _ hk=>hk) trivial (Below.refl _ _) (Nat.le_refl _) (by simp) ?_;(case hd=>rfl);(case hg=>rfl);(case hr=>go_simp <;> rfl);(case hp=>exact (Reps.none _ _));intro eA w21 aK hb hg_ hnew_;have dn:=(hb.cell (World.block_lt_of_cell? _ _ (ac.1))).trans (ac.1);have dp:=(hb.cell (World.block_lt_of_cell? _ _ (ac.2))).trans (ac.2);clear hg_ hnew_;(first|rw[← ck.out] at aK|(simp only[Int.reduceToNat] at aK;rw[← ck.out] at aK));have dk:=Aside0.mk (Kd.R_lower (Kd.R_new' (Kd.R_new' (Kd.R_new' aK (Kd.R_lt (pR ae))) (Kd.R_lt (pR aq))) (Kd.R_lt (pR aE))) (below_size (bC HB af)));replace ae:=Aside0.mk (Kd.R_elder' (pR ae) (Kd.R_base aK) hb);replace aq:=Aside0.mk (Kd.R_elder' (pR aq) (Kd.R_base aK) hb);replace aE:=Aside0.mk (Kd.R_elder' (pR aE) (Kd.R_base aK) hb);replace Y:=Aside0.mk (bW Y hb);replace HB:=Aside0.mk (below_step (bC HB af) hb);clear hb aK;refine hK.out _ _ ⟨dn,dp⟩ (fun ac => ?_);clear hK K;refine norm_ (a' := ?_) ?_ ?_;rotate_left
       · show Act.put _ (some 30) _=_
         simp only[Act.put,List.setIfInBounds_toArray,List.set_cons_zero,List.set_cons_succ,i64_w,i32_w];rfl
       refine pure_ (i:=9) (N:=some 10) (v := ?_) (a' := ?_) #[true,true,true,true,true,true,true,true,true,true] rfl rfl (any_of J.out (by kernel_rfl)) (fun _ _ _ h=>h) (Or.inl ⟨by rfl,?_⟩) ?_ ?_;rotate_left
       · intro w';go_simp;with_reducible rfl
       rotate_left
       · exact aP
       refine done_ (done_of J.out (by kernel_rfl)) ?_;try go_wp2
       go_loopg [10,11] k (fun kq cg dM w' => ∃ (az:List Int) (ab:Int),dM = .int .i64 ab∧Aside0 (spec_MeanPlane.l0 kq X U (rd X 0) (rd U 0) az ab=some (r1,r2,r3))∧Aside0 (kq≤k)∧Aside0 (Kd.R (Kd.int .i64) 3 w' w.heap.size (fun k_=>some k_≠((.slice (some ai) U.length ap):Value).ownBlock∧some k_≠(cg:Value).ownBlock) (.slice (some ah) X.length co19) X)∧Aside0 (Kd.R (Kd.int .i64) 3 w' w.heap.size (fun k_=>some k_≠((.slice (some ah) X.length co19):Value).ownBlock∧some k_≠(cg:Value).ownBlock) (.slice (some ai) U.length ap) U)∧Aside0 (Kd.R (Kd.int .i64) 3 w' w.heap.size (fun k_=>some k_≠((.slice (some ah) X.length co19):Value).ownBlock∧some k_≠((.slice (some ai) U.length ap):Value).ownBlock) cg az)∧Aside0 (w'.heap[ar]? = some (.cells #[(.slice aj Z.length am),(.slice ak aa.length ao)] 52 (0,0)))∧Aside0 (Below w.heap.size w w'))
       case atStart=>exact ⟨(cX),(1),rD,H',⟨Nat.le_refl _⟩,⟨by (with_reducible repeat (first|apply Kd.R_alloc|apply Kd.R_drewN|apply Kd.R_drew));exact Kd.R_mono aq.out (fun _ hk=>⟨hk.1.2,hk.2⟩)⟩,⟨by (with_reducible repeat (first|apply Kd.R_alloc|apply Kd.R_drewN|apply Kd.R_drew));exact Kd.R_mono aE.out (fun _ hk=>⟨hk.1.2,hk.2⟩)⟩,⟨by (with_reducible repeat (first|apply Kd.R_alloc|apply Kd.R_drewN|apply Kd.R_drew));exact Kd.R_mono dk.out (fun _ hk=>⟨hk.1.2,hk.2⟩)⟩,⟨pB Y⟩,⟨bC HB af⟩⟩
       case round =>
        clear H';try clear c3
        try clear c7
        try clear dw
        try clear dx
        try clear c8
        try clear dy
        try clear dz
        try clear dE
        try clear dF
        try clear dG
        try clear dH
        try clear dI
        try clear dJ
        try clear dK
        try clear dL
        try clear ba
        try clear bb
        try clear bp
        try clear bq
        try clear br
        try clear bs
        obtain ⟨az,ab,rfl,HA,HK1,HO_6,al,ay,Y,HB⟩:=hrel;cases gk with
        | zero=>exact absurd HA.out (by simp[spec_MeanPlane.l0])
        | succ k1 =>
         have H:=HA.out;clear HA;simp only[spec_MeanPlane.l0] at H;by_cases aQ:ab<(X.length:Int)
         · replace H:=iP aQ H;have dv:=decide_eq_true aQ;clear aQ;by_cases bc:0≤ab
           · replace H:=iP bc H;have eb:=decide_eq_true bc;clear bc;by_cases bd:ab<(U.length:Int)
             · replace H:=iP bd H;have ec:=decide_eq_true bd;clear bd;by_cases c26:az.length<17592186044416
               · replace H:=iP c26 H;have dq:=Aside0.mk c26;clear c26;obtain ⟨cY,bX⟩:∃ y_:List Int,y_=(az++[wrap64 ((wrap64 ((wrap64 (2*(rd X 0)))*(rd U 0)))*(wrap64 ((wrap64 ((rd U 0)*(rd X ab)))-(wrap64 ((rd X 0)*(rd U ab))))))]):=⟨_,rfl⟩;replace H:(spec_MeanPlane.l0 k1 X U (rd X 0) (rd U 0) cY (wrap64 (ab+1)))=some (r1,r2,r3):=yH bX H
                 have dr:=Aside0.mk bX;clear bX;have H' := Aside0.mk H;clear H;try go_wp2
                 replace HO_6:=Aside0.mk (Kd.R_drew HO_6.out);replace al:=Aside0.mk (Kd.R_drew al.out);replace ay:=Aside0.mk (Kd.R_drew ay.out);replace Y:=Aside0.mk (blk_drew Y.out);replace HB:=Aside0.mk (below_drew1 HB.out);have b2:0≤(ab:Int):=of_decide_eq_true aS;have cd:ab<(X.length:Int):=of_decide_eq_true aS;obtain ⟨dt,dC,cQ⟩:=Kd.at_int (Kd.R_reads' HO_6.out).2.2 ab b2 cd;obtain rfl:ah=dt:=(by injection dC);replace b2:=eq_true b2;replace cd:=eq_true cd;have b3:0≤(ab:Int):=of_decide_eq_true aS;have ce:ab<(U.length:Int):=of_decide_eq_true aS;obtain ⟨du,dD,cT⟩:=Kd.at_int (Kd.R_reads' al.out).2.2 ab b3 ce;obtain rfl:ai=du:=(by injection dD);replace b3:=eq_true b3;replace ce:=eq_true ce;refine start_ (n:=22) (S:=fun w' => w'.cell? (ah.add (ab).toNat)=some (.int .i64 (rd X ab))∧w'.cell? (ai.add (ab).toNat)=some (.int .i64 (rd U ab))) (ds:=[19,20]) #[false,false,false,false,false,false,false,false,false,false,false,false,false,false,false,false,false,false,false,false,false,false] (by kernel_rfl) rfl rfl ⟨cQ,cT⟩ (fun ac => ?_);refine with_tabW spec_MeanPlane.tab9 spec_MeanPlane.bits9 (fun J aG => ?_);generalize wr.drew=w27 at HO_6 al ay Y HB cQ cT ac ⊢;refine pure_ (i:=0) (N:=some 37) (v := ?_) (a' := ?_) #[true,false,false,false,false,false,false,false,false,false,false,false,false,false,false,false,false,false,false,false,false,false] rfl rfl (any_of J.out (by kernel_rfl)) (fun _ _ _ h=>h) (Or.inl ⟨by rfl,?_⟩) ?_ ?_;rotate_left
                 · intro w';go_simp;with_reducible rfl
                 rotate_left
                 · exact aP
                 refine pure_ (i:=1) (N:=some 38) (v := ?_) (a' := ?_) #[true,true,false,false,false,false,false,false,false,false,false,false,false,false,false,false,false,false,false,false,false,false] rfl rfl (any_of J.out (by kernel_rfl)) (fun _ _ _ h=>h) (Or.inl ⟨by rfl,?_⟩) ?_ ?_;rotate_left
                 · intro w';go_simp;with_reducible rfl
                 rotate_left
                 · exact aP
                 refine pure_ (i:=2) (N:=some 39) (v := ?_) (a' := ?_) #[true,true,true,false,false,false,false,false,false,false,false,false,false,false,false,false,false,false,false,false,false,false] rfl rfl (any_of J.out (by kernel_rfl)) (fun _ _ _ h=>h) (Or.inl ⟨by rfl,?_⟩) ?_ ?_;rotate_left
                 · intro w';go_simp;with_reducible rfl
                 rotate_left
                 · exact aP
                 refine pure_ (i:=3) (N:=some 40) (v := ?_) (a' := ?_) #[true,true,true,true,false,false,false,false,false,false,false,false,false,false,false,false,false,false,false,false,false,false] rfl rfl (any_of J.out (by kernel_rfl)) (fun _ _ _ h=>h) (Or.inl ⟨by rfl,?_⟩) ?_ ?_;rotate_left
                 · intro w';go_simp;with_reducible rfl
                 rotate_left
                 · exact aP
                 refine pure_ (i:=4) (N:=some 41) (v := ?_) (a' := ?_) #[true,true,true,true,true,false,false,false,false,false,false,false,false,false,false,false,false,false,false,false,false,false] rfl rfl (any_of J.out (by kernel_rfl)) (fun _ _ _ h=>h) (Or.inl ⟨by rfl,?_⟩) ?_ ?_;rotate_left
                 · intro w';go_simp;with_reducible rfl
                 rotate_left
                 · exact aP
                 refine pure_ (i:=5) (N:=some 42) (v := ?_) (a' := ?_) #[true,true,true,true,true,true,false,false,false,false,false,false,false,false,false,false,false,false,false,false,false,false] rfl rfl (any_of J.out (by kernel_rfl)) (fun _ _ _ h=>h) (Or.inl ⟨by rfl,?_⟩) ?_ ?_;rotate_left
                 · intro w';go_simp;with_reducible rfl
                 rotate_left
                 · exact aP
                 refine pure_ (i:=6) (N:=some 43) (v := ?_) (a' := ?_) #[true,true,true,true,true,true,true,false,false,false,false,false,false,false,false,false,false,false,false,false,false,false] rfl rfl (any_of J.out (by kernel_rfl)) (fun _ _ _ h=>h) (Or.inl ⟨by rfl,?_⟩) ?_ ?_;rotate_left
                 · intro w';go_simp;with_reducible rfl
                 rotate_left
                 · exact aP
                 refine pure_ (i:=7) (N:=some 44) (v := ?_) (a' := ?_) #[true,true,true,true,true,true,true,true,false,false,false,false,false,false,false,false,false,false,false,false,false,false] rfl rfl (any_of J.out (by kernel_rfl)) (fun _ _ _ h=>h) (Or.inl ⟨by rfl,?_⟩) ?_ ?_;rotate_left
                 · intro w';go_simp;with_reducible rfl
                 rotate_left
                 · exact aP
                 refine pure_ (i:=8) (N:=some 45) (v := ?_) (a' := ?_) #[true,true,true,true,true,true,true,true,true,false,false,false,false,false,false,false,false,false,false,false,false,false] rfl rfl (any_of J.out (by kernel_rfl)) (fun _ _ _ h=>h) (Or.inl ⟨by rfl,?_⟩) ?_ ?_;rotate_left
                 · intro w';go_simp;with_reducible rfl
                 rotate_left
                 · exact aP
                 refine pure_ (i:=11) (N:=some 48) (v := ?_) (a' := ?_) #[true,true,true,true,true,true,true,true,true,false,false,true,false,false,false,false,false,false,false,false,false,false] rfl rfl (any_of J.out (by kernel_rfl)) (fun _ _ _ h=>h) (Or.inl ⟨by rfl,?_⟩) ?_ ?_;rotate_left
                 · intro w';go_simp;with_reducible rfl
                 rotate_left
                 · exact aP
                 refine pure_ (i:=12) (N:=some 49) (v := ?_) (a' := ?_) #[true,true,true,true,true,true,true,true,true,false,false,true,true,false,false,false,false,false,false,false,false,false] rfl rfl (any_of J.out (by kernel_rfl)) (fun _ _ _ h=>h) (Or.inl ⟨by rfl,?_⟩) ?_ ?_;rotate_left
                 · intro w';go_simp;with_reducible rfl
                 rotate_left
                 · exact aP
                 refine pure_ (i:=13) (N:=some 50) (v := ?_) (a' := ?_) #[true,true,true,true,true,true,true,true,true,false,false,true,true,true,false,false,false,false,false,false,false,false] rfl rfl (any_of J.out (by kernel_rfl)) (fun _ _ _ h=>h) (Or.inl ⟨by rfl,?_⟩) ?_ ?_;rotate_left
                 · intro w';go_simp;with_reducible rfl
                 rotate_left
                 · exact aP
                 refine pure_ (i:=14) (N:=some 51) (v := ?_) (a' := ?_) #[true,true,true,true,true,true,true,true,true,false,false,true,true,true,true,false,false,false,false,false,false,false] rfl rfl (any_of J.out (by kernel_rfl)) (fun _ _ _ h=>h) (Or.inl ⟨by rfl,?_⟩) ?_ ?_;rotate_left
                 · intro w';go_simp;with_reducible rfl
                 rotate_left
                 · exact aP
                 refine take_ (i:=9) (N:=some 46) (v := ?_) (a' := ?_) #[true,true,true,true,true,true,true,true,true,true,false,true,true,true,true,false,false,false,false,false,false,false] rfl rfl (take_ofW J.out aG.out (by kernel_rfl)) (fun _ _ _ h=>h) (Or.inl ⟨by rfl,?_⟩) ac ?_ ?_;rotate_left
                 · rintro w' ⟨s0,s1⟩;go_simp;with_reducible rfl
                 rotate_left
                 · exact aP
                 refine pure_ (i:=10) (N:=some 47) (v := ?_) (a' := ?_) #[true,true,true,true,true,true,true,true,true,true,true,true,true,true,true,false,false,false,false,false,false,false] rfl rfl (any_of J.out (by kernel_rfl)) (fun _ _ _ h=>h) (Or.inl ⟨by rfl,?_⟩) ?_ ?_;rotate_left
                 · intro w';go_simp;with_reducible rfl
                 rotate_left
                 · exact aP
                 refine take_ (i:=15) (N:=some 52) (v := ?_) (a' := ?_) #[true,true,true,true,true,true,true,true,true,true,true,true,true,true,true,true,false,false,false,false,false,false] rfl rfl (take_ofW J.out aG.out (by kernel_rfl)) (fun _ _ _ h=>h) (Or.inl ⟨by rfl,?_⟩) ac ?_ ?_;rotate_left
                 · rintro w' ⟨s0,s1⟩;go_simp;with_reducible rfl
                 rotate_left
                 · exact aP
                 refine pure_ (i:=16) (N:=some 53) (v := ?_) (a' := ?_) #[true,true,true,true,true,true,true,true,true,true,true,true,true,true,true,true,true,false,false,false,false,false] rfl rfl (any_of J.out (by kernel_rfl)) (fun _ _ _ h=>h) (Or.inl ⟨by rfl,?_⟩) ?_ ?_;rotate_left
                 · intro w';go_simp;with_reducible rfl
                 rotate_left
                 · exact aP
                 refine pure_ (i:=17) (N:=some 54) (v := ?_) (a' := ?_) #[true,true,true,true,true,true,true,true,true,true,true,true,true,true,true,true,true,true,false,false,false,false] rfl rfl (any_of J.out (by kernel_rfl)) (fun _ _ _ h=>h) (Or.inl ⟨by rfl,?_⟩) ?_ ?_;rotate_left
                 · intro w';go_simp;with_reducible rfl
                 rotate_left
                 · exact aP
                 refine pure_ (i:=18) (N:=some 55) (v := ?_) (a' := ?_) #[true,true,true,true,true,true,true,true,true,true,true,true,true,true,true,true,true,true,true,false,false,false] rfl rfl (any_of J.out (by kernel_rfl)) (fun _ _ _ h=>h) (Or.inl ⟨by rfl,?_⟩) ?_ ?_;rotate_left
                 · intro w';go_simp;with_reducible rfl
                 rotate_left
                 · exact aP
                 refine last_ (i:=19) (N:=some 56) #[true,true,true,true,true,true,true,true,true,true,true,true,true,true,true,true,true,true,true,true,false,false] rfl rfl (one_of J.out (by kernel_rfl)) (by decide) (fun K hK => ?_);refine value_ (w1 := ?_) (v := ?_) (by rfl) rfl ?_ ?_;rotate_left 2
                 · go_simp;constructor
                   · rfl
                   · rfl
                 refine hK.out _ _ ?_;clear hK K;refine norm_ (a' := ?_) ?_ ?_;rotate_left
                 · show Act.put _ (some 56) _=_
                   simp only[Act.put,List.setIfInBounds_toArray,List.set_cons_zero,List.set_cons_succ,i64_w,i32_w];rfl
                 refine last_ (i:=20) (N:=some 57) #[true,true,true,true,true,true,true,true,true,true,true,true,true,true,true,true,true,true,true,true,true,false] rfl rfl (one_of J.out (by kernel_rfl)) (by decide) (fun K hK => ?_);refine Kd.R_append_step (Kd.int .i64) (w0:=w) w.heap.size (by rfl) (.tmp 37) (.tmp 56) 24 3 (.int .i64 0) 8 rfl Try.underlying24 info3 rfl (by decide) (by omega) u10 az (wrap64 ((wrap64 ((wrap64 (2*(rd X 0)))*(rd U 0)))*(wrap64 ((wrap64 ((rd U 0)*(rd X ab)))-(wrap64 ((rd X 0)*(rd U ab))))))) [.int .i64 (wrap64 ((wrap64 ((wrap64 (2*(rd X 0)))*(rd U 0)))*(wrap64 ((wrap64 ((rd U 0)*(rd X ab)))-(wrap64 ((rd X 0)*(rd U ab)))))))] (fun k_=>some k_≠(.slice (some ah) X.length co19:Value).ownBlock∧some k_≠(.slice (some ai) U.length ap:Value).ownBlock) (fun _=>False) rfl rfl ?aP (fun _ hk=>hk.elim) ?aF ?aO ?aB ?aS ?aL ?_;(case aP=>exact rfl);(case aB=>exact (bC HB af));(case aF=>exact (fun k_ hk=>⟨Kd.fresh' (Kd.R_lt (pR HO_6)) k_ hk,Kd.fresh' (Kd.R_lt (pR al)) k_ hk⟩));(case aO=>exact (pR ay));(case aS=>exact (below_size (bC HB af)));(case aL=>have:=dq.out;omega);intro eB eD ho hb hg hat;rw[← dr.out] at ho;have dl:=Aside0.mk (ho);replace HO_6:=Aside0.mk (Kd.R_after (ok:=(fun k_=>some k_≠(.slice (some ai) U.length ap:Value).ownBlock)) (pR HO_6) hg hat);replace al:=Aside0.mk (Kd.R_after (ok:=(fun k_=>some k_≠(.slice (some ah) X.length co19:Value).ownBlock)) (pR al) hg hat);replace Y:=Aside0.mk (blk_grown (g:=ar) (o := .cells #[.slice aj Z.length am,.slice ak aa.length ao] 52 (0,0)) (pB Y) hg (Kd.R_ne ay.out Y.out (by decide)));replace HB:=Aside0.mk (hb);clear ay;clear ho hb hg hat;refine hK.out _ _ ?_;clear hK K;refine norm_ (a' := ?_) ?_ ?_;rotate_left
                 · show Act.put _ (some 57) _=_
                   simp only[Act.put,List.setIfInBounds_toArray,List.set_cons_zero,List.set_cons_succ,i64_w,i32_w];rfl
                 refine pure_ (i:=21) (N:=some 10) (v := ?_) (a' := ?_) #[true,true,true,true,true,true,true,true,true,true,true,true,true,true,true,true,true,true,true,true,true,true] rfl rfl (any_of J.out (by kernel_rfl)) (fun _ _ _ h=>h) (Or.inl ⟨by rfl,?_⟩) ?_ ?_;rotate_left
                 · intro w';go_simp;with_reducible rfl
                 rotate_left
                 · exact aP
                 refine done_ (done_of J.out (by kernel_rfl)) ?_;try go_wp2
                 go_roundg k1
                 case measure=>exact kM HK1
                 case rel=>exact ⟨(cY),(wrap64 (ab+1)),rD,H',⟨kM HK1⟩,⟨pR HO_6⟩,⟨pR al⟩,⟨pR dl⟩,⟨pB Y⟩,⟨bC HB af⟩⟩
               · replace H:=iN c26 H;cases H
             · replace H:=iN bd H;cases H
           · replace H:=iN bc H;cases H
         · replace H:=iN aQ H;have dv:=decide_eq_false aQ;clear aQ;by_cases aY:1≤(X.length:Int)
           · replace H:=iP aY H;have ed:=eq_true aY;have ee:=decide_eq_true aY;clear aY;obtain ⟨aC,bY⟩:∃ y_:List Int,y_=(X.drop 1):=⟨_,rfl⟩;replace H:((spec_l2Dot.f k1 aC (X.drop 1)).bind fun aN=>(if 1≤(U.length:Int) then ((spec_l2Dot.f k1 (U.drop 1) (U.drop 1)).bind fun aH=>(some (az,wrap64 ((wrap64 ((wrap64 ((rd U 0)*(rd U 0)))*aN))-(wrap64 ((wrap64 ((rd X 0)*(rd X 0)))*aH))),true))) else (none)))=some (r1,r2,r3):=yH bY H
             have cl:=Aside0.mk bY;clear bY;have ef:=eq_true (of_decide_eq_true aS:1≤(X.length:Int));obtain ⟨aI,bZ⟩:∃ y_:List Int,y_=(X.drop 1):=⟨_,rfl⟩;replace H:((spec_l2Dot.f k1 aC aI).bind fun aN=>(if 1≤(U.length:Int) then ((spec_l2Dot.f k1 (U.drop 1) (U.drop 1)).bind fun aH=>(some (az,wrap64 ((wrap64 ((wrap64 ((rd U 0)*(rd U 0)))*aN))-(wrap64 ((wrap64 ((rd X 0)*(rd X 0)))*aH))),true))) else (none)))=some (r1,r2,r3):=yH bZ H
             have cm:=Aside0.mk bZ;clear bZ;obtain ⟨aN,cZ,H⟩:=bS H;by_cases aZ:1≤(U.length:Int)
             · replace H:=iP aZ H;have eh:=eq_true aZ;have ei:=decide_eq_true aZ;clear aZ;obtain ⟨aD,b0⟩:∃ y_:List Int,y_=(U.drop 1):=⟨_,rfl⟩;replace H:((spec_l2Dot.f k1 aD (U.drop 1)).bind fun aH=>(some (az,wrap64 ((wrap64 ((wrap64 ((rd U 0)*(rd U 0)))*aN))-(wrap64 ((wrap64 ((rd X 0)*(rd X 0)))*aH))),true)))=some (r1,r2,r3):=yH b0 H
               have cn:=Aside0.mk b0;clear b0;have ej:=eq_true (of_decide_eq_true aS:1≤(U.length:Int));obtain ⟨aJ,b1⟩:∃ y_:List Int,y_=(U.drop 1):=⟨_,rfl⟩;replace H:((spec_l2Dot.f k1 aD aJ).bind fun aH=>(some (az,wrap64 ((wrap64 ((wrap64 ((rd U 0)*(rd U 0)))*aN))-(wrap64 ((wrap64 ((rd X 0)*(rd X 0)))*aH))),true)))=some (r1,r2,r3):=yH b1 H
               have co:=Aside0.mk b1;clear b1;obtain ⟨aH,da,H⟩:=bS H;simp only[Option.some.injEq,Prod.mk.injEq] at H;obtain ⟨rfl,rfl,rfl⟩:=H;try go_wp2
               replace HO_6:=Aside0.mk (Kd.R_drew HO_6.out);replace al:=Aside0.mk (Kd.R_drew al.out);replace ay:=Aside0.mk (Kd.R_drew ay.out);replace Y:=Aside0.mk (blk_drew Y.out);replace HB:=Aside0.mk (below_drew1 HB.out);have b7:(1:Int)≤((X.length:Int):Int):=of_decide_eq_true aS;obtain ⟨ep,cF,_,cL,_⟩:=info_parts info3;have bP:X.length≤co19:=(Kd.R_reads' HO_6.out).2.1;have ct:Kd.C (Kd.int .i64) _ (some ah) X.length X:=(Kd.R_reads' HO_6.out).2.2;have cz:=cut_from (P:=Try.prog) 24 3 .i64 Try.underlying24 cF 1 cL (some ah) X.length co19 1 (by omega) b7;have a6:=Kd.C_drop (m:=(1:Int).toNat) (c:=co19) ct (by omega) bP;obtain ⟨bu,bf⟩:∃ A1,A1=(if co19=(1:Int).toNat then (some ah) else ((some ah):Option Addr).map (·.add ((1:Int).toNat*1))):=⟨_,rfl⟩;obtain ⟨bH,bL⟩:∃ c1,c1=co19-(1:Int).toNat:=⟨_,rfl⟩;have bl:aC.length=X.length-(1:Int).toNat:=(by rw[cl.out,List.length_drop] <;> omega);rw[show (X).drop (1:Int).toNat=aC from cl.out.symm] at a6;replace a6:Kd.C (Kd.int .i64) _ bu aC.length aC:=(by rw[bf];exact a6);rw[← bl,← bf,← bL] at cz;have bz:=Aside0.mk a6;have df:=Aside0.mk (show aC.length≤bH from by rw[bl,bL];exact Nat.sub_le_sub_right bP _);clear a6 ct bP cF cL bL;have d7:=Aside0.mk bl;have dT:=Aside0.mk bf;clear bl bf;have dX:=Aside0.mk (show 1≤X.length from by omega);replace b7:=eq_true b7;have b8:(1:Int)≤((X.length:Int):Int):=of_decide_eq_true aS;obtain ⟨eq,cG,_,cM,_⟩:=info_parts info3;have bQ:X.length≤co19:=(Kd.R_reads' HO_6.out).2.1;have cu:Kd.C (Kd.int .i64) _ (some ah) X.length X:=(Kd.R_reads' HO_6.out).2.2;have cA:=cut_from (P:=Try.prog) 24 3 .i64 Try.underlying24 cG 1 cM (some ah) X.length co19 1 (by omega) b8;have a7:=Kd.C_drop (m:=(1:Int).toNat) (c:=co19) cu (by omega) bQ;obtain ⟨bv,bg⟩:∃ A1,A1=(if co19=(1:Int).toNat then (some ah) else ((some ah):Option Addr).map (·.add ((1:Int).toNat*1))):=⟨_,rfl⟩;obtain ⟨bI,bM⟩:∃ c1,c1=co19-(1:Int).toNat:=⟨_,rfl⟩;have bm:aI.length=X.length-(1:Int).toNat:=(by rw[cm.out,List.length_drop] <;> omega);rw[show (X).drop (1:Int).toNat=aI from cm.out.symm] at a7;replace a7:Kd.C (Kd.int .i64) _ bv aI.length aI:=(by rw[bg];exact a7);rw[← bm,← bg,← bM] at cA;have bj:(.slice bv aI.length bI:Value) = .slice bu aC.length bH:=by have e_:=(cA w).symm.trans (cz w);injection e_
               have bA:=Aside0.mk a7;have dg:=Aside0.mk (show aI.length≤bI from by rw[bm,bM];exact Nat.sub_le_sub_right bQ _);clear a7 cu bQ cG cM bM;have d8:=Aside0.mk bm;have dU:=Aside0.mk bg;clear bm bg;have dY:=Aside0.mk (show 1≤X.length from by omega);replace b8:=eq_true b8;have b9:(1:Int)≤((U.length:Int):Int):=of_decide_eq_true aS;obtain ⟨er,cH,_,cO,_⟩:=info_parts info3;have bR:U.length≤ap:=(Kd.R_reads' al.out).2.1;have cv:Kd.C (Kd.int .i64) _ (some ai) U.length U:=(Kd.R_reads' al.out).2.2;have cD:=cut_from (P:=Try.prog) 24 3 .i64 Try.underlying24 cH 1 cO (some ai) U.length ap 1 (by omega) b9;have a8:=Kd.C_drop (m:=(1:Int).toNat) (c:=ap) cv (by omega) bR;obtain ⟨bw,bh⟩:∃ A1,A1=(if ap=(1:Int).toNat then (some ai) else ((some ai):Option Addr).map (·.add ((1:Int).toNat*1))):=⟨_,rfl⟩;obtain ⟨bJ,bN⟩:∃ c1,c1=ap-(1:Int).toNat:=⟨_,rfl⟩;have bn:aD.length=U.length-(1:Int).toNat:=(by rw[cn.out,List.length_drop] <;> omega);rw[show (U).drop (1:Int).toNat=aD from cn.out.symm] at a8;replace a8:Kd.C (Kd.int .i64) _ bw aD.length aD:=(by rw[bh];exact a8);rw[← bn,← bh,← bN] at cD;have bF:=Aside0.mk a8;have dh:=Aside0.mk (show aD.length≤bJ from by rw[bn,bN];exact Nat.sub_le_sub_right bR _);clear a8 cv bR cH cO bN;have d9:=Aside0.mk bn;have dV:=Aside0.mk bh;clear bn bh;have dZ:=Aside0.mk (show 1≤U.length from by omega);replace b9:=eq_true b9;have ca:(1:Int)≤((U.length:Int):Int):=of_decide_eq_true aS;obtain ⟨et,cI,_,cP,_⟩:=info_parts info3;have bT:U.length≤ap:=(Kd.R_reads' al.out).2.1;have cw:Kd.C (Kd.int .i64) _ (some ai) U.length U:=(Kd.R_reads' al.out).2.2;have cE:=cut_from (P:=Try.prog) 24 3 .i64 Try.underlying24 cI 1 cP (some ai) U.length ap 1 (by omega) ca;have a9:=Kd.C_drop (m:=(1:Int).toNat) (c:=ap) cw (by omega) bT;obtain ⟨bx,bi⟩:∃ A1,A1=(if ap=(1:Int).toNat then (some ai) else ((some ai):Option Addr).map (·.add ((1:Int).toNat*1))):=⟨_,rfl⟩;obtain ⟨bK,bO⟩:∃ c1,c1=ap-(1:Int).toNat:=⟨_,rfl⟩;have bo:aJ.length=U.length-(1:Int).toNat:=(by rw[co.out,List.length_drop] <;> omega);rw[show (U).drop (1:Int).toNat=aJ from co.out.symm] at a9;replace a9:Kd.C (Kd.int .i64) _ bx aJ.length aJ:=(by rw[bi];exact a9);rw[← bo,← bi,← bO] at cE;have bk:(.slice bx aJ.length bK:Value) = .slice bw aD.length bJ:=by have e_:=(cE w).symm.trans (cD w);injection e_
               have bG:=Aside0.mk a9;have di:=Aside0.mk (show aJ.length≤bK from by rw[bo,bO];exact Nat.sub_le_sub_right bT _);clear a9 cw bT cI cP bO;have ea:=Aside0.mk bo;have dW:=Aside0.mk bi;clear bo bi;have d6:=Aside0.mk (show 1≤U.length from by omega);replace ca:=eq_true ca;refine start_ (n:=23) (S:=fun w' => True) (ds:=[]) #[false,false,false,false,false,false,false,false,false,false,false,false,false,false,false,false,false,false,false,false,false,false,false] (by kernel_rfl) rfl rfl trivial (fun ac => ?_);refine with_tabW spec_MeanPlane.tab10 spec_MeanPlane.bits10 (fun J aG => ?_);generalize wr.drew=w35 at HO_6 al ay Y HB bz bA bF bG ac ⊢;refine pure_ (i:=0) (N:=some 58) (v := ?_) (a' := ?_) #[true,false,false,false,false,false,false,false,false,false,false,false,false,false,false,false,false,false,false,false,false,false,false] rfl rfl (any_of J.out (by kernel_rfl)) (fun _ _ _ h=>h) (Or.inl ⟨by rfl,?_⟩) ?_ ?_;rotate_left
               · intro w';go_simp;with_reducible rfl
               rotate_left
               · exact aP
               refine pure_ (i:=1) (N:=some 59) (v := ?_) (a' := ?_) #[true,true,false,false,false,false,false,false,false,false,false,false,false,false,false,false,false,false,false,false,false,false,false] rfl rfl (any_of J.out (by kernel_rfl)) (fun _ _ _ h=>h) (Or.inl ⟨by rfl,?_⟩) ?_ ?_;rotate_left
               · intro w';go_simp;with_reducible rfl
               rotate_left
               · exact aP
               refine pure_ (i:=2) (N:=some 60) (v := ?_) (a' := ?_) #[true,true,true,false,false,false,false,false,false,false,false,false,false,false,false,false,false,false,false,false,false,false,false] rfl rfl (any_of J.out (by kernel_rfl)) (fun _ _ _ h=>h) (Or.inl ⟨by rfl,?_⟩) ?_ ?_;rotate_left
               · intro w';go_simp;with_reducible rfl
               rotate_left
               · exact aP
               refine pure_ (i:=3) (N:=some 61) (v := ?_) (a' := ?_) #[true,true,true,true,false,false,false,false,false,false,false,false,false,false,false,false,false,false,false,false,false,false,false] rfl rfl (any_of J.out (by kernel_rfl)) (fun _ _ _ h=>h) (Or.inl ⟨by rfl,?_⟩) ?_ ?_;rotate_left
               · intro w';go_simp;with_reducible rfl
               rotate_left
               · exact aP
               refine pure_ (i:=4) (N:=some 62) (v := ?_) (a' := ?_) #[true,true,true,true,true,false,false,false,false,false,false,false,false,false,false,false,false,false,false,false,false,false,false] rfl rfl (any_of J.out (by kernel_rfl)) (fun _ _ _ h=>h) (Or.inl ⟨by rfl,?_⟩) ?_ ?_;rotate_left
               · intro w';go_simp;with_reducible rfl
               rotate_left
               · exact aP
               refine pure_ (i:=5) (N:=some 63) (v := ?_) (a' := ?_) #[true,true,true,true,true,true,false,false,false,false,false,false,false,false,false,false,false,false,false,false,false,false,false] rfl rfl (any_of J.out (by kernel_rfl)) (fun _ _ _ h=>h) (Or.inl ⟨by rfl,?_⟩) ?_ ?_;rotate_left
               · intro w';go_simp;with_reducible rfl
               rotate_left
               · exact aP
               refine pure_ (i:=6) (N:=some 64) (v := ?_) (a' := ?_) #[true,true,true,true,true,true,true,false,false,false,false,false,false,false,false,false,false,false,false,false,false,false,false] rfl rfl (any_of J.out (by kernel_rfl)) (fun _ _ _ h=>h) (Or.inl ⟨by rfl,?_⟩) ?_ ?_;rotate_left
               · intro w';go_simp;with_reducible rfl
               rotate_left
               · exact aP
               refine pure_ (i:=7) (N:=some 65) (v := ?_) (a' := ?_) #[true,true,true,true,true,true,true,true,false,false,false,false,false,false,false,false,false,false,false,false,false,false,false] rfl rfl (any_of J.out (by kernel_rfl)) (fun _ _ _ h=>h) (Or.inl ⟨by rfl,?_⟩) ?_ ?_;rotate_left
               · intro w';go_simp;with_reducible rfl
               rotate_left
               · exact aP
               refine pure_ (i:=10) (N:=some 68) (v := ?_) (a' := ?_) #[true,true,true,true,true,true,true,true,false,false,true,false,false,false,false,false,false,false,false,false,false,false,false] rfl rfl (any_of J.out (by kernel_rfl)) (fun _ _ _ h=>h) (Or.inl ⟨by rfl,?_⟩) ?_ ?_;rotate_left
               · intro w';go_simp;with_reducible rfl
               rotate_left
               · exact aP
               refine pure_ (i:=11) (N:=some 69) (v := ?_) (a' := ?_) #[true,true,true,true,true,true,true,true,false,false,true,true,false,false,false,false,false,false,false,false,false,false,false] rfl rfl (any_of J.out (by kernel_rfl)) (fun _ _ _ h=>h) (Or.inl ⟨by rfl,?_⟩) ?_ ?_;rotate_left
               · intro w';go_simp;with_reducible rfl
               rotate_left
               · exact aP
               refine pure_ (i:=12) (N:=some 70) (v := ?_) (a' := ?_) #[true,true,true,true,true,true,true,true,false,false,true,true,true,false,false,false,false,false,false,false,false,false,false] rfl rfl (any_of J.out (by kernel_rfl)) (fun _ _ _ h=>h) (Or.inl ⟨by rfl,?_⟩) ?_ ?_;rotate_left
               · intro w';go_simp;with_reducible rfl
               rotate_left
               · exact aP
               refine pure_ (i:=13) (N:=some 71) (v := ?_) (a' := ?_) #[true,true,true,true,true,true,true,true,false,false,true,true,true,true,false,false,false,false,false,false,false,false,false] rfl rfl (any_of J.out (by kernel_rfl)) (fun _ _ _ h=>h) (Or.inl ⟨by rfl,?_⟩) ?_ ?_;rotate_left
               · intro w';go_simp;with_reducible rfl
               rotate_left
               · exact aP
               refine pure_ (i:=14) (N:=some 72) (v := ?_) (a' := ?_) #[true,true,true,true,true,true,true,true,false,false,true,true,true,true,true,false,false,false,false,false,false,false,false] rfl rfl (any_of J.out (by kernel_rfl)) (fun _ _ _ h=>h) (Or.inl ⟨by rfl,?_⟩) ?_ ?_;rotate_left
               · intro w';go_simp;with_reducible rfl
               rotate_left
               · exact aP
               refine pure_ (i:=15) (N:=some 73) (v := ?_) (a' := ?_) #[true,true,true,true,true,true,true,true,false,false,true,true,true,true,true,true,false,false,false,false,false,false,false] rfl rfl (any_of J.out (by kernel_rfl)) (fun _ _ _ h=>h) (Or.inl ⟨by rfl,?_⟩) ?_ ?_;rotate_left
               · intro w';go_simp;with_reducible rfl
               rotate_left
               · exact aP
               refine pure_ (i:=16) (N:=some 74) (v := ?_) (a' := ?_) #[true,true,true,true,true,true,true,true,false,false,true,true,true,true,true,true,true,false,false,false,false,false,false] rfl rfl (any_of J.out (by kernel_rfl)) (fun _ _ _ h=>h) (Or.inl ⟨by rfl,?_⟩) ?_ ?_;rotate_left
               · intro w';go_simp;with_reducible rfl
               rotate_left
               · exact aP
               refine one_ (i:=8) (N:=some 66) #[true,true,true,true,true,true,true,true,true,false,true,true,true,true,true,true,true,false,false,false,false,false,false] rfl rfl (one_of J.out (by kernel_rfl)) (by decide) (fun K hK => ?_);refine goes_ Try.func79 (by kernel_rfl) rfl #[.slice bu aC.length bH,.slice bv aI.length bI] (by rfl) rfl rfl (by (try simp only[List.map_toArray,List.map_cons,List.map_nil]);first|done|rfl|(rw[bj];rfl)|(rw[bk];rfl)|(rw[bj,bk];rfl)|(simp only[List.length_drop,List.length_take];rfl)) ?_;with_reducible refine (spec_l2Dot.calls k1 _ _ aC _ _ aI aN _ ?side1 ?side2 ?side3 ?side4 cZ.out).mono ?_
               (case side1=>repeat (first|exact (by repeat (first|(with_reducible exact bz.out)|(with_reducible refine Kd.C_alloc ?_ _)|(with_reducible refine Kd.C_drewN ?_ _)|(with_reducible refine Kd.C_drew ?_)|exact bz.out))|(with_reducible refine Kd.C_alloc ?_ _)|(with_reducible refine Kd.C_drewN ?_ _)|(with_reducible refine Kd.C_drew ?_)));(case side2=>exact df.out);(case side3=>repeat (first|exact (by repeat (first|(with_reducible exact bA.out)|(with_reducible refine Kd.C_alloc ?_ _)|(with_reducible refine Kd.C_drewN ?_ _)|(with_reducible refine Kd.C_drew ?_)|exact bA.out))|(with_reducible refine Kd.C_alloc ?_ _)|(with_reducible refine Kd.C_drewN ?_ _)|(with_reducible refine Kd.C_drew ?_)));(case side4=>exact dg.out);rintro e w' ⟨rfl,⟨nd,rfl⟩⟩;refine ⟨_,rfl,?_⟩;refine hK.out _ _ trivial (fun ac => ?_);clear hK K;refine norm_ (a' := ?_) ?_ ?_;rotate_left
               · show Act.put _ (some 66) _=_
                 simp only[Act.put,List.setIfInBounds_toArray,List.set_cons_zero,List.set_cons_succ,i64_w,i32_w];rfl
               refine pure_ (i:=9) (N:=some 67) (v := ?_) (a' := ?_) #[true,true,true,true,true,true,true,true,true,true,true,true,true,true,true,true,true,false,false,false,false,false,false] rfl rfl (any_of J.out (by kernel_rfl)) (fun _ _ _ h=>h) (Or.inl ⟨by rfl,?_⟩) ?_ ?_;rotate_left
               · intro w';go_simp;with_reducible rfl
               rotate_left
               · exact aP
               refine one_ (i:=17) (N:=some 75) #[true,true,true,true,true,true,true,true,true,true,true,true,true,true,true,true,true,true,false,false,false,false,false] rfl rfl (one_of J.out (by kernel_rfl)) (by decide) (fun K hK => ?_);refine goes_ Try.func79 (by kernel_rfl) rfl #[.slice bw aD.length bJ,.slice bx aJ.length bK] (by rfl) rfl rfl (by (try simp only[List.map_toArray,List.map_cons,List.map_nil]);first|done|rfl|(rw[bj];rfl)|(rw[bk];rfl)|(rw[bj,bk];rfl)|(simp only[List.length_drop,List.length_take];rfl)) ?_;with_reducible refine (spec_l2Dot.calls k1 _ _ aD _ _ aJ aH _ ?side1 ?side2 ?side3 ?side4 da.out).mono ?_
               (case side1=>repeat (first|exact (by repeat (first|(with_reducible exact bF.out)|(with_reducible refine Kd.C_alloc ?_ _)|(with_reducible refine Kd.C_drewN ?_ _)|(with_reducible refine Kd.C_drew ?_)|exact bF.out))|(with_reducible refine Kd.C_alloc ?_ _)|(with_reducible refine Kd.C_drewN ?_ _)|(with_reducible refine Kd.C_drew ?_)));(case side2=>exact dh.out);(case side3=>repeat (first|exact (by repeat (first|(with_reducible exact bG.out)|(with_reducible refine Kd.C_alloc ?_ _)|(with_reducible refine Kd.C_drewN ?_ _)|(with_reducible refine Kd.C_drew ?_)|exact bG.out))|(with_reducible refine Kd.C_alloc ?_ _)|(with_reducible refine Kd.C_drewN ?_ _)|(with_reducible refine Kd.C_drew ?_)));(case side4=>exact di.out);rintro e w' ⟨rfl,⟨nd,rfl⟩⟩;refine ⟨_,rfl,?_⟩;refine hK.out _ _ trivial (fun ac => ?_);clear hK K;refine norm_ (a' := ?_) ?_ ?_;rotate_left
               · show Act.put _ (some 75) _=_
                 simp only[Act.put,List.setIfInBounds_toArray,List.set_cons_zero,List.set_cons_succ,i64_w,i32_w];rfl
               refine pure_ (i:=18) (N:=some 76) (v := ?_) (a' := ?_) #[true,true,true,true,true,true,true,true,true,true,true,true,true,true,true,true,true,true,true,false,false,false,false] rfl rfl (any_of J.out (by kernel_rfl)) (fun _ _ _ h=>h) (Or.inl ⟨by rfl,?_⟩) ?_ ?_;rotate_left
               · intro w';go_simp;with_reducible rfl
               rotate_left
               · exact aP
               refine pure_ (i:=19) (N:=some 77) (v := ?_) (a' := ?_) #[true,true,true,true,true,true,true,true,true,true,true,true,true,true,true,true,true,true,true,true,false,false,false] rfl rfl (any_of J.out (by kernel_rfl)) (fun _ _ _ h=>h) (Or.inl ⟨by rfl,?_⟩) ?_ ?_;rotate_left
               · intro w';go_simp;with_reducible rfl
               rotate_left
               · exact aP
               refine pure_ (i:=20) (N:=some 2) (v := ?_) (a' := ?_) #[true,true,true,true,true,true,true,true,true,true,true,true,true,true,true,true,true,true,true,true,true,false,false] rfl rfl (any_of J.out (by kernel_rfl)) (fun _ _ _ h=>h) (Or.inl ⟨by rfl,?_⟩) ?_ ?_;rotate_left
               · intro w';go_simp;with_reducible rfl
               rotate_left
               · exact aP
               refine pure_ (i:=21) (N:=some 3) (v := ?_) (a' := ?_) #[true,true,true,true,true,true,true,true,true,true,true,true,true,true,true,true,true,true,true,true,true,true,false] rfl rfl (any_of J.out (by kernel_rfl)) (fun _ _ _ h=>h) (Or.inl ⟨by rfl,?_⟩) ?_ ?_;rotate_left
               · intro w';go_simp;with_reducible rfl
               rotate_left
               · exact aP
               refine pure_ (i:=22) (N:=some 4) (v := ?_) (a' := ?_) #[true,true,true,true,true,true,true,true,true,true,true,true,true,true,true,true,true,true,true,true,true,true,true] rfl rfl (any_of J.out (by kernel_rfl)) (fun _ _ _ h=>h) (Or.inl ⟨by rfl,?_⟩) ?_ ?_;rotate_left
               · intro w';go_simp;with_reducible rfl
               rotate_left
               · exact aP
               refine done_ (done_of J.out (by kernel_rfl)) ?_;try go_wp2
               go_ret3
               exact ⟨_,eW,by (with_reducible repeat (first|apply Kd.R_alloc|apply Kd.R_drewN|apply Kd.R_drew));exact Kd.R_mono ay.out (fun _ hk=>trivial),bC HB af⟩
             · replace H:=iN aZ H;cases H
           · replace H:=iN aY H;cases H
     · replace H:=iN c8 H;cases H
   · replace H:=iN c7 H;cases H
 · replace c3:=Bool.eq_false_iff.mpr c3;subst c3;replace H:=iF H;obtain ⟨dP,bU⟩:∃ y_:List Int,y_=(([]:List Int)):=⟨_,rfl⟩;replace H:(some (dP,0,false))=some (r1,r2,r3):=yH bU H
   have cj:=Aside0.mk bU;clear bU;simp only[Option.some.injEq,Prod.mk.injEq] at H;obtain ⟨rfl,rfl,rfl⟩:=H;go_enter Try.func27,Try.ntmps27;go_wp2_with (first|(refine gD 1 ?_;refine box_event ?hg (N:=1) ?hd (cs:=#[.slice aj Z.length am,.slice ak aa.length ao]) (t:=52) ?hr ?_;(case hd=>rfl);(case hg=>rfl);(case hr=>go_simp <;> rfl);intro ar hg cW a4 hb;have Y:=Aside0.mk (a4);have de:=gS (w:=w) hg (bB HB);have af:=gS (w:=w) hg (bB HB);replace HB:=Aside0.mk (below_step (bB HB) hb);clear hb a4 hg;have ek:cW.cell? ⟨ar,0,none⟩=some (.slice aj Z.length am):=(blk_cell Y.out 0).trans rfl;have el:cW.cell? ⟨ar,1,none⟩=some (.slice ak aa.length ao):=(blk_cell Y.out 1).trans rfl;have em:=blk_frozen Y.out 0;have en:=blk_frozen Y.out 1)|(refine gL 13 Try.func84 #[.agg #[.slice aj Z.length am,.slice ak aa.length ao]] ?_;(with_reducible refine (spec_l4Mixed.calls k _ _ Z _ _ aa false _ ?side1 ?side2 ?side3 ?side4 A2.out).mono ?_);(case side1=>exact cB aW HB);(case side2=>exact aR.out);(case side3=>exact cB aX HB);(case side4=>exact aU.out);rintro e eE ⟨rfl,hb⟩;refine ⟨_,rfl,?_⟩;replace Y:=Aside0.mk (bW Y hb);replace HB:=Aside0.mk (below_step (bC HB af) hb);(try clear hb);(try clear hi))|(refine gD 15 ?_;refine Kd.R_lit (Kd.int .i64) _ 3 ?hg (N:=15) ?hd (xs:=([]:List Int)) (inner:=[]) (ok:=fun _=>True) (okp:=fun _=>True) ?hr ?hp (fun _ hk=>hk) trivial (Below.refl _ _) (Nat.le_refl _) (by simp) ?_;(case hd=>rfl);(case hg=>rfl);(case hr=>go_simp <;> rfl);(case hp=>exact (Reps.none _ _));intro ew eF a5 hb hg_ hnew_;clear hg_ hnew_;(first|rw[← cj.out] at a5|(simp only[Int.reduceToNat] at a5;rw[← cj.out] at a5));have dj:=Aside0.mk (Kd.R_lower a5 (below_size (bC HB af)));replace Y:=Aside0.mk (bW Y hb);replace HB:=Aside0.mk (below_step (bC HB af) hb);clear hb a5))
   go_ret3
   exact ⟨_,eW,by (with_reducible repeat (first|apply Kd.R_alloc|apply Kd.R_drewN|apply Kd.R_drew));exact dj.out,bC HB af⟩
end Go.Proofs.Ytkbahcbankfffaa.PFnPlanesOfPairs
