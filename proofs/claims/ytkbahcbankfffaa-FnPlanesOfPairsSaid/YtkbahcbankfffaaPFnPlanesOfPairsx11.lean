import Derived.Test.YtkbahcbankfffaaPFnPlanesOfPairsx0
import Derived.Test.YtkbahcbankfffaaPFnPlanesOfPairsx2
import Derived.Test.YtkbahcbankfffaaPFnPlanesOfPairsx10
import Derived.Test.YtkbahcbankfffaaSh
import Derived.Test.YtkbahcbankfffaaSz
namespace Go.Proofs.Ytkbahcbankfffaa.PFnPlanesOfPairs
open Go.RowKit Go.Proofs.Ytkbahcbankfffaa.Sh Go.Proofs.YtkbahcbankfffaaW.PrintWords Go.Proofs.YtkbahcbankfffaaW.PrintLast Go.Proofs.YtkbahcbankfffaaW.PrintMore
attribute [local go_sem] max2_int min2_int max_two min_two max_three min_three max_four min_four
set_option linter.unusedVariables false
set_option maxHeartbeats 8000000
set_option maxRecDepth 100000
set_option linter.unusedSimpArgs false
mutual
def impl_MeanPlane.l0:Nat→List Int→List Int→Int→Int→List (List Int)→Int→Int→List (List Int)→List Int→Option (List Int×Int×Bool)
 | 0,_,_,_,_,_,_,_,_,_=>none
 | k+1,x6,J,x8,X,Z,ac,Y,ag,aa=>if Y<ac then (if 0≤Y then (if Y<(Z.length:Int) then (impl_MeanPlane.l1 k x6 J x8 X Y Z ac Y (rd_L3 Z Y) ((rd_L3 Z Y).length:Int) 0 ag aa) else (none)) else (none)) else (impl_MeanPlane.l2 k x6 J x8 X (([]:List Int)) (x6.length:Int) 0)
def impl_MeanPlane.l1:Nat→List Int→List Int→Int→Int→Int→List (List Int)→Int→Int→List Int→Int→Int→List (List Int)→List Int→Option (List Int×Int×Bool)
 | 0,_,_,_,_,_,_,_,_,_,_,_,_,_=>none
 | k+1,x6,J,x8,X,ae,Z,ac,Y,af,ai,U,ag,aa=>if U<ai then (if 0≤U then (if U<(af.length:Int) then (if 0≤ae then (if ae<(aa.length:Int) then (if (rd aa ae)=1 then (if U<(x6.length:Int) then (impl_MeanPlane.l1 k (x6.set (U:Int).toNat (wrap64 ((rd x6 U)+(rd af U)))) J x8 X ae Z ac Y af ai (wrap64 (U+1)) ag aa) else (none)) else (if U<(J.length:Int) then (impl_MeanPlane.l1 k x6 (J.set (U:Int).toNat (wrap64 ((rd J U)+(rd af U)))) x8 X ae Z ac Y af ai (wrap64 (U+1)) ag aa) else (none))) else (none)) else (none)) else (none)) else (none)) else (impl_MeanPlane.l0 k x6 J x8 X Z ac (wrap64 (Y+1)) ag aa)
def impl_MeanPlane.l2:Nat→List Int→List Int→Int→Int→List Int→Int→Int→Option (List Int×Int×Bool)
 | 0,_,_,_,_,_,_,_=>none
 | k+1,x6,J,x8,X,ah,aj,ab=>if ab<aj then (if 0≤ab then (if ab<(x6.length:Int) then (if ab<(J.length:Int) then (if ah.length<17592186044416 then (impl_MeanPlane.l2 k x6 J x8 X (ah++[wrap64 ((wrap64 ((wrap64 (2*x8))*X))*(wrap64 ((wrap64 (X*(rd x6 ab)))-(wrap64 (x8*(rd J ab))))))]) aj (wrap64 (ab+1))) else (none)) else (none)) else (none)) else (none)) else ((impl_product.f k x6 x6).bind fun ak=>((impl_product.f k J J).bind fun al=>(some (ah,wrap64 ((wrap64 ((wrap64 (X*X))*ak))-(wrap64 ((wrap64 (x8*x8))*al))),true))))
end
def impl_MeanPlane.f (k:Nat) (J:List (List Int)) (U:List Int):Option (List Int×Int×Bool):=(impl_isMixed.f k J U).bind fun X=>(if X=true then (if 0<(J.length:Int) then (if 0≤((rd_L3 J 0).length:Int) then (if (((rd_L3 J 0).length:Int):Int).toNat≤35184372088832 then ((impl_Sample_with.f k J U 1).bind fun Y=>((impl_Sample_with.f k J U (-1)).bind fun Z=>(impl_MeanPlane.l0 k (List.replicate (((rd_L3 J 0).length:Int):Int).toNat 0) (List.replicate (((rd_L3 J 0).length:Int):Int).toNat 0) (Y.length:Int) (Z.length:Int) J (J.length:Int) 0 J U))) else (none)) else (none)) else (none)) else (some (([]:List Int),0,false)))
def impl_MeanPlane.T5:Bool×List (List Nat×List Nat):=(true,[([],[]),([0],[0]),([1],[1]),([],[]),([3,1],[3]),([4],[4]),([2,4,0,1,2],[2]),([5,6,0,1,2,3,4,5,6],[5])])
def impl_MeanPlane.B5:List Nat:=[0,1,3,0,11,27,31,127]
theorem impl_MeanPlane.tab5:rtab .any (opsOf Try.f26 5)=impl_MeanPlane.T5:=by kernel_rfl
theorem impl_MeanPlane.bits5:waitsOk impl_MeanPlane.T5.2 impl_MeanPlane.B5=true:=by kernel_rfl
def impl_MeanPlane.T21:Bool×List (List Nat×List Nat):=(true,[([],[]),([],[]),([1],[1]),([],[]),([2,3],[2,3]),([],[]),([],[]),([],[]),([6,7],[6,7]),([8],[8]),([5,9],[5,9]),([],[]),([],[]),([],[]),([12,13],[12,13]),([14],[14]),([11,15],[11,15]),([10,16],[10,16]),([4,17],[4,17]),([18],[18]),([0,19],[0,19]),([20,20,0,1,2,3,4,5,6,7,8,9,10,11,12,13,14,15,16,17,18,19,20],[0,20])])
def impl_MeanPlane.B21:List Nat:=[0,0,2,0,14,0,0,0,192,448,992,0,0,0,12288,28672,63488,131040,262142,524286,1048575,2097151]
theorem impl_MeanPlane.tab21:rtab .any (opsOf Try.f26 21)=impl_MeanPlane.T21:=by kernel_rfl
theorem impl_MeanPlane.bits21:waitsOk impl_MeanPlane.T21.2 impl_MeanPlane.B21=true:=by kernel_rfl
theorem impl_MeanPlane.calls (k:Nat) (aG:Option Addr) (ag:Nat) (J:List (List Int)) (aj:Option Addr) (ah:Nat) (X:List Int) (r1:List Int) (r2:Int) (r3:Bool) (w:World) (di:Kd.C (Kd.slice 3 (Kd.int .i64)) w aG J.length J) (dc:J.length≤ag) (dj:Kd.C (Kd.int .i64) w aj X.length X) (dd:X.length≤ah) (h:impl_MeanPlane.f k J X=some (r1,r2,r3)) :
 Calls Try.prog 26 #[.agg #[.slice aG J.length ag,.slice aj X.length ah]] w fun e w' => ∃ dn:Value,e = .returned (.tuple #[dn,.int .i64 r2,.bool r3])∧Kd.R (Kd.int .i64) 3 w' w.heap.size (fun _=>True) dn r1∧Below w.heap.size w w' := by
 have e3:=Try.underlying52;have aY:=Aside0.mk di;have bk:=Aside0.mk dc;clear di dc;have aZ:=Aside0.mk dj;have bl:=Aside0.mk dd;clear dj dd;have HB:=Aside0.mk (Below.refl w.heap.size w);have H:((impl_isMixed.f k J X).bind fun cx=>(if cx=true then (if 0<(J.length:Int) then (if 0≤((rd_L3 J 0).length:Int) then (if (((rd_L3 J 0).length:Int):Int).toNat≤35184372088832 then ((impl_Sample_with.f k J X 1).bind fun ak=>((impl_Sample_with.f k J X (-1)).bind fun al=>(impl_MeanPlane.l0 k (List.replicate (((rd_L3 J 0).length:Int):Int).toNat 0) (List.replicate (((rd_L3 J 0).length:Int):Int).toNat 0) (ak.length:Int) (al.length:Int) J (J.length:Int) 0 J X))) else (none)) else (none)) else (none)) else (some (([]:List Int),0,false))))=some (r1,r2,r3):=h;clear h;obtain ⟨cx,A2,H⟩:=bS H;by_cases c3:cx=true
 · subst c3;replace H:=iT H;by_cases c4:0<(J.length:Int)
   · replace H:=iP c4 H;have c4b0:=decide_eq_true c4;have c4b1:decide (0<J.length)=true:=decide_eq_true (by omega);clear c4;by_cases c5:0≤((rd_L3 J 0).length:Int)
     · replace H:=iP c5 H;have c5b0:=eq_true c5;have c5b1:=decide_eq_true c5;clear c5;by_cases c6:(((rd_L3 J 0).length:Int):Int).toNat≤35184372088832
       · replace H:=iP c6 H;have bO:=eq_true c6;have bP:decide ((((rd_L3 J 0).length:Int):Int).toNat≤35184372088832)=true:=decide_eq_true c6;clear c6;obtain ⟨bj,ce⟩:∃ y_:List Int,y_=(List.replicate (((rd_L3 J 0).length:Int):Int).toNat 0):=⟨_,rfl⟩;replace H:((impl_Sample_with.f k J X 1).bind fun ak=>((impl_Sample_with.f k J X (-1)).bind fun al=>(impl_MeanPlane.l0 k bj (List.replicate (((rd_L3 J 0).length:Int):Int).toNat 0) (ak.length:Int) (al.length:Int) J (J.length:Int) 0 J X)))=some (r1,r2,r3):=yH ce H
         have bn:=Aside0.mk ce;clear ce;obtain ⟨bH,cf⟩:∃ y_:List Int,y_=(List.replicate (((rd_L3 J 0).length:Int):Int).toNat 0):=⟨_,rfl⟩;replace H:((impl_Sample_with.f k J X 1).bind fun ak=>((impl_Sample_with.f k J X (-1)).bind fun al=>(impl_MeanPlane.l0 k bj bH (ak.length:Int) (al.length:Int) J (J.length:Int) 0 J X)))=some (r1,r2,r3):=yH cf H
         have bo:=Aside0.mk cf;clear cf;obtain ⟨ak,A7,H⟩:=bS H;obtain ⟨al,A8,H⟩:=bS H;have H' := Aside0.mk H;clear H;go_enter Try.func26,Try.ntmps26;try go_wp2_with (first|(refine gD 1 ?_;refine box_event ?hg (N:=1) ?hd (cs:=#[.slice aG J.length ag,.slice aj X.length ah]) (t:=52) ?hr ?_;(case hd=>rfl);(case hg=>rfl);(case hr=>go_simp <;> rfl);intro ai hg w9 bf hb;have U:=Aside0.mk (bf);have dA:=gS (w:=w) hg (bB HB);have ae:=gS (w:=w) hg (bB HB);replace HB:=Aside0.mk (below_step (bB HB) hb);clear hb bf hg;have bV:w9.cell? ⟨ai,0,none⟩=some (.slice aG J.length ag):=(blk_cell U.out 0).trans rfl;have bX:w9.cell? ⟨ai,1,none⟩=some (.slice aj X.length ah):=(blk_cell U.out 1).trans rfl;have b2:=blk_frozen U.out 0;have b3:=blk_frozen U.out 1)|(refine gL 17 Try.func82 #[.agg #[.slice aG J.length ag,.slice aj X.length ah]] ?_;(with_reducible refine (impl_isMixed.calls k _ _ J _ _ X true _ ?side1 ?side2 ?side3 ?side4 A2.out).mono ?_);(case side1=>exact cB aY HB);(case side2=>exact bk.out);(case side3=>exact cB aZ HB);(case side4=>exact bl.out);rintro e cz ⟨rfl,hb⟩;refine ⟨_,rfl,?_⟩;replace U:=Aside0.mk (bW U hb);replace HB:=Aside0.mk (below_step (bC HB ae) hb);(try clear hb);have bY:cz.cell? ⟨ai,0,none⟩=some (.slice aG J.length ag):=(blk_cell U.out 0).trans rfl;have bZ:cz.cell? ⟨ai,1,none⟩=some (.slice aj X.length ah):=(blk_cell U.out 1).trans rfl;have b7:=blk_frozen U.out 0;have b8:=blk_frozen U.out 1;have a4:0≤(0:Int):=(by omega);have a5:0<(J.length:Int):=of_decide_eq_true aS;obtain ⟨au,eh,eC,dP,aQ,dg,de⟩:=at_L3 aY.out 0 a4 a5;cases dP;have e6:(0<J.length)=True:=eq_true (by omega);(try rw[show ((0:Int)).toNat=0 from rfl] at aQ);(try rw[Addr.add_zero'] at aQ);replace aQ:=hC HB aQ;have et:=Aside0.mk de;have eq:=Aside0.mk dg;clear de dg;replace a4:=eq_true a4;replace a5:=eq_true a5))
         replace U:=Aside0.mk (blk_drew U.out);replace HB:=Aside0.mk (below_drew1 HB.out);refine start_ (n:=6) (S:=fun w' => True) (ds:=[]) #[false,false,false,false,false,false] (by kernel_rfl) rfl rfl trivial (fun aq => ?_);generalize cz.drew=w13 at U HB aq ⊢;refine pure_ (i:=0) (N:=some 24) (v := ?_) (a' := ?_) #[true,false,false,false,false,false] rfl rfl (by kernel_rfl) (fun _ _ _ h=>h) (Or.inl ⟨by rfl,?_⟩) ?_ ?_;rotate_left
         · intro w';go_simp;with_reducible rfl
         rotate_left
         · exact aP
         refine pure_ (i:=2) (N:=some 26) (v := ?_) (a' := ?_) #[true,false,true,false,false,false] rfl rfl (by kernel_rfl) (fun _ _ _ h=>h) (Or.inl ⟨by rfl,?_⟩) ?_ ?_;rotate_left
         · intro w';go_simp;with_reducible rfl
         rotate_left
         · exact aP
         refine join_ (σ:=Value×Value) 1 #[true,true,true,true,true,false] (fun s_=>[(25,s_.1),(27,s_.2),(6,s_.1)]) (fun s_ w' => (Kd.R (Kd.int .i64) 3 w' w.heap.size (fun k_=>some k_≠(s_.2:Value).ownBlock) s_.1 bj)∧(Kd.R (Kd.int .i64) 3 w' w.heap.size (fun k_=>some k_≠(s_.1:Value).ownBlock) s_.2 bH)∧(w'.heap[ai]? = some (.cells #[.slice (some au) J.length ag,.slice aj X.length ah] 52 (0,0)))∧(Below w.heap.size w w')) ?_ ?_;rotate_left
         · intro db;refine two_ (i:=1) (j:=3) (Ni:=some 25) (Nj:=some 27) #[true,true,true,false,false,false] #[true,false,true,true,false,false] rfl rfl rfl rfl (by kernel_rfl) (by decide) (by decide) (fun K hK => ?_) (fun K hK => ?_)
           · skip
             refine Kd.R_make_step (Kd.int .i64) _ 3 (by rfl) (N:=25) rfl 24 _ _ rfl ((rd_L3 J 0).length:Int) rfl rfl Try.underlying24 (.int .i64 0) 8 info3 rfl (by decide) (by omega) 0 (ok:=fun _=>True) (okp:=fun _=>True) rfl (fun _ hk=>hk) trivial (of_decide_eq_true aS) (Nat.le_trans (Nat.mul_le_mul_right _ (of_decide_eq_true aS:((rd_L3 J 0).length:Int).toNat≤35184372088832)) (by omega)) (Below.refl _ _) (Nat.le_refl _) ?_;intro aD w14 aC hb hg_ hnew_;clear hg_ hnew_;(first|rw[← bn.out] at aC|(simp only[Int.reduceToNat] at aC;rw[← bn.out] at aC));have ao:=Aside0.mk (Kd.R_lower aC (below_size (bC HB ae)));replace U:=Aside0.mk (bW U hb);replace HB:=Aside0.mk (below_step (bC HB ae) hb);clear hb aC;refine hK.out _ _ trivial (fun aq => ?_);clear hK K;refine norm_ (a' := ?_) ?_ ?_;rotate_left
             · show Act.put _ (some 25) _=_
               simp only[Act.put,List.setIfInBounds_toArray,List.set_cons_zero,List.set_cons_succ,i64_w,i32_w];rfl
             refine pure_ (i:=4) (N:=some 6) (v := ?_) (a' := ?_) #[true,true,true,false,true,false] rfl rfl (by kernel_rfl) (fun _ _ _ h=>h) (Or.inl ⟨by rfl,?_⟩) ?_ ?_;rotate_left
             · intro w';go_simp;with_reducible rfl
             rotate_left
             · exact aP
             refine one_ (i:=3) (N:=some 27) #[true,true,true,true,true,false] rfl rfl (by kernel_rfl) (by decide) (fun K hK => ?_);refine Kd.R_make_step (Kd.int .i64) _ 3 (by rfl) (N:=27) rfl 24 _ _ rfl ((rd_L3 J 0).length:Int) rfl rfl Try.underlying24 (.int .i64 0) 8 info3 rfl (by decide) (by omega) 0 (ok:=fun _=>True) (okp:=fun _=>True) rfl (fun _ hk=>hk) trivial (of_decide_eq_true aS) (Nat.le_trans (Nat.mul_le_mul_right _ (of_decide_eq_true aS:((rd_L3 J 0).length:Int).toNat≤35184372088832)) (by omega)) (Below.refl _ _) (Nat.le_refl _) ?_;intro av ef aw hb hg_ hnew_;clear hg_ hnew_;(first|rw[← bo.out] at aw|(simp only[Int.reduceToNat] at aw;rw[← bo.out] at aw));have ap:=Aside0.mk (Kd.R_lower (Kd.R_new' aw (Kd.R_lt (pR ao))) (below_size (bC HB ae)));replace ao:=Aside0.mk (Kd.R_elder' (pR ao) (Kd.R_base aw) hb);replace U:=Aside0.mk (bW U hb);replace HB:=Aside0.mk (below_step (bC HB ae) hb);clear hb aw;refine hK.out _ _ trivial (fun aq => ?_);clear hK K;refine norm_ (a' := ?_) ?_ ?_;rotate_left
             · show Act.put _ (some 27) _=_
               simp only[Act.put,List.setIfInBounds_toArray,List.set_cons_zero,List.set_cons_succ,i64_w,i32_w];rfl
             exact norm_ (by simp only[putAll,Act.put,List.setIfInBounds_toArray,List.set_cons_zero,List.set_cons_succ]) (db (aD,av) _ ⟨(by (with_reducible repeat (first|apply Kd.R_alloc|apply Kd.R_drewN|apply Kd.R_drew));exact Kd.R_mono ao.out (fun _ hk=>hk.2)),(by (with_reducible repeat (first|apply Kd.R_alloc|apply Kd.R_drewN|apply Kd.R_drew));exact Kd.R_mono ap.out (fun _ hk=>hk.2)),(pB U),(bC HB ae)⟩)
           · skip
             refine Kd.R_make_step (Kd.int .i64) _ 3 (by rfl) (N:=27) rfl 24 _ _ rfl ((rd_L3 J 0).length:Int) rfl rfl Try.underlying24 (.int .i64 0) 8 info3 rfl (by decide) (by omega) 0 (ok:=fun _=>True) (okp:=fun _=>True) rfl (fun _ hk=>hk) trivial (of_decide_eq_true aS) (Nat.le_trans (Nat.mul_le_mul_right _ (of_decide_eq_true aS:((rd_L3 J 0).length:Int).toNat≤35184372088832)) (by omega)) (Below.refl _ _) (Nat.le_refl _) ?_;intro av w14 aC hb hg_ hnew_;clear hg_ hnew_;(first|rw[← bo.out] at aC|(simp only[Int.reduceToNat] at aC;rw[← bo.out] at aC));have ap:=Aside0.mk (Kd.R_lower aC (below_size (bC HB ae)));replace U:=Aside0.mk (bW U hb);replace HB:=Aside0.mk (below_step (bC HB ae) hb);clear hb aC;refine hK.out _ _ trivial (fun aq => ?_);clear hK K;refine norm_ (a' := ?_) ?_ ?_;rotate_left
             · show Act.put _ (some 27) _=_
               simp only[Act.put,List.setIfInBounds_toArray,List.set_cons_zero,List.set_cons_succ,i64_w,i32_w];rfl
             refine one_ (i:=1) (N:=some 25) #[true,true,true,true,false,false] rfl rfl (by kernel_rfl) (by decide) (fun K hK => ?_);refine Kd.R_make_step (Kd.int .i64) _ 3 (by rfl) (N:=25) rfl 24 _ _ rfl ((rd_L3 J 0).length:Int) rfl rfl Try.underlying24 (.int .i64 0) 8 info3 rfl (by decide) (by omega) 0 (ok:=fun _=>True) (okp:=fun _=>True) rfl (fun _ hk=>hk) trivial (of_decide_eq_true aS) (Nat.le_trans (Nat.mul_le_mul_right _ (of_decide_eq_true aS:((rd_L3 J 0).length:Int).toNat≤35184372088832)) (by omega)) (Below.refl _ _) (Nat.le_refl _) ?_;intro aD ef aw hb hg_ hnew_;clear hg_ hnew_;(first|rw[← bn.out] at aw|(simp only[Int.reduceToNat] at aw;rw[← bn.out] at aw));have ao:=Aside0.mk (Kd.R_lower (Kd.R_new' aw (Kd.R_lt (pR ap))) (below_size (bC HB ae)));replace ap:=Aside0.mk (Kd.R_elder' (pR ap) (Kd.R_base aw) hb);replace U:=Aside0.mk (bW U hb);replace HB:=Aside0.mk (below_step (bC HB ae) hb);clear hb aw;refine hK.out _ _ trivial (fun aq => ?_);clear hK K;refine norm_ (a' := ?_) ?_ ?_;rotate_left
             · show Act.put _ (some 25) _=_
               simp only[Act.put,List.setIfInBounds_toArray,List.set_cons_zero,List.set_cons_succ,i64_w,i32_w];rfl
             refine pure_ (i:=4) (N:=some 6) (v := ?_) (a' := ?_) #[true,true,true,true,true,false] rfl rfl (by kernel_rfl) (fun _ _ _ h=>h) (Or.inl ⟨by rfl,?_⟩) ?_ ?_;rotate_left
             · intro w';go_simp;with_reducible rfl
             rotate_left
             · exact aP
             exact norm_ (by simp only[putAll,Act.put,List.setIfInBounds_toArray,List.set_cons_zero,List.set_cons_succ]) (db (aD,av) _ ⟨(by (with_reducible repeat (first|apply Kd.R_alloc|apply Kd.R_drewN|apply Kd.R_drew));exact Kd.R_mono ao.out (fun _ hk=>hk.2)),(by (with_reducible repeat (first|apply Kd.R_alloc|apply Kd.R_drewN|apply Kd.R_drew));exact Kd.R_mono ap.out (fun _ hk=>hk.2)),(pB U),(bC HB ae)⟩)
         rintro ⟨aD,av⟩ bi ⟨cX,cY,cZ,da⟩;have ao:Aside0 (Kd.R (Kd.int .i64) 3 bi w.heap.size (fun k_=>some k_≠(av:Value).ownBlock) aD bj):=⟨cX⟩;have ap:Aside0 (Kd.R (Kd.int .i64) 3 bi w.heap.size (fun k_=>some k_≠(aD:Value).ownBlock) av bH):=⟨cY⟩;replace U:Aside0 (bi.heap[ai]? = some (.cells #[.slice (some au) J.length ag,.slice aj X.length ah] 52 (0,0))):=⟨cZ⟩;replace HB:Aside0 (Below w.heap.size w bi):=⟨da⟩;clear cX cY cZ da;have aq:=trivial;refine norm_ (a' := ?_) ?_ ?_;rotate_left
         · simp only[putAll,Act.put,List.setIfInBounds_toArray,List.set_cons_zero,List.set_cons_succ];rfl
         refine pure_ (i:=5) (N:=some 7) (v := ?_) (a' := ?_) #[true,true,true,true,true,true] rfl rfl (by kernel_rfl) (fun _ _ _ h=>h) (Or.inl ⟨by rfl,?_⟩) ?_ ?_;rotate_left
         · intro w';go_simp;with_reducible rfl
         rotate_left
         · exact aP
         refine done_ (by kernel_rfl) ?_;try go_wp2
         replace ao:=Aside0.mk (Kd.R_drew ao.out);replace ap:=Aside0.mk (Kd.R_drew ap.out);replace U:=Aside0.mk (blk_drew U.out);replace HB:=Aside0.mk (below_drew1 HB.out);refine start_ (n:=8) (S:=fun w' => w'.cell? ⟨ai,0,none⟩=some (.slice (some au) J.length ag)∧w'.cell? ⟨ai,1,none⟩=some (.slice aj X.length ah)) (ds:=[]) #[false,false,false,false,false,false,false,false] (by kernel_rfl) rfl rfl ⟨(blk_cell U.out 0).trans rfl,(blk_cell U.out 1).trans rfl⟩ (fun aq => ?_);refine with_tabW impl_MeanPlane.tab5 impl_MeanPlane.bits5 (fun ac a8 => ?_);generalize bi.drew=w19 at ao ap U HB aq ⊢;refine take_ (i:=0) (N:=some 28) (v := ?_) (a' := ?_) #[true,false,false,false,false,false,false,false] rfl rfl (take_ofW ac.out a8.out (by kernel_rfl)) (fun _ _ _ h=>h) (Or.inl ⟨by rfl,?_⟩) aq ?_ ?_;rotate_left
         · rintro w' ⟨s0,s1⟩;go_simp;with_reducible rfl
         rotate_left
         · exact aP
         refine take_ (i:=3) (N:=some 31) (v := ?_) (a' := ?_) #[true,false,false,true,false,false,false,false] rfl rfl (take_ofW ac.out a8.out (by kernel_rfl)) (fun _ _ _ h=>h) (Or.inl ⟨by rfl,?_⟩) aq ?_ ?_;rotate_left
         · rintro w' ⟨s0,s1⟩;go_simp;with_reducible rfl
         rotate_left
         · exact aP
         refine one_ (i:=1) (N:=some 29) #[true,true,false,true,false,false,false,false] rfl rfl (one_of ac.out (by kernel_rfl)) (by decide) (fun K hK => ?_);refine goes_ Try.func83 (by kernel_rfl) rfl #[.agg #[.slice (some au) J.length ag,.slice aj X.length ah],.int .i64 1] (by rfl) rfl rfl aT ?_;with_reducible refine (impl_Sample_with.calls k _ _ J _ _ X 1 ak _ ?side1 ?side2 ?side3 ?side4 A7.out).mono ?_
         (case side1=>exact cB aY HB);(case side2=>exact bk.out);(case side3=>exact cB aZ HB);(case side4=>exact bl.out);rintro e fb ⟨e7,rfl,aE,hb⟩;refine ⟨_,rfl,?_⟩;have bm:=Aside0.mk (Kd.R_lower (Kd.R_new' (Kd.R_new' aE (Kd.R_lt (pR ao))) (Kd.R_lt (pR ap))) (below_size (bC HB ae)));replace ao:=Aside0.mk (Kd.R_elder' (pR ao) (Kd.R_base aE) hb);replace ap:=Aside0.mk (Kd.R_elder' (pR ap) (Kd.R_base aE) hb);replace U:=Aside0.mk (bW U hb);replace HB:=Aside0.mk (below_step (bC HB ae) hb);(try clear hb);(try clear aE);obtain ⟨ej,eJ,cP⟩:=Kd.R_slice bm.out;(first|subst cP|(injection cP with f1_ f2_ f3_;have ba:=f1_.symm;have bb:=f3_.symm;clear f1_ f2_ f3_;subst ba;subst bb));refine hK.out _ _ ⟨(blk_cell U.out 0).trans rfl,(blk_cell U.out 1).trans rfl⟩ (fun aq => ?_);clear hK K;refine norm_ (a' := ?_) ?_ ?_;rotate_left
         · show Act.put _ (some 29) _=_
           simp only[Act.put,List.setIfInBounds_toArray,List.set_cons_zero,List.set_cons_succ,i64_w,i32_w];rfl
         refine pure_ (i:=2) (N:=some 30) (v := ?_) (a' := ?_) #[true,true,true,true,false,false,false,false] rfl rfl (any_of ac.out (by kernel_rfl)) (fun _ _ _ h=>h) (Or.inl ⟨by rfl,?_⟩) ?_ ?_;rotate_left
         · intro w';go_simp;with_reducible rfl
         rotate_left
         · exact aP
         refine one_ (i:=4) (N:=some 32) #[true,true,true,true,true,false,false,false] rfl rfl (one_of ac.out (by kernel_rfl)) (by decide) (fun K hK => ?_);refine goes_ Try.func83 (by kernel_rfl) rfl #[.agg #[.slice (some au) J.length ag,.slice aj X.length ah],.int .i64 (-1)] (by rfl) rfl rfl aT ?_;with_reducible refine (impl_Sample_with.calls k _ _ J _ _ X (-1) al _ ?side1 ?side2 ?side3 ?side4 A8.out).mono ?_
         (case side1=>exact cB aY HB);(case side2=>exact bk.out);(case side3=>exact cB aZ HB);(case side4=>exact bl.out);rintro e dp ⟨e8,rfl,aE,hb⟩;refine ⟨_,rfl,?_⟩;have dB:=Aside0.mk (Kd.R_lower (Kd.R_new' (Kd.R_new' (Kd.R_new' aE (Kd.R_lt (pR ao))) (Kd.R_lt (pR ap))) (Kd.R_lt (pR bm))) (below_size (bC HB ae)));replace ao:=Aside0.mk (Kd.R_elder' (pR ao) (Kd.R_base aE) hb);replace ap:=Aside0.mk (Kd.R_elder' (pR ap) (Kd.R_base aE) hb);replace bm:=Aside0.mk (Kd.R_elder' (pR bm) (Kd.R_base aE) hb);replace U:=Aside0.mk (bW U hb);replace HB:=Aside0.mk (below_step (bC HB ae) hb);(try clear hb);(try clear aE);obtain ⟨ek,co23,eo23⟩:=Kd.R_slice dB.out;(first|subst eo23|(injection eo23 with f1_ f2_ f3_;have ba:=f1_.symm;have bb:=f3_.symm;clear f1_ f2_ f3_;subst ba;subst bb));refine hK.out _ _ ⟨(blk_cell U.out 0).trans rfl,(blk_cell U.out 1).trans rfl⟩ (fun aq => ?_);clear hK K;refine norm_ (a' := ?_) ?_ ?_;rotate_left
         · show Act.put _ (some 32) _=_
           simp only[Act.put,List.setIfInBounds_toArray,List.set_cons_zero,List.set_cons_succ,i64_w,i32_w];rfl
         refine pure_ (i:=5) (N:=some 33) (v := ?_) (a' := ?_) #[true,true,true,true,true,true,false,false] rfl rfl (any_of ac.out (by kernel_rfl)) (fun _ _ _ h=>h) (Or.inl ⟨by rfl,?_⟩) ?_ ?_;rotate_left
         · intro w';go_simp;with_reducible rfl
         rotate_left
         · exact aP
         refine pure_ (i:=6) (N:=some 8) (v := ?_) (a' := ?_) #[true,true,true,true,true,true,true,false] rfl rfl (any_of ac.out (by kernel_rfl)) (fun _ _ _ h=>h) (Or.inl ⟨by rfl,?_⟩) ?_ ?_;rotate_left
         · intro w';go_simp;with_reducible rfl
         rotate_left
         · exact aP
         refine pure_ (i:=7) (N:=some 9) (v := ?_) (a' := ?_) #[true,true,true,true,true,true,true,true] rfl rfl (any_of ac.out (by kernel_rfl)) (fun _ _ _ h=>h) (Or.inl ⟨by rfl,?_⟩) ?_ ?_;rotate_left
         · intro w';go_simp;with_reducible rfl
         rotate_left
         · exact aP
         refine done_ (done_of ac.out (by kernel_rfl)) ?_;have b0:dp.cell? ⟨ai,0,none⟩=some (.slice (some au) J.length ag):=(blk_cell U.out 0).trans rfl;have b1:dp.cell? ⟨ai,1,none⟩=some (.slice aj X.length ah):=(blk_cell U.out 1).trans rfl;have b9:=blk_frozen U.out 0;have ca:=blk_frozen U.out 1;try go_wp2
         go_loopg [37] k (fun kq ec w' => ∃ (x6_1:List Int) (am:List Int) (Z:Int),ec = .int .i64 Z∧Aside0 (impl_MeanPlane.l0 kq x6_1 am (ak.length:Int) (al.length:Int) J (J.length:Int) Z J X=some (r1,r2,r3))∧Aside0 (kq≤k)∧Aside0 (Kd.R (Kd.int .i64) 3 w' w.heap.size (fun k_=>some k_≠(av:Value).ownBlock) aD x6_1)∧Aside0 (Kd.R (Kd.int .i64) 3 w' w.heap.size (fun k_=>some k_≠(aD:Value).ownBlock) av am)∧Aside0 (w'.heap[ai]? = some (.cells #[(.slice (some au) J.length ag),(.slice aj X.length ah)] 52 (0,0)))∧Aside0 (Below w.heap.size w w'))
         case atStart=>exact ⟨(bj),(bH),(0),rD,H',⟨Nat.le_refl _⟩,⟨by (with_reducible repeat (first|apply Kd.R_alloc|apply Kd.R_drewN|apply Kd.R_drew));exact Kd.R_mono ao.out (fun _ hk=>hk.1.1)⟩,⟨by (with_reducible repeat (first|apply Kd.R_alloc|apply Kd.R_drewN|apply Kd.R_drew));exact Kd.R_mono ap.out (fun _ hk=>hk.1.1)⟩,⟨pB U⟩,⟨bC HB ae⟩⟩
         case round =>
          clear H';try clear c3
          try clear c4
          try clear c4b0
          try clear c4b1
          try clear c5
          try clear c5b0
          try clear c5b1
          try clear c6
          try clear bO
          try clear bP
          try clear bV
          try clear bX
          try clear bY
          try clear bZ
          try clear b0
          try clear b1
          try clear b2
          try clear b3
          try clear b7
          try clear b8
          try clear b9
          try clear ca
          try clear aQ
          try clear a4
          try clear a5
          obtain ⟨x6_1,am,Z,rfl,HA,HK1,HO_6,ab,U,HB⟩:=hrel;cases gk with
          | zero=>exact absurd HA.out (by simp[impl_MeanPlane.l0])
          | succ k1 =>
           have H:=HA.out;clear HA;simp only[impl_MeanPlane.l0] at H;by_cases aH:Z<(J.length:Int)
           · replace H:=iP aH H;have bN:=decide_eq_true aH;clear aH;by_cases c26:0≤Z
             · replace H:=iP c26 H;have c26b0:=decide_eq_true c26;clear c26;by_cases a9:Z<(J.length:Int)
               · replace H:=iP a9 H;have dK:=decide_eq_true a9;clear a9;have H' := Aside0.mk H;clear H;have bF:0≤(Z:Int):=of_decide_eq_true aS;have bG:Z<(J.length:Int):=of_decide_eq_true aS;obtain ⟨dI,ei,eD,dQ,cd,dh,df⟩:=at_L3 aY.out Z bF bG;obtain rfl:au=dI:=(by injection dQ);replace cd:=hC HB cd;have cK:=Aside0.mk df;have er:=Aside0.mk dh;clear df dh;replace bF:=eq_true bF;replace bG:=eq_true bG;go_wp2;go_loopg [44] k1 (fun kq ed w' => ∃ (x6_2:List Int) (ar:List Int) (Y:Int),ed = .int .i64 Y∧Aside0 (impl_MeanPlane.l1 kq x6_2 ar (ak.length:Int) (al.length:Int) Z J (J.length:Int) Z (rd_L3 J Z) ((rd_L3 J Z).length:Int) Y J X=some (r1,r2,r3))∧Aside0 (kq≤k1)∧Aside0 (Kd.R (Kd.int .i64) 3 w' w.heap.size (fun k_=>some k_≠(av:Value).ownBlock) aD x6_2)∧Aside0 (Kd.R (Kd.int .i64) 3 w' w.heap.size (fun k_=>some k_≠(aD:Value).ownBlock) av ar)∧Aside0 (w'.heap[ai]? = some (.cells #[(.slice (some au) J.length ag),(.slice aj X.length ah)] 52 (0,0)))∧Aside0 (Below w.heap.size w w'))
                 case atStart=>exact ⟨(x6_1),(am),(0),rD,H',⟨Nat.le_refl _⟩,⟨pR HO_6⟩,⟨pR ab⟩,⟨pB U⟩,⟨bC HB ae⟩⟩
                 case round =>
                  clear H';try clear c3
                  try clear c4
                  try clear c4b0
                  try clear c4b1
                  try clear c5
                  try clear c5b0
                  try clear c5b1
                  try clear c6
                  try clear bO
                  try clear bP
                  try clear aH
                  try clear bN
                  try clear c26
                  try clear c26b0
                  try clear a9
                  try clear dK
                  try clear bV
                  try clear bX
                  try clear bY
                  try clear bZ
                  try clear b0
                  try clear b1
                  try clear b2
                  try clear b3
                  try clear b7
                  try clear b8
                  try clear b9
                  try clear ca
                  try clear aQ
                  try clear cd
                  try clear a4
                  try clear bF
                  try clear a5
                  try clear bG
                  obtain ⟨x6_2,ar,Y,rfl,HA,HK2,HO_6,ab,U,HB⟩:=hrel;cases gk with
                  | zero=>exact absurd HA.out (by simp[impl_MeanPlane.l1])
                  | succ k2 =>
                   have H:=HA.out;clear HA;simp only[impl_MeanPlane.l1] at H;by_cases a2:Y<((rd_L3 J Z).length:Int)
                   · replace H:=iP a2 H;have dL:=decide_eq_true a2;clear a2;by_cases bp:0≤Y
                     · replace H:=iP bp H;have ew:=decide_eq_true bp;clear bp;by_cases bq:Y<((rd_L3 J Z).length:Int)
                       · replace H:=iP bq H;have ex:=decide_eq_true bq;clear bq;by_cases br:0≤Z
                         · replace H:=iP br H;have ey:=decide_eq_true br;clear br;by_cases bs:Z<(X.length:Int)
                           · replace H:=iP bs H;have ez:=decide_eq_true bs;clear bs;by_cases aK:(rd X Z)=1
                             · replace H:=iP aK H;have dM:=qT aK;have dN:=nF aK;clear aK;by_cases bu:Y<(x6_2.length:Int)
                               · replace H:=iP bu H;have eA:=decide_eq_true bu;clear bu;obtain ⟨cE,cg⟩:∃ y_:List Int,y_=(x6_2.set (Y:Int).toNat (wrap64 ((rd x6_2 Y)+(rd (rd_L3 J Z) Y)))):=⟨_,rfl⟩;replace H:(impl_MeanPlane.l1 k2 cE ar (ak.length:Int) (al.length:Int) Z J (J.length:Int) Z (rd_L3 J Z) ((rd_L3 J Z).length:Int) (wrap64 (Y+1)) J X)=some (r1,r2,r3):=yH cg H
                                 have dF:=Aside0.mk cg;clear cg;have H' := Aside0.mk H;clear H;have aR:0≤(Y:Int):=of_decide_eq_true aS;have aW:Y<((rd_L3 J Z).length:Int):=of_decide_eq_true aS;obtain ⟨dJ,bT,bg⟩:=Kd.at_int cK.out Y aR aW;cases bT
                                 replace bg:=hC HB bg;replace aR:=eq_true aR;replace aW:=eq_true aW;have eM:wr.cell? ⟨ai,0,none⟩=some (.slice (some au) J.length ag):=(blk_cell U.out 0).trans rfl;have eN:wr.cell? ⟨ai,1,none⟩=some (.slice aj X.length ah):=(blk_cell U.out 1).trans rfl;have eU:=blk_frozen U.out 0;have eV:=blk_frozen U.out 1;have aU:0≤(Z:Int):=of_decide_eq_true aS;have aX:Z<(X.length:Int):=of_decide_eq_true aS;obtain ⟨bK,bU,bh⟩:=Kd.at_int aZ.out Z aU aX;cases bU
                                 replace bh:=hC HB bh;replace aU:=eq_true aU;replace aX:=eq_true aX;obtain ⟨el,bQ,dW⟩:=Kd.R_slice HO_6.out;subst dW;have cm:0≤(Y:Int):=of_decide_eq_true aS;have ct:Y<(x6_2.length:Int):=of_decide_eq_true aS;obtain ⟨eu,dS,d8⟩:=Kd.at_int (Kd.R_reads' HO_6.out).2.2 Y cm ct;cases dS
                                 replace cm:=eq_true cm;replace ct:=eq_true ct;have ck:0≤(Y:Int):=of_decide_eq_true aS;have cq:(Y:Int)<((x6_2.length:Int):Int):=of_decide_eq_true aS;obtain ⟨bc,eK,cQ,cV,d6,eH,cI⟩:=Kd.R_form HO_6.out (by omega);(first|cases cQ|(injection cQ with ea_ en_ ec_;(first|subst ea_|(injection ea_ with ea_;subst ea_));subst ec_;clear en_));have dy:=Aside0.mk cV;have eo:=Aside0.mk cI;clear cV d6 cI;(first|simp only[add_plain] at d8|skip);obtain ⟨e4,eS⟩:=Kd.R_celln 0 HO_6.out (Y:Int) ck cq;replace ck:=eq_true ck;replace cq:=eq_true cq;have bI:=Kd.R_putg HO_6.out (Y:Int) (wrap64 ((rd x6_2 Y)+(rd (rd_L3 J Z) Y)));go_wp2_with (first|((with_reducible refine gate_store (t:=3) (p:=61) rfl ?_);refine store_event (t:=3) (p:=61) (v := ?vo_w39) (w1:=(wr.setCell ⟨bc,(Y:Int).toNat,none⟩ (.int .i64 (wrap64 ((rd x6_2 Y)+(rd (rd_L3 J Z) Y)))))) ?hg ?ho ?hn ?hr ?_;(case ho=>rfl);(case hg=>rfl);(case hn=>rfl);(case hr=>go_simp <;> rfl);intro cA hw;have hg:wr.grownBy cA (some bc):=(by rw[hw];exact bI.2);have hp_:Kd.R (Kd.int .i64) 3 cA w.heap.size (fun k_=>some k_≠(av:Value).ownBlock) (.slice (some ⟨bc,0,none⟩) x6_2.length bQ) cE:=(by rw[hw,dF.out];exact bI.1);clear bI;replace ab:=Aside0.mk (Kd.R_after (v:=(.slice (some ⟨bc,0,none⟩) x6_2.length bQ)) (v1:=(.slice (some ⟨bc,0,none⟩) x6_2.length bQ)) (ok:=(fun _=>True)) (by (with_reducible repeat (first|apply Kd.R_alloc|apply Kd.R_drewN|apply Kd.R_drew));exact Kd.R_mono ab.out (fun _ hk=>⟨trivial,hk⟩)) hg (.inl rfl));replace U:=Aside0.mk (blk_grown (g:=ai) (o := .cells #[.slice (some au) J.length ag,.slice (some bK) X.length ah] 52 (0,0)) (pB U) hg (Kd.R_ne HO_6.out U.out (by decide)));replace HO_6:=Aside0.mk (hp_);replace HB:=Aside0.mk ((by rw[hw];exact below_set (HB.out) dy.out:Below w.heap.size w cA));clear hg hw hp_))
                                 go_roundg k2
                                 case measure=>have:=HK1.out;have:=HK2.out;omega
                                 case rel=>exact ⟨(cE),(ar),(wrap64 (Y+1)),rD,H',⟨by have:=HK1.out;have:=HK2.out;omega⟩,⟨pR HO_6⟩,⟨by (with_reducible repeat (first|apply Kd.R_alloc|apply Kd.R_drewN|apply Kd.R_drew));exact Kd.R_mono ab.out (fun _ hk=>hk.2)⟩,⟨pB U⟩,⟨bC HB ae⟩⟩
                               · replace H:=iN bu H;cases H
                             · replace H:=iN aK H;have dM:=qF aK;have dN:=nT aK;by_cases bv:Y<(ar.length:Int)
                               · replace H:=iP bv H;have eB:=decide_eq_true bv;clear bv;obtain ⟨cF,ch⟩:∃ y_:List Int,y_=(ar.set (Y:Int).toNat (wrap64 ((rd ar Y)+(rd (rd_L3 J Z) Y)))):=⟨_,rfl⟩;replace H:(impl_MeanPlane.l1 k2 x6_2 cF (ak.length:Int) (al.length:Int) Z J (J.length:Int) Z (rd_L3 J Z) ((rd_L3 J Z).length:Int) (wrap64 (Y+1)) J X)=some (r1,r2,r3):=yH ch H
                                 have dG:=Aside0.mk ch;clear ch;have H' := Aside0.mk H;clear H;have aR:0≤(Y:Int):=of_decide_eq_true aS;have aW:Y<((rd_L3 J Z).length:Int):=of_decide_eq_true aS;obtain ⟨dJ,bT,bg⟩:=Kd.at_int cK.out Y aR aW;cases bT
                                 replace bg:=hC HB bg;replace aR:=eq_true aR;replace aW:=eq_true aW;have eO:wr.cell? ⟨ai,0,none⟩=some (.slice (some au) J.length ag):=(blk_cell U.out 0).trans rfl;have eP:wr.cell? ⟨ai,1,none⟩=some (.slice aj X.length ah):=(blk_cell U.out 1).trans rfl;have eX:=blk_frozen U.out 0;have eY:=blk_frozen U.out 1;have aU:0≤(Z:Int):=of_decide_eq_true aS;have aX:Z<(X.length:Int):=of_decide_eq_true aS;obtain ⟨bK,bU,bh⟩:=Kd.at_int aZ.out Z aU aX;cases bU
                                 replace bh:=hC HB bh;replace aU:=eq_true aU;replace aX:=eq_true aX;obtain ⟨em,bR,dX⟩:=Kd.R_slice ab.out;subst dX;have cn:0≤(Y:Int):=of_decide_eq_true aS;have cu:Y<(ar.length:Int):=of_decide_eq_true aS;obtain ⟨ev,dT,d9⟩:=Kd.at_int (Kd.R_reads' ab.out).2.2 Y cn cu;cases dT
                                 replace cn:=eq_true cn;replace cu:=eq_true cu;have cl:0≤(Y:Int):=of_decide_eq_true aS;have cr:(Y:Int)<((ar.length:Int):Int):=of_decide_eq_true aS;obtain ⟨bd,eL,cT,cW,d7,eI,cJ⟩:=Kd.R_form ab.out (by omega);(first|cases cT|(injection cT with ea_ en_ ec_;(first|subst ea_|(injection ea_ with ea_;subst ea_));subst ec_;clear en_));have dz:=Aside0.mk cW;have ep:=Aside0.mk cJ;clear cW d7 cJ;(first|simp only[add_plain] at d9|skip);obtain ⟨e5,eT⟩:=Kd.R_celln 0 ab.out (Y:Int) cl cr;replace cl:=eq_true cl;replace cr:=eq_true cr;have bJ:=Kd.R_putg ab.out (Y:Int) (wrap64 ((rd ar Y)+(rd (rd_L3 J Z) Y)));go_wp2_with (first|((with_reducible refine gate_store (t:=3) (p:=68) rfl ?_);refine store_event (t:=3) (p:=68) (v := ?vo_w45) (w1:=(wr.setCell ⟨bd,(Y:Int).toNat,none⟩ (.int .i64 (wrap64 ((rd ar Y)+(rd (rd_L3 J Z) Y)))))) ?hg ?ho ?hn ?hr ?_;(case ho=>rfl);(case hg=>rfl);(case hn=>rfl);(case hr=>go_simp <;> rfl);intro cD hw;have hg:wr.grownBy cD (some bd):=(by rw[hw];exact bJ.2);have hp_:Kd.R (Kd.int .i64) 3 cD w.heap.size (fun k_=>some k_≠(aD:Value).ownBlock) (.slice (some ⟨bd,0,none⟩) ar.length bR) cF:=(by rw[hw,dG.out];exact bJ.1);clear bJ;replace HO_6:=Aside0.mk (Kd.R_after (v:=(.slice (some ⟨bd,0,none⟩) ar.length bR)) (v1:=(.slice (some ⟨bd,0,none⟩) ar.length bR)) (ok:=(fun _=>True)) (by (with_reducible repeat (first|apply Kd.R_alloc|apply Kd.R_drewN|apply Kd.R_drew));exact Kd.R_mono HO_6.out (fun _ hk=>⟨trivial,hk⟩)) hg (.inl rfl));replace U:=Aside0.mk (blk_grown (g:=ai) (o := .cells #[.slice (some au) J.length ag,.slice (some bK) X.length ah] 52 (0,0)) (pB U) hg (Kd.R_ne ab.out U.out (by decide)));replace ab:=Aside0.mk (hp_);replace HB:=Aside0.mk ((by rw[hw];exact below_set (HB.out) dz.out:Below w.heap.size w cD));clear hg hw hp_))
                                 go_roundg k2
                                 case measure=>have:=HK1.out;have:=HK2.out;omega
                                 case rel=>exact ⟨(x6_2),(cF),(wrap64 (Y+1)),rD,H',⟨by have:=HK1.out;have:=HK2.out;omega⟩,⟨by (with_reducible repeat (first|apply Kd.R_alloc|apply Kd.R_drewN|apply Kd.R_drew));exact Kd.R_mono HO_6.out (fun _ hk=>hk.2)⟩,⟨pR ab⟩,⟨pB U⟩,⟨bC HB ae⟩⟩
                               · replace H:=iN bv H;cases H
                           · replace H:=iN bs H;cases H
                         · replace H:=iN br H;cases H
                       · replace H:=iN bq H;cases H
                     · replace H:=iN bp H;cases H
                   · replace H:=iN a2 H;have dL:=decide_eq_false a2;clear a2;have H' := Aside0.mk H;clear H;go_wp2;go_roundg k2
                     case measure=>have:=HK1.out;have:=HK2.out;omega
                     case rel=>exact ⟨(x6_2),(ar),(wrap64 (Z+1)),rD,H',⟨by have:=HK1.out;have:=HK2.out;omega⟩,⟨pR HO_6⟩,⟨pR ab⟩,⟨pB U⟩,⟨bC HB ae⟩⟩
               · replace H:=iN a9 H;cases H
             · replace H:=iN c26 H;cases H
           · replace H:=iN aH H;have bN:=decide_eq_false aH;clear aH;obtain ⟨dr,ci⟩:∃ y_:List Int,y_=(([]:List Int)):=⟨_,rfl⟩;replace H:(impl_MeanPlane.l2 k1 x6_1 am (ak.length:Int) (al.length:Int) dr (x6_1.length:Int) 0)=some (r1,r2,r3):=yH ci H
             have cL:=Aside0.mk ci;clear ci;have H' := Aside0.mk H;clear H;go_wp2_with (first|(refine gD 71 ?_;refine Kd.R_lit (Kd.int .i64) _ 3 ?hg (N:=71) ?hd (xs:=([]:List Int)) (inner:=[]) (ok:=fun _=>True) (okp:=fun _=>True) ?hr ?hp (fun _ hk=>hk) trivial (Below.refl _ _) (Nat.le_refl _) (by simp) ?_;(case hd=>rfl);(case hg=>rfl);(case hr=>go_simp <;> rfl);(case hp=>exact (Reps.none _ _));intro e9 fc aN hb hg_ hnew_;clear hg_ hnew_;(first|rw[← cL.out] at aN|(simp only[Int.reduceToNat] at aN;rw[← cL.out] at aN));have dC:=Aside0.mk (Kd.R_lower (Kd.R_new' (Kd.R_new' aN (Kd.R_lt (pR HO_6))) (Kd.R_lt (pR ab))) (below_size (bC HB ae)));replace HO_6:=Aside0.mk (Kd.R_elder' (pR HO_6) (Kd.R_base aN) hb);replace ab:=Aside0.mk (Kd.R_elder' (pR ab) (Kd.R_base aN) hb);replace U:=Aside0.mk (bW U hb);replace HB:=Aside0.mk (below_step (bC HB ae) hb);clear hb aN;obtain ⟨a7,aM,dY⟩:=Kd.R_slice HO_6.out;subst dY))
             go_loopg [14,74] k1 (fun kq cy ee w' => ∃ (a6:List Int) (af:Int),ee = .int .i64 af∧Aside0 (impl_MeanPlane.l2 kq x6_1 am (ak.length:Int) (al.length:Int) a6 (x6_1.length:Int) af=some (r1,r2,r3))∧Aside0 (kq≤k1)∧Aside0 (Kd.R (Kd.int .i64) 3 w' w.heap.size (fun k_=>some k_≠(av:Value).ownBlock∧some k_≠(cy:Value).ownBlock) (.slice a7 x6_1.length aM) x6_1)∧Aside0 (Kd.R (Kd.int .i64) 3 w' w.heap.size (fun k_=>some k_≠((.slice a7 x6_1.length aM):Value).ownBlock∧some k_≠(cy:Value).ownBlock) av am)∧Aside0 (Kd.R (Kd.int .i64) 3 w' w.heap.size (fun k_=>some k_≠((.slice a7 x6_1.length aM):Value).ownBlock∧some k_≠(av:Value).ownBlock) cy a6)∧Aside0 (w'.heap[ai]? = some (.cells #[(.slice (some au) J.length ag),(.slice aj X.length ah)] 52 (0,0)))∧Aside0 (Below w.heap.size w w'))
             case atStart=>exact ⟨(dr),(0),rD,H',⟨Nat.le_refl _⟩,⟨pR HO_6⟩,⟨pR ab⟩,⟨by (with_reducible repeat (first|apply Kd.R_alloc|apply Kd.R_drewN|apply Kd.R_drew));exact Kd.R_mono dC.out (fun _ hk=>⟨hk.1.2,hk.2⟩)⟩,⟨pB U⟩,⟨bC HB ae⟩⟩
             case round =>
              clear H';try clear c3
              try clear c4
              try clear c4b0
              try clear c4b1
              try clear c5
              try clear c5b0
              try clear c5b1
              try clear c6
              try clear bO
              try clear bP
              try clear aH
              try clear bN
              try clear c26
              try clear bV
              try clear bX
              try clear bY
              try clear bZ
              try clear b0
              try clear b1
              try clear b2
              try clear b3
              try clear b7
              try clear b8
              try clear b9
              try clear ca
              try clear aQ
              try clear a4
              try clear a5
              obtain ⟨a6,af,rfl,HA,HK2,HO_6,ab,aJ,U,HB⟩:=hrel;cases gk with
              | zero=>exact absurd HA.out (by simp[impl_MeanPlane.l2])
              | succ k2 =>
               have H:=HA.out;clear HA;simp only[impl_MeanPlane.l2] at H;by_cases a3:af<(x6_1.length:Int)
               · replace H:=iP a3 H;have dO:=decide_eq_true a3;clear a3;by_cases bw:0≤af
                 · replace H:=iP bw H;have eE:=decide_eq_true bw;clear bw;by_cases bx:af<(x6_1.length:Int)
                   · replace H:=iP bx H;have eF:=decide_eq_true bx;clear bx;by_cases bz:af<(am.length:Int)
                     · replace H:=iP bz H;have eG:=decide_eq_true bz;clear bz;by_cases bA:a6.length<17592186044416
                       · replace H:=iP bA H;have dE:=Aside0.mk bA;clear bA;obtain ⟨dt,cj⟩:∃ y_:List Int,y_=(a6++[wrap64 ((wrap64 ((wrap64 (2*(ak.length:Int)))*(al.length:Int)))*(wrap64 ((wrap64 ((al.length:Int)*(rd x6_1 af)))-(wrap64 ((ak.length:Int)*(rd am af))))))]):=⟨_,rfl⟩;replace H:(impl_MeanPlane.l2 k2 x6_1 am (ak.length:Int) (al.length:Int) dt (x6_1.length:Int) (wrap64 (af+1)))=some (r1,r2,r3):=yH cj H
                         have dH:=Aside0.mk cj;clear cj;have H' := Aside0.mk H;clear H;try go_wp2
                         replace HO_6:=Aside0.mk (Kd.R_drew HO_6.out);replace ab:=Aside0.mk (Kd.R_drew ab.out);replace aJ:=Aside0.mk (Kd.R_drew aJ.out);replace U:=Aside0.mk (blk_drew U.out);replace HB:=Aside0.mk (below_drew1 HB.out);have co:0≤(af:Int):=of_decide_eq_true aS;have cv:af<(x6_1.length:Int):=of_decide_eq_true aS;obtain ⟨bL,dU,dk⟩:=Kd.at_int (Kd.R_reads' HO_6.out).2.2 af co cv;cases dU
                         replace co:=eq_true co;replace cv:=eq_true cv;obtain ⟨en,cM,cU⟩:=Kd.R_slice ab.out;(first|subst cU|(injection cU with f1_ f2_ f3_;have ba:=f1_.symm;have bb:=f3_.symm;clear f1_ f2_ f3_;subst ba;subst bb));have cp:0≤(af:Int):=of_decide_eq_true aS;have cw:af<(am.length:Int):=of_decide_eq_true aS;obtain ⟨bM,dV,dl⟩:=Kd.at_int (Kd.R_reads' ab.out).2.2 af cp cw;cases dV
                         replace cp:=eq_true cp;replace cw:=eq_true cw;refine start_ (n:=22) (S:=fun w' => w'.cell? (bL.add (af).toNat)=some (.int .i64 (rd x6_1 af))∧w'.cell? (bM.add (af).toNat)=some (.int .i64 (rd am af))) (ds:=[19,20]) #[false,false,false,false,false,false,false,false,false,false,false,false,false,false,false,false,false,false,false,false,false,false] (by kernel_rfl) rfl rfl ⟨dk,dl⟩ (fun aq => ?_);refine with_tabW impl_MeanPlane.tab21 impl_MeanPlane.bits21 (fun ac a8 => ?_);generalize wr.drew=w54 at HO_6 ab aJ U HB dk dl aq ⊢;refine pure_ (i:=0) (N:=some 77) (v := ?_) (a' := ?_) #[true,false,false,false,false,false,false,false,false,false,false,false,false,false,false,false,false,false,false,false,false,false] rfl rfl (any_of ac.out (by kernel_rfl)) (fun _ _ _ h=>h) (Or.inl ⟨by rfl,?_⟩) ?_ ?_;rotate_left
                         · intro w';go_simp;with_reducible rfl
                         rotate_left
                         · exact aP
                         refine pure_ (i:=1) (N:=some 78) (v := ?_) (a' := ?_) #[true,true,false,false,false,false,false,false,false,false,false,false,false,false,false,false,false,false,false,false,false,false] rfl rfl (any_of ac.out (by kernel_rfl)) (fun _ _ _ h=>h) (Or.inl ⟨by rfl,?_⟩) ?_ ?_;rotate_left
                         · intro w';go_simp;with_reducible rfl
                         rotate_left
                         · exact aP
                         refine pure_ (i:=2) (N:=some 79) (v := ?_) (a' := ?_) #[true,true,true,false,false,false,false,false,false,false,false,false,false,false,false,false,false,false,false,false,false,false] rfl rfl (any_of ac.out (by kernel_rfl)) (fun _ _ _ h=>h) (Or.inl ⟨by rfl,?_⟩) ?_ ?_;rotate_left
                         · intro w';go_simp;with_reducible rfl
                         rotate_left
                         · exact aP
                         refine pure_ (i:=3) (N:=some 80) (v := ?_) (a' := ?_) #[true,true,true,true,false,false,false,false,false,false,false,false,false,false,false,false,false,false,false,false,false,false] rfl rfl (any_of ac.out (by kernel_rfl)) (fun _ _ _ h=>h) (Or.inl ⟨by rfl,?_⟩) ?_ ?_;rotate_left
                         · intro w';go_simp;with_reducible rfl
                         rotate_left
                         · exact aP
                         refine pure_ (i:=4) (N:=some 81) (v := ?_) (a' := ?_) #[true,true,true,true,true,false,false,false,false,false,false,false,false,false,false,false,false,false,false,false,false,false] rfl rfl (any_of ac.out (by kernel_rfl)) (fun _ _ _ h=>h) (Or.inl ⟨by rfl,?_⟩) ?_ ?_;rotate_left
                         · intro w';go_simp;with_reducible rfl
                         rotate_left
                         · exact aP
                         refine pure_ (i:=5) (N:=some 82) (v := ?_) (a' := ?_) #[true,true,true,true,true,true,false,false,false,false,false,false,false,false,false,false,false,false,false,false,false,false] rfl rfl (any_of ac.out (by kernel_rfl)) (fun _ _ _ h=>h) (Or.inl ⟨by rfl,?_⟩) ?_ ?_;rotate_left
                         · intro w';go_simp;with_reducible rfl
                         rotate_left
                         · exact aP
                         refine pure_ (i:=6) (N:=some 83) (v := ?_) (a' := ?_) #[true,true,true,true,true,true,true,false,false,false,false,false,false,false,false,false,false,false,false,false,false,false] rfl rfl (any_of ac.out (by kernel_rfl)) (fun _ _ _ h=>h) (Or.inl ⟨by rfl,?_⟩) ?_ ?_;rotate_left
                         · intro w';go_simp;with_reducible rfl
                         rotate_left
                         · exact aP
                         refine pure_ (i:=7) (N:=some 84) (v := ?_) (a' := ?_) #[true,true,true,true,true,true,true,true,false,false,false,false,false,false,false,false,false,false,false,false,false,false] rfl rfl (any_of ac.out (by kernel_rfl)) (fun _ _ _ h=>h) (Or.inl ⟨by rfl,?_⟩) ?_ ?_;rotate_left
                         · intro w';go_simp;with_reducible rfl
                         rotate_left
                         · exact aP
                         refine pure_ (i:=8) (N:=some 85) (v := ?_) (a' := ?_) #[true,true,true,true,true,true,true,true,true,false,false,false,false,false,false,false,false,false,false,false,false,false] rfl rfl (any_of ac.out (by kernel_rfl)) (fun _ _ _ h=>h) (Or.inl ⟨by rfl,?_⟩) ?_ ?_;rotate_left
                         · intro w';go_simp;with_reducible rfl
                         rotate_left
                         · exact aP
                         refine pure_ (i:=11) (N:=some 88) (v := ?_) (a' := ?_) #[true,true,true,true,true,true,true,true,true,false,false,true,false,false,false,false,false,false,false,false,false,false] rfl rfl (any_of ac.out (by kernel_rfl)) (fun _ _ _ h=>h) (Or.inl ⟨by rfl,?_⟩) ?_ ?_;rotate_left
                         · intro w';go_simp;with_reducible rfl
                         rotate_left
                         · exact aP
                         refine pure_ (i:=12) (N:=some 89) (v := ?_) (a' := ?_) #[true,true,true,true,true,true,true,true,true,false,false,true,true,false,false,false,false,false,false,false,false,false] rfl rfl (any_of ac.out (by kernel_rfl)) (fun _ _ _ h=>h) (Or.inl ⟨by rfl,?_⟩) ?_ ?_;rotate_left
                         · intro w';go_simp;with_reducible rfl
                         rotate_left
                         · exact aP
                         refine pure_ (i:=13) (N:=some 90) (v := ?_) (a' := ?_) #[true,true,true,true,true,true,true,true,true,false,false,true,true,true,false,false,false,false,false,false,false,false] rfl rfl (any_of ac.out (by kernel_rfl)) (fun _ _ _ h=>h) (Or.inl ⟨by rfl,?_⟩) ?_ ?_;rotate_left
                         · intro w';go_simp;with_reducible rfl
                         rotate_left
                         · exact aP
                         refine pure_ (i:=14) (N:=some 91) (v := ?_) (a' := ?_) #[true,true,true,true,true,true,true,true,true,false,false,true,true,true,true,false,false,false,false,false,false,false] rfl rfl (any_of ac.out (by kernel_rfl)) (fun _ _ _ h=>h) (Or.inl ⟨by rfl,?_⟩) ?_ ?_;rotate_left
                         · intro w';go_simp;with_reducible rfl
                         rotate_left
                         · exact aP
                         refine take_ (i:=9) (N:=some 86) (v := ?_) (a' := ?_) #[true,true,true,true,true,true,true,true,true,true,false,true,true,true,true,false,false,false,false,false,false,false] rfl rfl (take_ofW ac.out a8.out (by kernel_rfl)) (fun _ _ _ h=>h) (Or.inl ⟨by rfl,?_⟩) aq ?_ ?_;rotate_left
                         · rintro w' ⟨s0,s1⟩;go_simp;with_reducible rfl
                         rotate_left
                         · exact aP
                         refine pure_ (i:=10) (N:=some 87) (v := ?_) (a' := ?_) #[true,true,true,true,true,true,true,true,true,true,true,true,true,true,true,false,false,false,false,false,false,false] rfl rfl (any_of ac.out (by kernel_rfl)) (fun _ _ _ h=>h) (Or.inl ⟨by rfl,?_⟩) ?_ ?_;rotate_left
                         · intro w';go_simp;with_reducible rfl
                         rotate_left
                         · exact aP
                         refine take_ (i:=15) (N:=some 92) (v := ?_) (a' := ?_) #[true,true,true,true,true,true,true,true,true,true,true,true,true,true,true,true,false,false,false,false,false,false] rfl rfl (take_ofW ac.out a8.out (by kernel_rfl)) (fun _ _ _ h=>h) (Or.inl ⟨by rfl,?_⟩) aq ?_ ?_;rotate_left
                         · rintro w' ⟨s0,s1⟩;go_simp;with_reducible rfl
                         rotate_left
                         · exact aP
                         refine pure_ (i:=16) (N:=some 93) (v := ?_) (a' := ?_) #[true,true,true,true,true,true,true,true,true,true,true,true,true,true,true,true,true,false,false,false,false,false] rfl rfl (any_of ac.out (by kernel_rfl)) (fun _ _ _ h=>h) (Or.inl ⟨by rfl,?_⟩) ?_ ?_;rotate_left
                         · intro w';go_simp;with_reducible rfl
                         rotate_left
                         · exact aP
                         refine pure_ (i:=17) (N:=some 94) (v := ?_) (a' := ?_) #[true,true,true,true,true,true,true,true,true,true,true,true,true,true,true,true,true,true,false,false,false,false] rfl rfl (any_of ac.out (by kernel_rfl)) (fun _ _ _ h=>h) (Or.inl ⟨by rfl,?_⟩) ?_ ?_;rotate_left
                         · intro w';go_simp;with_reducible rfl
                         rotate_left
                         · exact aP
                         refine pure_ (i:=18) (N:=some 95) (v := ?_) (a' := ?_) #[true,true,true,true,true,true,true,true,true,true,true,true,true,true,true,true,true,true,true,false,false,false] rfl rfl (any_of ac.out (by kernel_rfl)) (fun _ _ _ h=>h) (Or.inl ⟨by rfl,?_⟩) ?_ ?_;rotate_left
                         · intro w';go_simp;with_reducible rfl
                         rotate_left
                         · exact aP
                         refine last_ (i:=19) (N:=some 96) #[true,true,true,true,true,true,true,true,true,true,true,true,true,true,true,true,true,true,true,true,false,false] rfl rfl (one_of ac.out (by kernel_rfl)) (by decide) (fun K hK => ?_);refine value_ (w1 := ?_) (v := ?_) (by rfl) rfl ?_ ?_;rotate_left 2
                         · go_simp;constructor
                           · rfl
                           · rfl
                         refine hK.out _ _ ?_;clear hK K;refine norm_ (a' := ?_) ?_ ?_;rotate_left
                         · show Act.put _ (some 96) _=_
                           simp only[Act.put,List.setIfInBounds_toArray,List.set_cons_zero,List.set_cons_succ,i64_w,i32_w];rfl
                         refine last_ (i:=20) (N:=some 97) #[true,true,true,true,true,true,true,true,true,true,true,true,true,true,true,true,true,true,true,true,true,false] rfl rfl (one_of ac.out (by kernel_rfl)) (by decide) (fun K hK => ?_);refine Kd.R_append_step (Kd.int .i64) (w0:=w) w.heap.size (by rfl) (.tmp 77) (.tmp 96) 24 3 (.int .i64 0) 8 rfl Try.underlying24 info3 rfl (by decide) (by omega) u14 a6 (wrap64 ((wrap64 ((wrap64 (2*(ak.length:Int)))*(al.length:Int)))*(wrap64 ((wrap64 ((al.length:Int)*(rd x6_1 af)))-(wrap64 ((ak.length:Int)*(rd am af))))))) [.int .i64 (wrap64 ((wrap64 ((wrap64 (2*(ak.length:Int)))*(al.length:Int)))*(wrap64 ((wrap64 ((al.length:Int)*(rd x6_1 af)))-(wrap64 ((ak.length:Int)*(rd am af)))))))] (fun k_=>some k_≠(.slice (some bL) x6_1.length aM:Value).ownBlock∧some k_≠(.slice (some bM) am.length cM:Value).ownBlock) (fun _=>False) rfl rfl ?aP (fun _ hk=>hk.elim) ?aF ?aO ?aB ?aS ?aL ?_;(case aP=>exact rfl);(case aB=>exact (bC HB ae));(case aF=>exact (fun k_ hk=>⟨Kd.fresh' (Kd.R_lt (pR HO_6)) k_ hk,Kd.fresh' (Kd.R_lt (pR ab)) k_ hk⟩));(case aO=>exact (pR aJ));(case aS=>exact (below_size (bC HB ae)));(case aL=>have:=dE.out;omega);intro fa fd ho hb hg hat;rw[← dH.out] at ho;have dD:=Aside0.mk (ho);replace HO_6:=Aside0.mk (Kd.R_after (ok:=(fun k_=>some k_≠(.slice (some bM) am.length cM:Value).ownBlock)) (pR HO_6) hg hat);replace ab:=Aside0.mk (Kd.R_after (ok:=(fun k_=>some k_≠(.slice (some bL) x6_1.length aM:Value).ownBlock)) (pR ab) hg hat);replace U:=Aside0.mk (blk_grown (g:=ai) (o := .cells #[.slice (some au) J.length ag,.slice aj X.length ah] 52 (0,0)) (pB U) hg (Kd.R_ne aJ.out U.out (by decide)));replace HB:=Aside0.mk (hb);clear aJ;clear ho hb hg hat;refine hK.out _ _ ?_;clear hK K;refine norm_ (a' := ?_) ?_ ?_;rotate_left
                         · show Act.put _ (some 97) _=_
                           simp only[Act.put,List.setIfInBounds_toArray,List.set_cons_zero,List.set_cons_succ,i64_w,i32_w];rfl
                         refine pure_ (i:=21) (N:=some 14) (v := ?_) (a' := ?_) #[true,true,true,true,true,true,true,true,true,true,true,true,true,true,true,true,true,true,true,true,true,true] rfl rfl (any_of ac.out (by kernel_rfl)) (fun _ _ _ h=>h) (Or.inl ⟨by rfl,?_⟩) ?_ ?_;rotate_left
                         · intro w';go_simp;with_reducible rfl
                         rotate_left
                         · exact aP
                         refine done_ (done_of ac.out (by kernel_rfl)) ?_;try go_wp2
                         go_roundg k2
                         case measure=>have:=HK1.out;have:=HK2.out;omega
                         case rel=>exact ⟨(dt),(wrap64 (af+1)),rD,H',⟨by have:=HK1.out;have:=HK2.out;omega⟩,⟨pR HO_6⟩,⟨pR ab⟩,⟨pR dD⟩,⟨pB U⟩,⟨bC HB ae⟩⟩
                       · replace H:=iN bA H;cases H
                     · replace H:=iN bz H;cases H
                   · replace H:=iN bx H;cases H
                 · replace H:=iN bw H;cases H
               · replace H:=iN a3 H;have dO:=decide_eq_false a3;clear a3;obtain ⟨ea,du,H⟩:=bS H;obtain ⟨eb,dv,H⟩:=bS H;simp only[Option.some.injEq,Prod.mk.injEq] at H;obtain ⟨rfl,rfl,rfl⟩:=H;go_wp2_with (first|(refine gL 105 Try.func75 #[.slice a7 x6_1.length aM,.slice a7 x6_1.length aM] ?_;(with_reducible refine (impl_product.calls k2 _ _ x6_1 _ _ x6_1 ea _ ?side1 ?side2 ?side3 ?side4 du.out).mono ?_);(case side1=>exact cR HO_6);(case side2=>exact (Kd.R_reads' HO_6.out).2.1);(case side3=>exact cR HO_6);(case side4=>exact (Kd.R_reads' HO_6.out).2.1);rintro e w' ⟨rfl,⟨nd,rfl⟩⟩;refine ⟨_,rfl,?_⟩;obtain ⟨cH,cO,dZ⟩:=Kd.R_slice ab.out;subst dZ)|(refine gL 112 Try.func75 #[.slice cH am.length cO,.slice cH am.length cO] ?_;(with_reducible refine (impl_product.calls k2 _ _ am _ _ am eb _ ?side1 ?side2 ?side3 ?side4 dv.out).mono ?_);(case side1=>exact cR ab);(case side2=>exact (Kd.R_reads' ab.out).2.1);(case side3=>exact cR ab);(case side4=>exact (Kd.R_reads' ab.out).2.1);rintro e w' ⟨rfl,⟨nd,rfl⟩⟩;refine ⟨_,rfl,?_⟩))
                 go_ret3
                 exact ⟨_,eW,by (with_reducible repeat (first|apply Kd.R_alloc|apply Kd.R_drewN|apply Kd.R_drew));exact Kd.R_mono aJ.out (fun _ hk=>trivial),bC HB ae⟩
       · replace H:=iN c6 H;cases H
     · replace H:=iN c5 H;cases H
   · replace H:=iN c4 H;cases H
 · replace c3:=Bool.eq_false_iff.mpr c3;subst c3;replace H:=iF H;simp only[Option.some.injEq,Prod.mk.injEq] at H;obtain ⟨rfl,rfl,rfl⟩:=H;go_enter Try.func26,Try.ntmps26;go_wp2_with (first|(refine gD 1 ?_;refine box_event ?hg (N:=1) ?hd (cs:=#[.slice aG J.length ag,.slice aj X.length ah]) (t:=52) ?hr ?_;(case hd=>rfl);(case hg=>rfl);(case hr=>go_simp <;> rfl);intro ai hg dq bf hb;have U:=Aside0.mk (bf);have dA:=gS (w:=w) hg (bB HB);have ae:=gS (w:=w) hg (bB HB);replace HB:=Aside0.mk (below_step (bB HB) hb);clear hb bf hg;have eQ:dq.cell? ⟨ai,0,none⟩=some (.slice aG J.length ag):=(blk_cell U.out 0).trans rfl;have eR:dq.cell? ⟨ai,1,none⟩=some (.slice aj X.length ah):=(blk_cell U.out 1).trans rfl;have eZ:=blk_frozen U.out 0;have e2:=blk_frozen U.out 1)|(refine gL 17 Try.func82 #[.agg #[.slice aG J.length ag,.slice aj X.length ah]] ?_;(with_reducible refine (impl_isMixed.calls k _ _ J _ _ X false _ ?side1 ?side2 ?side3 ?side4 A2.out).mono ?_);(case side1=>exact cB aY HB);(case side2=>exact bk.out);(case side3=>exact cB aZ HB);(case side4=>exact bl.out);rintro e fe ⟨rfl,hb⟩;refine ⟨_,rfl,?_⟩;replace U:=Aside0.mk (bW U hb);replace HB:=Aside0.mk (below_step (bC HB ae) hb);(try clear hb);(try clear hi)))
   go_ret3
   exact ⟨_,eW,by first|exact Kd.R_nil _ _ _ _ _|exact Kd.N_nil _ _ _ _ _|exact Kd.V_nil _ _ _ _ _|exact Kd.Q_nil _ _ _ _ _|exact Kd.S_nil _ _ _ _ _,bC HB ae⟩
end Go.Proofs.Ytkbahcbankfffaa.PFnPlanesOfPairs
