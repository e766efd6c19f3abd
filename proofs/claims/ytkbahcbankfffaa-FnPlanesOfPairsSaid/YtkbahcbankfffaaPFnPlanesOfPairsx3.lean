import Derived.Test.YtkbahcbankfffaaPFnPlanesOfPairsx0
import Derived.Test.YtkbahcbankfffaaPFnPlanesOfPairsx2
import Derived.Test.YtkbahcbankfffaaSh
import Derived.Test.YtkbahcbankfffaaSz
namespace Go.Proofs.Ytkbahcbankfffaa.PFnPlanesOfPairs
open Go.RowKit Go.Proofs.Ytkbahcbankfffaa.Sh Go.Proofs.YtkbahcbankfffaaW.PrintWords Go.Proofs.YtkbahcbankfffaaW.PrintLast Go.Proofs.YtkbahcbankfffaaW.PrintMore
attribute [local go_sem] max2_int min2_int max_two min_two max_three min_three max_four min_four
set_option linter.unusedVariables false
set_option maxHeartbeats 8000000
set_option maxRecDepth 100000
set_option linter.unusedSimpArgs false
mutual
def impl_PairPlane.j0:Nat→List Int→List Int→Bool→Option (List Int×Int×Bool)
 | 0,_,_,_=>none
 | k+1,x0,x1,ae=>if ae=true then (some (([]:List Int),0,false)) else ((impl_product.f k x0 x0).bind fun aa=>((impl_product.f k x1 x1).bind fun ab=>(impl_PairPlane.l0 k x1 x0 (x0.length:Int) 0 ([]:List Int) (wrap64 (aa-ab)))))
def impl_PairPlane.l0:Nat→List Int→List Int→Int→Int→List Int→Int→Option (List Int×Int×Bool)
 | 0,_,_,_,_,_,_=>none
 | k+1,x1,Y,Z,J,U,X=>if J<Z then (if 0≤J then (if J<(Y.length:Int) then (if J<(x1.length:Int) then (if U.length<17592186044416 then (impl_PairPlane.l0 k x1 Y Z (wrap64 (J+1)) (U++[wrap64 (2*(wrap64 ((rd Y J)-(rd x1 J))))]) X) else (none)) else (none)) else (none)) else (none)) else ((impl_IsPlane.f k U X).bind fun ac=>(if ac=true then (some (U,X,true)) else (some (([]:List Int),0,false))))
end
def impl_PairPlane.f (k:Nat) (l0:List Int) (l1:List Int):Option (List Int×Int×Bool):=(impl_IsPoint.f k l0).bind fun J=>(if J=true then ((impl_IsPoint.f k l1).bind fun U=>(if U=true then (if (l0.length:Int)=(l1.length:Int) then ((slices_Equal_int_int.f k l0 l1).bind fun X=>(impl_PairPlane.j0 k l0 l1 X)) else (impl_PairPlane.j0 k l0 l1 true)) else (impl_PairPlane.j0 k l0 l1 true))) else (impl_PairPlane.j0 k l0 l1 true))
def impl_PairPlane.T7:Bool×List (List Nat×List Nat):=(true,[([],[]),([0],[0]),([],[]),([],[]),([],[]),([3,4],[3,4]),([5],[5]),([2,6],[2,6]),([7],[7]),([8],[8]),([1,9],[1,9]),([0,1,2,3,4,5,6,7,8,9,10],[]),([11,10,10,0,1,2,3,4,5,6,7,8,9,10],[10,11])])
def impl_PairPlane.B7:List Nat:=[0,1,0,0,0,24,56,124,252,508,1023,2047,4095]
theorem impl_PairPlane.tab7:rtab .any (opsOf Try.f22 7)=impl_PairPlane.T7:=by kernel_rfl
theorem impl_PairPlane.bits7:waitsOk impl_PairPlane.T7.2 impl_PairPlane.B7=true:=by kernel_rfl
theorem impl_PairPlane.calls (k:Nat) (A0:Option Addr) (c0:Nat) (l0:List Int) (A1:Option Addr) (c1:Nat) (l1:List Int) (r1:List Int) (r2:Int) (r3:Bool) (w:World) (bh:Kd.C (Kd.int .i64) w A0 l0.length l0) (hc0:l0.length≤c0) (hr1:Kd.C (Kd.int .i64) w A1 l1.length l1) (bg:l1.length≤c1) (h:impl_PairPlane.f k l0 l1=some (r1,r2,r3)) :
 Calls Try.prog 22 #[.slice A0 l0.length c0,.slice A1 l1.length c1] w fun e w' => ∃ bj:Value,e = .returned (.tuple #[.agg #[bj,.int .i64 r2],.bool r3])∧Kd.R (Kd.int .i64) 3 w' w.heap.size (fun _=>True) bj r1∧Below w.heap.size w w' := by
 have cD:=Try.underlying47;have ak:=Aside0.mk bh;have am:=Aside0.mk hc0;clear bh hc0;have ao:=Aside0.mk hr1;have ar:=Aside0.mk bg;clear hr1 bg;have HB:=Aside0.mk (Below.refl w.heap.size w);have H:((impl_IsPoint.f k l0).bind fun a6=>(if a6=true then ((impl_IsPoint.f k l1).bind fun a7=>(if a7=true then (if (l0.length:Int)=(l1.length:Int) then ((slices_Equal_int_int.f k l0 l1).bind fun aN=>(impl_PairPlane.j0 k l0 l1 aN)) else (impl_PairPlane.j0 k l0 l1 true)) else (impl_PairPlane.j0 k l0 l1 true))) else (impl_PairPlane.j0 k l0 l1 true)))=some (r1,r2,r3):=h;clear h;have aX:=Aside0.mk H;clear H;go_enter Try.func22,Try.ntmps22;go_upto_region 1 with (first|(refine gD 4 ?_;refine box_event ?hg (N:=4) ?hd (cs:=#[.slice none 0 0,.int .i64 0]) (t:=47) ?hr ?_;(case hd=>rfl);(case hg=>rfl);(case hr=>go_simp <;> rfl);intro aa hg w4 aC hb;have J:=Aside0.mk (aC);have bU:=gS (w:=w) hg (bB HB);have X:=gS (w:=w) hg (bB HB);replace HB:=Aside0.mk (below_step (bB HB) hb);clear hb aC hg))
 (try simp only[Act.put,List.setIfInBounds_toArray,List.set_cons_zero,List.set_cons_succ]);go_cut [28] (fun bQ wc=>∃ (kq:Nat) (aR:Bool),bQ = .bool aR∧Aside0 (impl_PairPlane.j0 kq l0 l1 aR=some (r1,r2,r3))∧Aside0 (kq≤k)∧Aside0 (wc.heap[aa]? = some (.cells #[(.slice none 0 0),.int .i64 0] 47 (0,0)))∧Aside0 (Below w.heap.size w wc))
 case first =>
  have H:=aX.out;clear aX;obtain ⟨a6,A5,H⟩:=bS H;by_cases c6:a6=true
  · subst c6;replace H:=iT H;obtain ⟨a7,A7,H⟩:=bS H;by_cases c8:a7=true
    · subst c8;replace H:=iT H;by_cases c9:(l0.length:Int)=(l1.length:Int)
      · replace H:=iP c9 H;have c9b0:=qT c9;have aY:=nF c9;have bu:(l0.length==l1.length)=true:=by first|simpa using c9|(simp at c9 ⊢;omega)
        clear c9;(first|rw[c9b0]|(simp only[i64_w,i32_w];rw[c9b0])|rw[aY]|skip);obtain ⟨aN,bm,H⟩:=bS H;have H' := Aside0.mk H;clear H;go_wp2_with (first|(refine gL 10 Try.func73 #[.slice A0 l0.length c0] ?_;(with_reducible refine (impl_IsPoint.calls k _ _ l0 true _ ?side1 ?side2 A5.out).mono ?_);(case side1=>exact cB ak HB);(case side2=>exact am.out);rintro e w' ⟨rfl,⟨nd,rfl⟩⟩;refine ⟨_,rfl,?_⟩)|(go_at_call 73;(with_reducible refine (impl_IsPoint.calls k _ _ l1 true _ ?side1 ?side2 A7.out).mono ?_);(case side1=>repeat (first|exact (Kd.C_below ao.out (bC HB X))|(with_reducible refine Kd.C_alloc ?_ _)|(with_reducible refine Kd.C_drewN ?_ _)|(with_reducible refine Kd.C_drew ?_)));(case side2=>exact ar.out);rintro e w' ⟨rfl,⟨nd,rfl⟩⟩)|(go_at_call 74;(with_reducible refine (slices_Equal_int_int.calls k _ _ l0 _ _ l1 aN _ ?side1 ?side2 ?side3 ?side4 bm.out).mono ?_);(case side1=>repeat (first|exact (Kd.C_below ak.out (bC HB X))|(with_reducible refine Kd.C_alloc ?_ _)|(with_reducible refine Kd.C_drewN ?_ _)|(with_reducible refine Kd.C_drew ?_)));(case side2=>exact am.out);(case side3=>repeat (first|exact (Kd.C_below ao.out (bC HB X))|(with_reducible refine Kd.C_alloc ?_ _)|(with_reducible refine Kd.C_drewN ?_ _)|(with_reducible refine Kd.C_drew ?_)));(case side4=>exact ar.out);rintro e w' ⟨rfl,⟨nd,rfl⟩⟩))
        go_meet
        case rel=>exact ⟨_,(aN),rD,H',⟨by first|omega|exact Nat.le_refl _⟩,⟨pB J⟩,⟨bC HB X⟩⟩
      · replace H:=iN c9 H;have c9b0:=qF c9;have aY:=nT c9;have bu:(l0.length==l1.length)=false:=by first|simpa using c9|(simp at c9 ⊢;omega)
        (first|rw[c9b0]|(simp only[i64_w,i32_w];rw[c9b0])|rw[aY]|skip);have H' := Aside0.mk H;clear H;go_wp2_with (first|(refine gL 10 Try.func73 #[.slice A0 l0.length c0] ?_;(with_reducible refine (impl_IsPoint.calls k _ _ l0 true _ ?side1 ?side2 A5.out).mono ?_);(case side1=>exact cB ak HB);(case side2=>exact am.out);rintro e w' ⟨rfl,⟨nd,rfl⟩⟩;refine ⟨_,rfl,?_⟩)|(go_at_call 73;(with_reducible refine (impl_IsPoint.calls k _ _ l1 true _ ?side1 ?side2 A7.out).mono ?_);(case side1=>repeat (first|exact (Kd.C_below ao.out (bC HB X))|(with_reducible refine Kd.C_alloc ?_ _)|(with_reducible refine Kd.C_drewN ?_ _)|(with_reducible refine Kd.C_drew ?_)));(case side2=>exact ar.out);rintro e w' ⟨rfl,⟨nd,rfl⟩⟩))
        go_meet
        case rel=>exact ⟨_,(true),rD,H',⟨by first|omega|exact Nat.le_refl _⟩,⟨pB J⟩,⟨bC HB X⟩⟩
    · replace c8:=Bool.eq_false_iff.mpr c8;subst c8;replace H:=iF H;have H' := Aside0.mk H;clear H;go_wp2_with (first|(refine gL 10 Try.func73 #[.slice A0 l0.length c0] ?_;(with_reducible refine (impl_IsPoint.calls k _ _ l0 true _ ?side1 ?side2 A5.out).mono ?_);(case side1=>exact cB ak HB);(case side2=>exact am.out);rintro e w' ⟨rfl,⟨nd,rfl⟩⟩;refine ⟨_,rfl,?_⟩)|(go_at_call 73;(with_reducible refine (impl_IsPoint.calls k _ _ l1 false _ ?side1 ?side2 A7.out).mono ?_);(case side1=>repeat (first|exact (Kd.C_below ao.out (bC HB X))|(with_reducible refine Kd.C_alloc ?_ _)|(with_reducible refine Kd.C_drewN ?_ _)|(with_reducible refine Kd.C_drew ?_)));(case side2=>exact ar.out);rintro e w' ⟨rfl,⟨nd,rfl⟩⟩))
      go_meet
      case rel=>exact ⟨_,(true),rD,H',⟨by first|omega|exact Nat.le_refl _⟩,⟨pB J⟩,⟨bC HB X⟩⟩
  · replace c6:=Bool.eq_false_iff.mpr c6;subst c6;replace H:=iF H;have H' := Aside0.mk H;clear H;go_wp2_with (first|(refine gL 10 Try.func73 #[.slice A0 l0.length c0] ?_;(with_reducible refine (impl_IsPoint.calls k _ _ l0 false _ ?side1 ?side2 A5.out).mono ?_);(case side1=>exact cB ak HB);(case side2=>exact am.out);rintro e w' ⟨rfl,⟨nd,rfl⟩⟩;refine ⟨_,rfl,?_⟩))
    go_meet
    case rel=>exact ⟨_,(true),rD,H',⟨by first|omega|exact Nat.le_refl _⟩,⟨pB J⟩,⟨bC HB X⟩⟩
 case rest =>
  clear aX;try clear c1
  obtain ⟨kq,aR,rfl,HA,ba,J,HB⟩:=hcut;cases kq with
  | zero=>exact absurd HA.out (by simp[impl_PairPlane.j0])
  | succ aM =>
   have H:=HA.out;clear HA;simp only[impl_PairPlane.j0] at H;by_cases c11:aR=true
   · subst c11;replace H:=iT H;simp only[Option.some.injEq,Prod.mk.injEq] at H;obtain ⟨rfl,rfl,rfl⟩:=H;have bH:wc.cell? ⟨aa,0,none⟩=some (.slice none 0 0):=(blk_cell J.out 0).trans rfl;have bI:wc.cell? ⟨aa,1,none⟩=some (.int .i64 0):=(blk_cell J.out 1).trans rfl;have bL:=blk_frozen J.out 0;have bM:=blk_frozen J.out 1;go_wp2;refine bodyPost_ret (results_ct rfl _ _ aa 47 #[.slice none 0 0,.int .i64 0] (0,0) _ rfl (by (with_reducible repeat (first|refine blk_drewN ?_ _|refine blk_drew ?_|refine blk_alloc ?_ _));refine blk_put (cs:=#[.slice none 0 0,.int .i64 0]) ?_ 1 _ rfl;(with_reducible repeat (first|refine blk_drewN ?_ _|refine blk_drew ?_|refine blk_alloc ?_ _));refine blk_put (cs:=#[.slice none 0 0,.int .i64 0]) ?_ 0 _ rfl;(with_reducible repeat (first|refine blk_drewN ?_ _|refine blk_drew ?_|refine blk_alloc ?_ _));exact J.out) Try.underlying47 rfl (by kernel_rfl)) rfl ?_;exact ⟨_,eW,by first|exact Kd.R_nil _ _ _ _ _|exact Kd.N_nil _ _ _ _ _|exact Kd.V_nil _ _ _ _ _|exact Kd.Q_nil _ _ _ _ _|exact Kd.S_nil _ _ _ _ _,bC HB X⟩
   · replace c11:=Bool.eq_false_iff.mpr c11;subst c11;replace H:=iF H;obtain ⟨ab,bn,H⟩:=bS H;obtain ⟨ac,bo,H⟩:=bS H;have H' := Aside0.mk H;clear H;go_wp2_with (first|(refine gL 32 Try.func75 #[.slice A0 l0.length c0,.slice A0 l0.length c0] ?_;(with_reducible refine (impl_product.calls aM _ _ l0 _ _ l0 ab _ ?side1 ?side2 ?side3 ?side4 bn.out).mono ?_);(case side1=>exact cB ak HB);(case side2=>exact am.out);(case side3=>exact cB ak HB);(case side4=>exact am.out);rintro e w' ⟨rfl,⟨nd,rfl⟩⟩;refine ⟨_,rfl,?_⟩;(try (rw[drewN_self wc];generalize aq:World.drewN wc _=wc;replace J:Aside0 (wc.heap[aa]? = some (.cells #[.slice none 0 0,.int .i64 0] 47 (0,0))):=⟨by rw[← aq];exact (pB J)⟩;replace HB:Aside0 (Below w.heap.size w wc):=⟨by rw[← aq];exact (bC HB X)⟩;clear aq)))|(refine gL 35 Try.func75 #[.slice A1 l1.length c1,.slice A1 l1.length c1] ?_;(with_reducible refine (impl_product.calls aM _ _ l1 _ _ l1 ac _ ?side1 ?side2 ?side3 ?side4 bo.out).mono ?_);(case side1=>exact cB ao HB);(case side2=>exact ar.out);(case side3=>exact cB ao HB);(case side4=>exact ar.out);rintro e w' ⟨rfl,⟨nd,rfl⟩⟩;refine ⟨_,rfl,?_⟩;(try (rw[drewN_self wc];generalize aq:World.drewN wc _=wc;replace J:Aside0 (wc.heap[aa]? = some (.cells #[.slice none 0 0,.int .i64 0] 47 (0,0))):=⟨by rw[← aq];exact (pB J)⟩;replace HB:Aside0 (Below w.heap.size w wc):=⟨by rw[← aq];exact (bC HB X)⟩;clear aq)))|(refine gD 6 ?_;refine box_event ?hg (N:=6) ?hd (cs:=#[.slice none 0 0,.int .i64 0]) (t:=47) ?hr ?_;(case hd=>rfl);(case hg=>rfl);(case hr=>go_simp <;> rfl);intro af hg bk aC hb;have U:=Aside0.mk (aC);have bV:=gS (w:=w) hg (bC HB X);have aj:=gS (w:=w) hg (bC HB X);have ap:=gN hg J;have aE:=gM hg J;replace J:=Aside0.mk (bW J hb);replace HB:=Aside0.mk (below_step (bC HB X) hb);clear hb aC hg;have ct:=aE.out;have cw:=ap.out;have bJ:bk.cell? ⟨af,0,none⟩=some (.slice none 0 0):=(blk_cell U.out 0).trans rfl;have bK:bk.cell? ⟨af,1,none⟩=some (.int .i64 0):=(blk_cell U.out 1).trans rfl;have bN:=blk_frozen U.out 0;have bO:=blk_frozen U.out 1))
     go_loopg [40] aM (fun kq bR w' => ∃ (Y:Int) (ag:List Int) (ah:Value),bR = .int .i64 Y∧Aside0 (impl_PairPlane.l0 kq l1 l0 (l0.length:Int) Y ag (wrap64 (ab-ac))=some (r1,r2,r3))∧Aside0 (kq≤aM)∧Aside0 (Kd.R (Kd.int .i64) 3 w' w.heap.size (fun _=>True) ah ag)∧Aside0 (w'.heap[aa]? = some (.cells #[(.slice none 0 0),.int .i64 0] 47 (0,0)))∧Aside0 (w'.heap[af]? = some (.cells #[ah,.int .i64 (wrap64 (ab-ac))] 47 (0,0)))∧Aside0 (Below w.heap.size w w'))
     case atStart=>exact ⟨(0),(([]:List Int)),(.slice none 0 0),rD,H',⟨Nat.le_refl _⟩,⟨by first|exact Kd.R_nil _ _ _ _ _|exact Kd.N_nil _ _ _ _ _|exact Kd.V_nil _ _ _ _ _|exact Kd.Q_nil _ _ _ _ _|exact Kd.S_nil _ _ _ _ _⟩,⟨by (with_reducible repeat (first|refine blk_drewN ?_ _|refine blk_drew ?_|refine blk_alloc ?_ _));refine blk_far ?_ ap.out _;(with_reducible repeat (first|refine blk_drewN ?_ _|refine blk_drew ?_|refine blk_alloc ?_ _));refine blk_far ?_ ap.out _;(with_reducible repeat (first|refine blk_drewN ?_ _|refine blk_drew ?_|refine blk_alloc ?_ _));exact J.out⟩,⟨by (with_reducible repeat (first|refine blk_drewN ?_ _|refine blk_drew ?_|refine blk_alloc ?_ _));refine blk_put (cs:=#[.slice none 0 0,.int .i64 0]) ?_ 1 _ rfl;(with_reducible repeat (first|refine blk_drewN ?_ _|refine blk_drew ?_|refine blk_alloc ?_ _));refine blk_put (cs:=#[.slice none 0 0,.int .i64 0]) ?_ 0 _ rfl;(with_reducible repeat (first|refine blk_drewN ?_ _|refine blk_drew ?_|refine blk_alloc ?_ _));exact U.out⟩,⟨bD HB X aj⟩⟩
     case round =>
      clear H';try clear c1
      try clear c11
      try clear bH
      try clear bI
      try clear bJ
      try clear bK
      try clear bL
      try clear bM
      try clear bN
      try clear bO
      obtain ⟨Y,ag,ah,rfl,HA,HK2,Z,J,U,HB⟩:=hrel;cases gk with
      | zero=>exact absurd HA.out (by simp[impl_PairPlane.l0])
      | succ k2 =>
       have H:=HA.out;clear HA;simp only[impl_PairPlane.l0] at H;by_cases c18:Y<(l0.length:Int)
       · replace H:=iP c18 H;have c18b0:=decide_eq_true c18;clear c18;by_cases aG:0≤Y
         · replace H:=iP aG H;have bY:=decide_eq_true aG;clear aG;by_cases aH:Y<(l0.length:Int)
           · replace H:=iP aH H;have bZ:=decide_eq_true aH;clear aH;by_cases aI:Y<(l1.length:Int)
             · replace H:=iP aI H;have b0:=decide_eq_true aI;clear aI;by_cases c22:ag.length<17592186044416
               · replace H:=iP c22 H;have bq:=Aside0.mk c22;clear c22;obtain ⟨aU,aZ⟩:∃ y_:List Int,y_=(ag++[wrap64 (2*(wrap64 ((rd l0 Y)-(rd l1 Y))))]):=⟨_,rfl⟩;replace H:(impl_PairPlane.l0 k2 l1 l0 (l0.length:Int) (wrap64 (Y+1)) aU (wrap64 (ab-ac)))=some (r1,r2,r3):=yH aZ H
                 have br:=Aside0.mk aZ;clear aZ;have H' := Aside0.mk H;clear H;have a2:0≤(Y:Int):=of_decide_eq_true aS;have a4:Y<(l0.length:Int):=of_decide_eq_true aS;obtain ⟨bX,bw,bi⟩:=Kd.at_int ak.out Y a2 a4;cases bw
                 replace bi:=hC HB bi;replace a2:=eq_true a2;replace a4:=eq_true a4;try go_wp2
                 replace Z:=Aside0.mk (Kd.R_drew Z.out);replace J:=Aside0.mk (blk_drew J.out);replace U:=Aside0.mk (blk_drew U.out);replace HB:=Aside0.mk (below_drew1 HB.out);have a3:0≤(Y:Int):=of_decide_eq_true aS;have a5:Y<(l1.length:Int):=of_decide_eq_true aS;obtain ⟨bs,bx,aK⟩:=Kd.at_int ao.out Y a3 a5;have al:=aK;cases bx
                 replace aK:=hC HB aK;replace a3:=eq_true a3;replace a5:=eq_true a5;refine start_ (n:=13) (S:=fun w' => w'.cell? ⟨af,0,none⟩=some (ah)∧w'.cell? ⟨af,1,none⟩=some (.int .i64 (wrap64 (ab-ac)))∧w'.cell? (bs.add (Y).toNat)=some (.int .i64 (rd l1 Y))) (ds:=[12]) #[false,false,false,false,false,false,false,false,false,false,false,false,false] (by kernel_rfl) rfl rfl ⟨(blk_cell U.out 0).trans rfl,(blk_cell U.out 1).trans rfl,((HB.out.cell (World.block_lt_of_cell? w _ al)).trans al)⟩ (fun az => ?_);refine with_tabW impl_PairPlane.tab7 impl_PairPlane.bits7 (fun ae bc => ?_);generalize wr.drew=w23 at Z J U HB aK az ⊢;refine pure_ (i:=0) (N:=some 45) (v := ?_) (a' := ?_) #[true,false,false,false,false,false,false,false,false,false,false,false,false] rfl rfl (any_of ae.out (by kernel_rfl)) (fun _ _ _ h=>h) (Or.inl ⟨by rfl,?_⟩) ?_ ?_;rotate_left
                 · intro w';go_simp;with_reducible rfl
                 rotate_left
                 · exact aP
                 refine pure_ (i:=2) (N:=some 47) (v := ?_) (a' := ?_) #[true,false,true,false,false,false,false,false,false,false,false,false,false] rfl rfl (any_of ae.out (by kernel_rfl)) (fun _ _ _ h=>h) (Or.inl ⟨by rfl,?_⟩) ?_ ?_;rotate_left
                 · intro w';go_simp;with_reducible rfl
                 rotate_left
                 · exact aP
                 refine pure_ (i:=3) (N:=some 48) (v := ?_) (a' := ?_) #[true,false,true,true,false,false,false,false,false,false,false,false,false] rfl rfl (any_of ae.out (by kernel_rfl)) (fun _ _ _ h=>h) (Or.inl ⟨by rfl,?_⟩) ?_ ?_;rotate_left
                 · intro w';go_simp;with_reducible rfl
                 rotate_left
                 · exact aP
                 refine pure_ (i:=4) (N:=some 49) (v := ?_) (a' := ?_) #[true,false,true,true,true,false,false,false,false,false,false,false,false] rfl rfl (any_of ae.out (by kernel_rfl)) (fun _ _ _ h=>h) (Or.inl ⟨by rfl,?_⟩) ?_ ?_;rotate_left
                 · intro w';go_simp;with_reducible rfl
                 rotate_left
                 · exact aP
                 refine pure_ (i:=5) (N:=some 50) (v := ?_) (a' := ?_) #[true,false,true,true,true,true,false,false,false,false,false,false,false] rfl rfl (any_of ae.out (by kernel_rfl)) (fun _ _ _ h=>h) (Or.inl ⟨by rfl,?_⟩) ?_ ?_;rotate_left
                 · intro w';go_simp;with_reducible rfl
                 rotate_left
                 · exact aP
                 refine take_ (i:=1) (N:=some 46) (v := ?_) (a' := ?_) #[true,true,true,true,true,true,false,false,false,false,false,false,false] rfl rfl (take_ofW ae.out bc.out (by kernel_rfl)) (fun _ _ _ h=>h) (Or.inl ⟨by rfl,?_⟩) az ?_ ?_;rotate_left
                 · rintro w' ⟨s0,s1,s2⟩;go_simp;with_reducible rfl
                 rotate_left
                 · exact aP
                 refine take_ (i:=6) (N:=some 51) (v := ?_) (a' := ?_) #[true,true,true,true,true,true,true,false,false,false,false,false,false] rfl rfl (take_ofW ae.out bc.out (by kernel_rfl)) (fun _ _ _ h=>h) (Or.inl ⟨by rfl,?_⟩) az ?_ ?_;rotate_left
                 · rintro w' ⟨s0,s1,s2⟩;go_simp;with_reducible rfl
                 rotate_left
                 · exact aP
                 refine pure_ (i:=7) (N:=some 52) (v := ?_) (a' := ?_) #[true,true,true,true,true,true,true,true,false,false,false,false,false] rfl rfl (any_of ae.out (by kernel_rfl)) (fun _ _ _ h=>h) (Or.inl ⟨by rfl,?_⟩) ?_ ?_;rotate_left
                 · intro w';go_simp;with_reducible rfl
                 rotate_left
                 · exact aP
                 refine pure_ (i:=8) (N:=some 53) (v := ?_) (a' := ?_) #[true,true,true,true,true,true,true,true,true,false,false,false,false] rfl rfl (any_of ae.out (by kernel_rfl)) (fun _ _ _ h=>h) (Or.inl ⟨by rfl,?_⟩) ?_ ?_;rotate_left
                 · intro w';go_simp;with_reducible rfl
                 rotate_left
                 · exact aP
                 refine one_ (i:=9) (N:=some 54) #[true,true,true,true,true,true,true,true,true,true,false,false,false] rfl rfl (one_of ae.out (by kernel_rfl)) (by decide) (fun K hK => ?_);refine value_ (w1 := ?_) (v := ?_) (by rfl) rfl ?_ ?_;rotate_left 2
                 · go_simp;constructor
                   · rfl
                   · rfl
                 refine hK.out _ _ ⟨(blk_cell (blk_alloc U.out _) 0).trans rfl,(blk_cell (blk_alloc U.out _) 1).trans rfl,(World.cell?_alloc_lt _ _ _ (World.block_lt_of_cell? _ _ (((HB.out.cell (World.block_lt_of_cell? w _ al)).trans al)))).trans (((HB.out.cell (World.block_lt_of_cell? w _ al)).trans al))⟩ (fun az => ?_);clear hK K;refine norm_ (a' := ?_) ?_ ?_;rotate_left
                 · show Act.put _ (some 54) _=_
                   simp only[Act.put,List.setIfInBounds_toArray,List.set_cons_zero,List.set_cons_succ,i64_w,i32_w];rfl
                 refine one_ (i:=10) (N:=some 55) #[true,true,true,true,true,true,true,true,true,true,true,false,false] rfl rfl (one_of ae.out (by kernel_rfl)) (by decide) (fun K hK => ?_);refine Kd.R_append_step (Kd.int .i64) (w0:=w) w.heap.size (by rfl) (.tmp 46) (.tmp 54) 24 3 (.int .i64 0) 8 rfl Try.underlying24 info3 rfl (by decide) (by omega) ah ag (wrap64 (2*(wrap64 ((rd l0 Y)-(rd l1 Y))))) [.int .i64 (wrap64 (2*(wrap64 ((rd l0 Y)-(rd l1 Y)))))] (fun _=>True) (fun _=>False) rfl rfl ?aP (fun _ hk=>hk.elim) ?aF ?aO ?aB ?aS ?aL ?_;(case aP=>exact rfl);(case aB=>exact (bD HB X aj));(case aF=>exact (fun _ _=>trivial));(case aO=>exact (pR Z));(case aS=>exact (below_size (bD HB X aj)));(case aL=>have:=bq.out;omega);intro cE bT ho hb hg hat;rw[← br.out] at ho;have bb:=Aside0.mk (ho);replace J:=Aside0.mk (blk_grown (g:=aa) (o := .cells #[.slice none 0 0,.int .i64 0] 47 (0,0)) (pB J) hg (Kd.R_ne Z.out J.out (by decide)));replace U:=Aside0.mk (blk_grown (g:=af) (o := .cells #[ah,.int .i64 (wrap64 (ab-ac))] 47 (0,0)) (pB U) hg (Kd.R_ne Z.out U.out (by decide)));replace HB:=Aside0.mk (hb);clear Z;clear ho hb hg hat;obtain ⟨a9,bd,bf⟩:=Kd.R_slice bb.out;(first|subst bf|(injection bf with f1_ f2_ f3_;have bF:=f1_.symm;have bG:=f3_.symm;clear f1_ f2_ f3_;subst bF;subst bG));refine hK.out _ _ ⟨(blk_cell U.out 0).trans rfl,(blk_cell U.out 1).trans rfl,((HB.out.cell (World.block_lt_of_cell? w _ al)).trans al)⟩ (fun az => ?_);clear hK K;refine norm_ (a' := ?_) ?_ ?_;rotate_left
                 · show Act.put _ (some 55) _=_
                   simp only[Act.put,List.setIfInBounds_toArray,List.set_cons_zero,List.set_cons_succ,i64_w,i32_w];rfl
                 refine pure_ (i:=11) (N:=some 56) (v := ?_) (a' := ?_) #[true,true,true,true,true,true,true,true,true,true,true,true,false] rfl rfl (any_of ae.out (by kernel_rfl)) (fun _ _ _ h=>h) (Or.inl ⟨by rfl,?_⟩) ?_ ?_;rotate_left
                 · intro w';go_simp;with_reducible rfl
                 rotate_left
                 · exact aP
                 refine last_ (i:=12) (N:=none) #[true,true,true,true,true,true,true,true,true,true,true,true,true] rfl rfl (one_of ae.out (by kernel_rfl)) (by decide) (fun K hK => ?_);have cA:bT.cell? ⟨af,0,none⟩=some (ah):=(blk_cell U.out 0).trans rfl;have cg:=blk_frozen U.out 0;have cz:=ap.out;have cr:=aE.out;refine skip_ (w1 := ?_) (by rfl) rfl ?_ ?_;rotate_left
                 · go_simp;rfl
                 refine hK.out _ _ ?_;clear hK K;refine done_ (done_of ae.out (by kernel_rfl)) ?_;try go_wp2
                 go_roundg k2
                 case measure=>have:=ba.out;have:=HK2.out;omega
                 case rel=>exact ⟨(wrap64 (Y+1)),(aU),(.slice a9 aU.length bd),rD,H',⟨by have:=ba.out;have:=HK2.out;omega⟩,⟨by (with_reducible repeat (first|apply Kd.R_alloc|apply Kd.R_drewN|apply Kd.R_drew));exact Kd.R_mono (Kd.R_far (p:=⟨af,0,none⟩) (Kd.R_types bb.out U.out (by decide)) (fun _ hk=>hk.2) (.slice a9 aU.length bd)) (fun _ hk=>trivial)⟩,⟨by (with_reducible repeat (first|refine blk_drewN ?_ _|refine blk_drew ?_|refine blk_alloc ?_ _));refine blk_far ?_ ap.out _;(with_reducible repeat (first|refine blk_drewN ?_ _|refine blk_drew ?_|refine blk_alloc ?_ _));exact J.out⟩,⟨by (with_reducible repeat (first|refine blk_drewN ?_ _|refine blk_drew ?_|refine blk_alloc ?_ _));refine blk_put (cs:=#[ah,.int .i64 (wrap64 (ab-ac))]) ?_ 0 _ rfl;(with_reducible repeat (first|refine blk_drewN ?_ _|refine blk_drew ?_|refine blk_alloc ?_ _));exact U.out⟩,⟨bD HB X aj⟩⟩
               · replace H:=iN c22 H;cases H
             · replace H:=iN aI H;cases H
           · replace H:=iN aH H;cases H
         · replace H:=iN aG H;cases H
       · replace H:=iN c18 H;have c18b0:=decide_eq_false c18;clear c18;obtain ⟨bP,a8,H⟩:=bS H;by_cases aJ:bP=true
         · subst aJ;replace H:=iT H;simp only[Option.some.injEq,Prod.mk.injEq] at H;obtain ⟨rfl,rfl,rfl⟩:=H;have cu:=aE.out;have cx:=ap.out;have b1:wr.cell? ⟨af,0,none⟩=some (ah):=(blk_cell U.out 0).trans rfl;have b2:wr.cell? ⟨af,1,none⟩=some (.int .i64 (wrap64 (ab-ac))):=(blk_cell U.out 1).trans rfl;have ch:=blk_frozen U.out 0;have ci:=blk_frozen U.out 1;obtain ⟨ax,ay,bz⟩:=Kd.R_slice Z.out;subst bz;go_wp2_with (first|(refine gL 59 Try.func76 #[.agg #[.slice ax ag.length ay,.int .i64 (wrap64 (ab-ac))]] ?_;(with_reducible refine (impl_IsPlane.calls k2 _ _ ag (wrap64 (ab-ac)) true _ ?side1 ?side2 a8.out).mono ?_);(case side1=>exact cR Z);(case side2=>exact (Kd.R_reads' Z.out).2.1);rintro e aQ ⟨rfl,hb⟩;refine ⟨_,rfl,?_⟩;replace Z:=Aside0.mk (Kd.R_below (pR Z) hb);replace J:=Aside0.mk (bW J hb);replace U:=Aside0.mk (bW U hb);replace HB:=Aside0.mk (below_step (bD HB X aj) hb);(try clear hb);have b3:aQ.cell? ⟨af,0,none⟩=some (.slice ax ag.length ay):=(blk_cell U.out 0).trans rfl;have b7:aQ.cell? ⟨af,1,none⟩=some (.int .i64 (wrap64 (ab-ac))):=(blk_cell U.out 1).trans rfl;have cj:=blk_frozen U.out 0;have ck:=blk_frozen U.out 1;have b8:aQ.cell? ⟨aa,0,none⟩=some (.slice none 0 0):=(blk_cell J.out 0).trans rfl;have b9:aQ.cell? ⟨aa,1,none⟩=some (.int .i64 0):=(blk_cell J.out 1).trans rfl;have cl:=blk_frozen J.out 0;have cm:=blk_frozen J.out 1))
           refine bodyPost_ret (results_ct rfl _ _ aa 47 #[.slice ax ag.length ay,.int .i64 (wrap64 (ab-ac))] (0,0) _ rfl (by (with_reducible repeat (first|refine blk_drewN ?_ _|refine blk_drew ?_|refine blk_alloc ?_ _));refine blk_put (cs:=#[.slice ax ag.length ay,.int .i64 0]) ?_ 1 _ rfl;(with_reducible repeat (first|refine blk_drewN ?_ _|refine blk_drew ?_|refine blk_alloc ?_ _));refine blk_put (cs:=#[.slice none 0 0,.int .i64 0]) ?_ 0 _ rfl;(with_reducible repeat (first|refine blk_drewN ?_ _|refine blk_drew ?_|refine blk_alloc ?_ _));exact J.out) Try.underlying47 rfl (by kernel_rfl)) rfl ?_;exact ⟨_,eW,by (with_reducible repeat (first|apply Kd.R_alloc|apply Kd.R_drewN|apply Kd.R_drew));exact Kd.R_mono (Kd.R_far (p:=⟨aa,1,none⟩) (Kd.R_far (p:=⟨aa,0,none⟩) (Kd.R_types Z.out J.out (by decide)) (fun _ hk=>hk.2) (.slice ax ag.length ay)) (fun _ hk=>hk.2) (.int .i64 (wrap64 (ab-ac)))) (fun _ hk=>trivial),bD HB X aj⟩
         · replace aJ:=Bool.eq_false_iff.mpr aJ;subst aJ;replace H:=iF H;simp only[Option.some.injEq,Prod.mk.injEq] at H;obtain ⟨rfl,rfl,rfl⟩:=H;have cv:=aE.out;have cy:=ap.out;have ca:wr.cell? ⟨af,0,none⟩=some (ah):=(blk_cell U.out 0).trans rfl;have cd:wr.cell? ⟨af,1,none⟩=some (.int .i64 (wrap64 (ab-ac))):=(blk_cell U.out 1).trans rfl;have cn:=blk_frozen U.out 0;have co:=blk_frozen U.out 1;obtain ⟨bp,bv,bA⟩:=Kd.R_slice Z.out;subst bA;go_wp2_with (first|(refine gL 59 Try.func76 #[.agg #[.slice bp ag.length bv,.int .i64 (wrap64 (ab-ac))]] ?_;(with_reducible refine (impl_IsPlane.calls k2 _ _ ag (wrap64 (ab-ac)) false _ ?side1 ?side2 a8.out).mono ?_);(case side1=>exact cR Z);(case side2=>exact (Kd.R_reads' Z.out).2.1);rintro e bl ⟨rfl,hb⟩;refine ⟨_,rfl,?_⟩;replace Z:=Aside0.mk (Kd.R_below (pR Z) hb);replace J:=Aside0.mk (bW J hb);replace U:=Aside0.mk (bW U hb);replace HB:=Aside0.mk (below_step (bD HB X aj) hb);(try clear hb);have ce:bl.cell? ⟨aa,0,none⟩=some (.slice none 0 0):=(blk_cell J.out 0).trans rfl;have cf:bl.cell? ⟨aa,1,none⟩=some (.int .i64 0):=(blk_cell J.out 1).trans rfl;have cp:=blk_frozen J.out 0;have cq:=blk_frozen J.out 1))
           refine bodyPost_ret (results_ct rfl _ _ aa 47 #[.slice none 0 0,.int .i64 0] (0,0) _ rfl (by (with_reducible repeat (first|refine blk_drewN ?_ _|refine blk_drew ?_|refine blk_alloc ?_ _));refine blk_put (cs:=#[.slice none 0 0,.int .i64 0]) ?_ 1 _ rfl;(with_reducible repeat (first|refine blk_drewN ?_ _|refine blk_drew ?_|refine blk_alloc ?_ _));refine blk_put (cs:=#[.slice none 0 0,.int .i64 0]) ?_ 0 _ rfl;(with_reducible repeat (first|refine blk_drewN ?_ _|refine blk_drew ?_|refine blk_alloc ?_ _));exact J.out) Try.underlying47 rfl (by kernel_rfl)) rfl ?_;exact ⟨_,eW,by first|exact Kd.R_nil _ _ _ _ _|exact Kd.N_nil _ _ _ _ _|exact Kd.V_nil _ _ _ _ _|exact Kd.Q_nil _ _ _ _ _|exact Kd.S_nil _ _ _ _ _,bD HB X aj⟩
def spec_l1In.f (a0:Int) (a1:Int) (J:Int):Option (Bool):=if a0≥a1 then (some (decide (a0≤J))) else (some false)
theorem spec_l1In.calls (a0:Int) (a1:Int) (J:Int) (r:Bool) (w:World) (h:spec_l1In.f a0 a1 J=some r) :
 Calls Try.prog 115 #[.int .i64 a0,.int .i64 a1,.int .i64 J] w fun e w' => e = .returned (.bool r)∧Drawn0 w w' := by
 have H:(if a0≥a1 then (some (decide (a0≤J))) else (some false))=some r:=h;clear h;by_cases c4:a0≥a1
 · replace H:=iP c4 H;have c4b0:=decide_eq_true c4;clear c4;obtain rfl:=Option.some.inj H;go_enter Try.func115,Try.ntmps115;go_wp2;go_ret
   exact ⟨rD,dR⟩
 · replace H:=iN c4 H;have c4b0:=decide_eq_false c4;clear c4;obtain rfl:=Option.some.inj H;go_enter Try.func115,Try.ntmps115;go_wp2;go_ret
   exact ⟨rD,dR⟩
def spec_l2Numbers.l0:Nat→List Int→Int→Int→Option (Bool)
 | 0,_,_,_=>none
 | k+1,x0,x1,J=>if J<(x0.length:Int) then (if 0≤J then ((spec_l1In.f (rd x0 J) (wrap64 (-x1)) x1).bind fun U=>(if U=true then (spec_l2Numbers.l0 k x0 x1 (wrap64 (J+1))) else (some false))) else (none)) else (some true)
def spec_l2Numbers.f (k:Nat) (l0:List Int) (a1:Int):Option (Bool):=spec_l2Numbers.l0 k l0 a1 0
theorem spec_l2Numbers.calls (k:Nat) (Z:Option Addr) (c0:Nat) (l0:List Int) (a1:Int) (r:Bool) (w:World) (ac:Kd.C (Kd.int .i64) w Z l0.length l0) (hc0:l0.length≤c0) (h:spec_l2Numbers.f k l0 a1=some r) :
 Calls Try.prog 134 #[.slice Z l0.length c0,.int .i64 a1] w fun e w' => e = .returned (.bool r)∧Drawn0 w w' := by
 have ab:=Aside0.mk ac;have aj:=Aside0.mk hc0;clear ac hc0;have H:(spec_l2Numbers.l0 k l0 a1 0)=some r:=h;clear h;have H' := Aside0.mk H;clear H;go_enter Try.func134,Try.ntmps134;go_wp2;go_loopg [5] k (fun kq v5 w' => ∃ (J:Int),v5 = .int .i64 J∧Aside0 (spec_l2Numbers.l0 kq l0 a1 J=some r)∧Aside0 (kq≤k)∧Drawn0 w w')
 case atStart=>exact ⟨(0),rD,H',⟨Nat.le_refl _⟩,dR⟩
 case round =>
  clear H';try clear c1
  obtain ⟨J,rfl,HA,HK1,⟨m1,rfl⟩⟩:=hrel;cases gk with
  | zero=>exact absurd HA.out (by simp[spec_l2Numbers.l0])
  | succ k1 =>
   have H:=HA.out;clear HA;simp only[spec_l2Numbers.l0] at H;by_cases c3:J<(l0.length:Int)
   · replace H:=iP c3 H;have af:=decide_eq_true c3;clear c3;by_cases c4:0≤J
     · replace H:=iP c4 H;have c4b0:=decide_eq_true c4;clear c4;obtain ⟨ah,A5,H⟩:=bS H;by_cases c6:ah=true
       · subst c6;replace H:=iT H;have H' := Aside0.mk H;clear H;have U:0≤(J:Int):=of_decide_eq_true aS;have X:J<(l0.length:Int):=of_decide_eq_true aS;obtain ⟨ae,Y,ag⟩:=Kd.at_int ab.out J U X;cases Y
         replace U:=eq_true U;replace X:=eq_true X;go_wp2_with (first|(refine gL 19 Try.func115 #[.int .i64 (rd l0 J),.int .i64 (wrap64 (-a1)),.int .i64 a1] ?_;(with_reducible refine (spec_l1In.calls (rd l0 J) (wrap64 (-a1)) a1 true _ A5.out).mono ?_);rintro e w' ⟨rfl,⟨nd,rfl⟩⟩;refine ⟨_,rfl,?_⟩))
         go_roundg k1
         case measure=>exact kM HK1
         case rel=>exact ⟨(wrap64 (J+1)),rD,H',⟨kM HK1⟩,dR⟩
       · replace c6:=Bool.eq_false_iff.mpr c6;subst c6;replace H:=iF H;obtain rfl:=Option.some.inj H;have U:0≤(J:Int):=of_decide_eq_true aS;have X:J<(l0.length:Int):=of_decide_eq_true aS;obtain ⟨ae,Y,ag⟩:=Kd.at_int ab.out J U X;cases Y
         replace U:=eq_true U;replace X:=eq_true X;go_wp2_with (first|(refine gL 19 Try.func115 #[.int .i64 (rd l0 J),.int .i64 (wrap64 (-a1)),.int .i64 a1] ?_;(with_reducible refine (spec_l1In.calls (rd l0 J) (wrap64 (-a1)) a1 false _ A5.out).mono ?_);rintro e w' ⟨rfl,⟨nd,rfl⟩⟩;refine ⟨_,rfl,?_⟩))
         go_ret
         exact ⟨rD,dR⟩
     · replace H:=iN c4 H;cases H
   · replace H:=iN c3 H;have af:=decide_eq_false c3;clear c3;obtain rfl:=Option.some.inj H;go_wp2;go_ret
     exact ⟨rD,dR⟩
def spec_l2Point.f (k:Nat) (l0:List Int):Option (Bool):=(spec_l1In.f (l0.length:Int) 1 4).bind fun J=>(if J=true then ((spec_l2Numbers.f k l0 9).bind fun U=>(some U)) else (some false))
theorem spec_l2Point.calls (k:Nat) (X:Option Addr) (c0:Nat) (l0:List Int) (r:Bool) (w:World) (Z:Kd.C (Kd.int .i64) w X l0.length l0) (hc0:l0.length≤c0) (h:spec_l2Point.f k l0=some r) :
 Calls Try.prog 77 #[.slice X l0.length c0] w fun e w' => e = .returned (.bool r)∧Drawn0 w w' := by
 have ac:=Aside0.mk Z;have ab:=Aside0.mk hc0;clear Z hc0;have H:((spec_l1In.f (l0.length:Int) 1 4).bind fun J=>(if J=true then ((spec_l2Numbers.f k l0 9).bind fun U=>(some U)) else (some false)))=some r:=h;clear h;obtain ⟨J,Y,H⟩:=bS H;by_cases c3:J=true
 · subst c3;replace H:=iT H;obtain ⟨U,A4,H⟩:=bS H;obtain rfl:=Option.some.inj H;go_enter Try.func77,Try.ntmps77;go_wp2_with (first|(refine gL 5 Try.func115 #[.int .i64 (l0.length:Int),.int .i64 1,.int .i64 4] ?_;(with_reducible refine (spec_l1In.calls (l0.length:Int) 1 4 true _ Y.out).mono ?_);rintro e w' ⟨rfl,⟨nd,rfl⟩⟩;refine ⟨_,rfl,?_⟩)|(go_at_call 134;(with_reducible refine (spec_l2Numbers.calls k _ _ l0 9 U _ ?side1 ?side2 A4.out).mono ?_);(case side1=>exact cC ac);(case side2=>exact ab.out);rintro e w' ⟨rfl,⟨nd,rfl⟩⟩))
   go_ret
   exact ⟨rD,dR⟩
 · replace c3:=Bool.eq_false_iff.mpr c3;subst c3;replace H:=iF H;obtain rfl:=Option.some.inj H;go_enter Try.func77,Try.ntmps77;go_wp2_with (first|(refine gL 5 Try.func115 #[.int .i64 (l0.length:Int),.int .i64 1,.int .i64 4] ?_;(with_reducible refine (spec_l1In.calls (l0.length:Int) 1 4 false _ Y.out).mono ?_);rintro e w' ⟨rfl,⟨nd,rfl⟩⟩;refine ⟨_,rfl,?_⟩))
   go_ret
   exact ⟨rD,dR⟩
def spec_l1Same.l0:Nat→List Int→List Int→Int→Option (Bool)
 | 0,_,_,_=>none
 | k+1,x0,x1,J=>if J<(x0.length:Int) then (if 0≤J then (if J<(x1.length:Int) then (if (rd x0 J)=(rd x1 J) then (spec_l1Same.l0 k x0 x1 (wrap64 (J+1))) else (some false)) else (none)) else (none)) else (some true)
def spec_l1Same.f (k:Nat) (l0:List Int) (l1:List Int):Option (Bool):=if (l0.length:Int)=(l1.length:Int) then (spec_l1Same.l0 k l0 l1 0) else (some false)
theorem spec_l1Same.calls (k:Nat) (A0:Option Addr) (c0:Nat) (l0:List Int) (A1:Option Addr) (c1:Nat) (l1:List Int) (r:Bool) (w:World) (ak:Kd.C (Kd.int .i64) w A0 l0.length l0) (hc0:l0.length≤c0) (hr1:Kd.C (Kd.int .i64) w A1 l1.length l1) (aj:l1.length≤c1) (h:spec_l1Same.f k l0 l1=some r) :
 Calls Try.prog 78 #[.slice A0 l0.length c0,.slice A1 l1.length c1] w fun e w' => e = .returned (.bool r)∧Drawn0 w w' := by
 have ae:=Aside0.mk ak;have av:=Aside0.mk hc0;clear ak hc0;have af:=Aside0.mk hr1;have aw:=Aside0.mk aj;clear hr1 aj;have H:(if (l0.length:Int)=(l1.length:Int) then (spec_l1Same.l0 k l0 l1 0) else (some false))=some r:=h;clear h;by_cases c3:(l0.length:Int)=(l1.length:Int)
 · replace H:=iP c3 H;have ag:=qT c3;have ah:=nF c3;have ai:(l0.length==l1.length)=true:=by first|simpa using c3|(simp at c3 ⊢;omega)
   clear c3;have H' := Aside0.mk H;clear H;go_enter Try.func78,Try.ntmps78;go_wp2;repeat (go_quiet (fail);try go_wp2)
   go_loopg [5] k (fun kq v5 w' => ∃ (J:Int),v5 = .int .i64 J∧Aside0 (spec_l1Same.l0 kq l0 l1 J=some r)∧Aside0 (kq≤k)∧Drawn0 w w')
   case atStart=>exact ⟨(0),rD,H',⟨Nat.le_refl _⟩,dR⟩
   case round =>
    clear H';try clear c1
    try clear c3
    try clear ag
    try clear ah
    try clear ai
    obtain ⟨J,rfl,HA,HK1,⟨m1,rfl⟩⟩:=hrel;cases gk with
    | zero=>exact absurd HA.out (by simp[spec_l1Same.l0])
    | succ k1 =>
     have H:=HA.out;clear HA;simp only[spec_l1Same.l0] at H;by_cases c4:J<(l0.length:Int)
     · replace H:=iP c4 H;have c4b0:=decide_eq_true c4;clear c4;by_cases c5:0≤J
       · replace H:=iP c5 H;have c5b0:=decide_eq_true c5;clear c5;by_cases c6:J<(l1.length:Int)
         · replace H:=iP c6 H;have ax:=decide_eq_true c6;clear c6;by_cases c7:(rd l0 J)=(rd l1 J)
           · replace H:=iP c7 H;have ao:=qT c7;have ap:=nF c7;clear c7;have H' := Aside0.mk H;clear H;have U:0≤(J:Int):=of_decide_eq_true aS;have Y:J<(l0.length:Int):=of_decide_eq_true aS;obtain ⟨al,aa,aq⟩:=Kd.at_int ae.out J U Y;cases aa
             replace U:=eq_true U;replace Y:=eq_true Y;have X:0≤(J:Int):=of_decide_eq_true aS;have Z:J<(l1.length:Int):=of_decide_eq_true aS;obtain ⟨am,ab,ar⟩:=Kd.at_int af.out J X Z;cases ab
             replace X:=eq_true X;replace Z:=eq_true Z;go_wp2;repeat (go_quiet (fail);try go_wp2)
             go_roundg k1
             case measure=>exact kM HK1
             case rel=>exact ⟨(wrap64 (J+1)),rD,H',⟨kM HK1⟩,dR⟩
           · replace H:=iN c7 H;have ao:=qF c7;have ap:=nT c7;obtain rfl:=Option.some.inj H;have U:0≤(J:Int):=of_decide_eq_true aS;have Y:J<(l0.length:Int):=of_decide_eq_true aS;obtain ⟨al,aa,aq⟩:=Kd.at_int ae.out J U Y;cases aa
             replace U:=eq_true U;replace Y:=eq_true Y;have X:0≤(J:Int):=of_decide_eq_true aS;have Z:J<(l1.length:Int):=of_decide_eq_true aS;obtain ⟨am,ab,ar⟩:=Kd.at_int af.out J X Z;cases ab
             replace X:=eq_true X;replace Z:=eq_true Z;go_wp2;repeat (go_quiet (fail);try go_wp2)
             go_ret
             exact ⟨rD,dR⟩
         · replace H:=iN c6 H;cases H
       · replace H:=iN c5 H;cases H
     · replace H:=iN c4 H;have c4b0:=decide_eq_false c4;clear c4;obtain rfl:=Option.some.inj H;go_wp2;repeat (go_quiet (fail);try go_wp2)
       go_ret
       exact ⟨rD,dR⟩
 · replace H:=iN c3 H;have ag:=qF c3;have ah:=nT c3;have ai:(l0.length==l1.length)=false:=by first|simpa using c3|(simp at c3 ⊢;omega)
   obtain rfl:=Option.some.inj H;go_enter Try.func78,Try.ntmps78;go_wp2;repeat (go_quiet (fail);try go_wp2)
   go_ret
   exact ⟨rD,dR⟩
end Go.Proofs.Ytkbahcbankfffaa.PFnPlanesOfPairs
