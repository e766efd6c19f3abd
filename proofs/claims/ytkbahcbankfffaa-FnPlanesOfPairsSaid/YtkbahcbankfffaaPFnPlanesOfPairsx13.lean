import Derived.Test.YtkbahcbankfffaaPFnPlanesOfPairsx0
import Derived.Test.YtkbahcbankfffaaSh
import Derived.Test.YtkbahcbankfffaaSz
namespace Go.Proofs.Ytkbahcbankfffaa.PFnPlanesOfPairs
open Go.RowKit Go.Proofs.Ytkbahcbankfffaa.Sh Go.Proofs.YtkbahcbankfffaaW.PrintWords Go.Proofs.YtkbahcbankfffaaW.PrintLast Go.Proofs.YtkbahcbankfffaaW.PrintMore
attribute [local go_sem] max2_int min2_int max_two min_two max_three min_three max_four min_four
set_option linter.unusedVariables false
set_option maxHeartbeats 8000000
set_option maxRecDepth 100000
set_option linter.unusedSimpArgs false
mutual
def spec_l4Sums.l0:Nat→List Int→Int→List Int→Int→List (List Int)→List Int→Option (List Int)
 | 0,_,_,_,_,_,_=>none
 | k+1,x1,Z,J,x8,U,Y=>if x8<(U.length:Int) then (if 0≤x8 then (if x8<(Y.length:Int) then (if (rd Y x8)=Z then (if 0<(J.length:Int) then (if x8<(x1.length:Int) then (spec_l4Sums.l1 k x1 Z (J.set (0:Int).toNat (wrap64 ((rd J 0)+(rd x1 x8)))) x8 0 U Y) else (none)) else (none)) else (spec_l4Sums.l0 k x1 Z J (wrap64 (x8+1)) U Y)) else (none)) else (none)) else (some J)
def spec_l4Sums.l1:Nat→List Int→Int→List Int→Int→Int→List (List Int)→List Int→Option (List Int)
 | 0,_,_,_,_,_,_,_=>none
 | k+1,x1,Z,J,x8,X,U,Y=>if 0≤x8 then (if x8<(U.length:Int) then (if X<((rd_L3 U x8).length:Int) then (if 0≤(wrap64 (X+1)) then (if (wrap64 (X+1))<(J.length:Int) then (if x8<(x1.length:Int) then (if 0≤X then (spec_l4Sums.l1 k x1 Z (J.set ((wrap64 (X+1)):Int).toNat (wrap64 ((rd J (wrap64 (X+1)))+(wrap64 ((rd x1 x8)*(rd (rd_L3 U x8) X)))))) x8 (wrap64 (X+1)) U Y) else (none)) else (none)) else (none)) else (none)) else (spec_l4Sums.l0 k x1 Z J (wrap64 (x8+1)) U Y)) else (none)) else (none)
end
def spec_l4Sums.f (k:Nat) (J:List (List Int)) (X:List Int) (l1:List Int) (U:Int):Option (List Int):=if 0<(J.length:Int) then (if 0≤(wrap64 (((rd_L3 J 0).length:Int)+1)) then (if (wrap64 (((rd_L3 J 0).length:Int)+1):Int).toNat≤35184372088832 then (spec_l4Sums.l0 k l1 U (List.replicate (wrap64 (((rd_L3 J 0).length:Int)+1):Int).toNat 0) 0 J X) else (none)) else (none)) else (none)
def spec_l4Sums.T6:Bool×List (List Nat×List Nat):=(true,[([],[]),([],[]),([1],[1]),([2],[2]),([],[]),([],[]),([4,5],[4,5]),([6],[6]),([3,7],[3,7]),([0,0,1,2,3,4,5,6,7,8],[0]),([9,8,0,1,2,3,4,5,6,7,8],[8,9])])
def spec_l4Sums.B6:List Nat:=[0,0,2,6,0,0,48,112,254,511,1023]
theorem spec_l4Sums.tab6:rtab .any (opsOf Try.f86 6)=spec_l4Sums.T6:=by kernel_rfl
theorem spec_l4Sums.bits6:waitsOk spec_l4Sums.T6.2 spec_l4Sums.B6=true:=by kernel_rfl
def spec_l4Sums.T10:Bool×List (List Nat×List Nat):=(true,[([],[]),([],[]),([1],[1]),([],[]),([],[]),([4],[4]),([3,5],[3,5]),([6],[6]),([],[]),([],[]),([8,9],[8,9]),([10],[10]),([],[]),([12],[12]),([],[]),([13,14],[13,14]),([15],[15]),([],[]),([16,17],[16,17]),([18],[18]),([11,19],[11,19]),([7,20],[7,20]),([0,2,0,1,2,3,4,5,6,7,8,9,10,11,12,13,14,15,16,17,18,19,20,21],[0,2]),([22,21,0,1,2,3,4,5,6,7,8,9,10,11,12,13,14,15,16,17,18,19,20,21],[21,22])])
def spec_l4Sums.B10:List Nat:=[0,0,2,0,0,16,56,120,0,0,768,1792,0,4096,0,28672,61440,0,258048,520192,1048320,2097144,4194303,8388607]
theorem spec_l4Sums.tab10:rtab .any (opsOf Try.f86 10)=spec_l4Sums.T10:=by kernel_rfl
theorem spec_l4Sums.bits10:waitsOk spec_l4Sums.T10.2 spec_l4Sums.B10=true:=by kernel_rfl
theorem spec_l4Sums.calls (k:Nat) (aU:Option Addr) (ai:Nat) (U:List (List Int)) (ap:Option Addr) (aj:Nat) (Z:List Int) (A1:Option Addr) (c1:Nat) (l1:List Int) (a2:Int) (r:List Int) (w:World) (ck:Kd.C (Kd.slice 3 (Kd.int .i64)) w aU U.length U) (b7:U.length≤ai) (cl:Kd.C (Kd.int .i64) w ap Z.length Z) (b8:Z.length≤aj) (hr1:Kd.C (Kd.int .i64) w A1 l1.length l1) (b9:l1.length≤c1) (h:spec_l4Sums.f k U Z l1 a2=some r) :
 Calls Try.prog 86 #[.agg #[.slice aU U.length ai,.slice ap Z.length aj],.slice A1 l1.length c1,.int .i64 a2] w fun e w' => ∃ cq:Value,e = .returned (cq)∧Kd.R (Kd.int .i64) 3 w' w.heap.size (fun _=>True) cq r∧Below w.heap.size w w' := by
 have d7:=Try.underlying52;have aW:=Aside0.mk ck;have dt:=Aside0.mk b7;clear ck b7;have bN:=Aside0.mk cl;have du:=Aside0.mk b8;clear cl b8;have bO:=Aside0.mk hr1;have dv:=Aside0.mk b9;clear hr1 b9;have HB:=Aside0.mk (Below.refl w.heap.size w);have H:(if 0<(U.length:Int) then (if 0≤(wrap64 (((rd_L3 U 0).length:Int)+1)) then (if (wrap64 (((rd_L3 U 0).length:Int)+1):Int).toNat≤35184372088832 then (spec_l4Sums.l0 k l1 a2 (List.replicate (wrap64 (((rd_L3 U 0).length:Int)+1):Int).toNat 0) 0 U Z) else (none)) else (none)) else (none))=some r:=h;clear h;by_cases c4:0<(U.length:Int)
 · replace H:=iP c4 H;have c4b0:=decide_eq_true c4;have c4b1:decide (0<U.length)=true:=decide_eq_true (by omega);clear c4;obtain ⟨ao,a8⟩:∃ j_:Int,(wrap64 (((rd_L3 U 0).length:Int)+1))=j_:=⟨_,rfl⟩;replace H:(if 0≤(ao) then (if (ao:Int).toNat≤35184372088832 then (spec_l4Sums.l0 k l1 a2 (List.replicate (ao:Int).toNat 0) 0 U Z) else (none)) else (none))=some r:=by first|(rw[a8] at H;exact H)|(simp only[a8] at H ⊢;exact H)
   have d6:(IntKind.i64.wrap (((rd_L3 U 0).length:Int)+1))=ao:=(i64_w _).trans a8;by_cases c6:0≤(ao)
   · replace H:=iP c6 H;have bV:=eq_true c6;have bX:=decide_eq_true c6;clear c6;by_cases c7:(ao:Int).toNat≤35184372088832
     · replace H:=iP c7 H;have bY:=eq_true c7;have bZ:=decide_eq_true c7;clear c7;obtain ⟨ct,bq⟩:∃ y_:List Int,y_=(List.replicate (ao:Int).toNat 0):=⟨_,rfl⟩;replace H:(spec_l4Sums.l0 k l1 a2 ct 0 U Z)=some r:=yH bq H
       have bQ:=Aside0.mk bq;clear bq;have H' := Aside0.mk H;clear H;go_enter Try.func86,Try.ntmps86;go_wp2_with (first|(refine gD 3 ?_;refine box_event ?hg (N:=3) ?hd (cs:=#[.slice aU U.length ai,.slice ap Z.length aj]) (t:=52) ?hr ?_;(case hd=>rfl);(case hg=>rfl);(case hr=>go_simp <;> rfl);intro ac hg w8 b3 hb;have X:=Aside0.mk (b3);have dr:=gS (w:=w) hg (bB HB);have aq:=gS (w:=w) hg (bB HB);replace HB:=Aside0.mk (below_step (bB HB) hb);clear hb b3 hg;have ca:w8.cell? ⟨ac,0,none⟩=some (.slice aU U.length ai):=(blk_cell X.out 0).trans rfl;have cd:w8.cell? ⟨ac,1,none⟩=some (.slice ap Z.length aj):=(blk_cell X.out 1).trans rfl;have ce:=blk_frozen X.out 0;have cf:=blk_frozen X.out 1;have aO:0≤(0:Int):=(by omega);have aR:0<(U.length:Int):=of_decide_eq_true aS;obtain ⟨ah,dn,dF,cT,aB,ci,cg⟩:=at_L3 aW.out 0 aO aR;cases cT;have d8:(0<U.length)=True:=eq_true (by omega);(try rw[show ((0:Int)).toNat=0 from rfl] at aB);(try rw[Addr.add_zero'] at aB);replace aB:=hC HB aB;have dy:=Aside0.mk cg;have dw:=Aside0.mk ci;clear cg ci;replace aO:=eq_true aO;replace aR:=eq_true aR)|(refine gD 16 ?_;refine Kd.R_make (Kd.int .i64) _ 3 rfl (N:=16) rfl 24 _ _ rfl ao rfl rfl Try.underlying24 (.int .i64 0) 8 info3 rfl (by decide) (by omega) 0 (ok:=fun _=>True) (okp:=fun _=>True) rfl (fun _ hk=>hk) trivial (of_decide_eq_true aS) (Nat.le_trans (Nat.mul_le_mul_right _ (of_decide_eq_true aS:ao.toNat≤35184372088832)) (by omega)) (Below.refl _ _) (Nat.le_refl _) ?_;intro dk ea aJ hb hg_ hnew_;clear hg_ hnew_;(first|rw[← bQ.out] at aJ|(simp only[Int.reduceToNat] at aJ;rw[← bQ.out] at aJ));have cz:=Aside0.mk (Kd.R_lower aJ (below_size (bC HB aq)));replace X:=Aside0.mk (bW X hb);replace HB:=Aside0.mk (below_step (bC HB aq) hb);clear hb aJ))
       go_loopg [8] k (fun kq v8 w' => ∃ (af:List Int) (J:Int),v8 = .int .i64 J∧Aside0 (spec_l4Sums.l0 kq l1 a2 af J U Z=some r)∧Aside0 (kq≤k)∧Aside0 (Kd.R (Kd.int .i64) 3 w' w.heap.size (fun _=>True) dk af)∧Aside0 (w'.heap[ac]? = some (.cells #[(.slice (some ah) U.length ai),(.slice ap Z.length aj)] 52 (0,0)))∧Aside0 (Below w.heap.size w w'))
       case atStart=>exact ⟨(ct),(0),rD,H',⟨Nat.le_refl _⟩,⟨pR cz⟩,⟨pB X⟩,⟨bC HB aq⟩⟩
       case round =>
        clear H';try clear c1
        try clear c4
        try clear c4b0
        try clear c4b1
        try clear c6
        try clear bV
        try clear bX
        try clear c7
        try clear bY
        try clear bZ
        try clear ca
        try clear cd
        try clear ce
        try clear cf
        try clear aB
        try clear aO
        try clear aR
        obtain ⟨af,J,rfl,HA,HK1,aa,X,HB⟩:=hrel;cases gk with
        | zero=>exact absurd HA.out (by simp[spec_l4Sums.l0])
        | succ k1 =>
         have H:=HA.out;clear HA;simp only[spec_l4Sums.l0] at H;by_cases aw:J<(U.length:Int)
         · replace H:=iP aw H;have bT:=decide_eq_true aw;clear aw;by_cases aF:0≤J
           · replace H:=iP aF H;have cI:=decide_eq_true aF;clear aF;by_cases aG:J<(Z.length:Int)
             · replace H:=iP aG H;have cJ:=decide_eq_true aG;clear aG;by_cases c15:(rd Z J)=a2
               · replace H:=iP c15 H;have c15b0:=qT c15;have bU:=nF c15;clear c15;by_cases c16:0<(af.length:Int)
                 · replace H:=iP c16 H;have c16b0:=decide_eq_true c16;have cK:decide (0<af.length)=true:=decide_eq_true (by omega);clear c16;by_cases c17:J<(l1.length:Int)
                   · replace H:=iP c17 H;have c17b0:=decide_eq_true c17;clear c17;obtain ⟨cu,br⟩:∃ y_:List Int,y_=(af.set (0:Int).toNat (wrap64 ((rd af 0)+(rd l1 J)))):=⟨_,rfl⟩;replace H:(spec_l4Sums.l1 k1 l1 a2 cu J 0 U Z)=some r:=yH br H
                     have cD:=Aside0.mk br;clear br;have H' := Aside0.mk H;clear H;have dd:wr.cell? ⟨ac,0,none⟩=some (.slice (some ah) U.length ai):=(blk_cell X.out 0).trans rfl;have de:wr.cell? ⟨ac,1,none⟩=some (.slice ap Z.length aj):=(blk_cell X.out 1).trans rfl;have dg:=blk_frozen X.out 0;have dh:=blk_frozen X.out 1;have au:0≤(J:Int):=of_decide_eq_true aS;have av:J<(Z.length:Int):=of_decide_eq_true aS;obtain ⟨aE,bn,aC⟩:=Kd.at_int bN.out J au av;cases bn
                     replace aC:=hC HB aC;replace au:=eq_true au;replace av:=eq_true av;try go_wp2
                     replace aa:=Aside0.mk (Kd.R_drew aa.out);replace X:=Aside0.mk (blk_drew X.out);replace HB:=Aside0.mk (below_drew1 HB.out);obtain ⟨dq,cQ,b1⟩:=Kd.R_slice aa.out;(first|subst b1|(injection b1 with f1_ f2_ f3_;have da:=f1_.symm;have db:=f3_.symm;clear f1_ f2_ f3_;subst da;subst db));have bd:0≤(0:Int):=(by omega);have bg:0<(af.length:Int):=of_decide_eq_true aS;obtain ⟨dz,cU,aD⟩:=Kd.at_int (Kd.R_reads' aa.out).2.2 0 bd bg;cases cU
                     have d9:(0<af.length)=True:=eq_true (by omega);(try rw[show ((0:Int)).toNat=0 from rfl] at aD);(try rw[Addr.add_zero'] at aD);replace bd:=eq_true bd;replace bg:=eq_true bg;have bf:0≤(J:Int):=of_decide_eq_true aS;have bh:J<(l1.length:Int):=of_decide_eq_true aS;obtain ⟨bl,cV,aK⟩:=Kd.at_int bO.out J bf bh;have cm:=aK;cases cV
                     replace aK:=hC HB aK;replace bf:=eq_true bf;replace bh:=eq_true bh;have aN:0≤(0:Int):=(by omega);have aQ:(0:Int)<((af.length:Int):Int):=of_decide_eq_true aS;have dj:(0<af.length)=True:=eq_true (by omega);obtain ⟨a6,dH,b0,b2,dc,dG,bK⟩:=Kd.R_form aa.out (by omega);(first|cases b0|(injection b0 with ea_ en_ ec_;(first|subst ea_|(injection ea_ with ea_;subst ea_));subst ec_;clear en_));have bJ:=Aside0.mk b2;have cx:=Aside0.mk bK;clear b2 dc bK;(first|simp only[add_plain] at aD|skip);obtain ⟨a9,bp⟩:=Kd.R_celln 0 aa.out (0:Int) aN aQ;(try rw[show ((0:Int)).toNat=0 from rfl] at a9);(try simp only[Nat.reduceMul,Nat.zero_mul,Nat.zero_add,Nat.reduceAdd] at a9);(try rw[show ((0:Int)).toNat=0 from rfl] at bp);(try simp only[Nat.reduceMul,Nat.zero_mul,Nat.zero_add,Nat.reduceAdd] at bp);replace aN:=eq_true aN;replace aQ:=eq_true aQ;have bj:=Kd.R_putn aa.out (0:Int) (wrap64 ((rd af 0)+(rd l1 J)));rw[← cD.out] at bj;have bL:=Aside0.mk bj;clear bj;refine start_ (n:=11) (S:=fun w' => w'.cell? ⟨a6,0,none⟩=some (.int .i64 (rd af 0))∧w'.cell? (bl.add (J).toNat)=some (.int .i64 (rd l1 J))) (ds:=[10]) #[false,false,false,false,false,false,false,false,false,false,false] (by kernel_rfl) rfl rfl ⟨aD,((HB.out.cell (World.block_lt_of_cell? w _ cm)).trans cm)⟩ (fun al => ?_);refine with_tabW spec_l4Sums.tab6 spec_l4Sums.bits6 (fun Y ar => ?_);generalize wr.drew=w20 at aa X HB cx bL bp a9 aD aK al ⊢;refine pure_ (i:=0) (N:=some 31) (v := ?_) (a' := ?_) #[true,false,false,false,false,false,false,false,false,false,false] rfl rfl (any_of Y.out (by kernel_rfl)) (fun _ _ _ h=>h) (Or.inl ⟨by rfl,?_⟩) ?_ ?_;rotate_left
                     · intro w';go_simp;with_reducible rfl
                     rotate_left
                     · exact aP
                     refine pure_ (i:=1) (N:=some 32) (v := ?_) (a' := ?_) #[true,true,false,false,false,false,false,false,false,false,false] rfl rfl (any_of Y.out (by kernel_rfl)) (fun _ _ _ h=>h) (Or.inl ⟨by rfl,?_⟩) ?_ ?_;rotate_left
                     · intro w';go_simp;with_reducible rfl
                     rotate_left
                     · exact aP
                     refine pure_ (i:=2) (N:=some 33) (v := ?_) (a' := ?_) #[true,true,true,false,false,false,false,false,false,false,false] rfl rfl (any_of Y.out (by kernel_rfl)) (fun _ _ _ h=>h) (Or.inl ⟨by rfl,?_⟩) ?_ ?_;rotate_left
                     · intro w';go_simp;with_reducible rfl
                     rotate_left
                     · exact aP
                     refine pure_ (i:=4) (N:=some 35) (v := ?_) (a' := ?_) #[true,true,true,false,true,false,false,false,false,false,false] rfl rfl (any_of Y.out (by kernel_rfl)) (fun _ _ _ h=>h) (Or.inl ⟨by rfl,?_⟩) ?_ ?_;rotate_left
                     · intro w';go_simp;with_reducible rfl
                     rotate_left
                     · exact aP
                     refine pure_ (i:=5) (N:=some 36) (v := ?_) (a' := ?_) #[true,true,true,false,true,true,false,false,false,false,false] rfl rfl (any_of Y.out (by kernel_rfl)) (fun _ _ _ h=>h) (Or.inl ⟨by rfl,?_⟩) ?_ ?_;rotate_left
                     · intro w';go_simp;with_reducible rfl
                     rotate_left
                     · exact aP
                     refine pure_ (i:=6) (N:=some 37) (v := ?_) (a' := ?_) #[true,true,true,false,true,true,true,false,false,false,false] rfl rfl (any_of Y.out (by kernel_rfl)) (fun _ _ _ h=>h) (Or.inl ⟨by rfl,?_⟩) ?_ ?_;rotate_left
                     · intro w';go_simp;with_reducible rfl
                     rotate_left
                     · exact aP
                     refine take_ (i:=3) (N:=some 34) (v := ?_) (a' := ?_) #[true,true,true,true,true,true,true,false,false,false,false] rfl rfl (take_ofW Y.out ar.out (by kernel_rfl)) (fun _ _ _ h=>h) (Or.inl ⟨by rfl,?_⟩) al ?_ ?_;rotate_left
                     · rintro w' ⟨s0,s1⟩;go_simp;with_reducible rfl
                     rotate_left
                     · exact aP
                     refine take_ (i:=7) (N:=some 38) (v := ?_) (a' := ?_) #[true,true,true,true,true,true,true,true,false,false,false] rfl rfl (take_ofW Y.out ar.out (by kernel_rfl)) (fun _ _ _ h=>h) (Or.inl ⟨by rfl,?_⟩) al ?_ ?_;rotate_left
                     · rintro w' ⟨s0,s1⟩;go_simp;with_reducible rfl
                     rotate_left
                     · exact aP
                     refine pure_ (i:=8) (N:=some 39) (v := ?_) (a' := ?_) #[true,true,true,true,true,true,true,true,true,false,false] rfl rfl (any_of Y.out (by kernel_rfl)) (fun _ _ _ h=>h) (Or.inl ⟨by rfl,?_⟩) ?_ ?_;rotate_left
                     · intro w';go_simp;with_reducible rfl
                     rotate_left
                     · exact aP
                     refine pure_ (i:=9) (N:=some 40) (v := ?_) (a' := ?_) #[true,true,true,true,true,true,true,true,true,true,false] rfl rfl (any_of Y.out (by kernel_rfl)) (fun _ _ _ h=>h) (Or.inl ⟨by rfl,?_⟩) ?_ ?_;rotate_left
                     · intro w';go_simp;with_reducible rfl
                     rotate_left
                     · exact aP
                     refine last_ (i:=10) (N:=none) #[true,true,true,true,true,true,true,true,true,true,true] rfl rfl (one_of Y.out (by kernel_rfl)) (by decide) (fun K hK => ?_);refine skip_ (w1 := ?_) (by rfl) rfl ?_ ?_;rotate_left
                     · go_simp;rfl
                     refine hK.out _ _ ?_;clear hK K;refine done_ (done_of Y.out (by kernel_rfl)) ?_;try go_wp2
                     go_loopg [9] k1 (fun kq v9 w' => ∃ (ag:List Int) (ae:Int),v9 = .int .i64 ae∧Aside0 (spec_l4Sums.l1 kq l1 a2 ag J ae U Z=some r)∧Aside0 (kq≤k1)∧Aside0 (Kd.R (Kd.int .i64) 3 w' w.heap.size (fun _=>True) (.slice (some ⟨a6,0,none⟩) af.length cQ) ag)∧Aside0 (w'.heap[ac]? = some (.cells #[(.slice (some ah) U.length ai),(.slice (some aE) Z.length aj)] 52 (0,0)))∧Aside0 (Below w.heap.size w w'))
                     case atStart=>exact ⟨(cu),(0),rD,H',⟨Nat.le_refl _⟩,⟨pR bL⟩,⟨by (with_reducible repeat (first|refine blk_drewN ?_ _|refine blk_drew ?_|refine blk_alloc ?_ _));refine blk_far ?_ (by have h_:=Kd.R_ne aa.out X.out (by decide);intro e_;exact h_ (by rw[e_];rfl)) _;(with_reducible repeat (first|refine blk_drewN ?_ _|refine blk_drew ?_|refine blk_alloc ?_ _));exact X.out⟩,⟨bD HB bJ aq⟩⟩
                     case round =>
                      clear H';try clear c1
                      try clear c4
                      try clear c4b0
                      try clear c4b1
                      try clear c6
                      try clear bV
                      try clear bX
                      try clear c7
                      try clear bY
                      try clear bZ
                      try clear aw
                      try clear bT
                      try clear aF
                      try clear cI
                      try clear aG
                      try clear cJ
                      try clear c15
                      try clear c15b0
                      try clear bU
                      try clear c16
                      try clear c16b0
                      try clear cK
                      try clear c17
                      try clear c17b0
                      try clear aN
                      try clear aQ
                      try clear dj
                      try clear dd
                      try clear de
                      try clear ca
                      try clear cd
                      try clear dg
                      try clear dh
                      try clear ce
                      try clear cf
                      try clear a9
                      try clear aB
                      try clear aC
                      try clear aD
                      try clear aK
                      try clear aN
                      try clear aO
                      try clear au
                      try clear bd
                      try clear bf
                      try clear aQ
                      try clear aR
                      try clear av
                      try clear bg
                      try clear bh
                      obtain ⟨ag,ae,rfl,HA,HK2,aa,X,HB⟩:=hrel;have am:=(Kd.R_reads' aa.out).1;rw[am] at aa;(try simp only[am]);(try simp only[am] at X);cases gk with
                      | zero=>exact absurd HA.out (by simp[spec_l4Sums.l1])
                      | succ k2 =>
                       have H:=HA.out;clear HA;simp only[spec_l4Sums.l1] at H;by_cases aX:0≤J
                       · replace H:=iP aX H;have dA:=decide_eq_true aX;clear aX;by_cases aY:J<(U.length:Int)
                         · replace H:=iP aY H;have dB:=decide_eq_true aY;clear aY;by_cases az:ae<((rd_L3 U J).length:Int)
                           · replace H:=iP az H;have cL:=decide_eq_true az;clear az;obtain ⟨ab,a7⟩:∃ j_:Int,(wrap64 (ae+1))=j_:=⟨_,rfl⟩;replace H:(if 0≤(ab) then (if (ab)<(ag.length:Int) then (if J<(l1.length:Int) then (if 0≤ae then (spec_l4Sums.l1 k2 l1 a2 (ag.set ((ab):Int).toNat (wrap64 ((rd ag (ab))+(wrap64 ((rd l1 J)*(rd (rd_L3 U J) ae)))))) J ab U Z) else (none)) else (none)) else (none)) else (none))=some r:=by first|(rw[a7] at H;exact H)|(simp only[a7] at H ⊢;exact H)
                             have dZ:(IntKind.i64.wrap (ae+1))=ab:=(i64_w _).trans a7;by_cases aZ:0≤(ab)
                             · replace H:=iP aZ H;have dC:=decide_eq_true aZ;clear aZ;by_cases a3:(ab)<(ag.length:Int)
                               · replace H:=iP a3 H;have cM:=decide_eq_true a3;(try simp only[am] at cM);clear a3;by_cases a4:J<(l1.length:Int)
                                 · replace H:=iP a4 H;have dD:=decide_eq_true a4;clear a4;by_cases a5:0≤ae
                                   · replace H:=iP a5 H;have dE:=decide_eq_true a5;clear a5;obtain ⟨cv,bs⟩:∃ y_:List Int,y_=(ag.set ((ab):Int).toNat (wrap64 ((rd ag (ab))+(wrap64 ((rd l1 J)*(rd (rd_L3 U J) ae)))))):=⟨_,rfl⟩;replace H:(spec_l4Sums.l1 k2 l1 a2 cv J ab U Z)=some r:=yH bs H
                                     have cE:=Aside0.mk bs;clear bs;have H' := Aside0.mk H;clear H;have dI:wr.cell? ⟨ac,0,none⟩=some (.slice (some ah) U.length ai):=(blk_cell X.out 0).trans rfl;have dJ:wr.cell? ⟨ac,1,none⟩=some (.slice (some aE) Z.length aj):=(blk_cell X.out 1).trans rfl;have dQ:=blk_frozen X.out 0;have dS:=blk_frozen X.out 1;have ax:0≤(J:Int):=of_decide_eq_true aS;have ay:J<(U.length:Int):=of_decide_eq_true aS;obtain ⟨bm,cw,cO,bo,aL,aI,aH⟩:=at_L3 aW.out J ax ay;obtain rfl:ah=bm:=(by injection bo);replace aL:=hC HB aL;have cA:=Aside0.mk aH;have cy:=Aside0.mk aI;clear aH aI;replace ax:=eq_true ax;replace ay:=eq_true ay;try go_wp2
                                     replace aa:=Aside0.mk (Kd.R_drew aa.out);replace X:=Aside0.mk (blk_drew X.out);replace HB:=Aside0.mk (below_drew1 HB.out);have bv:0≤((ab):Int):=of_decide_eq_true aS;have bF:(ab)<(ag.length:Int):=of_decide_eq_true aS;obtain ⟨cF,cW,aM⟩:=Kd.at_int (Kd.R_reads' aa.out).2.2 (ab) bv bF;obtain rfl:(⟨a6,0,none⟩:Addr)=cF:=(by injection cW);(first|simp only[add_plain] at aM|simp only[add_at] at aM|simp only[Addr.add,Nat.zero_add] at aM|skip);replace bv:=eq_true bv;replace bF:=eq_true bF;have bw:0≤(J:Int):=of_decide_eq_true aS;have bG:J<(l1.length:Int):=of_decide_eq_true aS;obtain ⟨cG,cX,ba⟩:=Kd.at_int bO.out J bw bG;have cn:=ba;obtain rfl:bl=cG:=(by injection cX);replace ba:=hC HB ba;replace bw:=eq_true bw;replace bG:=eq_true bG;have bx:0≤(J:Int):=of_decide_eq_true aS;have bH:J<(U.length:Int):=of_decide_eq_true aS;obtain ⟨cH,dp,cP,cY,bb,cj,ch⟩:=at_L3 aW.out J bx bH;have co:=bb;obtain rfl:ah=cH:=(by injection cY);replace bb:=hC HB bb;have bP:=Aside0.mk ch;have dx:=Aside0.mk cj;clear ch cj;replace bx:=eq_true bx;replace bH:=eq_true bH;have bz:0≤(ae:Int):=of_decide_eq_true aS;have bI:ae<((rd_L3 U J).length:Int):=of_decide_eq_true aS;obtain ⟨bR,cZ,bc⟩:=Kd.at_int bP.out ae bz bI;have cp:=bc;cases cZ
                                     replace bc:=hC HB bc;replace bz:=eq_true bz;replace bI:=eq_true bI;have bu:0≤((ab):Int):=of_decide_eq_true aS;have bA:((ab):Int)<((ag.length:Int):Int):=of_decide_eq_true aS;obtain ⟨di,df⟩:=Kd.R_celln 0 aa.out ((ab):Int) bu bA;replace bu:=eq_true bu;replace bA:=eq_true bA;have bk:=Kd.R_putn aa.out ((ab):Int) (wrap64 ((rd ag (ab))+(wrap64 ((rd l1 J)*(rd (rd_L3 U J) ae)))));rw[← cE.out] at bk;have bM:=Aside0.mk bk;clear bk;refine start_ (n:=24) (S:=fun w' => w'.cell? ⟨ac,0,none⟩=some (.slice (some ah) U.length ai)∧w'.cell? ⟨ac,1,none⟩=some (.slice (some aE) Z.length aj)∧w'.cell? ⟨a6,((ab)).toNat,none⟩=some (.int .i64 (rd ag (ab)))∧w'.cell? (bl.add (J).toNat)=some (.int .i64 (rd l1 J))∧w'.cell? (ah.add (J).toNat)=some (.slice (some bR) (rd_L3 U J).length cP)∧w'.cell? (bR.add (ae).toNat)=some (.int .i64 (rd (rd_L3 U J) ae))) (ds:=[23]) #[false,false,false,false,false,false,false,false,false,false,false,false,false,false,false,false,false,false,false,false,false,false,false,false] (by kernel_rfl) rfl rfl ⟨(blk_cell X.out 0).trans rfl,(blk_cell X.out 1).trans rfl,aM,((HB.out.cell (World.block_lt_of_cell? w _ cn)).trans cn),((HB.out.cell (World.block_lt_of_cell? w _ co)).trans co),((HB.out.cell (World.block_lt_of_cell? w _ cp)).trans cp)⟩ (fun al => ?_);refine with_tabW spec_l4Sums.tab10 spec_l4Sums.bits10 (fun Y ar => ?_);generalize wr.drew=w33 at aa X HB bM bP df di aM ba bb bc al ⊢;refine pure_ (i:=0) (N:=some 51) (v := ?_) (a' := ?_) #[true,false,false,false,false,false,false,false,false,false,false,false,false,false,false,false,false,false,false,false,false,false,false,false] rfl rfl (any_of Y.out (by kernel_rfl)) (fun _ _ _ h=>h) (Or.inl ⟨by rfl,?_⟩) ?_ ?_;rotate_left
                                     · intro w';go_simp;with_reducible rfl
                                     rotate_left
                                     · exact aP
                                     refine pure_ (i:=1) (N:=some 52) (v := ?_) (a' := ?_) #[true,true,false,false,false,false,false,false,false,false,false,false,false,false,false,false,false,false,false,false,false,false,false,false] rfl rfl (any_of Y.out (by kernel_rfl)) (fun _ _ _ h=>h) (Or.inl ⟨by rfl,?_⟩) ?_ ?_;rotate_left
                                     · intro w';go_simp;with_reducible rfl
                                     rotate_left
                                     · exact aP
                                     refine pure_ (i:=2) (N:=some 53) (v := ?_) (a' := ?_) #[true,true,true,false,false,false,false,false,false,false,false,false,false,false,false,false,false,false,false,false,false,false,false,false] rfl rfl (any_of Y.out (by kernel_rfl)) (fun _ _ _ h=>h) (Or.inl ⟨by rfl,?_⟩) ?_ ?_;rotate_left
                                     · intro w';go_simp;with_reducible rfl
                                     rotate_left
                                     · exact aP
                                     refine pure_ (i:=3) (N:=some 54) (v := ?_) (a' := ?_) #[true,true,true,true,false,false,false,false,false,false,false,false,false,false,false,false,false,false,false,false,false,false,false,false] rfl rfl (any_of Y.out (by kernel_rfl)) (fun _ _ _ h=>h) (Or.inl ⟨by rfl,?_⟩) ?_ ?_;rotate_left
                                     · intro w';go_simp;with_reducible rfl
                                     rotate_left
                                     · exact aP
                                     refine pure_ (i:=4) (N:=some 55) (v := ?_) (a' := ?_) #[true,true,true,true,true,false,false,false,false,false,false,false,false,false,false,false,false,false,false,false,false,false,false,false] rfl rfl (any_of Y.out (by kernel_rfl)) (fun _ _ _ h=>h) (Or.inl ⟨by rfl,?_⟩) ?_ ?_;rotate_left
                                     · intro w';go_simp;with_reducible rfl
                                     rotate_left
                                     · exact aP
                                     refine pure_ (i:=5) (N:=some 56) (v := ?_) (a' := ?_) #[true,true,true,true,true,true,false,false,false,false,false,false,false,false,false,false,false,false,false,false,false,false,false,false] rfl rfl (any_of Y.out (by kernel_rfl)) (fun _ _ _ h=>h) (Or.inl ⟨by rfl,?_⟩) ?_ ?_;rotate_left
                                     · intro w';go_simp;with_reducible rfl
                                     rotate_left
                                     · exact aP
                                     refine pure_ (i:=6) (N:=some 57) (v := ?_) (a' := ?_) #[true,true,true,true,true,true,true,false,false,false,false,false,false,false,false,false,false,false,false,false,false,false,false,false] rfl rfl (any_of Y.out (by kernel_rfl)) (fun _ _ _ h=>h) (Or.inl ⟨by rfl,?_⟩) ?_ ?_;rotate_left
                                     · intro w';go_simp;with_reducible rfl
                                     rotate_left
                                     · exact aP
                                     refine pure_ (i:=8) (N:=some 59) (v := ?_) (a' := ?_) #[true,true,true,true,true,true,true,false,true,false,false,false,false,false,false,false,false,false,false,false,false,false,false,false] rfl rfl (any_of Y.out (by kernel_rfl)) (fun _ _ _ h=>h) (Or.inl ⟨by rfl,?_⟩) ?_ ?_;rotate_left
                                     · intro w';go_simp;with_reducible rfl
                                     rotate_left
                                     · exact aP
                                     refine pure_ (i:=9) (N:=some 60) (v := ?_) (a' := ?_) #[true,true,true,true,true,true,true,false,true,true,false,false,false,false,false,false,false,false,false,false,false,false,false,false] rfl rfl (any_of Y.out (by kernel_rfl)) (fun _ _ _ h=>h) (Or.inl ⟨by rfl,?_⟩) ?_ ?_;rotate_left
                                     · intro w';go_simp;with_reducible rfl
                                     rotate_left
                                     · exact aP
                                     refine pure_ (i:=10) (N:=some 61) (v := ?_) (a' := ?_) #[true,true,true,true,true,true,true,false,true,true,true,false,false,false,false,false,false,false,false,false,false,false,false,false] rfl rfl (any_of Y.out (by kernel_rfl)) (fun _ _ _ h=>h) (Or.inl ⟨by rfl,?_⟩) ?_ ?_;rotate_left
                                     · intro w';go_simp;with_reducible rfl
                                     rotate_left
                                     · exact aP
                                     refine pure_ (i:=12) (N:=some 63) (v := ?_) (a' := ?_) #[true,true,true,true,true,true,true,false,true,true,true,false,true,false,false,false,false,false,false,false,false,false,false,false] rfl rfl (any_of Y.out (by kernel_rfl)) (fun _ _ _ h=>h) (Or.inl ⟨by rfl,?_⟩) ?_ ?_;rotate_left
                                     · intro w';go_simp;with_reducible rfl
                                     rotate_left
                                     · exact aP
                                     refine pure_ (i:=14) (N:=some 65) (v := ?_) (a' := ?_) #[true,true,true,true,true,true,true,false,true,true,true,false,true,false,true,false,false,false,false,false,false,false,false,false] rfl rfl (any_of Y.out (by kernel_rfl)) (fun _ _ _ h=>h) (Or.inl ⟨by rfl,?_⟩) ?_ ?_;rotate_left
                                     · intro w';go_simp;with_reducible rfl
                                     rotate_left
                                     · exact aP
                                     refine pure_ (i:=17) (N:=some 68) (v := ?_) (a' := ?_) #[true,true,true,true,true,true,true,false,true,true,true,false,true,false,true,false,false,true,false,false,false,false,false,false] rfl rfl (any_of Y.out (by kernel_rfl)) (fun _ _ _ h=>h) (Or.inl ⟨by rfl,?_⟩) ?_ ?_;rotate_left
                                     · intro w';go_simp;with_reducible rfl
                                     rotate_left
                                     · exact aP
                                     refine take_ (i:=7) (N:=some 58) (v := ?_) (a' := ?_) #[true,true,true,true,true,true,true,true,true,true,true,false,true,false,true,false,false,true,false,false,false,false,false,false] rfl rfl (take_ofW Y.out ar.out (by kernel_rfl)) (fun _ _ _ h=>h) (Or.inl ⟨by rfl,?_⟩) al ?_ ?_;rotate_left
                                     · rintro w' ⟨s0,s1,s2,s3,s4,s5⟩;go_simp;with_reducible rfl
                                     rotate_left
                                     · exact aP
                                     refine take_ (i:=11) (N:=some 62) (v := ?_) (a' := ?_) #[true,true,true,true,true,true,true,true,true,true,true,true,true,false,true,false,false,true,false,false,false,false,false,false] rfl rfl (take_ofW Y.out ar.out (by kernel_rfl)) (fun _ _ _ h=>h) (Or.inl ⟨by rfl,?_⟩) al ?_ ?_;rotate_left
                                     · rintro w' ⟨s0,s1,s2,s3,s4,s5⟩;go_simp;with_reducible rfl
                                     rotate_left
                                     · exact aP
                                     refine take_ (i:=13) (N:=some 64) (v := ?_) (a' := ?_) #[true,true,true,true,true,true,true,true,true,true,true,true,true,true,true,false,false,true,false,false,false,false,false,false] rfl rfl (take_ofW Y.out ar.out (by kernel_rfl)) (fun _ _ _ h=>h) (Or.inl ⟨by rfl,?_⟩) al ?_ ?_;rotate_left
                                     · rintro w' ⟨s0,s1,s2,s3,s4,s5⟩;go_simp;with_reducible rfl
                                     rotate_left
                                     · exact aP
                                     refine pure_ (i:=15) (N:=some 66) (v := ?_) (a' := ?_) #[true,true,true,true,true,true,true,true,true,true,true,true,true,true,true,true,false,true,false,false,false,false,false,false] rfl rfl (any_of Y.out (by kernel_rfl)) (fun _ _ _ h=>h) (Or.inl ⟨by rfl,?_⟩) ?_ ?_;rotate_left
                                     · intro w';go_simp;with_reducible rfl
                                     rotate_left
                                     · exact aP
                                     refine take_ (i:=16) (N:=some 67) (v := ?_) (a' := ?_) #[true,true,true,true,true,true,true,true,true,true,true,true,true,true,true,true,true,true,false,false,false,false,false,false] rfl rfl (take_ofW Y.out ar.out (by kernel_rfl)) (fun _ _ _ h=>h) (Or.inl ⟨by rfl,?_⟩) al ?_ ?_;rotate_left
                                     · rintro w' ⟨s0,s1,s2,s3,s4,s5⟩;go_simp;with_reducible rfl
                                     rotate_left
                                     · exact aP
                                     refine pure_ (i:=18) (N:=some 69) (v := ?_) (a' := ?_) #[true,true,true,true,true,true,true,true,true,true,true,true,true,true,true,true,true,true,true,false,false,false,false,false] rfl rfl (any_of Y.out (by kernel_rfl)) (fun _ _ _ h=>h) (Or.inl ⟨by rfl,?_⟩) ?_ ?_;rotate_left
                                     · intro w';go_simp;with_reducible rfl
                                     rotate_left
                                     · exact aP
                                     refine take_ (i:=19) (N:=some 70) (v := ?_) (a' := ?_) #[true,true,true,true,true,true,true,true,true,true,true,true,true,true,true,true,true,true,true,true,false,false,false,false] rfl rfl (take_ofW Y.out ar.out (by kernel_rfl)) (fun _ _ _ h=>h) (Or.inl ⟨by rfl,?_⟩) al ?_ ?_;rotate_left
                                     · rintro w' ⟨s0,s1,s2,s3,s4,s5⟩;go_simp;with_reducible rfl
                                     rotate_left
                                     · exact aP
                                     refine pure_ (i:=20) (N:=some 71) (v := ?_) (a' := ?_) #[true,true,true,true,true,true,true,true,true,true,true,true,true,true,true,true,true,true,true,true,true,false,false,false] rfl rfl (any_of Y.out (by kernel_rfl)) (fun _ _ _ h=>h) (Or.inl ⟨by rfl,?_⟩) ?_ ?_;rotate_left
                                     · intro w';go_simp;with_reducible rfl
                                     rotate_left
                                     · exact aP
                                     refine pure_ (i:=21) (N:=some 72) (v := ?_) (a' := ?_) #[true,true,true,true,true,true,true,true,true,true,true,true,true,true,true,true,true,true,true,true,true,true,false,false] rfl rfl (any_of Y.out (by kernel_rfl)) (fun _ _ _ h=>h) (Or.inl ⟨by rfl,?_⟩) ?_ ?_;rotate_left
                                     · intro w';go_simp;with_reducible rfl
                                     rotate_left
                                     · exact aP
                                     refine pure_ (i:=22) (N:=some 73) (v := ?_) (a' := ?_) #[true,true,true,true,true,true,true,true,true,true,true,true,true,true,true,true,true,true,true,true,true,true,true,false] rfl rfl (any_of Y.out (by kernel_rfl)) (fun _ _ _ h=>h) (Or.inl ⟨by rfl,?_⟩) ?_ ?_;rotate_left
                                     · intro w';go_simp;with_reducible rfl
                                     rotate_left
                                     · exact aP
                                     refine last_ (i:=23) (N:=none) #[true,true,true,true,true,true,true,true,true,true,true,true,true,true,true,true,true,true,true,true,true,true,true,true] rfl rfl (one_of Y.out (by kernel_rfl)) (by decide) (fun K hK => ?_);refine skip_ (w1 := ?_) (by rfl) rfl ?_ ?_;rotate_left
                                     · go_simp;rfl
                                     refine hK.out _ _ ?_;clear hK K;refine done_ (done_of Y.out (by kernel_rfl)) ?_;try go_wp2
                                     (try simp only[← am]);go_roundg k2
                                     case measure=>have:=HK1.out;have:=HK2.out;omega
                                     case rel=>exact ⟨(cv),(ab),(by first|rfl|(simp;done)|(simp only[← a7] <;> (first|rfl|simp))|(simp[*];done)),H',⟨by have:=HK1.out;have:=HK2.out;omega⟩,⟨by (try simp only[am]);(with_reducible repeat (first|apply Kd.R_alloc|apply Kd.R_drewN|apply Kd.R_drew));exact bM.out⟩,⟨by (try simp only[am]);(with_reducible repeat (first|refine blk_drewN ?_ _|refine blk_drew ?_|refine blk_alloc ?_ _));refine blk_far ?_ (by have h_:=Kd.R_ne aa.out X.out (by decide);intro e_;exact h_ (by rw[e_];rfl)) _;(with_reducible repeat (first|refine blk_drewN ?_ _|refine blk_drew ?_|refine blk_alloc ?_ _));exact X.out⟩,⟨bD HB bJ aq⟩⟩
                                   · replace H:=iN a5 H;cases H
                                 · replace H:=iN a4 H;cases H
                               · replace H:=iN a3 H;cases H
                             · replace H:=iN aZ H;cases H
                           · replace H:=iN az H;have cL:=decide_eq_false az;clear az;have H' := Aside0.mk H;clear H;have dK:wr.cell? ⟨ac,0,none⟩=some (.slice (some ah) U.length ai):=(blk_cell X.out 0).trans rfl;have dL:wr.cell? ⟨ac,1,none⟩=some (.slice (some aE) Z.length aj):=(blk_cell X.out 1).trans rfl;have dT:=blk_frozen X.out 0;have dU:=blk_frozen X.out 1;have ax:0≤(J:Int):=of_decide_eq_true aS;have ay:J<(U.length:Int):=of_decide_eq_true aS;obtain ⟨bm,cw,cO,bo,aL,aI,aH⟩:=at_L3 aW.out J ax ay;obtain rfl:ah=bm:=(by injection bo);replace aL:=hC HB aL;have cA:=Aside0.mk aH;have cy:=Aside0.mk aI;clear aH aI;replace ax:=eq_true ax;replace ay:=eq_true ay;go_wp2;(try simp only[← am]);go_roundg k2
                             case measure=>have:=HK1.out;have:=HK2.out;omega
                             case rel=>exact ⟨(ag),(wrap64 (J+1)),rD,H',⟨by have:=HK1.out;have:=HK2.out;omega⟩,⟨by (try simp only[am]);(with_reducible repeat (first|apply Kd.R_alloc|apply Kd.R_drewN|apply Kd.R_drew));exact aa.out⟩,⟨by (try simp only[am]);(with_reducible repeat (first|refine blk_drewN ?_ _|refine blk_drew ?_|refine blk_alloc ?_ _));exact X.out⟩,⟨bC HB aq⟩⟩
                         · replace H:=iN aY H;cases H
                       · replace H:=iN aX H;cases H
                   · replace H:=iN c17 H;cases H
                 · replace H:=iN c16 H;cases H
               · replace H:=iN c15 H;have c15b0:=qF c15;have bU:=nT c15;have H' := Aside0.mk H;clear H;have dM:wr.cell? ⟨ac,0,none⟩=some (.slice (some ah) U.length ai):=(blk_cell X.out 0).trans rfl;have dN:wr.cell? ⟨ac,1,none⟩=some (.slice ap Z.length aj):=(blk_cell X.out 1).trans rfl;have dV:=blk_frozen X.out 0;have dW:=blk_frozen X.out 1;have au:0≤(J:Int):=of_decide_eq_true aS;have av:J<(Z.length:Int):=of_decide_eq_true aS;obtain ⟨aE,bn,aC⟩:=Kd.at_int bN.out J au av;cases bn
                 replace aC:=hC HB aC;replace au:=eq_true au;replace av:=eq_true av;go_wp2;go_roundg k1
                 case measure=>exact kM HK1
                 case rel=>exact ⟨(af),(wrap64 (J+1)),rD,H',⟨kM HK1⟩,⟨pR aa⟩,⟨pB X⟩,⟨bC HB aq⟩⟩
             · replace H:=iN aG H;cases H
           · replace H:=iN aF H;cases H
         · replace H:=iN aw H;have bT:=decide_eq_false aw;clear aw;obtain rfl:=Option.some.inj H;have dO:wr.cell? ⟨ac,0,none⟩=some (.slice (some ah) U.length ai):=(blk_cell X.out 0).trans rfl;have dP:wr.cell? ⟨ac,1,none⟩=some (.slice ap Z.length aj):=(blk_cell X.out 1).trans rfl;have dX:=blk_frozen X.out 0;have dY:=blk_frozen X.out 1;go_wp2;go_ret
           exact ⟨_,by first|rfl|(simp[errW_none,errW_some] <;> rfl)|(simp only[← a8];first|rfl|(simp[errW_none,errW_some] <;> rfl))|(simp[*,errW_none,errW_some] <;> rfl),by (with_reducible repeat (first|apply Kd.R_alloc|apply Kd.R_drewN|apply Kd.R_drew));exact aa.out,bC HB aq⟩
     · replace H:=iN c7 H;cases H
   · replace H:=iN c6 H;cases H
 · replace H:=iN c4 H;cases H
end Go.Proofs.Ytkbahcbankfffaa.PFnPlanesOfPairs
