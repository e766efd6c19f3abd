import Derived.Test.YtkbahcbankfffaaWRepsOne
import Derived.Test.YtkbahcbankfffaaPFnPairsx0
import Derived.Test.YtkbahcbankfffaaPFnPairsx4
import Derived.Test.YtkbahcbankfffaaPFnPairsx5
import Derived.Test.YtkbahcbankfffaaSh
import Derived.Test.YtkbahcbankfffaaSz
namespace Go.Proofs.Ytkbahcbankfffaa.PFnPairs
open Go.RowKit Go.Proofs.Ytkbahcbankfffaa.Sh Go.Proofs.YtkbahcbankfffaaW.PrintWords Go.Proofs.YtkbahcbankfffaaW.PrintLast Go.Proofs.YtkbahcbankfffaaW.PrintMore
attribute [local go_sem] max2_int min2_int max_two min_two max_three min_three max_four min_four
set_option linter.unusedVariables false
set_option maxHeartbeats 8000000
set_option maxRecDepth 100000
set_option linter.unusedSimpArgs false
mutual
def impl_findPair.l0:Nat→List Int→List (List Int)→List (List Int)→List (List Int)→Int→Int→Option ((List (List Int))×Bool)
 | 0,_,_,_,_,_,_=>none
 | k+1,x1,x6,x7,x20,x21,x22=>if x22<x21 then (if 0≤x22 then (if x22<(x20.length:Int) then (impl_findPair.l1 k x1 x6 x7 (rd_L3 x20 x22) x20 x21 x22 x6 (x6.length:Int) 0) else (none)) else (none)) else (some (([]:List (List Int)),false))
def impl_findPair.l1:Nat→List Int→List (List Int)→List (List Int)→List Int→List (List Int)→Int→Int→List (List Int)→Int→Int→Option ((List (List Int))×Bool)
 | 0,_,_,_,_,_,_,_,_,_,_=>none
 | k+1,x1,x6,x7,x9,x20,x21,x22,x26,x27,x28=>if x28<x27 then (if 0≤x28 then (if x28<(x26.length:Int) then (impl_findPair.l2 k x1 x6 x7 x9 (rd_L3 x26 x28) x20 x21 x22 x26 x27 x28 x7 (x7.length:Int) 0) else (none)) else (none)) else (impl_findPair.l0 k x1 x6 x7 x20 x21 (wrap64 (x22+1)))
def impl_findPair.l2:Nat→List Int→List (List Int)→List (List Int)→List Int→List Int→List (List Int)→Int→Int→List (List Int)→Int→Int→List (List Int)→Int→Int→Option ((List (List Int))×Bool)
 | 0,_,_,_,_,_,_,_,_,_,_,_,_,_,_=>none
 | k+1,x1,x6,x7,x9,x11,x20,x21,x22,x26,x27,x28,x32,x33,x34=>if x34<x33 then (if 0≤x34 then (if x34<(x32.length:Int) then (impl_findPair.l3 k x1 x6 x7 x9 x11 (rd_L3 x32 x34) true x20 x21 x22 x26 x27 x28 x32 x33 x34 x1 (x1.length:Int) 0) else (none)) else (none)) else (impl_findPair.l1 k x1 x6 x7 x9 x20 x21 x22 x26 x27 (wrap64 (x28+1)))
def impl_findPair.l3:Nat→List Int→List (List Int)→List (List Int)→List Int→List Int→List Int→Bool→List (List Int)→Int→Int→List (List Int)→Int→Int→List (List Int)→Int→Int→List Int→Int→Int→Option ((List (List Int))×Bool)
 | 0,_,_,_,_,_,_,_,_,_,_,_,_,_,_,_,_,_,_,_=>none
 | k+1,x1,x6,x7,x9,x11,x13,x14,x20,x21,x22,x26,x27,x28,x32,x33,x34,x38,x39,x40=>if x40<x39 then (if 0≤x40 then (if x40<(x38.length:Int) then (if x14=true then (if x40<(x9.length:Int) then (if x40<(x11.length:Int) then (if 0≤(Go.bits .or .i64 (rd x9 x40) (wrap64 ((rd x11 x40)*2))) then (if (Go.bits .or .i64 (rd x9 x40) (wrap64 ((rd x11 x40)*2)))<(x13.length:Int) then (impl_findPair.l3 k x1 x6 x7 x9 x11 x13 ((rd x13 (Go.bits .or .i64 (rd x9 x40) (wrap64 ((rd x11 x40)*2))))==(rd x38 x40)) x20 x21 x22 x26 x27 x28 x32 x33 x34 x38 x39 (wrap64 (x40+1))) else (none)) else (none)) else (none)) else (none)) else (impl_findPair.l3 k x1 x6 x7 x9 x11 x13 false x20 x21 x22 x26 x27 x28 x32 x33 x34 x38 x39 (wrap64 (x40+1)))) else (none)) else (none)) else (if x14=true then (some (([x9,x11,x13]:List (List Int)),true)) else (impl_findPair.l2 k x1 x6 x7 x9 x11 x20 x21 x22 x26 x27 x28 x32 x33 (wrap64 (x34+1))))
end
def impl_findPair.f (k:Nat) (a0:Int) (l1:List Int):Option ((List (List Int))×Bool):=(impl_thresholdTables.f k a0).bind fun t219=>((impl_thresholdTables.f k 2).bind fun t222=>(impl_findPair.l0 k l1 t219 t222 t219 (t219.length:Int) 0))
theorem impl_findPair.calls (k:Nat) (a0:Int) (A1:Option Addr) (c1:Nat) (l1:List Int) (r1:List (List Int)) (r2:Bool) (w:World) (hr1:Kd.C (Kd.int .i64) w A1 l1.length l1) (hc1:l1.length≤c1) (h:impl_findPair.f k a0 l1=some (r1,r2)) :
 Calls Try.prog 57 #[.int .i64 a0,.slice A1 l1.length c1] w fun e w' => ∃ v0_:Value,e = .returned (.tuple #[v0_,.bool r2])∧Kd.N (Kd.slice 3 (Kd.int .i64)) 24 w' w.heap.size (fun k_=>w.heap.size≤k_) v0_ r1∧Below w.heap.size w w' := by
 have HR1:=Aside0.mk hr1;have HC1:=Aside0.mk hc1;clear hr1 hc1;have HB:=Aside0.mk (Below.refl w.heap.size w);have H:((impl_thresholdTables.f k a0).bind fun t219=>((impl_thresholdTables.f k 2).bind fun t222=>(impl_findPair.l0 k l1 t219 t222 t219 (t219.length:Int) 0)))=some (r1,r2):=h;clear h;obtain ⟨t219,A3,H⟩:=bS H;obtain ⟨t222,A4,H⟩:=bS H;have H' := Aside0.mk H;clear H;go_enter Try.func57,Try.ntmps57;go_wp2_with (first|(go_at_call 121;(with_reducible refine (impl_thresholdTables.calls k a0 t219 _ A3.out).mono ?_);rintro e w5 ⟨v220,rfl,ho0,hb⟩;have HO221:=Aside0.mk (Kd.S_lower ho0 (below_size (bB HB)));replace HB:=Aside0.mk (below_step (bB HB) hb);(try clear hb);(try clear ho0))|(go_at_call 121;(with_reducible refine (impl_thresholdTables.calls k 2 t222 _ A4.out).mono ?_);rintro e w6 ⟨v223,rfl,ho0,hb⟩;have HO224:=Aside0.mk (Kd.S_lower (Kd.S_new' ho0 (Kd.S_lt (pS HO221))) (below_size (bB HB)));replace HO221:=Aside0.mk (Kd.S_elder' (pS HO221) (Kd.S_base ho0) hb);replace HB:=Aside0.mk (below_step (bB HB) hb);(try clear hb);(try clear ho0);obtain ⟨Ao7,co7,eo7⟩:=Kd.S_slice HO221.out;subst eo7))
 repeat (go_quiet (first|(go_at_call 121;(with_reducible refine (impl_thresholdTables.calls k a0 t219 _ A3.out).mono ?_);rintro e w5 ⟨v220,rfl,ho0,hb⟩;have HO221:=Aside0.mk (Kd.S_lower ho0 (below_size (bB HB)));replace HB:=Aside0.mk (below_step (bB HB) hb);(try clear hb);(try clear ho0))|(go_at_call 121;(with_reducible refine (impl_thresholdTables.calls k 2 t222 _ A4.out).mono ?_);rintro e w6 ⟨v223,rfl,ho0,hb⟩;have HO224:=Aside0.mk (Kd.S_lower (Kd.S_new' ho0 (Kd.S_lt (pS HO221))) (below_size (bB HB)));replace HO221:=Aside0.mk (Kd.S_elder' (pS HO221) (Kd.S_base ho0) hb);replace HB:=Aside0.mk (below_step (bB HB) hb);(try clear hb);(try clear ho0);obtain ⟨Ao7,co7,eo7⟩:=Kd.S_slice HO221.out;subst eo7));try go_wp2_with (first|(go_at_call 121;(with_reducible refine (impl_thresholdTables.calls k a0 t219 _ A3.out).mono ?_);rintro e w5 ⟨v220,rfl,ho0,hb⟩;have HO221:=Aside0.mk (Kd.S_lower ho0 (below_size (bB HB)));replace HB:=Aside0.mk (below_step (bB HB) hb);(try clear hb);(try clear ho0))|(go_at_call 121;(with_reducible refine (impl_thresholdTables.calls k 2 t222 _ A4.out).mono ?_);rintro e w6 ⟨v223,rfl,ho0,hb⟩;have HO224:=Aside0.mk (Kd.S_lower (Kd.S_new' ho0 (Kd.S_lt (pS HO221))) (below_size (bB HB)));replace HO221:=Aside0.mk (Kd.S_elder' (pS HO221) (Kd.S_base ho0) hb);replace HB:=Aside0.mk (below_step (bB HB) hb);(try clear hb);(try clear ho0);obtain ⟨Ao7,co7,eo7⟩:=Kd.S_slice HO221.out;subst eo7)))
 go_loopg [22] k (fun kq v22 w' => ∃ (x22_1:Int),v22 = .int .i64 x22_1∧Aside0 (impl_findPair.l0 kq l1 t219 t222 t219 (t219.length:Int) x22_1=some (r1,r2))∧Aside0 (kq≤k)∧Aside0 (Kd.S (Kd.slice 3 (Kd.int .i64)) 24 w' w.heap.size (fun k_=>some k_≠(v223:Value).ownBlock) (.slice Ao7 t219.length co7) t219)∧Aside0 (Kd.S (Kd.slice 3 (Kd.int .i64)) 24 w' w.heap.size (fun k_=>some k_≠((.slice Ao7 t219.length co7):Value).ownBlock∧some k_≠((.slice Ao7 t219.length co7):Value).ownBlock) v223 t222)∧Aside0 (Kd.S (Kd.slice 3 (Kd.int .i64)) 24 w' w.heap.size (fun k_=>some k_≠(v223:Value).ownBlock) (.slice Ao7 t219.length co7) t219)∧Aside0 (Below w.heap.size w w'))
 case atStart=>exact ⟨(0),rD,H',⟨Nat.le_refl _⟩,⟨by refine xS ?_;exact Kd.S_mono HO221.out (fun _ hk=>hk.2)⟩,⟨by refine xS ?_;exact Kd.S_mono HO224.out (fun _ hk=>⟨hk.2,hk.2⟩)⟩,⟨by refine xS ?_;exact Kd.S_mono HO221.out (fun _ hk=>hk.2)⟩,⟨bB HB⟩⟩
 case round =>
  clear H';try clear c1
  obtain ⟨x22_1,rfl,HA,HK1,HO_6,HO_7,HO_20,HB⟩:=hrel;cases gk with
  | zero=>exact absurd HA.out (by simp[impl_findPair.l0])
  | succ k1 =>
   have H:=HA.out;clear HA;simp only[impl_findPair.l0] at H;by_cases c8:x22_1<(t219.length:Int)
   · replace H:=iP c8 H;have c8b0:=decide_eq_true c8;clear c8;by_cases c9:0≤x22_1
     · replace H:=iP c9 H;have c9b0:=decide_eq_true c9;clear c9;by_cases c10:x22_1<(t219.length:Int)
       · replace H:=iP c10 H;have c10b0:=decide_eq_true c10;clear c10;have H' := Aside0.mk H;clear H;have p225:0≤(x22_1:Int):=of_decide_eq_true aS;have q225:x22_1<(t219.length:Int):=of_decide_eq_true aS;obtain ⟨ad225,A225_0,c225_0,e225,hx225_0,hl225_0,hi225_0⟩:=at_L3 (Kd.S_reads' HO_20.out).2.2 x22_1 p225 q225;cases e225
         obtain ⟨ce225,hce225,hMe225,hcc225⟩:=Kd.S_get HO_20.out [] x22_1 p225 (by first|exact q225|exact of_decide_eq_true aS|(have e_:=(Kd.S_reads' HO_20.out).1;omega));obtain ⟨ve225_0,rfl,ge225_0⟩:=hMe225;have hv225_0:=hcc225 0 _ rfl;rw[Nat.add_zero,show ((Kd.slice 3 (Kd.int .i64))).sz=1 from rfl,Nat.mul_one] at hv225_0;replace hv225_0:=Option.some.inj (hv225_0.symm.trans hx225_0);rw[hv225_0] at ge225_0;have HL225_0:=Aside0.mk (show Kd.R (Kd.int .i64) 3 _ _ _ _ (rd_L3 t219 x22_1) from ge225_0);clear hv225_0 ge225_0;clear hcc225 hce225;have HR225_0:=Aside0.mk (show Kd.V (Kd.int .i64) 3 _ w.heap.size (fun q=>w.heap.size≤q) (.slice A225_0 (rd_L3 t219 x22_1).length c225_0) (rd_L3 t219 x22_1) from Kd.V_mono (Kd.R_V (Kd.R_bound HL225_0.out)) (fun q hq=>hq.2.1));have HC225_0:=Aside0.mk hl225_0;clear hi225_0 hl225_0;replace p225:=eq_true p225;replace q225:=eq_true q225;go_wp2;repeat (go_quiet (fail);try go_wp2)
         go_loopg [28] k1 (fun kq v28 w' => ∃ (x28_2:Int),v28 = .int .i64 x28_2∧Aside0 (impl_findPair.l1 kq l1 t219 t222 (rd_L3 t219 x22_1) t219 (t219.length:Int) x22_1 t219 (t219.length:Int) x28_2=some (r1,r2))∧Aside0 (kq≤k1)∧Aside0 (Kd.S (Kd.slice 3 (Kd.int .i64)) 24 w' w.heap.size (fun k_=>some k_≠(v223:Value).ownBlock) (.slice (some ad225) t219.length co7) t219)∧Aside0 (Kd.S (Kd.slice 3 (Kd.int .i64)) 24 w' w.heap.size (fun k_=>some k_≠((.slice (some ad225) t219.length co7):Value).ownBlock∧some k_≠((.slice (some ad225) t219.length co7):Value).ownBlock∧some k_≠((.slice (some ad225) t219.length co7):Value).ownBlock) v223 t222)∧Aside0 (Kd.S (Kd.slice 3 (Kd.int .i64)) 24 w' w.heap.size (fun k_=>some k_≠(v223:Value).ownBlock) (.slice (some ad225) t219.length co7) t219)∧Aside0 (Kd.S (Kd.slice 3 (Kd.int .i64)) 24 w' w.heap.size (fun k_=>some k_≠(v223:Value).ownBlock) (.slice (some ad225) t219.length co7) t219)∧Aside0 (Kd.V (Kd.int .i64) 3 w' w.heap.size (fun q=>w.heap.size≤q) (.slice A225_0 (rd_L3 t219 x22_1).length c225_0) (rd_L3 t219 x22_1))∧Aside0 (Below w.heap.size w w'))
         case atStart=>exact ⟨(0),rD,H',⟨Nat.le_refl _⟩,⟨pS HO_6⟩,⟨by refine xS ?_;exact Kd.S_mono HO_7.out (fun _ hk=>⟨hk.1,⟨hk.2,hk.1⟩⟩)⟩,⟨pS HO_20⟩,⟨pS HO_6⟩,⟨by repeat (first|(with_reducible exact HR225_0.out)|(with_reducible refine Kd.V_alloc ?_ _)|(with_reducible refine Kd.V_drewN ?_ _)|(with_reducible refine Kd.V_drew ?_)|exact HR225_0.out)⟩,⟨bB HB⟩⟩
         case round =>
          clear H';try clear c1
          try clear c8
          try clear c8b0
          try clear c9
          try clear c9b0
          try clear c10
          try clear c10b0
          try clear hx225_0
          try clear p225
          try clear q225
          obtain ⟨x28_2,rfl,HA,HK2,HO_6,HO_7,HO_20,HO_26,HR225_0,HB⟩:=hrel;cases gk with
          | zero=>exact absurd HA.out (by simp[impl_findPair.l1])
          | succ k2 =>
           have H:=HA.out;clear HA;simp only[impl_findPair.l1] at H;by_cases c11:x28_2<(t219.length:Int)
           · replace H:=iP c11 H;have c11b0:=decide_eq_true c11;clear c11;by_cases c12:0≤x28_2
             · replace H:=iP c12 H;have c12b0:=decide_eq_true c12;clear c12;by_cases c13:x28_2<(t219.length:Int)
               · replace H:=iP c13 H;have c13b0:=decide_eq_true c13;clear c13;have H' := Aside0.mk H;clear H;have p226:0≤(x28_2:Int):=of_decide_eq_true aS;have q226:x28_2<(t219.length:Int):=of_decide_eq_true aS;obtain ⟨ad226,A226_0,c226_0,e226,hx226_0,hl226_0,hi226_0⟩:=at_L3 (Kd.S_reads' HO_26.out).2.2 x28_2 p226 q226;obtain rfl:ad225=ad226:=(by injection e226);obtain ⟨ce226,hce226,hMe226,hcc226⟩:=Kd.S_get HO_26.out [] x28_2 p226 (by first|exact q226|exact of_decide_eq_true aS|(have e_:=(Kd.S_reads' HO_26.out).1;omega));obtain ⟨ve226_0,rfl,ge226_0⟩:=hMe226;have hv226_0:=hcc226 0 _ rfl;rw[Nat.add_zero,show ((Kd.slice 3 (Kd.int .i64))).sz=1 from rfl,Nat.mul_one] at hv226_0;replace hv226_0:=Option.some.inj (hv226_0.symm.trans hx226_0);rw[hv226_0] at ge226_0;have HL226_0:=Aside0.mk (show Kd.R (Kd.int .i64) 3 _ _ _ _ (rd_L3 t219 x28_2) from ge226_0);clear hv226_0 ge226_0;clear hcc226 hce226;have HR226_0:=Aside0.mk (show Kd.V (Kd.int .i64) 3 _ w.heap.size (fun q=>w.heap.size≤q) (.slice A226_0 (rd_L3 t219 x28_2).length c226_0) (rd_L3 t219 x28_2) from Kd.V_mono (Kd.R_V (Kd.R_bound HL226_0.out)) (fun q hq=>hq.2.1));have HC226_0:=Aside0.mk hl226_0;clear hi226_0 hl226_0;replace p226:=eq_true p226;replace q226:=eq_true q226;obtain ⟨Ao14,co14,eo14⟩:=Kd.S_slice HO_7.out;subst eo14;go_wp2;repeat (go_quiet (fail);try go_wp2)
                 go_loopg [34] k2 (fun kq v34 w' => ∃ (x34_3:Int),v34 = .int .i64 x34_3∧Aside0 (impl_findPair.l2 kq l1 t219 t222 (rd_L3 t219 x22_1) (rd_L3 t219 x28_2) t219 (t219.length:Int) x22_1 t219 (t219.length:Int) x28_2 t222 (t222.length:Int) x34_3=some (r1,r2))∧Aside0 (kq≤k2)∧Aside0 (Kd.S (Kd.slice 3 (Kd.int .i64)) 24 w' w.heap.size (fun k_=>some k_≠((.slice Ao14 t222.length co14):Value).ownBlock∧some k_≠((.slice Ao14 t222.length co14):Value).ownBlock) (.slice (some ad225) t219.length co7) t219)∧Aside0 (Kd.S (Kd.slice 3 (Kd.int .i64)) 24 w' w.heap.size (fun k_=>some k_≠((.slice (some ad225) t219.length co7):Value).ownBlock∧some k_≠((.slice (some ad225) t219.length co7):Value).ownBlock∧some k_≠((.slice (some ad225) t219.length co7):Value).ownBlock) (.slice Ao14 t222.length co14) t222)∧Aside0 (Kd.S (Kd.slice 3 (Kd.int .i64)) 24 w' w.heap.size (fun k_=>some k_≠((.slice Ao14 t222.length co14):Value).ownBlock∧some k_≠((.slice Ao14 t222.length co14):Value).ownBlock) (.slice (some ad225) t219.length co7) t219)∧Aside0 (Kd.S (Kd.slice 3 (Kd.int .i64)) 24 w' w.heap.size (fun k_=>some k_≠((.slice Ao14 t222.length co14):Value).ownBlock∧some k_≠((.slice Ao14 t222.length co14):Value).ownBlock) (.slice (some ad225) t219.length co7) t219)∧Aside0 (Kd.S (Kd.slice 3 (Kd.int .i64)) 24 w' w.heap.size (fun k_=>some k_≠((.slice (some ad225) t219.length co7):Value).ownBlock∧some k_≠((.slice (some ad225) t219.length co7):Value).ownBlock∧some k_≠((.slice (some ad225) t219.length co7):Value).ownBlock) (.slice Ao14 t222.length co14) t222)∧Aside0 (Kd.V (Kd.int .i64) 3 w' w.heap.size (fun q=>w.heap.size≤q) (.slice A225_0 (rd_L3 t219 x22_1).length c225_0) (rd_L3 t219 x22_1))∧Aside0 (Kd.V (Kd.int .i64) 3 w' w.heap.size (fun q=>w.heap.size≤q) (.slice A226_0 (rd_L3 t219 x28_2).length c226_0) (rd_L3 t219 x28_2))∧Aside0 (Below w.heap.size w w'))
                 case atStart=>exact ⟨(0),rD,H',⟨Nat.le_refl _⟩,⟨by refine xS ?_;exact Kd.S_mono HO_6.out (fun _ hk=>⟨hk,hk⟩)⟩,⟨pS HO_7⟩,⟨by refine xS ?_;exact Kd.S_mono HO_20.out (fun _ hk=>⟨hk,hk⟩)⟩,⟨by refine xS ?_;exact Kd.S_mono HO_26.out (fun _ hk=>⟨hk,hk⟩)⟩,⟨pS HO_7⟩,⟨by repeat (first|(with_reducible exact HR225_0.out)|(with_reducible refine Kd.V_alloc ?_ _)|(with_reducible refine Kd.V_drewN ?_ _)|(with_reducible refine Kd.V_drew ?_)|exact HR225_0.out)⟩,⟨by repeat (first|(with_reducible exact HR226_0.out)|(with_reducible refine Kd.V_alloc ?_ _)|(with_reducible refine Kd.V_drewN ?_ _)|(with_reducible refine Kd.V_drew ?_)|exact HR226_0.out)⟩,⟨bB HB⟩⟩
                 case round =>
                  clear H';try clear c1
                  try clear c8
                  try clear c8b0
                  try clear c9
                  try clear c9b0
                  try clear c10
                  try clear c10b0
                  try clear c11
                  try clear c11b0
                  try clear c12
                  try clear c12b0
                  try clear c13
                  try clear c13b0
                  try clear hx225_0
                  try clear hx226_0
                  try clear p225
                  try clear p226
                  try clear q225
                  try clear q226
                  obtain ⟨x34_3,rfl,HA,HK3,HO_6,HO_7,HO_20,HO_26,HO_32,HR225_0,HR226_0,HB⟩:=hrel;cases gk with
                  | zero=>exact absurd HA.out (by simp[impl_findPair.l2])
                  | succ k3 =>
                   have H:=HA.out;clear HA;simp only[impl_findPair.l2] at H;by_cases c15:x34_3<(t222.length:Int)
                   · replace H:=iP c15 H;have c15b0:=decide_eq_true c15;clear c15;by_cases c16:0≤x34_3
                     · replace H:=iP c16 H;have c16b0:=decide_eq_true c16;clear c16;by_cases c17:x34_3<(t222.length:Int)
                       · replace H:=iP c17 H;have c17b0:=decide_eq_true c17;clear c17;have H' := Aside0.mk H;clear H;have p227:0≤(x34_3:Int):=of_decide_eq_true aS;have q227:x34_3<(t222.length:Int):=of_decide_eq_true aS;obtain ⟨ad227,A227_0,c227_0,e227,hx227_0,hl227_0,hi227_0⟩:=at_L3 (Kd.S_reads' HO_32.out).2.2 x34_3 p227 q227;cases e227
                         obtain ⟨ce227,hce227,hMe227,hcc227⟩:=Kd.S_get HO_32.out [] x34_3 p227 (by first|exact q227|exact of_decide_eq_true aS|(have e_:=(Kd.S_reads' HO_32.out).1;omega));obtain ⟨ve227_0,rfl,ge227_0⟩:=hMe227;have hv227_0:=hcc227 0 _ rfl;rw[Nat.add_zero,show ((Kd.slice 3 (Kd.int .i64))).sz=1 from rfl,Nat.mul_one] at hv227_0;replace hv227_0:=Option.some.inj (hv227_0.symm.trans hx227_0);rw[hv227_0] at ge227_0;have HL227_0:=Aside0.mk (show Kd.R (Kd.int .i64) 3 _ _ _ _ (rd_L3 t222 x34_3) from ge227_0);clear hv227_0 ge227_0;clear hcc227 hce227;have HR227_0:=Aside0.mk (show Kd.V (Kd.int .i64) 3 _ w.heap.size (fun q=>w.heap.size≤q) (.slice A227_0 (rd_L3 t222 x34_3).length c227_0) (rd_L3 t222 x34_3) from Kd.V_mono (Kd.R_V (Kd.R_bound HL227_0.out)) (fun q hq=>hq.2.1));have HC227_0:=Aside0.mk hl227_0;clear hi227_0 hl227_0;replace p227:=eq_true p227;replace q227:=eq_true q227;go_wp2;repeat (go_quiet (fail);try go_wp2)
                         go_loopg [14,40] k3 (fun kq v14 v40 w' => ∃ (x14_4:Bool) (x40_4:Int),v14 = .bool x14_4∧v40 = .int .i64 x40_4∧Aside0 (impl_findPair.l3 kq l1 t219 t222 (rd_L3 t219 x22_1) (rd_L3 t219 x28_2) (rd_L3 t222 x34_3) x14_4 t219 (t219.length:Int) x22_1 t219 (t219.length:Int) x28_2 t222 (t222.length:Int) x34_3 l1 (l1.length:Int) x40_4=some (r1,r2))∧Aside0 (kq≤k3)∧Aside0 (Kd.S (Kd.slice 3 (Kd.int .i64)) 24 w' w.heap.size (fun k_=>some k_≠((.slice (some ad227) t222.length co14):Value).ownBlock∧some k_≠((.slice (some ad227) t222.length co14):Value).ownBlock) (.slice (some ad225) t219.length co7) t219)∧Aside0 (Kd.S (Kd.slice 3 (Kd.int .i64)) 24 w' w.heap.size (fun k_=>some k_≠((.slice (some ad225) t219.length co7):Value).ownBlock∧some k_≠((.slice (some ad225) t219.length co7):Value).ownBlock∧some k_≠((.slice (some ad225) t219.length co7):Value).ownBlock) (.slice (some ad227) t222.length co14) t222)∧Aside0 (Kd.S (Kd.slice 3 (Kd.int .i64)) 24 w' w.heap.size (fun k_=>some k_≠((.slice (some ad227) t222.length co14):Value).ownBlock∧some k_≠((.slice (some ad227) t222.length co14):Value).ownBlock) (.slice (some ad225) t219.length co7) t219)∧Aside0 (Kd.S (Kd.slice 3 (Kd.int .i64)) 24 w' w.heap.size (fun k_=>some k_≠((.slice (some ad227) t222.length co14):Value).ownBlock∧some k_≠((.slice (some ad227) t222.length co14):Value).ownBlock) (.slice (some ad225) t219.length co7) t219)∧Aside0 (Kd.S (Kd.slice 3 (Kd.int .i64)) 24 w' w.heap.size (fun k_=>some k_≠((.slice (some ad225) t219.length co7):Value).ownBlock∧some k_≠((.slice (some ad225) t219.length co7):Value).ownBlock∧some k_≠((.slice (some ad225) t219.length co7):Value).ownBlock) (.slice (some ad227) t222.length co14) t222)∧Aside0 (Kd.V (Kd.int .i64) 3 w' w.heap.size (fun q=>w.heap.size≤q) (.slice A225_0 (rd_L3 t219 x22_1).length c225_0) (rd_L3 t219 x22_1))∧Aside0 (Kd.V (Kd.int .i64) 3 w' w.heap.size (fun q=>w.heap.size≤q) (.slice A226_0 (rd_L3 t219 x28_2).length c226_0) (rd_L3 t219 x28_2))∧Aside0 (Kd.V (Kd.int .i64) 3 w' w.heap.size (fun q=>w.heap.size≤q) (.slice A227_0 (rd_L3 t222 x34_3).length c227_0) (rd_L3 t222 x34_3))∧Aside0 (Below w.heap.size w w'))
                         case atStart=>exact ⟨(true),(0),rD,rD,H',⟨Nat.le_refl _⟩,⟨pS HO_6⟩,⟨pS HO_7⟩,⟨pS HO_20⟩,⟨pS HO_26⟩,⟨pS HO_32⟩,⟨by repeat (first|(with_reducible exact HR225_0.out)|(with_reducible refine Kd.V_alloc ?_ _)|(with_reducible refine Kd.V_drewN ?_ _)|(with_reducible refine Kd.V_drew ?_)|exact HR225_0.out)⟩,⟨by repeat (first|(with_reducible exact HR226_0.out)|(with_reducible refine Kd.V_alloc ?_ _)|(with_reducible refine Kd.V_drewN ?_ _)|(with_reducible refine Kd.V_drew ?_)|exact HR226_0.out)⟩,⟨by repeat (first|(with_reducible exact HR227_0.out)|(with_reducible refine Kd.V_alloc ?_ _)|(with_reducible refine Kd.V_drewN ?_ _)|(with_reducible refine Kd.V_drew ?_)|exact HR227_0.out)⟩,⟨bB HB⟩⟩
                         case round =>
                          clear H';try clear c1
                          try clear c8
                          try clear c8b0
                          try clear c9
                          try clear c9b0
                          try clear c10
                          try clear c10b0
                          try clear c11
                          try clear c11b0
                          try clear c12
                          try clear c12b0
                          try clear c13
                          try clear c13b0
                          try clear c15
                          try clear c15b0
                          try clear c16
                          try clear c16b0
                          try clear c17
                          try clear c17b0
                          try clear hx225_0
                          try clear hx226_0
                          try clear hx227_0
                          try clear p225
                          try clear p226
                          try clear p227
                          try clear q225
                          try clear q226
                          try clear q227
                          obtain ⟨x14_4,x40_4,rfl,rfl,HA,HK4,HO_6,HO_7,HO_20,HO_26,HO_32,HR225_0,HR226_0,HR227_0,HB⟩:=hrel;cases gk with
                          | zero=>exact absurd HA.out (by simp[impl_findPair.l3])
                          | succ k4 =>
                           have H:=HA.out;clear HA;simp only[impl_findPair.l3] at H;by_cases c18:x40_4<(l1.length:Int)
                           · replace H:=iP c18 H;have c18b0:=decide_eq_true c18;clear c18;by_cases c19:0≤x40_4
                             · replace H:=iP c19 H;have c19b0:=decide_eq_true c19;clear c19;by_cases c20:x40_4<(l1.length:Int)
                               · replace H:=iP c20 H;have c20b0:=decide_eq_true c20;clear c20;by_cases c21:x14_4=true
                                 · subst c21;replace H:=iT H;by_cases c22:x40_4<((rd_L3 t219 x22_1).length:Int)
                                   · replace H:=iP c22 H;have c22b0:=decide_eq_true c22;clear c22;by_cases c23:x40_4<((rd_L3 t219 x28_2).length:Int)
                                     · replace H:=iP c23 H;have c23b0:=decide_eq_true c23;clear c23;obtain ⟨ji24,hji24⟩:∃ j_:Int,(Go.bits .or .i64 (rd (rd_L3 t219 x22_1) x40_4) (wrap64 ((rd (rd_L3 t219 x28_2) x40_4)*2)))=j_:=⟨_,rfl⟩;replace H:(if 0≤(ji24) then (if (ji24)<((rd_L3 t222 x34_3).length:Int) then (impl_findPair.l3 k4 l1 t219 t222 (rd_L3 t219 x22_1) (rd_L3 t219 x28_2) (rd_L3 t222 x34_3) ((rd (rd_L3 t222 x34_3) (ji24))==(rd l1 x40_4)) t219 (t219.length:Int) x22_1 t219 (t219.length:Int) x28_2 t222 (t222.length:Int) x34_3 l1 (l1.length:Int) (wrap64 (x40_4+1))) else (none)) else (none))=some (r1,r2):=by first|(rw[hji24] at H;exact H)|(simp only[hji24] at H ⊢;exact H)
                                       by_cases c25:0≤(ji24)
                                       · replace H:=iP c25 H;have c25b0:=decide_eq_true c25;clear c25;by_cases c26:(ji24)<((rd_L3 t222 x34_3).length:Int)
                                         · replace H:=iP c26 H;have c26b0:=decide_eq_true c26;clear c26;have H' := Aside0.mk H;clear H;have p228:0≤(x40_4:Int):=of_decide_eq_true aS;have q228:x40_4<(l1.length:Int):=of_decide_eq_true aS;obtain ⟨ad228,e228,hx228_0⟩:=Kd.at_int HR1.out x40_4 p228 q228;cases e228
                                           replace hx228_0:=hC HB hx228_0;replace p228:=eq_true p228;replace q228:=eq_true q228;have p229:0≤(x40_4:Int):=of_decide_eq_true aS;have q229:x40_4<((rd_L3 t219 x22_1).length:Int):=of_decide_eq_true aS;obtain ⟨ad229,e229,hx229_0⟩:=Kd.at_int (Kd.V_reads' HR225_0.out).2.2 x40_4 p229 q229;cases e229
                                           replace p229:=eq_true p229;replace q229:=eq_true q229;have p230:0≤(x40_4:Int):=of_decide_eq_true aS;have q230:x40_4<((rd_L3 t219 x28_2).length:Int):=of_decide_eq_true aS;obtain ⟨ad230,e230,hx230_0⟩:=Kd.at_int (Kd.V_reads' HR226_0.out).2.2 x40_4 p230 q230;cases e230
                                           replace p230:=eq_true p230;replace q230:=eq_true q230;have p231:0≤((ji24):Int):=of_decide_eq_true aS;have q231:(ji24)<((rd_L3 t222 x34_3).length:Int):=of_decide_eq_true aS;obtain ⟨ad231,e231,hx231_0⟩:=Kd.at_int (Kd.V_reads' HR227_0.out).2.2 (ji24) p231 q231;cases e231
                                           replace p231:=eq_true p231;replace q231:=eq_true q231;go_wp2;repeat (go_quiet (fail);try go_wp2)
                                           go_roundg k4
                                           case measure=>have:=HK1.out;have:=HK2.out;have:=HK3.out;have:=HK4.out;omega
                                           case rel=>exact ⟨(((rd (rd_L3 t222 x34_3) (ji24))==(rd l1 x40_4))),(wrap64 (x40_4+1)),(by first|rfl|(simp;done)|(simp only[← hji24] <;> (first|rfl|simp))|(simp[*];done)),rD,H',⟨by have:=HK1.out;have:=HK2.out;have:=HK3.out;have:=HK4.out;omega⟩,⟨pS HO_6⟩,⟨pS HO_7⟩,⟨pS HO_20⟩,⟨pS HO_26⟩,⟨pS HO_32⟩,⟨by repeat (first|(with_reducible exact HR225_0.out)|(with_reducible refine Kd.V_alloc ?_ _)|(with_reducible refine Kd.V_drewN ?_ _)|(with_reducible refine Kd.V_drew ?_)|exact HR225_0.out)⟩,⟨by repeat (first|(with_reducible exact HR226_0.out)|(with_reducible refine Kd.V_alloc ?_ _)|(with_reducible refine Kd.V_drewN ?_ _)|(with_reducible refine Kd.V_drew ?_)|exact HR226_0.out)⟩,⟨by repeat (first|(with_reducible exact HR227_0.out)|(with_reducible refine Kd.V_alloc ?_ _)|(with_reducible refine Kd.V_drewN ?_ _)|(with_reducible refine Kd.V_drew ?_)|exact HR227_0.out)⟩,⟨bB HB⟩⟩
                                         · replace H:=iN c26 H;cases H
                                       · replace H:=iN c25 H;cases H
                                     · replace H:=iN c23 H;cases H
                                   · replace H:=iN c22 H;cases H
                                 · replace c21:=Bool.eq_false_iff.mpr c21;subst c21;replace H:=iF H;have H' := Aside0.mk H;clear H;have p228:0≤(x40_4:Int):=of_decide_eq_true aS;have q228:x40_4<(l1.length:Int):=of_decide_eq_true aS;obtain ⟨ad228,e228,hx228_0⟩:=Kd.at_int HR1.out x40_4 p228 q228;cases e228
                                   replace hx228_0:=hC HB hx228_0;replace p228:=eq_true p228;replace q228:=eq_true q228;go_wp2;repeat (go_quiet (fail);try go_wp2)
                                   go_roundg k4
                                   case measure=>have:=HK1.out;have:=HK2.out;have:=HK3.out;have:=HK4.out;omega
                                   case rel=>exact ⟨(false),(wrap64 (x40_4+1)),rD,rD,H',⟨by have:=HK1.out;have:=HK2.out;have:=HK3.out;have:=HK4.out;omega⟩,⟨pS HO_6⟩,⟨pS HO_7⟩,⟨pS HO_20⟩,⟨pS HO_26⟩,⟨pS HO_32⟩,⟨by repeat (first|(with_reducible exact HR225_0.out)|(with_reducible refine Kd.V_alloc ?_ _)|(with_reducible refine Kd.V_drewN ?_ _)|(with_reducible refine Kd.V_drew ?_)|exact HR225_0.out)⟩,⟨by repeat (first|(with_reducible exact HR226_0.out)|(with_reducible refine Kd.V_alloc ?_ _)|(with_reducible refine Kd.V_drewN ?_ _)|(with_reducible refine Kd.V_drew ?_)|exact HR226_0.out)⟩,⟨by repeat (first|(with_reducible exact HR227_0.out)|(with_reducible refine Kd.V_alloc ?_ _)|(with_reducible refine Kd.V_drewN ?_ _)|(with_reducible refine Kd.V_drew ?_)|exact HR227_0.out)⟩,⟨bB HB⟩⟩
                               · replace H:=iN c20 H;cases H
                             · replace H:=iN c19 H;cases H
                           · replace H:=iN c18 H;have c18b0:=decide_eq_false c18;clear c18;by_cases c27:x14_4=true
                             · subst c27;replace H:=iT H;simp only[Option.some.injEq,Prod.mk.injEq] at H;obtain ⟨rfl,rfl⟩:=H;go_wp2_with (first|(refine gD 68 ?_;refine Kd.N_lit (Kd.slice 3 (Kd.int .i64)) _ 24 ?hg (N' := 68) ?hd (xs:=([rd_L3 t219 x22_1,rd_L3 t219 x28_2,rd_L3 t222 x34_3]:List (List Int))) (inner:=[.slice A225_0 (rd_L3 t219 x22_1).length c225_0,.slice A226_0 (rd_L3 t219 x28_2).length c226_0,.slice A227_0 (rd_L3 t222 x34_3).length c227_0]) (ok:=(fun k_=>w.heap.size≤k_)) (okp:=(fun k_=>w.heap.size≤k_)) ?hr ?hp (fun _ hk=>hk) (below_size (bB HB)) (Below.refl _ _) (Nat.le_refl _) (by simp) ?_;(case hd=>rfl);(case hg=>rfl);(case hr=>go_simp <;> rfl);(case hp=>exact (Reps.one (show Kd.FK (Kd.slice 3 (Kd.int .i64)) _ _ (rd_L3 t219 x22_1) [.slice A225_0 (rd_L3 t219 x22_1).length c225_0] from (Kd.FK_slice_mk (Kd.V_reads' (HR225_0.out)).2.1 (Kd.V_F HR225_0.out))) (Reps.one (show Kd.FK (Kd.slice 3 (Kd.int .i64)) _ _ (rd_L3 t219 x28_2) [.slice A226_0 (rd_L3 t219 x28_2).length c226_0] from (Kd.FK_slice_mk (Kd.V_reads' (HR226_0.out)).2.1 (Kd.V_F HR226_0.out))) (Reps.one (show Kd.FK (Kd.slice 3 (Kd.int .i64)) _ _ (rd_L3 t222 x34_3) [.slice A227_0 (rd_L3 t222 x34_3).length c227_0] from (Kd.FK_slice_mk (Kd.V_reads' (HR227_0.out)).2.1 (Kd.V_F HR227_0.out))) (Reps.none _ _)))));intro v69 w30 ho6 hb hg_ hnew_;have HN69:=Aside0.mk (Kd.N_lower ho6 (below_size (bB HB)));have n1_:=Aside0.mk (below_step (bB HB) hb);clear HB;have HB:=n1_;clear n1_ hb ho6 hg_ hnew_))
                               repeat (go_quiet (fail);try go_wp2)
                               go_ret2
                               exact ⟨_,eW,HN69.out,bB HB⟩
                             · replace c27:=Bool.eq_false_iff.mpr c27;subst c27;replace H:=iF H;have H' := Aside0.mk H;clear H;go_wp2;repeat (go_quiet (fail);try go_wp2)
                               go_roundg k4
                               case measure=>have:=HK1.out;have:=HK2.out;have:=HK3.out;have:=HK4.out;omega
                               case rel=>exact ⟨(wrap64 (x34_3+1)),rD,H',⟨by have:=HK1.out;have:=HK2.out;have:=HK3.out;have:=HK4.out;omega⟩,⟨pS HO_6⟩,⟨pS HO_7⟩,⟨pS HO_20⟩,⟨pS HO_26⟩,⟨pS HO_32⟩,⟨by repeat (first|(with_reducible exact HR225_0.out)|(with_reducible refine Kd.V_alloc ?_ _)|(with_reducible refine Kd.V_drewN ?_ _)|(with_reducible refine Kd.V_drew ?_)|exact HR225_0.out)⟩,⟨by repeat (first|(with_reducible exact HR226_0.out)|(with_reducible refine Kd.V_alloc ?_ _)|(with_reducible refine Kd.V_drewN ?_ _)|(with_reducible refine Kd.V_drew ?_)|exact HR226_0.out)⟩,⟨bB HB⟩⟩
                       · replace H:=iN c17 H;cases H
                     · replace H:=iN c16 H;cases H
                   · replace H:=iN c15 H;have c15b0:=decide_eq_false c15;clear c15;have H' := Aside0.mk H;clear H;go_wp2;repeat (go_quiet (fail);try go_wp2)
                     go_roundg k3
                     case measure=>have:=HK1.out;have:=HK2.out;have:=HK3.out;omega
                     case rel=>exact ⟨(wrap64 (x28_2+1)),rD,H',⟨by have:=HK1.out;have:=HK2.out;have:=HK3.out;omega⟩,⟨by refine xS ?_;exact Kd.S_mono HO_6.out (fun _ hk=>hk.1)⟩,⟨pS HO_7⟩,⟨by refine xS ?_;exact Kd.S_mono HO_20.out (fun _ hk=>hk.1)⟩,⟨by refine xS ?_;exact Kd.S_mono HO_26.out (fun _ hk=>hk.1)⟩,⟨by repeat (first|(with_reducible exact HR225_0.out)|(with_reducible refine Kd.V_alloc ?_ _)|(with_reducible refine Kd.V_drewN ?_ _)|(with_reducible refine Kd.V_drew ?_)|exact HR225_0.out)⟩,⟨bB HB⟩⟩
               · replace H:=iN c13 H;cases H
             · replace H:=iN c12 H;cases H
           · replace H:=iN c11 H;have c11b0:=decide_eq_false c11;clear c11;have H' := Aside0.mk H;clear H;go_wp2;repeat (go_quiet (fail);try go_wp2)
             go_roundg k2
             case measure=>have:=HK1.out;have:=HK2.out;omega
             case rel=>exact ⟨(wrap64 (x22_1+1)),rD,H',⟨by have:=HK1.out;have:=HK2.out;omega⟩,⟨pS HO_6⟩,⟨by refine xS ?_;exact Kd.S_mono HO_7.out (fun _ hk=>⟨hk.1,hk.2.1⟩)⟩,⟨pS HO_20⟩,⟨bB HB⟩⟩
       · replace H:=iN c10 H;cases H
     · replace H:=iN c9 H;cases H
   · replace H:=iN c8 H;have c8b0:=decide_eq_false c8;clear c8;simp only[Option.some.injEq,Prod.mk.injEq] at H;obtain ⟨rfl,rfl⟩:=H;go_wp2;repeat (go_quiet (fail);try go_wp2)
     go_ret2
     exact ⟨_,eW,by first|exact Kd.S_nil _ _ _ _ _|exact Kd.N_nil _ _ _ _ _|exact Kd.V_nil _ _ _ _ _|exact Kd.Q_nil _ _ _ _ _|exact Kd.R_nil _ _ _ _ _,bB HB⟩
def impl_copied.f (l0:List Int):Option (List Int):=(some (([]:List Int):List Int)).bind fun y251=>(if y251.length+l0.length<17592186044416 then (some (y251++l0)) else (none))
theorem impl_copied.calls (A0:Option Addr) (c0:Nat) (l0:List Int) (r:List Int) (w:World) (hr0:Kd.C (Kd.int .i64) w A0 l0.length l0) (hc0:l0.length≤c0) (h:impl_copied.f l0=some r) :
 Calls Try.prog 122 #[.slice A0 l0.length c0] w fun e w' => ∃ v0_:Value,e = .returned (v0_)∧Kd.R (Kd.int .i64) 3 w' w.heap.size (fun _=>True) v0_ r∧Below w.heap.size w w' := by
 have HR0:=Aside0.mk hr0;have HC0:=Aside0.mk hc0;clear hr0 hc0;have HB:=Aside0.mk (Below.refl w.heap.size w);have H:((some (([]:List Int):List Int)).bind fun y251=>(if y251.length+l0.length<17592186044416 then (some (y251++l0)) else (none)))=some r:=h;clear h;obtain ⟨y251,hy251⟩:∃ y_:List Int,y_=(([]:List Int)):=⟨_,rfl⟩;replace H:(if y251.length+l0.length<17592186044416 then (some (y251++l0)) else (none))=some r:=yH hy251 H
 have Ny251:=Aside0.mk hy251;clear hy251;by_cases c2:y251.length+l0.length<17592186044416
 · replace H:=iP c2 H;have LMc2:=Aside0.mk c2;clear c2;obtain ⟨y254,hy254⟩:∃ y_:List Int,y_=(y251++l0):=⟨_,rfl⟩;replace H:(some y254)=some r:=yH hy254 H
   have Ny254:=Aside0.mk hy254;clear hy254;obtain rfl:=Option.some.inj H;go_enter Try.func122,Try.ntmps122;go_wp2_with (first|(refine gD 3 ?_;refine Kd.R_lit (Kd.int .i64) _ 3 ?hg (N:=3) ?hd (xs:=([]:List Int)) (inner:=[]) (ok:=fun _=>True) (okp:=fun _=>True) ?hr ?hp (fun _ hk=>hk) trivial (Below.refl _ _) (Nat.le_refl _) (by simp) ?_;(case hd=>rfl);(case hg=>rfl);(case hr=>go_simp <;> rfl);(case hp=>exact (Reps.none _ _));intro v252 w3 ho4 hb hg_ hnew_;clear hg_ hnew_;(first|rw[← Ny251.out] at ho4|(simp only[Int.reduceToNat] at ho4;rw[← Ny251.out] at ho4));have HO253:=Aside0.mk (Kd.R_lower ho4 (below_size (bB HB)));replace HB:=Aside0.mk (below_step (bB HB) hb);clear hb ho4)|((with_reducible refine gate_builtin (b := .append) (xs:=#[.tmp 3,.tmp 4]) rfl ?_);at_builtin;refine Kd.R_append_rows (Kd.int .i64) (w0:=w) w.heap.size rfl (.tmp 3) (.tmp 4) 24 3 (.int .i64 0) 8 rfl Try.underlying24 info3 rfl (by decide) (by omega) v252 y251 l0 _ _ _ (fun _=>True) (fun _=>False) rfl rfl ?aO ?aR (fun _ _ h=>h) (fun _ h=>h.elim) ?aF ?aB ?aS ?aL ?_;(case aR=>exact cB HR0 HB);(case aB=>exact (bB HB));(case aF=>exact (fun _ _=>trivial));(case aO=>exact (pR HO253));(case aS=>exact (below_size (bB HB)));(case aL=>have:=LMc2.out;omega);intro v255 w5 ho hb hg hat;rw[← Ny254.out] at ho;have HO256:=Aside0.mk (ho);replace HB:=Aside0.mk (hb);clear HO253;clear ho hb hg hat))
   go_ret
   exact ⟨_,eW,by refine xR ?_;exact HO256.out,bB HB⟩
 · replace H:=iN c2 H;cases H
def impl_copies.l0:Nat→List (List Int)→List (List Int)→Int→Int→Option ((List (List Int)))
 | 0,_,_,_,_=>none
 | k+1,x3,x7,x8,x9=>if x9<x8 then (if 0≤x9 then (if x9<(x7.length:Int) then ((impl_copied.f (rd_L3 x7 x9)).bind fun t261=>(if x3.length<5864062014805 then (impl_copies.l0 k (x3++[t261]) x7 x8 (wrap64 (x9+1))) else (none))) else (none)) else (none)) else (some x3)
def impl_copies.f (k:Nat) (l0:List (List Int)):Option ((List (List Int))):=impl_copies.l0 k (([]:List (List Int))) l0 (l0.length:Int) 0
theorem impl_copies.calls (k:Nat) (A0:Option Addr) (c0:Nat) (l0:List (List Int)) (r:List (List Int)) (w:World) (hr0:Kd.C (Kd.slice 3 (Kd.int .i64)) w A0 l0.length l0) (hc0:l0.length≤c0) (h:impl_copies.f k l0=some r) :
 Calls Try.prog 58 #[.slice A0 l0.length c0] w fun e w' => ∃ v0_:Value,e = .returned (v0_)∧Kd.S (Kd.slice 3 (Kd.int .i64)) 24 w' w.heap.size (fun _=>True) v0_ r∧Below w.heap.size w w' := by
 have HR0:=Aside0.mk hr0;have HC0:=Aside0.mk hc0;clear hr0 hc0;have HB:=Aside0.mk (Below.refl w.heap.size w);have H:(impl_copies.l0 k (([]:List (List Int))) l0 (l0.length:Int) 0)=some r:=h;clear h;obtain ⟨y257,hy257⟩:∃ y_:List (List Int),y_=(([]:List (List Int))):=⟨_,rfl⟩;replace H:(impl_copies.l0 k y257 l0 (l0.length:Int) 0)=some r:=yH hy257 H
 have Ny257:=Aside0.mk hy257;clear hy257;have H' := Aside0.mk H;clear H;go_enter Try.func58,Try.ntmps58;go_wp2_with (first|(refine gD 6 ?_;refine Kd.S_lit (Kd.slice 3 (Kd.int .i64)) _ 24 ?hg (N:=6) ?hd (xs:=([]:List (List Int))) (inner:=[]) (ok:=fun _=>True) (okp:=fun _=>True) ?hr ?hp (fun _ hk=>hk) trivial (Below.refl _ _) (Nat.le_refl _) (by simp) ?_;(case hd=>rfl);(case hg=>rfl);(case hr=>go_simp <;> rfl);(case hp=>exact (Reps.none _ _));intro v258 w2 ho3 hb hg_ hnew_;clear hg_ hnew_;(first|rw[← Ny257.out] at ho3|(simp only[Int.reduceToNat] at ho3;rw[← Ny257.out] at ho3));have HO259:=Aside0.mk (Kd.S_lower ho3 (below_size (bB HB)));replace HB:=Aside0.mk (below_step (bB HB) hb);clear hb ho3))
 go_loopg [3,9] k (fun kq v3 v9 w' => ∃ (x3_1:List (List Int)) (x9_1:Int),v9 = .int .i64 x9_1∧Aside0 (impl_copies.l0 kq x3_1 l0 (l0.length:Int) x9_1=some r)∧Aside0 (kq≤k)∧Aside0 (Kd.S (Kd.slice 3 (Kd.int .i64)) 24 w' w.heap.size (fun _=>True) v3 x3_1)∧Aside0 (Below w.heap.size w w'))
 case atStart=>exact ⟨(y257),(0),rD,H',⟨Nat.le_refl _⟩,⟨pS HO259⟩,⟨bB HB⟩⟩
 case round =>
  clear H';obtain ⟨x3_1,x9_1,rfl,HA,HK1,HO_3,HB⟩:=hrel;cases gk with
  | zero=>exact absurd HA.out (by simp[impl_copies.l0])
  | succ k1 =>
   have H:=HA.out;clear HA;simp only[impl_copies.l0] at H;by_cases c4:x9_1<(l0.length:Int)
   · replace H:=iP c4 H;have c4b0:=decide_eq_true c4;clear c4;by_cases c5:0≤x9_1
     · replace H:=iP c5 H;have c5b0:=decide_eq_true c5;clear c5;by_cases c6:x9_1<(l0.length:Int)
       · replace H:=iP c6 H;have c6b0:=decide_eq_true c6;clear c6;obtain ⟨t261,A7,H⟩:=bS H;by_cases c8:x3_1.length<5864062014805
         · replace H:=iP c8 H;have LMc8:=Aside0.mk c8;clear c8;obtain ⟨y264,hy264⟩:∃ y_:List (List Int),y_=(x3_1++[t261]):=⟨_,rfl⟩;replace H:(impl_copies.l0 k1 y264 l0 (l0.length:Int) (wrap64 (x9_1+1)))=some r:=yH hy264 H
           have Ny264:=Aside0.mk hy264;clear hy264;have H' := Aside0.mk H;clear H;have p260:0≤(x9_1:Int):=of_decide_eq_true aS;have q260:x9_1<(l0.length:Int):=of_decide_eq_true aS;obtain ⟨ad260,A260_0,c260_0,e260,hx260_0,hl260_0,hi260_0⟩:=at_L3 HR0.out x9_1 p260 q260;cases e260
           replace hx260_0:=hC HB hx260_0;have HR260_0:=Aside0.mk hi260_0;have HC260_0:=Aside0.mk hl260_0;clear hi260_0 hl260_0;replace p260:=eq_true p260;replace q260:=eq_true q260;go_wp2_with (first|(refine gL 15 Try.func122 #[.slice A260_0 (rd_L3 l0 x9_1).length c260_0] ?_;(with_reducible refine (impl_copied.calls _ _ (rd_L3 l0 x9_1) t261 _ ?side1 ?side2 A7.out).mono ?_);(case side1=>exact cB HR260_0 HB);(case side2=>exact HC260_0.out);rintro e w9 ⟨v262,rfl,ho0,hb⟩;refine ⟨_,rfl,?_⟩;have HO263:=Aside0.mk (Kd.R_lower ho0 (below_size (bB HB)));replace HO_3:=Aside0.mk (Kd.S_elder' (pS HO_3) (Kd.R_base ho0) hb);replace HB:=Aside0.mk (below_step (bB HB) hb);(try clear hb);(try clear ho0);obtain ⟨Ao11,co11,eo11⟩:=Kd.R_slice HO263.out;subst eo11)|((with_reducible refine gate_builtin (b := .append) (xs:=#[.tmp 13,.tmp 16]) rfl ?_);at_builtin;refine Kd.S_append (Kd.slice 3 (Kd.int .i64)) (w0:=w) w.heap.size rfl (.tmp 13) (.tmp 16) 27 24 (.slice none 0 0) 24 rfl Try.underlying27 info24 rfl (by decide) (by omega) u3 x3_1 t261 [.slice Ao11 t261.length co11] (fun _=>True) (fun k_=>some k_=(.slice Ao11 t261.length co11:Value).ownBlock) rfl rfl ?aP (fun k_ hk_=>((Kd.R_mono (ok' := fun k_=>((fun _=>True)) k_∧some k_≠(u3:Value).ownBlock) (Kd.R_apart' (HO263.out) (Kd.S_typed HO_3.out) (by decide)) (fun k_ hk=>⟨trivial,hk.2⟩))).1 k_ hk_.symm) ?aF ?aO ?aB ?aS ?aL ?_;(case aP=>exact Kd.M_row (Kd.R_mono (Kd.R_tight rfl (Kd.R_mono (ok' := fun k_=>((fun _=>True)) k_∧some k_≠(u3:Value).ownBlock) (Kd.R_apart' (HO263.out) (Kd.S_typed HO_3.out) (by decide)) (fun k_ hk=>⟨trivial,hk.2⟩))) (fun _ h_=>h_)));(case aB=>exact (bB HB));(case aF=>exact (fun _ _=>trivial));(case aO=>exact (by refine xS ?_;exact Kd.S_mono HO_3.out (fun k_ hk=>⟨trivial,fun e_=>hk.2 e_⟩)));(case aS=>exact (below_size (bB HB)));(case aL=>have:=LMc8.out;omega);intro v265 w10 ho hb hg hat;rw[← Ny264.out] at ho;have HO266:=Aside0.mk (ho);replace HB:=Aside0.mk (hb);clear HO_3 HO263;clear ho hb hg hat))
           go_roundg k1
           case measure=>exact kM HK1
           case rel=>exact ⟨(y264),(wrap64 (x9_1+1)),rD,H',⟨kM HK1⟩,⟨pS HO266⟩,⟨bB HB⟩⟩
         · replace H:=iN c8 H;cases H
       · replace H:=iN c6 H;cases H
     · replace H:=iN c5 H;cases H
   · replace H:=iN c4 H;have c4b0:=decide_eq_false c4;clear c4;obtain rfl:=Option.some.inj H;go_wp2;go_ret
     exact ⟨_,eW,by refine xS ?_;exact HO_3.out,bB HB⟩
def impl_FindPair.j0:Nat→Int→List Int→Bool→Option ((List (List Int))×Bool)
 | 0,_,_,_=>none
 | k+1,x0,x1,x16=>if x16=true then (some (([]:List (List Int)),false)) else ((impl_findPair.f k x0 x1).bind fun bt269=>(if bt269.2=true then ((impl_copies.f k bt269.1).bind fun t273=>(some (t273,true))) else (some (([]:List (List Int)),false))))
def impl_FindPair.f (k:Nat) (a0:Int) (l1:List Int):Option ((List (List Int))×Bool):=(impl_within.f a0 1 3).bind fun t267=>(if t267=true then ((impl_isTable.f k a0 l1).bind fun t268=>(impl_FindPair.j0 k a0 l1 (!t268))) else (impl_FindPair.j0 k a0 l1 true))
theorem impl_FindPair.calls (k:Nat) (a0:Int) (A1:Option Addr) (c1:Nat) (l1:List Int) (r1:List (List Int)) (r2:Bool) (w:World) (hr1:Kd.C (Kd.int .i64) w A1 l1.length l1) (hc1:l1.length≤c1) (h:impl_FindPair.f k a0 l1=some (r1,r2)) :
 Calls Try.prog 8 #[.int .i64 a0,.slice A1 l1.length c1] w fun e w' => ∃ v0_:Value,e = .returned (.tuple #[v0_,.bool r2])∧Kd.S (Kd.slice 3 (Kd.int .i64)) 24 w' w.heap.size (fun _=>True) v0_ r1∧Below w.heap.size w w' := by
 have HR1:=Aside0.mk hr1;have HC1:=Aside0.mk hc1;clear hr1 hc1;have HB:=Aside0.mk (Below.refl w.heap.size w);have H:((impl_within.f a0 1 3).bind fun t267=>(if t267=true then ((impl_isTable.f k a0 l1).bind fun t268=>(impl_FindPair.j0 k a0 l1 (!t268))) else (impl_FindPair.j0 k a0 l1 true)))=some (r1,r2):=h;clear h;have HC3:=Aside0.mk H;clear H;go_enter Try.func8,Try.ntmps8;go_upto_region 1 with (fail)
 go_cut [16] (fun v16 wc=>∃ (kq:Nat) (x16_2:Bool),v16 = .bool x16_2∧Aside0 (impl_FindPair.j0 kq a0 l1 x16_2=some (r1,r2))∧Aside0 (kq≤k)∧Aside0 (Below w.heap.size w wc))
 case first =>
  have H:=HC3.out;clear HC3;obtain ⟨t267,A4,H⟩:=bS H;by_cases c5:t267=true
  · subst c5;replace H:=iT H;obtain ⟨t268,A6,H⟩:=bS H;have H' := Aside0.mk H;clear H;go_wp2_with (first|(refine gL 9 Try.func55 #[.int .i64 a0,.int .i64 1,.int .i64 3] ?_;(with_reducible refine (impl_within.calls a0 1 3 true _ A4.out).mono ?_);rintro e w' ⟨rfl,⟨nd,rfl⟩⟩;refine ⟨_,rfl,?_⟩)|(go_at_call 56;(with_reducible refine (impl_isTable.calls k a0 _ _ l1 t268 _ ?side1 ?side2 A6.out).mono ?_);(case side1=>repeat (first|exact (Kd.C_below HR1.out (bB HB))|(with_reducible refine Kd.C_alloc ?_ _)|(with_reducible refine Kd.C_drewN ?_ _)|(with_reducible refine Kd.C_drew ?_)));(case side2=>exact HC1.out);rintro e w' ⟨rfl,⟨nd,rfl⟩⟩))
    go_meet
    case rel=>exact ⟨_,(!t268),rD,H',⟨by first|omega|exact Nat.le_refl _⟩,⟨bB HB⟩⟩
  · replace c5:=Bool.eq_false_iff.mpr c5;subst c5;replace H:=iF H;have H' := Aside0.mk H;clear H;go_wp2_with (first|(refine gL 9 Try.func55 #[.int .i64 a0,.int .i64 1,.int .i64 3] ?_;(with_reducible refine (impl_within.calls a0 1 3 false _ A4.out).mono ?_);rintro e w' ⟨rfl,⟨nd,rfl⟩⟩;refine ⟨_,rfl,?_⟩))
    go_meet
    case rel=>exact ⟨_,(true),rD,H',⟨by first|omega|exact Nat.le_refl _⟩,⟨bB HB⟩⟩
 case rest =>
  clear HC3;try clear c1
  obtain ⟨kq,x16_2,rfl,HA,HJ2,HB⟩:=hcut;cases kq with
  | zero=>exact absurd HA.out (by simp[impl_FindPair.j0])
  | succ kj2 =>
   have H:=HA.out;clear HA;simp only[impl_FindPair.j0] at H;by_cases c7:x16_2=true
   · subst c7;replace H:=iT H;simp only[Option.some.injEq,Prod.mk.injEq] at H;obtain ⟨rfl,rfl⟩:=H;go_wp2;go_ret2
     exact ⟨_,eW,by first|exact Kd.S_nil _ _ _ _ _|exact Kd.N_nil _ _ _ _ _|exact Kd.V_nil _ _ _ _ _|exact Kd.Q_nil _ _ _ _ _|exact Kd.R_nil _ _ _ _ _,bB HB⟩
   · replace c7:=Bool.eq_false_iff.mpr c7;subst c7;replace H:=iF H;replace H:=Option.bind_eq_some_iff.mp H;obtain ⟨⟨t269,t270⟩,A80,H⟩:=H;replace H:(if t270=true then ((impl_copies.f kj2 t269).bind fun t273=>(some (t273,true))) else (some (([]:List (List Int)),false)))=some (r1,r2):=H;have A8:=Aside0.mk A80;clear A80;by_cases c9:t270=true
     · subst c9;replace H:=iT H;obtain ⟨t273,A10,H⟩:=bS H;simp only[Option.some.injEq,Prod.mk.injEq] at H;obtain ⟨rfl,rfl⟩:=H;go_wp2_with (first|(refine gL 20 Try.func57 #[.int .i64 a0,.slice A1 l1.length c1] ?_;(with_reducible refine (impl_findPair.calls kj2 a0 _ _ l1 t269 true _ ?side1 ?side2 A8.out).mono ?_);(case side1=>exact cB HR1 HB);(case side2=>exact HC1.out);rintro e w11 ⟨v271,rfl,ho0,hb⟩;refine ⟨_,rfl,?_⟩;have HO272:=Aside0.mk (Kd.N_lower ho0 (below_size (bB HB)));replace HB:=Aside0.mk (below_step (bB HB) hb);(try clear hb);(try clear ho0);obtain ⟨Ao12,co12,eo12⟩:=Kd.N_slice HO272.out;subst eo12)|(refine gL 26 Try.func58 #[.slice Ao12 t269.length co12] ?_;(with_reducible refine (impl_copies.calls kj2 _ _ t269 t273 _ ?side1 ?side2 A10.out).mono ?_);(case side1=>exact cN HO272);(case side2=>exact (Kd.N_reads' HO272.out).2.1);rintro e w13 ⟨v274,rfl,ho0,hb⟩;refine ⟨_,rfl,?_⟩;have HO275:=Aside0.mk (Kd.S_lower (Kd.S_new' ho0 (Kd.N_lt (pN HO272))) (below_size (bB HB)));replace HO272:=Aside0.mk (Kd.N_elder' (pN HO272) (Kd.S_base ho0) hb);replace HB:=Aside0.mk (below_step (bB HB) hb);(try clear hb);(try clear ho0)))
       go_ret2
       exact ⟨_,eW,by refine xS ?_;exact Kd.S_mono HO275.out (fun _ hk=>trivial),bB HB⟩
     · replace c9:=Bool.eq_false_iff.mpr c9;subst c9;replace H:=iF H;simp only[Option.some.injEq,Prod.mk.injEq] at H;obtain ⟨rfl,rfl⟩:=H;go_wp2_with (first|(refine gL 20 Try.func57 #[.int .i64 a0,.slice A1 l1.length c1] ?_;(with_reducible refine (impl_findPair.calls kj2 a0 _ _ l1 t269 false _ ?side1 ?side2 A8.out).mono ?_);(case side1=>exact cB HR1 HB);(case side2=>exact HC1.out);rintro e w14 ⟨v271,rfl,ho0,hb⟩;refine ⟨_,rfl,?_⟩;have HO272:=Aside0.mk (Kd.N_lower ho0 (below_size (bB HB)));replace HB:=Aside0.mk (below_step (bB HB) hb);(try clear hb);(try clear ho0)))
       go_ret2
       exact ⟨_,eW,by first|exact Kd.S_nil _ _ _ _ _|exact Kd.N_nil _ _ _ _ _|exact Kd.V_nil _ _ _ _ _|exact Kd.Q_nil _ _ _ _ _|exact Kd.R_nil _ _ _ _ _,bB HB⟩
end Go.Proofs.Ytkbahcbankfffaa.PFnPairs
