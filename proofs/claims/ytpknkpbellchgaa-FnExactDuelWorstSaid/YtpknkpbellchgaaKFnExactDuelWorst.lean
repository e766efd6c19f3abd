import Derived.Test.YtpknkpbellchgaaPFnExactDuelWorstx
import Derived.Test.YtpknkpbellchgaaSh
import Derived.Test.YtpknkpbellchgaaCl
import Derived.Test.YtpknkpbellchgaaRg
import Derived.Test.YtpknkpbellchgaaDuT
import Derived.Maps.Own
import Derived.LoopN
import Derived.DeepKeys4
import Derived.Maps.Views
import Derived.Maps.OwnSet
namespace Go.Proofs.Ytpknkpbellchgaa.PFnExactDuelWorst
open Go.RowKit Go.Proofs.Ytpknkpbellchgaa.Sh Go.Proofs.YtpknkpbellchgaaW.PrintWords Go.Proofs.YtpknkpbellchgaaW.PrintLast Go.Proofs.YtpknkpbellchgaaW.PrintMore
attribute [local go_sem] max2_int min2_int max_two min_two max_three min_three max_four min_four
set_option linter.unusedVariables false
set_option linter.unusedSimpArgs false
set_option maxHeartbeats 8000000
set_option maxRecDepth 100000
attribute [local go_sem] ix0 ix1 ix2 ix3 pt0 pt1 pt2 pt3 eq33
def stOf (l:List Int):St:=((l.getD 0 0).toNat,(l.getD 1 0).toNat,(l.getD 2 0).toNat,(l.getD 3 0).toNat)
def goodL (l:List Int):Bool:=decide (0<l.length)&&decide (l.length≤4)&&l.all (fun x=>decide (0≤x))&&okS (stOf l)
theorem goodL_parts {l:List Int} (h:goodL l=true):0<l.length∧l.length≤4∧okS (stOf l)=true∧l++List.replicate (4-l.length) 0=[((stOf l).1:Int),((stOf l).2.1:Int),((stOf l).2.2.1:Int),((stOf l).2.2.2:Int)]:=by
  unfold goodL at h
  simp only [Bool.and_eq_true,decide_eq_true_eq,List.all_eq_true] at h
  obtain ⟨⟨⟨h0,h4⟩,hp⟩,hk⟩:=h
  refine ⟨h0,h4,hk,?_⟩
  match l,h0,h4,hp with
  | [a],_,_,hp=>
    have h1:=hp a (by simp)
    simp [stOf,List.replicate]
    omega
  | [a,b],_,_,hp=>
    have h1:=hp a (by simp);have h2:=hp b (by simp)
    simp [stOf,List.replicate]
    omega
  | [a,b,c],_,_,hp=>
    have h1:=hp a (by simp);have h2:=hp b (by simp);have h3:=hp c (by simp)
    simp [stOf,List.replicate]
    omega
  | [a,b,c,d],_,_,hp=>
    have h1:=hp a (by simp);have h2:=hp b (by simp);have h3:=hp c (by simp);have h4:=hp d (by simp)
    simp [stOf]
    omega
  | a::b::c::d::e::r,_,h4,_=>exact absurd h4 (by simp)
theorem Inv.made (Z:St→Prop) (w:World):Inv Z (w.alloc (.map #[] 0)) w.heap.size []:=⟨fun x hx=>(by cases hx),List.nodup_nil,World.ownsMap_made w Try.prog 33 (plainElem Try.prog 3)⟩
def impl_DuelWorst.f (k : Nat) (l0 : List Int) : Option (Int × Bool) := (impl_IsLives.f k l0).bind fun t => if t = true then (if goodL l0 = true then some ((tS (stOf l0) : Int), true) else none) else some (0, false)
theorem impl_DuelWorst.calls (k : Nat) (A0 : Option Addr) (c0 : Nat) (l0 : List Int) (r1 : Int) (r2 : Bool) (w : World) (hr0 : Kd.C (Kd.int .i64) w A0 l0.length l0) (hc0 : l0.length ≤ c0) (h : impl_DuelWorst.f k l0 = some (r1, r2)) :
 Calls Try.prog 6 #[.slice A0 l0.length c0] w fun e w' => e = .returned (.tuple #[.int .i64 r1, .bool r2]) ∧ Below w.heap.size w w' := by
  have HR:=Aside0.mk hr0;have HC:=Aside0.mk hc0
  obtain ⟨t,hL,h⟩:=Option.bind_eq_some_iff.mp h
  have HL:=Aside0.mk hL
  clear hr0 hc0 hL
  cases t with
  | false=>
    rw[if_neg (by decide)] at h
    simp only [Option.some.injEq,Prod.mk.injEq] at h
    obtain ⟨rfl,rfl⟩:=h
    go_enter Try.func6,Try.ntmps6
    go_wp2_with (first|(go_at_call 11;(with_reducible refine (impl_IsLives.calls k _ _ l0 false _ HR.out HC.out HL.out).mono ?_);rintro e w' ⟨rfl,⟨nd,rfl⟩⟩))
    go_ret2
    exact ⟨rfl,by repeat (first|exact Below.refl _ _|apply pw_below_drewN)⟩
  | true=>
    rw[if_pos rfl] at h
    by_cases hg:goodL l0=true
    · rw[if_pos hg] at h
      simp only [Option.some.injEq,Prod.mk.injEq] at h
      obtain ⟨rfl,rfl⟩:=h
      obtain ⟨h0,h4,hok,hd⟩:=goodL_parts hg
      have H0:=Aside0.mk h0;have H4:=Aside0.mk h4;have HK:=Aside0.mk hok;have HD:=Aside0.mk hd
      clear h0 h4 hok hd hg
      have hmm:=@run_makeMap Try.prog
      go_enter Try.func6,Try.ntmps6
      go_wp2_with (first|(go_at_call 11;(with_reducible refine (impl_IsLives.calls k _ _ l0 true _ HR.out HC.out HL.out).mono ?_);rintro e w' ⟨rfl,⟨nd,rfl⟩⟩;have HB:=Aside0.mk (show Below w.heap.size w ((w.drewN nd).alloc (.map #[] 0)) from Below.alloc (pw_below_drewN (Below.refl _ _) _) (Nat.le_refl _) _);have HI:=Aside0.mk (Inv.made (fun _=>True) (w.drewN nd)))|(go_at_call 13;refine (aliveOf_calls A0 c0 l0 _ _ _ _ _ H4.out H0.out HD.out (Kd.C_below HR.out HB.out)).mono ?_;rintro e w2 ⟨rfl,hb⟩;have HI2:=Aside0.mk (HI.out.below hb);have HB2:=Aside0.mk (below_step HB.out hb);clear hb)|(go_at_call 12;refine (worst_calls w.heap.size w.heap.size (Nat.le_refl _) (wS (stOf l0)+1) (fun _=>True) (stOf l0) HK.out (Nat.lt_succ_self _) (fun _ _=>trivial) w2 [] HI2.out HB2.out.size).mono ?_;rintro e w3 ⟨rfl,hb,_,_⟩;have HB3:=Aside0.mk (Below.trans HB2.out hb)))
      go_ret2
      exact ⟨rfl,HB3.out⟩
    · rw[if_neg hg] at h
      cases h
def Cx (B g n:Nat) (w0 wi:World) (T:List Int) (L:List (Option Addr×Nat×List Int)):Prop:=Below B w0 wi∧Kept w0 wi (fun q=>q=g)∧TF wi g T∧T.length=n∧B≤wi.heap.size∧∀ x∈L,Lv wi g x.1 x.2.2∧x.2.2.length≤x.2.1
theorem Cx.below {B g n:Nat} {w0 wi wj:World} {T:List Int} {L:List (Option Addr×Nat×List Int)} (h:Cx B g n w0 wi T L) (hb:Below wi.heap.size wi wj):Cx B g n w0 wj T L:=
  ⟨Below.trans h.1 (hb.mono h.2.2.2.2.1),h.2.1.below hb,h.2.2.1.below hb,h.2.2.2.1,Nat.le_trans h.2.2.2.2.1 hb.size,fun x hx=>⟨((h.2.2.2.2.2 x hx).1).kept (Kept.of_below hb _),(h.2.2.2.2.2 x hx).2⟩⟩
theorem Cx.drew {B g n:Nat} {w0 wi:World} {T:List Int} {L:List (Option Addr×Nat×List Int)} (h:Cx B g n w0 wi T L) (m:Nat):Cx B g n w0 (wi.drewN m) T L:=h.below (pw_below_drewN (Below.refl _ _) _)
theorem Cx.add {B g n:Nat} {w0 wi wj:World} {T:List Int} {L:List (Option Addr×Nat×List Int)} (h:Cx B g n w0 wi T L) (hb:Below wi.heap.size wi wj) {A:Option Addr} {c:Nat} {l:List Int} {ok:Nat→Prop} (hr:Kd.R (Kd.int .i64) 3 wj wi.heap.size ok (.slice A l.length c) l):Cx B g n w0 wj T ((A,c,l)::L):=by
  have h2:=h.below hb
  refine ⟨h2.1,h2.2.1,h2.2.2.1,h2.2.2.2.1,h2.2.2.2.2.1,fun x hx=>?_⟩
  rcases List.mem_cons.1 hx with rfl | hx
  · exact ⟨Lv.own hr h.2.2.1.lt,(Kd.R_reads' hr).2.1⟩
  · exact h2.2.2.2.2.2 x hx
theorem Cx.post {B g n:Nat} {w0 wi wj:World} {T T':List Int} {L:List (Option Addr×Nat×List Int)} (h:Cx B g n w0 wi T L) (hb:Below B wi wj) (hk:Kept wi wj (fun q=>q=g)) (hT:TF wj g T') (hl:T'.length=n):Cx B g n w0 wj T' L:=
  ⟨Below.trans h.1 hb,h.2.1.then_ hk (fun _ h2=>.inl h2),hT,hl,Nat.le_trans h.2.2.2.2.1 hk.1,fun x hx=>⟨((h.2.2.2.2.2 x hx).1).kept hk,(h.2.2.2.2.2 x hx).2⟩⟩
theorem Cx.get {B g n:Nat} {w0 wi:World} {T:List Int} {L:List (Option Addr×Nat×List Int)} (h:Cx B g n w0 wi T L) (x:Option Addr×Nat×List Int) (hx:x∈L):Lv wi g x.1 x.2.2∧x.2.2.length≤x.2.1:=h.2.2.2.2.2 x hx
theorem duA (B g n ct k:Nat) (l T:List Int) (r:Int) (T':List Int) (A:Option Addr) (c:Nat) (w:World) (hd:DuW B g n ct k) (h:duF k l T=some (r,T')) (h1:Lv w g A l) (h2:l.length≤c) (h3:TF w g T) (h4:T.length=n) (h5:n≤ct) (h6:B≤w.heap.size):Calls Try.prog 9 #[.slice A l.length c,.slice (some ⟨g,0,none⟩) n ct] w fun e w'=>e=.returned (.int .i64 r)∧Below B w w'∧Kept w w' (fun q=>q=g)∧TF w' g T'∧T'.length=n:=hd l T r T' A c w h h1 h2 h3 h4 h5 h6
theorem fc_walk (B g n ct:Nat) (k:Nat) (ih:∀ m,m<k→DuW B g n ct m):FcW B g n ct k:=by
  intro l s T r T' A A2 c c2 w h hL hc hL2 hc2 hT hn hct hBw
  cases k with
  | zero=>cases h
  | succ k=>
  unfold fcF at h
  obtain ⟨rest,hrest,h⟩:=Option.bind_eq_some_iff.mp h
  obtain ⟨a_,ha_,h⟩:=Option.bind_eq_some_iff.mp h
  have HX:=Aside0.mk (show Cx B g n w w T [(A,c,l),(A2,c2,s)] from ⟨Below.refl _ _,Kept.refl _ _,hT,hn,hBw,fun x hx=>by
    rcases List.mem_cons.1 hx with rfl | hx
    · exact ⟨hL,hc⟩
    · rw[List.mem_singleton.1 hx]
      exact ⟨hL2,hc2⟩⟩)
  have HREST:=Aside0.mk hrest;have HAS:=Aside0.mk ha_;have HCT:=Aside0.mk hct;have ih:=Aside0.mk ih
  clear hL hc hL2 hc2 hT hn hct hBw hrest ha_
  cases a_ with
  | false=>
    rw[if_neg (by decide)] at h
    cases k with
    | zero=>cases h
    | succ k=>
    unfold fcA at h
    obtain ⟨all,hall,h⟩:=Option.bind_eq_some_iff.mp h
    obtain ⟨c_,hc_,h⟩:=Option.bind_eq_some_iff.mp h
    have HALL:=Aside0.mk hall;have HCA:=Aside0.mk hc_
    clear hall hc_
    cases c_ with
    | false=>
      rw[if_neg (by decide)] at h
      simp only [Option.some.injEq,Prod.mk.injEq] at h
      obtain ⟨rfl,rfl⟩:=h
      go_enter Try.func18,Try.ntmps18
      go_wp2_with (first|(go_at_call 27;(with_reducible refine (spec_l11Rest.calls (k+1) A c l A2 c2 s rest _ ?s1 ?s2 ?s3 ?s4 HREST.out).mono ?_);(case s1=>exact (HX.out.get (A,c,l) (by simp)).1.now);(case s2=>exact (HX.out.get (A,c,l) (by simp)).2);(case s3=>exact (HX.out.get (A2,c2,s) (by simp)).1.now);(case s4=>exact (HX.out.get (A2,c2,s) (by simp)).2);rintro e w1 ⟨v_,rfl,hr,hb⟩;obtain ⟨A5,c5,rfl⟩:=Kd.R_slice hr;replace HX:=Aside0.mk (HX.out.add hb hr);clear hb hr)|(go_at_call 28;(with_reducible refine (spec_l11Alive.calls (k+1) A2 c2 s false _ ?s1 ?s2 HAS.out).mono ?_);(case s1=>exact (HX.out.get (A2,c2,s) (by simp)).1.now);(case s2=>exact (HX.out.get (A2,c2,s) (by simp)).2);rintro e w' ⟨rfl,⟨nd,rfl⟩⟩;replace HX:=Aside0.mk (HX.out.drew nd);generalize hq_:World.drewN _ nd=wq at *;clear hq_)|(go_at_call 29;(with_reducible refine (spec_l11Hurt.calls k A c l A c l all _ ?s1 ?s2 ?s3 ?s4 HALL.out).mono ?_);(case s1=>exact (HX.out.get (A,c,l) (by simp)).1.now);(case s2=>exact (HX.out.get (A,c,l) (by simp)).2);(case s3=>exact (HX.out.get (A,c,l) (by simp)).1.now);(case s4=>exact (HX.out.get (A,c,l) (by simp)).2);rintro e w2 ⟨v_,rfl,hr,hb⟩;obtain ⟨A6,c6,rfl⟩:=Kd.R_slice hr;replace HX:=Aside0.mk (HX.out.add hb hr);clear hb hr)|(go_at_call 28;(with_reducible refine (spec_l11Alive.calls k A6 c6 all false _ ?s1 ?s2 HCA.out).mono ?_);(case s1=>exact (HX.out.get (A6,c6,all) (by simp)).1.now);(case s2=>exact (HX.out.get (A6,c6,all) (by simp)).2);rintro e w' ⟨rfl,⟨nd,rfl⟩⟩;replace HX:=Aside0.mk (HX.out.drew nd);generalize hq_:World.drewN _ nd=wq at *;clear hq_))
      go_ret
      exact ⟨rfl,HX.out.1,HX.out.2.1,HX.out.2.2.1,HX.out.2.2.2.1⟩
    | true=>
      rw[if_pos rfl] at h
      obtain ⟨⟨r1,T1⟩,hx1,h⟩:=Option.bind_eq_some_iff.mp h
      have HX1:=Aside0.mk hx1
      clear hx1
      simp only [Option.some.injEq,Prod.mk.injEq] at h
      obtain ⟨rfl,rfl⟩:=h
      go_enter Try.func18,Try.ntmps18
      go_wp2_with (first|(go_at_call 27;(with_reducible refine (spec_l11Rest.calls (k+1) A c l A2 c2 s rest _ ?s1 ?s2 ?s3 ?s4 HREST.out).mono ?_);(case s1=>exact (HX.out.get (A,c,l) (by simp)).1.now);(case s2=>exact (HX.out.get (A,c,l) (by simp)).2);(case s3=>exact (HX.out.get (A2,c2,s) (by simp)).1.now);(case s4=>exact (HX.out.get (A2,c2,s) (by simp)).2);rintro e w1 ⟨v_,rfl,hr,hb⟩;obtain ⟨A5,c5,rfl⟩:=Kd.R_slice hr;replace HX:=Aside0.mk (HX.out.add hb hr);clear hb hr)|(go_at_call 28;(with_reducible refine (spec_l11Alive.calls (k+1) A2 c2 s false _ ?s1 ?s2 HAS.out).mono ?_);(case s1=>exact (HX.out.get (A2,c2,s) (by simp)).1.now);(case s2=>exact (HX.out.get (A2,c2,s) (by simp)).2);rintro e w' ⟨rfl,⟨nd,rfl⟩⟩;replace HX:=Aside0.mk (HX.out.drew nd);generalize hq_:World.drewN _ nd=wq at *;clear hq_)|(go_at_call 29;(with_reducible refine (spec_l11Hurt.calls k A c l A c l all _ ?s1 ?s2 ?s3 ?s4 HALL.out).mono ?_);(case s1=>exact (HX.out.get (A,c,l) (by simp)).1.now);(case s2=>exact (HX.out.get (A,c,l) (by simp)).2);(case s3=>exact (HX.out.get (A,c,l) (by simp)).1.now);(case s4=>exact (HX.out.get (A,c,l) (by simp)).2);rintro e w2 ⟨v_,rfl,hr,hb⟩;obtain ⟨A6,c6,rfl⟩:=Kd.R_slice hr;replace HX:=Aside0.mk (HX.out.add hb hr);clear hb hr)|(go_at_call 28;(with_reducible refine (spec_l11Alive.calls k A6 c6 all true _ ?s1 ?s2 HCA.out).mono ?_);(case s1=>exact (HX.out.get (A6,c6,all) (by simp)).1.now);(case s2=>exact (HX.out.get (A6,c6,all) (by simp)).2);rintro e w' ⟨rfl,⟨nd,rfl⟩⟩;replace HX:=Aside0.mk (HX.out.drew nd);generalize hq_:World.drewN _ nd=wq at *;clear hq_)|(go_at_call 9;(with_reducible refine (duA B g n ct k all T r1 T1 A6 c6 _ (ih.out k (by omega)) HX1.out ?s1 ?s2 ?s3 ?s4 HCT.out ?s5).mono ?_);(case s1=>exact (HX.out.get (A6,c6,all) (by simp)).1);(case s2=>exact (HX.out.get (A6,c6,all) (by simp)).2);(case s3=>exact HX.out.2.2.1);(case s4=>exact HX.out.2.2.2.1);(case s5=>exact HX.out.2.2.2.2.1);rintro e w3 ⟨rfl,hb,hk,hT,hl⟩;replace HX:=Aside0.mk (HX.out.post hb hk hT hl);clear hb hk hT hl))
      go_ret
      exact ⟨rfl,HX.out.1,HX.out.2.1,HX.out.2.2.1,HX.out.2.2.2.1⟩
  | true=>
  rw[if_pos rfl] at h
  obtain ⟨b_,hb_,h⟩:=Option.bind_eq_some_iff.mp h
  have HBS:=Aside0.mk hb_
  clear hb_
  cases b_ with
  | false=>
    rw[if_neg (by decide)] at h
    cases k with
    | zero=>cases h
    | succ k=>
    unfold fcA at h
    obtain ⟨all,hall,h⟩:=Option.bind_eq_some_iff.mp h
    obtain ⟨c_,hc_,h⟩:=Option.bind_eq_some_iff.mp h
    have HALL:=Aside0.mk hall;have HCA:=Aside0.mk hc_
    clear hall hc_
    cases c_ with
    | false=>
      rw[if_neg (by decide)] at h
      simp only [Option.some.injEq,Prod.mk.injEq] at h
      obtain ⟨rfl,rfl⟩:=h
      go_enter Try.func18,Try.ntmps18
      go_wp2_with (first|(go_at_call 27;(with_reducible refine (spec_l11Rest.calls (k+1) A c l A2 c2 s rest _ ?s1 ?s2 ?s3 ?s4 HREST.out).mono ?_);(case s1=>exact (HX.out.get (A,c,l) (by simp)).1.now);(case s2=>exact (HX.out.get (A,c,l) (by simp)).2);(case s3=>exact (HX.out.get (A2,c2,s) (by simp)).1.now);(case s4=>exact (HX.out.get (A2,c2,s) (by simp)).2);rintro e w1 ⟨v_,rfl,hr,hb⟩;obtain ⟨A5,c5,rfl⟩:=Kd.R_slice hr;replace HX:=Aside0.mk (HX.out.add hb hr);clear hb hr)|(go_at_call 28;(with_reducible refine (spec_l11Alive.calls (k+1) A2 c2 s true _ ?s1 ?s2 HAS.out).mono ?_);(case s1=>exact (HX.out.get (A2,c2,s) (by simp)).1.now);(case s2=>exact (HX.out.get (A2,c2,s) (by simp)).2);rintro e w' ⟨rfl,⟨nd,rfl⟩⟩;replace HX:=Aside0.mk (HX.out.drew nd);generalize hq_:World.drewN _ nd=wq at *;clear hq_)|(go_at_call 28;(with_reducible refine (spec_l11Alive.calls (k+1) A5 c5 rest false _ ?s1 ?s2 HBS.out).mono ?_);(case s1=>exact (HX.out.get (A5,c5,rest) (by simp)).1.now);(case s2=>exact (HX.out.get (A5,c5,rest) (by simp)).2);rintro e w' ⟨rfl,⟨nd,rfl⟩⟩;replace HX:=Aside0.mk (HX.out.drew nd);generalize hq_:World.drewN _ nd=wq at *;clear hq_)|(go_at_call 29;(with_reducible refine (spec_l11Hurt.calls k A c l A c l all _ ?s1 ?s2 ?s3 ?s4 HALL.out).mono ?_);(case s1=>exact (HX.out.get (A,c,l) (by simp)).1.now);(case s2=>exact (HX.out.get (A,c,l) (by simp)).2);(case s3=>exact (HX.out.get (A,c,l) (by simp)).1.now);(case s4=>exact (HX.out.get (A,c,l) (by simp)).2);rintro e w2 ⟨v_,rfl,hr,hb⟩;obtain ⟨A6,c6,rfl⟩:=Kd.R_slice hr;replace HX:=Aside0.mk (HX.out.add hb hr);clear hb hr)|(go_at_call 28;(with_reducible refine (spec_l11Alive.calls k A6 c6 all false _ ?s1 ?s2 HCA.out).mono ?_);(case s1=>exact (HX.out.get (A6,c6,all) (by simp)).1.now);(case s2=>exact (HX.out.get (A6,c6,all) (by simp)).2);rintro e w' ⟨rfl,⟨nd,rfl⟩⟩;replace HX:=Aside0.mk (HX.out.drew nd);generalize hq_:World.drewN _ nd=wq at *;clear hq_))
      go_ret
      exact ⟨rfl,HX.out.1,HX.out.2.1,HX.out.2.2.1,HX.out.2.2.2.1⟩
    | true=>
      rw[if_pos rfl] at h
      obtain ⟨⟨r1,T1⟩,hx1,h⟩:=Option.bind_eq_some_iff.mp h
      have HX1:=Aside0.mk hx1
      clear hx1
      simp only [Option.some.injEq,Prod.mk.injEq] at h
      obtain ⟨rfl,rfl⟩:=h
      go_enter Try.func18,Try.ntmps18
      go_wp2_with (first|(go_at_call 27;(with_reducible refine (spec_l11Rest.calls (k+1) A c l A2 c2 s rest _ ?s1 ?s2 ?s3 ?s4 HREST.out).mono ?_);(case s1=>exact (HX.out.get (A,c,l) (by simp)).1.now);(case s2=>exact (HX.out.get (A,c,l) (by simp)).2);(case s3=>exact (HX.out.get (A2,c2,s) (by simp)).1.now);(case s4=>exact (HX.out.get (A2,c2,s) (by simp)).2);rintro e w1 ⟨v_,rfl,hr,hb⟩;obtain ⟨A5,c5,rfl⟩:=Kd.R_slice hr;replace HX:=Aside0.mk (HX.out.add hb hr);clear hb hr)|(go_at_call 28;(with_reducible refine (spec_l11Alive.calls (k+1) A2 c2 s true _ ?s1 ?s2 HAS.out).mono ?_);(case s1=>exact (HX.out.get (A2,c2,s) (by simp)).1.now);(case s2=>exact (HX.out.get (A2,c2,s) (by simp)).2);rintro e w' ⟨rfl,⟨nd,rfl⟩⟩;replace HX:=Aside0.mk (HX.out.drew nd);generalize hq_:World.drewN _ nd=wq at *;clear hq_)|(go_at_call 28;(with_reducible refine (spec_l11Alive.calls (k+1) A5 c5 rest false _ ?s1 ?s2 HBS.out).mono ?_);(case s1=>exact (HX.out.get (A5,c5,rest) (by simp)).1.now);(case s2=>exact (HX.out.get (A5,c5,rest) (by simp)).2);rintro e w' ⟨rfl,⟨nd,rfl⟩⟩;replace HX:=Aside0.mk (HX.out.drew nd);generalize hq_:World.drewN _ nd=wq at *;clear hq_)|(go_at_call 29;(with_reducible refine (spec_l11Hurt.calls k A c l A c l all _ ?s1 ?s2 ?s3 ?s4 HALL.out).mono ?_);(case s1=>exact (HX.out.get (A,c,l) (by simp)).1.now);(case s2=>exact (HX.out.get (A,c,l) (by simp)).2);(case s3=>exact (HX.out.get (A,c,l) (by simp)).1.now);(case s4=>exact (HX.out.get (A,c,l) (by simp)).2);rintro e w2 ⟨v_,rfl,hr,hb⟩;obtain ⟨A6,c6,rfl⟩:=Kd.R_slice hr;replace HX:=Aside0.mk (HX.out.add hb hr);clear hb hr)|(go_at_call 28;(with_reducible refine (spec_l11Alive.calls k A6 c6 all true _ ?s1 ?s2 HCA.out).mono ?_);(case s1=>exact (HX.out.get (A6,c6,all) (by simp)).1.now);(case s2=>exact (HX.out.get (A6,c6,all) (by simp)).2);rintro e w' ⟨rfl,⟨nd,rfl⟩⟩;replace HX:=Aside0.mk (HX.out.drew nd);generalize hq_:World.drewN _ nd=wq at *;clear hq_)|(go_at_call 9;(with_reducible refine (duA B g n ct k all T r1 T1 A6 c6 _ (ih.out k (by omega)) HX1.out ?s1 ?s2 ?s3 ?s4 HCT.out ?s5).mono ?_);(case s1=>exact (HX.out.get (A6,c6,all) (by simp)).1);(case s2=>exact (HX.out.get (A6,c6,all) (by simp)).2);(case s3=>exact HX.out.2.2.1);(case s4=>exact HX.out.2.2.2.1);(case s5=>exact HX.out.2.2.2.2.1);rintro e w3 ⟨rfl,hb,hk,hT,hl⟩;replace HX:=Aside0.mk (HX.out.post hb hk hT hl);clear hb hk hT hl))
      go_ret
      exact ⟨rfl,HX.out.1,HX.out.2.1,HX.out.2.2.1,HX.out.2.2.2.1⟩
  | true=>
  rw[if_pos rfl] at h
  obtain ⟨lo,hlo,h⟩:=Option.bind_eq_some_iff.mp h
  obtain ⟨hi,hhi,h⟩:=Option.bind_eq_some_iff.mp h
  obtain ⟨c_,hc_,h⟩:=Option.bind_eq_some_iff.mp h
  have HLO:=Aside0.mk hlo;have HHI:=Aside0.mk hhi;have HC1:=Aside0.mk hc_
  clear hlo hhi hc_
  cases c_ with
  | false=>
    rw[if_neg (by decide)] at h
    simp only [Option.some.injEq,Prod.mk.injEq] at h
    obtain ⟨rfl,rfl⟩:=h
    go_enter Try.func18,Try.ntmps18
    go_wp2_with (first|(go_at_call 27;(with_reducible refine (spec_l11Rest.calls k A c l A2 c2 s rest _ ?s1 ?s2 ?s3 ?s4 HREST.out).mono ?_);(case s1=>exact (HX.out.get (A,c,l) (by simp)).1.now);(case s2=>exact (HX.out.get (A,c,l) (by simp)).2);(case s3=>exact (HX.out.get (A2,c2,s) (by simp)).1.now);(case s4=>exact (HX.out.get (A2,c2,s) (by simp)).2);rintro e w1 ⟨v_,rfl,hr,hb⟩;obtain ⟨A5,c5,rfl⟩:=Kd.R_slice hr;replace HX:=Aside0.mk (HX.out.add hb hr);clear hb hr)|(go_at_call 28;(with_reducible refine (spec_l11Alive.calls k A2 c2 s true _ ?s1 ?s2 HAS.out).mono ?_);(case s1=>exact (HX.out.get (A2,c2,s) (by simp)).1.now);(case s2=>exact (HX.out.get (A2,c2,s) (by simp)).2);rintro e w' ⟨rfl,⟨nd,rfl⟩⟩;replace HX:=Aside0.mk (HX.out.drew nd);generalize hq_:World.drewN _ nd=wq at *;clear hq_)|(go_at_call 28;(with_reducible refine (spec_l11Alive.calls k A5 c5 rest true _ ?s1 ?s2 HBS.out).mono ?_);(case s1=>exact (HX.out.get (A5,c5,rest) (by simp)).1.now);(case s2=>exact (HX.out.get (A5,c5,rest) (by simp)).2);rintro e w' ⟨rfl,⟨nd,rfl⟩⟩;replace HX:=Aside0.mk (HX.out.drew nd);generalize hq_:World.drewN _ nd=wq at *;clear hq_)|(go_at_call 29;(with_reducible refine (spec_l11Hurt.calls k A c l A2 c2 s lo _ ?s1 ?s2 ?s3 ?s4 HLO.out).mono ?_);(case s1=>exact (HX.out.get (A,c,l) (by simp)).1.now);(case s2=>exact (HX.out.get (A,c,l) (by simp)).2);(case s3=>exact (HX.out.get (A2,c2,s) (by simp)).1.now);(case s4=>exact (HX.out.get (A2,c2,s) (by simp)).2);rintro e w2 ⟨v_,rfl,hr,hb⟩;obtain ⟨A6,c6,rfl⟩:=Kd.R_slice hr;replace HX:=Aside0.mk (HX.out.add hb hr);clear hb hr)|(go_at_call 29;(with_reducible refine (spec_l11Hurt.calls k A c l A5 c5 rest hi _ ?s1 ?s2 ?s3 ?s4 HHI.out).mono ?_);(case s1=>exact (HX.out.get (A,c,l) (by simp)).1.now);(case s2=>exact (HX.out.get (A,c,l) (by simp)).2);(case s3=>exact (HX.out.get (A5,c5,rest) (by simp)).1.now);(case s4=>exact (HX.out.get (A5,c5,rest) (by simp)).2);rintro e w3 ⟨v_,rfl,hr,hb⟩;obtain ⟨A7,c7,rfl⟩:=Kd.R_slice hr;replace HX:=Aside0.mk (HX.out.add hb hr);clear hb hr)|(go_at_call 28;(with_reducible refine (spec_l11Alive.calls k A6 c6 lo false _ ?s1 ?s2 HC1.out).mono ?_);(case s1=>exact (HX.out.get (A6,c6,lo) (by simp)).1.now);(case s2=>exact (HX.out.get (A6,c6,lo) (by simp)).2);rintro e w' ⟨rfl,⟨nd,rfl⟩⟩;replace HX:=Aside0.mk (HX.out.drew nd);generalize hq_:World.drewN _ nd=wq at *;clear hq_))
    go_ret
    exact ⟨rfl,HX.out.1,HX.out.2.1,HX.out.2.2.1,HX.out.2.2.2.1⟩
  | true=>
  rw[if_pos rfl] at h
  obtain ⟨d_,hd_,h⟩:=Option.bind_eq_some_iff.mp h
  have HD1:=Aside0.mk hd_
  clear hd_
  cases d_ with
  | false=>
    rw[if_neg (by decide)] at h
    simp only [Option.some.injEq,Prod.mk.injEq] at h
    obtain ⟨rfl,rfl⟩:=h
    go_enter Try.func18,Try.ntmps18
    go_wp2_with (first|(go_at_call 27;(with_reducible refine (spec_l11Rest.calls k A c l A2 c2 s rest _ ?s1 ?s2 ?s3 ?s4 HREST.out).mono ?_);(case s1=>exact (HX.out.get (A,c,l) (by simp)).1.now);(case s2=>exact (HX.out.get (A,c,l) (by simp)).2);(case s3=>exact (HX.out.get (A2,c2,s) (by simp)).1.now);(case s4=>exact (HX.out.get (A2,c2,s) (by simp)).2);rintro e w1 ⟨v_,rfl,hr,hb⟩;obtain ⟨A5,c5,rfl⟩:=Kd.R_slice hr;replace HX:=Aside0.mk (HX.out.add hb hr);clear hb hr)|(go_at_call 28;(with_reducible refine (spec_l11Alive.calls k A2 c2 s true _ ?s1 ?s2 HAS.out).mono ?_);(case s1=>exact (HX.out.get (A2,c2,s) (by simp)).1.now);(case s2=>exact (HX.out.get (A2,c2,s) (by simp)).2);rintro e w' ⟨rfl,⟨nd,rfl⟩⟩;replace HX:=Aside0.mk (HX.out.drew nd);generalize hq_:World.drewN _ nd=wq at *;clear hq_)|(go_at_call 28;(with_reducible refine (spec_l11Alive.calls k A5 c5 rest true _ ?s1 ?s2 HBS.out).mono ?_);(case s1=>exact (HX.out.get (A5,c5,rest) (by simp)).1.now);(case s2=>exact (HX.out.get (A5,c5,rest) (by simp)).2);rintro e w' ⟨rfl,⟨nd,rfl⟩⟩;replace HX:=Aside0.mk (HX.out.drew nd);generalize hq_:World.drewN _ nd=wq at *;clear hq_)|(go_at_call 29;(with_reducible refine (spec_l11Hurt.calls k A c l A2 c2 s lo _ ?s1 ?s2 ?s3 ?s4 HLO.out).mono ?_);(case s1=>exact (HX.out.get (A,c,l) (by simp)).1.now);(case s2=>exact (HX.out.get (A,c,l) (by simp)).2);(case s3=>exact (HX.out.get (A2,c2,s) (by simp)).1.now);(case s4=>exact (HX.out.get (A2,c2,s) (by simp)).2);rintro e w2 ⟨v_,rfl,hr,hb⟩;obtain ⟨A6,c6,rfl⟩:=Kd.R_slice hr;replace HX:=Aside0.mk (HX.out.add hb hr);clear hb hr)|(go_at_call 29;(with_reducible refine (spec_l11Hurt.calls k A c l A5 c5 rest hi _ ?s1 ?s2 ?s3 ?s4 HHI.out).mono ?_);(case s1=>exact (HX.out.get (A,c,l) (by simp)).1.now);(case s2=>exact (HX.out.get (A,c,l) (by simp)).2);(case s3=>exact (HX.out.get (A5,c5,rest) (by simp)).1.now);(case s4=>exact (HX.out.get (A5,c5,rest) (by simp)).2);rintro e w3 ⟨v_,rfl,hr,hb⟩;obtain ⟨A7,c7,rfl⟩:=Kd.R_slice hr;replace HX:=Aside0.mk (HX.out.add hb hr);clear hb hr)|(go_at_call 28;(with_reducible refine (spec_l11Alive.calls k A6 c6 lo true _ ?s1 ?s2 HC1.out).mono ?_);(case s1=>exact (HX.out.get (A6,c6,lo) (by simp)).1.now);(case s2=>exact (HX.out.get (A6,c6,lo) (by simp)).2);rintro e w' ⟨rfl,⟨nd,rfl⟩⟩;replace HX:=Aside0.mk (HX.out.drew nd);generalize hq_:World.drewN _ nd=wq at *;clear hq_)|(go_at_call 28;(with_reducible refine (spec_l11Alive.calls k A7 c7 hi false _ ?s1 ?s2 HD1.out).mono ?_);(case s1=>exact (HX.out.get (A7,c7,hi) (by simp)).1.now);(case s2=>exact (HX.out.get (A7,c7,hi) (by simp)).2);rintro e w' ⟨rfl,⟨nd,rfl⟩⟩;replace HX:=Aside0.mk (HX.out.drew nd);generalize hq_:World.drewN _ nd=wq at *;clear hq_))
    go_ret
    exact ⟨rfl,HX.out.1,HX.out.2.1,HX.out.2.2.1,HX.out.2.2.2.1⟩
  | true=>
  rw[if_pos rfl] at h
  obtain ⟨⟨r1,T1⟩,hx1,h⟩:=Option.bind_eq_some_iff.mp h
  obtain ⟨⟨r2,T2⟩,hx2,h⟩:=Option.bind_eq_some_iff.mp h
  obtain ⟨mm,hm,h⟩:=Option.bind_eq_some_iff.mp h
  have HX1:=Aside0.mk hx1;have HX2:=Aside0.mk hx2;have HM:=Aside0.mk hm
  clear hx1 hx2 hm
  simp only [Option.some.injEq,Prod.mk.injEq] at h
  obtain ⟨rfl,rfl⟩:=h
  go_enter Try.func18,Try.ntmps18
  go_wp2_with (first|(go_at_call 27;(with_reducible refine (spec_l11Rest.calls k A c l A2 c2 s rest _ ?s1 ?s2 ?s3 ?s4 HREST.out).mono ?_);(case s1=>exact (HX.out.get (A,c,l) (by simp)).1.now);(case s2=>exact (HX.out.get (A,c,l) (by simp)).2);(case s3=>exact (HX.out.get (A2,c2,s) (by simp)).1.now);(case s4=>exact (HX.out.get (A2,c2,s) (by simp)).2);rintro e w1 ⟨v_,rfl,hr,hb⟩;obtain ⟨A5,c5,rfl⟩:=Kd.R_slice hr;replace HX:=Aside0.mk (HX.out.add hb hr);clear hb hr)|(go_at_call 28;(with_reducible refine (spec_l11Alive.calls k A2 c2 s true _ ?s1 ?s2 HAS.out).mono ?_);(case s1=>exact (HX.out.get (A2,c2,s) (by simp)).1.now);(case s2=>exact (HX.out.get (A2,c2,s) (by simp)).2);rintro e w' ⟨rfl,⟨nd,rfl⟩⟩;replace HX:=Aside0.mk (HX.out.drew nd);generalize hq_:World.drewN _ nd=wq at *;clear hq_)|(go_at_call 28;(with_reducible refine (spec_l11Alive.calls k A5 c5 rest true _ ?s1 ?s2 HBS.out).mono ?_);(case s1=>exact (HX.out.get (A5,c5,rest) (by simp)).1.now);(case s2=>exact (HX.out.get (A5,c5,rest) (by simp)).2);rintro e w' ⟨rfl,⟨nd,rfl⟩⟩;replace HX:=Aside0.mk (HX.out.drew nd);generalize hq_:World.drewN _ nd=wq at *;clear hq_)|(go_at_call 29;(with_reducible refine (spec_l11Hurt.calls k A c l A2 c2 s lo _ ?s1 ?s2 ?s3 ?s4 HLO.out).mono ?_);(case s1=>exact (HX.out.get (A,c,l) (by simp)).1.now);(case s2=>exact (HX.out.get (A,c,l) (by simp)).2);(case s3=>exact (HX.out.get (A2,c2,s) (by simp)).1.now);(case s4=>exact (HX.out.get (A2,c2,s) (by simp)).2);rintro e w2 ⟨v_,rfl,hr,hb⟩;obtain ⟨A6,c6,rfl⟩:=Kd.R_slice hr;replace HX:=Aside0.mk (HX.out.add hb hr);clear hb hr)|(go_at_call 29;(with_reducible refine (spec_l11Hurt.calls k A c l A5 c5 rest hi _ ?s1 ?s2 ?s3 ?s4 HHI.out).mono ?_);(case s1=>exact (HX.out.get (A,c,l) (by simp)).1.now);(case s2=>exact (HX.out.get (A,c,l) (by simp)).2);(case s3=>exact (HX.out.get (A5,c5,rest) (by simp)).1.now);(case s4=>exact (HX.out.get (A5,c5,rest) (by simp)).2);rintro e w3 ⟨v_,rfl,hr,hb⟩;obtain ⟨A7,c7,rfl⟩:=Kd.R_slice hr;replace HX:=Aside0.mk (HX.out.add hb hr);clear hb hr)|(go_at_call 28;(with_reducible refine (spec_l11Alive.calls k A6 c6 lo true _ ?s1 ?s2 HC1.out).mono ?_);(case s1=>exact (HX.out.get (A6,c6,lo) (by simp)).1.now);(case s2=>exact (HX.out.get (A6,c6,lo) (by simp)).2);rintro e w' ⟨rfl,⟨nd,rfl⟩⟩;replace HX:=Aside0.mk (HX.out.drew nd);generalize hq_:World.drewN _ nd=wq at *;clear hq_)|(go_at_call 28;(with_reducible refine (spec_l11Alive.calls k A7 c7 hi true _ ?s1 ?s2 HD1.out).mono ?_);(case s1=>exact (HX.out.get (A7,c7,hi) (by simp)).1.now);(case s2=>exact (HX.out.get (A7,c7,hi) (by simp)).2);rintro e w' ⟨rfl,⟨nd,rfl⟩⟩;replace HX:=Aside0.mk (HX.out.drew nd);generalize hq_:World.drewN _ nd=wq at *;clear hq_)|(go_at_call 9;(with_reducible refine (duA B g n ct k lo T r1 T1 A6 c6 _ (ih.out k (Nat.lt_succ_self k)) HX1.out ?s1 ?s2 ?s3 ?s4 HCT.out ?s5).mono ?_);(case s1=>exact (HX.out.get (A6,c6,lo) (by simp)).1);(case s2=>exact (HX.out.get (A6,c6,lo) (by simp)).2);(case s3=>exact HX.out.2.2.1);(case s4=>exact HX.out.2.2.2.1);(case s5=>exact HX.out.2.2.2.2.1);rintro e w4 ⟨rfl,hb,hk,hT,hl⟩;replace HX:=Aside0.mk (HX.out.post hb hk hT hl);clear hb hk hT hl)|(go_at_call 9;(with_reducible refine (duA B g n ct k hi T1 r2 T2 A7 c7 _ (ih.out k (Nat.lt_succ_self k)) HX2.out ?s1 ?s2 ?s3 ?s4 HCT.out ?s5).mono ?_);(case s1=>exact (HX.out.get (A7,c7,hi) (by simp)).1);(case s2=>exact (HX.out.get (A7,c7,hi) (by simp)).2);(case s3=>exact HX.out.2.2.1);(case s4=>exact HX.out.2.2.2.1);(case s5=>exact HX.out.2.2.2.2.1);rintro e w5 ⟨rfl,hb,hk,hT,hl⟩;replace HX:=Aside0.mk (HX.out.post hb hk hT hl);clear hb hk hT hl)|(go_at_call 30;(with_reducible refine (spec_l1Least.calls r1 r2 mm _ HM.out).mono ?_);rintro e w' ⟨rfl,⟨nd,rfl⟩⟩;replace HX:=Aside0.mk (HX.out.drew nd);generalize hq_:World.drewN _ nd=wq at *;clear hq_))
  go_ret
  exact ⟨rfl,HX.out.1,HX.out.2.1,HX.out.2.2.1,HX.out.2.2.2.1⟩
theorem both (B g n ct:Nat) (hBg:B≤g) (k:Nat):DuW B g n ct k∧FcW B g n ct k:=by
  induction k using Nat.strongRecOn with
  | _ k ih=>exact ⟨du_walk B g n ct hBg k (fun m hm=>(ih m hm).2),fc_walk B g n ct k (fun m hm=>(ih m hm).1)⟩
theorem TF.of_R {w:World} {base:Nat} {ok:Nat→Prop} {v:Value} {T:List Int} (h:Kd.R (Kd.int .i64) 3 w base ok v T) (h0:0<T.length):∃ g ct,v=.slice (some ⟨g,0,none⟩) T.length ct∧T.length≤ct∧base≤g∧TF w g T:=by
  obtain ⟨g,ct,rfl,hb,_,cells,hc⟩:=Kd.R_form h h0
  have hr:=Kd.R_reads' h
  have hi:∀ i,i<T.length→cells[i]? = some (.int .i64 (T.getD i 0)):=fun i hi=>by
    obtain ⟨ad,e,hcell⟩:=Kd.at_int hr.2.2 (i:Int) (by omega) (by omega)
    obtain rfl:=Option.some.inj e
    have e2:(⟨g,0,none⟩:Addr).add (i:Int).toNat=⟨g,i,none⟩:=by
      rw[Int.toNat_natCast]
      simp [Addr.add]
      intro h
      omega
    rw[e2,blk_cell hc] at hcell
    rw[hcell]
    simp [rd]
  refine ⟨g,ct,rfl,hr.2.1,hb,cells,hc,?_,hi⟩
  have hl:=hi (T.length-1) (by omega)
  have:=(Array.getElem?_eq_some_iff.1 hl).1
  omega
def spec_DuelWorst.f (k : Nat) (l0 : List Int) : Option (Int × Bool) := (spec_l11Lives.f k l0).bind fun t => if t = true then (spec_l11Told.f k l0).bind fun T => (if 0 < T.length then (duF k l0 T).bind fun rT => some (rT.1, true) else none) else some (0, false)
theorem spec_DuelWorst.calls (k : Nat) (A0 : Option Addr) (c0 : Nat) (l0 : List Int) (r1 : Int) (r2 : Bool) (w : World) (hr0 : Kd.C (Kd.int .i64) w A0 l0.length l0) (hc0 : l0.length ≤ c0) (h : spec_DuelWorst.f k l0 = some (r1, r2)) :
 Calls Try.prog 4 #[.slice A0 l0.length c0] w fun e w' => e = .returned (.tuple #[.int .i64 r1, .bool r2]) ∧ Below w.heap.size w w' := by
  have HR:=Aside0.mk hr0;have HC:=Aside0.mk hc0
  obtain ⟨t,hL,h⟩:=Option.bind_eq_some_iff.mp h
  have HL:=Aside0.mk hL
  clear hr0 hc0 hL
  cases t with
  | false=>
    rw[if_neg (by decide)] at h
    simp only [Option.some.injEq,Prod.mk.injEq] at h
    obtain ⟨rfl,rfl⟩:=h
    go_enter Try.func4,Try.ntmps4
    go_wp2_with (first|(go_at_call 8;(with_reducible refine (spec_l11Lives.calls k _ _ l0 false _ HR.out HC.out HL.out).mono ?_);rintro e w' ⟨rfl,⟨nd,rfl⟩⟩))
    go_ret2
    exact ⟨rfl,by repeat (first|exact Below.refl _ _|apply pw_below_drewN)⟩
  | true=>
    rw[if_pos rfl] at h
    obtain ⟨T,hT,h⟩:=Option.bind_eq_some_iff.mp h
    by_cases h0:0<T.length
    · rw[if_pos h0] at h
      obtain ⟨⟨r,T'⟩,hd,h⟩:=Option.bind_eq_some_iff.mp h
      simp only [Option.some.injEq,Prod.mk.injEq] at h
      obtain ⟨rfl,rfl⟩:=h
      have HT:=Aside0.mk hT;have H0:=Aside0.mk h0;have HD:=Aside0.mk hd
      clear hT h0 hd
      go_enter Try.func4,Try.ntmps4
      go_wp2_with (first|(go_at_call 8;(with_reducible refine (spec_l11Lives.calls k _ _ l0 true _ HR.out HC.out HL.out).mono ?_);rintro e w' ⟨rfl,⟨nd,rfl⟩⟩)|(go_at_call 10;refine (spec_l11Told.calls k _ _ l0 T _ (Kd.C_drewN HR.out _) HC.out HT.out).mono ?_;rintro e w2 ⟨v2,rfl,hr,hb⟩;obtain ⟨g,ct,rfl,hct,hg,hTF⟩:=TF.of_R hr H0.out;have HB:=Aside0.mk (show Below w.heap.size w w2 from below_step (pw_below_drewN (Below.refl _ _) _) hb);have HCT:=Aside0.mk hct;have HG:=Aside0.mk (show w.heap.size≤g from hg);have HTF:=Aside0.mk hTF;clear hr hb hct hg hTF)|(go_at_call 9;refine ((both w.heap.size g T.length ct HG.out k).1 l0 T r T' A0 c0 w2 HD.out (fun W' hk=>Cl.kept_in (Kd.heap_int _) HR.out hk HB.out (fun q hq=>by rw[hq];exact HG.out)) HC.out HTF.out rfl HCT.out HB.out.size).mono ?_;rintro e w3 ⟨rfl,hb,_,_,_⟩;have HB3:=Aside0.mk (Below.trans HB.out hb)))
      go_ret2
      exact ⟨rfl,HB3.out⟩
    · rw[if_neg h0] at h
      cases h
end Go.Proofs.Ytpknkpbellchgaa.PFnExactDuelWorst
namespace Go.Proofs.Ytpknkpbellchgaa.KFnExactDuelWorst
theorem here:True:=trivial
end Go.Proofs.Ytpknkpbellchgaa.KFnExactDuelWorst
