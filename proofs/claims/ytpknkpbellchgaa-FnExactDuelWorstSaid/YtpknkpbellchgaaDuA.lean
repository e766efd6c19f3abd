import Derived.Test.YtpknkpbellchgaaPFnExactDuelWorstx0
import Derived.Test.YtpknkpbellchgaaSh
import Derived.Test.YtpknkpbellchgaaCl
import Derived.Test.YtpknkpbellchgaaRg
import Derived.Test.YtpknkpbellchgaaDl
import Derived.Maps.Own
import Derived.LoopN
import Derived.DeepKeys4
import Derived.Maps.Views
import Derived.Maps.OwnSet
namespace Go.Proofs.Ytpknkpbellchgaa.PFnExactDuelWorst
open Go.RowKit Go.Proofs.Ytpknkpbellchgaa.Sh Go.Proofs.YtpknkpbellchgaaW.PrintWords Go.Proofs.YtpknkpbellchgaaW.PrintLast Go.Proofs.YtpknkpbellchgaaW.PrintMore
attribute [local go_sem] max2_int min2_int max_two min_two max_three min_three max_four min_four
set_option linter.unusedVariables false
set_option linter.unusedSimpArgs false
set_option maxHeartbeats 8000000
set_option maxRecDepth 100000
theorem u33:Try.prog.underlying 33=some (.array 4 3):=by kernel_rfl
theorem z3 (W:World):(sizeOf 3).run Try.prog W=.ok 1 W:=by kernel_rfl
theorem ix0 (a b c d:Value) (W:World):(Instr.index 33 (.agg #[a,b,c,d]) (.int .i64 0)).run Try.prog W=.ok a W:=by simp [Instr.index,go_sem,u33,z3]
theorem ix1 (a b c d:Value) (W:World):(Instr.index 33 (.agg #[a,b,c,d]) (.int .i64 1)).run Try.prog W=.ok b W:=by simp [Instr.index,go_sem,u33,z3]
theorem ix2 (a b c d:Value) (W:World):(Instr.index 33 (.agg #[a,b,c,d]) (.int .i64 2)).run Try.prog W=.ok c W:=by simp [Instr.index,go_sem,u33,z3]
theorem ix3 (a b c d:Value) (W:World):(Instr.index 33 (.agg #[a,b,c,d]) (.int .i64 3)).run Try.prog W=.ok d W:=by simp [Instr.index,go_sem,u33,z3]
theorem pt0 (p:Addr) (W:World):(Instr.indexAt 33 (.pointer (some p)) (.int .i64 0)).run Try.prog W=.ok (.pointer (some (p.add 0))) W:=by simp [Instr.indexAt,go_sem,u33,z3]
theorem pt1 (p:Addr) (W:World):(Instr.indexAt 33 (.pointer (some p)) (.int .i64 1)).run Try.prog W=.ok (.pointer (some (p.add 1))) W:=by simp [Instr.indexAt,go_sem,u33,z3]
theorem pt2 (p:Addr) (W:World):(Instr.indexAt 33 (.pointer (some p)) (.int .i64 2)).run Try.prog W=.ok (.pointer (some (p.add 2))) W:=by simp [Instr.indexAt,go_sem,u33,z3]
theorem pt3 (p:Addr) (W:World):(Instr.indexAt 33 (.pointer (some p)) (.int .i64 3)).run Try.prog W=.ok (.pointer (some (p.add 3))) W:=by simp [Instr.indexAt,go_sem,u33,z3]
attribute [local go_sem] ix0 ix1 ix2 ix3 pt0 pt1 pt2 pt3
def arr (a b c d:Nat):Value:=.agg #[.int .i64 (a:Int),.int .i64 (b:Int),.int .i64 (c:Int),.int .i64 (d:Int)]
theorem wr_sub {a x:Nat} (h:x≤a) (h8:a≤8):wrap64 ((a:Int)-(x:Int))=((a-x:Nat):Int):=by unfold wrap64;omega
theorem less_calls (a b c d x y z t:Nat) (ha:a≤8) (hb:b≤8) (hc:c≤8) (hd:d≤8) (hx:x≤a) (hy:y≤b) (hz:z≤c) (ht:t≤d) (w:World):
 Calls Try.prog 24 #[arr a b c d,arr x y z t] w fun e w' => e = .returned (arr (a-x) (b-y) (c-z) (d-t)) ∧ Below w.heap.size w w' := by
  have e1:=wr_sub hx ha;have e2:=wr_sub hy hb;have e3:=wr_sub hz hc;have e4:=wr_sub ht hd
  unfold arr
  generalize ((a-x:Nat):Int)=p at *;generalize ((b-y:Nat):Int)=q at *;generalize ((c-z:Nat):Int)=r at *;generalize ((d-t:Nat):Int)=s at *
  generalize (a:Int)=a at *;generalize (b:Int)=b at *;generalize (c:Int)=c at *;generalize (d:Int)=d at *
  generalize (x:Int)=x at *;generalize (y:Int)=y at *;generalize (z:Int)=z at *;generalize (t:Int)=t at *
  clear ha hb hc hd hx hy hz ht
  go_enter Try.func24,Try.ntmps24
  go_wp2
  refine wp_loop_rounds 5 ?_
  iterate 5 (rw[rounds_succ];go_wp2)
  refine bodyPost_ret (v:=.agg #[.int .i64 p,.int .i64 q,.int .i64 r,.int .i64 s]) (by simp [results,Try.results24,go_sem,u33]) rfl ⟨rfl,?_⟩
  exact below_alloc (below_alloc (below_alloc (Below.refl _ _) _) _) _
theorem behind_go (a b c d x y z t p q r s e f g m1 m2 m3 m4:Int) (h1:wrap64 (a-x)=p) (h2:wrap64 (b-y)=q) (h3:wrap64 (c-z)=r) (h4:wrap64 (d-t)=s) (h5:wrap64 (p+y)=e) (h6:wrap64 (q+z)=f) (h7:wrap64 (r+t)=g) (k1:wrap64 e=m1) (k2:wrap64 (m1+f)=m2) (k3:wrap64 (m2+g)=m3) (k4:wrap64 (m3+s)=m4) (w:World):
 Calls Try.prog 25 #[.agg #[.int .i64 a,.int .i64 b,.int .i64 c,.int .i64 d],.agg #[.int .i64 x,.int .i64 y,.int .i64 z,.int .i64 t]] w fun e_ w' => e_ = .returned (.tuple #[.agg #[.int .i64 e,.int .i64 f,.int .i64 g,.int .i64 s],.bool (decide (m4>0))]) ∧ Below w.heap.size w w' := by
  have k0:wrap64 (0+e)=m1:=by rw[Int.zero_add];exact k1
  go_enter Try.func25,Try.ntmps25
  go_wp2
  refine wp_loop_rounds 5 ?_
  iterate 5 (rw[rounds_succ];go_wp2)
  refine wp_loop_rounds 5 ?_
  iterate 5 (rw[rounds_succ];go_wp2)
  refine bodyPost_ret (v:=.tuple #[.agg #[.int .i64 e,.int .i64 f,.int .i64 g,.int .i64 s],.bool (decide (m4>0))]) (by simp [results,Try.results25,go_sem,u33]) rfl ⟨rfl,?_⟩
  exact below_alloc (below_alloc (below_alloc (below_alloc (Below.refl _ _) _) _) _) _
theorem behind_calls (a b c d x y z t:Nat) (ha:a≤8) (hb:b≤8) (hc:c≤8) (hd:d≤8) (hx:x≤a) (hy:y≤b) (hz:z≤c) (ht:t≤d) (w:World):
 Calls Try.prog 25 #[arr a b c d,arr x y z t] w fun e w' => e = .returned (.tuple #[arr (a-x+y) (b-y+z) (c-z+t) (d-t),.bool (decide (1≤(a-x+y)+(b-y+z)+(c-z+t)+(d-t)))]) ∧ Below w.heap.size w w' := by
  refine (behind_go a b c d x y z t (a-x:Nat) (b-y:Nat) (c-z:Nat) (d-t:Nat) (a-x+y:Nat) (b-y+z:Nat) (c-z+t:Nat) (a-x+y:Nat) (a-x+y+(b-y+z):Nat) (a-x+y+(b-y+z)+(c-z+t):Nat) (a-x+y+(b-y+z)+(c-z+t)+(d-t):Nat) ?_ ?_ ?_ ?_ ?_ ?_ ?_ ?_ ?_ ?_ ?_ w).mono ?_
  all_goals try (unfold wrap64;omega)
  rintro e w' ⟨rfl,hb⟩
  have hD:decide (((a-x+y+(b-y+z)+(c-z+t)+(d-t):Nat):Int)>0)=decide (1≤(a-x+y)+(b-y+z)+(c-z+t)+(d-t)):=decide_eq_decide.mpr (by omega)
  rw[hD]
  exact ⟨rfl,hb⟩
theorem row_alloc (W:World) (cs cs':Array Value) (t:TypeId) (fr:Nat×Nat):(W.alloc (.cells cs t fr)).setRow W.heap.size cs'=W.alloc (.cells cs' t fr):=by
  unfold World.setRow World.alloc
  simp only
  congr 1
  apply Array.ext
  · simp
  · intro i h1 h2
    simp only [Array.getElem_modify,Array.getElem_push]
    by_cases h:i<W.heap.size
    · simp [h,Nat.ne_of_gt h]
    · have:W.heap.size=i:=by simp at h2;omega
      simp [this]
theorem aliveOf_calls (A:Option Addr) (n:Nat) (l:List Int) (a b c d:Int) (w:World) (hl:l.length≤4) (h0:0<l.length) (hd:l++List.replicate (4-l.length) 0=[a,b,c,d]) (hr:Kd.C (Kd.int .i64) w A l.length l):
 Calls Try.prog 13 #[.slice A l.length n] w fun e w' => e = .returned (.agg #[.int .i64 a,.int .i64 b,.int .i64 c,.int .i64 d]) ∧ Below w.heap.size w w' := by
  have hR:=Kd.reads_of_C (d:=(0:Int)) hr
  obtain ⟨ad,rfl,hcell⟩:=hR.2.2 h0
  have hB:Below w.heap.size w ((w.alloc (.cells #[.int .i64 0,.int .i64 0,.int .i64 0,.int .i64 0] 33)).alloc (.cells #[.int .i64 0,.int .i64 0,.int .i64 0,.int .i64 0] 33)):=below_alloc (below_alloc (Below.refl _ _) _) _
  have hm:Nat.min l.length 4=l.length:=Nat.min_eq_left hl
  have hcp:=run_copy_row (P:=Try.prog) ((w.alloc (.cells #[.int .i64 0,.int .i64 0,.int .i64 0,.int .i64 0] 33)).alloc (.cells #[.int .i64 0,.int .i64 0,.int .i64 0,.int .i64 0] 33)) 22 22 3 3 (w.heap.size+1) 0 4 4 ad l.length n #[.int .i64 0,.int .i64 0,.int .i64 0,.int .i64 0] 33 (l.map (Value.int .i64)) (by kernel_rfl) (by kernel_rfl) (by have h_:=heap_alloc_new (w.alloc (.cells #[.int .i64 0,.int .i64 0,.int .i64 0,.int .i64 0] 33)) (.cells #[.int .i64 0,.int .i64 0,.int .i64 0,.int .i64 0] 33);rw[show (w.alloc (.cells #[.int .i64 0,.int .i64 0,.int .i64 0,.int .i64 0] 33)).heap.size=w.heap.size+1 from World.size_alloc _ _] at h_;exact h_) (by simp [hm])
    (by intro j v hj
        obtain ⟨hj1,rfl⟩:=List.getElem?_eq_some_iff.1 hj
        have hj2:j<l.length:=by simpa using hj1
        refine pw_cell_below hB ?_
        rw[hcell j hj2]
        simp [List.getD_eq_getElem?_getD,hj2])
    (by simp;omega) (by intro v hv;obtain ⟨x,_,rfl⟩:=List.mem_map.1 hv;rfl)
  have he:((#[Value.int .i64 0,.int .i64 0,.int .i64 0,.int .i64 0]:Array Value).toList.take 0++l.map (Value.int .i64)++(#[Value.int .i64 0,.int .i64 0,.int .i64 0,.int .i64 0]:Array Value).toList.drop (0+(l.map (Value.int .i64)).length))=[.int .i64 a,.int .i64 b,.int .i64 c,.int .i64 d]:=by
    have h2:=congrArg (List.map (Value.int .i64)) hd
    simp only [List.map_append,List.map_replicate,List.map_cons,List.map_nil] at h2
    rw[← h2]
    simp only [List.take_zero,List.nil_append,List.length_map,Nat.zero_add]
    congr 1
    match hq:l.length,hl with
    | 1,_ => rfl
    | 2,_ => rfl
    | 3,_ => rfl
    | 4,_ => rfl
    | 0,_ => exact absurd hq (by omega)
  rw[he] at hcp
  have hrow:=row_alloc (w.alloc (.cells #[.int .i64 0,.int .i64 0,.int .i64 0,.int .i64 0] 33)) #[.int .i64 0,.int .i64 0,.int .i64 0,.int .i64 0] [.int .i64 a,.int .i64 b,.int .i64 c,.int .i64 d].toArray 33 (0,0)
  rw[show (w.alloc (.cells #[.int .i64 0,.int .i64 0,.int .i64 0,.int .i64 0] 33)).heap.size=w.heap.size+1 from World.size_alloc _ _] at hrow
  rw[hrow] at hcp
  simp only [List.length_map] at hcp
  clear hrow he hB hm hr hR hcell
  go_enter Try.func13,Try.ntmps13
  go_wp2
  refine bodyPost_ret (v:=.agg #[.int .i64 a,.int .i64 b,.int .i64 c,.int .i64 d]) (by simp [results,Try.results13,go_sem,u33]) rfl ⟨rfl,?_⟩
  exact below_alloc (below_alloc (Below.refl _ _) _) _
theorem row33:33<Try.prog.types.size:=by
  have h:decide (33<Try.prog.types.size)=true:=by kernel_rfl
  exact of_decide_eq_true h
theorem law33:Go.Maps.Keyed Try.prog 33:=Go.Maps.Keyed.of_law (Go.deep_law_laid (by kernel_rfl) (m:=3) (by decide) row33 (by kernel_rfl) (by kernel_rfl))
theorem u30:Try.prog.underlying 30=some (.map 33 3):=by kernel_rfl
theorem u3:Try.prog.underlying 3=some (.int .i64):=by kernel_rfl
theorem zero3 (w:World):(zeroValue 3).run Try.prog w=.ok (.int .i64 0) w:=by kernel_rfl
theorem kt33:Try.prog.keyType 33=true:=by kernel_rfl
theorem c33:Try.prog.cellsOf 33=4:=by kernel_rfl
theorem c3:Try.prog.cellsOf 3=1:=by kernel_rfl
theorem wf8 {a:Nat} (h:a≤8):(Lit.int .i64 (a:Int)).wf=true:=WalkArith.wf_i64 (by omega)
theorem kl3 (d:Nat) {n:Int} (h:(Lit.int .i64 n).wf=true):Try.prog.keyLits (d+1) 3 [.int .i64 n]=some [.int .i64 n]:=by
  unfold Program.keyLits
  rw[u3]
  simp [h]
theorem key33 (a b c d:Nat) (ha:a≤8) (hb:b≤8) (hc:c≤8) (hd:d≤8):Go.keyOf Try.prog 33 (arr a b c d)=some (.string (keyBytes [.int .i64 a,.int .i64 b,.int .i64 c,.int .i64 d])):=by
  have h1:=kl3 64 (wf8 ha);have h2:=kl3 64 (wf8 hb);have h3:=kl3 64 (wf8 hc);have h4:=kl3 64 (wf8 hd)
  have hf:Value.formed Try.prog 33 (arr a b c d)=true:=by
    unfold arr
    simp [Value.formed]
    exact c33.symm
  have hl:Try.prog.keyLits 66 33 (arr a b c d).cells.toList=some [.int .i64 a,.int .i64 b,.int .i64 c,.int .i64 d]:=by
    show Try.prog.keyLits (65+1) 33 [.int .i64 (a:Int),.int .i64 (b:Int),.int .i64 (c:Int),.int .i64 (d:Int)]=_
    unfold Program.keyLits
    rw[u33]
    simp only [c33,c3]
    rw[show List.range 4=[0,1,2,3] from rfl]
    simp [List.mapM_cons,h1,h2,h3,h4]
  unfold Go.keyOf
  simp [u33,kt33,hf,hl]
abbrev St:=Nat×Nat×Nat×Nat
def ok8 (s:St):Prop:=s.1≤8∧s.2.1≤8∧s.2.2.1≤8∧s.2.2.2≤8
def aS (s:St):Value:=arr s.1 s.2.1 s.2.2.1 s.2.2.2
def tS (s:St):Nat:=Dl.Td s.1 s.2.1 s.2.2.1 s.2.2.2
def klit (s:St):Lit:=.string (keyBytes [.int .i64 s.1,.int .i64 s.2.1,.int .i64 s.2.2.1,.int .i64 s.2.2.2])
theorem klit_eq {s:St} (h:ok8 s):Go.keyOf Try.prog 33 (aS s)=some (klit s):=key33 s.1 s.2.1 s.2.2.1 s.2.2.2 h.1 h.2.1 h.2.2.1 h.2.2.2
theorem klit_str {s:St} (h:ok8 s):WideAt.IsKeyLit (klit s):=trivial
theorem aS_inj {s t:St} (h:aS s=aS t):s=t:=by
  obtain ⟨a,b,c,d⟩:=s;obtain ⟨a',b',c',d'⟩:=t
  simp only [aS,arr,Value.agg.injEq,Array.mk.injEq,List.cons.injEq,Value.int.injEq,true_and,and_true] at h
  simp only [Prod.mk.injEq]
  omega
theorem klit_inj {s t:St} (hs:ok8 s) (ht:ok8 t) (h:klit s=klit t):s=t:=aS_inj (law33.inj (klit_eq hs) (by rw[h];exact klit_eq ht))
section
variable {H:Type}
def dS (s:St):DataW H:=.lit (.int .i64 (tS s:Int))
def mapOf (L:List St):DataW H:=L.foldl (fun m s=>m.put (klit s) (dS s)) (.map [])
theorem has_fold {s:St} (hs:ok8 s):∀ (L:List St) (m:DataW H),Go.Maps.IsMap m→(∀ x∈L,ok8 x)→Go.Maps.has (L.foldl (fun m s=>m.put (klit s) (dS s)) m) (klit s)=(decide (s∈L)||Go.Maps.has m (klit s))
 | [],m,_,_=>by simp
 | x::L,m,hm,hL=>by
  have hx:ok8 x:=hL x (by simp)
  rw[List.foldl_cons,has_fold hs L _ (hm.put _ _) (fun y hy=>hL y (by simp [hy]))]
  by_cases e:s=x
  · subst e
    rw[Go.Maps.has_put_same hm (klit_str hs)]
    simp
  · rw[Go.Maps.has_put_other (fun h=>e (klit_inj hs hx h))]
    simp [e]
theorem at_fold {s:St} (hs:ok8 s) (z:DataW H):∀ (L:List St) (m:DataW H),Go.Maps.IsMap m→(∀ x∈L,ok8 x)→s∈L∨m.atKey (klit s) z=dS s→(L.foldl (fun m s=>m.put (klit s) (dS s)) m).atKey (klit s) z=dS s
 | [],m,_,_,h=>by rcases h with h | h; cases h; exact h
 | x::L,m,hm,hL,h=>by
  have hx:ok8 x:=hL x (by simp)
  rw[List.foldl_cons]
  refine at_fold hs z L _ (hm.put _ _) (fun y hy=>hL y (by simp [hy])) ?_
  by_cases e:s=x
  · subst e
    exact .inr (Go.Maps.atKey_put_same hm (klit_str hs) _ _)
  · rcases h with h | h
    · rcases List.mem_cons.1 h with h | h
      · exact absurd h e
      · exact .inl h
    · exact .inr ((Go.Maps.atKey_put_other (fun h=>e (klit_inj hs hx h)) _ _).trans h)
theorem has_map {s:St} (hs:ok8 s) {L:List St} (hL:∀ x∈L,ok8 x):Go.Maps.has (mapOf (H:=H) L) (klit s)=decide (s∈L):=by
  unfold mapOf
  rw[has_fold hs L _ Go.Maps.isMap_empty hL]
  simp [Go.Maps.has]
theorem at_map {s:St} (hs:ok8 s) {L:List St} (hL:∀ x∈L,ok8 x) (h:s∈L) (z:DataW H):(mapOf L).atKey (klit s) z=dS s:=at_fold hs z L _ Go.Maps.isMap_empty hL (.inl h)
end
/-! how many there are -/
theorem short:∀ (N:Nat) (L:List Nat),L.Nodup→(∀ x∈L,x<N)→L.length≤N
 | 0,L,_,h=>by
  cases L with
  | nil=>simp
  | cons x L=>exact absurd (h x (by simp)) (by omega)
 | N+1,L,hn,h=>by
  have h2:=short N (L.erase N) (hn.erase N) (fun x hx=>by
    have h3:=(hn.mem_erase_iff).1 hx
    have h4:=h x h3.2
    have h5:=h3.1
    omega)
  by_cases hm:N∈L
  · rw[List.length_erase_of_mem hm] at h2
    omega
  · rw[List.erase_of_not_mem hm] at h2
    omega
def code (s:St):Nat:=((s.1*9+s.2.1)*9+s.2.2.1)*9+s.2.2.2
theorem few {L:List St} (hn:L.Nodup) (hL:∀ x∈L,ok8 x):L.length≤6561:=by
  have h:=short 6561 (L.map code) (by
    refine List.Pairwise.map code (fun a b hab=>hab) ?_
    refine hn.imp_of_mem ?_
    intro a b ha hb hab hc
    apply hab
    have h1:=hL a ha;have h2:=hL b hb
    obtain ⟨a1,a2,a3,a4⟩:=a;obtain ⟨b1,b2,b3,b4⟩:=b
    simp only [code,ok8,Prod.mk.injEq] at *
    omega) (by
    intro x hx
    obtain ⟨s,hs,rfl⟩:=List.mem_map.1 hx
    have h1:=hL s hs
    unfold code ok8 at *
    omega)
  simpa using h
def cA (s:St):Obj:=.cells #[.int .i64 (s.1:Int),.int .i64 (s.2.1:Int),.int .i64 (s.2.2.1:Int),.int .i64 (s.2.2.2:Int)] 33 (0,0)
def Inv (Z:St→Prop) (w:World) (M:Nat) (L:List St):Prop:=(∀ x∈L,ok8 x∧Z x)∧L.Nodup∧w.ownsMap (H:=Unit) Try.prog 33 (plainElem Try.prog 3) M L.length (mapOf L)
theorem Inv.same {Z:St→Prop} {w w':World} {M:Nat} {L:List St} (h:Inv Z w M L) (e:w'.heap[M]? = w.heap[M]?):Inv Z w' M L:=by
  obtain ⟨h1,h2,es,clock,hb,r⟩:=h
  exact ⟨h1,h2,es,clock,e.trans hb,r⟩
theorem Inv.lt {Z:St→Prop} {w:World} {M:Nat} {L:List St} (h:Inv Z w M L):M<w.heap.size:=h.2.2.lt
theorem Inv.below {Z:St→Prop} {w w':World} {M:Nat} {L:List St} (h:Inv Z w M L) (hb:Below w.heap.size w w'):Inv Z w' M L:=h.same (hb.block _ h.lt)
theorem Inv.far {Z:St→Prop} {w:World} {M g:Nat} {L:List St} {cs:Array Value} {t:TypeId} (h:Inv Z w M L) (hg:w.heap[g]? = some (.cells cs t (0,0))):g≠M:=by
  rintro rfl
  obtain ⟨_,_,es,clock,hb,_⟩:=h
  rw[hb] at hg
  cases hg
structure Env (Z:St→Prop) (B M gA gT gD:Nat) (s:St) (m:Nat) (W:World):Prop where
  a:W.heap[gA]? = some (cA s)
  t:W.heap[gT]? = some (.cells #[.int .i64 (m:Int)] 3 (0,0))
  d:W.heap[gD]? = some (.cells #[.map (some M)] 30 (0,0))
  m:∃ L,Inv Z W M L
  b:B≤gT
theorem Env.below {Z:St→Prop} {B M gA gT gD:Nat} {s:St} {m:Nat} {W W':World} (h:Env Z B M gA gT gD s m W) (hb:Below W.heap.size W W'):Env Z B M gA gT gD s m W':=
  ⟨blk_below h.a hb,blk_below h.t hb,blk_below h.d hb,h.m.imp fun L hL=>hL.below hb,h.b⟩
theorem Env.drew {Z:St→Prop} {B M gA gT gD:Nat} {s:St} {m:Nat} {W:World} (h:Env Z B M gA gT gD s m W):Env Z B M gA gT gD s m W.drew:=⟨h.a,h.t,h.d,h.m.imp fun L hL=>hL.same rfl,h.b⟩
theorem Env.kept {Z:St→Prop} {B M gA gT gD:Nat} {s:St} {m:Nat} {W W':World} (h:Env Z B M gA gT gD s m W) (hk:Kept W W' (fun q=>q=M)) (hm:∃ L,Inv Z W' M L):Env Z B M gA gT gD s m W':=by
  obtain ⟨L,hL⟩:=h.m
  exact ⟨blk_kept h.a hk (hL.far h.a),blk_kept h.t hk (hL.far h.t),blk_kept h.d hk (hL.far h.d),hm,h.b⟩
theorem four {g:Nat} {s:St} {W:World} (h:W.heap[g]? = some (cA s)):W.cell? ⟨g,0,none⟩=some (.int .i64 (s.1:Int))∧W.cell? ⟨g,1,none⟩=some (.int .i64 (s.2.1:Int))∧W.cell? ⟨g,2,none⟩=some (.int .i64 (s.2.2.1:Int))∧W.cell? ⟨g,3,none⟩=some (.int .i64 (s.2.2.2:Int)):=
  ⟨(blk_cell h 0).trans rfl,(blk_cell h 1).trans rfl,(blk_cell h 2).trans rfl,(blk_cell h 3).trans rfl⟩
def low (s p:St):St:=(s.1-p.1+p.2.1,s.2.1-p.2.1+p.2.2.1,s.2.2.1-p.2.2.1+p.2.2.2,s.2.2.2-p.2.2.2)
def rest (s p:St):St:=(s.1-p.1,s.2.1-p.2.1,s.2.2.1-p.2.2.1,s.2.2.2-p.2.2.2)
def liv (s:St):Bool:=Dl.al s.1 s.2.1 s.2.2.1 s.2.2.2
def le4 (p s:St):Prop:=p.1≤s.1∧p.2.1≤s.2.1∧p.2.2.1≤s.2.2.1∧p.2.2.2≤s.2.2.2
theorem less_S {s p:St} (hs:ok8 s) (hp:le4 p s) (w:World):Calls Try.prog 24 #[aS s,aS p] w fun e w'=>e=.returned (aS (rest s p))∧Below w.heap.size w w':=
  less_calls s.1 s.2.1 s.2.2.1 s.2.2.2 p.1 p.2.1 p.2.2.1 p.2.2.2 hs.1 hs.2.1 hs.2.2.1 hs.2.2.2 hp.1 hp.2.1 hp.2.2.1 hp.2.2.2 w
theorem behind_S {s p:St} (hs:ok8 s) (hp:le4 p s) (w:World):Calls Try.prog 25 #[aS s,aS p] w fun e w'=>e=.returned (.tuple #[aS (low s p),.bool (liv (low s p))])∧Below w.heap.size w w':=by
  refine (behind_calls s.1 s.2.1 s.2.2.1 s.2.2.2 p.1 p.2.1 p.2.2.1 p.2.2.2 hs.1 hs.2.1 hs.2.2.1 hs.2.2.2 hp.1 hp.2.1 hp.2.2.1 hp.2.2.2 w).mono ?_
  rintro e w' ⟨rfl,hb⟩
  refine ⟨?_,hb⟩
  have h:decide (1≤(s.1-p.1+p.2.1)+(s.2.1-p.2.1+p.2.2.1)+(s.2.2.1-p.2.2.1+p.2.2.2)+(s.2.2.2-p.2.2.2))=liv (low s p):=by
    refine Bool.eq_iff_iff.mpr ?_
    rw[decide_eq_true_eq]
    show _↔Nat.ble 1 _=true
    rw[Nat.ble_eq]
    exact Iff.rfl
  rw[h]
  rfl
theorem rest_le {s p:St}:le4 (rest s p) s:=⟨Nat.sub_le _ _,Nat.sub_le _ _,Nat.sub_le _ _,Nat.sub_le _ _⟩
theorem eqi (x y:Int) (W:World):(Op.equalIn 9999 3 (.int .i64 x) (.int .i64 y)).run Try.prog W=.ok (x==y) W:=by
  unfold Op.equalIn
  simp [go_sem,u3]
theorem eq33 (x1 x2 x3 x4 a1 a2 a3 a4:Int) (W:World):(Op.equalIn 10000 33 (.agg #[.int .i64 x1,.int .i64 x2,.int .i64 x3,.int .i64 x4]) (.agg #[.int .i64 a1,.int .i64 a2,.int .i64 a3,.int .i64 a4])).run Try.prog W=.ok (x1==a1&&(x2==a2&&(x3==a3&&x4==a4))) W:=by
  unfold Op.equalIn
  simp [go_sem,u33,z3,Std.Legacy.Range.forIn_eq_forIn_range',List.range',eqi]
  by_cases h1:x1=a1 <;> by_cases h2:x2=a2 <;> by_cases h3:x3=a3 <;> by_cases h4:x4=a4 <;> simp [h1,h2,h3,h4]
attribute [local go_sem] eq33
def eqS (x y:St):Bool:=Nat.beq x.1 y.1&&Nat.beq x.2.1 y.2.1&&Nat.beq x.2.2.1 y.2.2.1&&Nat.beq x.2.2.2 y.2.2.2
theorem eqS_int (x y:St):((x.1:Int)==(y.1:Int)&&((x.2.1:Int)==(y.2.1:Int)&&((x.2.2.1:Int)==(y.2.2.1:Int)&&(x.2.2.2:Int)==(y.2.2.2:Int))))=eqS x y:=by
  have h:∀ a b:Nat,((a:Int)==(b:Int))=Nat.beq a b:=fun a b=>by
    refine Bool.eq_iff_iff.mpr ?_
    rw[beq_iff_eq,Nat.beq_eq]
    omega
  unfold eqS
  rw[h,h,h,h,Bool.and_assoc,Bool.and_assoc]
theorem Gd_eq {s p:St} (hp:le4 p s) (m:Nat):Dl.Gd s.1 s.2.1 s.2.2.1 s.2.2.2 p.1 p.2.1 p.2.2.1 p.2.2.2 m=bif liv (low s (rest s p))&&liv (low s p) then (bif eqS (low s (rest s p)) s then Dl.mx m (Nat.succ (tS (low s p))) else bif eqS (low s p) s then Dl.mx m (Nat.succ (tS (low s (rest s p)))) else Dl.mx m (Dl.mn (Dl.mx (tS (low s (rest s p))) (Nat.succ (tS (low s p)))) (Dl.mx (tS (low s p)) (Nat.succ (tS (low s (rest s p))))))) else m:=by
  obtain ⟨a,b,c,d⟩:=s;obtain ⟨w,x,y,z⟩:=p
  obtain ⟨h1,h2,h3,h4⟩:=hp
  simp only at h1 h2 h3 h4
  have e:low (a,b,c,d) (rest (a,b,c,d) (w,x,y,z))=(w+(b-x),x+(c-y),y+(d-z),z):=by
    simp only [low,rest,Prod.mk.injEq]
    omega
  rw[e]
  rfl
theorem Gc_eq {s p:St} (hp:le4 p s):Dl.Gc s.1 s.2.1 s.2.2.1 s.2.2.2 p.1 p.2.1 p.2.2.1 p.2.2.2=bif liv (low s (rest s p))&&liv (low s p) then (bif eqS (low s (rest s p)) s then Dl.lessd (Dl.wtd s.1 s.2.1 s.2.2.1 s.2.2.2) (low s p).1 (low s p).2.1 (low s p).2.2.1 (low s p).2.2.2 else bif eqS (low s p) s then Dl.lessd (Dl.wtd s.1 s.2.1 s.2.2.1 s.2.2.2) (low s (rest s p)).1 (low s (rest s p)).2.1 (low s (rest s p)).2.2.1 (low s (rest s p)).2.2.2 else Dl.lessd (Dl.wtd s.1 s.2.1 s.2.2.1 s.2.2.2) (low s p).1 (low s p).2.1 (low s p).2.2.1 (low s p).2.2.2&&Dl.lessd (Dl.wtd s.1 s.2.1 s.2.2.1 s.2.2.2) (low s (rest s p)).1 (low s (rest s p)).2.1 (low s (rest s p)).2.2.1 (low s (rest s p)).2.2.2) else true:=by
  obtain ⟨a,b,c,d⟩:=s;obtain ⟨w,x,y,z⟩:=p
  obtain ⟨h1,h2,h3,h4⟩:=hp
  simp only at h1 h2 h3 h4
  have e:low (a,b,c,d) (rest (a,b,c,d) (w,x,y,z))=(w+(b-x),x+(c-y),y+(d-z),z):=by
    simp only [low,rest,Prod.mk.injEq]
    omega
  rw[e]
  rfl
theorem lessd_ok {k:Nat} {s:St} (h:Dl.lessd k s.1 s.2.1 s.2.2.1 s.2.2.2=true):ok8 s:=by
  unfold Dl.lessd Dl.okd at h
  simp only [Bool.and_eq_true,Nat.ble_eq,Nat.add_eq] at h
  unfold ok8
  omega
theorem tS_le (s:St):tS s≤15:=by
  unfold tS Dl.Td
  exact Nat.and_le_right
theorem mx_int {m t:Nat} (ht:t≤15):(if (m:Int)<wrap64 (1+(t:Int)) then wrap64 (1+(t:Int)) else (m:Int))=(Dl.mx m (Nat.succ t):Nat):=by
  have h:wrap64 (1+(t:Int))=((Nat.succ t:Nat):Int):=by unfold wrap64;omega
  rw[h]
  unfold Dl.mx
  by_cases hc:m≤Nat.succ t
  · rw[Nat.ble_eq.mpr hc]
    show _=((Nat.succ t:Nat):Int)
    split <;> omega
  · have h2:Nat.ble m (Nat.succ t)=false:=by
      rw[← Bool.not_eq_true,Nat.ble_eq]
      exact hc
    rw[h2]
    show _=((m:Nat):Int)
    split <;> omega
theorem fin {Z:St→Prop} {B M gA gT gD:Nat} {s:St} {m m':Nat} {W w9:World} (E:Env Z B M gA gT gD s m w9) (hB:Below B W w9) (hk:Kept W w9 (fun q=>q=gT∨q=M)) (hf:gT≠M) {v:Int} (hv:v=(m':Int)):Below B W (w9.setCell ⟨gT,0,none⟩ (.int .i64 v))∧Kept W (w9.setCell ⟨gT,0,none⟩ (.int .i64 v)) (fun q=>q=gT∨q=M)∧Env Z B M gA gT gD s m' (w9.setCell ⟨gT,0,none⟩ (.int .i64 v)):=by
  subst hv
  refine ⟨hB.setCell E.b _,hk.setCell (p:=⟨gT,0,none⟩) (.inl (.inl rfl)) _,?_,?_,?_,?_,E.b⟩
  · exact blk_far E.a (blk_ne E.a E.t (by decide)) _
  · exact (blk_set E.t 0 _).trans rfl
  · exact blk_far E.d (blk_ne E.d E.t (by decide)) _
  · exact E.m.imp fun L hL=>hL.same (Below.heap_setCell _ _ _ _ (Ne.symm hf))
theorem mn_nat (a b:Nat):(if b<a then (b:Int) else (a:Int))=(Dl.mn a b:Nat):=by
  unfold Dl.mn
  by_cases hc:a≤b
  · rw[Nat.ble_eq.mpr hc,if_neg (by omega)]
    rfl
  · have h2:Nat.ble a b=false:=by
      rw[← Bool.not_eq_true,Nat.ble_eq]
      exact hc
    rw[h2,if_pos (by omega)]
    rfl
theorem mx_nat' (m t:Nat):(if m<t then (t:Int) else (m:Int))=(Dl.mx m t:Nat):=by
  unfold Dl.mx
  by_cases hc:m≤t
  · rw[Nat.ble_eq.mpr hc]
    show _=((t:Nat):Int)
    split <;> omega
  · have h2:Nat.ble m t=false:=by
      rw[← Bool.not_eq_true,Nat.ble_eq]
      exact hc
    rw[h2,if_neg (by omega)]
    rfl
theorem mn_int (a b:Nat):(if (b:Int)<(a:Int) then (b:Int) else (a:Int))=(Dl.mn a b:Nat):=by
  simp only [Int.ofNat_lt]
  exact mn_nat a b
theorem mx_nat (m t:Nat):(if (m:Int)<(t:Int) then (t:Int) else (m:Int))=(Dl.mx m t:Nat):=by
  simp only [Int.ofNat_lt]
  exact mx_nat' m t
end Go.Proofs.Ytpknkpbellchgaa.PFnExactDuelWorst
