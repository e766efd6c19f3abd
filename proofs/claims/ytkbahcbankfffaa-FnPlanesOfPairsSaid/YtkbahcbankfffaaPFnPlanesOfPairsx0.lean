import Derived.Test.YtkbahcbankfffaaProg
import Derived.Below
import Derived.Deep.Draws
import Derived.Deep.AppendLies
import Derived.Maps.AppendAt
import Derived.OwnWalk
import Derived.Laws.BytesArg
import Derived.Laws.MakeOwn
import Derived.Laws.OwnMore
import Derived.Deep.OwnRows
import Derived.Tactics
import Derived.Lib.ConvBytes
import Derived.Laws.Slices
import Derived.WalkKit
import Derived.KernelRfl
import Derived.RowKit3
import Derived.Deep.LoopGhost
import Derived.Deep.QuietTactic
import Derived.BigQuiet
import Derived.WideLaws
import Derived.Deep.DeepCutAuto
import Derived.Deep.CutBlock
import Derived.Deep.RegionHeld3
import Derived.Laws.Rows
import Derived.Lib.AppendStr
import Derived.ArgAppend
import Derived.Laws.IdiomCopy
import Derived.OrdersHeld
import Derived.Laws.BitsLemmas
import Derived.RowKit
import Derived.Test.YtkbahcbankfffaaWWords
import Derived.Test.YtkbahcbankfffaaWLast
import Derived.Test.YtkbahcbankfffaaWTab
import Derived.Test.YtkbahcbankfffaaWQPut
import Derived.Test.YtkbahcbankfffaaWApart
import Derived.Test.YtkbahcbankfffaaWArr
import Derived.Test.YtkbahcbankfffaaWZeros
import Derived.Test.YtkbahcbankfffaaWFoot
import Derived.Test.YtkbahcbankfffaaWKept
import Derived.Test.YtkbahcbankfffaaWShare
import Derived.Test.YtkbahcbankfffaaWN
import Derived.Test.YtkbahcbankfffaaWNEv
import Derived.Test.YtkbahcbankfffaaWMore
import Derived.Test.YtkbahcbankfffaaWFootNe
import Derived.Test.YtkbahcbankfffaaWAt
import Derived.Test.YtkbahcbankfffaaWRepsOne
namespace Go.Proofs.Ytkbahcbankfffaa.PFnPlanesOfPairs
open Go.RowKit Go.Proofs.YtkbahcbankfffaaW.PrintWords Go.Proofs.YtkbahcbankfffaaW.PrintLast Go.Proofs.YtkbahcbankfffaaW.PrintMore
attribute [local go_sem] max2_int min2_int max_two min_two max_three min_three max_four min_four
set_option linter.unusedVariables false
set_option linter.unusedSimpArgs false
def errW:Option Int→Value
  | none => .nilIface
  | some c => .iface 0 (.int .i64 c)
theorem errW_none:errW none = .nilIface:=rfl
theorem errW_some (c:Int):errW (some c) = .iface 0 (.int .i64 c):=rfl
theorem info3:(Try.prog.info? 3).map (fun i=>(i.zero,i.size,i.bytes))=some (some (.int .i64 0),1,8):=by kernel_rfl
theorem info24:(Try.prog.info? 24).map (fun i=>(i.zero,i.size,i.bytes))=some (some (.slice none 0 0),1,24):=by kernel_rfl
-- the values' own types
def rd_L2 (xs:List (List Int)) (i:Int):(List Int):=xs.getD i.toNat ([]:List Int)
theorem at_L2 {w:World} {A:Option Addr} {n:Nat} {xs:List (List Int)} (h:Kd.C (Kd.slice 5 (Kd.int .u8)) w A n xs) (i:Int) (h0:0≤i) (h1:i<n):∃ ad J c0,A=some ad∧w.cell? (ad.add i.toNat)=some (.slice J (rd_L2 xs i).length c0)∧(rd_L2 xs i).length≤c0∧(Kd.int .u8).C w J (rd_L2 xs i).length (rd_L2 xs i):=by
  obtain ⟨ad,c,e,_,hK,hc0⟩:=Kd.C_get h ([]:List Int) i h0 h1;have hc:∀ j u,c[j]? = some u→w.cell? (ad.add (i.toNat*1+j))=some u:=hc0;obtain ⟨J,c0,rfl,l0,g0⟩:=hK;exact ⟨ad,J,c0,e,by have hq:=hc 0 _ rfl;rwa [Nat.mul_one,Nat.add_zero] at hq,l0,g0⟩
def rd_L3 (xs:List (List Int)) (i:Int):(List Int):=xs.getD i.toNat ([]:List Int)
theorem at_L3 {w:World} {A:Option Addr} {n:Nat} {xs:List (List Int)} (h:Kd.C (Kd.slice 3 (Kd.int .i64)) w A n xs) (i:Int) (h0:0≤i) (h1:i<n):∃ ad J c0,A=some ad∧w.cell? (ad.add i.toNat)=some (.slice J (rd_L3 xs i).length c0)∧(rd_L3 xs i).length≤c0∧(Kd.int .i64).C w J (rd_L3 xs i).length (rd_L3 xs i):=by
  obtain ⟨ad,c,e,_,hK,hc0⟩:=Kd.C_get h ([]:List Int) i h0 h1;have hc:∀ j u,c[j]? = some u→w.cell? (ad.add (i.toNat*1+j))=some u:=hc0;obtain ⟨J,c0,rfl,l0,g0⟩:=hK;exact ⟨ad,J,c0,e,by have hq:=hc 0 _ rfl;rwa [Nat.mul_one,Nat.add_zero] at hq,l0,g0⟩
def rd_L4 (xs:List (List (List Int))) (i:Int):(List (List Int)):=xs.getD i.toNat ([]:List (List Int))
theorem at_L4 {w:World} {A:Option Addr} {n:Nat} {xs:List (List (List Int))} (h:Kd.C (Kd.slice 24 (Kd.slice 3 (Kd.int .i64))) w A n xs) (i:Int) (h0:0≤i) (h1:i<n):∃ ad J c0,A=some ad∧w.cell? (ad.add i.toNat)=some (.slice J (rd_L4 xs i).length c0)∧(rd_L4 xs i).length≤c0∧(Kd.slice 3 (Kd.int .i64)).C w J (rd_L4 xs i).length (rd_L4 xs i):=by
  obtain ⟨ad,c,e,_,hK,hc0⟩:=Kd.C_get h ([]:List (List Int)) i h0 h1;have hc:∀ j u,c[j]? = some u→w.cell? (ad.add (i.toNat*1+j))=some u:=hc0;obtain ⟨J,c0,rfl,l0,g0⟩:=hK;exact ⟨ad,J,c0,e,by have hq:=hc 0 _ rfl;rwa [Nat.mul_one,Nat.add_zero] at hq,l0,g0⟩
/-! #### struct type 52 -/
structure S52 where
  f0:(List (List Int))
  f1:(List Int)
def z52:S52:=⟨([]:List (List Int)),([]:List Int)⟩
def k52:Kd S52:=Kd.iso (Kd.pair (Kd.slice 24 (Kd.slice 3 (Kd.int .i64))) (Kd.slice 3 (Kd.int .i64))) (fun x:S52=>(x.f0,x.f1))
theorem k52_open {w:World} {x:S52} {cs:List Value} (h:k52.K w x cs):∃ J c0 A1 c1,cs=[.slice J x.f0.length c0,.slice A1 x.f1.length c1]∧x.f0.length≤c0∧(Kd.slice 3 (Kd.int .i64)).C w J x.f0.length x.f0∧x.f1.length≤c1∧(Kd.int .i64).C w A1 x.f1.length x.f1:=by
  obtain ⟨_,_,rfl,⟨J,c0,rfl,l0,g0⟩,⟨A1,c1,rfl,l1,g1⟩⟩:=h;exact ⟨J,c0,A1,c1,rfl,l0,g0,l1,g1⟩
theorem k52_openM {w:World} {base:Nat} {ok:Nat→Prop} {x:S52} {cs:List Value} (h:k52.M w base ok x cs):∃ v0 v1,cs=[v0,v1]∧(Kd.slice 3 (Kd.int .i64)).R 24 w base ok v0 x.f0∧(Kd.int .i64).R 3 w base ok v1 x.f1:=by
  obtain ⟨_,_,rfl,⟨v0,rfl,g0⟩,⟨v1,rfl,g1⟩⟩:=h;exact ⟨v0,v1,rfl,g0,g1⟩
theorem k52_mk (w:World) (x:S52) {J:Option Addr} {c0:Nat} (l0:x.f0.length≤c0) (g0:(Kd.slice 3 (Kd.int .i64)).C w J x.f0.length x.f0) {A1:Option Addr} {c1:Nat} (l1:x.f1.length≤c1) (g1:(Kd.int .i64).C w A1 x.f1.length x.f1):k52.K w x [.slice J x.f0.length c0,.slice A1 x.f1.length c1]:=⟨[.slice J x.f0.length c0],[.slice A1 x.f1.length c1],rfl,⟨J,c0,rfl,l0,g0⟩,⟨A1,c1,rfl,l1,g1⟩⟩
theorem k52_mkM (w:World) (base:Nat) (ok:Nat→Prop) (x:S52) {v0:Value} (g0:(Kd.slice 3 (Kd.int .i64)).R 24 w base ok v0 x.f0) {v1:Value} (g1:(Kd.int .i64).R 3 w base ok v1 x.f1):k52.M w base ok x [v0,v1]:=⟨[v0],[v1],rfl,⟨v0,rfl,g0⟩,⟨v1,rfl,g1⟩⟩
theorem k52_openF {W:World} {ok:Nat→Prop} {x:S52} {cs:List Value} (h:Kd.FK k52 W ok x cs):∃ J c0 A1 c1,cs=[.slice J x.f0.length c0,.slice A1 x.f1.length c1]∧x.f0.length≤c0∧Kd.F (Kd.slice 3 (Kd.int .i64)) W ok J x.f0.length x.f0∧x.f1.length≤c1∧Kd.F (Kd.int .i64) W ok A1 x.f1.length x.f1:=by
  obtain ⟨J,c0,A1,c1,rfl,l0,_,l1,_⟩:=k52_open (Kd.FK_now h);exact ⟨J,c0,A1,c1,rfl,l0,(fun W' hW=>by obtain ⟨U,Y,X,Z,he,aa,g0_,ab,g1_⟩:=k52_open (h W' hW);injection (Option.some.inj (show some (Value.slice J x.f0.length c0)=some (Value.slice U x.f0.length Y) from congrArg (fun l=>l[0]?) he)) with ha_ _ _;rw[ha_];exact g0_),l1,(fun W' hW=>by obtain ⟨U,Y,X,Z,he,aa,g0_,ab,g1_⟩:=k52_open (h W' hW);injection (Option.some.inj (show some (Value.slice A1 x.f1.length c1)=some (Value.slice X x.f1.length Z) from congrArg (fun l=>l[1]?) he)) with ha_ _ _;rw[ha_];exact g1_)⟩
theorem k52_mkF (W:World) (ok:Nat→Prop) (x:S52) {J:Option Addr} {c0:Nat} (l0:x.f0.length≤c0) (g0:Kd.F (Kd.slice 3 (Kd.int .i64)) W ok J x.f0.length x.f0) {A1:Option Addr} {c1:Nat} (l1:x.f1.length≤c1) (g1:Kd.F (Kd.int .i64) W ok A1 x.f1.length x.f1):Kd.FK k52 W ok x [.slice J x.f0.length c0,.slice A1 x.f1.length c1]:=fun W2 hW=>k52_mk W2 x l0 (g0 W2 hW) l1 (g1 W2 hW)
def rd_T52 (xs:List S52) (i:Int):S52:=xs.getD i.toNat z52
theorem at_T52 {w:World} {A:Option Addr} {n:Nat} {xs:List S52} (h:Kd.C k52 w A n xs) (i:Int) (h0:0≤i) (h1:i<n):∃ ad J c0 A1 c1,A=some ad∧w.cell? (ad.add (i.toNat*2))=some (.slice J (rd_T52 xs i).f0.length c0)∧w.cell? ⟨(ad.add (i.toNat*2)).block,(ad.add (i.toNat*2)).off+1,none⟩=some (.slice A1 (rd_T52 xs i).f1.length c1)∧(rd_T52 xs i).f0.length≤c0∧(Kd.slice 3 (Kd.int .i64)).C w J (rd_T52 xs i).f0.length (rd_T52 xs i).f0∧(rd_T52 xs i).f1.length≤c1∧(Kd.int .i64).C w A1 (rd_T52 xs i).f1.length (rd_T52 xs i).f1:=by
  obtain ⟨ad,c,e,_,hK,hc0⟩:=Kd.C_get h z52 i h0 h1;have hc:∀ j u,c[j]? = some u→w.cell? (ad.add (i.toNat*2+j))=some u:=hc0;obtain ⟨J,c0,A1,c1,rfl,l0,g0,l1,g1⟩:=k52_open hK;exact ⟨ad,J,c0,A1,c1,e,hc 0 _ rfl,by rw[← add_field _ _ 1 (by omega)];exact hc 1 _ rfl,l0,g0,l1,g1⟩
end Go.Proofs.Ytkbahcbankfffaa.PFnPlanesOfPairs
