/- The duel's table: what both ways of reckoning it come to, checked at every list of lives. -/
import Derived.KernelRfl
namespace Go.Proofs.Ytpknkpbellchgaa.Dl
set_option linter.unusedVariables false
def DT:List (List Nat):=[[0x800000008700000088700000987600009887600099876500a9987650a9987762a99887730,0x70000000870000008770000098760000988750009987650099887640a9987751,0x7000000087000000876000008876000098765000988764009987753,0x7000000076000000876000008775000098764000988753,0x7000000076000000876000008765000088764,0x6000000076000000765000008764,0x6000000075000000765,0x6000000065,0x5],[0x7000000087000000876000008876000098775000998765009988763099887740,0x7000000087000000876000008876000098765000988764009987752,0x7000000076000000876000008765000088764000987753,0x7000000076000000875000008765000088753,0x6000000076000000765000008764,0x6000000065000000764,0x5000000065,0x5],[0x7000000076000000876000008775000098765000988763009887741,0x7000000076000000876000008765000088764000987752,0x6000000076000000765000008764000087753,0x6000000075000000765000008754,0x6000000065000000764,0x5000000064,0x5],[0x7000000076000000875000008765000088763000987741,0x6000000076000000765000008764000087752,0x6000000075000000764000008753,0x6000000065000000754,0x5000000064,0x5],[0x6000000075000000765000008763000087742,0x6000000065000000764000007753,0x5000000064000000753,0x5000000064,0x4],[0x6000000065000000764000007742,0x5000000064000000753,0x5000000053,0x4],[0x5000000064000000752,0x4000000053,0x4],[0x4000000052,0x3],[0x3]]
def Td (a b c d:Nat):Nat:=Nat.land (Nat.shiftRight ((DT.getD a []).getD b 0) (Nat.mul 4 (Nat.add (Nat.mul 9 c) d))) 15
def mx (m n:Nat):Nat:=bif Nat.ble m n then n else m
def mn (m n:Nat):Nat:=bif Nat.ble m n then m else n
def okd (a b c d:Nat):Bool:=Nat.ble 1 (Nat.add (Nat.add (Nat.add a b) c) d)&&Nat.ble (Nat.add (Nat.add (Nat.add a b) c) d) 8
def wtd (a b c d:Nat):Nat:=Nat.add (Nat.add (Nat.add a (Nat.mul 2 b)) (Nat.mul 3 c)) (Nat.mul 4 d)
def h0 (a w x:Nat):Nat:=Nat.add (Nat.sub a w) x
def lessd (k a b c d:Nat):Bool:=okd a b c d&&Nat.blt (wtd a b c d) k
def al (a b c d:Nat):Bool:=Nat.ble 1 (Nat.add (Nat.add (Nat.add a b) c) d)
/-- what a split forces, and whether all that it asks is known and less -/
def Fd (a b c d w x y z:Nat):Nat:=bif al w x y z&&al (Nat.sub a w) (Nat.sub b x) (Nat.sub c y) (Nat.sub d z) then (bif al (h0 a w x) (h0 b x y) (h0 c y z) (Nat.sub d z)&&al (Nat.add w (Nat.sub b x)) (Nat.add x (Nat.sub c y)) (Nat.add y (Nat.sub d z)) z then Nat.succ (mn (Td (h0 a w x) (h0 b x y) (h0 c y z) (Nat.sub d z)) (Td (Nat.add w (Nat.sub b x)) (Nat.add x (Nat.sub c y)) (Nat.add y (Nat.sub d z)) z)) else 0) else bif al b c d 0 then Nat.succ (Td b c d 0) else 0
def Fc (a b c d w x y z:Nat):Bool:=bif al w x y z&&al (Nat.sub a w) (Nat.sub b x) (Nat.sub c y) (Nat.sub d z) then (bif al (h0 a w x) (h0 b x y) (h0 c y z) (Nat.sub d z)&&al (Nat.add w (Nat.sub b x)) (Nat.add x (Nat.sub c y)) (Nat.add y (Nat.sub d z)) z then lessd (wtd a b c d) (h0 a w x) (h0 b x y) (h0 c y z) (Nat.sub d z)&&lessd (wtd a b c d) (Nat.add w (Nat.sub b x)) (Nat.add x (Nat.sub c y)) (Nat.add y (Nat.sub d z)) z else true) else bif al b c d 0 then lessd (wtd a b c d) b c d 0 else true
def rng (n:Nat):List Nat:=List.range (Nat.succ n)
def best (a b c d:Nat):Nat:=(rng a).foldl (fun m w=>(rng b).foldl (fun m x=>(rng c).foldl (fun m y=>(rng d).foldl (fun m z=>mx m (Fd a b c d w x y z)) m) m) m) 0
def fine (a b c d:Nat):Bool:=(rng a).all fun w=>(rng b).all fun x=>(rng c).all fun y=>(rng d).all fun z=>Fc a b c d w x y z
/-- the other way: one is what the experts come to who are told apart by no, two by yes -/
def Gd (a b c d w x y z m:Nat):Nat:=bif al (Nat.add w (Nat.sub b x)) (Nat.add x (Nat.sub c y)) (Nat.add y (Nat.sub d z)) z&&al (h0 a w x) (h0 b x y) (h0 c y z) (Nat.sub d z) then (bif Nat.beq (Nat.add w (Nat.sub b x)) a&&Nat.beq (Nat.add x (Nat.sub c y)) b&&Nat.beq (Nat.add y (Nat.sub d z)) c&&Nat.beq z d then mx m (Nat.succ (Td (h0 a w x) (h0 b x y) (h0 c y z) (Nat.sub d z))) else bif Nat.beq (h0 a w x) a&&Nat.beq (h0 b x y) b&&Nat.beq (h0 c y z) c&&Nat.beq (Nat.sub d z) d then mx m (Nat.succ (Td (Nat.add w (Nat.sub b x)) (Nat.add x (Nat.sub c y)) (Nat.add y (Nat.sub d z)) z)) else mx m (mn (mx (Td (Nat.add w (Nat.sub b x)) (Nat.add x (Nat.sub c y)) (Nat.add y (Nat.sub d z)) z) (Nat.succ (Td (h0 a w x) (h0 b x y) (h0 c y z) (Nat.sub d z)))) (mx (Td (h0 a w x) (h0 b x y) (h0 c y z) (Nat.sub d z)) (Nat.succ (Td (Nat.add w (Nat.sub b x)) (Nat.add x (Nat.sub c y)) (Nat.add y (Nat.sub d z)) z))))) else m
def Gc (a b c d w x y z:Nat):Bool:=bif al (Nat.add w (Nat.sub b x)) (Nat.add x (Nat.sub c y)) (Nat.add y (Nat.sub d z)) z&&al (h0 a w x) (h0 b x y) (h0 c y z) (Nat.sub d z) then (bif Nat.beq (Nat.add w (Nat.sub b x)) a&&Nat.beq (Nat.add x (Nat.sub c y)) b&&Nat.beq (Nat.add y (Nat.sub d z)) c&&Nat.beq z d then lessd (wtd a b c d) (h0 a w x) (h0 b x y) (h0 c y z) (Nat.sub d z) else bif Nat.beq (h0 a w x) a&&Nat.beq (h0 b x y) b&&Nat.beq (h0 c y z) c&&Nat.beq (Nat.sub d z) d then lessd (wtd a b c d) (Nat.add w (Nat.sub b x)) (Nat.add x (Nat.sub c y)) (Nat.add y (Nat.sub d z)) z else lessd (wtd a b c d) (h0 a w x) (h0 b x y) (h0 c y z) (Nat.sub d z)&&lessd (wtd a b c d) (Nat.add w (Nat.sub b x)) (Nat.add x (Nat.sub c y)) (Nat.add y (Nat.sub d z)) z) else true
/-- from the part w x y z on: the greatest, if all parts from here on are fine -/
def from_ (a b c d:Nat):Nat→Nat→Nat→Nat→Nat→Nat→Option Nat
 | 0,_,_,_,_,_=>none
 | k+1,w,x,y,z,m=>bif Gc a b c d w x y z then (bif Nat.blt z d then from_ a b c d k w x y (Nat.succ z) (Gd a b c d w x y z m) else bif Nat.blt y c then from_ a b c d k w x (Nat.succ y) 0 (Gd a b c d w x y z m) else bif Nat.blt x b then from_ a b c d k w (Nat.succ x) 0 0 (Gd a b c d w x y z m) else bif Nat.blt w a then from_ a b c d k (Nat.succ w) 0 0 0 (Gd a b c d w x y z m) else some (Gd a b c d w x y z m)) else none
def isD (a b c d:Nat):Option Nat→Bool
 | none=>false
 | some m=>Nat.beq m (Td a b c d)
def one (a b c d:Nat):Bool:=!okd a b c d||(Nat.beq (best a b c d) (Td a b c d)&&fine a b c d&&isD a b c d (from_ a b c d 82 0 0 0 0 0))
def upd (n:Nat) (p:Nat→Bool):Bool:=(List.range n).all p
def row (a:Nat):Bool:=upd 9 fun b=>Nat.blt 8 (Nat.add a b)||upd 9 fun c=>Nat.blt 8 (Nat.add (Nat.add a b) c)||upd 9 fun d=>one a b c d
set_option maxHeartbeats 0
set_option maxRecDepth 100000
theorem row0:row 0=true:=by decide +kernel
theorem row1:row 1=true:=by decide +kernel
theorem row2:row 2=true:=by decide +kernel
theorem row3:row 3=true:=by decide +kernel
theorem row4:row 4=true:=by decide +kernel
theorem row5:row 5=true:=by decide +kernel
theorem row6:row 6=true:=by decide +kernel
theorem row7:row 7=true:=by decide +kernel
theorem row8:row 8=true:=by decide +kernel
end Go.Proofs.Ytpknkpbellchgaa.Dl
