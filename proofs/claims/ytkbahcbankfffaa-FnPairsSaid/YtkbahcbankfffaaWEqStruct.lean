-- Words of the kit's printer, of them only what this claim names (wip/tools/slimw.py)
import Derived.Test.YtkbahcbankfffaaWWords
import Derived.Laws.StructEq
/-! ### 53. '==' of structs as_ one Bool -/
namespace Go.Proofs.YtkbahcbankfffaaW.PrintWords
open Go.RowKit
section
variable {P:Program} {d:Nat} {xs ys:Array Value} {f:Field} {fs:List Field} {a b:Value} {r s:Bool} {w:World}
end
end Go.Proofs.YtkbahcbankfffaaW.PrintWords
