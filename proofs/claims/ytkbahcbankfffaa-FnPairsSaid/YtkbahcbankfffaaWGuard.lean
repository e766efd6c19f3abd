-- Words of the kit's printer, of them only what this claim names (wip/tools/slimw.py)
import Derived.Test.YtkbahcbankfffaaWWords
/-! ### 58. A guarded operation whose guard is known to want it: the same goal without the guard -/
namespace Go.Proofs.YtkbahcbankfffaaW.PrintWords
open Go.RowKit
section
variable {P:Program} {ops:Array Oper} {rest:List Oper} {o:Oper} {a:Act} {Q:Exit→Act→World→Prop} {W:World}
end
end Go.Proofs.YtkbahcbankfffaaW.PrintWords
