-- Words of the kit's printer, of them only what this claim names (wip/tools/slimw.py)
import Derived.Test.YtkbahcbankfffaaWInv
import Derived.Test.YtkbahcbankfffaaWFootNe
namespace Go.Proofs.YtkbahcbankfffaaW.PrintWords
open Go.RowKit
end Go.Proofs.YtkbahcbankfffaaW.PrintWords
namespace Go.Proofs.YtkbahcbankfffaaW.PrintLast
section
variable {ops:Array Oper} {a:Act} {o og:Oper} {g:Nat} {t:Tmp} {u:Bool}
end
end Go.Proofs.YtkbahcbankfffaaW.PrintLast
