import Derived.Test.YtkbahcbankfffaaPFnPairsx19
import Derived.Test.YtkbahcbankfffaaQFnPairs
namespace Go.Proofs.Ytkbahcbankfffaa.Pure
open Go.RowKit Go.Proofs.Ytkbahcbankfffaa.PFnPairs Go.Proofs.YtkbahcbankfffaaW.PrintWords Go.Proofs.YtkbahcbankfffaaW.PrintLast
theorem FnPairs : laws_FnPairs.Pure := Go.Proofs.Ytkbahcbankfffaa.QFnPairs.pure
end Go.Proofs.Ytkbahcbankfffaa.Pure
