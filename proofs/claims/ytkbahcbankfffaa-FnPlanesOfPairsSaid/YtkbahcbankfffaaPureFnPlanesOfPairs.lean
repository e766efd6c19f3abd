import Derived.Test.YtkbahcbankfffaaPFnPlanesOfPairsx19
import Derived.Test.YtkbahcbankfffaaQFnPlanesOfPairs
namespace Go.Proofs.Ytkbahcbankfffaa.Pure
open Go.RowKit Go.Proofs.Ytkbahcbankfffaa.PFnPlanesOfPairs Go.Proofs.YtkbahcbankfffaaW.PrintWords Go.Proofs.YtkbahcbankfffaaW.PrintLast

theorem FnPlanesOfPairs : laws_FnPlanesOfPairs.Pure := Go.Proofs.Ytkbahcbankfffaa.QFnPlanesOfPairs.pure

end Go.Proofs.Ytkbahcbankfffaa.Pure
