/- The functions of the laws that mark rows of rows: what their calls do. -/
import Derived.Test.YtfkfahdikmfpeaaDoorPFnExactVapnikNumberx
import Derived.Test.YtfkfahdikmfpeaaDoorMc
import Derived.Test.YtfkfahdikmfpeaaDoorSl
namespace Go.Proofs.YtfkfahdikmfpeaaDoor.KFnExactVapnikNumber
open Go.RowKit Go.Proofs.YtfkfahdikmfpeaaDoor.Sl Go.Proofs.YtfkfahdikmfpeaaDoor.Sh Go.Proofs.YtfkfahdikmfpeaaDoor.Mc Go.Proofs.YtfkfahdikmfpeaaDoor.PFnExactVapnikNumber Go.Proofs.YtfkfahdikmfpeaaDoorW.PrintWords Go.Proofs.YtfkfahdikmfpeaaDoorW.PrintLast Go.Proofs.YtfkfahdikmfpeaaDoorW.PrintMore
set_option linter.unusedVariables false
set_option linter.unusedSimpArgs false
def rdR {α : Type} (xs : List (List α)) (i : Int) : List α := xs.getD i.toNat []
theorem rdR_nat {α : Type} (xs : List (List α)) (i : Nat) : rdR xs (i : Int) = xs.getD i [] := by simp [rdR]
end Go.Proofs.YtfkfahdikmfpeaaDoor.KFnExactVapnikNumber
