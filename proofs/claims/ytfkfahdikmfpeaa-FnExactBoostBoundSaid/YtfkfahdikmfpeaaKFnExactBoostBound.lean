/- The functions of the laws that mark rows of rows: what their calls do. -/
import Derived.Test.YtfkfahdikmfpeaaPFnExactBoostBoundx
import Derived.Test.YtfkfahdikmfpeaaMc
import Derived.Test.YtfkfahdikmfpeaaSl
namespace Go.Proofs.Ytfkfahdikmfpeaa.KFnExactBoostBound
open Go.RowKit Go.Proofs.Ytfkfahdikmfpeaa.Sl Go.Proofs.Ytfkfahdikmfpeaa.Sh Go.Proofs.Ytfkfahdikmfpeaa.Mc Go.Proofs.Ytfkfahdikmfpeaa.PFnExactBoostBound Go.Proofs.YtfkfahdikmfpeaaW.PrintWords Go.Proofs.YtfkfahdikmfpeaaW.PrintLast Go.Proofs.YtfkfahdikmfpeaaW.PrintMore
set_option linter.unusedVariables false
set_option linter.unusedSimpArgs false
def rdR {α : Type} (xs : List (List α)) (i : Int) : List α := xs.getD i.toNat []
theorem rdR_nat {α : Type} (xs : List (List α)) (i : Nat) : rdR xs (i : Int) = xs.getD i [] := by simp [rdR]
end Go.Proofs.Ytfkfahdikmfpeaa.KFnExactBoostBound
