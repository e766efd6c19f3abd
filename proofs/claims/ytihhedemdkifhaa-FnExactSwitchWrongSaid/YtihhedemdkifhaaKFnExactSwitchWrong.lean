/- The functions of the laws that mark rows of rows: what their calls do. -/
import Derived.Test.YtihhedemdkifhaaPFnExactSwitchWrongx
import Derived.Test.YtihhedemdkifhaaMc
import Derived.Test.YtihhedemdkifhaaSl
namespace Go.Proofs.Ytihhedemdkifhaa.KFnExactSwitchWrong
open Go.RowKit Go.Proofs.Ytihhedemdkifhaa.Sl Go.Proofs.Ytihhedemdkifhaa.Sh Go.Proofs.Ytihhedemdkifhaa.Mc Go.Proofs.Ytihhedemdkifhaa.PFnExactSwitchWrong Go.Proofs.YtihhedemdkifhaaW.PrintWords Go.Proofs.YtihhedemdkifhaaW.PrintLast Go.Proofs.YtihhedemdkifhaaW.PrintMore
set_option linter.unusedVariables false
set_option linter.unusedSimpArgs false
def rdR {α : Type} (xs : List (List α)) (i : Int) : List α := xs.getD i.toNat []
theorem rdR_nat {α : Type} (xs : List (List α)) (i : Nat) : rdR xs (i : Int) = xs.getD i [] := by simp [rdR]
end Go.Proofs.Ytihhedemdkifhaa.KFnExactSwitchWrong
