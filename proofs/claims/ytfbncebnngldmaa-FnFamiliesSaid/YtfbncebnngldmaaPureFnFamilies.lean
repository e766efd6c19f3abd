import Derived.Test.YtfbncebnngldmaaPFnFamiliesx6
import Derived.Test.YtfbncebnngldmaaQFnFamilies
namespace Go.Proofs.Ytfbncebnngldmaa.Pure
open Go.RowKit Go.Proofs.Ytfbncebnngldmaa.PFnFamilies Go.Proofs.YtfbncebnngldmaaW.PrintWords Go.Proofs.YtfbncebnngldmaaW.PrintLast

theorem FnFamilies : laws_FnFamilies.Pure := Go.Proofs.Ytfbncebnngldmaa.QFnFamilies.pure

end Go.Proofs.Ytfbncebnngldmaa.Pure
