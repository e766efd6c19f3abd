/- The library's table of math/bits, where it lies: a block that is older than the call; it stays as it is. -/
import Derived.Test.YtfkfahdikmfpeaaDoorTz
import Derived.Test.YtfkfahdikmfpeaaDoorWWords
namespace Go.Proofs.YtfkfahdikmfpeaaDoor.Tb
open Go Go.Proofs Go.RowKit Go.Proofs.YtfkfahdikmfpeaaDoorW.PrintWords
theorem tabB {tab : List Nat} {w w1 : World} (h : Aside0 (TabAt 1 tab w)) (hb : Aside0 (Below w.heap.size w w1)) : Aside0 (TabAt 1 tab w1) := by
  refine ⟨fun j hj => ?_⟩
  have e := h.out j hj
  rw [hb.out.cell (World.block_lt_of_cell? w _ e)]
  exact e
end Go.Proofs.YtfkfahdikmfpeaaDoor.Tb
