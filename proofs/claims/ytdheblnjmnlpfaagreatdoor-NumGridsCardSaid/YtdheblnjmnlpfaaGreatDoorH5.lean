/-
  The card of NumGrids is proved: the law's function returns true at every argument of its shape; no condition.
-/
import Derived.Test.YtdheblnjmnlpfaaGreatDoorH4
namespace Go.Proofs.YtdheblnjmnlpfaaGreatDoor
open Go Go.RowKit Go.ChangeShapes Go.WideShapes Go.Proofs.Fl
set_option maxRecDepth 100000
theorem numGrids_joined : joinedFacts Tryz.pinned.checked.prog 9 Tryz.f9 Rows.numGridsSpec Rows.numGridsRow = true := by
  unfold joinedFacts
  rw [numGrids_j1, numGrids_j2, numGrids_j3, numGrids_j4, laidOut', rowed', enter', lift', make']
  kernel_rfl
end Go.Proofs.YtdheblnjmnlpfaaGreatDoor
