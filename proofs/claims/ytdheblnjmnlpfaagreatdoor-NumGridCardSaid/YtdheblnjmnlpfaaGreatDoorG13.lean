/-
  NumGrid answers true for every input (the row's own conditions alone).
-/
import Derived.Test.YtdheblnjmnlpfaaGreatDoorG12
namespace Go.Proofs.YtdheblnjmnlpfaaGreatDoor
open Go Go.RowKit Go.ChangeShapes Go.WideShapes Go.Proofs.Fl
set_option maxRecDepth 100000
theorem numGrid_joined : joinedFacts Tryz.pinned.checked.prog 7 Tryz.f7 Rows.numGridSpec Rows.numGridRow = true := by
  unfold joinedFacts
  rw [numGrid_j1, numGrid_j2, numGrid_j3, numGrid_j4, laidOut', rowed', enter', lift', make']
  kernel_rfl
end Go.Proofs.YtdheblnjmnlpfaaGreatDoor
