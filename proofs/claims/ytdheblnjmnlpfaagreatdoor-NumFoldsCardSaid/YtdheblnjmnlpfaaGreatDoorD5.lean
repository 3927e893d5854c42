/-
  The card of NumFolds is proved: the law's function returns true at every argument of its shape; no condition.
-/
import Derived.Test.YtdheblnjmnlpfaaGreatDoorD4
namespace Go.Proofs.YtdheblnjmnlpfaaGreatDoor
open Go Go.RowKit Go.ChangeShapes Go.WideShapes Go.Proofs.Fl
set_option maxRecDepth 100000
theorem numFolds_joined : joinedFacts Tryz.pinned.checked.prog 13 Tryz.f13 Rows.numFoldsSpec Rows.numFoldsRow = true := by
  unfold joinedFacts
  rw [numFolds_j1, numFolds_j2, numFolds_j3, numFolds_j4, laidOut', rowed', enter', lift', make']
  kernel_rfl
end Go.Proofs.YtdheblnjmnlpfaaGreatDoor
