/-
  The card of NumParts is proved: the law's function returns true at every argument of its shape; no condition.
-/
import Derived.Test.YtdheblnjmnlpfaaGreatDoorA4
namespace Go.Proofs.YtdheblnjmnlpfaaGreatDoor
open Go Go.RowKit Go.ChangeShapes Go.WideShapes Go.Proofs.Fl
set_option maxRecDepth 100000
theorem numParts_joined : joinedFacts Tryz.pinned.checked.prog 14 Tryz.f14 Rows.numPartsSpec Rows.numPartsRow = true := by
  unfold joinedFacts
  rw [numParts_j1, numParts_j2, numParts_j3, numParts_j4, laidOut', rowed', enter', lift', make']
  kernel_rfl
end Go.Proofs.YtdheblnjmnlpfaaGreatDoor
