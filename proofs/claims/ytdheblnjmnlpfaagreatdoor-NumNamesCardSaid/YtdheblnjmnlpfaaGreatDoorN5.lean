/-
  The card of NumNames is proved: the law's function returns true at every argument of its shape; no condition.
-/
import Derived.Test.YtdheblnjmnlpfaaGreatDoorN4
namespace Go.Proofs.YtdheblnjmnlpfaaGreatDoor
open Go Go.RowKit Go.ChangeShapes Go.WideShapes Go.Proofs.Fl
set_option maxRecDepth 100000
theorem numNames_joined : joinedFacts Tryz.pinned.checked.prog 17 Tryz.f17 Rows.numNamesSpec Rows.numNamesRow = true := by
  unfold joinedFacts
  rw [numNames_j1, numNames_j2, numNames_j3, numNames_j4, laidOut', rowed', enter', lift', make']
  kernel_rfl
end Go.Proofs.YtdheblnjmnlpfaaGreatDoor
