/-
  The card of NumEncloses is proved: the law's function returns true at every argument of its shape; no condition.
-/
import Derived.Test.YtdheblnjmnlpfaaGreatDoorE4
namespace Go.Proofs.YtdheblnjmnlpfaaGreatDoor
open Go Go.RowKit Go.ChangeShapes Go.WideShapes Go.Proofs.Fl
set_option maxRecDepth 100000
theorem numEncloses_joined : joinedFacts Tryz.pinned.checked.prog 18 Tryz.f18 Rows.numEnclosesSpec Rows.numEnclosesRow = true := by
  unfold joinedFacts
  rw [numEncloses_j1, numEncloses_j2, numEncloses_j3, numEncloses_j4, laidOut', rowed', enter', lift', make']
  kernel_rfl
end Go.Proofs.YtdheblnjmnlpfaaGreatDoor
