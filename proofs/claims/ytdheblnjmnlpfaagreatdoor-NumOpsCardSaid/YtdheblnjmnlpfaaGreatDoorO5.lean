/-
  The card of NumOps is proved: the law's function returns true at every argument of its shape; no condition.
-/
import Derived.Test.YtdheblnjmnlpfaaGreatDoorO4
namespace Go.Proofs.YtdheblnjmnlpfaaGreatDoor
open Go Go.RowKit Go.ChangeShapes Go.WideShapes Go.Proofs.Fl
set_option maxRecDepth 100000
theorem numOps_joined : joinedFacts Tryz.pinned.checked.prog 11 Tryz.f11 Rows.numOpsSpec Rows.numOpsRow = true := by
  unfold joinedFacts
  rw [numOps_j1, numOps_j2, numOps_j3, numOps_j4, laidOut', rowed', enter', lift', make']
  kernel_rfl
end Go.Proofs.YtdheblnjmnlpfaaGreatDoor
