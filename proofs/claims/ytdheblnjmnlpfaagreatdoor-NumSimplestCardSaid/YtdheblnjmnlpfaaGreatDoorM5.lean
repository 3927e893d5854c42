/-
  The card of NumSimplest is proved: the law's function returns true at every argument of its shape; no condition.
-/
import Derived.Test.YtdheblnjmnlpfaaGreatDoorM4
namespace Go.Proofs.YtdheblnjmnlpfaaGreatDoor
open Go Go.RowKit Go.ChangeShapes Go.WideShapes Go.Proofs.Fl
set_option maxRecDepth 100000
theorem numSimplest_joined : joinedFacts Tryz.pinned.checked.prog 4 Tryz.f4 Rows.numSimplestSpec Rows.numSimplestRow = true := by
  unfold joinedFacts
  rw [numSimplest_j1, numSimplest_j2, numSimplest_j3, numSimplest_j4, laidOut', rowed', enter', lift', make']
  kernel_rfl
end Go.Proofs.YtdheblnjmnlpfaaGreatDoor
