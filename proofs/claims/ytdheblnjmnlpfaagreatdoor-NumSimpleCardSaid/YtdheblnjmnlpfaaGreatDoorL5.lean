/-
  The card of NumSimple is proved: the law's function returns true at every argument of its shape; no condition.
-/
import Derived.Test.YtdheblnjmnlpfaaGreatDoorL4
namespace Go.Proofs.YtdheblnjmnlpfaaGreatDoor
open Go Go.RowKit Go.ChangeShapes Go.WideShapes Go.Proofs.Fl
set_option maxRecDepth 100000
theorem numSimple_joined : joinedFacts Tryz.pinned.checked.prog 10 Tryz.f10 Rows.numSimpleSpec Rows.numSimpleRow = true := by
  unfold joinedFacts
  rw [numSimple_j1, numSimple_j2, numSimple_j3, numSimple_j4, laidOut', rowed', enter', lift', make']
  kernel_rfl
end Go.Proofs.YtdheblnjmnlpfaaGreatDoor
