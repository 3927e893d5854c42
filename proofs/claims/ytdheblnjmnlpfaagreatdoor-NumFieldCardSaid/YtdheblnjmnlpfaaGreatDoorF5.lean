/-
  The numbers are an ordered field: the walk of the law, and its card.
-/
import Derived.Test.YtdheblnjmnlpfaaGreatDoorF4
namespace Go.Proofs.YtdheblnjmnlpfaaGreatDoor
open Go Go.RowKit Go.ChangeShapes Go.WideShapes Go.Proofs.Fl
set_option maxRecDepth 100000
theorem numField_joined : joinedFacts Tryz.pinned.checked.prog 8 Tryz.f8 Rows.numFieldSpec Rows.numFieldRow = true := by
  unfold joinedFacts
  rw [numField_j1, numField_j2, numField_j3, numField_j4, laidOut', rowed', enter', lift', make']
  kernel_rfl
end Go.Proofs.YtdheblnjmnlpfaaGreatDoor
