/-
  The numbers are an ordered field: the walk of the law, and its card.
-/
import Derived.Test.YtdheblnjmnlpfaaGreatDoorF2
namespace Go.Proofs.YtdheblnjmnlpfaaGreatDoor
open Go Go.RowKit Go.ChangeShapes Go.WideShapes Go.Proofs.Fl
set_option maxRecDepth 100000
theorem numField_j1 : (Rows.numFieldRow.inPlace == Tryz.pinned.checked.prog.inPlace 8) = true := by kernel_rfl
theorem numField_j2 : (Rows.numFieldRow.unfollowed == Tryz.pinned.checked.prog.unfollowed 8) = true := by kernel_rfl
end Go.Proofs.YtdheblnjmnlpfaaGreatDoor
