/-
  The numbers are an ordered field: the walk of the law, and its card.
-/
import Derived.Test.YtdheblnjmnlpfaaGreatDoorF3
namespace Go.Proofs.YtdheblnjmnlpfaaGreatDoor
open Go Go.RowKit Go.ChangeShapes Go.WideShapes Go.Proofs.Fl
set_option maxRecDepth 100000
theorem numField_j3 : (Rows.numFieldRow.recurses == Tryz.pinned.checked.prog.recurses 8) = true := by kernel_rfl
theorem numField_j4 : (Rows.numFieldRow.named == Tryz.pinned.checked.prog.varsNamed 8) = true := by kernel_rfl
end Go.Proofs.YtdheblnjmnlpfaaGreatDoor
