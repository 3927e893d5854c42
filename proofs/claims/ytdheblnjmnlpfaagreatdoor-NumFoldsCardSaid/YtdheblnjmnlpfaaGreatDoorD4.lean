/-
  The card of NumFolds is proved: the law's function returns true at every argument of its shape; no condition.
-/
import Derived.Test.YtdheblnjmnlpfaaGreatDoorD3
namespace Go.Proofs.YtdheblnjmnlpfaaGreatDoor
open Go Go.RowKit Go.ChangeShapes Go.WideShapes Go.Proofs.Fl
set_option maxRecDepth 100000
theorem numFolds_j3 : (Rows.numFoldsRow.recurses == Tryz.pinned.checked.prog.recurses 13) = true := by kernel_rfl
theorem numFolds_j4 : (Rows.numFoldsRow.named == Tryz.pinned.checked.prog.varsNamed 13) = true := by kernel_rfl
end Go.Proofs.YtdheblnjmnlpfaaGreatDoor
