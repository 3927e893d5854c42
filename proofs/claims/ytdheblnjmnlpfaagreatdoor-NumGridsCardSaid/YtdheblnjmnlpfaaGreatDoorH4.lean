/-
  The card of NumGrids is proved: the law's function returns true at every argument of its shape; no condition.
-/
import Derived.Test.YtdheblnjmnlpfaaGreatDoorH3
namespace Go.Proofs.YtdheblnjmnlpfaaGreatDoor
open Go Go.RowKit Go.ChangeShapes Go.WideShapes Go.Proofs.Fl
set_option maxRecDepth 100000
theorem numGrids_j3 : (Rows.numGridsRow.recurses == Tryz.pinned.checked.prog.recurses 9) = true := by kernel_rfl
theorem numGrids_j4 : (Rows.numGridsRow.named == Tryz.pinned.checked.prog.varsNamed 9) = true := by kernel_rfl
end Go.Proofs.YtdheblnjmnlpfaaGreatDoor
