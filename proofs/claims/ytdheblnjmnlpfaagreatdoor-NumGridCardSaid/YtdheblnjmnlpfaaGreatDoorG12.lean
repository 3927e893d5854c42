/-
  NumGrid answers true for every input (the row's own conditions alone).
-/
import Derived.Test.YtdheblnjmnlpfaaGreatDoorG11
namespace Go.Proofs.YtdheblnjmnlpfaaGreatDoor
open Go Go.RowKit Go.ChangeShapes Go.WideShapes Go.Proofs.Fl
set_option maxRecDepth 100000
theorem numGrid_j3 : (Rows.numGridRow.recurses == Tryz.pinned.checked.prog.recurses 7) = true := by kernel_rfl
theorem numGrid_j4 : (Rows.numGridRow.named == Tryz.pinned.checked.prog.varsNamed 7) = true := by kernel_rfl
end Go.Proofs.YtdheblnjmnlpfaaGreatDoor
