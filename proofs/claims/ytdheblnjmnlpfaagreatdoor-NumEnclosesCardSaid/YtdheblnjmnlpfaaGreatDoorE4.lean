/-
  The card of NumEncloses is proved: the law's function returns true at every argument of its shape; no condition.
-/
import Derived.Test.YtdheblnjmnlpfaaGreatDoorE3
namespace Go.Proofs.YtdheblnjmnlpfaaGreatDoor
open Go Go.RowKit Go.ChangeShapes Go.WideShapes Go.Proofs.Fl
set_option maxRecDepth 100000
theorem numEncloses_j3 : (Rows.numEnclosesRow.recurses == Tryz.pinned.checked.prog.recurses 18) = true := by kernel_rfl
theorem numEncloses_j4 : (Rows.numEnclosesRow.named == Tryz.pinned.checked.prog.varsNamed 18) = true := by kernel_rfl
end Go.Proofs.YtdheblnjmnlpfaaGreatDoor
