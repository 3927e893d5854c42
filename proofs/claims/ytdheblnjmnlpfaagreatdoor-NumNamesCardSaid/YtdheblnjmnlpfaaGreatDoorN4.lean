/-
  The card of NumNames is proved: the law's function returns true at every argument of its shape; no condition.
-/
import Derived.Test.YtdheblnjmnlpfaaGreatDoorN3
namespace Go.Proofs.YtdheblnjmnlpfaaGreatDoor
open Go Go.RowKit Go.ChangeShapes Go.WideShapes Go.Proofs.Fl
set_option maxRecDepth 100000
theorem numNames_j3 : (Rows.numNamesRow.recurses == Tryz.pinned.checked.prog.recurses 17) = true := by kernel_rfl
theorem numNames_j4 : (Rows.numNamesRow.named == Tryz.pinned.checked.prog.varsNamed 17) = true := by kernel_rfl
end Go.Proofs.YtdheblnjmnlpfaaGreatDoor
