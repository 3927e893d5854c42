/-
  The card of NumParts is proved: the law's function returns true at every argument of its shape; no condition.
-/
import Derived.Test.YtdheblnjmnlpfaaGreatDoorA3
namespace Go.Proofs.YtdheblnjmnlpfaaGreatDoor
open Go Go.RowKit Go.ChangeShapes Go.WideShapes Go.Proofs.Fl
set_option maxRecDepth 100000
theorem numParts_j3 : (Rows.numPartsRow.recurses == Tryz.pinned.checked.prog.recurses 14) = true := by kernel_rfl
theorem numParts_j4 : (Rows.numPartsRow.named == Tryz.pinned.checked.prog.varsNamed 14) = true := by kernel_rfl
end Go.Proofs.YtdheblnjmnlpfaaGreatDoor
