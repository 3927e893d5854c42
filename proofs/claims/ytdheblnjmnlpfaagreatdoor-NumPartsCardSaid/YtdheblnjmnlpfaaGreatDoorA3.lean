/-
  The card of NumParts is proved: the law's function returns true at every argument of its shape; no condition.
-/
import Derived.Test.YtdheblnjmnlpfaaGreatDoorA2
namespace Go.Proofs.YtdheblnjmnlpfaaGreatDoor
open Go Go.RowKit Go.ChangeShapes Go.WideShapes Go.Proofs.Fl
set_option maxRecDepth 100000
theorem numParts_j1 : (Rows.numPartsRow.inPlace == Tryz.pinned.checked.prog.inPlace 14) = true := by kernel_rfl
theorem numParts_j2 : (Rows.numPartsRow.unfollowed == Tryz.pinned.checked.prog.unfollowed 14) = true := by kernel_rfl
end Go.Proofs.YtdheblnjmnlpfaaGreatDoor
