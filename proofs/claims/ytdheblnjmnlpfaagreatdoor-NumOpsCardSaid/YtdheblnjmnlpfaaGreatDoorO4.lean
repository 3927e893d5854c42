/-
  The card of NumOps is proved: the law's function returns true at every argument of its shape; no condition.
-/
import Derived.Test.YtdheblnjmnlpfaaGreatDoorO3
namespace Go.Proofs.YtdheblnjmnlpfaaGreatDoor
open Go Go.RowKit Go.ChangeShapes Go.WideShapes Go.Proofs.Fl
set_option maxRecDepth 100000
theorem numOps_j3 : (Rows.numOpsRow.recurses == Tryz.pinned.checked.prog.recurses 11) = true := by kernel_rfl
theorem numOps_j4 : (Rows.numOpsRow.named == Tryz.pinned.checked.prog.varsNamed 11) = true := by kernel_rfl
end Go.Proofs.YtdheblnjmnlpfaaGreatDoor
