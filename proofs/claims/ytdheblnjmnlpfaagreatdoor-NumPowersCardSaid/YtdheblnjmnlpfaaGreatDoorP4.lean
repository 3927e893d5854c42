/-
  The card of NumPowers is proved: the law's function returns true at every argument of its shape; no condition.
-/
import Derived.Test.YtdheblnjmnlpfaaGreatDoorP3
namespace Go.Proofs.YtdheblnjmnlpfaaGreatDoor
open Go Go.RowKit Go.ChangeShapes Go.WideShapes Go.Proofs.Fl
set_option maxRecDepth 100000
theorem numPowers_j3 : (Rows.numPowersRow.recurses == Tryz.pinned.checked.prog.recurses 16) = true := by kernel_rfl
theorem numPowers_j4 : (Rows.numPowersRow.named == Tryz.pinned.checked.prog.varsNamed 16) = true := by kernel_rfl
end Go.Proofs.YtdheblnjmnlpfaaGreatDoor
