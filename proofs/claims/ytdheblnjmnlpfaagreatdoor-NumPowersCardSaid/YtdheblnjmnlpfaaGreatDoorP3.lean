/-
  The card of NumPowers is proved: the law's function returns true at every argument of its shape; no condition.
-/
import Derived.Test.YtdheblnjmnlpfaaGreatDoorP2
namespace Go.Proofs.YtdheblnjmnlpfaaGreatDoor
open Go Go.RowKit Go.ChangeShapes Go.WideShapes Go.Proofs.Fl
set_option maxRecDepth 100000
theorem numPowers_j1 : (Rows.numPowersRow.inPlace == Tryz.pinned.checked.prog.inPlace 16) = true := by kernel_rfl
theorem numPowers_j2 : (Rows.numPowersRow.unfollowed == Tryz.pinned.checked.prog.unfollowed 16) = true := by kernel_rfl
end Go.Proofs.YtdheblnjmnlpfaaGreatDoor
