/-
  The card of NumNames is proved: the law's function returns true at every argument of its shape; no condition.
-/
import Derived.Test.YtdheblnjmnlpfaaGreatDoorN2
namespace Go.Proofs.YtdheblnjmnlpfaaGreatDoor
open Go Go.RowKit Go.ChangeShapes Go.WideShapes Go.Proofs.Fl
set_option maxRecDepth 100000
theorem numNames_j1 : (Rows.numNamesRow.inPlace == Tryz.pinned.checked.prog.inPlace 17) = true := by kernel_rfl
theorem numNames_j2 : (Rows.numNamesRow.unfollowed == Tryz.pinned.checked.prog.unfollowed 17) = true := by kernel_rfl
end Go.Proofs.YtdheblnjmnlpfaaGreatDoor
