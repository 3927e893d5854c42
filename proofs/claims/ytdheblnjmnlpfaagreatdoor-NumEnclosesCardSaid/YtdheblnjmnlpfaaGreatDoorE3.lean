/-
  The card of NumEncloses is proved: the law's function returns true at every argument of its shape; no condition.
-/
import Derived.Test.YtdheblnjmnlpfaaGreatDoorE2
namespace Go.Proofs.YtdheblnjmnlpfaaGreatDoor
open Go Go.RowKit Go.ChangeShapes Go.WideShapes Go.Proofs.Fl
set_option maxRecDepth 100000
theorem numEncloses_j1 : (Rows.numEnclosesRow.inPlace == Tryz.pinned.checked.prog.inPlace 18) = true := by kernel_rfl
theorem numEncloses_j2 : (Rows.numEnclosesRow.unfollowed == Tryz.pinned.checked.prog.unfollowed 18) = true := by kernel_rfl
end Go.Proofs.YtdheblnjmnlpfaaGreatDoor
