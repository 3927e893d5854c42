/-
  The card of NumSimple is proved: the law's function returns true at every argument of its shape; no condition.
-/
import Derived.Test.YtdheblnjmnlpfaaGreatDoorL2
namespace Go.Proofs.YtdheblnjmnlpfaaGreatDoor
open Go Go.RowKit Go.ChangeShapes Go.WideShapes Go.Proofs.Fl
set_option maxRecDepth 100000
theorem numSimple_j1 : (Rows.numSimpleRow.inPlace == Tryz.pinned.checked.prog.inPlace 10) = true := by kernel_rfl
theorem numSimple_j2 : (Rows.numSimpleRow.unfollowed == Tryz.pinned.checked.prog.unfollowed 10) = true := by kernel_rfl
end Go.Proofs.YtdheblnjmnlpfaaGreatDoor
