/-
  The card of NumSimple is proved: the law's function returns true at every argument of its shape; no condition.
-/
import Derived.Test.YtdheblnjmnlpfaaGreatDoorL3
namespace Go.Proofs.YtdheblnjmnlpfaaGreatDoor
open Go Go.RowKit Go.ChangeShapes Go.WideShapes Go.Proofs.Fl
set_option maxRecDepth 100000
theorem numSimple_j3 : (Rows.numSimpleRow.recurses == Tryz.pinned.checked.prog.recurses 10) = true := by kernel_rfl
theorem numSimple_j4 : (Rows.numSimpleRow.named == Tryz.pinned.checked.prog.varsNamed 10) = true := by kernel_rfl
end Go.Proofs.YtdheblnjmnlpfaaGreatDoor
