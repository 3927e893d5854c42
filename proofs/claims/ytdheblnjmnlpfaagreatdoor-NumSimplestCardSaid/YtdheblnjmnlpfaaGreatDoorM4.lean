/-
  The card of NumSimplest is proved: the law's function returns true at every argument of its shape; no condition.
-/
import Derived.Test.YtdheblnjmnlpfaaGreatDoorM3
namespace Go.Proofs.YtdheblnjmnlpfaaGreatDoor
open Go Go.RowKit Go.ChangeShapes Go.WideShapes Go.Proofs.Fl
set_option maxRecDepth 100000
theorem numSimplest_j3 : (Rows.numSimplestRow.recurses == Tryz.pinned.checked.prog.recurses 4) = true := by kernel_rfl
theorem numSimplest_j4 : (Rows.numSimplestRow.named == Tryz.pinned.checked.prog.varsNamed 4) = true := by kernel_rfl
end Go.Proofs.YtdheblnjmnlpfaaGreatDoor
