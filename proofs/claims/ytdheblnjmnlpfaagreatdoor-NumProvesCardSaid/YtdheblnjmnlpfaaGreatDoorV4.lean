/-
  The card of NumProves is proved: the law's function returns true at every argument of its shape; no condition.
-/
import Derived.Test.YtdheblnjmnlpfaaGreatDoorV3
namespace Go.Proofs.YtdheblnjmnlpfaaGreatDoor
open Go Go.RowKit Go.ChangeShapes Go.WideShapes Go.Proofs.Fl
set_option maxRecDepth 100000
theorem numProves_j3 : (Rows.numProvesRow.recurses == Tryz.pinned.checked.prog.recurses 12) = true := by kernel_rfl
theorem numProves_j4 : (Rows.numProvesRow.named == Tryz.pinned.checked.prog.varsNamed 12) = true := by kernel_rfl
end Go.Proofs.YtdheblnjmnlpfaaGreatDoor
