/-
  The card of NumDigits is proved: the law's function returns true at every argument of its shape; no condition.
-/
import Derived.Test.YtdheblnjmnlpfaaGreatDoorI3
namespace Go.Proofs.YtdheblnjmnlpfaaGreatDoor
open Go Go.RowKit Go.ChangeShapes Go.WideShapes Go.Proofs.Fl
set_option maxRecDepth 100000
theorem numDigits_j3 : (Rows.numDigitsRow.recurses == Tryz.pinned.checked.prog.recurses 5) = true := by kernel_rfl
theorem numDigits_j4 : (Rows.numDigitsRow.named == Tryz.pinned.checked.prog.varsNamed 5) = true := by kernel_rfl
end Go.Proofs.YtdheblnjmnlpfaaGreatDoor
