/-
  The card of NumSpans is proved: the law's function returns true at every argument of its shape; no condition.
-/
import Derived.Test.YtdheblnjmnlpfaaGreatDoorS3
namespace Go.Proofs.YtdheblnjmnlpfaaGreatDoor
open Go Go.RowKit Go.ChangeShapes Go.WideShapes Go.Proofs.Fl
set_option maxRecDepth 100000
theorem numSpans_j3 : (Rows.numSpansRow.recurses == Tryz.pinned.checked.prog.recurses 15) = true := by kernel_rfl
theorem numSpans_j4 : (Rows.numSpansRow.named == Tryz.pinned.checked.prog.varsNamed 15) = true := by kernel_rfl
end Go.Proofs.YtdheblnjmnlpfaaGreatDoor
