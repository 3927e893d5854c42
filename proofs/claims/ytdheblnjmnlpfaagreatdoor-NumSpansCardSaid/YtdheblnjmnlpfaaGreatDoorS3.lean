/-
  The card of NumSpans is proved: the law's function returns true at every argument of its shape; no condition.
-/
import Derived.Test.YtdheblnjmnlpfaaGreatDoorS2
namespace Go.Proofs.YtdheblnjmnlpfaaGreatDoor
open Go Go.RowKit Go.ChangeShapes Go.WideShapes Go.Proofs.Fl
set_option maxRecDepth 100000
theorem numSpans_j1 : (Rows.numSpansRow.inPlace == Tryz.pinned.checked.prog.inPlace 15) = true := by kernel_rfl
theorem numSpans_j2 : (Rows.numSpansRow.unfollowed == Tryz.pinned.checked.prog.unfollowed 15) = true := by kernel_rfl
end Go.Proofs.YtdheblnjmnlpfaaGreatDoor
