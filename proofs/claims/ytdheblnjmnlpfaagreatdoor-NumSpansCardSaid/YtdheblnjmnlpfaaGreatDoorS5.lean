/-
  The card of NumSpans is proved: the law's function returns true at every argument of its shape; no condition.
-/
import Derived.Test.YtdheblnjmnlpfaaGreatDoorS4
namespace Go.Proofs.YtdheblnjmnlpfaaGreatDoor
open Go Go.RowKit Go.ChangeShapes Go.WideShapes Go.Proofs.Fl
set_option maxRecDepth 100000
theorem numSpans_joined : joinedFacts Tryz.pinned.checked.prog 15 Tryz.f15 Rows.numSpansSpec Rows.numSpansRow = true := by
  unfold joinedFacts
  rw [numSpans_j1, numSpans_j2, numSpans_j3, numSpans_j4, laidOut', rowed', enter', lift', make']
  kernel_rfl
end Go.Proofs.YtdheblnjmnlpfaaGreatDoor
