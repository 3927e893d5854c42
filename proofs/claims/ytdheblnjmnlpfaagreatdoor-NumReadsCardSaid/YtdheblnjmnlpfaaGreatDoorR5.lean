/-
  The card of NumReads is proved: the law's function returns true at every argument of its shape; no condition.
-/
import Derived.Test.YtdheblnjmnlpfaaGreatDoorR4
namespace Go.Proofs.YtdheblnjmnlpfaaGreatDoor
open Go Go.RowKit Go.ChangeShapes Go.WideShapes Go.Proofs.Fl
set_option maxRecDepth 100000
theorem numReads_joined : joinedFacts Tryz.pinned.checked.prog 3 Tryz.f3 Rows.numReadsSpec Rows.numReadsRow = true := by
  unfold joinedFacts
  rw [numReads_j1, numReads_j2, numReads_j3, numReads_j4, laidOut', rowed', enter', lift', make']
  kernel_rfl
end Go.Proofs.YtdheblnjmnlpfaaGreatDoor
