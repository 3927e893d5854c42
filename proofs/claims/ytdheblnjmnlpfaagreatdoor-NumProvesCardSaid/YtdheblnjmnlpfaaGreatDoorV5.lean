/-
  The card of NumProves is proved: the law's function returns true at every argument of its shape; no condition.
-/
import Derived.Test.YtdheblnjmnlpfaaGreatDoorV4
namespace Go.Proofs.YtdheblnjmnlpfaaGreatDoor
open Go Go.RowKit Go.ChangeShapes Go.WideShapes Go.Proofs.Fl
set_option maxRecDepth 100000
theorem numProves_joined : joinedFacts Tryz.pinned.checked.prog 12 Tryz.f12 Rows.numProvesSpec Rows.numProvesRow = true := by
  unfold joinedFacts
  rw [numProves_j1, numProves_j2, numProves_j3, numProves_j4, laidOut', rowed', enter', lift', make']
  kernel_rfl
end Go.Proofs.YtdheblnjmnlpfaaGreatDoor
