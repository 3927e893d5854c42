/-
  The card of NumPowers is proved: the law's function returns true at every argument of its shape; no condition.
-/
import Derived.Test.YtdheblnjmnlpfaaGreatDoorP4
namespace Go.Proofs.YtdheblnjmnlpfaaGreatDoor
open Go Go.RowKit Go.ChangeShapes Go.WideShapes Go.Proofs.Fl
set_option maxRecDepth 100000
theorem numPowers_joined : joinedFacts Tryz.pinned.checked.prog 16 Tryz.f16 Rows.numPowersSpec Rows.numPowersRow = true := by
  unfold joinedFacts
  rw [numPowers_j1, numPowers_j2, numPowers_j3, numPowers_j4, laidOut', rowed', enter', lift', make']
  kernel_rfl
end Go.Proofs.YtdheblnjmnlpfaaGreatDoor
