/-
  The card of NumDigits is proved: the law's function returns true at every argument of its shape; no condition.
-/
import Derived.Test.YtdheblnjmnlpfaaGreatDoorI4
namespace Go.Proofs.YtdheblnjmnlpfaaGreatDoor
open Go Go.RowKit Go.ChangeShapes Go.WideShapes Go.Proofs.Fl
set_option maxRecDepth 100000
theorem numDigits_joined : joinedFacts Tryz.pinned.checked.prog 5 Tryz.f5 Rows.numDigitsSpec Rows.numDigitsRow = true := by
  unfold joinedFacts
  rw [numDigits_j1, numDigits_j2, numDigits_j3, numDigits_j4, laidOut', rowed', enter', lift', make']
  kernel_rfl
end Go.Proofs.YtdheblnjmnlpfaaGreatDoor
