/-
  The card of TopSeries is proved: the law's function returns true at every argument of its shape; no condition.
-/
import Derived.Test.YtemnaolonamolaaGreatDoorZ7
namespace Go.Proofs.YtemnaolonamolaaGreatDoor
open Go Go.RowKit Go.ChangeShapes Go.WideShapes Go.Proofs.Fl
set_option maxRecDepth 100000
theorem mainIs' : Tryz.pinned.checked.prog.mainIs = some (true, "44e5d1f5c88befb55fb741aa64b77fb6a95b6d5d5de313405229a8d62f169080".toList) := by kernel_rfl
end Go.Proofs.YtemnaolonamolaaGreatDoor
