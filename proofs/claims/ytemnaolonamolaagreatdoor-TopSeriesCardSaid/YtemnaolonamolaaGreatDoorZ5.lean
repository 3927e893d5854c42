/-
  The card of TopSeries is proved: the law's function returns true at every argument of its shape; no condition.
-/
import Derived.Test.YtemnaolonamolaaGreatDoorZ4
namespace Go.Proofs.YtemnaolonamolaaGreatDoor
open Go Go.RowKit Go.ChangeShapes Go.WideShapes Go.Proofs.Fl
set_option maxRecDepth 100000
theorem enter' : Tryz.pinned.checked.prog.mayEnter = true := by kernel_rfl
end Go.Proofs.YtemnaolonamolaaGreatDoor
