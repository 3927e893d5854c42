/-
  The card of TopSeries is proved: the law's function returns true at every argument of its shape; no condition.
-/
import Derived.Test.YtemnaolonamolaaGreatDoorZ9
namespace Go.Proofs.YtemnaolonamolaaGreatDoor
open Go Go.RowKit Go.ChangeShapes Go.WideShapes Go.Proofs.Fl
set_option maxRecDepth 100000
theorem topSeries_j1 : (Rows.topSeriesRow.inPlace == Tryz.pinned.checked.prog.inPlace 3) = true := by kernel_rfl
theorem topSeries_j2 : (Rows.topSeriesRow.unfollowed == Tryz.pinned.checked.prog.unfollowed 3) = true := by kernel_rfl
end Go.Proofs.YtemnaolonamolaaGreatDoor
