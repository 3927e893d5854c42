/-
  The card of TopSeries is proved: the law's function returns true at every argument of its shape; no condition.
-/
import Derived.Test.YtemnaolonamolaaGreatDoorZ11
namespace Go.Proofs.YtemnaolonamolaaGreatDoor
open Go Go.RowKit Go.ChangeShapes Go.WideShapes Go.Proofs.Fl
set_option maxRecDepth 100000
theorem topSeries_joined : joinedFacts Tryz.pinned.checked.prog 3 Tryz.f3 Rows.topSeriesSpec Rows.topSeriesRow = true := by
  unfold joinedFacts
  rw [topSeries_j1, topSeries_j2, topSeries_j3, topSeries_j4, laidOut', rowed', enter', lift', make']
  kernel_rfl
end Go.Proofs.YtemnaolonamolaaGreatDoor
