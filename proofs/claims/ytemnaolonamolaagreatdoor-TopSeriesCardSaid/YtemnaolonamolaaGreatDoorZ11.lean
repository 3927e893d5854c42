/-
  The card of TopSeries is proved: the law's function returns true at every argument of its shape; no condition.
-/
import Derived.Test.YtemnaolonamolaaGreatDoorZ10
namespace Go.Proofs.YtemnaolonamolaaGreatDoor
open Go Go.RowKit Go.ChangeShapes Go.WideShapes Go.Proofs.Fl
set_option maxRecDepth 100000
theorem topSeries_j3 : (Rows.topSeriesRow.recurses == Tryz.pinned.checked.prog.recurses 3) = true := by kernel_rfl
theorem topSeries_j4 : (Rows.topSeriesRow.named == Tryz.pinned.checked.prog.varsNamed 3) = true := by kernel_rfl
end Go.Proofs.YtemnaolonamolaaGreatDoor
