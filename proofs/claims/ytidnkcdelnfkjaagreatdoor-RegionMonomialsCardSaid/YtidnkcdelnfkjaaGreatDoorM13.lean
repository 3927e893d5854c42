/-
  RegionMonomials: the monomials are the document's, or the error is, for every input; no condition.
-/
import Derived.Test.YtidnkcdelnfkjaaGreatDoorM12
namespace Go.Proofs.YtidnkcdelnfkjaaGreatDoor
open Go Go.RowKit Go.ChangeShapes Go.WideShapes Go.Proofs.Fl
set_option maxRecDepth 100000
theorem mainIs':Tryz.pinned.checked.prog.mainIs=some (true,"0c5c5f15c933890c92cfe7d7f185875af42e24098677d71bc71344534311eb45".toList):=by kernel_rfl
end Go.Proofs.YtidnkcdelnfkjaaGreatDoor
