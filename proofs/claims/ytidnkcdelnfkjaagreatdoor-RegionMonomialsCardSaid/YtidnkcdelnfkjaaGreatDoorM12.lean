/-
  RegionMonomials: the monomials are the document's, or the error is, for every input; no condition.
-/
import Derived.Test.YtidnkcdelnfkjaaGreatDoorM11
namespace Go.Proofs.YtidnkcdelnfkjaaGreatDoor
open Go Go.RowKit Go.ChangeShapes Go.WideShapes Go.Proofs.Fl
set_option maxRecDepth 100000
theorem make':Tryz.pinned.checked.prog.make=some .cut:=by kernel_rfl
end Go.Proofs.YtidnkcdelnfkjaaGreatDoor
