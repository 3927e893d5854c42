/-
  RegionMonomials: the monomials are the document's, or the error is, for every input; no condition.
-/
import Derived.Test.YtidnkcdelnfkjaaGreatDoorM10
namespace Go.Proofs.YtidnkcdelnfkjaaGreatDoor
open Go Go.RowKit Go.ChangeShapes Go.WideShapes Go.Proofs.Fl
set_option maxRecDepth 100000
theorem lift':Tryz.pinned.checked.prog.liftsFinal=false:=by kernel_rfl
end Go.Proofs.YtidnkcdelnfkjaaGreatDoor
