/-
  RegionMonomials: the monomials are the document's, or the error is, for every input; no condition.
-/
import Derived.Test.YtidnkcdelnfkjaaGreatDoorM17
namespace Go.Proofs.YtidnkcdelnfkjaaGreatDoor
open Go Go.RowKit Go.ChangeShapes Go.WideShapes Go.Proofs.Fl
set_option maxRecDepth 100000
theorem regionMonomials_joined:joinedFacts Tryz.pinned.checked.prog 6 Tryz.f6 Rows.regionMonomialsSpec Rows.regionMonomialsRow=true:=by
 unfold joinedFacts
 rw[regionMonomials_j1,regionMonomials_j2,regionMonomials_j3,regionMonomials_j4,laidOut',rowed',enter',lift',make']
 kernel_rfl
end Go.Proofs.YtidnkcdelnfkjaaGreatDoor
