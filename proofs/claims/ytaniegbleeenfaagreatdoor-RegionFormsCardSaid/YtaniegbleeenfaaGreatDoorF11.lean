/-
  A part of the proof of regionForms_card.
-/
import Derived.Test.YtaniegbleeenfaaGreatDoorF10
namespace Go.Proofs.YtaniegbleeenfaaGreatDoor
open Go Go.RowKit Go.ChangeShapes Go.WideShapes Go.Proofs.Fl
set_option maxRecDepth 100000
theorem U9:Tryz.pinned.checked.prog.mayEnter=true:=by kernel_rfl
end Go.Proofs.YtaniegbleeenfaaGreatDoor
