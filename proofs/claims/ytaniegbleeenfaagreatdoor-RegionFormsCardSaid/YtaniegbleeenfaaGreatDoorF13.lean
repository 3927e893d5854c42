/-
  A part of the proof of regionForms_card.
-/
import Derived.Test.YtaniegbleeenfaaGreatDoorF12
namespace Go.Proofs.YtaniegbleeenfaaGreatDoor
open Go Go.RowKit Go.ChangeShapes Go.WideShapes Go.Proofs.Fl
set_option maxRecDepth 100000
theorem VD:Tryz.pinned.checked.prog.make=some .cut:=by kernel_rfl
end Go.Proofs.YtaniegbleeenfaaGreatDoor
