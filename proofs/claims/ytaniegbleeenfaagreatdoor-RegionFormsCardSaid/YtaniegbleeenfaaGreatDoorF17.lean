/-
  A part of the proof of regionForms_card.
-/
import Derived.Test.YtaniegbleeenfaaGreatDoorF16
namespace Go.Proofs.YtaniegbleeenfaaGreatDoor
open Go Go.RowKit Go.ChangeShapes Go.WideShapes Go.Proofs.Fl
set_option maxRecDepth 100000
theorem Nh:(Rows.regionFormsRow.recurses==Tryz.pinned.checked.prog.recurses 3)=true:=by kernel_rfl
theorem Ng:(Rows.regionFormsRow.named==Tryz.pinned.checked.prog.varsNamed 3)=true:=by kernel_rfl
end Go.Proofs.YtaniegbleeenfaaGreatDoor
