/-
  A part of the proof of regionProducts_card.
-/
import Derived.Test.YtalnhplbnklpoaaGreatDoorP12
namespace Go.Proofs.YtalnhplbnklpoaaGreatDoor
open Go Go.RowKit Go.ChangeShapes Go.WideShapes Go.Proofs.Fl
set_option maxRecDepth 100000
theorem Wi:Tryz.pinned.checked.prog.make=some .cut:=by kernel_rfl
end Go.Proofs.YtalnhplbnklpoaaGreatDoor
