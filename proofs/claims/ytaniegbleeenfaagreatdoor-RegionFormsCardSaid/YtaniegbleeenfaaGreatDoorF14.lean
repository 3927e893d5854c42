/-
  A part of the proof of regionForms_card.
-/
import Derived.Test.YtaniegbleeenfaaGreatDoorF13
namespace Go.Proofs.YtaniegbleeenfaaGreatDoor
open Go Go.RowKit Go.ChangeShapes Go.WideShapes Go.Proofs.Fl
set_option maxRecDepth 100000
theorem ST:Tryz.pinned.checked.prog.mainIs=some (true,"5f026869bd5e528ca9325b3e9e74ab33c444a2464b570d752a841081aab1d00b".toList):=by kernel_rfl
end Go.Proofs.YtaniegbleeenfaaGreatDoor
