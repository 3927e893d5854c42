/-
  A part of the proof of regionProducts_card.
-/
import Derived.Test.YtalnhplbnklpoaaGreatDoorP13
namespace Go.Proofs.YtalnhplbnklpoaaGreatDoor
open Go Go.RowKit Go.ChangeShapes Go.WideShapes Go.Proofs.Fl
set_option maxRecDepth 100000
theorem TJ:Tryz.pinned.checked.prog.mainIs=some (true,"eaacba1f07ffe869e78da01b5b4b821e74dd91fa24badd37df5964e31a50c3dc".toList):=by kernel_rfl
end Go.Proofs.YtalnhplbnklpoaaGreatDoor
