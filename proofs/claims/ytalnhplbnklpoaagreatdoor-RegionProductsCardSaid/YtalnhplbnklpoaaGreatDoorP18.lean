/-
  A part of the proof of regionProducts_card.
-/
import Derived.Test.YtalnhplbnklpoaaGreatDoorP17
namespace Go.Proofs.YtalnhplbnklpoaaGreatDoor
open Go Go.RowKit Go.ChangeShapes Go.WideShapes Go.Proofs.Fl
set_option maxRecDepth 100000
theorem NM:joinedFacts Tryz.pinned.checked.prog 3 Tryz.f3 Rows.regionProductsSpec Rows.regionProductsRow=true:=by
 unfold joinedFacts;rw[NT,NS,NR,NQ,Rp,UW,VP,Wl,Wi]
 kernel_rfl
end Go.Proofs.YtalnhplbnklpoaaGreatDoor
