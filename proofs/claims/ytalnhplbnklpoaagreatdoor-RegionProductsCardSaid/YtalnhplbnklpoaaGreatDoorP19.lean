/-
  A part of the proof of regionProducts_card.
-/
import Derived.Test.YtalnhplbnklpoaaGreatDoorP18
namespace Go.Proofs.YtalnhplbnklpoaaGreatDoor
open Go Go.RowKit Go.ChangeShapes Go.WideShapes Go.Proofs.Fl
set_option maxRecDepth 100000
theorem NO:Rows.RegionProductsSaid :=
 OpenClaim.holds_of_wide 3 Tryz.f3 rfl rfl rfl rfl rfl rfl rfl ⟨rfl,rfl,rfl,rfl,rfl⟩ rfl rfl rfl rfl rfl (by kernel_rfl) Tryz.func3 NM
  (mY (by kernel_rfl)) (by unfold Func.isWrapper;rw[am (pC (by kernel_rfl))];exact⟨rfl,rfl⟩)
  (fun os started H enc _=>NL os started H enc)
theorem NP:false=Rows.regionProductsRow.goesBy Tryz.pinned.checked.prog:=by kernel_rfl
end Go.Proofs.YtalnhplbnklpoaaGreatDoor
