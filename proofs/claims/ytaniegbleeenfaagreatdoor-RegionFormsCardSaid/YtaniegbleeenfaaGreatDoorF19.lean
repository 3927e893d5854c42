/-
  A part of the proof of regionForms_card.
-/
import Derived.Test.YtaniegbleeenfaaGreatDoorF18
namespace Go.Proofs.YtaniegbleeenfaaGreatDoor
open Go Go.RowKit Go.ChangeShapes Go.WideShapes Go.Proofs.Fl
set_option maxRecDepth 100000
theorem M9:Rows.RegionFormsSaid :=
 OpenClaim.holds_of_wide 3 Tryz.f3 rfl rfl rfl rfl rfl rfl rfl ⟨rfl,rfl,rfl,rfl,rfl⟩ rfl rfl rfl rfl rfl (by kernel_rfl) Tryz.func3 M7
  (mB (by kernel_rfl)) (by unfold Func.isWrapper;rw[al (oW (by kernel_rfl))];exact⟨rfl,rfl⟩)
  (fun os started H enc _=>M6 os started H enc)
theorem Na:false=Rows.regionFormsRow.goesBy Tryz.pinned.checked.prog:=by kernel_rfl
end Go.Proofs.YtaniegbleeenfaaGreatDoor
