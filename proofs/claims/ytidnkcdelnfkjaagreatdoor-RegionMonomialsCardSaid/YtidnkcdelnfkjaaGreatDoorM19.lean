/-
  RegionMonomials: the monomials are the document's, or the error is, for every input; no condition.
-/
import Derived.Test.YtidnkcdelnfkjaaGreatDoorM18
namespace Go.Proofs.YtidnkcdelnfkjaaGreatDoor
open Go Go.RowKit Go.ChangeShapes Go.WideShapes Go.Proofs.Fl
set_option maxRecDepth 100000
theorem regionMonomials_said:Rows.RegionMonomialsSaid :=
 OpenClaim.holds_of_wide 6 Tryz.f6 rfl rfl rfl rfl rfl rfl rfl ⟨rfl,rfl,rfl,rfl,rfl⟩ rfl rfl rfl rfl rfl (by kernel_rfl) Tryz.func6 regionMonomials_joined
  (of_decide_eq_true (by kernel_rfl)) (by unfold Func.isWrapper;rw[if_neg (of_decide_eq_false (by kernel_rfl))];exact⟨rfl,rfl⟩)
  (fun os started H enc _=>regionMonomials_lifted os started H enc)
theorem regionMonomials_goes:false=Rows.regionMonomialsRow.goesBy Tryz.pinned.checked.prog:=by kernel_rfl
end Go.Proofs.YtidnkcdelnfkjaaGreatDoor
