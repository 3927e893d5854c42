/-
  The statement RegionSparse holds for every input.
-/
import Derived.Test.YtmkieokpghpjiaaGreatDoorS17
set_option linter.all false
namespace Go.Proofs.YtmkieokpghpjiaaGreatDoor
open Go Go.RowKit Go.ChangeShapes Go.WideShapes Go.Proofs.Fl
set_option maxRecDepth 100000
def OB:Rows.RegionSparseSaid :=
 OpenClaim.holds_of_wide 3 Tryz.f3 rfl rfl rfl rfl rfl rfl rfl ⟨rfl,rfl,rfl,rfl,rfl⟩ rfl rfl rfl rfl rfl (by kernel_rfl) Tryz.func3 OA
  (mP (by kernel_rfl)) (by unfold Func.isWrapper;rw[aq (sw (by kernel_rfl))];exact⟨rfl,rfl⟩)
  (fun os started H enc _=>Oz os started H enc)
def OC:false=Rows.regionSparseRow.goesBy Tryz.pinned.checked.prog:=by kernel_rfl
end Go.Proofs.YtmkieokpghpjiaaGreatDoor
