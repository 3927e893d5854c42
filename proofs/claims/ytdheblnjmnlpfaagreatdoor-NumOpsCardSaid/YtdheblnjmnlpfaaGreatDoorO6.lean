/-
  The card of NumOps is proved: the law's function returns true at every argument of its shape; no condition.
-/
import Derived.Test.YtdheblnjmnlpfaaGreatDoorO5
namespace Go.Proofs.YtdheblnjmnlpfaaGreatDoor
open Go Go.RowKit Go.ChangeShapes Go.WideShapes Go.Proofs.Fl
set_option maxRecDepth 100000
theorem numOps_said : Rows.NumOpsSaid :=
  OpenClaim.holds_of_wide 11 Tryz.f11 rfl rfl rfl rfl rfl rfl rfl ⟨rfl, rfl, rfl, rfl, rfl⟩ rfl rfl rfl rfl rfl (by kernel_rfl) Tryz.func11 numOps_joined
    (of_decide_eq_true (by kernel_rfl)) (by unfold Func.isWrapper; rw [if_neg (of_decide_eq_false (by kernel_rfl))]; exact ⟨rfl, rfl⟩)
    (fun os started H enc _ => numOps_lifted os started H enc)
theorem numOps_goes : false = Rows.numOpsRow.goesBy Tryz.pinned.checked.prog := by kernel_rfl
end Go.Proofs.YtdheblnjmnlpfaaGreatDoor
