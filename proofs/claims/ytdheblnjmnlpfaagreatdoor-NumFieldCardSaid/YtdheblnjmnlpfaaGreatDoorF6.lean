/-
  The numbers are an ordered field: the walk of the law, and its card.
-/
import Derived.Test.YtdheblnjmnlpfaaGreatDoorF5
namespace Go.Proofs.YtdheblnjmnlpfaaGreatDoor
open Go Go.RowKit Go.ChangeShapes Go.WideShapes Go.Proofs.Fl
set_option maxRecDepth 100000
theorem numField_said : Rows.NumFieldSaid :=
  OpenClaim.holds_of_wide 8 Tryz.f8 rfl rfl rfl rfl rfl rfl rfl ⟨rfl, rfl, rfl, rfl, rfl⟩ rfl rfl rfl rfl rfl (by kernel_rfl) Tryz.func8 numField_joined
    (of_decide_eq_true (by kernel_rfl)) (by unfold Func.isWrapper; rw [if_neg (of_decide_eq_false (by kernel_rfl))]; exact ⟨rfl, rfl⟩)
    (fun os started H enc _ => numField_lifted os started H enc)
theorem numField_goes : false = Rows.numFieldRow.goesBy Tryz.pinned.checked.prog := by kernel_rfl
end Go.Proofs.YtdheblnjmnlpfaaGreatDoor
