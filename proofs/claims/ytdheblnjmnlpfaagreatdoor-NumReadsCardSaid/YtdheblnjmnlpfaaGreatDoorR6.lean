/-
  The card of NumReads is proved: the law's function returns true at every argument of its shape; no condition.
-/
import Derived.Test.YtdheblnjmnlpfaaGreatDoorR5
namespace Go.Proofs.YtdheblnjmnlpfaaGreatDoor
open Go Go.RowKit Go.ChangeShapes Go.WideShapes Go.Proofs.Fl
set_option maxRecDepth 100000
theorem numReads_said : Rows.NumReadsSaid :=
  OpenClaim.holds_of_wide 3 Tryz.f3 rfl rfl rfl rfl rfl rfl rfl ⟨rfl, rfl, rfl, rfl, rfl⟩ rfl rfl rfl rfl rfl (by kernel_rfl) Tryz.func3 numReads_joined
    (of_decide_eq_true (by kernel_rfl)) (by unfold Func.isWrapper; rw [if_neg (of_decide_eq_false (by kernel_rfl))]; exact ⟨rfl, rfl⟩)
    (fun os started H enc _ => numReads_lifted os started H enc)
theorem numReads_goes : false = Rows.numReadsRow.goesBy Tryz.pinned.checked.prog := by kernel_rfl
end Go.Proofs.YtdheblnjmnlpfaaGreatDoor
