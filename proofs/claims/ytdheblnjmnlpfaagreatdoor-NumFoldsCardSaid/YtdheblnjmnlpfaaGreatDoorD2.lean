/-
  The card of NumFolds is proved: the law's function returns true at every argument of its shape; no condition.
-/
import Derived.Test.YtdheblnjmnlpfaaGreatDoorD1
namespace Go.Proofs.YtdheblnjmnlpfaaGreatDoor
open Go Go.RowKit Go.ChangeShapes Go.WideShapes Go.Proofs.Fl
set_option maxRecDepth 100000
theorem numFolds_lifted (os : Os) (started : os.Started) (H : Type) (enc : TypeId × Value → H) :
    ReturnsInHanded {} Tryz.checked os 13 .any (fun w args => (Rows.numFoldsSpec.pre enc Tryz.prog Tryz.f13 [] false w args ∧ laidMetH Tryz.prog Rows.numFoldsRow.laid w) ∧ sizedMet enc Tryz.prog Tryz.f13 (OpenSpec.ofChange Rows.numFoldsSpec) false w args)
      (Rows.numFoldsSpec.post enc Tryz.prog Tryz.f13 false true false false) := by
  refine law_lifted started Tryz.func13 (by kernel_rfl) rfl (by kernel_rfl) (fun ds h => ?_) (by kernel_rfl) laid_pow
    (ChangeSpec.witness_shaped (enc := enc) (C := Tryz.checked) (os := os) (X := fun w _ => laidMetH Tryz.prog Rows.numFoldsRow.laid w) false (witW os) #[.slice none 0 0] 8 rfl (World.shaped_of_RefB (by kernel_rfl) (by kernel_rfl)) (by kernel_rfl) (by kernel_rfl) (by kernel_rfl) (wit_met os _))
    (fun W base args ds p hval hA => ?_)
  · rw [Tryz.params13] at h
    match ds, h with
    | [d0], _ => rfl
  · rw [Tryz.params13] at hA hval
    obtain ⟨v0, d0, h0, ha⟩ := args_open1 hA
    subst ha
    obtain ⟨Hp, l0, hhp, hv0, hl0, hx0⟩ := nums_arg (hval 0 94 v0 rfl rfl) h0
    exact ⟨Hp, [.sl (l0.map Num3.iv)], hhp, .cons _ _ _ _ hv0 .nil, f13_ok lawL hl0 hx0⟩
end Go.Proofs.YtdheblnjmnlpfaaGreatDoor
