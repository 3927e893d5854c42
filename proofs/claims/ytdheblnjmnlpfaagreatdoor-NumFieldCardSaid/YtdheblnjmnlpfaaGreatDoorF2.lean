/-
  The numbers are an ordered field: the walk of the law, and its card.
-/
import Derived.Test.YtdheblnjmnlpfaaGreatDoorF1
namespace Go.Proofs.YtdheblnjmnlpfaaGreatDoor
open Go Go.RowKit Go.ChangeShapes Go.WideShapes Go.Proofs.Fl
set_option maxRecDepth 100000
theorem numField_lifted (os : Os) (started : os.Started) (H : Type) (enc : TypeId × Value → H) :
    ReturnsInHanded {} Tryz.checked os 8 .any (fun w args => (Rows.numFieldSpec.pre enc Tryz.prog Tryz.f8 [] false w args ∧ laidMetH Tryz.prog Rows.numFieldRow.laid w) ∧ sizedMet enc Tryz.prog Tryz.f8 (OpenSpec.ofChange Rows.numFieldSpec) false w args)
      (Rows.numFieldSpec.post enc Tryz.prog Tryz.f8 false true false false) := by
  refine law_lifted started Tryz.func8 (by kernel_rfl) rfl (by kernel_rfl) (fun ds h => ?_) (by kernel_rfl) laid_pow
    (ChangeSpec.witness_shaped (enc := enc) (C := Tryz.checked) (os := os) (X := fun w _ => laidMetH Tryz.prog Rows.numFieldRow.laid w) false (witW os) #[.agg #[.int .i64 0, .int .i64 0, .int .u8 0], .agg #[.int .i64 0, .int .i64 0, .int .u8 0], .agg #[.int .i64 0, .int .i64 0, .int .u8 0]] 8 rfl (World.shaped_of_RefB (by kernel_rfl) (by kernel_rfl)) (by kernel_rfl) (by kernel_rfl) (by kernel_rfl) (wit_met os _))
    (fun W base args ds p hval hA => ?_)
  · rw [Tryz.params8] at h
    match ds, h with
    | [d0, d1, d2], _ => rfl
  · rw [Tryz.params8] at hA hval
    obtain ⟨v0, v1, v2, d0, d1, d2, h0, h1, h2, ha⟩ := args_open3 hA
    subst ha
    obtain ⟨x0, rfl, hx0⟩ := num_arg3 (hval 0 45 v0 rfl rfl) h0
    obtain ⟨x1, rfl, hx1⟩ := num_arg3 (hval 1 45 v1 rfl rfl) h1
    obtain ⟨x2, rfl, hx2⟩ := num_arg3 (hval 2 45 v2 rfl rfl) h2
    exact ⟨noHeap, [x0.iv, x1.iv, x2.iv], noHeap_has W, .cons _ _ _ _ num_vr (.cons _ _ _ _ num_vr (.cons _ _ _ _ num_vr .nil)), f8_ok lawL hx0 hx1 hx2⟩
end Go.Proofs.YtdheblnjmnlpfaaGreatDoor
