/-
  NumTexts answers true for every input (the row's own conditions alone).
-/
import Derived.Test.YtdheblnjmnlpfaaGreatDoorT1
namespace Go.Proofs.YtdheblnjmnlpfaaGreatDoor
open Go Go.RowKit Go.ChangeShapes Go.WideShapes Go.Proofs.Fl
set_option maxRecDepth 100000
theorem numTexts_lifted (os : Os) (started : os.Started) (H : Type) (enc : TypeId × Value → H) :
    ReturnsInHanded {} Tryz.checked os 6 .any (fun w args => (Rows.numTextsSpec.pre enc Tryz.prog Tryz.f6 [] false w args ∧ laidMetH Tryz.prog Rows.numTextsRow.laid w) ∧ sizedMet enc Tryz.prog Tryz.f6 (OpenSpec.ofChange Rows.numTextsSpec) false w args)
      (Rows.numTextsSpec.post enc Tryz.prog Tryz.f6 false true false false) := by
  refine law_lifted started Tryz.func6 (by kernel_rfl) rfl (by kernel_rfl) (fun ds h => ?_) (by kernel_rfl) laid_pow
    (ChangeSpec.witness_shaped (enc := enc) (C := Tryz.checked) (os := os) (X := fun w _ => laidMetH Tryz.prog Rows.numTextsRow.laid w) false (witW os) #[.agg #[.int .i64 0, .int .i64 0, .int .u8 0], .agg #[.int .i64 0, .int .i64 0, .int .u8 0]] 8 rfl (World.shaped_of_RefB (by kernel_rfl) (by kernel_rfl)) (by kernel_rfl) (by kernel_rfl) (by kernel_rfl) (wit_met os _))
    (fun W base args ds p hval hA => ?_)
  · rw [Tryz.params6] at h
    match ds, h with
    | [d0, d1], _ => rfl
  · rw [Tryz.params6] at hA hval
    obtain ⟨v0, v1, d0, d1, h0, h1, ha⟩ := args_open2 hA
    subst ha
    obtain ⟨x0, rfl, hx0⟩ := num_arg3 (hval 0 45 v0 rfl rfl) h0
    obtain ⟨x1, rfl, hx1⟩ := num_arg3 (hval 1 45 v1 rfl rfl) h1
    exact ⟨noHeap, [x0.iv, x1.iv], noHeap_has W, .cons _ _ _ _ num_vr (.cons _ _ _ _ num_vr .nil), f6_ok lawL hx0 hx1⟩
end Go.Proofs.YtdheblnjmnlpfaaGreatDoor
