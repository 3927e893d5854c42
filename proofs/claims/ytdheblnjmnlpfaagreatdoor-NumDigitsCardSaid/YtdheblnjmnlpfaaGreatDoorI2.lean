/-
  The card of NumDigits is proved: the law's function returns true at every argument of its shape; no condition.
-/
import Derived.Test.YtdheblnjmnlpfaaGreatDoorI1
namespace Go.Proofs.YtdheblnjmnlpfaaGreatDoor
open Go Go.RowKit Go.ChangeShapes Go.WideShapes Go.Proofs.Fl
set_option maxRecDepth 100000
theorem numDigits_lifted (os : Os) (started : os.Started) (H : Type) (enc : TypeId × Value → H) :
    ReturnsInHanded {} Tryz.checked os 5 .any (fun w args => (Rows.numDigitsSpec.pre enc Tryz.prog Tryz.f5 [] false w args ∧ laidMetH Tryz.prog Rows.numDigitsRow.laid w) ∧ sizedMet enc Tryz.prog Tryz.f5 (OpenSpec.ofChange Rows.numDigitsSpec) false w args)
      (Rows.numDigitsSpec.post enc Tryz.prog Tryz.f5 false true false false) := by
  refine law_lifted started Tryz.func5 (by kernel_rfl) rfl (by kernel_rfl) (fun ds h => ?_) (by kernel_rfl) laid_pow
    (ChangeSpec.witness_shaped (enc := enc) (C := Tryz.checked) (os := os) (X := fun w _ => laidMetH Tryz.prog Rows.numDigitsRow.laid w) false (witW os) #[.agg #[.int .i64 0, .int .i64 0, .int .u8 0, .int .i64 0, .int .i64 0, .int .u8 0], .int .i64 0] 8 rfl (World.shaped_of_RefB (by kernel_rfl) (by kernel_rfl)) (by kernel_rfl) (by kernel_rfl) (by kernel_rfl) (wit_met os _))
    (fun W base args ds p hval hA => ?_)
  · rw [Tryz.params5] at h
    match ds, h with
    | [d0, d1], _ => rfl
  · rw [Tryz.params5] at hA hval
    obtain ⟨v0, v1, d0, d1, h0, h1, ha⟩ := args_open2 hA
    subst ha
    obtain ⟨x0, rfl, hx0⟩ := gap_arg (hval 0 47 v0 rfl rfl) h0
    obtain ⟨k1, rfl, hk1⟩ := int_arg Tryz.underlying3 (hval 1 3 v1 rfl rfl) h1.choose_spec
    exact ⟨noHeap, [x0.iv, .int .i64 k1], (noHeap_has W), .cons _ _ _ _ gap_vr (.cons _ _ _ _ (.int _ _) .nil), f5_ok lawL hx0⟩
end Go.Proofs.YtdheblnjmnlpfaaGreatDoor
