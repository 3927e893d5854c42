/-
  The card of NumPowers is proved: the law's function returns true at every argument of its shape; no condition.
-/
import Derived.Test.YtdheblnjmnlpfaaGreatDoorP1
namespace Go.Proofs.YtdheblnjmnlpfaaGreatDoor
open Go Go.RowKit Go.ChangeShapes Go.WideShapes Go.Proofs.Fl
set_option maxRecDepth 100000
theorem numPowers_lifted (os : Os) (started : os.Started) (H : Type) (enc : TypeId × Value → H) :
    ReturnsInHanded {} Tryz.checked os 16 .any (fun w args => (Rows.numPowersSpec.pre enc Tryz.prog Tryz.f16 [] false w args ∧ laidMetH Tryz.prog Rows.numPowersRow.laid w) ∧ sizedMet enc Tryz.prog Tryz.f16 (OpenSpec.ofChange Rows.numPowersSpec) false w args)
      (Rows.numPowersSpec.post enc Tryz.prog Tryz.f16 false true false false) := by
  refine law_lifted started Tryz.func16 (by kernel_rfl) rfl (by kernel_rfl) (fun ds h => ?_) (by kernel_rfl) laid_pow
    (ChangeSpec.witness_shaped (enc := enc) (C := Tryz.checked) (os := os) (X := fun w _ => laidMetH Tryz.prog Rows.numPowersRow.laid w) false (witW os) #[.agg #[.int .i64 0, .int .i64 0, .int .u8 0, .int .i64 0, .int .i64 0, .int .u8 0], .agg #[.int .i64 0, .int .i64 0, .int .u8 0, .int .i64 0, .int .i64 0, .int .u8 0], .int .i64 0] 8 rfl (World.shaped_of_RefB (by kernel_rfl) (by kernel_rfl)) (by kernel_rfl) (by kernel_rfl) (by kernel_rfl) (wit_met os _))
    (fun W base args ds p hval hA => ?_)
  · rw [Tryz.params16] at h
    match ds, h with
    | [d0, d1, d2], _ => rfl
  · rw [Tryz.params16] at hA hval
    obtain ⟨v0, v1, v2, d0, d1, d2, h0, h1, h2, ha⟩ := args_open3 hA
    subst ha
    obtain ⟨x0, rfl, hx0⟩ := gap_arg (hval 0 47 v0 rfl rfl) h0
    obtain ⟨x1, rfl, hx1⟩ := gap_arg (hval 1 47 v1 rfl rfl) h1
    obtain ⟨k2, rfl, hk2⟩ := int_arg Tryz.underlying3 (hval 2 3 v2 rfl rfl) h2.choose_spec
    exact ⟨noHeap, [x0.iv, x1.iv, .int .i64 k2], noHeap_has W, .cons _ _ _ _ gap_vr (.cons _ _ _ _ gap_vr (.cons _ _ _ _ (.int _ _) .nil)), f16_ok lawL hx0 hx1⟩
end Go.Proofs.YtdheblnjmnlpfaaGreatDoor
