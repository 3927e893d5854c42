/-
  The card of NumEncloses is proved: the law's function returns true at every argument of its shape; no condition.
-/
import Derived.Test.YtdheblnjmnlpfaaGreatDoorE1
namespace Go.Proofs.YtdheblnjmnlpfaaGreatDoor
open Go Go.RowKit Go.ChangeShapes Go.WideShapes Go.Proofs.Fl
set_option maxRecDepth 100000
theorem numEncloses_lifted (os : Os) (started : os.Started) (H : Type) (enc : TypeId × Value → H) :
    ReturnsInHanded {} Tryz.checked os 18 .any (fun w args => (Rows.numEnclosesSpec.pre enc Tryz.prog Tryz.f18 [] false w args ∧ laidMetH Tryz.prog Rows.numEnclosesRow.laid w) ∧ sizedMet enc Tryz.prog Tryz.f18 (OpenSpec.ofChange Rows.numEnclosesSpec) false w args)
      (Rows.numEnclosesSpec.post enc Tryz.prog Tryz.f18 false true false false) := by
  refine law_lifted started Tryz.func18 (by kernel_rfl) rfl (by kernel_rfl) (fun ds h => ?_) (by kernel_rfl) laid_pow
    (ChangeSpec.witness_shaped (enc := enc) (C := Tryz.checked) (os := os) (X := fun w _ => laidMetH Tryz.prog Rows.numEnclosesRow.laid w) false (witW os) #[.agg #[.int .i64 0, .int .i64 0, .int .u8 0, .int .i64 0, .int .i64 0, .int .u8 0], .agg #[.int .i64 0, .int .i64 0, .int .u8 0, .int .i64 0, .int .i64 0, .int .u8 0], .int .u8 0, .int .u8 0, .agg #[.int .i64 0, .int .i64 0, .int .u8 0], .int .i64 0] 8 rfl (World.shaped_of_RefB (by kernel_rfl) (by kernel_rfl)) (by kernel_rfl) (by kernel_rfl) (by kernel_rfl) (wit_met os _))
    (fun W base args ds p hval hA => ?_)
  · rw [Tryz.params18] at h
    match ds, h with
    | [d0, d1, d2, d3, d4, d5], _ => rfl
  · rw [Tryz.params18] at hA hval
    obtain ⟨v0, v1, v2, v3, v4, v5, d0, d1, d2, d3, d4, d5, h0, h1, h2, h3, h4, h5, ha⟩ := args_open6 hA
    subst ha
    obtain ⟨x0, rfl, hx0⟩ := gap_arg (hval 0 47 v0 rfl rfl) h0
    obtain ⟨x1, rfl, hx1⟩ := gap_arg (hval 1 47 v1 rfl rfl) h1
    obtain ⟨b2, rfl, hb2⟩ := byte_arg Tryz.underlying5 (hval 2 5 v2 rfl rfl) h2.choose_spec
    obtain ⟨b3, rfl, hb3⟩ := byte_arg Tryz.underlying5 (hval 3 5 v3 rfl rfl) h3.choose_spec
    obtain ⟨x4, rfl, hx4⟩ := num_arg3 (hval 4 45 v4 rfl rfl) h4
    obtain ⟨k5, rfl, hk5⟩ := int_arg Tryz.underlying3 (hval 5 3 v5 rfl rfl) h5.choose_spec
    exact ⟨noHeap, [x0.iv, x1.iv, .int .u8 (b2 : Int), .int .u8 (b3 : Int), x4.iv, .int .i64 k5], (noHeap_has W), .cons _ _ _ _ gap_vr (.cons _ _ _ _ gap_vr (.cons _ _ _ _ (.int _ _) (.cons _ _ _ _ (.int _ _) (.cons _ _ _ _ num_vr (.cons _ _ _ _ (.int _ _) .nil))))), f18_ok lawL hx0 hx1 hx4⟩
end Go.Proofs.YtdheblnjmnlpfaaGreatDoor
