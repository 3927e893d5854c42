/-
  The card of NumProves is proved: the law's function returns true at every argument of its shape; no condition.
-/
import Derived.Test.YtdheblnjmnlpfaaGreatDoorV1
namespace Go.Proofs.YtdheblnjmnlpfaaGreatDoor
open Go Go.RowKit Go.ChangeShapes Go.WideShapes Go.Proofs.Fl
set_option maxRecDepth 100000
theorem numProves_lifted (os : Os) (started : os.Started) (H : Type) (enc : TypeId × Value → H) :
    ReturnsInHanded {} Tryz.checked os 12 .any (fun w args => (Rows.numProvesSpec.pre enc Tryz.prog Tryz.f12 [] false w args ∧ laidMetH Tryz.prog Rows.numProvesRow.laid w) ∧ sizedMet enc Tryz.prog Tryz.f12 (OpenSpec.ofChange Rows.numProvesSpec) false w args)
      (Rows.numProvesSpec.post enc Tryz.prog Tryz.f12 false true false false) := by
  refine law_lifted started Tryz.func12 (by kernel_rfl) rfl (by kernel_rfl) (fun ds h => ?_) (by kernel_rfl) laid_pow
    (ChangeSpec.witness_shaped (enc := enc) (C := Tryz.checked) (os := os) (X := fun w _ => laidMetH Tryz.prog Rows.numProvesRow.laid w) false (witW os) #[.agg #[.int .i64 0, .int .i64 0, .int .u8 0, .int .i64 0, .int .i64 0, .int .u8 0], .int .u8 0, .int .u8 0, .int .i64 0] 8 rfl (World.shaped_of_RefB (by kernel_rfl) (by kernel_rfl)) (by kernel_rfl) (by kernel_rfl) (by kernel_rfl) (wit_met os _))
    (fun W base args ds p hval hA => ?_)
  · rw [Tryz.params12] at h
    match ds, h with
    | [d0, d1, d2, d3], _ => rfl
  · rw [Tryz.params12] at hA hval
    obtain ⟨v0, v1, v2, v3, d0, d1, d2, d3, h0, h1, h2, h3, ha⟩ := args_open4 hA
    subst ha
    obtain ⟨x0, rfl, hx0⟩ := gap_arg (hval 0 47 v0 rfl rfl) h0
    obtain ⟨b1, rfl, hb1⟩ := byte_arg Tryz.underlying5 (hval 1 5 v1 rfl rfl) h1.choose_spec
    obtain ⟨b2, rfl, hb2⟩ := byte_arg Tryz.underlying5 (hval 2 5 v2 rfl rfl) h2.choose_spec
    obtain ⟨k3, rfl, hk3⟩ := int_arg Tryz.underlying3 (hval 3 3 v3 rfl rfl) h3.choose_spec
    exact ⟨noHeap, [x0.iv, .int .u8 (b1 : Int), .int .u8 (b2 : Int), .int .i64 k3], (noHeap_has W), .cons _ _ _ _ gap_vr (.cons _ _ _ _ (.int _ _) (.cons _ _ _ _ (.int _ _) (.cons _ _ _ _ (.int _ _) .nil))), f12_ok lawL hx0⟩
end Go.Proofs.YtdheblnjmnlpfaaGreatDoor
