/-
  The card of NumSpans is proved: the law's function returns true at every argument of its shape; no condition.
-/
import Derived.Test.YtdheblnjmnlpfaaGreatDoorS1
namespace Go.Proofs.YtdheblnjmnlpfaaGreatDoor
open Go Go.RowKit Go.ChangeShapes Go.WideShapes Go.Proofs.Fl
set_option maxRecDepth 100000
theorem numSpans_lifted (os : Os) (started : os.Started) (H : Type) (enc : TypeId × Value → H) :
    ReturnsInHanded {} Tryz.checked os 15 .any (fun w args => (Rows.numSpansSpec.pre enc Tryz.prog Tryz.f15 [] false w args ∧ laidMetH Tryz.prog Rows.numSpansRow.laid w) ∧ sizedMet enc Tryz.prog Tryz.f15 (OpenSpec.ofChange Rows.numSpansSpec) false w args)
      (Rows.numSpansSpec.post enc Tryz.prog Tryz.f15 false true false false) := by
  refine law_lifted started Tryz.func15 (by kernel_rfl) rfl (by kernel_rfl) (fun ds h => ?_) (by kernel_rfl) laid_pow
    (ChangeSpec.witness_shaped (enc := enc) (C := Tryz.checked) (os := os) (X := fun w _ => laidMetH Tryz.prog Rows.numSpansRow.laid w) false (witW os) #[.agg #[.int .i64 0, .int .i64 0, .int .u8 0, .int .i64 0, .int .i64 0, .int .u8 0], .agg #[.int .i64 0, .int .i64 0, .int .u8 0, .int .i64 0, .int .i64 0, .int .u8 0], .agg #[.int .i64 0, .int .i64 0, .int .u8 0], .int .i64 0] 8 rfl (World.shaped_of_RefB (by kernel_rfl) (by kernel_rfl)) (by kernel_rfl) (by kernel_rfl) (by kernel_rfl) (wit_met os _))
    (fun W base args ds p hval hA => ?_)
  · rw [Tryz.params15] at h
    match ds, h with
    | [d0, d1, d2, d3], _ => rfl
  · rw [Tryz.params15] at hA hval
    obtain ⟨v0, v1, v2, v3, d0, d1, d2, d3, h0, h1, h2, h3, ha⟩ := args_open4 hA
    subst ha
    obtain ⟨x0, rfl, hx0⟩ := gap_arg (hval 0 47 v0 rfl rfl) h0
    obtain ⟨x1, rfl, hx1⟩ := gap_arg (hval 1 47 v1 rfl rfl) h1
    obtain ⟨x2, rfl, hx2⟩ := num_arg3 (hval 2 45 v2 rfl rfl) h2
    obtain ⟨k3, rfl, hk3⟩ := int_arg Tryz.underlying3 (hval 3 3 v3 rfl rfl) h3.choose_spec
    exact ⟨noHeap, [x0.iv, x1.iv, x2.iv, .int .i64 k3], noHeap_has W, .cons _ _ _ _ gap_vr (.cons _ _ _ _ gap_vr (.cons _ _ _ _ num_vr (.cons _ _ _ _ (.int _ _) .nil))), f15_ok lawL hx0 hx1 hx2⟩
end Go.Proofs.YtdheblnjmnlpfaaGreatDoor
