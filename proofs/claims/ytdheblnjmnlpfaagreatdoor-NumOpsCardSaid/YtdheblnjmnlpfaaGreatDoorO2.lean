/-
  The card of NumOps is proved: the law's function returns true at every argument of its shape; no condition.
-/
import Derived.Test.YtdheblnjmnlpfaaGreatDoorO1
namespace Go.Proofs.YtdheblnjmnlpfaaGreatDoor
open Go Go.RowKit Go.ChangeShapes Go.WideShapes Go.Proofs.Fl
set_option maxRecDepth 100000
theorem numOps_lifted (os : Os) (started : os.Started) (H : Type) (enc : TypeId × Value → H) :
    ReturnsInHanded {} Tryz.checked os 11 .any (fun w args => (Rows.numOpsSpec.pre enc Tryz.prog Tryz.f11 [] false w args ∧ laidMetH Tryz.prog Rows.numOpsRow.laid w) ∧ sizedMet enc Tryz.prog Tryz.f11 (OpenSpec.ofChange Rows.numOpsSpec) false w args)
      (Rows.numOpsSpec.post enc Tryz.prog Tryz.f11 false true false false) := by
  refine law_lifted started Tryz.func11 (by kernel_rfl) rfl (by kernel_rfl) (fun ds h => ?_) (by kernel_rfl) laid_pow
    (ChangeSpec.witness_shaped (enc := enc) (C := Tryz.checked) (os := os) (X := fun w _ => laidMetH Tryz.prog Rows.numOpsRow.laid w) false (witW os) #[.agg #[.int .i64 0, .int .i64 0, .int .u8 0], .agg #[.int .i64 0, .int .i64 0, .int .u8 0], .int .i64 0, .int .i64 0, .int .i64 0] 8 rfl (World.shaped_of_RefB (by kernel_rfl) (by kernel_rfl)) (by kernel_rfl) (by kernel_rfl) (by kernel_rfl) (wit_met os _))
    (fun W base args ds p hval hA => ?_)
  · rw [Tryz.params11] at h
    match ds, h with
    | [d0, d1, d2, d3, d4], _ => rfl
  · rw [Tryz.params11] at hA hval
    obtain ⟨v0, v1, v2, v3, v4, d0, d1, d2, d3, d4, h0, h1, h2, h3, h4, ha⟩ := args_open5 hA
    subst ha
    obtain ⟨x0, rfl, hx0⟩ := num_arg3 (hval 0 45 v0 rfl rfl) h0
    obtain ⟨x1, rfl, hx1⟩ := num_arg3 (hval 1 45 v1 rfl rfl) h1
    obtain ⟨k2, rfl, hk2⟩ := int_arg Tryz.underlying2 (hval 2 2 v2 rfl rfl) h2.choose_spec
    obtain ⟨k3, rfl, hk3⟩ := int_arg Tryz.underlying2 (hval 3 2 v3 rfl rfl) h3.choose_spec
    obtain ⟨k4, rfl, hk4⟩ := int_arg Tryz.underlying3 (hval 4 3 v4 rfl rfl) h4.choose_spec
    exact ⟨noHeap, [x0.iv, x1.iv, .int .i64 k2, .int .i64 k3, .int .i64 k4], noHeap_has W, .cons _ _ _ _ num_vr (.cons _ _ _ _ num_vr (.cons _ _ _ _ (.int _ _) (.cons _ _ _ _ (.int _ _) (.cons _ _ _ _ (.int _ _) .nil)))), f11_ok lawL hx0 hx1 hk2 hk3⟩
end Go.Proofs.YtdheblnjmnlpfaaGreatDoor
