/-
  The card of NumGrids is proved: the law's function returns true at every argument of its shape; no condition.
-/
import Derived.Test.YtdheblnjmnlpfaaGreatDoorH1
namespace Go.Proofs.YtdheblnjmnlpfaaGreatDoor
open Go Go.RowKit Go.ChangeShapes Go.WideShapes Go.Proofs.Fl
set_option maxRecDepth 100000
theorem numGrids_lifted (os : Os) (started : os.Started) (H : Type) (enc : TypeId × Value → H) :
    ReturnsInHanded {} Tryz.checked os 9 .any (fun w args => (Rows.numGridsSpec.pre enc Tryz.prog Tryz.f9 [] false w args ∧ laidMetH Tryz.prog Rows.numGridsRow.laid w) ∧ sizedMet enc Tryz.prog Tryz.f9 (OpenSpec.ofChange Rows.numGridsSpec) false w args)
      (Rows.numGridsSpec.post enc Tryz.prog Tryz.f9 false true false false) := by
  refine law_lifted started Tryz.func9 (by kernel_rfl) rfl (by kernel_rfl) (fun ds h => ?_) (by kernel_rfl) laid_pow
    (ChangeSpec.witness_shaped (enc := enc) (C := Tryz.checked) (os := os) (X := fun w _ => laidMetH Tryz.prog Rows.numGridsRow.laid w) false (witW os) #[.agg #[.int .i64 0, .int .i64 0, .int .u8 0], .int .i64 0, .int .i64 0] 8 rfl (World.shaped_of_RefB (by kernel_rfl) (by kernel_rfl)) (by kernel_rfl) (by kernel_rfl) (by kernel_rfl) (wit_met os _))
    (fun W base args ds p hval hA => ?_)
  · rw [Tryz.params9] at h
    match ds, h with
    | [d0, d1, d2], _ => rfl
  · rw [Tryz.params9] at hA hval
    obtain ⟨v0, v1, v2, d0, d1, d2, h0, h1, h2, ha⟩ := args_open3 hA
    subst ha
    obtain ⟨x0, rfl, hx0⟩ := num_arg3 (hval 0 45 v0 rfl rfl) h0
    obtain ⟨k1, rfl, hk1⟩ := int_arg Tryz.underlying3 (hval 1 3 v1 rfl rfl) h1.choose_spec
    obtain ⟨k2, rfl, hk2⟩ := int_arg Tryz.underlying3 (hval 2 3 v2 rfl rfl) h2.choose_spec
    exact ⟨noHeap, [x0.iv, .int .i64 k1, .int .i64 k2], noHeap_has W, .cons _ _ _ _ num_vr (.cons _ _ _ _ (.int _ _) (.cons _ _ _ _ (.int _ _) .nil)), f9_ok lawL hx0 hk1⟩
end Go.Proofs.YtdheblnjmnlpfaaGreatDoor
