/-
  NumGrid answers true for every input (the row's own conditions alone).
-/
import Derived.Test.YtdheblnjmnlpfaaGreatDoorG9
namespace Go.Proofs.YtdheblnjmnlpfaaGreatDoor
open Go Go.RowKit Go.ChangeShapes Go.WideShapes Go.Proofs.Fl
set_option maxRecDepth 100000
theorem numGrid_lifted (os : Os) (started : os.Started) (H : Type) (enc : TypeId × Value → H) :
    ReturnsInHanded {} Tryz.checked os 7 .any (fun w args => (Rows.numGridSpec.pre enc Tryz.prog Tryz.f7 [] false w args ∧ laidMetH Tryz.prog Rows.numGridRow.laid w) ∧ sizedMet enc Tryz.prog Tryz.f7 (OpenSpec.ofChange Rows.numGridSpec) false w args)
      (Rows.numGridSpec.post enc Tryz.prog Tryz.f7 false true false false) := by
  refine law_lifted started Tryz.func7 (by kernel_rfl) rfl (by kernel_rfl) (fun ds h => ?_) (by kernel_rfl) laid_pow
    (ChangeSpec.witness_shaped (enc := enc) (C := Tryz.checked) (os := os) (X := fun w _ => laidMetH Tryz.prog Rows.numGridRow.laid w) false (witW os) #[.agg #[.int .i64 0, .int .i64 0, .int .u8 0], .int .i64 0] 8 rfl (World.shaped_of_RefB (by kernel_rfl) (by kernel_rfl)) (by kernel_rfl) (by kernel_rfl) (by kernel_rfl) (wit_met os _))
    (fun W base args ds p hval hA => ?_)
  · rw [Tryz.params7] at h
    match ds, h with
    | [d0, d1], _ => rfl
  · rw [Tryz.params7] at hA hval
    obtain ⟨v0, v1, d0, d1, h0, h1, ha⟩ := args_open2 hA
    subst ha
    obtain ⟨x0, rfl, hx0⟩ := num_arg3 (hval 0 45 v0 rfl rfl) h0
    obtain ⟨k1, rfl, hk1⟩ := int_arg Tryz.underlying3 (hval 1 3 v1 rfl rfl) h1.choose_spec
    exact ⟨noHeap, [x0.iv, .int .i64 k1], noHeap_has W, .cons _ _ _ _ num_vr (.cons _ _ _ _ (.int _ _) .nil), f7_ok lawL hx0.1.1 hx0.1.2 hx0.2.1.1 hx0.2.1.2 k1⟩
end Go.Proofs.YtdheblnjmnlpfaaGreatDoor
