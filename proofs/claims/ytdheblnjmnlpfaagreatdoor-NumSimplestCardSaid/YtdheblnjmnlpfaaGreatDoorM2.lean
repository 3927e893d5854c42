/-
  The card of NumSimplest is proved: the law's function returns true at every argument of its shape; no condition.
-/
import Derived.Test.YtdheblnjmnlpfaaGreatDoorM1
namespace Go.Proofs.YtdheblnjmnlpfaaGreatDoor
open Go Go.RowKit Go.ChangeShapes Go.WideShapes Go.Proofs.Fl
set_option maxRecDepth 100000
theorem numSimplest_lifted (os : Os) (started : os.Started) (H : Type) (enc : TypeId × Value → H) :
    ReturnsInHanded {} Tryz.checked os 4 .any (fun w args => (Rows.numSimplestSpec.pre enc Tryz.prog Tryz.f4 [] false w args ∧ laidMetH Tryz.prog Rows.numSimplestRow.laid w) ∧ sizedMet enc Tryz.prog Tryz.f4 (OpenSpec.ofChange Rows.numSimplestSpec) false w args)
      (Rows.numSimplestSpec.post enc Tryz.prog Tryz.f4 false true false false) := by
  refine law_lifted started Tryz.func4 (by kernel_rfl) rfl (by kernel_rfl) (fun ds h => ?_) (by kernel_rfl) laid_pow
    (ChangeSpec.witness_shaped (enc := enc) (C := Tryz.checked) (os := os) (X := fun w _ => laidMetH Tryz.prog Rows.numSimplestRow.laid w) false (witW os) #[.agg #[.int .i64 0, .int .i64 0, .int .u8 0, .int .i64 0, .int .i64 0, .int .u8 0]] 8 rfl (World.shaped_of_RefB (by kernel_rfl) (by kernel_rfl)) (by kernel_rfl) (by kernel_rfl) (by kernel_rfl) (wit_met os _))
    (fun W base args ds p hval hA => ?_)
  · rw [Tryz.params4] at h
    match ds, h with
    | [d0], _ => rfl
  · rw [Tryz.params4] at hA hval
    obtain ⟨v0, d0, h0, ha⟩ := args_open1 hA
    subst ha
    obtain ⟨x0, rfl, hx0⟩ := gap_arg (hval 0 47 v0 rfl rfl) h0
    exact ⟨noHeap, [x0.iv], (noHeap_has W), .cons _ _ _ _ gap_vr .nil, f4_ok lawL hx0⟩
end Go.Proofs.YtdheblnjmnlpfaaGreatDoor
