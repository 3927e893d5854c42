/-
  The card of TopSeries is proved: the law's function returns true at every argument of its shape; no condition.
-/
import Derived.Test.YtemnaolonamolaaGreatDoorZ8
namespace Go.Proofs.YtemnaolonamolaaGreatDoor
open Go Go.RowKit Go.ChangeShapes Go.WideShapes Go.Proofs.Fl
set_option maxRecDepth 100000
theorem topSeries_lifted (os : Os) (started : os.Started) (H : Type) (enc : TypeId × Value → H) :
    ReturnsInHanded {} Tryz.checked os 3 .any (fun w args => (Rows.topSeriesSpec.pre enc Tryz.prog Tryz.f3 [] false w args ∧ laidMetH Tryz.prog Rows.topSeriesRow.laid w) ∧ sizedMet enc Tryz.prog Tryz.f3 (OpenSpec.ofChange Rows.topSeriesSpec) false w args)
      (Rows.topSeriesSpec.post enc Tryz.prog Tryz.f3 false true false false) := by
  refine law_lifted started Tryz.func3 (by kernel_rfl) rfl (by kernel_rfl) (fun ds h => ?_) (by kernel_rfl) laid_pow
    (ChangeSpec.witness_shaped (enc := enc) (C := Tryz.checked) (os := os) (X := fun w _ => laidMetH Tryz.prog Rows.topSeriesRow.laid w) false (witW os) #[.int .u8 0] 8 rfl (World.shaped_of_RefB (by kernel_rfl) (by kernel_rfl)) (by kernel_rfl) (by kernel_rfl) (by kernel_rfl) (wit_met os _))
    (fun W base args ds p hval hA => ?_)
  · rw [Tryz.params3] at h
    match ds, h with
    | [d0], _ => rfl
  · rw [Tryz.params3] at hA hval
    obtain ⟨v0, d0, h0, ha⟩ := args_open1 hA
    subst ha
    obtain ⟨b0, rfl, hb0⟩ := byte_arg Tryz.underlying5 (hval 0 5 v0 rfl rfl) h0.choose_spec
    exact ⟨noHeap, [.int .u8 (b0 : Int)], (noHeap_has W), .cons _ _ _ _ (.int _ _) .nil, t3_ok (baseOf lawJ) lawL⟩
end Go.Proofs.YtemnaolonamolaaGreatDoor
