/-
  The card of NumNames is proved: the law's function returns true at every argument of its shape; no condition.
-/
import Derived.Test.YtdheblnjmnlpfaaGreatDoorN1
namespace Go.Proofs.YtdheblnjmnlpfaaGreatDoor
open Go Go.RowKit Go.ChangeShapes Go.WideShapes Go.Proofs.Fl
set_option maxRecDepth 100000
theorem numNames_lifted (os : Os) (started : os.Started) (H : Type) (enc : TypeId × Value → H) :
    ReturnsInHanded {} Tryz.checked os 17 .any (fun w args => (Rows.numNamesSpec.pre enc Tryz.prog Tryz.f17 [] false w args ∧ laidMetH Tryz.prog Rows.numNamesRow.laid w) ∧ sizedMet enc Tryz.prog Tryz.f17 (OpenSpec.ofChange Rows.numNamesSpec) false w args)
      (Rows.numNamesSpec.post enc Tryz.prog Tryz.f17 false true false false) := by
  refine law_lifted started Tryz.func17 (by kernel_rfl) rfl (by kernel_rfl) (fun ds h => ?_) (by kernel_rfl) laid_pow
    (ChangeSpec.witness_shaped (enc := enc) (C := Tryz.checked) (os := os) (X := fun w _ => laidMetH Tryz.prog Rows.numNamesRow.laid w) false (witW os) #[] 8 rfl (World.shaped_of_RefB (by kernel_rfl) (by kernel_rfl)) (by kernel_rfl) (by kernel_rfl) (by kernel_rfl) (wit_met os _))
    (fun W base args ds p hval hA => ?_)
  · rw [Tryz.params17] at h
    match ds, h with
    | [], _ => rfl
  · rw [Tryz.params17] at hA hval
    have ha := args_open0 hA
    subst ha
    exact ⟨noHeap, [], (noHeap_has W), .nil, f17_ok lawL⟩
end Go.Proofs.YtdheblnjmnlpfaaGreatDoor
