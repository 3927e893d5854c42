/-
  The card of NumParts is proved: the law's function returns true at every argument of its shape; no condition.
-/
import Derived.Test.YtdheblnjmnlpfaaGreatDoorA6
namespace Go.Proofs.YtdheblnjmnlpfaaGreatDoor
open Go Go.RowKit Go.ChangeShapes Go.WideShapes Go.Proofs.Fl
set_option maxRecDepth 100000
theorem numParts_card : Rows.NumPartsCardSaid :=
  Claim7.holds_tied_plain_at .later [] _ _ _ _ numParts_said (fun _ h => by cases h) (by kernel_rfl) (fun _ h => by cases h) numParts_row_tie rfl ⟨rfl, rfl⟩ mainIs' rfl
    (fun f fn hf hfn => by
      obtain rfl : f = 14 := Option.some.inj ((show Tryz.prog.funcNamed "ordinate/ordinatelaw01.NumParts" = some 14 by kernel_rfl).symm.trans hf) |>.symm
      obtain rfl : fn = Tryz.f14 := (Option.some.inj (Tryz.func14.symm.trans hfn)).symm
      exact ⟨by kernel_rfl, fun j t ht => by
        rw [Tryz.params14] at ht
        have hm : t ∈ ([45] : List TypeId) := by simpa using Array.mem_of_getElem? ht
        have hall : (([45] : List TypeId).all fun u => !Tryz.prog.wantsStandIn u) = true := by kernel_rfl
        exact (show Tryz.prog.wantsStandIn t = false by simpa using List.all_eq_true.1 hall t hm)⟩)
    numParts_goes
end Go.Proofs.YtdheblnjmnlpfaaGreatDoor
