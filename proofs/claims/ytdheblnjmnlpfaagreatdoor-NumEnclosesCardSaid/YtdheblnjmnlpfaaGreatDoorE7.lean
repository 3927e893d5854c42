/-
  The card of NumEncloses is proved: the law's function returns true at every argument of its shape; no condition.
-/
import Derived.Test.YtdheblnjmnlpfaaGreatDoorE6
namespace Go.Proofs.YtdheblnjmnlpfaaGreatDoor
open Go Go.RowKit Go.ChangeShapes Go.WideShapes Go.Proofs.Fl
set_option maxRecDepth 100000
theorem numEncloses_card : Rows.NumEnclosesCardSaid :=
  Claim7.holds_tied_plain_at .later [] _ _ _ _ numEncloses_said (fun _ h => by cases h) (by kernel_rfl) (fun _ h => by cases h) numEncloses_row_tie rfl ⟨rfl, rfl⟩ mainIs' rfl
    (fun f fn hf hfn => by
      obtain rfl : f = 18 := Option.some.inj ((show Tryz.prog.funcNamed "ordinate/ordinatelaw01.NumEncloses" = some 18 by kernel_rfl).symm.trans hf) |>.symm
      obtain rfl : fn = Tryz.f18 := (Option.some.inj (Tryz.func18.symm.trans hfn)).symm
      exact ⟨by kernel_rfl, fun j t ht => by
        rw [Tryz.params18] at ht
        have hm : t ∈ ([47, 47, 5, 5, 45, 3] : List TypeId) := by simpa using Array.mem_of_getElem? ht
        have hall : (([47, 47, 5, 5, 45, 3] : List TypeId).all fun u => !Tryz.prog.wantsStandIn u) = true := by kernel_rfl
        exact (show Tryz.prog.wantsStandIn t = false by simpa using List.all_eq_true.1 hall t hm)⟩)
    numEncloses_goes
end Go.Proofs.YtdheblnjmnlpfaaGreatDoor
