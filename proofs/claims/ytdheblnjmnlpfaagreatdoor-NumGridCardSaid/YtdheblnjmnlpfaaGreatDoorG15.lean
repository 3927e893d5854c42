/-
  NumGrid answers true for every input (the row's own conditions alone).
-/
import Derived.Test.YtdheblnjmnlpfaaGreatDoorG14
namespace Go.Proofs.YtdheblnjmnlpfaaGreatDoor
open Go Go.RowKit Go.ChangeShapes Go.WideShapes Go.Proofs.Fl
set_option maxRecDepth 100000
theorem numGrid_card : Rows.NumGridCardSaid :=
  Claim7.holds_tied_plain_at .later [] _ _ _ _ numGrid_said (fun _ h => by cases h) (by kernel_rfl) (fun _ h => by cases h) numGrid_row_tie rfl ⟨rfl, rfl⟩ mainIs' rfl
    (fun f fn hf hfn => by
      obtain rfl : f = 7 := Option.some.inj ((show Tryz.prog.funcNamed "ordinate/ordinatelaw01.NumGrid" = some 7 by kernel_rfl).symm.trans hf) |>.symm
      obtain rfl : fn = Tryz.f7 := (Option.some.inj (Tryz.func7.symm.trans hfn)).symm
      exact ⟨by kernel_rfl, fun j t ht => by
        rw [Tryz.params7] at ht
        have hm : t ∈ ([45, 3] : List TypeId) := by simpa using Array.mem_of_getElem? ht
        have hall : (([45, 3] : List TypeId).all fun u => !Tryz.prog.wantsStandIn u) = true := by kernel_rfl
        exact (show Tryz.prog.wantsStandIn t = false by simpa using List.all_eq_true.1 hall t hm)⟩)
    numGrid_goes
end Go.Proofs.YtdheblnjmnlpfaaGreatDoor
