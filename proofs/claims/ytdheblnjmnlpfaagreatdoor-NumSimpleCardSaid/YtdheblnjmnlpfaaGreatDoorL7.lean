/-
  The card of NumSimple is proved: the law's function returns true at every argument of its shape; no condition.
-/
import Derived.Test.YtdheblnjmnlpfaaGreatDoorL6
namespace Go.Proofs.YtdheblnjmnlpfaaGreatDoor
open Go Go.RowKit Go.ChangeShapes Go.WideShapes Go.Proofs.Fl
set_option maxRecDepth 100000
theorem numSimple_card : Rows.NumSimpleCardSaid :=
  Claim7.holds_tied_plain_at .later [] _ _ _ _ numSimple_said (fun _ h => by cases h) (by kernel_rfl) (fun _ h => by cases h) numSimple_row_tie rfl ⟨rfl, rfl⟩ mainIs' rfl
    (fun f fn hf hfn => by
      obtain rfl : f = 10 := Option.some.inj ((show Tryz.prog.funcNamed "ordinate/ordinatelaw01.NumSimple" = some 10 by kernel_rfl).symm.trans hf) |>.symm
      obtain rfl : fn = Tryz.f10 := (Option.some.inj (Tryz.func10.symm.trans hfn)).symm
      exact ⟨by kernel_rfl, fun j t ht => by
        rw [Tryz.params10] at ht
        have hm : t ∈ ([47, 5, 2, 2] : List TypeId) := by simpa using Array.mem_of_getElem? ht
        have hall : (([47, 5, 2, 2] : List TypeId).all fun u => !Tryz.prog.wantsStandIn u) = true := by kernel_rfl
        exact (show Tryz.prog.wantsStandIn t = false by simpa using List.all_eq_true.1 hall t hm)⟩)
    numSimple_goes
end Go.Proofs.YtdheblnjmnlpfaaGreatDoor
