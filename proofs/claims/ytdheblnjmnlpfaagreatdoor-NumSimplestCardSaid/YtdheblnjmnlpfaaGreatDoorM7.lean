/-
  The card of NumSimplest is proved: the law's function returns true at every argument of its shape; no condition.
-/
import Derived.Test.YtdheblnjmnlpfaaGreatDoorM6
namespace Go.Proofs.YtdheblnjmnlpfaaGreatDoor
open Go Go.RowKit Go.ChangeShapes Go.WideShapes Go.Proofs.Fl
set_option maxRecDepth 100000
theorem numSimplest_card : Rows.NumSimplestCardSaid :=
  Claim7.holds_tied_plain_at .later [] _ _ _ _ numSimplest_said (fun _ h => by cases h) (by kernel_rfl) (fun _ h => by cases h) numSimplest_row_tie rfl ⟨rfl, rfl⟩ mainIs' rfl
    (fun f fn hf hfn => by
      obtain rfl : f = 4 := Option.some.inj ((show Tryz.prog.funcNamed "ordinate/ordinatelaw01.NumSimplest" = some 4 by kernel_rfl).symm.trans hf) |>.symm
      obtain rfl : fn = Tryz.f4 := (Option.some.inj (Tryz.func4.symm.trans hfn)).symm
      exact ⟨by kernel_rfl, fun j t ht => by
        rw [Tryz.params4] at ht
        have hm : t ∈ ([47] : List TypeId) := by simpa using Array.mem_of_getElem? ht
        have hall : (([47] : List TypeId).all fun u => !Tryz.prog.wantsStandIn u) = true := by kernel_rfl
        exact (show Tryz.prog.wantsStandIn t = false by simpa using List.all_eq_true.1 hall t hm)⟩)
    numSimplest_goes
end Go.Proofs.YtdheblnjmnlpfaaGreatDoor
