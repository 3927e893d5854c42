/-
  The card of TopSeries is proved: the law's function returns true at every argument of its shape; no condition.
-/
import Derived.Test.YtemnaolonamolaaGreatDoorZ13
namespace Go.Proofs.YtemnaolonamolaaGreatDoor
open Go Go.RowKit Go.ChangeShapes Go.WideShapes Go.Proofs.Fl
set_option maxRecDepth 100000
theorem topSeries_card : Rows.TopSeriesCardSaid :=
  Claim7.holds_tied_plain_at .later [] _ _ _ _ topSeries_said (fun _ h => by cases h) (by kernel_rfl) (fun _ h => by cases h) topSeries_row_tie rfl ⟨rfl, rfl⟩ mainIs' rfl
    (fun f fn hf hfn => by
      obtain rfl : f = 3 := Option.some.inj ((show Tryz.prog.funcNamed "ordinate/ordinatetop.TopSeries" = some 3 by kernel_rfl).symm.trans hf) |>.symm
      obtain rfl : fn = Tryz.f3 := (Option.some.inj (Tryz.func3.symm.trans hfn)).symm
      exact ⟨by kernel_rfl, fun j t ht => by
        rw [Tryz.params3] at ht
        have hm : t ∈ ([5] : List TypeId) := by simpa using Array.mem_of_getElem? ht
        have hall : (([5] : List TypeId).all fun u => !Tryz.prog.wantsStandIn u) = true := by kernel_rfl
        exact (show Tryz.prog.wantsStandIn t = false by simpa using List.all_eq_true.1 hall t hm)⟩)
    topSeries_goes
end Go.Proofs.YtemnaolonamolaaGreatDoor
