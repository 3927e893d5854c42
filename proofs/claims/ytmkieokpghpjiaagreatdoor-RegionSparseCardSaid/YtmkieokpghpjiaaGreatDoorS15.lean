/-
  The statement RegionSparse holds for every input.
-/
import Derived.Test.YtmkieokpghpjiaaGreatDoorS14
set_option linter.all false
namespace Go.Proofs.YtmkieokpghpjiaaGreatDoor
open Go Go.RowKit Go.ChangeShapes Go.WideShapes Go.Proofs.Fl
set_option maxRecDepth 100000
def OK:(Rows.regionSparseRow.inPlace==Tryz.pinned.checked.prog.inPlace 3)=true:=by kernel_rfl
def OJ:(Rows.regionSparseRow.unfollowed==Tryz.pinned.checked.prog.unfollowed 3)=true:=by kernel_rfl
end Go.Proofs.YtmkieokpghpjiaaGreatDoor
