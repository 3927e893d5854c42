/-
  The statement RegionSparse holds for every input.
-/
import Derived.Test.YtmkieokpghpjiaaGreatDoorS15
set_option linter.all false
namespace Go.Proofs.YtmkieokpghpjiaaGreatDoor
open Go Go.RowKit Go.ChangeShapes Go.WideShapes Go.Proofs.Fl
set_option maxRecDepth 100000
def OI:(Rows.regionSparseRow.recurses==Tryz.pinned.checked.prog.recurses 3)=true:=by kernel_rfl
def OH:(Rows.regionSparseRow.named==Tryz.pinned.checked.prog.varsNamed 3)=true:=by kernel_rfl
end Go.Proofs.YtmkieokpghpjiaaGreatDoor
