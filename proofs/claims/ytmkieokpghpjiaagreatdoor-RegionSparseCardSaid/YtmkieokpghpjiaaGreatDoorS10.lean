/-
  The statement RegionSparse holds for every input.
-/
import Derived.Test.YtmkieokpghpjiaaGreatDoorS9
set_option linter.all false
namespace Go.Proofs.YtmkieokpghpjiaaGreatDoor
open Go Go.RowKit Go.ChangeShapes Go.WideShapes Go.Proofs.Fl
set_option maxRecDepth 100000
def WC:Tryz.pinned.checked.prog.mayEnter=true:=by kernel_rfl
end Go.Proofs.YtmkieokpghpjiaaGreatDoor
