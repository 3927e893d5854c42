/-
  The statement RegionSparse holds for every input.
-/
import Derived.Test.YtmkieokpghpjiaaGreatDoorS10
set_option linter.all false
namespace Go.Proofs.YtmkieokpghpjiaaGreatDoor
open Go Go.RowKit Go.ChangeShapes Go.WideShapes Go.Proofs.Fl
set_option maxRecDepth 100000
def Xg:Tryz.pinned.checked.prog.liftsFinal=false:=by kernel_rfl
end Go.Proofs.YtmkieokpghpjiaaGreatDoor
