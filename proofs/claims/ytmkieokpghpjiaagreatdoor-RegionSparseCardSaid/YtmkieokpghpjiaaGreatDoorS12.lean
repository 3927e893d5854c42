/-
  The statement RegionSparse holds for every input.
-/
import Derived.Test.YtmkieokpghpjiaaGreatDoorS11
set_option linter.all false
namespace Go.Proofs.YtmkieokpghpjiaaGreatDoor
open Go Go.RowKit Go.ChangeShapes Go.WideShapes Go.Proofs.Fl
set_option maxRecDepth 100000
def Xe:Tryz.pinned.checked.prog.make=some .cut:=by kernel_rfl
end Go.Proofs.YtmkieokpghpjiaaGreatDoor
