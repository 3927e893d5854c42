/-
  The statement RegionSparse holds for every input.
-/
import Derived.Test.YtmkieokpghpjiaaGreatDoorS12
set_option linter.all false
namespace Go.Proofs.YtmkieokpghpjiaaGreatDoor
open Go Go.RowKit Go.ChangeShapes Go.WideShapes Go.Proofs.Fl
set_option maxRecDepth 100000
def Uv:Tryz.pinned.checked.prog.mainIs=some (true,"8c3dd8efdf665041151b56192a5909621cf09c9e9930abfab2856eb0bcb2a90b".toList):=by kernel_rfl
end Go.Proofs.YtmkieokpghpjiaaGreatDoor
