/-
  The statement RegionSparse holds for every input.
-/
import Derived.Test.YtmkieokpghpjiaaGreatDoorS16
set_option linter.all false
namespace Go.Proofs.YtmkieokpghpjiaaGreatDoor
open Go Go.RowKit Go.ChangeShapes Go.WideShapes Go.Proofs.Fl
set_option maxRecDepth 100000
def OA:joinedFacts Tryz.pinned.checked.prog 3 Tryz.f3 Rows.regionSparseSpec Rows.regionSparseRow=true:=by
 unfold joinedFacts;rw[OK,OJ,OI,OH,Si,VB,WC,Xg,Xe]
 kernel_rfl
end Go.Proofs.YtmkieokpghpjiaaGreatDoor
