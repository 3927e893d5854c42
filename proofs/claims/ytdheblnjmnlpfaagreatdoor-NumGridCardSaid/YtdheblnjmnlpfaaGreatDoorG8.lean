/-
  NumGrid answers true for every input (the row's own conditions alone).
-/
import Derived.Test.YtdheblnjmnlpfaaGreatDoorG7
namespace Go.Proofs.YtdheblnjmnlpfaaGreatDoor
open Go Go.RowKit Go.ChangeShapes Go.WideShapes Go.Proofs.Fl
set_option maxRecDepth 100000
theorem make' : Tryz.pinned.checked.prog.make = some .cut := by kernel_rfl
end Go.Proofs.YtdheblnjmnlpfaaGreatDoor
