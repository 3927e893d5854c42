/-
  Contracts of the functions of num and of its reference, and the join to a row (no conditions of ours).
-/
import Derived.Test.YtdheblnjmnlpfaaGreatDoorB5
namespace Go.Proofs.YtdheblnjmnlpfaaGreatDoor
open Go Go.RowKit Go.ChangeShapes Go.WideShapes Go.Proofs.Fl
set_option maxRecDepth 100000
theorem enter' : Tryz.pinned.checked.prog.mayEnter = true := by kernel_rfl
end Go.Proofs.YtdheblnjmnlpfaaGreatDoor
