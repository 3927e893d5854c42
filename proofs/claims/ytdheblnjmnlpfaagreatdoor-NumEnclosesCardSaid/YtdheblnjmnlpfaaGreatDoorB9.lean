/-
  Contracts of the functions of num and of its reference, and the join to a row (no conditions of ours).
-/
import Derived.Test.YtdheblnjmnlpfaaGreatDoorB8
namespace Go.Proofs.YtdheblnjmnlpfaaGreatDoor
open Go Go.RowKit Go.ChangeShapes Go.WideShapes Go.Proofs.Fl
set_option maxRecDepth 100000
theorem mainIs' : Tryz.pinned.checked.prog.mainIs = some (true, "d16810730f89bce1b9cc8410eb3f2ce7fcbbc20ed803cf82e67a7162be033119".toList) := by kernel_rfl
end Go.Proofs.YtdheblnjmnlpfaaGreatDoor
