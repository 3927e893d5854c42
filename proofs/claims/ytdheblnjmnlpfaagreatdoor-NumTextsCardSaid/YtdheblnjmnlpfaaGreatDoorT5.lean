/-
  NumTexts answers true for every input (the row's own conditions alone).
-/
import Derived.Test.YtdheblnjmnlpfaaGreatDoorT4
namespace Go.Proofs.YtdheblnjmnlpfaaGreatDoor
open Go Go.RowKit Go.ChangeShapes Go.WideShapes Go.Proofs.Fl
set_option maxRecDepth 100000
theorem numTexts_joined : joinedFacts Tryz.pinned.checked.prog 6 Tryz.f6 Rows.numTextsSpec Rows.numTextsRow = true := by
  unfold joinedFacts
  rw [numTexts_j1, numTexts_j2, numTexts_j3, numTexts_j4, laidOut', rowed', enter', lift', make']
  kernel_rfl
end Go.Proofs.YtdheblnjmnlpfaaGreatDoor
