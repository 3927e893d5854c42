/-
  A part of the proof of regionForms_card.
-/
import Derived.Test.YtaniegbleeenfaaGreatDoorF17
namespace Go.Proofs.YtaniegbleeenfaaGreatDoor
open Go Go.RowKit Go.ChangeShapes Go.WideShapes Go.Proofs.Fl
set_option maxRecDepth 100000
theorem M7:joinedFacts Tryz.pinned.checked.prog 3 Tryz.f3 Rows.regionFormsSpec Rows.regionFormsRow=true:=by
 unfold joinedFacts;rw[Nj,Ni,Nh,Ng,QN,Uh,U9,VF,VD]
 kernel_rfl
end Go.Proofs.YtaniegbleeenfaaGreatDoor
