/-
  On an Intel or AMD processor under Linux, RegionForms returns true for every input: canonical polynomials, degrees, values and products are the document's.
-/
import Derived.Test.YtaniegbleeenfaaGreatDoorF19
namespace Go.Proofs.YtaniegbleeenfaaGreatDoor
open Go Go.RowKit Go.ChangeShapes Go.WideShapes Go.Proofs.Fl
set_option maxRecDepth 100000
theorem regionForms_card:Rows.RegionFormsCardSaid :=
 Claim7.holds_tied_plain_at .later [] _ _ _ _ M9 (fun _ h=>by cases h) (by kernel_rfl) (fun _ h=>by cases h) regionForms_row_tie rfl ⟨rfl,rfl⟩ ST rfl
  (fun f fn hf hfn=>by
    obtain rfl:f=3:=zK ((show Tryz.prog.funcNamed "ordinate/ordinatelaw06.RegionForms" = some 3 by kernel_rfl).symm.trans hf) |>.symm;obtain rfl:fn=Tryz.f3:=(zK (Tryz.func3.symm.trans hfn)).symm;exact⟨by kernel_rfl,fun j t ht=>by
     rw[Tryz.params3] at ht;have hm:t∈([3,22,22,23]:List TypeId):=by simpa using Mf ht
     have hall:(([3,22,22,23]:List TypeId).all fun u=>!Tryz.prog.wantsStandIn u)=true:=by kernel_rfl
     exact(show Tryz.prog.wantsStandIn t=false by simpa using List.all_eq_true.1 hall t hm)⟩)
  Na
end Go.Proofs.YtaniegbleeenfaaGreatDoor
