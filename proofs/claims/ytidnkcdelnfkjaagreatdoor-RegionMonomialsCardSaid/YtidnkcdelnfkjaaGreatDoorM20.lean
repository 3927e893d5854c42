/-
  RegionMonomials: the monomials are the document's, or the error is, for every input; no condition.
-/
import Derived.Test.YtidnkcdelnfkjaaGreatDoorM19
namespace Go.Proofs.YtidnkcdelnfkjaaGreatDoor
open Go Go.RowKit Go.ChangeShapes Go.WideShapes Go.Proofs.Fl
set_option maxRecDepth 100000
theorem regionMonomials_card:Rows.RegionMonomialsCardSaid :=
 Claim7.holds_tied_plain_at .later [] _ _ _ _ regionMonomials_said (fun _ h=>by cases h) (by kernel_rfl) (fun _ h=>by cases h) regionMonomials_row_tie rfl ⟨rfl,rfl⟩ mainIs' rfl
  (fun f fn hf hfn=>by
    obtain rfl:f=6:=Option.some.inj ((show Tryz.prog.funcNamed "ordinate/ordinatelaw06.RegionMonomials" = some 6 by kernel_rfl).symm.trans hf) |>.symm
    obtain rfl:fn=Tryz.f6:=(Option.some.inj (Tryz.func6.symm.trans hfn)).symm
    exact⟨by kernel_rfl,fun j t ht=>by
     rw[Tryz.params6] at ht
     have hm:t∈([3,3]:List TypeId):=by simpa using Array.mem_of_getElem? ht
     have hall:(([3,3]:List TypeId).all fun u=>!Tryz.prog.wantsStandIn u)=true:=by kernel_rfl
     exact(show Tryz.prog.wantsStandIn t=false by simpa using List.all_eq_true.1 hall t hm)⟩)
  regionMonomials_goes
end Go.Proofs.YtidnkcdelnfkjaaGreatDoor
