/-
  The statement RegionSparse holds for every input.
-/
import Derived.Test.YtmkieokpghpjiaaGreatDoorS18
set_option linter.all false
namespace Go.Proofs.YtmkieokpghpjiaaGreatDoor
open Go Go.RowKit Go.ChangeShapes Go.WideShapes Go.Proofs.Fl
set_option maxRecDepth 100000
theorem regionSparse_card:Rows.RegionSparseCardSaid :=
 Claim7.holds_tied_plain_at .later [] _ _ _ _ OB (fun _ h=>by cases h) (by kernel_rfl) (fun _ h=>by cases h) regionSparse_row_tie rfl ⟨rfl,rfl⟩ Uv rfl
  (fun f fn hf hfn=>by
    obtain rfl:f=3:=Ba ((show Tryz.prog.funcNamed "ordinate/ordinatelaw06.RegionSparse" = some 3 by kernel_rfl).symm.trans hf) |>.symm;obtain rfl:fn=Tryz.f3:=(Ba (Tryz.func3.symm.trans hfn)).symm;exact⟨by kernel_rfl,fun j t ht=>by
     rw[Tryz.params3] at ht;have hm:t∈([22,3,3]:List TypeId):=by simpa using NY ht
     have hall:(([22,3,3]:List TypeId).all fun u=>!Tryz.prog.wantsStandIn u)=true:=by kernel_rfl
     exact(show Tryz.prog.wantsStandIn t=false by simpa using List.all_eq_true.1 hall t hm)⟩)
  OC
end Go.Proofs.YtmkieokpghpjiaaGreatDoor
