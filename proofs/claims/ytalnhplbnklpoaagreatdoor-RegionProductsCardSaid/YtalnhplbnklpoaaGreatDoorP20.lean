/-
  On an Intel or AMD processor under Linux, RegionProducts returns true for every input: the degree of a product of two rules is at least the lesser degree of both, for boxes.
-/
import Derived.Test.YtalnhplbnklpoaaGreatDoorP19
namespace Go.Proofs.YtalnhplbnklpoaaGreatDoor
open Go Go.RowKit Go.ChangeShapes Go.WideShapes Go.Proofs.Fl
set_option maxRecDepth 100000
theorem regionProducts_card:Rows.RegionProductsCardSaid :=
 Claim7.holds_tied_plain_at .later [] _ _ _ _ NO (fun _ h=>by cases h) (by kernel_rfl) (fun _ h=>by cases h) regionProducts_row_tie rfl ⟨rfl,rfl⟩ TJ rfl
  (fun f fn hf hfn=>by
    obtain rfl:f=3:=AM ((show Tryz.prog.funcNamed "ordinate/ordinatelaw06.RegionProducts" = some 3 by kernel_rfl).symm.trans hf) |>.symm;obtain rfl:fn=Tryz.f3:=(AM (Tryz.func3.symm.trans hfn)).symm;exact⟨by kernel_rfl,fun j t ht=>by
     rw[Tryz.params3] at ht;have hm:t∈([25,25,26,26]:List me):=by simpa using Nc ht
     have hall:(([25,25,26,26]:List me).all fun u=>!Tryz.prog.wantsStandIn u)=true:=by kernel_rfl
     exact(show Tryz.prog.wantsStandIn t=false by simpa using List.all_eq_true.1 hall t hm)⟩)
  NP
end Go.Proofs.YtalnhplbnklpoaaGreatDoor
