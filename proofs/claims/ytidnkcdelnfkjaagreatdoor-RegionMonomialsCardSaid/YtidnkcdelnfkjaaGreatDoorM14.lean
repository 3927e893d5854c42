/-
  RegionMonomials: the monomials are the document's, or the error is, for every input; no condition.
-/
import Derived.Test.YtidnkcdelnfkjaaGreatDoorM13
namespace Go.Proofs.Fl
open Go.RowKit Go.ChangeShapes Go.WideShapes Go.Deep
attribute [local irreducible] IntKind.wrap PureC MutC MakC IterC
set_option maxRecDepth 100000
theorem wf_i64{n:Int}(h:(Lit.int .i64 n).wf=true) : -9223372036854775808≤n∧n≤9223372036854775807:=by
 simp only[Lit.wf,Bool.and_eq_true,decide_eq_true_eq] at h
 have e1:IntKind.i64.min = -9223372036854775808:=rfl
 have e2:IntKind.i64.max=9223372036854775807:=rfl
 rw[e1,e2] at h
 exact h
section
variable {H:Type}{enc:TypeId×Value→H}{w:World}{base:Nat}{spare:Nat→Bool}{held:Bool}
theorem int_arg{r:Reach}{b0:Nat}{t:TypeId}(ht:Tryz.prog.underlying t=some (.int .i64)){v:Value}{d:DataW H}{p:List MemPlace}(hv:Value.okWide Tryz.prog w r b0 t v)(h:DataW.Trod enc Tryz.prog w base spare held t v d p) :
 ∃n:Int,v=.int .i64 n∧ -9223372036854775808≤n∧n≤9223372036854775807:=by
 obtain⟨n,rfl,_,_,hw⟩:=open_int ht hv h
 exact⟨n,rfl,wf_i64 hw⟩
end
section
variable {H:Type}{enc:TypeId×Value→H}{P:Program}{w:World}{base:Nat}{spare:Nat→Bool}{held:Bool}
theorem args_open2{t0 t1:TypeId}{args:Array Value}{ds:List (DataW H)}{ps:List MemPlace}(h:DataW.TrodAll enc P w base spare held [t0,t1] args.toList ds ps) :
 ∃v0 v1 d0 d1,(∃p,DataW.Trod enc P w base spare held t0 v0 d0 p)∧(∃p,DataW.Trod enc P w base spare held t1 v1 d1 p)∧args = #[v0,v1]:=by
 obtain⟨v0,vs,d0,ds',p0,q,hargs,rfl,rfl,h0,h⟩:=trodAll_cons h
 obtain⟨v1,vs,d1,ds',p1,q,rfl,rfl,rfl,h1,h⟩:=trodAll_cons h
 obtain⟨rfl,rfl,rfl⟩:=trodAll_nil h
 exact⟨v0,v1,d0,d1,⟨_,h0⟩,⟨_,h1⟩,Array.toList_inj.1 hargs⟩
end
end Go.Proofs.Fl
