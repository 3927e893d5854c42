/-
  RegionMonomials: the monomials are the document's, or the error is, for every input; no condition.
-/
import Derived.Test.YtidnkcdelnfkjaaGreatDoorM14
namespace Go.Proofs.YtidnkcdelnfkjaaGreatDoor
open Go Go.RowKit Go.ChangeShapes Go.WideShapes Go.Proofs.Fl
set_option maxRecDepth 100000
theorem regionMonomials_lifted(os:Os)(started:os.Started)(H:Type)(enc:TypeId×Value→H) :
 ReturnsInHanded {} Tryz.checked os 6 .any (fun w args=>(Rows.regionMonomialsSpec.pre enc Tryz.prog Tryz.f6 [] false w args∧laidMetH Tryz.prog Rows.regionMonomialsRow.laid w)∧sizedMet enc Tryz.prog Tryz.f6 (OpenSpec.ofChange Rows.regionMonomialsSpec) false w args)
  (Rows.regionMonomialsSpec.post enc Tryz.prog Tryz.f6 false true false false):=by
 refine law_lifted started Tryz.func6 (by kernel_rfl) rfl (by kernel_rfl) (fun ds h=>?_) (by kernel_rfl) laid_pow
  (ChangeSpec.witness_shaped (enc:=enc) (C:=Tryz.checked) (os:=os) (X:=fun w _=>laidMetH Tryz.prog Rows.regionMonomialsRow.laid w) false (witW os) #[.int .i64 0,.int .i64 0] 8 rfl (World.shaped_of_RefB (by kernel_rfl) (by kernel_rfl)) (by kernel_rfl) (by kernel_rfl) (by kernel_rfl) (wit_met os _))
  (fun W base args ds p hval hA=>?_)
 · rw[Tryz.params6] at h
   match ds,h with
   | [d0,d1],_=>rfl
 · rw[Tryz.params6] at hA hval
   obtain⟨v0,v1,d0,d1,h0,h1,ha⟩:=args_open2 hA
   subst ha
   obtain⟨k0,rfl,hk0⟩:=int_arg Tryz.underlying3 (hval 0 3 v0 rfl rfl) h0.choose_spec
   obtain⟨k1,rfl,hk1⟩:=int_arg Tryz.underlying3 (hval 1 3 v1 rfl rfl) h1.choose_spec
   exact⟨noHeap,[.int .i64 k0,.int .i64 k1],(noHeap_has W),.cons _ _ _ _ (.int _ _) (.cons _ _ _ _ (.int _ _) .nil),r6_ok lawL (Go.Proofs.En.wakes_ok lawL) k0 k1⟩
end Go.Proofs.YtidnkcdelnfkjaaGreatDoor
