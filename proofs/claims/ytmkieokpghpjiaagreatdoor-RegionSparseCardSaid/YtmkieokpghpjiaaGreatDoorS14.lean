/-
  The statement RegionSparse holds for every input.
-/
import Derived.Test.YtmkieokpghpjiaaGreatDoorS13
set_option linter.all false
namespace Go.Proofs.YtmkieokpghpjiaaGreatDoor
open Go Go.RowKit Go.ChangeShapes Go.WideShapes Go.Proofs.Fl
set_option maxRecDepth 100000
def ST(os:Os)(args:Array Value):laidMetH Tryz.prog Rows.regionSparseRow.laid ((MU os).forCall (fun _ _=>0) ⟨#[],args,[]⟩).memory:=by
 rw[MakeChecks.laidMetH_plain _ _ _ (by kernel_rfl)];exact laidMet_of_run' 8 (by kernel_rfl) (by kernel_rfl)
def Sf(W:World)(h:laidMetH Tryz.prog Rows.regionSparseRow.laid W):Lib.TabIs Tryz.prog W "internal/strconv.uint64pow10" .u64 Lib.pow10Tab:=by
 have h1:=h.filter (fun x=>x.1 == "internal/strconv.uint64pow10");have e:(Rows.regionSparseRow.laid.filter fun x=>x.1 == "internal/strconv.uint64pow10")=[("internal/strconv.uint64pow10",Lib.tabData .u64 Lib.pow10Tab)]:=by kernel_rfl
 rw[e,MakeChecks.laidMetH_plain _ _ _ (by kernel_rfl)] at h1;exact Lib.tabIs_of_head Nf (t:=(Tryz.prog.globals[(Tryz.prog.globalNamed "internal/strconv.uint64pow10").getD 0]?.map (·.type)).getD 0) (e:=202) (n:=20) (by kernel_rfl) (by kernel_rfl) (by kernel_rfl) (by kernel_rfl) (by kernel_rfl) h1
def Oz(os:Os)(started:os.Started)(H:Type)(enc:TypeId×Value->H) :
 ReturnsInHanded {} Tryz.checked os 3 .any (fun w args=>(Rows.regionSparseSpec.pre enc Tryz.prog Tryz.f3 [] false w args/\laidMetH Tryz.prog Rows.regionSparseRow.laid w)/\sizedMet enc Tryz.prog Tryz.f3 (OpenSpec.ofChange Rows.regionSparseSpec) false w args)
  (Rows.regionSparseSpec.post enc Tryz.prog Tryz.f3 false true false false):=by
 refine P4 started Tryz.func3 (by kernel_rfl) rfl (by kernel_rfl) (fun ds h=>?_) (by kernel_rfl) Sf
  (ChangeSpec.witness_shaped (enc:=enc) (C:=Tryz.checked) (os:=os) (X:=fun w _=>laidMetH Tryz.prog Rows.regionSparseRow.laid w) false (MU os) #[.slice none 0 0,.int .i64 0,.int .i64 0] 8 rfl (World.shaped_of_RefB (by kernel_rfl) (by kernel_rfl)) (by kernel_rfl) (by kernel_rfl) (by kernel_rfl) (ST os _))
  (fun W base args ds p hval hA hz=>?_)
 . rw[Tryz.params3] at h
   match ds,h with
   | [d0,d1,d2],_=>rfl
 obtain⟨us,hz⟩:=hz;rw[Tryz.params3] at hA hval hz;obtain⟨v0,v1,v2,d0,d1,d2,h0,h1,h2,ha,rfl⟩:=PI hA;subst ha;obtain⟨ys0,hv0,hs0⟩:=WN (n:=6) (show od Tryz.prog 6 22=true by kernel_rfl) (fun k hk=>by simpa using List.all_eq_true.1 hz k (DataW.weights_mem_each (j:=0) (t:=22) (d:=d0) rfl rfl k hk)) (hval 0 22 v0 rfl rfl) h0;obtain⟨l0,rfl,hl0,hx0⟩:=Td (n:=0) hs0;unfold pk at hv0;rw[Tryz.underlying22] at hv0;obtain⟨k1,rfl,hk1⟩:=KF Tryz.underlying3 (hval 1 3 v1 rfl rfl) h1.choose_spec;obtain⟨k2,rfl,hk2⟩:=KF Tryz.underlying3 (hval 2 3 v2 rfl rfl) h2.choose_spec;exact⟨kR W,[.sl (l0.map Swm.iv),.int .i64 k1,.int .i64 k2],Q9 W,.cons _ _ _ _ hv0 (.cons _ _ _ _ (.int _ _) (.cons _ _ _ _ (.int _ _) .nil)),Go.Proofs.En.W7 (Go.Proofs.Fl.base _) XD hk1 hk2 hl0 hx0⟩
end Go.Proofs.YtmkieokpghpjiaaGreatDoor
