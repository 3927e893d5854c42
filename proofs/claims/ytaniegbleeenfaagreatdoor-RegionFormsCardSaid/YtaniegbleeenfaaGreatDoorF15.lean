/-
  A part of the proof of regionForms_card.
-/
import Derived.Test.YtaniegbleeenfaaGreatDoorF14
namespace Go.Proofs
open Go
abbrev XJ:=@Go.MakeChecks.laidMetH_plain
end Go.Proofs
namespace Go.Proofs.YtaniegbleeenfaaGreatDoor
open Go Go.RowKit Go.ChangeShapes Go.WideShapes Go.Proofs.Fl
set_option maxRecDepth 100000
theorem Rp(os:Os)(args:Array Value):laidMetH Tryz.prog Rows.regionFormsRow.laid ((Lc os).forCall (fun _ _=>0) ⟨#[],args,[]⟩).memory:=by
 rw[XJ _ _ _ (by kernel_rfl)];exact laidMet_of_run' 8 (by kernel_rfl) (by kernel_rfl)
theorem QM(W:World)(h:laidMetH Tryz.prog Rows.regionFormsRow.laid W):Lib.TabIs Tryz.prog W "internal/strconv.uint64pow10" .u64 Lib.pow10Tab:=by
 have h1:=h.filter (fun x=>x.1 == "internal/strconv.uint64pow10");have e:(Rows.regionFormsRow.laid.filter fun x=>x.1 == "internal/strconv.uint64pow10")=[("internal/strconv.uint64pow10",Lib.tabData .u64 Lib.pow10Tab)]:=by kernel_rfl
 rw[e,XJ _ _ _ (by kernel_rfl)] at h1;exact Lib.tabIs_of_head Lr (t:=(Tryz.prog.globals[(Tryz.prog.globalNamed "internal/strconv.uint64pow10").getD 0]?.map (·.type)).getD 0) (e:=190) (n:=20) (by kernel_rfl) (by kernel_rfl) (by kernel_rfl) (by kernel_rfl) (by kernel_rfl) h1
theorem M6(os:Os)(started:os.Started)(H:Type)(enc:TypeId×Value->H) :
 ReturnsInHanded {} Tryz.checked os 3 .any (fun w args=>(Rows.regionFormsSpec.pre enc Tryz.prog Tryz.f3 [] false w args/\laidMetH Tryz.prog Rows.regionFormsRow.laid w)/\sizedMet enc Tryz.prog Tryz.f3 (OpenSpec.ofChange Rows.regionFormsSpec) false w args)
  (Rows.regionFormsSpec.post enc Tryz.prog Tryz.f3 false true false false):=by
 refine OA started Tryz.func3 (by kernel_rfl) rfl (by kernel_rfl) (fun ds h=>?_) (by kernel_rfl) QM
  (ChangeSpec.witness_shaped (enc:=enc) (C:=Tryz.checked) (os:=os) (X:=fun w _=>laidMetH Tryz.prog Rows.regionFormsRow.laid w) false (Lc os) #[.int .i64 0,.slice none 0 0,.slice none 0 0,.slice none 0 0] 8 rfl (World.shaped_of_RefB (by kernel_rfl) (by kernel_rfl)) (by kernel_rfl) (by kernel_rfl) (by kernel_rfl) (Rp os _))
  (fun W base args ds p hval hA=>?_)
 . rw[Tryz.params3] at h
   match ds,h with
   | [d0,d1,d2,d3],_=>rfl
 . rw[Tryz.params3] at hA hval;obtain⟨v0,v1,v2,v3,d0,d1,d2,d3,h0,h1,h2,h3,ha⟩:=OQ hA;subst ha;obtain⟨k0,rfl,hk0⟩:=S4 Tryz.underlying3 (hval 0 3 v0 rfl rfl) h0.choose_spec;obtain⟨ys1,hv1,hs1⟩:=CX (n:=5) (show kQ Tryz.prog 5 22=true by kernel_rfl) (hval 1 22 v1 rfl rfl) h1;obtain⟨l1,rfl,hl1,hx1⟩:=GW (n:=0) hs1;unfold pk at hv1;rw[Tryz.underlying22] at hv1;obtain⟨ys2,hv2,hs2⟩:=CX (n:=5) (show kQ Tryz.prog 5 22=true by kernel_rfl) (hval 2 22 v2 rfl rfl) h2;obtain⟨l2,rfl,hl2,hx2⟩:=GW (n:=0) hs2;unfold pk at hv2;rw[Tryz.underlying22] at hv2;obtain⟨ys3,hv3,hs3⟩:=CX (n:=3) (show kQ Tryz.prog 3 23=true by kernel_rfl) (hval 3 23 v3 rfl rfl) h3;obtain⟨l3,rfl,hl3,hx3⟩:=RD (n:=0) hs3;unfold pk at hv3;rw[Tryz.underlying23] at hv3;exact⟨jQ W,[.int .i64 k0,.sl (l1.map cQ),.sl (l2.map cQ),.sl (l3.map Num3.iv)],PG W,.cons _ _ _ _ (.int _ _) (.cons _ _ _ _ hv1 (.cons _ _ _ _ hv2 (.cons _ _ _ _ hv3 .nil))),UH V0 hl1 hl2 hl3 hx1 hx2 hx3⟩
end Go.Proofs.YtaniegbleeenfaaGreatDoor
