/-
  A part of the proof of regionProducts_card.
-/
import Derived.Test.YtalnhplbnklpoaaGreatDoorP14
namespace Go.Proofs.YtalnhplbnklpoaaGreatDoor
open Go Go.RowKit Go.ChangeShapes Go.WideShapes Go.Proofs.Fl
set_option maxRecDepth 100000
theorem RV(os:Os)(args:Array X3):laidMetH Tryz.prog Rows.regionProductsRow.laid ((L4 os).forCall (fun _ _=>0) ⟨#[],args,[]⟩).memory:=by
 rw[MakeChecks.laidMetH_plain _ _ _ (by kernel_rfl)];exact laidMet_of_run' 8 (by kernel_rfl) (by kernel_rfl)
theorem Ro(W:my)(h:laidMetH Tryz.prog Rows.regionProductsRow.laid W):Lib.TabIs Tryz.prog W "internal/strconv.uint64pow10" .u64 Lib.pow10Tab:=by
 have h1:=h.filter (fun x=>x.1 == "internal/strconv.uint64pow10");have e:(Rows.regionProductsRow.laid.filter fun x=>x.1 == "internal/strconv.uint64pow10")=[("internal/strconv.uint64pow10",Lib.tabData .u64 Lib.pow10Tab)]:=by kernel_rfl
 rw[e,MakeChecks.laidMetH_plain _ _ _ (by kernel_rfl)] at h1;exact Lib.tabIs_of_head Mk (t:=(Tryz.prog.globals[(Tryz.prog.globalNamed "internal/strconv.uint64pow10").getD 0]?.map (·.type)).getD 0) (e:=181) (n:=20) (by kernel_rfl) (by kernel_rfl) (by kernel_rfl) (by kernel_rfl) (by kernel_rfl) h1
theorem NL(os:Os)(started:os.Started)(H:Type)(enc:me×X3->H) :
 ReturnsInHanded {} Tryz.checked os 3 .any (fun w args=>(Rows.regionProductsSpec.pre enc Tryz.prog Tryz.f3 [] false w args/\laidMetH Tryz.prog Rows.regionProductsRow.laid w)/\sizedMet enc Tryz.prog Tryz.f3 (OpenSpec.ofChange Rows.regionProductsSpec) false w args)
  (Rows.regionProductsSpec.post enc Tryz.prog Tryz.f3 false true false false):=by
 refine Pk started Tryz.func3 (by kernel_rfl) rfl (by kernel_rfl) (fun ds h=>?_) (by kernel_rfl) Ro
  (ChangeSpec.witness_shaped (enc:=enc) (C:=Tryz.checked) (os:=os) (X:=fun w _=>laidMetH Tryz.prog Rows.regionProductsRow.laid w) false (L4 os) #[.agg #[.int .i64 0,.slice none 0 0,.slice none 0 0],.agg #[.int .i64 0,.slice none 0 0,.slice none 0 0],.slice none 0 0,.slice none 0 0] 8 rfl (World.shaped_of_RefB (by kernel_rfl) (by kernel_rfl)) (by kernel_rfl) (by kernel_rfl) (by kernel_rfl) (RV os _))
  (fun W base args ds p hval hA hz=>?_)
 . rw[Tryz.params3] at h
   match ds,h with
   | [d0,d1,d2,d3],_=>rfl
 . obtain⟨us,hz⟩:=hz;rw[Tryz.params3] at hA hval hz;obtain⟨v0,v1,v2,v3,d0,d1,d2,d3,h0,h1,h2,h3,ha,rfl⟩:=OV hA;subst ha;obtain⟨ys0,hv0,hs0⟩:=yZ (n:=5) (show ks Tryz.prog 5 25=true by kernel_rfl) (fun k hk=>by simpa using List.all_eq_true.1 hz k (AV (j:=0) (t:=25) (d:=d0) rfl rfl k hk)) (hval 0 25 v0 rfl rfl) h0;obtain⟨l0,rfl,hx0⟩:=KH (n:=0) hs0;unfold pk at hv0;rw[Tryz.underlying25] at hv0;obtain⟨ys1,hv1,hs1⟩:=yZ (n:=5) (show ks Tryz.prog 5 25=true by kernel_rfl) (fun k hk=>by simpa using List.all_eq_true.1 hz k (AV (j:=1) (t:=25) (d:=d1) rfl rfl k hk)) (hval 1 25 v1 rfl rfl) h1;obtain⟨l1,rfl,hx1⟩:=KH (n:=0) hs1;unfold pk at hv1;rw[Tryz.underlying25] at hv1;obtain⟨ys2,hv2,hs2⟩:=yZ (n:=4) (show ks Tryz.prog 4 26=true by kernel_rfl) (fun k hk=>by simpa using List.all_eq_true.1 hz k (AV (j:=2) (t:=26) (d:=d2) rfl rfl k hk)) (hval 2 26 v2 rfl rfl) h2;obtain⟨l2,rfl,hl2,hx2⟩:=Jk (n:=0) hs2;unfold pk at hv2;rw[Tryz.underlying26] at hv2;obtain⟨ys3,hv3,hs3⟩:=yZ (n:=4) (show ks Tryz.prog 4 26=true by kernel_rfl) (fun k hk=>by simpa using List.all_eq_true.1 hz k (AV (j:=3) (t:=26) (d:=d3) rfl rfl k hk)) (hval 3 26 v3 rfl rfl) h3;obtain⟨l3,rfl,hl3,hx3⟩:=Jk (n:=0) hs3;unfold pk at hv3;rw[Tryz.underlying26] at hv3;exact⟨kj W,[l0.iv,l1.iv,.sl (l2.map Gap6.iv),.sl (l3.map Gap6.iv)],Qn W,.cons _ _ _ _ hv0 (.cons _ _ _ _ hv1 (.cons _ _ _ _ hv2 (.cons _ _ _ _ hv3 .nil))),Vl WH hx0 hx1 hl2 hl3 hx2 hx3⟩
end Go.Proofs.YtalnhplbnklpoaaGreatDoor
