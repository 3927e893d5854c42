/-
  For every list of rules, every number of variables and every level the statement RegionSparse holds: the sparse rule is the reference's, or the error is.
-/
import Derived.Test.YtmkieokpghpjiaaGreatDoorS5
import Derived.Shelf.Spec.SlicesGrow
import Derived.Test.YtmkieokpghpjiaaGreatDoorProg
import Derived.Shelf.Slices.Clone
set_option maxHeartbeats 8000000
set_option linter.all false
namespace Go.Proofs
open Go
abbrev Bi:=@List.flatMap_map
abbrev Bj:=@Rat.zero_add
abbrev Bk:=@Rat.add_zero
abbrev Gb:=@Int.eq_ofNat_of_zero_le
abbrev Gc:=@List.set_cons_zero
abbrev Gd:=@List.all_append
abbrev Ge:=@List.flatMap_nil
abbrev Oq:=@List.mem_flatMap
abbrev Ot:=@List.pairwise_map
abbrev Ou:=@List.mem_take_iff_getElem
abbrev Ov:=@List.pairwise_singleton
abbrev YY:=@List.findIdx?_eq_some_iff_getElem
abbrev eV:=@List.flatMap_append
abbrev oM:=@Rat.add_assoc
abbrev sG:=@List.range_succ
abbrev xM:=@Rat.add_comm
abbrev xN:=@List.drop_length
end Go.Proofs
namespace Go.Proofs.En
open Go.RowKit Go.Proofs.Fl Go.Proofs.Dig
section
variable {Z:QS}(hz:Z.qv 0 1 = .agg [.sl [], .bool false, .sl []])(hn:Z.qn = 3)
include hz in
end
def Ab:List (Int×Nat)->List (Int×Nat)->Bool
 | [],[]=>true
 |a::l,b::m=>Nat.beq a.2 b.2&&(decide (a.1=b.1)&&Ab l m)
 |_,_=>false
def IK:∀{l m:List (Int×Nat)},Ab l m=true->l=m
 | [],[],_=>rfl
 |a::l,b::m,h=>by
  simp only[Ab,aH,ff] at h;obtain⟨h1,h2,h3⟩:=h;rw[IK h3,show a=b from Prod.ext h2 (aB h1)]
def JH{X:EX}{f:FuncId}{xs:List IV}{r:IV}{args:List ES}{res:ES}{h:Hp}(hc:aW X.P X.I f xs r)(ha:∀H U vs,SREL X.Z H U vs args->VRL H vs xs)(hr:∀H U v,VR H v r->SRe X.Z H U v res):CallOk X f args h res h:=by
 refine⟨hc.1,fun E hI H U w vs hs hv=>?_⟩;refine(hc.2 H w vs (hI w hs.below) hs.has (ha H U vs hv)).mono ?_;rintro e w' ⟨v,H',rfl,h1,h2,h3,h4⟩;exact⟨v,H',U,rfl,h2.1,BLe.refl _,hs.grow h4 h1 h2,MarkSame.below h4,hr _ _ _ h3⟩
def fe(fn:Func):Option FnE:=match fn.body with
 |some b=>some ⟨fn.ntmps,fn.results.toList,b⟩
 |none=>none
noncomputable def fv(f:Func):PT FnE:=.node .nil (fe f) .nil
noncomputable def LW:PT FnE:=(.node (.node (.node (.node (.node (.node (.node (.node (fv Tryz.f255) (fe Tryz.f127) .nil) (fe Tryz.f63) (fv Tryz.f191)) (fe Tryz.f31) (.node (.node (fv Tryz.f287) (fe Tryz.f159) .nil) (fe Tryz.f95) (fv Tryz.f223))) (fe Tryz.f15) (.node (.node (.node (fv Tryz.f271) (fe Tryz.f143) .nil) (fe Tryz.f79) (fv Tryz.f207)) (fe Tryz.f47) (.node (.node (fv Tryz.f303) (fe Tryz.f175) .nil) (fe Tryz.f111) (fv Tryz.f239)))) (fe Tryz.f7) (.node (.node (.node (.node (fv Tryz.f263) (fe Tryz.f135) .nil) (fe Tryz.f71) (fv Tryz.f199)) (fe Tryz.f39) (.node (.node (fv Tryz.f295) (fe Tryz.f167) .nil) (fe Tryz.f103) (fv Tryz.f231))) (fe Tryz.f23) (.node (.node (.node (fv Tryz.f279) (fe Tryz.f151) .nil) (fe Tryz.f87) (fv Tryz.f215)) (fe Tryz.f55) (.node (fv Tryz.f183) (fe Tryz.f119) (fv Tryz.f247))))) (fe Tryz.f3) (.node (.node (.node (.node (.node (fv Tryz.f259) (fe Tryz.f131) .nil) (fe Tryz.f67) (fv Tryz.f195)) (fe Tryz.f35) (.node (.node (fv Tryz.f291) (fe Tryz.f163) .nil) (fe Tryz.f99) (fv Tryz.f227))) (fe Tryz.f19) (.node (.node (.node (fv Tryz.f275) (fe Tryz.f147) .nil) (fe Tryz.f83) (fv Tryz.f211)) (fe Tryz.f51) (.node (.node (fv Tryz.f307) (fe Tryz.f179) .nil) (fe Tryz.f115) (fv Tryz.f243)))) (fe Tryz.f11) (.node (.node (.node (.node (fv Tryz.f267) (fe Tryz.f139) .nil) (fe Tryz.f75) (fv Tryz.f203)) (fe Tryz.f43) (.node (.node (fv Tryz.f299) (fe Tryz.f171) .nil) (fe Tryz.f107) (fv Tryz.f235))) (fe Tryz.f27) (.node (.node (.node (fv Tryz.f283) (fe Tryz.f155) .nil) (fe Tryz.f91) (fv Tryz.f219)) (fe Tryz.f59) (.node (fv Tryz.f187) (fe Tryz.f123) (fv Tryz.f251)))))) (fe Tryz.f1) (.node (.node (.node (.node (.node (.node (fv Tryz.f257) (fe Tryz.f129) .nil) (fe Tryz.f65) (fv Tryz.f193)) (fe Tryz.f33) (.node (.node (fv Tryz.f289) (fe Tryz.f161) .nil) (fe Tryz.f97) (fv Tryz.f225))) (fe Tryz.f17) (.node (.node (.node (fv Tryz.f273) (fe Tryz.f145) .nil) (fe Tryz.f81) (fv Tryz.f209)) (fe Tryz.f49) (.node (.node (fv Tryz.f305) (fe Tryz.f177) .nil) (fe Tryz.f113) (fv Tryz.f241)))) (fe Tryz.f9) (.node (.node (.node (.node (fv Tryz.f265) (fe Tryz.f137) .nil) (fe Tryz.f73) (fv Tryz.f201)) (fe Tryz.f41) (.node (.node (fv Tryz.f297) (fe Tryz.f169) .nil) (fe Tryz.f105) (fv Tryz.f233))) (fe Tryz.f25) (.node (.node (.node (fv Tryz.f281) (fe Tryz.f153) .nil) (fe Tryz.f89) (fv Tryz.f217)) (fe Tryz.f57) (.node (fv Tryz.f185) (fe Tryz.f121) (fv Tryz.f249))))) (fe Tryz.f5) (.node (.node (.node (.node (.node (fv Tryz.f261) (fe Tryz.f133) .nil) (fe Tryz.f69) (fv Tryz.f197)) (fe Tryz.f37) (.node (.node (fv Tryz.f293) (fe Tryz.f165) .nil) (fe Tryz.f101) (fv Tryz.f229))) (fe Tryz.f21) (.node (.node (.node (fv Tryz.f277) (fe Tryz.f149) .nil) (fe Tryz.f85) (fv Tryz.f213)) (fe Tryz.f53) (.node (fv Tryz.f181) (fe Tryz.f117) (fv Tryz.f245)))) (fe Tryz.f13) (.node (.node (.node (.node (fv Tryz.f269) (fe Tryz.f141) .nil) (fe Tryz.f77) (fv Tryz.f205)) (fe Tryz.f45) (.node (.node (fv Tryz.f301) (fe Tryz.f173) .nil) (fe Tryz.f109) (fv Tryz.f237))) (fe Tryz.f29) (.node (.node (.node (fv Tryz.f285) (fe Tryz.f157) .nil) (fe Tryz.f93) (fv Tryz.f221)) (fe Tryz.f61) (.node (fv Tryz.f189) (fe Tryz.f125) (fv Tryz.f253))))))) (fe Tryz.f0) (.node (.node (.node (.node (.node (.node (.node (fv Tryz.f256) (fe Tryz.f128) .nil) (fe Tryz.f64) (fv Tryz.f192)) (fe Tryz.f32) (.node (.node (fv Tryz.f288) (fe Tryz.f160) .nil) (fe Tryz.f96) (fv Tryz.f224))) (fe Tryz.f16) (.node (.node (.node (fv Tryz.f272) (fe Tryz.f144) .nil) (fe Tryz.f80) (fv Tryz.f208)) (fe Tryz.f48) (.node (.node (fv Tryz.f304) (fe Tryz.f176) .nil) (fe Tryz.f112) (fv Tryz.f240)))) (fe Tryz.f8) (.node (.node (.node (.node (fv Tryz.f264) (fe Tryz.f136) .nil) (fe Tryz.f72) (fv Tryz.f200)) (fe Tryz.f40) (.node (.node (fv Tryz.f296) (fe Tryz.f168) .nil) (fe Tryz.f104) (fv Tryz.f232))) (fe Tryz.f24) (.node (.node (.node (fv Tryz.f280) (fe Tryz.f152) .nil) (fe Tryz.f88) (fv Tryz.f216)) (fe Tryz.f56) (.node (fv Tryz.f184) (fe Tryz.f120) (fv Tryz.f248))))) (fe Tryz.f4) (.node (.node (.node (.node (.node (fv Tryz.f260) (fe Tryz.f132) .nil) (fe Tryz.f68) (fv Tryz.f196)) (fe Tryz.f36) (.node (.node (fv Tryz.f292) (fe Tryz.f164) .nil) (fe Tryz.f100) (fv Tryz.f228))) (fe Tryz.f20) (.node (.node (.node (fv Tryz.f276) (fe Tryz.f148) .nil) (fe Tryz.f84) (fv Tryz.f212)) (fe Tryz.f52) (.node (fv Tryz.f180) (fe Tryz.f116) (fv Tryz.f244)))) (fe Tryz.f12) (.node (.node (.node (.node (fv Tryz.f268) (fe Tryz.f140) .nil) (fe Tryz.f76) (fv Tryz.f204)) (fe Tryz.f44) (.node (.node (fv Tryz.f300) (fe Tryz.f172) .nil) (fe Tryz.f108) (fv Tryz.f236))) (fe Tryz.f28) (.node (.node (.node (fv Tryz.f284) (fe Tryz.f156) .nil) (fe Tryz.f92) (fv Tryz.f220)) (fe Tryz.f60) (.node (fv Tryz.f188) (fe Tryz.f124) (fv Tryz.f252)))))) (fe Tryz.f2) (.node (.node (.node (.node (.node (.node (fv Tryz.f258) (fe Tryz.f130) .nil) (fe Tryz.f66) (fv Tryz.f194)) (fe Tryz.f34) (.node (.node (fv Tryz.f290) (fe Tryz.f162) .nil) (fe Tryz.f98) (fv Tryz.f226))) (fe Tryz.f18) (.node (.node (.node (fv Tryz.f274) (fe Tryz.f146) .nil) (fe Tryz.f82) (fv Tryz.f210)) (fe Tryz.f50) (.node (.node (fv Tryz.f306) (fe Tryz.f178) .nil) (fe Tryz.f114) (fv Tryz.f242)))) (fe Tryz.f10) (.node (.node (.node (.node (fv Tryz.f266) (fe Tryz.f138) .nil) (fe Tryz.f74) (fv Tryz.f202)) (fe Tryz.f42) (.node (.node (fv Tryz.f298) (fe Tryz.f170) .nil) (fe Tryz.f106) (fv Tryz.f234))) (fe Tryz.f26) (.node (.node (.node (fv Tryz.f282) (fe Tryz.f154) .nil) (fe Tryz.f90) (fv Tryz.f218)) (fe Tryz.f58) (.node (fv Tryz.f186) (fe Tryz.f122) (fv Tryz.f250))))) (fe Tryz.f6) (.node (.node (.node (.node (.node (fv Tryz.f262) (fe Tryz.f134) .nil) (fe Tryz.f70) (fv Tryz.f198)) (fe Tryz.f38) (.node (.node (fv Tryz.f294) (fe Tryz.f166) .nil) (fe Tryz.f102) (fv Tryz.f230))) (fe Tryz.f22) (.node (.node (.node (fv Tryz.f278) (fe Tryz.f150) .nil) (fe Tryz.f86) (fv Tryz.f214)) (fe Tryz.f54) (.node (fv Tryz.f182) (fe Tryz.f118) (fv Tryz.f246)))) (fe Tryz.f14) (.node (.node (.node (.node (fv Tryz.f270) (fe Tryz.f142) .nil) (fe Tryz.f78) (fv Tryz.f206)) (fe Tryz.f46) (.node (.node (fv Tryz.f302) (fe Tryz.f174) .nil) (fe Tryz.f110) (fv Tryz.f238))) (fe Tryz.f30) (.node (.node (.node (fv Tryz.f286) (fe Tryz.f158) .nil) (fe Tryz.f94) (fv Tryz.f222)) (fe Tryz.f62) (.node (fv Tryz.f190) (fe Tryz.f126) (fv Tryz.f254))))))))
noncomputable def AN(f:FuncId):Option FnE:=bif Nat.blt f 308 then LW.get f else none
def UG:(List.range 308).map LW.get=Tryz.prog.funcs.toList.map fe:=by kernel_rfl
def Sb:(Tryz.prog.funcs.toList.all fun fn=>!(fn.name == "runtime.NumGoroutine"))=true:=by kernel_rfl
def pq{X:EX}(hP:X.P=Tryz.prog:=by exact rfl):∀f q,AN f=some q->∃fn,FnOk X f q fn:=by
 intro f q h;unfold AN at h;cases hb:Nat.blt f 308 with
 |false=>rw[hb] at h;cases h
 |true=>
  rw[hb,al] at h;have hl:f<308:=by rwa[dN] at hb
  have e:=aL (fun l=>l[f]?) UG;simp only[bI,FF hl,fE] at e;rw[h] at e;cases hfn:Tryz.prog.funcs.toList[f]? with
  |none=>rw[hfn] at e;cases e
  |some fn=>
   rw[hfn] at e;simp only[fE,ai] at e;unfold fe at e;split at e
   . rename_i b hb;simp only[ai] at e;subst e;have hm:=List.all_eq_true.1 Sb fn (bN hfn);refine⟨fn,?_,hb,rfl,rfl,by simpa using hm⟩;rw[hP,<-uK];exact hfn
   cases e
end Go.Proofs.En
namespace Go.Proofs.En
open Go.RowKit Go.Proofs.Fl
def AR:List UInt8->List UInt8->Bool
 | [],[]=>true
 |a::l,b::m=>Nat.beq a.toNat b.toNat&&AR l m
 |_,_=>false
def Fb:IV->IV->Bool
 | .bool true,.bool true=>true
 | .bool false,.bool false=>true
 | .int k n,.int k' n'=>decide (k=k')&&decide (n=n')
 | .str s,.str s'=>AR s s'
 | .fn f,.fn g=>Nat.beq f g
 | .nil a,.nil b=>Nat.beq a b
 | .sl [],.sl []=>true
 |_,_=>false
def FA:Cap->Cap->Bool
 | .ex a,.ex b=>Nat.beq a b
 | .fin a,.fin b=>Nat.beq a b
 |_,_=>false
def AQ:List Nat->List Nat->Bool
 | [],[]=>true
 |a::l,b::m=>Nat.beq a b&&AQ l m
 |_,_=>false
def Ay:EV->EV->Bool
 | .iv x,.iv y=>Fb x y
 | .qc n d j,.qc n' d' j'=>decide (n=n')&&(Nat.beq d d'&&Nat.beq j j')
 | .ptr g u o,.ptr g' u' o'=>Nat.beq g g'&&(Nat.beq u u'&&Nat.beq o o')
 | .slc g u o n c,.slc g' u' o' n' c'=>Nat.beq g g'&&(Nat.beq u u'&&(Nat.beq o o'&&(Nat.beq n n'&&FA c c')))
 | .clo f gs,.clo f' gs'=>Nat.beq f f'&&AQ gs gs'
 | .mp g,.mp g'=>Nat.beq g g'
 |_,_=>false
def wA:List EV->List EV->Bool
 | [],[]=>true
 |a::l,b::m=>Ay a b&&wA l m
 |_,_=>false
def Fc:EW->EW->Bool
 | .one a,.one b=>Ay a b
 | .agg a,.agg b=>wA a b
 | .q n d,.q n' d'=>decide (n=n')&&Nat.beq d d'
 |_,_=>false
def Fd:ES->ES->Bool
 | .w a,.w b=>Fc a b
 | .und,.und=>true
 |_,_=>false
def AP:List (Nat×Nat)->List (Nat×Nat)->Bool
 | [],[]=>true
 |a::l,b::m=>Nat.beq a.1 b.1&&(Nat.beq a.2 b.2&&AP l m)
 |_,_=>false
def Fz:EO->EO->Bool
 | .mem e cs fz vs c,.mem e' cs' fz' vs' c'=>Nat.beq e e'&&(wA cs cs'&&((match fz,fz' with
  |true,true=>true
  |false,false=>true
  |_,_=>false)&&(AP vs vs'&&Nat.beq c c')))
 |_,_=>false
def L7:∀{a b:List UInt8},AR a b=true->a=b
 | [],[],_=>rfl
 |a::l,b::m,h=>by
  simp only[AR,aH] at h;rw[L7 h.2,UInt8.toNat_inj.1 (aB h.1)]
def Vc{a b:IV}(h:Fb a b=true):a=b:=by
 unfold Fb at h;split at h<;>first
  |rfl
  | (simp only[aH,ff] at h;rw[h.1,h.2])
  | (rw[L7 h])
  | (rw[aB h])
  |cases h
def WB{a b:Cap}(h:FA a b=true):a=b:=by
 unfold FA at h;split at h<;>first|(rw[aB h])|cases h
def L6:∀{a b:List Nat},AQ a b=true->a=b
 | [],[],_=>rfl
 |a::l,b::m,h=>by
  simp only[AQ,aH] at h;rw[L6 h.2,aB h.1]
def K0{a b:EV}(h:Ay a b=true):a=b:=by
 unfold Ay at h;split at h
 . rw[Vc h]
 . simp only[aH,ff] at h;rw[h.1,aB h.2.1,aB h.2.2]
 . simp only[aH] at h;rw[aB h.1,aB h.2.1,aB h.2.2]
 . simp only[aH] at h;rw[aB h.1,aB h.2.1,aB h.2.2.1,aB h.2.2.2.1,WB h.2.2.2.2]
 . simp only[aH] at h;rw[aB h.1,L6 h.2]
 . rw[aB h]
 cases h
def CS:∀{a b:List EV},wA a b=true->a=b
 | [],[],_=>rfl
 |a::l,b::m,h=>by
  simp only[wA,aH] at h;rw[CS h.2,K0 h.1]
def Vd{a b:EW}(h:Fc a b=true):a=b:=by
 unfold Fc at h;split at h
 . rw[K0 h]
 . rw[CS h]
 . simp only[aH,ff] at h;rw[h.1,aB h.2]
 cases h
def Ve{a b:ES}(h:Fd a b=true):a=b:=by
 unfold Fd at h;split at h
 . rw[Vd h]
 . rfl
 cases h
def L5:∀{a b:List (Nat×Nat)},AP a b=true->a=b
 | [],[],_=>rfl
 |a::l,b::m,h=>by
  simp only[AP,aH] at h;rw[L5 h.2.2,show a=b from Prod.ext (aB h.1) (aB h.2.1)]
def WA{a b:EO}(h:Fz a b=true):a=b:=by
 unfold Fz at h;split at h
 . rename_i e cs fz vs c e' cs' fz' vs' c';simp only[aH] at h;obtain⟨h1,h2,h3,h4,h5⟩:=h;rw[aB h1,CS h2,L5 h4,aB h5];split at h3<;>first|rfl|cases h3
 cases h
def AB(r:List (Nat×Nat))(m:List (Nat×EO))(tm:Nat->ES):List (Nat×ES)->Bool
 | []=>true
 |p::l=>Fd (jf (js r) (tm p.1)) p.2&&((fP (tm p.1)).all (oe r m)&&AB r m tm l)
def AC(r:List (Nat×Nat))(m:List (Nat×EO))(h:Hp):List (Nat×EO)->Bool
 | []=>true
 |p::l=>(match h (eY r p.1) with
  |some o=>Fz (fy (js r) o) p.2&&Af (oe r m) o
  |none=>false)&&AC r m h l
def La{r:List (Nat×Nat)}{m:List (Nat×EO)}{tm:Nat->ES}:∀{l:List (Nat×ES)},AB r m tm l=true->zt r m tm l
 | [],_=>trivial
 |p::l,h=>by
  simp only[AB,aH] at h;exact⟨.rn (Ve h.1) h.2.1,La h.2.2⟩
def Lb{r:List (Nat×Nat)}{m:List (Nat×EO)}{h:Hp}:∀{l:List (Nat×EO)},AC r m h l=true->zW r m h l
 | [],_=>trivial
 |p::l,hc=>by
  simp only[AC,aH] at hc;obtain⟨h1,h2⟩:=hc;split at h1
  . rename_i o ho;simp only[aH] at h1;exact⟨.rn ho (WA h1.1) h1.2,Lb h2⟩
  cases h1
noncomputable def runT(Yz9:EE)(n nP nt:Nat)(code:Code)(l:List (Nat×ES))(m:List (Nat×EO))(nx:Nat)(r:List (Nat×Nat))(l':List (Nat×ES))(m':List (Nat×EO))(nx':Nat):Bool :=
 match AO Yz9 n false nt code ⟨qp nt l,⟨oy m,nx,[]⟩⟩ with
 |some (.normal,s')=>rY (s'.s.nx+nx) s'.s.wl&&(po nx m&&(AB r m' s'.tm.sl l'&&(AC r m' s'.s.h.get m'&&(lX (m'.map fun p=>eY r p.1)&&(ww r m' nP&&po nx' m')))))
 |_=>false
section
variable {X:EX}{nP:Nat}{nt:Nat}{K:Exit->SS->Prop}
def qT{F:FuncId->Option FnE}{orc:FuncId->List ES->Hs->Option (ES×Hs)}(hF:∀f q,F f=some q->∃fn,FnOk X f q fn)(horc:jv X orc){n:Nat}{x y:Code}{l l':List (Nat×ES)}{m m':List (Nat×EO)}{nx nx':Nat}{r:List (Nat×Nat)}
 (h:runT (X.ee F orc) n nP nt x l m nx r l' m' nx'=true) (hk:SW X nP false nt y (aR l' m' nx') K):SW X nP false nt (.seq x y) (aR l m nx) K:=by
 unfold runT at h;split at h
 . rename_i s' he;simp only[aH] at h;obtain⟨h1,h2,h3,h4,h5,h6,h7⟩:=h;refine SW.seq (Cs hF horc n he h1 h2 ?_);show SW X nP false nt y ⟨s'.tm.sl,s'.s.h.get,s'.s.nx+nx⟩ K;exact SW.to (To.tab r (La h3) (Lb h4) (by simp only[h5,h6,h7,mT])) hk
 cases h
end
noncomputable def ET(Yz9:EE)(T:TypeId->Option TY)(Z:QS)(n nt:Nat)(code:Code)(rs:List ResultVar)(l:List (Nat×ES))(fu:Nat):Option IV :=
 match AO Yz9 n false nt code ⟨qp nt l,⟨oy [],0,[]⟩⟩ with
 |some (.ret,s')=>(match rY (s'.s.nx+0) s'.s.wl,g7 T Z s'.tm.sl s'.s.h.get rs with
  |true,some xs=>iN T Z (fun _=>true) s'.s.h.get fu (kj xs)
  |_,_=>none)
 |some (.normal,s')=>(match rY (s'.s.nx+0) s'.s.wl,g7 T Z s'.tm.sl s'.s.h.get rs with
  |true,some xs=>iN T Z (fun _=>true) s'.s.h.get fu (kj xs)
  |_,_=>none)
 |_=>none
def Tp{X:EX}(hbel:∀n w w',X.I w->w.heap.size<=n->Below n w w'->X.I w'){F:FuncId->Option FnE}{orc:FuncId->List ES->Hs->Option (ES×Hs)}(hF:∀f q,F f=some q->∃fn,FnOk X f q fn)(horc:jv X orc)
 {f:FuncId} {fn:Func} {c:Code} (hf:X.P.funcs[f]?=some fn) (hb:fn.body=some c) (hn:(fn.name == "runtime.NumGoroutine")=false) {xs:List IV} {r:IV} (hx:Nat.ble xs.length fn.ntmps=true) (hxt:kO xs=true) {n fu:Nat} {l:List (Nat×ES)} (hl:zt [] [] (argS (xs.map dS)) l)
 (h:ET (X.ee F orc) X.T X.Z n fn.ntmps c fn.results.toList l fu=some r):aW X.P X.I f xs r:=by
 refine EG hbel hf hb hn hx hxt fu (SW.to (s':=aR l [] 0) (To.tab (nP:=0) [] hl trivial rfl) ?_);unfold ET at h;split at h
 . rename_i s' he;split at h
   . rename_i hw hr;refine Cs hF horc n he hw rfl ?_;simp only[kh];have hr':g7 X.T X.Z s'.tm.sl s'.s.h.get fn.results.toList=some _:=hr;rw[hr'];exact h
   cases h
 . rename_i s' he;split at h
   . rename_i hw hr;refine Cs hF horc n he hw rfl ?_;simp only[kh];have hr':g7 X.T X.Z s'.tm.sl s'.s.h.get fn.results.toList=some _:=hr;rw[hr'];exact h
   cases h
 cases h
def jw(S:Nat->Bool)(h:Hp):Hp:=fun g=>match S g with
 |true=>match h g with
  |some (.mem ..)=>some .hid
  |o=>o
 |false=>h g
section
variable {Z:QS}{E:EEnv}{H:ak}{U:Bm}{h:Hp}{w:World}{T:TypeId->Option TY}{S:Nat->Bool}
def ESim.hideS(hS:ESim Z E H U h w):ESim Z E (gJ U S h H w) U (jw S h) w where
 has:=Im hS.has
 below:=hS.below
 lo:=hS.lo
 ext:=hS.ext.step (own':=E.own) ⟨nZ,fun b arr hb=>(Cf hS hb).imp id fun e=>e.1⟩ fun b hb=>hb
 obj g o hg:=by
  unfold jw at hg;have key:∀o,h g=some o->(S g=false\/∀e cs fz vs cnt,o≠ .mem e cs fz vs cnt)->OR Z E.own w (gJ U S h H w) U g o:=fun o hg hn=>by
   refine(hS.obj g o hg).keep (fun _ _ _=>rfl) (fun u k hk hn'=>?_) nZ (BLe.refl _) (fun _=>rfl);cases hf:gJ U S h H w k.1 with
   |none=>rfl
   |some arr=>
    rcases Cf hS hf with e|⟨_,g',u',k',e,cs,fz,vs,cnt,p,h1,h2,h3,h4,h5⟩
    . rw[e] at hn';cases hn'
    have:=hS.inj _ _ _ _ _ _ h4 hk h5;subst this;rcases hn with hn|hn
    . rw[hn] at h1;cases h1
    rw[hg] at h2;cases h2;exact absurd rfl (hn e cs fz vs cnt)
  split at hg
  . split at hg
    . simp only[ai] at hg;subst hg;trivial
    rename_i hn;exact key o hg (.inr fun e cs fz vs cnt e'=>hn e cs fz vs cnt (by rw[hg,e']))
  rename_i hs;exact key o hg (.inl hs)
 dom g u k hk:=by
  obtain⟨a,o,b,c⟩:=hS.dom g u k hk;refine⟨a,?_⟩;unfold jw;split
  . split
    . exact⟨.hid,rfl,.inl rfl⟩
    exact⟨o,b,c⟩
  exact⟨o,b,c⟩
 inj:=hS.inj
 hidb g hg:=by
  refine⟨?_,(hS.hidb g hg).2⟩;have:=(hS.hidb g hg).1;unfold jw;rw[this];split<;>rfl
end
def Ln{Z:QS}{E:EEnv}{H:ak}{U:Bm}{h:Hp}{w:World}{T:TypeId->Option TY}{S:Nat->Bool}(hS:ESim Z E H U h w){f:Nat}:∀{xs:List ES} {us:List Value} {ys:List IV},SREL Z H U us xs->cT (iN T Z S h f) xs=some ys->VRL (gJ U S h H w) us ys
 | [],[],ys,_,hd=>by
  simp only[cT,ai] at hd;subst hd;exact .nil
 |x::xs,u::us,ys,⟨h1,h2⟩,hd=>by
  unfold cT at hd;split at hd
  . rename_i b hb;split at hd
    . rename_i bs hbs;simp only[ai] at hd;subst hd;exact .cons _ _ _ _ (K8 hS h1 hb) (Ln hS h2 hbs)
    cases hd
  cases hd
 | [],_::_,_,h,_=>h.elim
 |_::_,[],_,h,_=>h.elim
def XM(Z:QS)(r:IV)(res:ES):Prop:=∀H U v,VR H v r->SRe Z H U v res
def CallOk.ofData{X:EX}{S:Nat->Bool}{fu:Nat}{f:FuncId}{xs:List IV}{r:IV}{args:List ES}{res:ES}{h:Hp}(hc:aW X.P X.I f xs r)(hd:cT (iN X.T X.Z S h fu) args=some xs)(hr:XM X.Z r res):CallOk X f args h res (jw S h):=by
 refine⟨hc.1,fun E hI H U w vs hs hv=>?_⟩;have hs':=hs.hideS (S:=S);refine(hc.2 _ w vs (hI w hs.below) hs'.has (Ln hs hv hd)).mono ?_;rintro e w' ⟨v,H',rfl,h1,h2,h3,h4⟩;exact⟨v,H',U,rfl,nZ.trans h2.1,BLe.refl _,hs'.grow h4 h1 h2,MarkSame.below h4,hr _ _ _ h3⟩
def Tr(nP:Nat)(s s':SS):Prop:=s.fr->s'.fr/\∀(Z:QS) (E:EEnv) (H:ak) (U:Bm) (w:World),ESim Z E H U s.h w->(∀g,E.hid g->g<nP)->
 ∃H' U',HLe H H'/\BLeP nP U U'/\ESim Z E H' U' s'.h w/\∀t v,SRe Z H U v (s.tm t)->SRe Z H' U' v (s'.tm t)
def Tr.refl{nP:Nat}(s:SS):Tr nP s s:=fun hf=>⟨hf,fun _ _ H U _ hS _=>⟨H,U,HLe.refl _,BLeP.refl _ _,hS,fun _ _ h=>h⟩⟩
def Tr.trans{nP:Nat}{a b c:SS}(h:Tr nP a b)(k:Tr nP b c):Tr nP a c:=fun hf=>by
 obtain⟨f1,h⟩:=h hf;obtain⟨f2,k⟩:=k f1;refine⟨f2,fun Z E H U w hS hE=>?_⟩;obtain⟨H1,β1,a1,a2,a3,a4⟩:=h Z E H U w hS hE;obtain⟨H2,β2,b1,b2,b3,b4⟩:=k Z E H1 β1 w a3 hE;exact⟨H2,β2,a1.trans b1,a2.trans b2,b3,fun t v hv=>b4 t v (a4 t v hv)⟩
section
variable {X:EX}{nP:Nat}{rd:Bool}{nt:Nat}{s:SS}{K:Exit->SS->Prop}
def SSm.tr{E:EEnv}(hh:∀g,E.hid g->g<nP){w0:World}{H:ak}{U:Bm}{a:Act}{w:World}{s s':SS}(t:Tr nP s s')(hS:SSm X E w0 nt H U s a w):∃H' U',HLe H H'/\BLeP nP U U'/\SSm X E w0 nt H' U' s' a w:=by
 obtain⟨f,t⟩:=t hS.fr;obtain⟨H1,β1,a1,a2,a3,a4⟩:=t _ E H U w hS.st.sim hh;exact⟨H1,β1,a1,a2,⟨a3,fun t=>a4 t _ (hS.st.slot t),hS.st.size⟩,hS.mks,hS.sm,f⟩
def SW.tr{c:Code}{s':SS}(t:Tr nP s s')(h:SW X nP rd nt c s' K):SW X nP rd nt c s K:=fun ro hro E hI hh w0 H U a w Q hS hQ=>by
 obtain⟨H1,β1,a1,a2,a3⟩:=hS.tr hh t;exact h ro hro E hI hh w0 H1 β1 a w Q a3 fun e s2 a' w' k hp'=>hQ e s2 a' w' k (hp'.trans a1 a2 (MarkSame.refl _))
def sU{G:Type _}(nP:Nat)(inv:G->SS)(μ:G->Nat)(g:G)(K:Exit->SS->Prop):Exit->SS->Prop
 | .normal,s=>∃g',Tr nP s (inv g')/\μ g'<μ g
 |e,s=>K e s
def cq{G:Type _}(inv:G->SS)(μ:G->Nat){c:Code}(g0:G)(h0:Tr nP s (inv g0))(h:∀g,SW X nP rd nt c (inv g) (sU nP inv μ g K)):SW X nP rd nt (.loop c) s K:=fun ro hro E hI hh w0 H U a w Q hS hQ=>by
 have key:∀(n:Nat) (g:G) (H:ak) (U:Bm) (a:Act) (w:World),μ g<=n->SSm X E w0 nt H U (inv g) a w->(∀e s' a' w',K e s'->SPost X nP E w0 nt H U w s' a' w'->Q e a' w')->Code.roundsIn (FW ro) 0 X.P c Q (n+1) a w:=by
  intro n;induction n with
  |zero=>
   intro g H U a w hn hS hQ;rw[xJ];refine h g ro hro E hI hh w0 H U a w _ hS fun e s1 a1 w1 hk hp=>?_;cases e with
   |normal=>obtain⟨g',_,hg'⟩:=hk;omega
   |_=>exact hQ _ _ _ _ hk hp
  |succ n ih=>
   intro g H U a w hn hS hQ;rw[xJ];refine h g ro hro E hI hh w0 H U a w _ hS fun e s1 a1 w1 hk hp=>?_;cases e with
   |normal=>
    obtain⟨g',ht,hg'⟩:=hk;obtain⟨H1,β1,p1,p2,p3,p4⟩:=hp;obtain⟨H2,β2,k0,k1,k2⟩:=p3.tr hh ht;exact ih g' H2 β2 a1 w1 (by omega) k2 fun e s' a' w' k hp'=>hQ e s' a' w' k (hp'.trans (p1.trans k0) (p2.trans k1) p4)
   |_=>exact hQ _ _ _ _ hk hp
 obtain⟨H0,β0,k0,k1,k2⟩:=hS.tr hh h0;exact Ol (μ g0+1) (key (μ g0) g0 H0 β0 a w (ah _) k2 fun e s' a' w' k hp'=>hQ e s' a' w' k (hp'.trans k0 k1 (MarkSame.refl _)))
def Nv{G:Type _}(nP:Nat)(inv:G->SS)(K:Exit->SS->Prop):Exit->SS->Prop
 | .normal,s=>∃g,Tr nP s (inv g)
 |e,s=>K e s
def SO{G:Type _}(inv:G->SS){x y:Code}(h1:SW X nP rd nt x s (Nv nP inv K))(h2:∀g,SW X nP rd nt y (inv g) K):SW X nP rd nt (.seq x y) s K :=
 SW.seq (h1.mono fun e s h=>by
  cases e with
  |normal=>obtain⟨g,t⟩:=h;exact SW.tr t (h2 g)
  |_=>exact h)
end
abbrev Rv:=Nat->Nat->Nat×Nat
def pN(V:Rv):EV->EV
 | .ptr g u o=>.ptr (V g u).1 (V g u).2 o
 | .slc g u o n c=>.slc (V g u).1 (V g u).2 o n c
 | .clo f gs=>.clo f (gs.map fun g=>(V g 0).1)
 | .yld g=>.yld (V g 0).1
 | .mp g=>.mp (V g 0).1
 |x=>x
def kW(V:Rv):EW->EW
 | .one c=>.one (pN V c)
 | .agg cs=>.agg (cs.map (pN V))
 | .q n d=>.q n d
def wH(V:Rv):ES->ES
 | .w x=>.w (kW V x)
 | .tup xs=>.tup (xs.map (kW V))
 |x=>x
def qo(V:Rv):EO->EO
 | .mem e cs fz vs cnt=>.mem e (cs.map (pN V)) fz vs cnt
 | .map es ck=>.map (es.map fun e=>(kW V e.1,kW V e.2.1,e.2.2)) ck
 | .iter gm since seen last cur=>.iter (V gm 0).1 since seen last cur
 |o=>o
def qs(P:Nat->Nat->Bool):EV->Bool
 | .ptr g u _=>P g u
 | .slc g u _ _ _=>P g u
 | .clo _ gs=>gs.all fun g=>P g 0
 | .yld g=>P g 0
 | .mp g=>P g 0
 |_=>true
def nE(P:Nat->Nat->Bool):EW->Bool
 | .one c=>qs P c
 | .agg cs=>cs.all (qs P)
 | .q _ _=>true
def Fp(P:Nat->Nat->Bool):ES->Bool
 | .w x=>nE P x
 | .tup xs=>xs.all (nE P)
 |_=>true
def w5(P:Nat->Nat->Bool):EO->Bool
 | .mem _ cs _ _ _=>cs.all (qs P)
 | .map es _=>es.all fun e=>nE P e.1&&nE P e.2.1
 | .iter gm _ _ _ _=>P gm 0
 | .loop .. => false
 | .hid=>true
section
variable {Z:QS}{H:ak}{U U':Bm}{V:Rv}{P:Nat->Nat->Bool}
def qh(U U':Bm)(V:Rv)(P:Nat->Nat->Bool):Prop:=(∀g u,P g u=true->U' (V g u).1 (V g u).2=U g u)/\∀g,(V g 0).2=0
def CR.rv(hP:qh U U' V P){v:Value}:∀{x:EV},qs P x=true->CR Z H U v x->CR Z H U' v (pN V x)
 | .iv _,_,h=>h
 | .qc _ _ _,_,h=>h
 | .ptr g u off,hx,⟨k,h1,h2⟩=>⟨k,by rw[hP.1 g u hx];exact h1,h2⟩
 | .slc g u off n cap,hx,⟨k,c,h1,h2⟩=>⟨k,c,by rw[hP.1 g u hx];exact h1,h2⟩
 | .clo f gs,hx,⟨h1,h2⟩=>by
  have key:∀g∈gs,U' (V g 0).1 0=U g 0:=fun g hg=>by
   have:=hP.1 g 0 (List.all_eq_true.1 hx g hg);rwa[hP.2 g] at this
  refine⟨fun g hg=>?_,?_⟩
  . obtain⟨g0,hg0,rfl⟩:=List.mem_map.1 hg;rw[key g0 hg0];exact h1 g0 hg0
  rw[h2,cC];congr 2;exact jI fun g hg=>by unfold io;simp only[Function.comp];rw[key g hg]
 | .yld g,hx,⟨k,h1,h2⟩=>⟨k,by have:=hP.1 g 0 hx;rw[hP.2 g] at this;rw[this];exact h1,h2⟩
 | .mp g,hx,⟨k,h1,h2⟩=>⟨k,by have:=hP.1 g 0 hx;rw[hP.2 g] at this;rw[this];exact h1,h2⟩
 | .dp _ _,_,h=>h
 | .cd _ _,_,h=>h
def CRL.rv(hP:qh U U' V P):∀{vs:List Value} {xs:List EV},xs.all (qs P)=true->CRL Z H U vs xs->CRL Z H U' vs (xs.map (pN V))
 | [],[],_,_=>trivial
 |v::vs,x::xs,hx,⟨h1,h2⟩=>by
  simp only[dl,aH] at hx;exact⟨CR.rv hP hx.1 h1,CRL.rv hP hx.2 h2⟩
 | [],_::_,_,h=>h.elim
 |_::_,[],_,h=>h.elim
def WR.rv(hP:qh U U' V P){v:Value}{x:EW}(hx:nE P x=true)(h:WR Z H U v x):WR Z H U' v (kW V x):=by
 cases x with
 |one c=>exact CR.rv hP hx h
 |agg cs=>obtain⟨vs,e,k⟩:=h;exact⟨vs,e,CRL.rv hP hx k⟩
 |q n d=>exact h
def WRL.rv(hP:qh U U' V P):∀{vs:List Value} {xs:List EW},xs.all (nE P)=true->WRL Z H U vs xs->WRL Z H U' vs (xs.map (kW V))
 | [],[],_,_=>trivial
 |v::vs,x::xs,hx,⟨h1,h2⟩=>by
  simp only[dl,aH] at hx;exact⟨WR.rv hP hx.1 h1,WRL.rv hP hx.2 h2⟩
 | [],_::_,_,h=>h.elim
 |_::_,[],_,h=>h.elim
def SRe.rv(hP:qh U U' V P){v:Value}{x:ES}(hx:Fp P x=true)(h:SRe Z H U v x):SRe Z H U' v (wH V x):=by
 cases x with
 |unk=>trivial
 |und=>exact h
 |w x=>exact WR.rv hP hx h
 |tup xs=>obtain⟨vs,e,k⟩:=h;exact⟨vs,e,WRL.rv hP hx k⟩
def MRL.rv(hP:qh U U' V P):∀{vs:List MapEntry} {xs:List (EW×EW×Nat)},(xs.all fun e=>nE P e.1&&nE P e.2.1)=true->MRL Z H U vs xs->MRL Z H U' vs (xs.map fun e=>(kW V e.1,kW V e.2.1,e.2.2))
 | [],[],_,_=>trivial
 |v::vs,x::xs,hx,⟨⟨h0,h1,h2⟩,h3⟩=>by
  simp only[dl,aH] at hx;exact⟨⟨WR.rv hP hx.1.1 h0,WR.rv hP hx.1.2 h1,h2⟩,MRL.rv hP hx.2 h3⟩
 | [],_::_,_,h=>h.elim
 |_::_,[],_,h=>h.elim
def OR.rv(hP:qh U U' V P){own:Nat->Prop}{w:World}{g g':Nat}{o:EO}(hg:∀u,U' g' u=U g u)(ho:w5 P o=true)(h:OR Z own w H U g o):OR Z own w H U' g' (qo V o):=by
 cases o with
 |mem e cs fz vs cnt=>
  refine⟨fun hf u k hk=>h.1 hf u k (by rw[<-hg];exact hk),fun u p hup=>?_⟩;obtain⟨h1,k,arr,h2,h3,h4,h5,h6,h7,h8,h9⟩:=h.2 u p hup;refine⟨h1,k,arr,by rw[hg];exact h2,h3,h4,h5,h6,by rw[aV];exact h7,h8,?_⟩;rw[<-F4];exact CRL.rv hP (List.all_eq_true.2 fun x hx=>List.all_eq_true.1 ho x (dY hx)) h9
 |map es ck=>
  obtain⟨k,ents,h1,h2,h3,h4,h5⟩:=h;exact⟨k,ents,by rw[hg];exact h1,h2,h3,h4,MRL.rv hP ho h5⟩
 |iter gm since seen last cur=>
  obtain⟨k,km,sn,h1,h2,h3⟩:=h;refine⟨k,km,sn,by rw[hg];exact h1,?_,h3⟩;have:=hP.1 gm 0 ho;rw[hP.2 gm] at this;rw[this];exact h2
 |loop=>cases ho
 |hid=>trivial
end
def He{P:Nat->Nat->Bool}:∀{x:EV},bv x=[]->qs P x=true
 | .clo f gs,h=>by
  have h:gs=[]:=h;subst h;rfl
 | .iv _,_=>rfl
 | .qc _ _ _,_=>rfl
 | .dp _ _,_=>rfl
 | .cd _ _,_=>rfl
 | .ptr _ _ _,h=>by cases h
 | .slc _ _ _ _ _,h=>by cases h
 | .yld _,h=>by cases h
 | .mp _,h=>by cases h
def GN{V:Rv}:∀{x:EV},bv x=[]->pN V x=x
 | .clo f gs,h=>by
  have h:gs=[]:=h;subst h;rfl
 | .iv _,_=>rfl
 | .qc _ _ _,_=>rfl
 | .dp _ _,_=>rfl
 | .cd _ _,_=>rfl
 | .ptr _ _ _,h=>by cases h
 | .slc _ _ _ _ _,h=>by cases h
 | .yld _,h=>by cases h
 | .mp _,h=>by cases h
def sV{P:Nat->Nat->Bool}:∀{cs:List EV},cs.flatMap bv=[]->cs.all (qs P)=true
 | [],_=>rfl
 |c::cs,h=>by
  simp only[cO,xK] at h;simp only[dl,He h.1,sV h.2,mT]
def sS{V:Rv}:∀{cs:List EV},cs.flatMap bv=[]->cs.map (pN V)=cs
 | [],_=>rfl
 |c::cs,h=>by
  simp only[cO,xK] at h;rw[aZ,GN h.1,sS h.2]
def x6{P:Nat->Nat->Bool}{x:EW}(h:eM x=[]):nE P x=true:=by
 cases x with
 |one c=>exact He h
 |agg cs=>exact sV h
 |q=>rfl
def xW{V:Rv}{x:EW}(h:eM x=[]):kW V x=x:=by
 cases x with
 |one c=>rw[kW,GN h]
 |agg cs=>rw[kW,sS h]
 |q=>rfl
def Hf{P:Nat->Nat->Bool}:∀{xs:List EW},xs.flatMap eM=[]->xs.all (nE P)=true
 | [],_=>rfl
 |c::cs,h=>by
  simp only[cO,xK] at h;simp only[dl,x6 h.1,Hf h.2,mT]
def G7{V:Rv}:∀{xs:List EW},xs.flatMap eM=[]->xs.map (kW V)=xs
 | [],_=>rfl
 |c::cs,h=>by
  simp only[cO,xK] at h;rw[aZ,xW h.1,G7 h.2]
def P3{P:Nat->Nat->Bool}{x:ES}(h:fP x=[]):Fp P x=true:=by
 cases x with
 |unk=>rfl
 |und=>rfl
 |w x=>exact x6 h
 |tup xs=>exact Hf h
def Po{V:Rv}{x:ES}(h:fP x=[]):wH V x=x:=by
 cases x with
 |unk=>rfl
 |und=>rfl
 |w x=>rw[wH,xW h]
 |tup xs=>rw[wH,G7 h]
def P2{P:Nat->Nat->Bool}{o:EO}(h:fR o):w5 P o=true:=by
 cases o with
 |mem e cs fz vs cnt=>exact sV h
 |map es ck=>exact List.all_eq_true.2 fun e he=>by rw[x6 (h e he).1,x6 (h e he).2];rfl
 |iter=>exact h.elim
 |loop=>exact h.elim
 |hid=>rfl
def PR{V:Rv}{o:EO}(h:fR o):qo V o=o:=by
 cases o with
 |mem e cs fz vs cnt=>rw[qo,sS h]
 |map es ck=>
  rw[qo];congr 1;conv=>rhs;rw[<-F8 es]
  refine jI fun e he=>?_;rw[xW (h e he).1,xW (h e he).2];rfl
 |iter=>exact h.elim
 |loop=>exact h.elim
 |hid=>rfl
inductive VM where
 |one (u:Nat)
 |cut (c:Nat)
def gf:List (Nat×VM)->Nat->Option VM
 | [],_=>none
 | (k,u)::l,g=>bif Nat.beq g k then some u else gf l g
def pP(r:List (Nat×Nat))(vr:List (Nat×VM)):Rv:=fun g u=>(js r g,match gf vr (js r g) with
 |some (.one _)=>0
 |_=>u)
def ut(r:List (Nat×Nat))(vr:List (Nat×VM))(m:List (Nat×EO))(g u:Nat):Bool:=oe r m g&&(match gf vr (js r g) with
 |none=>true
 |some (.one u0)=>Nat.beq u u0
 |some (.cut c)=>Nat.blt u c)
def gP(r:List (Nat×Nat))(vr:List (Nat×VM))(m:List (Nat×EO))(U:Bm):Bm:=fun g u=>match gu m g with
 |false=>none
 |true=>match gf vr g with
  |none=>U (eY r g) u
  |some (.one u0)=>(match u with
   |0=>U (eY r g) u0
   |_+1=>none)
  |some (.cut c)=>match Nat.blt u c with
   |true=>U (eY r g) u
   |false=>none
inductive SlotT(r:List (Nat×Nat))(vr:List (Nat×VM))(m:List (Nat×EO)):ES->ES->Prop
 |rn {x y:ES} (h:wH (pP r vr) x=y:=by exact rfl) (hi:Fp (ut r vr m) x=true:=by exact rfl):SlotT r vr m x y
 | sm {x y:ES} (h:x=y:=by exact rfl) (hi:fP x=[]:=by exact rfl):SlotT r vr m x y
inductive BoxT(r:List (Nat×Nat))(vr:List (Nat×VM))(m:List (Nat×EO))(g:Nat):Option EO->EO->Prop
 |rn {x:Option EO} {o0 o:EO} (hv:gf vr g=none:=by exact rfl) (h:x=some o0:=by exact rfl) (h2:qo (pP r vr) o0=o:=by exact rfl) (hi:w5 (ut r vr m) o0=true:=by exact rfl):BoxT r vr m g x o
 | sm {x:Option EO} {o:EO} (hv:gf vr g=none:=by exact rfl) (h:x=some o:=by exact rfl) (hc:fR o:=by exact rfl):BoxT r vr m g x o
 |ver {x:Option EO} {e:TypeId} {cs cs1:List EV} {fz:Bool} {vs:List (Nat×Nat)} {cnt u0 p p1:Nat} (hv:gf vr g=some (.one u0)) (h:x=some (.mem e cs fz vs cnt)) (hu:cW u0 vs=some p) (hp:p1<=p) (hl:p1<=cs1.length) (hc:cs.take p1=cs1.take p1) (hn:cs1.flatMap bv=[]):BoxT r vr m g x (.mem e cs1 fz [(0,p1)] 1)
 |verR {x:Option EO} {e:TypeId} {cs cs1:List EV} {fz:Bool} {vs:List (Nat×Nat)} {cnt u0 p p1:Nat} (hv:gf vr g=some (.one u0)) (h:x=some (.mem e cs fz vs cnt)) (hu:cW u0 vs=some p) (hp:p1<=p) (hl:p1<=cs1.length) (hc:(cs.take p1).map (pN (pP r vr))=cs1.take p1) (hn:(cs.take p1).all (qs (ut r vr m))=true):BoxT r vr m g x (.mem e cs1 fz [(0,p1)] 1)
 |cut {x:Option EO} {e:TypeId} {cs cs1:List EV} {fz:Bool} {vs vs1:List (Nat×Nat)} {cnt c pm:Nat} (hv:gf vr g=some (.cut c)) (h:x=some (.mem e cs fz vs cnt)) (hu:∀q∈vs1,q.1<c/\q.2<=pm/\∃p,(q.1,p)∈vs/\q.2<=p) (hl:pm<=cs1.length) (hc:cs.take pm=cs1.take pm) (hn:cs1.flatMap bv=[]):BoxT r vr m g x (.mem e cs1 fz vs1 c)
 |drop {x:Option EO} {e:TypeId} {cs cs1:List EV} {fz:Bool} {vs vs1:List (Nat×Nat)} {cnt pm:Nat} (hv:gf vr g=none) (h:x=some (.mem e cs fz vs cnt)) (hu:∀q∈vs1,q.2<=pm/\∃p,(q.1,p)∈vs/\q.2<=p) (hl:pm<=cs1.length) (hc:cs.take pm=cs1.take pm) (hn:cs1.flatMap bv=[]):BoxT r vr m g x (.mem e cs1 fz vs1 cnt)
 |ph {x:Option EO} {e:TypeId} {cs:List EV} {fz:Bool} (h:x=none):BoxT r vr m g x (.mem e cs fz [] 0)
def LB(r:List (Nat×Nat))(vr:List (Nat×VM))(m:List (Nat×EO))(tm:Nat->ES):List (Nat×ES)->Prop
 | []=>True
 | (t,v)::l=>SlotT r vr m (tm t) v/\LB r vr m tm l
def Es(r:List (Nat×Nat))(vr:List (Nat×VM))(m:List (Nat×EO))(h:Hp):List (Nat×EO)->Prop
 | []=>True
 | (g,o)::l=>BoxT r vr m g (h (eY r g)) o/\Es r vr m h l
def yb{r:List (Nat×Nat)}{vr:List (Nat×VM)}{m:List (Nat×EO)}{h:Hp}{g:Nat}{o:EO}:∀{l:List (Nat×EO)},Es r vr m h l->(g,o)∈l->BoxT r vr m g (h (eY r g)) o
 | (k,o')::l,⟨h1,h2⟩,hm=>by
   rcases List.mem_cons.1 hm with e|hm
   . cases e;exact h1
   exact yb h2 hm
def Dl:Option EO->Bool
 |some (.mem _ _ _ _ 0)=>true
 |_=>false
def Ad(r:List (Nat×Nat))(vr:List (Nat×VM))(m:List (Nat×EO))(h:Hp):Nat->Bool
 |0=>true
 |n+1=>((gu m n&&(Nat.beq (eY r n) n&&(gf vr n).isNone))||Dl (h n))&&Ad r vr m h n
def CD{r:List (Nat×Nat)}{vr:List (Nat×VM)}{m:List (Nat×EO)}{h:Hp}:∀{n:Nat},Ad r vr m h n=true->∀g,g<n->(gu m g=true/\eY r g=g/\gf vr g=none)\/Dl (h g)=true
 |n+1,hp,g,hg=>by
  simp only[Ad,aH,iW,Option.isNone_iff_eq_none] at hp;rcases Nat.lt_succ_iff_lt_or_eq.1 hg with h1|h1
  . exact CD hp.2 g h1
  subst h1;exact hp.1.imp (fun k=>⟨k.1,aB k.2.1,k.2.2⟩) id
def Tr.tab{nP:Nat}{s:SS}(r:List (Nat×Nat))(vr:List (Nat×VM)){l:List (Nat×ES)}{m:List (Nat×EO)}{nx:Nat}(h1:LB r vr m s.tm l)(h2:Es r vr m s.h m)(h3:(lX (m.map fun p=>eY r p.1)&&(Ad r vr m s.h nP&&po nx m))=true):Tr nP s (aR l m nx):=fun _=>by
 simp only[aH] at h3;refine⟨ym h3.2.2,fun Z E H U w hS hE=>?_⟩;have hnone:∀g,s.h g=none->∀u,U g u=none:=fun g hg u=>by
  cases hk:U g u with
  |none=>rfl
  |some k=>obtain⟨_,o,b,_⟩:=hS.dom g u k hk;rw[hg] at b;cases b
 have hR:qh U (gP r vr m U) (pP r vr) (ut r vr m):=by
  refine⟨fun g u hp=>?_,fun g=>?_⟩
  .
   simp only[ut,oe,aH] at hp;unfold pP gP;rw[hp.1.1];have e2:=aB hp.1.2;have h2:=hp.2;cases hv:gf vr (js r g) with
   |none=>simp only[e2]
   |some x=>
    rw[hv] at h2;cases x with
    |one u0=>simp only[e2,aB h2]
    |cut c=>
     have h2:Nat.blt u c=true:=h2;simp only[e2,h2]
  unfold pP;split<;>rfl
 have hget:∀{g u k},gP r vr m U g u=some k->gu m g=true/\∃u',U (eY r g) u'=some k/\(gf vr g=none/\u'=u\/(∃u0,gf vr g=some (.one u0)/\u=0)\/∃c,gf vr g=some (.cut c)/\u<c/\u'=u):=fun{g u k} hk=>by
  unfold gP at hk;split at hk
  . cases hk
  rename_i hi;refine⟨hi,?_⟩;split at hk
  . exact⟨u,hk,.inl ⟨by assumption,rfl⟩⟩
  . rename_i u0 hv;split at hk
    . exact⟨u0,hk,.inr (.inl ⟨u0,hv,rfl⟩)⟩
    cases hk
  rename_i c hv;split at hk
  . rename_i hb;exact⟨u,hk,.inr (.inr ⟨c,hv,by rwa[dN] at hb,rfl⟩)⟩
  cases hk
 refine⟨H,gP r vr m U,HLe.refl _,fun g u k hg hk=>?_,⟨hS.has,hS.below,hS.lo,hS.ext,fun g o hg=>?_,fun g u k hk=>?_,fun g1 g2 u1 u2 k1 k2 e1 e2 he=>?_,fun g hg=>?_⟩,fun t v hv=>?_⟩
 .
  rcases CD h3.2.1 g hg with⟨a,b,c⟩|hp
  . unfold gP;rw[a,c,b];exact hk
  exfalso;obtain⟨_,o,b,c⟩:=hS.dom g u k hk;rw[b] at hp;unfold Dl at hp;split at hp
  . rename_i ho;cases ho;rcases c with c|c
    . cases c
    exact absurd c.2 (Nat.not_lt_zero _)
  cases hp
 .
  have hin:gu m g=true:=by
   cases hi:gu m g with
   |true=>rfl
   |false=>have hg:dA m g=some o:=hg;rw[Jf hi] at hg;cases hg
  obtain⟨o',hm,ht⟩:=tq hin;have hg:dA m g=some o:=hg;rw[ht] at hg;cases hg;have hbn:gf vr g=none->∀u,gP r vr m U g u=U (eY r g) u:=fun hv u=>by unfold gP;rw[hin,hv]
  have hbs:∀u0,gf vr g=some (.one u0)->(gP r vr m U g 0=U (eY r g) u0)/\∀u k,gP r vr m U g u=some k->u=0/\U (eY r g) u0=some k:=fun u0 hv=>by
   unfold gP;rw[hin,hv];refine⟨rfl,fun u k hk=>?_⟩;cases u with
   |zero=>exact⟨rfl,hk⟩
   |succ=>cases hk
  have hver:∀{e:TypeId} {cs cs1:List EV} {fz:Bool} {vs:List (Nat×Nat)} {cnt u0 p p1:Nat},gf vr g=some (.one u0)->s.h (eY r g)=some (.mem e cs fz vs cnt)->cW u0 vs=some p->p1<=p->p1<=cs1.length->(∀vs',CRL Z H U vs' (cs.take p1)->CRL Z H (gP r vr m U) vs' (cs1.take p1))->OR Z E.own w H (gP r vr m U) g (.mem e cs1 fz [(0,p1)] 1):=fun{e cs cs1 fz vs cnt u0 p p1} hv h hu hp hl hc=>by
   have ho:=hS.obj _ _ h;obtain⟨b1,b2⟩:=hbs u0 hv;obtain⟨_,k,arr,j2,j3,j4,j5,j6,j7,j8,j9⟩:=ho.2 u0 p (oX hu);refine⟨fun hf u k hk=>ho.1 hf _ _ (b2 u k hk).2,fun u q huq=>?_⟩;simp only[fg,aC] at huq;obtain⟨rfl,rfl⟩:=huq;refine⟨Nat.one_pos,k,arr,by rw[b1];exact j2,j3,j4,j5,j6,hl,by omega,hc _ ?_⟩;have:=j9.take q;rwa[cB,cB,ce hp] at this
  cases yb h2 hm with
  |rn hv h h2 hi=>rw[<-h2];exact OR.rv hR (hbn hv) hi (hS.obj _ _ h)
  | sm hv h hc=>rw[<-PR (V:=pP r vr) hc];exact OR.rv hR (hbn hv) (P2 hc) (hS.obj _ _ h)
  | @ver e cs cs1 fz vs cnt u0 p p1 hv h hu hp hl hc hn=>
   refine hver hv h hu hp hl fun vs' hcr=>?_;rw[hc] at hcr;have hn':(cs1.take p1).flatMap bv=[]:=by
    cases hx:(cs1.take p1).flatMap bv with
    |nil=>rfl
    |cons i l=>
     have:i∈cs1.flatMap bv:=uZ (p:=p1) (by rw[hx];simp);rw[hn] at this;cases this
   have:=CRL.rv hR (sV hn') hcr;rwa[sS hn'] at this
  | @verR e cs cs1 fz vs cnt u0 p p1 hv h hu hp hl hc hn=>
   refine hver hv h hu hp hl fun vs' hcr=>?_;rw[<-hc];exact CRL.rv hR hn hcr
  | @cut e cs cs1 fz vs vs1 cnt c pm hv h hu hl hc hn=>
   have ho:=hS.obj _ _ h;have hb:∀u,u<c->gP r vr m U g u=U (eY r g) u:=fun u hu=>by
    have hu':Nat.blt u c=true:=by rw[dN];exact hu
    unfold gP;rw[hin,hv];simp only[hu']
   refine⟨fun hf u k hk=>?_,fun u q huq=>?_⟩
   . obtain⟨_,u',hk',hcase⟩:=hget hk;exact ho.1 hf u' k hk'
   obtain⟨j0,j1,p,hp,j2⟩:=hu _ huq;obtain⟨_,k,arr,i2,i3,i4,i5,i6,i7,i8,i9⟩:=ho.2 u p hp;have j1:q<=pm:=j1;have j2:q<=p:=j2;refine⟨j0,k,arr,by rw[hb u j0];exact i2,i3,i4,i5,i6,by omega,by omega,?_⟩;have h9:=i9.take q;rw[cB,cB,ce j2] at h9;have e9:cs.take q=cs1.take q:=by
    have:=aL (List.take q) hc;rwa[cB,cB,ce j1] at this
   rw[e9] at h9;have hn':(cs1.take q).flatMap bv=[]:=by
    cases hx:(cs1.take q).flatMap bv with
    |nil=>rfl
    |cons i l=>
     have:i∈cs1.flatMap bv:=uZ (p:=q) (by rw[hx];simp);rw[hn] at this;cases this
   have:=CRL.rv hR (sV hn') h9;rwa[sS hn'] at this
  | @drop e cs cs1 fz vs vs1 cnt pm hv h hu hl hc hn=>
   have ho:=hS.obj _ _ h;refine⟨fun hf u k hk=>ho.1 hf u k (by rw[<-hbn hv];exact hk),fun u q huq=>?_⟩;obtain⟨j1,p,hp,j2⟩:=hu _ huq;obtain⟨j0,k,arr,i2,i3,i4,i5,i6,i7,i8,i9⟩:=ho.2 u p hp;have j1:q<=pm:=j1;have j2:q<=p:=j2;refine⟨j0,k,arr,by rw[hbn hv];exact i2,i3,i4,i5,i6,by omega,by omega,?_⟩;have h9:=i9.take q;rw[cB,cB,ce j2] at h9;have e9:cs.take q=cs1.take q:=by
    have:=aL (List.take q) hc;rwa[cB,cB,ce j1] at this
   rw[e9] at h9;have hn':(cs1.take q).flatMap bv=[]:=by
    cases hx:(cs1.take q).flatMap bv with
    |nil=>rfl
    |cons i l=>
     have:i∈cs1.flatMap bv:=uZ (p:=q) (by rw[hx];simp);rw[hn] at this;cases this
   have:=CRL.rv hR (sV hn') h9;rwa[sS hn'] at this
  |ph h=>
   have hno:∀u,gP r vr m U g u=none:=fun u=>by
    cases hk:gP r vr m U g u with
    |none=>rfl
    |some k=>obtain⟨_,u',hk',_⟩:=hget hk;rw[hnone _ h] at hk';cases hk'
   exact⟨fun _ u k hk=>(by rw[hno] at hk;cases hk),fun u p hup=>(by cases hup)⟩
 .
  obtain⟨hin,u',hk',hcase⟩:=hget hk;obtain⟨o,hm,ht⟩:=tq hin;obtain⟨a,o0,b,c⟩:=hS.dom _ _ _ hk';refine⟨a,o,ht,?_⟩;cases yb h2 hm with
  |rn hv h h2 hi=>
   rw[h] at b;cases b;rcases hcase with⟨_,rfl⟩|⟨u0,e,_⟩|⟨c,e,_⟩
   rotate_left
   . rw[hv] at e;cases e
   . rw[hv] at e;cases e
   rw[<-h2];refine c.imp (fun e=>by rw[e];rfl) fun c=>⟨c.1,?_⟩;have:(qo (pP r vr) o0).cnt=o0.cnt:=by cases o0<;>rfl
   rw[this];exact c.2
  | sm hv h hc=>
   rw[h] at b;cases b;rcases hcase with⟨_,rfl⟩|⟨u0,e,_⟩|⟨c,e,_⟩
   . exact c
   . rw[hv] at e;cases e
   rw[hv] at e;cases e
  |drop hv h hu hl hc hn=>
   rw[h] at b;cases b;rcases hcase with⟨_,rfl⟩|⟨u0,e,_⟩|⟨c,e,_⟩
   . exact .inr (c.resolve_left (by simp))
   . rw[hv] at e;cases e
   rw[hv] at e;cases e
  | @cut e cs cs1 fz vs vs1 cnt c0 pm hv h hu hl hc hn=>
   rw[h] at b;cases b;rcases hcase with⟨e,_⟩|⟨u0,e,_⟩|⟨c',e,e2,rfl⟩
   . rw[hv] at e;cases e
   . rw[hv] at e;cases e
   rw[hv] at e;cases e;rcases c with c|c
   . cases c
   exact .inr ⟨c.1,e2⟩
  |ver hv h hu hp hl hc hn=>
   rw[h] at b;cases b;rcases hcase with⟨e,_⟩|⟨u0,_,rfl⟩|⟨c',e,_⟩
   . rw[hv] at e;cases e
   rotate_left
   . rw[hv] at e;cases e
   rcases c with c|c
   . cases c
   exact .inr ⟨c.1,Nat.one_pos⟩
  |verR hv h hu hp hl hc hn=>
   rw[h] at b;cases b;rcases hcase with⟨e,_⟩|⟨u0,_,rfl⟩|⟨c',e,_⟩
   . rw[hv] at e;cases e
   rotate_left
   . rw[hv] at e;cases e
   rcases c with c|c
   . cases c
   exact .inr ⟨c.1,Nat.one_pos⟩
  |ph h=>rw[h] at b;cases b
 . obtain⟨i1,u1',f1,_⟩:=hget e1;obtain⟨i2,u2',f2,_⟩:=hget e2;exact B4 h3.1 i1 i2 (hS.inj _ _ _ _ _ _ f1 f2 he)
 .
  obtain⟨a,b⟩:=hS.hidb g hg;rcases CD h3.2.1 g (hE g hg) with⟨i1,i2,i3⟩|hp
  .
   refine⟨?_,fun u=>by unfold gP;rw[i1,i3,i2];exact b u⟩;obtain⟨o,hm,ht⟩:=tq i1;show dA m g=_;rw[ht];have hb:=yb h2 hm;rw[i2,a] at hb;cases hb with
   |rn hv h h2 hi=>cases h;rw[<-h2];rfl
   | sm hv h hc=>cases h;rfl
   |ver hv h hu hp hl hc hn=>cases h
   |verR hv h hu hp hl hc hn=>cases h
   |cut hv h hu hl hc hn=>cases h
   |drop hv h hu hl hc hn=>cases h
   |ph h=>cases h
  rw[a] at hp;cases hp
 show SRe Z H (gP r vr m U) v (qk l t);induction l with
 |nil=>exact trivial
 |cons p l ih=>
  obtain⟨k,x⟩:=p;unfold qk;cases hb:Nat.beq t k with
  |true=>
   have:=aB hb;subst this;rw[al];cases h1.1 with
   |rn h hi=>rw[<-h];exact SRe.rv hR hi hv
   | sm h hi=>
    rw[h] at hv hi;have:=SRe.rv hR (P3 (P:=ut r vr m) hi) hv;rwa[Po hi] at this
  |false=>exact ih h1.2
structure FzB(h:Hp)(g u n:Nat)(es:List IV):Prop where
 ex:∃e cs vs cnt sz p,h g=some (.mem e cs false vs cnt)/\cW u vs=some p/\n=es.length/\b7 sz es=true/\n*sz<=p/\cs.take (n*sz)=(es.flatMap IV.cells).map .iv
def fq{h:Hp}{g u n:Nat}{es:List IV}{e:TypeId}{cs:List EV}{vs:List (Nat×Nat)}{cnt p:Nat}(sz:Nat)(hg:h g=some (.mem e cs false vs cnt))(hv:cW u vs=some p)(hn:n=es.length)(hsz:b7 sz es=true)(hp:n*sz<=p)(hc:cs.take (n*sz)=(es.flatMap IV.cells).map .iv):FzB h g u n es :=
 ⟨e,cs,vs,cnt,sz,p,hg,hv,hn,hsz,hp,hc⟩
def KL{Z:QS}{E:EEnv}{H:ak}{U:Bm}{h:Hp}{w:World}(hS:ESim Z E H U h w){g u n:Nat}{es:List IV}(hb:FzB h g u n es) :
 ∃H',HLe H H'/\ESim Z E H' U (az h g (some .hid)) w/\∀cap v,CR Z H U v (.slc g u 0 n cap)->CR Z H' U v (.iv (.sl es)):=by
 obtain⟨e,cs,vs,cnt,sz,p,hg,hv,hn,hsz,hp,hc⟩:=hb.ex;obtain⟨H',k,arr,k1,k2,k3,k4,k5,k6,k7⟩:=hS.freeze hg (oX hv);refine⟨H',k2,k3,fun cap v hv'=>?_⟩;obtain⟨k',c,e1,rfl,e2,e3⟩:=hv';rw[k1] at e1;cases e1;refine⟨rfl,?_⟩;have h5:=k5.take (n*sz);rw[cB,cB,ce hp,hc] at h5;obtain⟨vs',v1,v2,v3⟩:=xQ hsz h5;have hl:=v1.length;refine VR.sl k.1 0 n c sz arr vs' es k4 (v1.mono k2) hn e2 v3 ?_;rw[bW,v2,hl,<-hn]
inductive FzC(g u n:Nat)(es:List IV):EV->EV->Prop
 | sm (x:EV):FzC g u n es x x
 |fz (cap:Cap):FzC g u n es (.slc g u 0 n cap) (.iv (.sl es))
inductive FzL(g u n:Nat)(es:List IV):List EV->List EV->Prop
 | sm (cs:List EV):FzL g u n es cs cs
 |cons {x y:EV} {xs ys:List EV} (h:FzC g u n es x y) (t:FzL g u n es xs ys):FzL g u n es (x::xs) (y::ys)
 |app {a b c d:List EV} (h:FzL g u n es a b) (t:FzL g u n es c d):FzL g u n es (a++c) (b++d)
def FzL.get{g u n:Nat}{es:List IV}{cs cs':List EV}(h:FzL g u n es cs cs'):cs.length=cs'.length/\∀(i:Nat) (y:EV),cs'[i]?=some y->∃x,cs[i]?=some x/\FzC g u n es x y:=by
 induction h with
 | sm cs=>exact⟨rfl,fun i y hy=>⟨y,hy,.sm y⟩⟩
 |cons h t ih=>
  refine⟨by simp[ih.1],fun i y hy=>?_⟩;cases i with
  |zero=>simp at hy;subst hy;exact⟨_,rfl,h⟩
  |succ i=>simp at hy;simpa using ih.2 i y hy
 |app h t ih1 ih2=>
  refine⟨by simp[ih1.1,ih2.1],fun i y hy=>?_⟩;rw[xd] at hy ⊢;rw[ih1.1];split at hy
  . rename_i hlt;rw[au hlt];exact ih1.2 i y hy
  rename_i hlt;rw[aq hlt];exact ih2.2 _ y hy
def FzL.take{Z:QS}{H H':ak}{U:Bm}{g u n:Nat}{es:List IV}{cs cs':List EV}(h:FzL g u n es cs cs')(hf:∀cap v,CR Z H U v (.slc g u 0 n cap)->CR Z H' U v (.iv (.sl es))){vs:List Value}{p:Nat}(hv:CRL Z H' U vs (cs.take p)):CRL Z H' U vs (cs'.take p):=by
 obtain⟨hl,hget⟩:=h.get;refine HM (by rw[hv.length,bG,bG,hl]) fun i v y h1 h2=>?_;have hi:i<p:=by
  have:=(List.getElem?_eq_some_iff.1 h2).1;rw[bG] at this;omega
 rw[dt,au hi] at h2;obtain⟨x,hx,hc⟩:=hget i y h2;obtain⟨v',e1,e2⟩:=hv.get i x (by rw[dt,au hi];exact hx);rw[h1] at e1;cases e1;cases hc with
 | sm=>exact e2
 |fz cap=>exact hf cap v e2
def FzO(g u n:Nat)(es:List IV)(x:Option EO)(o':EO):Prop:=∃e cs cs' fz vs cnt,x=some (.mem e cs fz vs cnt)/\o'=.mem e cs' fz vs cnt/\FzL g u n es cs cs'
def FzO.mk{g u n:Nat}{es:List IV}{x:Option EO}{e:TypeId}{cs cs':List EV}{fz:Bool}{vs:List (Nat×Nat)}{cnt:Nat}(h:x=some (.mem e cs fz vs cnt))(hl:FzL g u n es cs cs'):FzO g u n es x (.mem e cs' fz vs cnt):=⟨e,cs,cs',fz,vs,cnt,h,rfl,hl⟩
def E9(g u n:Nat)(es:List IV)(h:Hp):List (Nat×EO)->Prop
 | []=>True
 | (g',o)::l=>(g'≠g/\FzO g u n es (h g') o)/\E9 g u n es h l
def E8(g u n:Nat)(tm:Nat->ES):List Nat->Prop
 | []=>True
 |t::l=>(∃cap,tm t=.w (.one (.slc g u 0 n cap)))/\E8 g u n tm l
def Jn{g u n:Nat}{tm:Nat->ES}{t:Nat}:∀{l:List Nat},E8 g u n tm l->t∈l->∃cap,tm t=.w (.one (.slc g u 0 n cap))
 |x::l,⟨h1,h2⟩,hm=>by
  rcases List.mem_cons.1 hm with rfl|hm
  . exact h1
  exact Jn h2 hm
def vJ{g u n:Nat}{es:List IV}{h:Hp}{g':Nat}:∀{l:List (Nat×EO)},E9 g u n es h l->∀{o},dA l g'=some o->g'≠g/\FzO g u n es (h g') o
 | (k,o')::l,⟨h1,h2⟩,o,hm=>by
   unfold dA at hm;cases hb:Nat.beq g' k with
   |true=>
    rw[hb,al] at hm;cases hm;rw[aB hb];exact h1
   |false=>rw[hb,bh] at hm;exact vJ h2 hm
def XH(s:SS)(g:Nat)(es:List IV)(ts:List Nat)(bs:List (Nat×EO)):SS :=
 ⟨fun t=>bif bV t ts then ae (.sl es) else s.tm t,fun g'=>bif Nat.beq g' g then some .hid else(match dA bs g' with
  |some o=>some o
  |none=>s.h g'),s.nx⟩
def ge{nP:Nat}{s:SS}{g u n:Nat}{es:List IV}(ts:List Nat)(bs:List (Nat×EO))(hb:FzB s.h g u n es)(ht:E8 g u n s.tm ts)(hbs:E9 g u n es s.h bs):Tr nP s (XH s g es ts bs):=fun hf=>by
 have hgs:s.h g≠none:=by
  obtain⟨e,cs,vs,cnt,sz,p,hg,_⟩:=hb.ex;rw[hg];simp
 refine⟨fun g' hg'=>?_,fun Z E H U w hS hE=>?_⟩
 .
  have h0:=hf g' hg';show(bif Nat.beq g' g then some EO.hid else(match dA bs g' with|some o=>some o|none=>s.h g'))=none;cases hb':Nat.beq g' g with
  |true=>rw[aB hb'] at h0;exact absurd h0 hgs
  |false=>
   rw[bh];cases ht':dA bs g' with
   |none=>exact h0
   |some o=>obtain⟨_,e,cs,cs',fz,vs,cnt,h1,_⟩:=vJ hbs ht';rw[h0] at h1;cases h1
 obtain⟨H',k1,k2,k3⟩:=KL hS hb;refine⟨H',U,k1,BLeP.refl _ _,⟨k2.has,k2.below,k2.lo,k2.ext,fun g' o hg'=>?_,fun g' u' k hk=>?_,k2.inj,fun g' hg'=>?_⟩,fun t v hv=>?_⟩
 .
  have hg':(bif Nat.beq g' g then some EO.hid else(match dA bs g' with|some o=>some o|none=>s.h g'))=some o:=hg';cases hb':Nat.beq g' g with
  |true=>rw[hb',al] at hg';cases hg';trivial
  |false=>
   rw[hb',bh] at hg';have hne:g'≠g:=fun e=>by rw[e,bD] at hb';cases hb'
   cases ht':dA bs g' with
   |none=>
    rw[ht'] at hg';exact k2.obj g' o (by rw[aI _ _ _ hne];exact hg')
   |some o'=>
    rw[ht'] at hg';cases hg';obtain⟨_,e,cs,cs',fz,vs,cnt,h1,rfl,h3⟩:=vJ hbs ht';have ho:=k2.obj g' _ (by rw[aI _ _ _ hne];exact h1);refine⟨ho.1,fun u' p hup=>?_⟩;obtain⟨j1,k,arr,j2,j3,j4,j5,j6,j7,j8,j9⟩:=ho.2 u' p hup;exact⟨j1,k,arr,j2,j3,j4,j5,j6,by rw[<-h3.get.1];exact j7,j8,h3.take k3 j9⟩
 .
  obtain⟨a,o,b,c⟩:=k2.dom g' u' k hk;refine⟨a,?_⟩;show ∃o,(bif Nat.beq g' g then some EO.hid else(match dA bs g' with|some o=>some o|none=>s.h g'))=some o/\_;cases hb':Nat.beq g' g with
  |true=>exact⟨.hid,rfl,.inl rfl⟩
  |false=>
   have hne:g'≠g:=fun e=>by rw[e,bD] at hb';cases hb'
   rw[aI _ _ _ hne] at b;rw[bh];cases ht':dA bs g' with
   |none=>exact⟨o,b,c⟩
   |some o'=>
    obtain⟨_,e,cs,cs',fz,vs,cnt,h1,rfl,h3⟩:=vJ hbs ht';rw[h1] at b;cases b;exact⟨_,rfl,.inr (c.resolve_left (by simp))⟩
 .
  obtain⟨a,b⟩:=hS.hidb g' hg';refine⟨?_,b⟩;show(bif Nat.beq g' g then some EO.hid else(match dA bs g' with|some o=>some o|none=>s.h g'))=some .hid;cases hb':Nat.beq g' g with
  |true=>rfl
  |false=>
   rw[bh];cases ht':dA bs g' with
   |none=>exact a
   |some o'=>obtain⟨_,e,cs,cs',fz,vs,cnt,h1,_⟩:=vJ hbs ht';rw[a] at h1;cases h1
 show SRe Z H' U v (bif bV t ts then ae (.sl es) else s.tm t);cases hm:bV t ts with
 |true=>
  obtain⟨cap,hc⟩:=Jn ht (jT.1 hm);rw[hc] at hv;exact k3 cap v hv
 |false=>exact hv.mono k1 (BLe.refl _)
def uv{a b:Nat}(h:Nat.beq a b=false:=by exact rfl):a≠b:=fun e=>by
 subst e;rw[bD] at h;cases h
def fS{V:Nat->Nat}:pR V [] []:=trivial
def bp{V:Nat->Nat}{o o':EO}{l l':List EO}(h:OZ V o o')(t:pR V l l'):pR V (o::l) (o'::l'):=⟨h,t⟩
def aD{X:EX}{nx:Nat}{f:FuncId}{xs:List IV}{r:IV}{args:List ES}{h:Hp}{K:ES->Wr->Nat->Option (List Nat)->Prop}(c:aW X.P X.I f xs r)(hK:K (dS r) [] 0 (some []))(ha:args=xs.map dS:=by exact rfl)(hn:kO xs=true:=by exact rfl)(hr:qt r=true:=by exact rfl):ct X nx f args h K:=.inl ⟨xs,r,c,ha,hn,hr,hK⟩
inductive GiveA(g u n:Nat)(es:List IV):List ES->List ES->Prop
 |nil:GiveA g u n es [] []
 | sm {l l':List ES} (x:ES) (h:GiveA g u n es l l'):GiveA g u n es (x::l) (x::l')
 |fz {l l':List ES} (cap:Cap) (h:GiveA g u n es l l'):GiveA g u n es (.w (.one (.slc g u 0 n cap))::l) (ae (.sl es)::l')
def PM{X:EX}{f:FuncId}{args args':List ES}{h h':Hp}{r:ES}{g u n:Nat}{es:List IV}(hb:FzB h g u n es)(ha:GiveA g u n es args args')(hc:CallOk X f args' (az h g (some .hid)) r h'):CallOk X f args h r h':=by
 refine⟨hc.1,fun E hI H U w vs hS hv=>?_⟩;obtain⟨H',k1,k2,k3⟩:=KL hS hb;have hv':SREL X.Z H' U vs args':=by
  clear hc;induction ha generalizing vs with
  |nil=>cases vs with
   |nil=>exact trivial
   |cons=>exact hv.elim
  | sm x _ ih=>cases vs with
   |nil=>exact hv.elim
   |cons v vs=>exact⟨hv.1.mono k1 (BLe.refl _),ih vs hv.2⟩
  |fz cap _ ih=>cases vs with
   |nil=>exact hv.elim
   |cons v vs=>exact⟨k3 cap v hv.1,ih vs hv.2⟩
 refine(hc.2 E hI H' U w vs k2 hv').mono ?_;rintro e w' ⟨v,H2,β2,rfl,a1,a2,a3,a4,a5⟩;exact⟨v,H2,β2,rfl,k1.trans a1,a2,a3,a4,a5⟩
def BJ{X:EX}{nx:Nat}{f:FuncId}{args argsd args0:List ES}{zs zs' zo:List EO}{r0 r:ES}{h:Hp}{K:ES->Wr->Nat->Option (List Nat)->Prop}{g u n:Nat}{es:List IV}(L:LocC X f args0 zs r0 zs')(hb:FzB h g u n es)(hgv:GiveA g u n es args argsd)(ids:List Nat)(b:Nat)
 (hn:(Nat.beq ids.length zs'.length&&(lX ids&&ids.all fun i=>Nat.blt i (nx+b)))=true) (ha:argZ (cF ids) args0 argsd) (hz:pj (az h g (some .hid)) (cF ids) 0 zs) (hnew:pU (az h g (some .hid)) (cF ids) zs.length (zs'.length-zs.length)) (ho:pR (cF ids) zs' zo) (hr:RZ (cF ids) r0 r)
 (hK:K r ((g,.hid)::mg ids zo) b none):ct X nx f args h K:=by
 simp only[aH] at hn;have hlen:=aB hn.1;have hle:=L.le;have hc:=Bt L (V:=cF ids) (fun i j hi hj e=>x7 hn.2.1 i j (by omega) (by omega) e) (h:=az h g (some .hid)) (fun i o hi=>by have:=yi hz i o hi;rwa[a8] at this) fun i h1 h2=>by
  have:=yW hnew (i-zs.length) (by omega);rwa[show zs.length+(i-zs.length)=i by omega] at this
 rw[ha.eq,hr.eq,yU (by omega) ho,bW] at hc;refine .inr (.inl ⟨r,(g,.hid)::mg ids zo,b,PM hb hgv hc,fun p hp=>?_,hK⟩);rcases List.mem_cons.1 hp with rfl|hp
 . obtain⟨e,cs,vs,cnt,sz,p,hg,_⟩:=hb.ex;exact .inr (by rw[hg];simp)
 refine .inl ?_;have:=List.all_eq_true.1 hn.2.2 p.1 (vA hp);rwa[dN] at this
end Go.Proofs.En
namespace Go.Proofs.Reg
abbrev Pw:=List Int
def sumI:List Int->Int
 | []=>0
 |x::l=>x+sumI l
def oq:Pw->Pw->Int
 |x::a,y::b=>if y<x then -1 else if x<y then 1 else oq a b
 |_,_=>0
def befI(a b:Pw):Int:=if sumI a≠sumI b then(if sumI a<sumI b then -1 else 1) else oq a b
def If:∀a:Pw,oq a a=0
 | []=>rfl
 |x::a=>by unfold oq;rw[aq (by omega),aq (by omega)];exact If a
def befI_self(a:Pw):befI a a=0:=by unfold befI;rw[aq (by simp)];exact If a
def cR:Nat->Nat->List Pw
 |0,0=>[[]]
 |0,_+1=>[]
 |n+1,s=>(List.range (s+1)).flatMap fun j=>(cR n j).map fun p=>((s-j:Nat):Int)::p
def Ai(n d:Nat):List Pw:=(List.range (d+1)).flatMap fun s=>cR n s
def GM:∀{p:Pw},(∀x∈p,0<=x)->0<=sumI p
 | [],_=>by simp[sumI]
 |x::p,h=>by
  have h1:=h x (by simp);have h2:=GM (p:=p) fun y hy=>h y (by simp[hy]);simp only[sumI];omega
def mX:∀{n s:Nat} {p:Pw},p∈cR n s↔p.length=n/\(∀x∈p,0<=x)/\sumI p=s
 |0,0,p=>by
  simp only[cR,fg];constructor
  . rintro rfl;simp[sumI]
  rintro⟨h,_⟩;exact ss h
 |0,s+1,p=>by
  simp only[cR,bR,false_iff];rintro⟨h,_,h2⟩;rw[ss h] at h2;simp only[sumI] at h2;omega
 |n+1,s,p=>by
  simp only[cR,Oq,List.mem_range,xj];constructor
  . rintro⟨j,hj,q,hq,rfl⟩;obtain⟨h1,h2,h3⟩:=mX.1 hq;refine⟨by simp[h1],fun x hx=>?_,by simp only[sumI,h3];omega⟩;rcases List.mem_cons.1 hx with rfl|hx
    . omega
    exact h2 x hx
  rintro⟨h1,h2,h3⟩;cases p with
  |nil=>simp at h1
  |cons x q=>
   have hx:=h2 x (by simp);have hq:=GM (p:=q) fun y hy=>h2 y (by simp[hy]);simp only[sumI] at h3;refine⟨(sumI q).toNat,by omega,q,mX.2 ⟨by simpa using h1,fun y hy=>h2 y (by simp[hy]),by omega⟩,?_⟩;congr 1;omega
def Q4{x:Int}{a b:Pw}:oq (x::a) (x::b)=oq a b:=by
 conv=>lhs;unfold oq
 rw[aq (by omega),aq (by omega)]
def Dh{α:Type}{R:α->α->Prop}{f:Nat->List α}:∀{k m:Nat},(∀i,i<k->(f (m+i)).Pairwise R)->(∀i j,i<j->j<k->∀a∈f (m+i),∀b∈f (m+j),R a b)->((List.range' m k).flatMap f).Pairwise R
 |0,m,_,_=>by simp
 |k+1,m,h1,h2=>by
  rw[List.range'_succ,cO,List.pairwise_append];refine⟨by simpa using h1 0 (by omega),Dh (fun i hi=>?_) (fun i j hij hj a ha b hb=>?_),fun a ha b hb=>?_⟩
  . have:=h1 (i+1) (by omega);rwa[show m+(i+1)=m+1+i by omega] at this
  . refine h2 (i+1) (j+1) (by omega) (by omega) a ?_ b ?_
    . rwa[show m+(i+1)=m+1+i by omega]
    rwa[show m+(j+1)=m+1+j by omega]
  obtain⟨j,hj,hb⟩:=List.mem_flatMap.1 hb;rw[List.mem_range'] at hj;obtain⟨i,hi,rfl⟩:=hj;refine h2 0 (i+1) (by omega) (by omega) a (by simpa using ha) b ?_;rwa[show m+(i+1)=m+1+1*i by omega]
def Iq:∀n s:Nat,(cR n s).Pairwise fun a b=>oq a b = -1
 |0,0=>by simp[cR]
 |0,s+1=>by simp[cR]
 |n+1,s=>by
  unfold cR;rw[List.range_eq_range'];refine Dh (fun i hi=>?_) fun i j hij hj a ha b hb=>?_
  . rw[Ot];exact(Iq n (0+i)).imp fun{a b} h=>by rw[Q4];exact h
  obtain⟨p,hp,rfl⟩:=List.mem_map.1 ha;obtain⟨q,hq,rfl⟩:=List.mem_map.1 hb;unfold oq;rw[au (by omega)]
def Q0(n d:Nat):(Ai n d).Pairwise fun a b=>befI a b = -1:=by
 unfold Ai;rw[List.range_eq_range'];refine Dh (fun i hi=>?_) fun i j hij hj a ha b hb=>?_
 . refine(Iq n (0+i)).imp_of_mem fun{a b} ha hb h=>?_;have h1:=(mX.1 ha).2.2;have h2:=(mX.1 hb).2.2;unfold befI;rw[aq (by simp[h1,h2]),h]
 have h1:=(mX.1 ha).2.2;have h2:=(mX.1 hb).2.2;unfold befI;rw[au (by omega),au (by omega)]
def Sc(n d:Nat):(Ai n d).Nodup:=(Q0 n d).imp fun{a b} h e=>by
 rw[e,befI_self] at h;cases h
end Go.Proofs.Reg
namespace Go.Proofs.Fl
open Go.RowKit Go.Proofs.Dig
attribute [local irreducible] IntKind.wrap aW bc bj bm
def De(J:Keep)(n:Int):C J 26 [.int .i64 n] (.bool (decide (1<=n/\n<=4))):=by
 refine aN Tryz.func26 rfl rfl rfl ?_;by_cases h:1<=n
 . by_cases h2:n<=4
   . rw[bB (show 1<=n/\n<=4 from⟨h,h2⟩)];refine aK ?_;rfl
   rw[bE (show ¬(1<=n/\n<=4) by omega)];refine aK ?_;rfl
 rw[bE (show ¬(1<=n/\n<=4) by omega)];refine aK ?_;rfl
def fO(n:Int):Nat->Int
 |0=>1
 |i+1=>(fO n i*(n-i)).tdiv (i+1)
def TU(J:Keep){n:Int}{k:Nat}(hk:k<=4)(h1:0<=n)(h2:n<=28):C J 28 [.int .i64 n,.int .i64 k] (.int .i64 (fO n k)):=by
 have hb:∀i≤4,-1000000<=fO n i/\fO n i<=1000000:=by
  obtain⟨m,rfl⟩:=Gb h1;have:∀m:Nat,m<=28->∀i≤4,-1000000<=fO (m:Int) i/\fO (m:Int) i<=1000000:=by decide +kernel
  exact this m (by omega)
 refine aN Tryz.func28 rfl rfl rfl ?_;refine aK ?_;refine W.loop (G:={ t:Nat // t<=k }) (fun t=>aF [(0,.iv (.int .i64 n)),(5,.iv (.int .i64 (fO n t.1))),(7,.iv (.int .i64 k)),(8,.iv (.int .i64 (t.1:Int)))] [] 20) (fun t=>k-t.1) ⟨0,ba _⟩
  (Wk.tab [] ⟨ab,ab,ab,ab,aa⟩ trivial rfl) ?_
 rintro⟨t,ht⟩;show W J _ _ (aF [(0,.iv (.int .i64 n)),(5,.iv (.int .i64 (fO n t))),(7,.iv (.int .i64 k)),(8,.iv (.int .i64 (t:Int)))] [] 20) _;by_cases h:t<k
 .
  have b1:=hb t (by omega);have b2:=hb (t+1) (by omega);obtain⟨y,hy⟩:∃y,fO n t=y:=⟨_,rfl⟩;have e:fO n (t+1)=(y*(n-t)).tdiv (t+1):=by rw[fO,hy]
  rw[hy] at b1;rw[hy];have hm : -100000000<=y*(n-t)/\y*(n-t)<=100000000:=by
   have h3 : -4<=n-t/\n-t<=28:=by omega
   have h4:(y*(n-t)).natAbs<=1000000*28:=by
    rw[eU];exact eT (by omega) (by omega)
   omega
  obtain⟨z,hz⟩:∃z,y*(n-t)=z:=⟨_,rfl⟩;rw[hz] at hm e;rw[e] at b2;refine aK ?_;exact⟨⟨t+1,by omega⟩,Wk.tab [] ⟨ab,⟨df (by dsimp only;rw[e,<-hz];exact cZ (by rw[hz];omega)),rfl⟩,ab,ab,aa⟩ trivial rfl,by dsimp only;omega⟩
 have e:t=k:=by omega
 subst e;refine aK ?_;rfl
def Kj(J:Keep){l:List Int}(hl:l.length<2^60)(hs:ed l<2^62):C J 36 [.sl (l.map di)] (.int .i64 (sumI l)):=by
 have la:(l.map di).length=l.length:=by simp
 refine aN Tryz.func36 rfl rfl rfl ?_;refine aK ?_;refine W.loop (G:={ t:Nat // t<=l.length }) (fun t=>aF [(0,.iv (.sl (l.map di))),(3,.iv (.int .i64 (sumI (l.take t.1)))),(4,.iv (.int .i64 (t.1:Int)))] [] 20) (fun t=>l.length-t.1) ⟨0,ba _⟩
  (Wk.tab [] ⟨ab,ab,ab,aa⟩ trivial rfl) ?_
 rintro⟨t,ht⟩;show W J _ _ (aF [(0,.iv (.sl (l.map di))),(3,.iv (.int .i64 (sumI (l.take t)))),(4,.iv (.int .i64 (t:Int)))] [] 20) _;have b1:=vC (l.take t);have b2:=yq l t;by_cases h:t<l.length
 . have e:=BQ h;have b3:=vC (l.take (t+1));have b4:=yq l (t+1);obtain⟨y,hy⟩:∃y,l.getD t 0=y:=⟨_,rfl⟩;obtain⟨s,hs'⟩:∃s,sumI (l.take t)=s:=⟨_,rfl⟩;obtain⟨s2,hs2⟩:∃s,sumI (l.take (t+1))=s:=⟨_,rfl⟩;rw[hs2] at b3;rw[hs',hy,hs2] at e;rw[hs'] at b1;rw[hs'];have gy:(l.map di)[t]?=some (di y):=by rw[Nd h,hy]
   repeat (first|(refine af ?_)|(refine⟨t,_,rfl,gy,rfl,?_⟩;conv=>whnf)|(refine ap ?_))
   exact⟨⟨t+1,by omega⟩,Wk.tab [] ⟨ab,⟨df (by dsimp only;rw[hs2];omega),rfl⟩,ab,aa⟩ trivial rfl,by dsimp only;omega⟩
 have e:t=l.length:=by omega
 subst e;rw[cN];refine aK ?_;rfl
end Go.Proofs.Fl
namespace Go.Proofs.Fl
def Cu:∀l:List Int,Fl.sumI l=Reg.sumI l
 | []=>rfl
 |x::l=>by rw[Fl.sumI,Reg.sumI,Cu l]
def RW{α U:Type}{f:α->U}{m g:List U}(h:m.Perm g):∀{l:List α},m=l.map f->∃l':List α,l'.Perm l/\l'.map f=g:=by
 induction h with
 |nil=>intro l e;exact⟨l,.refl _,e.symm⟩
 |cons x _ ih=>
  intro l e;cases l with
  |nil=>cases e
  |cons a l=>
   simp only[aZ,oK] at e;obtain⟨l',h1,h2⟩:=ih e.2;exact⟨a::l',h1.cons a,by rw[aZ,h2,e.1]⟩
 |swap x y m=>
  intro l e;cases l with
  |nil=>cases e
  |cons a l=>
   cases l with
   |nil=>cases e
   |cons b l=>
    simp only[aZ,oK] at e;exact⟨b::a::l,.swap _ _ _,by rw[aZ,aZ,<-e.1,<-e.2.1,<-e.2.2]⟩
 |trans _ _ ih1 ih2=>
  intro l e;obtain⟨l1,h1,h2⟩:=ih1 e;obtain⟨l2,h3,h4⟩:=ih2 h2.symm;exact⟨l2,h3.trans h1,h4⟩
end Go.Proofs.Fl
namespace Go.Proofs.En
open Go.RowKit Go.Proofs.Fl Go.Proofs.Dig
attribute [local irreducible] IntKind.wrap aW bc bj bm SW c7 CallOk To Tr ct
open Go.Sort
end Go.Proofs.En
namespace Go.Proofs.Reg
structure K5 where
 a:Nat
 b:Nat
 c:Nat
 d:Nat
 e:Nat
 deriving DecidableEq
def K5.zero:K5:=⟨0,0,0,0,0⟩
def K5.list(k:K5):List Int:=[k.a,k.b,k.c,k.d,k.e]
def K5.tot(k:K5):Nat:=k.a+k.b+k.c+k.d+k.e
def K5.inc(k:K5):Nat->K5
 |0=>⟨k.a+1,k.b,k.c,k.d,k.e⟩
 |1=>⟨k.a,k.b+1,k.c,k.d,k.e⟩
 |2=>⟨k.a,k.b,k.c+1,k.d,k.e⟩
 |3=>⟨k.a,k.b,k.c,k.d+1,k.e⟩
 |_=>⟨k.a,k.b,k.c,k.d,k.e+1⟩
def K5.inc_tot(k:K5)(p:Nat):(k.inc p).tot=k.tot+1:=by
 unfold K5.inc K5.tot;split<;>dsimp only<;>omega
def K5.list_inj{k k':K5}(h:k.list=k'.list):k=k':=by
 obtain⟨a,b,c,d,e⟩:=k;obtain⟨a',b',c',d',e'⟩:=k';simp only[K5.list,oK,Int.natCast_inj,and_true] at h;obtain⟨rfl,rfl,rfl,rfl,rfl⟩:=h;rfl
abbrev Tb:=List (K5×Int)
def bq(l:Tb):List K5:=l.map Prod.fst
def cX:Tb->K5->Int
 | [],_=>0
 |p::l,k=>if p.1=k then p.2 else cX l k
def dx:Tb->K5->Int->Tb
 | [],k,x=>[(k,x)]
 |p::l,k,x=>if p.1=k then(k,x)::l else p::dx l k x
def lin(φ:K5->Int):Tb->Int
 | []=>0
 |p::l=>p.2*φ p.1+lin φ l
def gn:Tb->Nat
 | []=>0
 |p::l=>p.2.natAbs+gn l
def Ky(φ:K5->Int)(k:K5)(x:Int):∀l:Tb,lin φ (dx l k (cX l k+x))=lin φ l+x*φ k
 | []=>by simp[dx,cX,lin]
 |p::l=>by
  unfold dx cX;split
  . rename_i h;subst h;simp only[lin,Int.add_mul];omega
  simp only[lin,Ky φ k x l];omega
def JU(k:K5)(x:Int):∀l:Tb,gn (dx l k (cX l k+x))<=gn l+x.natAbs
 | []=>by simp[dx,cX,gn]
 |p::l=>by
  unfold dx cX;split
  . simp only[gn];omega
  have:=JU k x l;simp only[gn];omega
def Jk(k:K5):∀l:Tb,(cX l k).natAbs<=gn l
 | []=>by simp[cX]
 |p::l=>by
  have:=Jk k l;unfold cX gn;split<;>omega
def C3{k:K5}{z:Int}:∀{l:Tb},(k,z)∈l->z.natAbs<=gn l
 |p::l,h=>by
  rcases List.mem_cons.1 h with rfl|h
  . simp only[gn];omega
  have:=C3 h;simp only[gn];omega
def CI(k:K5)(x:Int):∀l:Tb,bq (dx l k x)=if k∈bq l then bq l else bq l ++ [k]
 | []=>by simp[dx,bq]
 |p::l=>by
  have ih:=CI k x l;unfold dx;by_cases h:p.1=k
  . rw[au h,au (by simp[bq,h])];simp[bq,h]
  rw[aq h];have h':¬k=p.1:=fun e=>h e.symm;unfold bq at ih ⊢;simp only[aZ,ih,fD,h',false_or];split<;>rfl
def QZ(k:K5)(x:Int){l:Tb}(h:(bq l).Nodup):(bq (dx l k x)).Nodup:=by
 rw[CI];split
 . exact h
 rename_i hk;rw[List.nodup_append];refine⟨h,by simp,fun a ha b hb=>?_⟩;simp only[fg] at hb;subst hb;intro e;subst e;exact hk ha
def Ut{k:K5}{x:Int}{l:Tb}{y:K5}(h:y∈bq (dx l k x)):y∈bq l\/y=k:=by
 rw[CI] at h;split at h
 . exact .inl h
 simpa using h
def md(φ:K5->Int)(k:K5):List Int->Nat->Int
 | [],_=>0
 |a::l,p=>a*φ (k.inc p)+md φ k l (p+1)
def ml:List (List Int)->(K5->Int)->Int
 | [],φ=>φ K5.zero
 |a::fs,φ=>ml fs fun k=>md φ k a 0
def bZ(seen:List Nat):Tb->Nat->List (K5×Int×Nat)
 | [],_=>[]
 |p::l,i=>if i∈seen then bZ seen l (i+1) else(p.1,p.2,i)::bZ seen l (i+1)
def kp(φ:K5->Int):List (K5×Int×Nat)->Int
 | []=>0
 |p::l=>p.2.1*φ p.1+kp φ l
def jz:List (K5×Int×Nat)->Nat
 | []=>0
 |p::l=>p.2.1.natAbs+jz l
def vI(seen:List Nat):∀(l:Tb) (i:Nat),∀e∈bZ seen l i,i<=e.2.2
 | [],_,e,h=>by cases h
 |p::l,i,e,h=>by
  unfold bZ at h;split at h
  . have:=vI seen l (i+1) e h;omega
  rcases List.mem_cons.1 h with rfl|h
  . exact ah _
  have:=vI seen l (i+1) e h;omega
def Hn{seen:List Nat}{j:Nat}:∀{l:Tb} {i:Nat},j<i->bZ (j::seen) l i=bZ seen l i
 | [],_,_=>rfl
 |p::l,i,h=>by
  have h2:¬i=j:=by omega
  unfold bZ;simp only[fD,h2,false_or,Hn (l:=l) (show j<i+1 by omega)]
def oT{seen:List Nat}:∀{l:Tb} {i:Nat} {e:K5×Int×Nat},e∈bZ seen l i->
 (∀ φ,kp φ (bZ seen l i)=e.2.1*φ e.1+kp φ (bZ (e.2.2::seen) l i))/\jz (bZ seen l i)=e.2.1.natAbs+jz (bZ (e.2.2::seen) l i)/\(bZ seen l i).length=(bZ (e.2.2::seen) l i).length+1
 | [],_,e,h=>by cases h
 |p::l,i,e,h=>by
  unfold bZ at h;split at h
  . rename_i hs;have hi:=vI seen l (i+1) e h;obtain⟨h1,h2,h3⟩:=oT h;unfold bZ;simp only[hs,fD,or_true,bL];exact⟨h1,h2,h3⟩
  rename_i hs;rcases List.mem_cons.1 h with rfl|h
  . unfold bZ;simp only[hs,fD,true_or,bL,bM,Hn (uT i)];exact⟨fun φ=>rfl,rfl,rfl⟩
  have hi:=vI seen l (i+1) e h;have hne:¬i=e.2.2:=by omega
  obtain⟨h1,h2,h3⟩:=oT h;unfold bZ;simp only[hs,fD,hne,false_or,bM];refine⟨fun φ=>?_,?_,?_⟩
  . simp only[kp,h1 φ];omega
  . simp only[jz,h2];omega
  simp only[aY,h3]
def Ig(l:Tb)(φ:K5->Int):∀i,kp φ (bZ [] l i)=lin φ l:=by
 induction l with
 |nil=>intro i;rfl
 |cons p l ih=>intro i;simp[bZ,kp,lin,ih]
def Ho(l:Tb):∀i,jz (bZ [] l i)=gn l:=by
 induction l with
 |nil=>intro i;rfl
 |cons p l ih=>intro i;simp[bZ,jz,gn,ih]
def B6{seen:List Nat}:∀{l:Tb} {i:Nat} {e:K5×Int×Nat},e∈bZ seen l i->(e.1,e.2.1)∈l/\i<=e.2.2/\l[e.2.2-i]?=some (e.1,e.2.1)
 | [],_,e,h=>by cases h
 |p::l,i,e,h=>by
  have hi:=vI seen (p::l) i e h;unfold bZ at h;have key:e∈bZ seen l (i+1)->(e.1,e.2.1)∈p::l/\i<=e.2.2/\(p::l)[e.2.2-i]?=some (e.1,e.2.1):=fun h=>by
   obtain⟨h1,h2,h3⟩:=B6 h;refine⟨dC _ h1,hi,?_⟩;rw[show e.2.2-i=(e.2.2-(i+1))+1 by omega];simpa using h3
  split at h
  . exact key h
  rcases List.mem_cons.1 h with rfl|h
  . simp
  exact key h
end Go.Proofs.Reg
namespace Go.Proofs.En
open Go.RowKit Go.Proofs.Fl Go.Proofs.Dig Go.Proofs.Reg
def bA(n:Int):IV:=.int .i64 n
def im(k:K5):EW:=.agg [.iv (bA k.a),.iv (bA k.b),.iv (bA k.c),.iv (bA k.d),.iv (bA k.e)]
noncomputable def qw(q:Rat):EW:=dW (qr q)
noncomputable def mz(d:Nat)(z:Int):EW:=qw (mkRat z d)
noncomputable def dj(d:Nat):Tb->Nat->List (EW×EW×Nat)
 | [],_=>[]
 |p::l,i=>(im p.1,mz d p.2,i)::dj d l (i+1)
def jj(k:K5):Prop:=k.tot<2^63
def vp(k:K5):iK (im k)=some (.ints k.list):=rfl
def vh{k:K5}(h:jj k):lW 5 (.ints k.list)=true:=by
 unfold jj K5.tot at h;have e:∀n:Nat,n<9223372036854775808->pL (n:Int)=true:=fun n hn=>by
  unfold pL;rw[dN,dP];exact hn
 show(Nat.beq 5 5&&(k.list).all pL)=true;rw[bD,qK];simp only[K5.list,dl,List.all_nil,Bool.and_true,aH];exact⟨e _ (by omega),e _ (by omega),e _ (by omega),e _ (by omega),e _ (by omega)⟩
def yf{d:Nat}{k:K5}:∀{l:Tb} {i j:Nat},(∀p∈bq l,jj p)->k∉bq l->fN (lW 5) (.ints k.list) (dj d l i) j=some []
 | [],_,_,_,_=>rfl
 |p::l,i,j,ho,hk=>by
  have h1:p.1≠k:=fun e=>hk (by simp[bq,e]);have ih:=yf (d:=d) (l:=l) (i:=i+1) (j:=j+1) (fun q hq=>ho q (by simp only[bq,aZ,fD];exact .inr hq)) (fun e=>hk (by simp only[bq,aZ,fD];exact .inr e));have h2:decide (KV.ints p.1.list=.ints k.list)=false:=bE fun e=>h1 (K5.list_inj (by simpa using e));unfold dj fN;rw[vp,ih];simp only[vh (ho p.1 (by simp[bq])),h2,al,bh]
def B0{d:Nat}{k:K5}:∀{l:Tb} {i j:Nat},(∀p∈bq l,jj p)->(bq l).Nodup->k∈bq l->∃n,fN (lW 5) (.ints k.list) (dj d l i) j=some [(j+n,mz d (cX l k),i+n)]/\∀x,(dj d l i).set n (im k,mz d x,i+n)=dj d (dx l k x) i
 | [],_,_,_,_,hk=>by cases hk
 |p::l,i,j,ho,hn,hk=>by
  have hn':p.1∉bq l/\(bq l).Nodup:=by simpa[bq] using hn
  have ho':∀q∈bq l,jj q:=fun q hq=>ho q (by simp only[bq,aZ,fD];exact .inr hq);by_cases h1:p.1=k
  . subst h1;refine⟨0,?_,fun x=>?_⟩
    . unfold dj fN;rw[vp,yf ho' hn'.1];have h2:decide (KV.ints p.1.list=.ints p.1.list)=true:=bB rfl;simp only[vh (ho p.1 (by simp[bq])),decide_true,al,cX,bL,fF]
    simp only[dj,dx,bL,Gc,fF]
  have hk':k∈bq l:=by
   simp only[bq,aZ,fD] at hk;rcases hk with e|e
   . exact absurd e.symm h1
   exact e
  obtain⟨n,e1,e2⟩:=B0 (d:=d) (k:=k) (l:=l) (i:=i+1) (j:=j+1) ho' hn'.2 hk';refine⟨n+1,?_,fun x=>?_⟩
  . have h2:decide (KV.ints p.1.list=.ints k.list)=false:=bE fun e=>h1 (K5.list_inj (by simpa using e));unfold dj fN;rw[vp,e1];simp only[vh (ho p.1 (by simp[bq])),h2,al,bh,cX,aq h1];rw[show j+1+n=j+(n+1) by omega,show i+1+n=i+(n+1) by omega]
  simp only[dj,dx,aq h1,FQ];rw[show i+(n+1)=i+1+n by omega,e2 x]
def Ik{k:K5}:∀{l:Tb},k∉bq l->cX l k=0
 | [],_=>rfl
 |p::l,h=>by
  simp only[bq,aZ,fD,not_or] at h;rw[cX,aq (fun e=>h.1 e.symm)];exact Ik h.2
def HU{d:Nat}{k:K5}{x:Int}:∀{l:Tb} {i:Nat},k∉bq l->dj d (dx l k x) i=dj d l i ++ [(im k,mz d x,i+l.length)]
 | [],_,_=>by simp[dx,dj]
 |p::l,i,h=>by
  simp only[bq,aZ,fD,not_or] at h;rw[dx,aq (fun e=>h.1 e.symm),dj,HU h.2,dj];simp only[lC,aY];rw[show i+1+l.length=i+(l.length+1) by omega]
def Cw{k:K5}{x:Int}:∀{l:Tb},(dx l k x).length=if k∈bq l then l.length else l.length+1
 | []=>by simp[dx,bq]
 |p::l=>by
  have ih:=Cw (k:=k) (x:=x) (l:=l);unfold dx;by_cases h:p.1=k
  . rw[au h,au (by simp[bq,h])];rfl
  have h':¬k=p.1:=fun e=>h e.symm;rw[aq h];have e:(k∈bq (p::l))=(k∈bq l):=by simp[bq,h']
  simp only[aY,ih,e];split<;>rfl
noncomputable def eA(d:Nat)(l:Tb):EO:=.map (dj d l 0) l.length
def vR{zw:TypeId->Option EW}(hz:zw 55=some (qw 0)){h:Hp}{g d:Nat}{l:Tb}{k:K5}(hg:h g=some (eA d l))(ho:∀p∈bq l,jj p)(hn:(bq l).Nodup)(hk:jj k) :
 m9 oo zw h 237 (.w (.one (.mp g))) (.w (im k)) false=some (.w (mz d (cX l k)),[]):=by
 show(match h g,iK (im k) with
  |some (.map es _),some k=>bif lW 5 k then(match fN (lW 5) k es 0,zw 55 with
   |some [],some z=>some (bif false then ES.tup [z,.one (.iv (.bool false))] else .w z,([]:Wr))
   |some [(_,y,_)],some _=>some (bif false then .tup [y,.one (.iv (.bool true))] else .w y,[])
   |_,_=>none) else none
  |_,_=>none)=_
 rw[hg,vp];simp only[eA,vh hk,al,bh,hz];by_cases hm:k∈bq l
 . obtain⟨n,e1,_⟩:=B0 (d:=d) (i:=0) (j:=0) ho hn hm;rw[e1]
 rw[yf ho hm,Ik hm];simp only[mz,Rat.zero_mkRat]
def tA{h:Hp}{g d:Nat}{l:Tb}{k:K5}(x:Int)(hg:h g=some (eA d l))(ho:∀p∈bq l,jj p)(hn:(bq l).Nodup)(hk:jj k) :
 jR oo h 237 (.w (.one (.mp g))) (.w (im k)) (.w (mz d x))=some (.und,[(g,eA d (dx l k x))]):=by
 show(match h g,iK (im k) with
  |some (.map es ck),some kk=>bif lW 5 kk then(match fN (lW 5) kk es 0 with
   |some []=>bJ (ck+1) fun ck'=>gE (es ++ [(im k,mz d x,ck)]) fun es'=>some (ES.und,[(g,EO.map es' ck')])
   |some [(i,_,b)]=>gE (es.set i (im k,mz d x,b)) fun es'=>some (.und,[(g,.map es' ck)])
   |_=>none) else none
  |_,_=>none)=_
 rw[hg,vp];simp only[eA,vh hk,al];by_cases hm:k∈bq l
 . obtain⟨n,e1,e2⟩:=B0 (d:=d) (i:=0) (j:=0) ho hn hm;rw[e1];simp only[dE,a8];have:=e2 x;rw[a8] at this;rw[this,Cw,au hm]
 rw[yf ho hm];simp only[dE,bz];rw[Cw,aq hm,HU hm,a8]
def s8{d:Nat}{seen:List Nat}:∀{l:Tb} {i:Nat},fT seen (dj d l i)=(bZ seen l i).map fun e=>(im e.1,mz d e.2.1,e.2.2)
 | [],_=>rfl
 |p::l,i=>by
  unfold dj fT bZ;by_cases hs:i∈seen
  . simp only[jT.2 hs,al,hs,bL,s8]
  have:bV i seen=false:=by
   cases h:bV i seen with
   |false=>rfl
   |true=>exact absurd (jT.1 h) hs
  simp only[this,bh,hs,bM,s8,aZ]
def JQ{d n:Nat}:∀{l:Tb} {i:Nat},i+l.length<=n->nw n (dj d l i)=true
 | [],_,_=>rfl
 |p::l,i,h=>by
  simp only[aY] at h;unfold dj nw;simp only[aH,dN];exact⟨by omega,JQ (by omega)⟩
def Hi{d:Nat}{l:Tb}{seen:List Nat}:(nw l.length (dj d l 0)&&(lZ seen||(lZ (dj d l 0)||nu l.length (dj d l 0))))=true:=by
 rw[JQ (by omega),qK];cases l with
 |nil=>simp[dj,lZ]
 |cons p l=>
  have:nu (p::l).length (dj d (p::l) 0)=true:=by
   unfold dj nu;simp
  rw[this];simp
def Js{d:Nat}:∀{l:Tb} {i n:Nat} {k:K5} {z:Int},l[n]?=some (k,z)->rN (i+n) (dj d l i)=some (im k,mz d z)
 | [],_,_,_,_,h=>by simp at h
 |p::l,i,0,k,z,h=>by
  simp only[oG,ai] at h;subst h;unfold dj rN;simp
 |p::l,i,n+1,k,z,h=>by
  simp only[FH] at h;have ih:=Js (d:=d) (i:=i+1) h;unfold dj rN;have:Nat.beq i (i+(n+1))=false:=by
   cases hb:Nat.beq i (i+(n+1)) with
   |false=>rfl
   |true=>have:=aB hb;omega
  have h3:Nat.beq (i+(n+1)) i=false:=by
   cases hb:Nat.beq (i+(n+1)) i with
   |false=>rfl
   |true=>have:=aB hb;omega
  simp only[this,h3,bh];rw[show i+(n+1)=i+1+n by omega];exact ih
def JC{h:Hp}{gi gm d since:Nat}{l:Tb}{seen:List Nat}{e:K5×Int×Nat}(h1:h gi=some (.iter gm since seen l.length (some e.2.2)))(h2:h gm=some (eA d l))(h3:l[e.2.2]?=some (e.1,e.2.1)) :
 rD h (.w (.one (.ptr gi 0 0)))=some (.tup [im e.1,mz d e.2.1],[]):=by
 unfold rD;simp only[h1,h2,eA];have:=Js (d:=d) (i:=0) h3;rw[a8] at this;rw[bD,al,this]
end Go.Proofs.En
namespace Go.Proofs.En
open Go.RowKit Go.Proofs.Fl
def wJ(X:EX)(rs:List ResultVar)(nP:Nat)(zs':List EO)(r:ES):Exit->SS->Prop
 | .normal,s=>match g7 X.T X.Z s.tm s.h rs with
  |some xs=>Tr nP ⟨fun _=>kj xs,s.h,s.nx⟩ (aR [(0,r)] (mf 0 zs') zs'.length)
  |none=>False
 | .ret,s=>match g7 X.T X.Z s.tm s.h rs with
  |some xs=>Tr nP ⟨fun _=>kj xs,s.h,s.nx⟩ (aR [(0,r)] (mf 0 zs') zs'.length)
  |none=>False
 |_,_=>False
section
variable {X:EX}{nP:Nat}{rd:Bool}{nt:Nat}{s:SS}{K:Exit->SS->Prop}
def SW.fr{c:Code}(h:SW X nP rd nt c s K):SW X nP rd nt c s (fun e s'=>K e s'/\s'.fr):=fun ro hro E hI hh w0 H U a w Q hS hQ=>
 h ro hro E hI hh w0 H U a w Q hS fun e s' a' w' k hp=>hQ e s' a' w' ⟨k,by obtain⟨_,_,_,_,p,_⟩:=hp;exact p.fr⟩ hp
def XI{f:FuncId}{fn:Func}{c:Code}(hf:X.P.funcs[f]?=some fn)(hb:fn.body=some c)(hn:(fn.name == "runtime.NumGoroutine")=false){args:List ES}(hx:Nat.ble args.length fn.ntmps=true){h:Hp}{zs':List EO}{r:ES}(hfr:∀g,nP<=g->h g=none)
 (hw:SW X nP false fn.ntmps c ⟨argS args,h,nP⟩ (wJ X fn.results.toList nP zs' r)):CallOk X f args h r (gt zs'):=by
 have hw':SW X nP false fn.ntmps c ⟨argS args,h,nP⟩ (kh X fn.results.toList fun hp rf=>∃nx,(∀g,nx<=g->hp g=none)/\Tr nP ⟨fun _=>rf,hp,nx⟩ (aR [(0,r)] (mf 0 zs') zs'.length)):=hw.fr.mono fun e s ⟨hk,hfr⟩=>by
  cases e with
  |normal=>
   simp only[wJ] at hk;simp only[kh];split at hk
   . rename_i xs hr;first|exact⟨s.nx,hfr,hk⟩|(rw[hr];exact⟨s.nx,hfr,hk⟩)
   exact hk.elim
  |ret=>
   simp only[wJ] at hk;simp only[kh];split at hk
   . rename_i xs hr;first|exact⟨s.nx,hfr,hk⟩|(rw[hr];exact⟨s.nx,hfr,hk⟩)
   exact hk.elim
  |_=>exact hk.elim
 refine⟨⟨fn,hf,hn,by rw[hb];rfl⟩,fun E hI H U w vs hS hv=>?_⟩;have hlt:∀g,h g≠none->g<nP:=fun g hg=>by
  rcases gb g nP with h1|h1
  . exact h1
  exact absurd (hfr g h1) hg
 have hh:∀g,E.hid g->g<nP:=fun g hg=>hlt g (by rw[(hS.hidb g hg).1];simp);refine EN hf hb (bl hx) hfr hw' hI hh hS hv fun v H' U' hp' rf w' h1 h2 h3 h4 h5 h6=>?_;obtain⟨nx,hf',t⟩:=h6;obtain⟨_,t⟩:=t hf';obtain⟨H2,β2,a1,a2,a3,a4⟩:=t _ E H' U' w' h3 hh;refine⟨v,H2,β2,rfl,h1.trans a1,fun g u k hk=>?_,?_,h4,a4 0 v h5⟩
 . have hg:g<nP:=by
    obtain⟨_,o,ho,_⟩:=hS.dom g u k hk;exact hlt g (by rw[ho];simp)
   exact a2 g u k hg (h2 g u k hg hk)
 rw[<-Rz];exact a3
def Xl{f:FuncId}{fn:Func}{c:Code}(hf:X.P.funcs[f]?=some fn)(hb:fn.body=some c)(hn:(fn.name == "runtime.NumGoroutine")=false){args:List ES}{zs zs':List EO}{r:ES}
 (hx:(Nat.ble args.length fn.ntmps&&(Nat.ble zs.length zs'.length&&zs.all fun o=>!MC o))=true) (ha:zZ zs.length args) (hz:tE (fun i=>Nat.blt i zs.length) zs) (hr:SlotOk [] [] r r\/(fP r).all (tO zs')=true) (hz':tE (tO zs') zs')
 (hw:SW X zs.length false fn.ntmps c ⟨argS args,gt zs,zs.length⟩ (wJ X fn.results.toList zs.length zs' r)):LocC X f args zs r zs':=by
 simp only[aH] at hx;refine⟨XI hf hb hn hx.1 (fun g hg=>?_) hw,bl hx.2.1,Iw ha,fun o ho=>⟨?_,B2 (fun i h=>by rwa[dN] at h) hz o ho⟩,fun i hi=>?_,B2 (fun i h=>I7 h) hz'⟩
 . show zs[g]?=none;exact sq hg
 . have:=List.all_eq_true.1 hx.2.2 o ho;intro e;subst e;cases this
 rcases hr with h|h
 . cases h with
   |rn h1 h2=>have:=List.all_eq_true.1 h2 i hi;simp[oe,gu] at this
   | sm h1 h2=>rw[h2] at hi;cases hi
 exact I7 (List.all_eq_true.1 h i hi)
end
def ch{T:TypeId->Option TY}{h:Hp}{g t e g1 u1 n1 m sz p cnt:Nat}{ty te:TY}{s x:ES}{news cs:List EV}{vs:List (Nat×Nat)}(hs:s=.w (.one (.slc g1 u1 0 n1 (.fin sz))))(hg:h g1=some (.mem e cs false vs cnt))(hv:cW u1 vs=some p)
 (hx:fU h sz x=some (news,m)) (h1:n1*sz<=p) (h2:p<(n1+m)*sz) (h3:n1+m<=1000000) (h4:(n1+m)*te.bytes<=140737488355328) (hm:Nat.beq m 0=false)
 (ht:T t=some ty) (hsh:ty.sh=.slice e) (hte:T e=some te) (hsz:te.size=sz) (h0:(Nat.blt 0 te.size&&Nat.beq te.zero.cells.length te.size)=true) :
 jc T h g t s x=some (.w (.one (.slc g1 cnt 0 (n1+m) (.fin sz))),[(g1,.mem e (cs.take (n1*sz)++news) false ((cnt,(n1+m)*sz)::oa (vs.map fun p=>(p.1,Nat.min p.2 (n1*sz)))) (cnt+1))]):=by
 subst hs;have hb:∀{a b:Nat},a<=b->Nat.ble a b=true:=fun h=>fh h;have hnb:Nat.ble ((n1+m)*sz) p=false:=by
  cases hb':Nat.ble ((n1+m)*sz) p with
  |false=>rfl
  |true=>have:=bl hb';omega
 rw[hsz] at h0;unfold jc;rw[ht];simp only[hsh,hte,h0,al,hsz,hx,hm,bh,hb h3,hb h4,mT,hg,bD,hv,hnb,hb h1,dE,bz]
def EP{T:TypeId->Option TY}{h:Hp}{g t e g1 u1 off1 m sz:Nat}{ty te:TY}{s x:ES}{news:List EV}(hs:s=.w (.one (.slc g1 u1 off1 0 (.ex 0))))(hr:ji (h g1) u1 off1 0=some [])(hn:h g=none)
 (hx:fU h sz x=some (news,m)) (hm:1<=m) (h3:m<=1000000) (h4:m*te.bytes<=140737488355328)
 (ht:T t=some ty) (hsh:ty.sh=.slice e) (hte:T e=some te) (hsz:te.size=sz) (h0:(Nat.blt 0 te.size&&Nat.beq te.zero.cells.length te.size)=true) :
 jc T h g t s x=some (.w (.one (.slc g 0 0 m (.fin sz))),[(g,.mem e news false [(0,news.length)] 1)]):=by
 subst hs;have hb:∀{a b:Nat},a<=b->Nat.ble a b=true:=fun h=>fh h;have hm0:Nat.beq m 0=false:=dU;have hnb:Nat.ble m 0=false:=by
  cases hb':Nat.ble m 0 with
  |false=>rfl
  |true=>have:=bl hb';omega
 rw[hsz] at h0;unfold jc;rw[ht];simp only[hsh,hte,hsz,h0,al,hx,hm0,bh,a8,hb h3,hb h4,mT,hnb,nN,hr,vn hn,lF]
def Ta{h:Hp}{g u n sz p cnt:Nat}{e:TypeId}{cap:Cap}{cs:List EV}{fz:Bool}{vs:List (Nat×Nat)}{x:ES}(hx:x=.w (.one (.slc g u 0 n cap)))(hg:h g=some (.mem e cs fz vs cnt))(hv:cW u vs=some p)(hp:n*sz<=p):fU h sz x=some (cs.take (n*sz),n):=by
 subst hx;unfold fU ji;simp only[hg,hv,a8,fh hp,al,bW,fE]
def gD(u p:Nat)(vs:List (Nat×Nat)):cW u ((u,p)::vs)=some p:=by
 unfold cW;rw[bD];rfl
def pg(x:IV):Bool:=!x.isAgg && !x.isTup&&(match x with
 | .nil 3=>false
 |_=>true)
def DK{T:TypeId->Option TY}{Z:QS}{S:Nat->Bool}{h:Hp}{f:Nat}:∀{es:List IV},(es.all pg)=true->cT (cb T Z S h f) (es.map .iv)=some es
 | [],_=>rfl
 |x::es,hx=>by
  simp only[dl,aH] at hx;have ih:=DK (T:=T) (Z:=Z) (S:=S) (h:=h) (f:=f) hx.2;have h1:cb T Z S h f (.iv x)=some x:=by
   have hp:=hx.1;unfold pg at hp;cases x<;>first|(unfold cb;rfl)|skip
   rename_i k;unfold cb;split
   . rename_i he;cases he;simp at hp
   rfl
  simp only[aZ,cT,h1,ih]
def Ji:∀(es:List IV),fW false 1 es.length es=es
 | []=>rfl
 |x::es=>by
  have ih:=Ji es;rw[aY,fW];show(x::es).headD (.bool false)::fW false 1 es.length es=_;rw[ih];rfl
def IW:∀{es:List IV},(es.all pg)=true->b7 1 es=true/\(es.all fun x=>!x.isAgg)=true
 | [],_=>⟨rfl,rfl⟩
 |x::es,hx=>by
  simp only[dl,aH] at hx;obtain⟨i1,i2⟩:=IW hx.2;have hp:=hx.1;unfold pg at hp;simp only[aH,gz] at hp;unfold b7 at i1 ⊢;have hc:x.cells=[x]:=by cases x<;>first|rfl|(simp[IV.isAgg] at hp;done)
  constructor
  . simp only[dl,i1,hc,hp.1.2];rfl
  simp only[dl,i2,hp.1.1];rfl
def JD{T:TypeId->Option TY}{Z:QS}{S:Nat->Bool}{h:Hp}{f g u n p cnt:Nat}{cap:Cap}{e:TypeId}{cs:List EV}{fz:Bool}{vs:List (Nat×Nat)}{te:TY}{es:List IV}(hs:S g=true)(hg:h g=some (.mem e cs fz vs cnt))(ht:T e=some te)(h1:te.size=1)(ha:te.sh.agg=false)
 (hv:cW u vs=some p) (hp:n<=p) (hn:n=es.length) (hc:cs.take n=es.map .iv) (hes:(es.all pg)=true):cb T Z S h (f+1) (.slc g u 0 n cap)=some (.sl es):=by
 obtain⟨z1,z2⟩:=IW hes;subst hn;have hb:=fh hp;unfold cb;simp only[hs,hg,ht,hv,h1,ha,eB,a8,hb,al,bW,hc,DK hes,Ji,z1,z2,bD,mT,Bool.or_true]
def SF{T:TypeId->Option TY}{Z:QS}{S:Nat->Bool}{h:Hp}{f g u n p cnt:Nat}{cap:Cap}{e:TypeId}{cs:List EV}{fz:Bool}{vs:List (Nat×Nat)}{te:TY}{es:List IV}(hs:S g=true)(hg:h g=some (.mem e cs fz vs cnt))(ht:T e=some te)(h1:te.size=1)(ha:te.sh.agg=false)
 (hv:cW u vs=some p) (hp:n<=p) (hn:n=es.length) (hc:cs.take n=es.map .iv) (hes:(es.all pg)=true):iN T Z S h (f+1) (.w (.one (.slc g u 0 n cap)))=some (.sl es):=by
 simp only[iN,rS];exact JD (cap:=cap) hs hg ht h1 ha hv hp hn hc hes
variable {J:Keep}
def lT{f:FuncId}{fn:Func}{c:Code}(hf:Tryz.prog.funcs[f]?=some fn)(hb:fn.body=some c)(hn:(fn.name == "runtime.NumGoroutine")=false){args:List ES}{zs zs':List EO}{r:ES}
 (hx:(Nat.ble args.length fn.ntmps&&(Nat.ble zs.length zs'.length&&zs.all fun o=>!MC o))=true) (ha:zZ zs.length args) (hz:tE (fun i=>Nat.blt i zs.length) zs) (hr:SlotOk [] [] r r\/(fP r).all (tO zs')=true) (hz':tE (tO zs') zs')
 (hw:SW (XS J) zs.length false fn.ntmps c ⟨argS args,gt zs,zs.length⟩ (wJ (XS J) fn.results.toList zs.length zs' r)):LocC (XS J) f args zs r zs' :=
 Xl (X:=XS J) hf hb hn hx ha hz hr hz' hw
def lk{f:FuncId}{fn:Func}{c:Code}(hf:Tryz.prog.funcs[f]?=some fn)(hb:fn.body=some c)(hn:(fn.name == "runtime.NumGoroutine")=false){xs:List IV}{r:IV}(hx:Nat.ble xs.length fn.ntmps=true)(hxt:kO xs=true)(fu:Nat)
 (hw:SW (XS J) 0 false fn.ntmps c ⟨argS (xs.map dS),fun _=>none,0⟩ (kh (XS J) fn.results.toList fun h rf=>iN TT ZZ (fun _=>true) h fu rf=some r)):C J f xs r :=
 EG (X:=XS J) J.bel hf hb hn hx hxt fu hw
end Go.Proofs.En
namespace Go.Proofs.En
open Go.RowKit Go.Proofs.Fl Go.Proofs.Dig
attribute [local irreducible] IntKind.wrap aW bc bj bm SW c7 CallOk To Tr ct
open Go.Proofs.Reg
def iL(l:List Int):List EV:=l.map fun n=>.iv (bA n)
def bn(u p:Nat):cW u [(u,p)]=some p:=by
 unfold cW;rw[bD];rfl
def fQ:∀{l:List Int},(iL l).flatMap bv=[]
 | []=>rfl
 |x::l=>by
  have:=fQ (l:=l);simp only[iL,aZ,cO] at this ⊢;rw[this];rfl
def l5(l:List Int):(iL l).length=l.length:=by simp[iL]
def YQ(J:Keep){l:List Int}{u c:Nat}{vs:List (Nat×Nat)}(hv:cW u vs=some l.length)(h1:1<=l.length)(h2:l.length<=100):LocC (XS J) 69 [.w (.one (.slc 0 u 0 l.length (.fin 1)))] [.mem 3 (iL l) false vs c] (.w (.one (.slc 1 0 0 l.length (.fin 1)))) [.mem 3 (iL l) false vs c,.mem 3 (iL l) false [(0,l.length)] 1]:=by
 refine lT Tryz.func69 rfl rfl rfl ⟨.c rfl,aa⟩ ⟨.d fQ,aa⟩ (.inr rfl) ⟨.d fQ,.d fQ,aa⟩ ?_;refine be ?_;refine bK (g:=2) (b:=1) (EP (sz:=1) rfl rfl rfl (Ta rfl rfl hv (by omega)) h1 (by omega) (by show _*8<=_;omega) rfl rfl rfl rfl rfl) (by show 2<2+1;decide) ?_;conv=>whnf
 repeat ((refine SW.ret ?_;conv=>whnf))
 have e:(iL l).take (l.length*1)=iL l:=ay (by rw[l5];omega);refine Tr.tab [(1,2)] [] ⟨.rn,aa⟩ ⟨.sm rfl rfl fQ,.sm rfl ?_ fQ,aa⟩ rfl;show some (EO.mem 3 ((iL l).take (l.length*1)) false [(0,((iL l).take (l.length*1)).length)] 1)=_;rw[e,l5]
def cP(f:Nat->Nat):Nat->Nat
 |0=>0
 |t+1=>cP f t+(1+f t)
def cI:Nat->Nat->Nat
 |0,_=>0
 |m+1,s=>cP (cI m) (s+1)
def tb:∀(l:List Int),b7 1 (l.map bA)=true
 | []=>rfl
 |x::l=>by
  have:=tb l;unfold b7 at this ⊢;rw[aZ,dl,this];rfl
def yH:∀(l:List Int),((l.map bA).flatMap IV.cells).map EV.iv=iL l
 | []=>rfl
 |x::l=>by
  have:=yH l;rw[aZ,cO,dD,this];rfl
def iq{a b:Int}(h:a=b:=by omega):ae (.int .i64 a)=ae (.int .i64 b):=by rw[h]
def Co(s:Nat):cR 1 s=[[(s:Int)]]:=by
 have h0:∀j,cR 0 j=if j=0 then [[]] else []:=fun j=>by cases j<;>rfl
 unfold cR;rw[List.range_succ_eq_map,cO,Bi];have:∀l:List Nat,(l.flatMap fun a=>(cR 0 a.succ).map fun p=>(((s-a.succ:Nat):Int))::p)=[]:=fun l=>by
  induction l with
  |nil=>rfl
  |cons a l ih=>rw[cO,ih];rfl
 rw[this];rfl
def YP(J:Keep):Go.Proofs.Fl.C J 69 [.nil 3] (.nil 3):=by
 refine pS Tryz.func69 rfl rfl rfl rfl rfl ?_;refine be ?_;rfl
end Go.Proofs.En
namespace Go.Proofs.Reg
end Go.Proofs.Reg
namespace Go.Proofs.En
open Go.RowKit Go.Proofs.Fl Go.Proofs.Dig
attribute [local irreducible] IntKind.wrap aW bc bj bm SW c7 CallOk To Tr ct
open Go.Proofs.Reg
def flat_set{α U:Type}{f:α->List U}{k:Nat}{a':α}:∀{l:List α} {i:Nat},(∀a,(f a).length=k)->i<l.length->splice (l.flatMap f) (i*k) (f a')=(l.set i a').flatMap f
 | [],i,_,h=>by simp at h
 |b::l,0,hl,h=>by
  unfold splice;rw[nN,xm,lF,Gc,cO,cO,a8,hl,<-hl b,List.drop_left]
 |b::l,i+1,hl,h=>by
  have ih:=flat_set (f:=f) (k:=k) (a':=a') (l:=l) (i:=i) hl (by simpa using h);unfold splice at ih ⊢;rw[FQ,cO,cO,show(i+1)*k=(f b).length+i*k by rw[hl,bQ];omega,NQ,FS,ay (Bf _ _),mG,NP,FS,oE (Bf _ _),lF,<-ih,dI,dI,dI]
end Go.Proofs.En
namespace Go.Proofs.Reg
end Go.Proofs.Reg
namespace Go.Proofs.En
open Go.RowKit Go.Proofs.Fl Go.Proofs.Dig
attribute [local irreducible] IntKind.wrap aW bc bj bm SW c7 CallOk To Tr ct
open Go.Proofs.Reg
def hz3:pe 3=some (EW.one (.iv (di 0))):=by unfold pe;rfl
end Go.Proofs.En
namespace Go.Proofs.Fl
open Go.RowKit
attribute [local irreducible] IntKind.wrap aW bc bj bm
def Mc(J:Keep):C J 143 [.int .u64 0] (.int .i64 0) :=
 vG ⟨_,Tryz.func143,rfl,rfl⟩ fun H w args hI hargs=>by
  obtain⟨u,rfl,hu⟩:=hargs.one;rw[VR.asInt hu];refine(Tryz.bits_Len 0 w (by omega) (by omega)).mono ?_;rintro e w' ⟨rfl,rfl⟩;exact⟨_,rfl,fun H=>.int _ _,kA _ _⟩
end Go.Proofs.Fl
namespace Go.Proofs.En
open Go.RowKit Go.Proofs.Fl Go.Proofs.Dig
attribute [local irreducible] IntKind.wrap aW bc bj bm SW c7 CallOk To Tr ct
open Go.Proofs.Reg
end Go.Proofs.En
namespace Go.Proofs.Fl
open Go.RowKit Go.Proofs.Dig
attribute [local irreducible] IntKind.wrap aW bc bj bm
def nG{α:Type}(pr:α->Bool)(l:List α):Int:=match l.findIdx? pr with
 |some i=>(i:Int)
 |none => -1
def KD{α:Type}{pr:α->Bool}{l:List α}{t:Nat}{x:α}(h:∀y∈l.take t,pr y=false)(hx:l[t]?=some x)(h0:pr x=true):nG pr l=(t:Int):=by
 obtain⟨hlt,he⟩:=List.getElem?_eq_some_iff.1 hx;have:l.findIdx? pr=some t:=by
  rw[YY];refine⟨hlt,by rw[he];exact h0,fun j hj=>?_⟩;have:=h l[j] (by rw[Ou];exact⟨j,by omega,rfl⟩);simpa using this
 unfold nG;rw[this]
def CJ{α:Type}{pr:α->Bool}{l:List α}(h:∀y∈l,pr y=false):nG pr l = -1:=by
 have:l.findIdx? pr=none:=List.findIdx?_eq_none_iff.2 h;unfold nG;rw[this]
def KE{α:Type}{pr:α->Bool}{l:List α}:decide (nG pr l>=0)=l.any pr:=by
 by_cases h:∀y∈l,pr y=false
 . rw[CJ h];have:l.any pr=false:=by rw[AY];intro x hx;rw[h x hx];simp
   rw[this];rfl
 have:l.any pr=true:=by
  rw[List.any_eq_true];apply ia;intro hc;refine h fun y hy=>?_;cases e:pr y with
  |false=>rfl
  |true=>exact absurd ⟨y,hy,e⟩ hc
 rw[this];unfold nG;cases e:l.findIdx? pr with
 |none=>exact absurd (List.findIdx?_eq_none_iff.1 e) h
 |some i=>exact bB (by show(0:Int)<=(i:Int);omega)
def GX{α:Type}{pr:α->Bool}{l:List α}{t:Nat}{x:α}(h:∀y∈l.take t,pr y=false)(hx:l[t]?=some x)(h0:pr x=false):∀y∈l.take (t+1),pr y=false:=fun y hy=>by
 rw[dO,hx] at hy;rcases List.mem_append.1 hy with hy|hy
 . exact h y hy
 rw[List.mem_singleton.1 hy];exact h0
end Go.Proofs.Fl
namespace Go.Proofs.En
open Go.RowKit Go.Proofs.Fl Go.Proofs.Dig
attribute [local irreducible] IntKind.wrap aW bc bj bm SW c7 CallOk To Tr ct
open Go.Proofs.Reg
def cY{a b r:ES}{K:ES->Prop}(k:K r)(h:a=r:=by exact rfl):∃r,(true=true->a=r)/\(true=false->b=r)/\K r:=⟨r,fun _=>h,fun e=>Bool.noConfusion e,k⟩
def dX{a b r:ES}{K:ES->Prop}(k:K r)(h:b=r:=by exact rfl):∃r,(false=true->a=r)/\(false=false->b=r)/\K r:=⟨r,fun e=>Bool.noConfusion e,fun _=>h,k⟩
def pZ(n:Int):EO:=.mem 3 [.iv (di n)] false [(0,1)] 1
end Go.Proofs.En
namespace Go.Proofs.Reg
abbrev Cl:=List (List Rat×Rat)
def cU(c d:Cl):Cl:=c.flatMap fun a=>d.map fun b=>(a.1++b.1,a.2*b.2)
def Hb(k:Nat)(q:Rat):Prop:=q.num.natAbs<=2^k/\q.den<=2^k
def Hb.mono{i j:Nat}{q:Rat}(h:Hb i q)(hij:i<=j):Hb j q :=
 ⟨bf h.1 (co (by omega) hij),bf h.2 (co (by omega) hij)⟩
def Hb.mk{k:Nat}{z:Int}{d:Nat}(hd:d≠0)(h1:z.natAbs<=2^k)(h2:d<=2^k):Hb k (mkRat z d):=by
 obtain⟨m,hm,e1,e2⟩:=Rat.mkRat_num_den (n:=z) (d:=d) (n':=(mkRat z d).num) (d':=(mkRat z d).den) (z':=(mkRat z d).den_nz) (c:=(mkRat z d).reduced) hd rfl;have hm:1<=m:=F0 hm;refine⟨bf ?_ h1,bf ?_ h2⟩
 . conv=>rhs;rw[e1,eU,dP]
   exact A3 _ hm
 conv=>rhs;rw[e2]
 exact A3 _ hm
def Hb.mul{i j:Nat}{a b:Rat}(ha:Hb i a)(hb:Hb j b):Hb (i+j) (a*b):=by
 rw[uQ];refine Hb.mk (sE a.den_nz b.den_nz) ?_ ?_
 . rw[eU,iX];exact eT ha.1 hb.1
 rw[iX];exact eT ha.2 hb.2
def Hb.add{i j:Nat}{a b:Rat}(ha:Hb i a)(hb:Hb j b):Hb (i+j+1) (a+b):=by
 rw[Rat.add_def'];have h1:(a.num*(b.den:Int)).natAbs<=2^(i+j):=by
  rw[eU,iX];exact eT ha.1 hb.2
 have h2:(b.num*(a.den:Int)).natAbs<=2^(i+j):=by
  rw[eU,iX,dw (2^i)];exact eT hb.1 ha.2
 refine Hb.mk (sE a.den_nz b.den_nz) ?_ ?_
 . have:=Oa (a.num*(b.den:Int)) (b.num*(a.den:Int));rw[bX];omega
 have:a.den*b.den<=2^(i+j):=by rw[iX];exact eT ha.2 hb.2
 rw[bX];omega
def Hb.neg{k:Nat}{a:Rat}(h:Hb k a):Hb k (-a):=by
 unfold Hb at *;rw[A7,F1];omega
def prodC_len{c d:Cl}:(cU c d).length=c.length*d.length:=by
 unfold cU;induction c with
 |nil=>simp
 |cons a c ih=>rw[cO,bg,ih,aV,aY,xL];omega
end Go.Proofs.Reg
namespace Go.Proofs.En
open Go.RowKit Go.Proofs.Fl Go.Proofs.Dig
attribute [local irreducible] IntKind.wrap aW bc bj bm SW c7 CallOk To Tr ct
open Go.Proofs.Reg
def jg(n:Int)(r:List IV):Bool:=!decide ((r.length:Int)=n)
def TK(J:Keep){n:Int}{r:List IV}:LocC (XS J) 107 [ae (.sl r),.w (.one (.ptr 0 0 0))] [pZ n] (ae (.bool (jg n r))) [pZ n]:=by
 refine lT Tryz.func107 rfl rfl rfl ⟨.c rfl,.c rfl,aa⟩ ⟨.c rfl,aa⟩ (.inr rfl) ⟨.c rfl,aa⟩ ?_;unfold jg;by_cases h1:(r.length:Int)=n
 . rw[bB h1];refine be ?_;exact Tr.tab [] [] ⟨.sm,aa⟩ ⟨.rn,aa⟩ rfl
 rw[bE h1];refine be ?_;exact Tr.tab [] [] ⟨.sm,aa⟩ ⟨.rn,aa⟩ rfl
def TM(J:Keep){n:Int}{f:List (List IV)}(hf:f.length<2^60):LocC (XS J) 134 [ae (.sl (f.map IV.sl)),.w (.one (.clo 107 [0]))] [pZ n] (ae (di (nG (jg n) f))) [pZ n]:=by
 obtain⟨r,hr⟩:∃r,nG (jg n) f=r:=⟨_,rfl⟩;rw[hr];have lf:(((f.map IV.sl).length:Nat):Int)=(f.length:Int):=by simp
 refine lT Tryz.func134 rfl rfl rfl ⟨.c rfl,.c rfl,aa⟩ ⟨.c rfl,aa⟩ (.inr rfl) ⟨.c rfl,aa⟩ ?_;repeat (first|(refine aG ?_)|(refine aM lf ?_;conv=>whnf))
 refine cq (G:={ t:Nat // t<=f.length/\∀y∈f.take t,jg n y=false }) (fun t=>aR [(0,ae (.sl (f.map IV.sl))),(1,.w (.one (.clo 107 [0]))),(6,ae (.sl (f.map IV.sl))),(7,ae (di (f.length:Int))),(8,ae (di (t.1:Int)))] [(0,pZ n)] 1) (fun t=>f.length-t.1) ⟨0,ba _,by simp⟩
  (Tr.tab [] [] ⟨.sm,.rn,.sm,.sm,.sm,aa⟩ ⟨.rn,aa⟩ rfl) ?_
 rintro⟨t,ht,hz⟩;show SW (XS J) _ _ _ _ (aR [(0,ae (.sl (f.map IV.sl))),(1,.w (.one (.clo 107 [0]))),(6,ae (.sl (f.map IV.sl))),(7,ae (di (f.length:Int))),(8,ae (di (t:Int)))] [(0,pZ n)] 1) _;by_cases h:t<f.length
 .
  obtain⟨p,hx⟩:∃x,f[t]?=some x:=⟨_,bi h⟩;have gv:(f.map IV.sl)[t]?=some (.sl p):=by rw[bI,hx];rfl
  have c1:=TK J (n:=n) (r:=p);cases h0:jg n p with
  |true=>
   rw[h0] at c1;have e:=KD (pr:=jg n) hz hx h0;rw[hr] at e;subst e;repeat (first|(refine aG ?_)|((first|refine aO ?_ rfl gv|refine yT ?_);conv=>whnf))
   refine iB c1 [0] 0 rfl ⟨.d rfl,.c rfl,aa⟩ ⟨.c rfl,aa⟩ trivial (bp (.c rfl) fS) (.d rfl) ?_;conv=>whnf
   repeat (first|(refine aG ?_)|(refine SW.condT rfl ?_))
   exact Tr.tab [] [] ⟨.sm,aa⟩ ⟨.rn,aa⟩ rfl
  |false=>
   rw[h0] at c1;repeat (first|(refine aG ?_)|((first|refine aO ?_ rfl gv|refine yT ?_);conv=>whnf))
   refine iB c1 [0] 0 rfl ⟨.d rfl,.c rfl,aa⟩ ⟨.c rfl,aa⟩ trivial (bp (.c rfl) fS) (.d rfl) ?_;conv=>whnf
   repeat (first|(refine aG ?_)|(refine SW.condF rfl ?_)|(refine cy ?_;conv=>whnf))
   exact⟨⟨t+1,h,GX hz hx h0⟩,Tr.tab [] [] ⟨.sm,.rn,.sm,.sm,.sm,aa⟩ ⟨.rn,aa⟩ rfl,by dsimp only;omega⟩
 have e:t=f.length:=by omega
 subst e;rw[cN] at hz;have e:=CJ hz;rw[hr] at e;subst e;refine be ?_;exact Tr.tab [] [] ⟨.sm,aa⟩ ⟨.rn,aa⟩ rfl
def TS(J:Keep){n:Int}{f:List (List IV)}(hf:f.length<2^60):LocC (XS J) 64 [ae (.sl (f.map IV.sl)),.w (.one (.clo 107 [0]))] [pZ n] (ae (.bool (f.any (jg n)))) [pZ n]:=by
 rw[<-KE];have c1:=TM J (n:=n) hf;refine lT Tryz.func64 rfl rfl rfl ⟨.c rfl,.c rfl,aa⟩ ⟨.c rfl,aa⟩ (.inr rfl) ⟨.c rfl,aa⟩ ?_;repeat ((refine SW.RS ?_;conv=>whnf))
 refine iB c1 [0] 0 rfl ⟨.d rfl,.c rfl,aa⟩ ⟨.c rfl,aa⟩ trivial (bp (.c rfl) fS) (.d rfl) ?_;conv=>whnf
 repeat((first|refine SW.ret ?_|refine lB ?_|refine And.intro (by decide) ?_);conv=>whnf)
 exact Tr.tab [] [] ⟨.sm,aa⟩ ⟨.rn,aa⟩ rfl
def TQ(J:Keep){n:Int}{f:List (List IV)}(hf:f.length<2^60):Go.Proofs.Fl.C J 49 [.sl (f.map IV.sl),.int .i64 n] (.bool (f.any (jg n))):=by
 refine pS Tryz.func49 rfl rfl rfl rfl rfl ?_;have c1:=TS J (n:=n) hf;repeat ((refine SW.RS ?_;conv=>whnf))
 refine iB c1 [0] 0 rfl ⟨.d rfl,.c rfl,aa⟩ ⟨.c rfl,aa⟩ trivial (bp (.c rfl) fS) (.d rfl) ?_;conv=>whnf
 repeat ((refine SW.ret ?_;conv=>whnf))
 rfl
def jl(n:Int)(f:List (List IV))(w:List IV):IV:=.agg [.int .i64 n,.sl (f.map IV.sl),.sl w]
def rF(n:Int)(f:List (List IV))(w:List IV):Bool:=decide (1<=n/\n<=4)&&(decide (f.length<=2000)&&(!f.any (jg n)&&decide (w.length=f.length)))
def Ki(J:Keep){n:Int}{f:List (List IV)}{w:List IV}(hf:f.length<2^60):Go.Proofs.Fl.C J 24 [jl n f w] (.bool (rF n f w)):=by
 refine pS Tryz.func24 rfl rfl rfl rfl rfl ?_;have lf:(((f.map IV.sl).length:Nat):Int)=(f.length:Int):=by simp
 have c1:=De J n;have c2:=TQ J (n:=n) hf;unfold rF jl;by_cases h1:1<=n/\n<=4
 .
  rw[bB h1] at c1 ⊢;by_cases h2:f.length<=2000
  .
   rw[bB h2];cases h3:f.any (jg n) with
   |true=>
    rw[h3] at c2;repeat (first|(refine aG ?_)|((first|refine cY ?_|refine dX ?_|refine aM lf ?_|refine aD c1 ?_|refine aD c2 ?_);conv=>whnf)|(refine aJ ?_))
    rfl
   |false=>
    rw[h3] at c2;by_cases h4:w.length=f.length
    . rw[bB h4];repeat (first|(refine aG ?_)|((first|refine cY ?_|refine aM lf ?_|refine aD c1 ?_|refine aD c2 ?_);conv=>whnf)|(refine aJ ?_))
      rfl
    rw[bE h4];repeat (first|(refine aG ?_)|((first|refine cY ?_|refine aM lf ?_|refine aD c1 ?_|refine aD c2 ?_);conv=>whnf)|(refine aJ ?_))
    rfl
  rw[bE h2];repeat (first|(refine aG ?_)|((first|refine cY ?_|refine dX ?_|refine aM lf ?_|refine aD c1 ?_);conv=>whnf)|(refine aJ ?_))
  rfl
 rw[bE h1] at c1 ⊢;repeat (first|(refine aG ?_)|((first|refine dX ?_|refine aD c1 ?_);conv=>whnf)|(refine aJ ?_))
 rfl
end Go.Proofs.En
namespace Go.Proofs.Fl
open Go.RowKit Go.Proofs.Dig
attribute [local irreducible] IntKind.wrap aW bc bj bm
def C8{x:UInt8}:∀{a c b d:List UInt8},a++x::b=c++x::d->¬x∈a->¬x∈c->a=c/\b=d
 | [],[],b,d,h,_,_=>by simp at h;exact⟨rfl,h⟩
 | [],y::c,b,d,h,_,hc=>by simp at h;exact absurd (by rw[h.1];simp) hc
 |y::a,[],b,d,h,ha,_=>by simp at h;exact absurd (by rw[h.1];simp) ha
 |y::a,z::c,b,d,h,ha,hc=>by
  simp at h;obtain⟨h1,h2⟩:=C8 h.2 (fun e=>ha (by simp[e])) (fun e=>hc (by simp[e]));exact⟨by rw[h.1,h1],h2⟩
def rm{n:Nat}{x:UInt8}(h:x.toNat<48):¬x∈br n:=fun e=>by have:=PG n x e;omega
def HN{z w:Int}(h:eE z=eE w):z=w:=by
 unfold eE at h;by_cases hz:z<0
 .
  rw[au hz] at h;by_cases hw:w<0
  . rw[au hw] at h;have:=yC (List.append_cancel_left h);omega
  rw[aq hw] at h;have h1:(45:UInt8)∈br w.natAbs:=by rw[lF] at h;rw[<-h];simp
  exact absurd h1 (rm (by decide))
 rw[aq hz] at h;by_cases hw:w<0
 . rw[au hw] at h;have h1:(45:UInt8)∈br z.natAbs:=by rw[lF] at h;rw[h];simp
   exact absurd h1 (rm (by decide))
 rw[aq hw] at h;have:=yC h;omega
def yr(z:Int):¬(47:UInt8)∈eE z:=by
 unfold eE;split
 . simp;exact rm (by decide)
 simp;exact rm (by decide)
def HZ{p q:Rat}(h:eX p=eX q):p=q:=by
 unfold eX at h;by_cases hp:p.den=1
 . rw[au hp] at h;by_cases hq:q.den=1
   . rw[au hq] at h;exact Rat.ext (HN h) (by rw[hp,hq])
   rw[aq hq] at h;exact absurd (by rw[h];simp) (yr p.num)
 rw[aq hp] at h;by_cases hq:q.den=1
 . rw[au hq] at h;exact absurd (by rw[<-h];simp) (yr q.num)
 rw[aq hq,dI,dI] at h;obtain⟨h1,h2⟩:=C8 h (yr _) (yr _);exact Rat.ext (HN h1) (yC h2)
def QH(p q:Rat):(eX p==eX q)=decide (p=q):=by
 by_cases h:p=q
 . rw[h,bB rfl,beq_self_eq_true]
 rw[bE h,xI];exact fun e=>h (HZ e)
def Wy{J:Keep}(L:LibI J){p q:Rat}{d1 d2:IV}(hd:DOk q d1 d2)(hp:aU p<2^36)(hq:rl q<2^34):C J 88 [qr p,fx q d1 d2] (.bool (decide (p=q))):=by
 refine aN Tryz.func88 rfl rfl rfl ?_;have c1:=Eo L (q:=p);have c2:=U6 J hd (by omega);have e:=QH p q;repeat (first|(refine af ?_)|((first|refine⟨_,c1,?_⟩|refine⟨_,c2,?_⟩|refine⟨_,e,?_⟩|refine xr ?_);conv=>whnf))
 rfl
def pH(n d:Int):Rat:=(n:Rat)/((if d=0 then 1 else d:Int):Rat)
def Ao(n d:Int)(p:Nat):Rat:=pH n d^(p%4+1)
def Ns{a:Int}(h:0<=a/\a<=255:=by omega):IntKind.wrap .u8 a=a:=by
 have e:IntKind.wrap .u8 a=(let m:=a%(256:Int);if false&&decide (m>=(128:Int)) then m-(256:Int) else m):=by with_unfolding_all rfl
 rw[e];simp;omega
def Tv{n d:Int}(h1 : -9223372036854775808<=n)(h2:n<=9223372036854775807)(h3 : -9223372036854775808<=d)(h4:d<=9223372036854775807):rl (pH n d)<=13:=by
 unfold pH;have e1:=LE n;have e2:=LE (if d=0 then 1 else d:Int);have l1:lh n.natAbs<=5:=kQ (jN (show n.natAbs<=9223372036854775808 by omega) (by decide));have l2:lh (if d=0 then 1 else d:Int).natAbs<=5:=kQ (jN (show(if d=0 then 1 else d:Int).natAbs<=9223372036854775808 by split<;>omega) (by decide));have:=VD (n:Rat) ((if d=0 then 1 else d:Int):Rat);omega
def Kc{q:Rat}{N:Nat}(h:rl q<=N):∀k,rl (q^(k+1))<=(k+1)*N
 |0=>by rw[a8,Bh,Rat.pow_zero,Rat.one_mul];omega
 |k+1=>by
  rw[Bh];have h1:=LD (q^(k+1)) q;have h2:=Kc h k;rw[xL];omega
def Mq{x y:IV}(h:x=y):some (Bx.var x)=some (Bx.var y):=by rw[h]
def CC(q:Rat):q^(0+1)=q:=by rw[Bh,Rat.pow_zero,Rat.one_mul]
abbrev rR(n d:Int)(p:Nat):IV:=.agg [.int .i64 n,.int .i64 d,.int .u8 p]
def Wv(J:Keep){n d:Int}{p:Nat}(h1 : -9223372036854775808<=n)(h2:n<=9223372036854775807)(h3 : -9223372036854775808<=d)(h4:d<=9223372036854775807):C J 65 [rR n d p] (.tup [qr (Ao n d p),rr (Ao n d p)]):=by
 refine aN Tryz.func65 rfl rfl rfl ?_;have hb:=Tv h1 h2 h3 h4;unfold Ao;obtain⟨D,hD⟩:∃D:Int,(if d=0 then 1 else d:Int)=D:=⟨_,rfl⟩;have hD0:D≠0:=by rw[<-hD];split<;>omega
 have hD1 : -9223372036854775808<=D/\D<=9223372036854775807:=by rw[<-hD];split<;>omega
 have c57:=LZ (base J) (n:=n) (d:=D) h1 h2 hD1.1 hD1.2 hD0;have c29:=Ww J (n:=n) (d:=D) h1 h2 hD1.1 hD1.2 hD0;have hQ:pH n d=(n:Rat)/(D:Rat):=by unfold pH;rw[hD]
 rw[<-hQ] at c57 c29;obtain⟨Q,hQe⟩:∃Q,pH n d=Q:=⟨_,rfl⟩;rw[hQe] at c57 c29 hb ⊢;obtain⟨m,hm⟩:∃m,p%4=m:=⟨_,rfl⟩;have hm4:m<4:=by omega
 have hmod:((p:Nat):Int).tmod 4=((m:Nat):Int):=by rw[<-hm];exact l9 p 4
 rw[hm];clear hQ hQe;iterate 1 ((refine W.RS ?_;conv=>whnf))
 refine W.join (G:=Unit) (fun _=>aF [(1,.ptr 0 0),(2,.ptr 1 0),(3,.ptr 2 0)] [(0,.var (rR n D p)),(1,.var (.agg [.sl [],.bool false,.sl []])),(2,.var (.agg [.int .i64 0,.sl [],.int .i64 0,.sl []]))] 10) ?_ (fun _=>?_)
 .
  by_cases h0:d=0
  . rw[au h0] at hD;subst hD;iterate 5 (first|((first|refine W.RS ?_|refine W.R ?_|refine xT ?_|refine xr ?_);conv=>whnf)|(refine W.condT rfl ?_))
    exact⟨(),Wk.tab [] ⟨ab,ab,ab,aa⟩ ⟨rfl,rfl,rfl,aa⟩ rfl⟩
  rw[aq h0] at hD;subst hD;iterate 5 (first|((first|refine W.RS ?_|refine W.skip ?_|refine xF ?_|refine xr ?_);conv=>whnf)|(refine W.condF rfl ?_))
  exact⟨(),Wk.tab [] ⟨ab,ab,ab,aa⟩ ⟨rfl,rfl,rfl,aa⟩ rfl⟩
 show W J _ _ (aF [(1,.ptr 0 0),(2,.ptr 1 0),(3,.ptr 2 0)] [(0,.var (rR n D p)),(1,.var (.agg [.sl [],.bool false,.sl []])),(2,.var (.agg [.int .i64 0,.sl [],.int .i64 0,.sl []]))] 10) _;repeat (first|(refine af ?_)|((first|refine⟨_,c57,?_⟩|refine⟨_,c29,?_⟩|refine xr ?_);conv=>whnf))
 refine W.loop (G:={ k:Nat // k<=m }) (fun k=>aF [(1,.ptr 0 0),(2,.ptr 1 0),(3,.ptr 2 0),(4,.ptr 3 0),(6,.ptr 4 0),(7,.ptr 5 0),(8,.ptr 6 0),(9,.iv (.int .u8 (k.1:Nat)))]
  [(0,.var (rR n D p)),(1,.var (.agg [.sl [],.bool false,.sl []])),(2,.var (.agg [.int .i64 0,.sl [],.int .i64 0,.sl []])),(3,.var (qr Q)),(4,.var (rr Q)),(5,.var (qr (Q^(k.1+1)))),(6,.var (rr (Q^(k.1+1))))] 40) (fun k=>m-k.1)
  ⟨0,ba _⟩ (Wk.tab [(3,18),(4,26),(5,30),(6,31)] ⟨ab,ab,ab,ab,ab,ab,ab,ab,aa⟩ ⟨rfl,rfl,rfl,rfl,rfl,Mq (by rw[CC]),Mq (by rw[CC]),aa⟩ rfl) ?_
 rintro⟨k,hk⟩;show W J _ _ (aF [(1,.ptr 0 0),(2,.ptr 1 0),(3,.ptr 2 0),(4,.ptr 3 0),(6,.ptr 4 0),(7,.ptr 5 0),(8,.ptr 6 0),(9,.iv (.int .u8 (k:Nat)))]
  [(0,.var (rR n D p)),(1,.var (.agg [.sl [],.bool false,.sl []])),(2,.var (.agg [.int .i64 0,.sl [],.int .i64 0,.sl []])),(3,.var (qr Q)),(4,.var (rr Q)),(5,.var (qr (Q^(k+1)))),(6,.var (rr (Q^(k+1))))] 40) _
 have lp:=Kc hb k;have lp2:=cL 13 (show k+1<=4 by omega);have lq:=zB Q;have lq2:=zB (Q^(k+1));have c49:=px (base J) (a:=Q^(k+1)) (b:=Q);have c65:=wj J (g5 (Q^(k+1))) (g5 Q);rw[<-Bh] at c49 c65;have hw:IntKind.wrap .u8 (((k:Nat):Int)+1)=((k+1:Nat):Int):=Ns;by_cases hk2:k=m
 . subst hk2;repeat (first|(refine af ?_)|(refine⟨by omega,_,hmod,?_⟩;conv=>whnf)|(refine ap ?_))
   rfl
 repeat (first|(refine af ?_)|((first|refine⟨by omega,_,hmod,?_⟩|refine⟨_,c49,?_⟩|refine⟨_,c65,?_⟩|refine⟨_,hw,?_⟩);conv=>whnf)|(refine ap ?_))
 exact⟨⟨k+1,by omega⟩,Wk.tab [] ⟨ab,ab,ab,ab,ab,ab,ab,ab,aa⟩ ⟨rfl,rfl,rfl,rfl,rfl,rfl,rfl,aa⟩ rfl,by dsimp only;omega⟩
def QB{q:Rat}{N:Nat}(h:rl q<N):aU q<N:=jN (zB q) h
def Xm{J:Keep}(L:LibI J){p:Rat}(hp:rl p<2^34):C J 88 [qr p,rr p] (.bool true):=by
 have:=Wy L (g5 p) (QB (N:=2^36) (q:=p) (by omega)) hp;rw[bB rfl] at this;exact this
section
variable {J:Keep}{a b c:Rat}
end
structure Num3 where
 n:Int
 d:Int
 p:Nat
def Num3.iv(x:Num3):IV:=rR x.n x.d x.p
def Num3.q(x:Num3):Rat:=Ao x.n x.d x.p
def Num3.ok(x:Num3):Prop:=(-9223372036854775808<=x.n/\x.n<=9223372036854775807)/\(-9223372036854775808<=x.d/\x.d<=9223372036854775807)/\x.p<256
def Xp(J:Keep){x:Num3}(h:x.ok):C J 65 [x.iv] (.tup [qr x.q,rr x.q]):=Wv J h.1.1 h.1.2 h.2.1.1 h.2.1.2
structure Gap6 where
 lo:Num3
 hi:Num3
def Gap6.iv(g:Gap6):IV:=.agg [.int .i64 g.lo.n,.int .i64 g.lo.d,.int .u8 g.lo.p,.int .i64 g.hi.n,.int .i64 g.hi.d,.int .u8 g.hi.p]
def xb(v:Bool):(v==v)=true:=by cases v<;>rfl
def XN(p:Prop):Prop:=p
attribute [irreducible] XN
noncomputable def YG(l:List Num3)(k:Nat):AS :=
 match k with
 |0=>aF [(0,.iv (.sl (l.map Num3.iv))),(4,.nilS),(5,.nilS),(6,.iv (.int .i64 0))] [] 10
 |k+1=>aF [(0,.iv (.sl (l.map Num3.iv))),(4,.ref 0 0 (k+1) true),(5,.ref 1 0 (k+1) true),(6,.iv (.int .i64 ((k+1:Nat):Int)))]
  [(0,.arr 55 3 ((l.take (k+1)).map fun x=>qr x.q) false),(1,.arr 98 4 ((l.take (k+1)).map fun x=>rr x.q) false)] 10
def tj{z v:IV}{n:Nat}(h:v.cells.length=n/\v.isTup=false):∀y∈List.take 1 (List.drop 0 ((List.replicate 1 z).set 0 v)),y.cells.length=n/\y.isTup=false:=by
 intro y hy;simp at hy;subst hy;exact h
def qa{e sz:Nat}{a b:List IV}{f:Bool}(h:a=b):some (Bx.arr e sz a f)=some (Bx.arr e sz b f):=by rw[h]
def Lx{l:List Num3}{k:Nat}(h:k<l.length):l.take (k+1)=l.take k ++ [l[k]]:=by
 rw[dO,bi h];rfl
def LX(J:Keep){l:List Num3}(hl:l.length<2^30)(hok:∀x∈l,x.ok):C J 21 [.sl (l.map Num3.iv)] (.tup [.sl (l.map fun x=>qr x.q),.sl (l.map fun x=>rr x.q)]):=by
 refine aN Tryz.func21 rfl rfl rfl ?_;have la:(l.map Num3.iv).length=l.length:=by simp
 refine aK ?_;refine W.loop (G:={ k:Nat // k<=l.length }) (fun k=>YG l k.1) (fun k=>l.length-k.1) ⟨0,ba _⟩ (Wk.tab [] ⟨ab,ab,ab,ab,aa⟩ trivial rfl) ?_;rintro⟨k,hk⟩;by_cases hke:k<l.length
 .
  have c1:=Xp J (hok l[k] (iw hke));have g:(l.map Num3.iv)[k]?=some (Num3.iv l[k]):=by simp[hke]
  have tk:=Lx hke;obtain⟨x,hx⟩:∃x,l[k]=x:=⟨_,rfl⟩;rw[hx] at c1 g tk;have gx:(Num3.iv x).cells.length=3:=rfl;cases k with
  |zero=>
   show W J _ _ (aF [(0,.iv (.sl (l.map Num3.iv))),(4,.nilS),(5,.nilS),(6,.iv (.int .i64 0))] [] 10) _;repeat (first|(refine af ?_)|((first|refine⟨_,c1,?_⟩|refine⟨0,_,rfl,g,rfl,?_⟩|refine⟨tj ⟨rfl,rfl⟩,bl rfl,bl rfl,?_⟩);conv=>whnf)|(refine ap ?_))
   exact⟨⟨0+1,by omega⟩,Wk.tab [(0,29),(1,33)] ⟨ab,ab,ab,ab,aa⟩ ⟨qa (by rw[tk];rfl),qa (by rw[tk];rfl),aa⟩ rfl,by dsimp only;omega⟩
  |succ k=>
   show W J _ _ (aF [(0,.iv (.sl (l.map Num3.iv))),(4,.ref 0 0 (k+1) true),(5,.ref 1 0 (k+1) true),(6,.iv (.int .i64 ((k+1:Nat):Int)))]
    [(0,.arr 55 3 ((l.take (k+1)).map fun x=>qr x.q) false),(1,.arr 98 4 ((l.take (k+1)).map fun x=>rr x.q) false)] 10) _
   have l1:k+1=((l.take (k+1)).map fun x=>qr x.q).length:=by simp;omega
   have l2:k+1=((l.take (k+1)).map fun x=>rr x.q).length:=by simp;omega
   repeat (first|(refine af ?_)|((first|refine⟨_,c1,?_⟩|refine⟨k+1,_,rfl,g,rfl,?_⟩);conv=>whnf)|(refine⟨ko,rfl,rfl,l1,tj ⟨rfl,rfl⟩,by show(k+1+1)*56<=(140737488355328:Nat);omega,by show k+1+1<=maxLen;unfold maxLen;omega,?_⟩;conv=>whnf)|(refine⟨ko,rfl,rfl,l2,tj ⟨rfl,rfl⟩,by show(k+1+1)*64<=(140737488355328:Nat);omega,by show k+1+1<=maxLen;unfold maxLen;omega,?_⟩;conv=>whnf)|(refine ap ?_))
   exact⟨⟨k+1+1,by omega⟩,Wk.tab [(0,29),(1,33)] ⟨ab,ab,ab,ab,aa⟩ ⟨qa (by rw[tk,dD];rfl),qa (by rw[tk,dD];rfl),aa⟩ rfl,by dsimp only;omega⟩
 have e:k=l.length:=by omega
 cases l with
 |nil=>
  subst e;show W J _ _ (aF [(0,.iv (.sl [])),(4,.nilS),(5,.nilS),(6,.iv (.int .i64 0))] [] 10) _;refine aK ?_;rfl
 |cons y l=>
  subst e;show W J _ _ (aF [(0,.iv (.sl ((y::l).map Num3.iv))),(4,.ref 0 0 (l.length+1) true),(5,.ref 1 0 (l.length+1) true),(6,.iv (.int .i64 ((l.length+1:Nat):Int)))]
   [(0,.arr 55 3 (((y::l).take (l.length+1)).map fun x=>qr x.q) false),(1,.arr 98 4 (((y::l).take (l.length+1)).map fun x=>rr x.q) false)] 10) _
  have la2:(l.map Num3.iv).length=l.length:=by simp
  have la':((y::l).map Num3.iv).length=l.length+1:=by simp
  have e1:(y::l).take (l.length+1)=y::l:=ay (by simp);rw[e1];repeat (first|(refine af ?_)|(refine⟨_,kU _,?_⟩;conv=>whnf)|(refine ap ?_))
  show IV.tup [.sl (List.take (l.length+1) (List.drop 0 ((y::l).map fun x=>qr x.q))),.sl (List.take (l.length+1) (List.drop 0 ((y::l).map fun x=>rr x.q)))]=_;rw[bW,bW,ay (by simp),ay (by simp)]
def Num3.tame(x:Num3):Bool:=!(decide (x.p%4≠0)||decide (x.n>9999)||decide (x.n < -9999)||decide (x.d>9999)||decide (x.d < -9999))
def r34_ok(J:Keep){l:List Num3}(hl:l.length<2^30):C J 20 [.sl (l.map Num3.iv)] (.bool (l.all Num3.tame)):=by
 refine aN Tryz.func20 rfl rfl rfl ?_;have la:(l.map Num3.iv).length=l.length:=by simp
 refine aK ?_;refine W.loop (G:={ k:Nat // k<=l.length/\(l.take k).all Num3.tame=true }) (fun k=>aF [(0,.iv (.sl (l.map Num3.iv))),(3,.iv (.int .i64 (k.1:Int)))] [] 10) (fun k=>l.length-k.1) ⟨0,ba _,by simp⟩ (Wk.tab [] ⟨ab,ab,aa⟩ trivial rfl) ?_;rintro⟨k,hk,hall⟩;show W J _ _ (aF [(0,.iv (.sl (l.map Num3.iv))),(3,.iv (.int .i64 (k:Int)))] [] 10) _;by_cases hke:k<l.length
 .
  have g:(l.map Num3.iv)[k]?=some (Num3.iv l[k]):=by simp[hke]
  have tk:=Lx hke;have hbad:l[k].tame=false->l.all Num3.tame=false:=fun h=>by
   rw[List.all_eq_false];exact⟨l[k],iw hke,by simp[h]⟩
  obtain⟨⟨n,d,p⟩,hx⟩:∃x,l[k]=x:=⟨_,rfl⟩;rw[hx] at g tk hbad;have g:(l.map Num3.iv)[k]?=some (rR n d p):=g;have hmod:((p:Nat):Int).tmod 4=((p%4:Nat):Int):=l9 p 4;have hw:IntKind.wrap .u8 ((p%4:Nat):Int)=((p%4:Nat):Int):=Ns;obtain⟨m,hm⟩:∃m,p%4=m:=⟨_,rfl⟩;have et:Num3.tame ⟨n,d,p⟩ = !(decide (m≠0)||decide (n>9999)||decide (n < -9999)||decide (d>9999)||decide (d < -9999)):=by unfold Num3.tame;rw[<-hm]
  rw[hm] at hmod hw;have key:m≠0\/(m=0/\n>9999)\/(m=0/\n < -9999)\/(m=0/\n<=9999/\ -9999<=n/\d>9999)\/(m=0/\n<=9999/\ -9999<=n/\d < -9999)\/(m=0/\n<=9999/\ -9999<=n/\d<=9999/\ -9999<=d):=by omega
  rcases key with h1|⟨h1,h2⟩|⟨h1,h2⟩|⟨h1,h2,h3,h4⟩|⟨h1,h2,h3,h4⟩|⟨h1,h2,h3,h4,h5⟩
  . rw[hbad (by rw[et];simp;omega)];repeat (first|(refine af ?_)|((first|refine⟨by omega,_,hmod,?_⟩|refine⟨k,_,rfl,g,rfl,?_⟩);conv=>whnf)|(refine ap ?_))
    rfl
  . rw[hbad (by rw[et];simp;omega)];repeat (first|(refine af ?_)|((first|refine⟨by omega,_,hmod,?_⟩|refine⟨k,_,rfl,g,rfl,?_⟩);conv=>whnf)|(refine ap ?_))
    rfl
  . rw[hbad (by rw[et];simp;omega)];repeat (first|(refine af ?_)|((first|refine⟨by omega,_,hmod,?_⟩|refine⟨k,_,rfl,g,rfl,?_⟩);conv=>whnf)|(refine ap ?_))
    rfl
  . rw[hbad (by rw[et];simp;omega)];repeat (first|(refine af ?_)|((first|refine⟨by omega,_,hmod,?_⟩|refine⟨k,_,rfl,g,rfl,?_⟩);conv=>whnf)|(refine ap ?_))
    rfl
  . rw[hbad (by rw[et];simp;omega)];repeat (first|(refine af ?_)|((first|refine⟨by omega,_,hmod,?_⟩|refine⟨k,_,rfl,g,rfl,?_⟩);conv=>whnf)|(refine ap ?_))
    rfl
  repeat (first|(refine af ?_)|((first|refine⟨by omega,_,hmod,?_⟩|refine⟨k,_,rfl,g,rfl,?_⟩);conv=>whnf)|(refine ap ?_))
  exact⟨⟨k+1,hke,by rw[tk,Gd,hall,dl,et];simp;omega⟩,Wk.tab [] ⟨ab,ab,aa⟩ trivial rfl,by dsimp only;omega⟩
 have e:k=l.length:=by omega
 subst e;rw[cN] at hall;rw[hall];refine aK ?_;rfl
abbrev YU:=List Int×Num3
def prI(t:YU):IV:=.agg [.sl (t.1.map di),.int .i64 t.2.n,.int .i64 t.2.d,.int .u8 t.2.p]
end Go.Proofs.Fl
namespace Go.Proofs.Fl
open Go.RowKit Go.Proofs.Dig
attribute [local irreducible] IntKind.wrap aW bc bj bm
open Go.Proofs.Reg (Hb)
def ob{k:Nat}{q:Rat}(h:Hb k q):rl q<=2*(k+1):=by
 have hB:∀n:Nat,n<=2^k->lh n<=k+1:=fun n hn=>kQ (by
  have h1:2^(k+1)<=ar^(k+1):=A6 (by decide) _;have h2:2^k<2^(k+1):=Nat.pow_lt_pow_right (by omega) (by omega);omega)
 have h1:=hB _ h.1;have h2:=hB _ h.2;unfold Fl.rl;omega
end Go.Proofs.Fl
namespace Go.Proofs.Fl
open Go.RowKit Go.Proofs.Dig
attribute [local irreducible] IntKind.wrap aW bc bj bm
open Go.Proofs.Reg (Hb)
def wz{k:Nat}{q:Rat}(h:Hb k q):aU q<=2*(k+1):=bf (zB q) (ob h)
end Go.Proofs.Fl
namespace Go.Proofs.En
open Go.RowKit Go.Proofs.Fl Go.Proofs.Dig
attribute [local irreducible] IntKind.wrap aW bc bj bm SW c7 CallOk To Tr ct
open Go.Proofs.Reg
noncomputable def eO(n:Int)(c:Cl):IV:=jl n (c.map fun x=>x.1.map qr) (c.map fun x=>qr x.2)
noncomputable def ug(n:Int)(c:Cl):EO:=.mem 29 [.iv (di n),.iv (.sl ((c.map fun x=>x.1.map qr).map IV.sl)),.iv (.sl (c.map fun x=>qr x.2))] false [(0,3)] 1
end Go.Proofs.En
namespace Go.Proofs.Fl
open Go.RowKit Go.Proofs.Dig
attribute [local irreducible] IntKind.wrap aW bc bj bm
def lI(l:List Int):IV:=.sl (l.map di)
end Go.Proofs.Fl
namespace Go.Proofs.En
open Go.RowKit Go.Proofs.Fl Go.Proofs.Dig
attribute [local irreducible] IntKind.wrap aW bc bj bm SW c7 CallOk To Tr ct
open Go.Proofs.Reg
def Vl{a b:Rat}:cw a b=0↔a=b:=by
 have e:cw b a = - cw a b:=by
  unfold cw a7;repeat' split
  all_goals omega
 have h1:=DE (a:=a) (b:=b);have h2:=DE (a:=b) (b:=a);constructor
 . intro h;exact Rat.le_antisymm (h1.1 (by omega)) (h2.1 (by omega))
 rintro rfl;have:=h1.2 (Rat.le_refl);omega
end Go.Proofs.En
namespace Go.Proofs.En
open Go.RowKit Go.Proofs.Fl Go.Shelf Go.Lib
section
variable {X:EX}
def Ra{f:FuncId}{V:Go.Shelf.Ren}(L:Lays8.n4 X.P V)(hf:V.f 4=f)(hF:Aq X f){i0:TypeInfo}{z:Value}(hi0:X.P.info? (V.t 25)=some i0)(hz0:i0.zero=some z)(hs0:0<i0.size)(hzs:z.cells.size=i0.size)
 {n:Nat} (hn:0<n) (hbig:n*i0.bytes<=140737488355328) (h63:n<=4611686018427387904) :
 CallOk X f [.w (.one (.iv (.nil 3))),ae (.int .i64 (n:Int))] (gt []) (.w (.one (.slc 0 0 0 0 (.fin i0.size)))) (gt [.mem (V.t 25) [] false [(0,0)] 1]):=by
 subst hf;refine⟨hF,fun E hI H U w vs hS hvs=>?_⟩
 match vs,hvs with
 | [v0,v1],⟨h0,h1,_⟩=>
 have h0:=rH h0.2;obtain⟨_,h1⟩:=h1;cases h1;subst h0;refine(Any8.slices_Grow_grow L i0 z hi0 hz0 hs0 none 0 0 n [] w (ah _) (by omega) (by rw[a8];exact hbig) (by omega) (by simp) (fun _=>rfl) (fun a h=>by cases h)).mono ?_;rintro e w' ⟨rfl,rfl⟩;obtain⟨C,hC⟩:∃C,grownCap w (0+n) 0 (V.t 25)=C:=⟨_,rfl⟩;have hge:0+n<=C:=by rw[<-hC];exact xh _ _ _ _
 rw[hC];obtain⟨arr,ha⟩:∃arr:Array Value,(([]:List Value).toArray++Builtin.zeroCells z.cells (0+n-0)++Builtin.zeroCells z.cells (C-(0+n)))=arr:=⟨_,rfl⟩;rw[ha];have hasz:arr.size=C*i0.size:=by
  rw[<-ha];simp only[xi,uV,hzs];rw[show(#[]:Array Value).size=0 from rfl,a8,<-bQ];congr 1;omega
 have hS2:ESim X.Z E H U (gt []) w.drew:=hS.sm rfl rfl rfl rfl;have hbe:Below w.drew.heap.size w.drew (w.drew.alloc (.cells arr (V.t 25))):=(kA _ _).alloc (ah _) _;have hnew:H w.heap.size=none:=by
  cases hx:H w.heap.size with
  |none=>rfl
  |some arr'=>have:=hS.has.lt hx;omega
 obtain⟨hb,hs⟩:=hS2.alloc (g:=0) rfl (b:=.cells arr (V.t 25)) (s:=arr.size) (o:=.mem (V.t 25) [] false [(0,0)] 1) Nat.one_pos (by
  refine⟨fun _ u k hk=>?_,fun u p hup=>?_⟩
  . by_cases e:u=0
    . subst e;rw[fH] at hk;cases hk;exact hnew
    rw[kE _ _ _ _ (fun e'=>e e'.2),hS2.noB rfl] at hk;cases hk
  simp only[fg,aC] at hup;obtain⟨rfl,rfl⟩:=hup;refine⟨Nat.one_pos,_,arr,fH _ _ _ _,hS2.lo _ (ah _),by simpa using hnew,nK _ _,rfl,ah _,ba _,?_⟩;exact trivial)
 have e0:az (gt []) 0 (some (.mem (V.t 25) [] false [(0,0)] 1))=gt [.mem (V.t 25) [] false [(0,0)] 1]:=by
  funext g;cases g with
  |zero=>exact a6 _ _ _
  |succ g=>rw[aI _ _ _ (by omega)];rfl
 rw[e0] at hs;refine⟨_,H,_,rfl,HLe.refl _,hb,hs,fun D hD=>MarkSame.below hbe D hD,⟨_,C,fH _ _ _ _,rfl,ba _,?_⟩⟩;show 0+C*i0.size=arr.size;rw[hasz,a8]
def Sp{f:FuncId}{V:Go.Shelf.Ren}(L:Lays8.n4 X.P V)(hf:V.f 4=f)(hF:Aq X f){i0:TypeInfo}{z:Value}(hi0:X.P.info? (V.t 25)=some i0)(hz0:i0.zero=some z)(hs0:0<i0.size)(hzs:z.cells.size=i0.size)
 {n:Nat} (hn:0<n) (hbig:n*i0.bytes<=140737488355328) (h63:n<=4611686018427387904) :
 LocC X f [.w (.one (.iv (.nil 3))),ae (.int .i64 (n:Int))] [] (.w (.one (.slc 0 0 0 0 (.fin i0.size)))) [.mem (V.t 25) [] false [(0,0)] 1] :=
 ⟨Ra L hf hF hi0 hz0 hs0 hzs hn hbig h63,ba _,fun i hi=>by simp[fP,bv,eM,ae] at hi,fun o ho=>by simp at ho,fun i hi=>by
  have:i=0:=by simpa[fP,bv,eM] using hi
  subst this;exact⟨Nat.one_pos,by simp⟩,fun o ho=>by
  rw[List.mem_singleton.1 ho];exact⟨rfl,fun u p hup i hi=>by simp at hi⟩⟩
end
end Go.Proofs.En
namespace Go.Proofs
open Go.Shelf
def Tryz.growQ_ren:Go.Shelf.Ren:=⟨fun|4=>136|n=>n,fun|22=>27|25=>55|n=>n,fun|n=>n⟩
def Tryz.growQ:Go.Proofs.Lays8.n4 Tryz.prog Tryz.growQ_ren:={
 mixed:=by kernel_rfl
 f4:=⟨Tryz.f136.name,by decide,Tryz.func136.trans (aL some (by kernel_rfl))⟩
 t0:=Tryz.underlying0
 a0:=Tryz.isAgg0
 z0:=Tryz.sizeOf0
 v0:=Tryz.zeroValue0
 t3:=Tryz.underlying3
 a3:=Tryz.isAgg3
 z3:=Tryz.sizeOf3
 v3:=Tryz.zeroValue3
 t4:=Tryz.underlying4
 a4:=Tryz.isAgg4
 z4:=Tryz.sizeOf4
 v4:=Tryz.zeroValue4
 t9:=Tryz.underlying9
 a9:=Tryz.isAgg9
 z9:=Tryz.sizeOf9
 v9:=Tryz.zeroValue9
 t20:=Tryz.underlying20
 a20:=Tryz.isAgg20
 z20:=Tryz.sizeOf20
 v20:=Tryz.zeroValue20
 t22:=Tryz.underlying27
 a22:=Tryz.isAgg27
 z22:=Tryz.sizeOf27
 v22:=Tryz.zeroValue27 }
end Go.Proofs
namespace Go.Proofs.En
open Go.RowKit Go.Proofs.Fl Go.Proofs.Dig
attribute [local irreducible] IntKind.wrap aW bc bj bm SW c7 CallOk To Tr ct
open Go.Proofs.Reg
noncomputable def qC(l:List Rat):List EV:=((l.map qr).flatMap IV.cells).map .iv
def tD(a b:List Rat):qC (a++b)=qC a++qC b:=by
 unfold qC;rw[dD,eV,dD]
def gW:∀l:List Rat,(qC l).length=l.length*3
 | []=>rfl
 |x::l=>by
  have e:x::l=[x]++l:=rfl;rw[e,tD,bg,gW l,bg,bQ];rfl
def kG:∀l:List Rat,(qC l).flatMap bv=[]
 | []=>rfl
 |x::l=>by
  have e:x::l=[x]++l:=rfl;rw[e,tD,eV,kG l];rfl
def Aa:∀l:List Rat,b7 3 (l.map qr)=true
 | []=>rfl
 |x::l=>by
  have:=Aa l;unfold b7 at this ⊢;rw[aZ,dl,this];rfl
def IX:∀l:List Rat,((l.map qr).flatMap IV.cells).all pg=true
 | []=>rfl
 |x::l=>by rw[aZ,cO,Gd,IX l];rfl
def LV:∀l:List Rat,fW true 3 l.length ((l.map qr).flatMap IV.cells)=l.map qr
 | []=>rfl
 |x::l=>by
  rw[aY,fW,aZ,cO];show qr x::fW true 3 l.length ((l.map qr).flatMap IV.cells)=_;rw[LV l]
def vP{h:Hp}{l:List Rat}:fU h 3 (.w (.one (.iv (.sl (l.map qr)))))=some (qC l,l.length):=by
 show(bif b7 3 (l.map qr) then some (((l.map qr).flatMap IV.cells).map EV.iv,(l.map qr).length) else none)=_;rw[Aa,al,aV];rfl
def zg{h:Hp}{f g u P cnt:Nat}{cap:Cap}{S:Nat->Bool}{cs:List EV}{fz:Bool}{vs:List (Nat×Nat)}{l:List Rat}(hS:S g=true)(hg:h g=some (.mem 55 cs fz vs cnt))(hv:cW u vs=some P)(hP:l.length*3<=P)(hc:cs.take (l.length*3)=qC l) :
 iN TT ZZ S h (f+1) (.w (.one (.slc g u 0 l.length cap)))=some (.sl (l.map qr)):=by
 show cb TT ZZ S h (f+1) (.slc g u 0 l.length cap)=_;unfold cb;rw[hS];simp only[hg];rw[show TT 55=some mi from rfl,hv];simp only;rw[show mi.size=3 from rfl,show mi.sh.agg=true from rfl,a8,fh hP,al,bW,hc];unfold qC;rw[DK (IX l)];simp only[LV,Aa,Bool.true_or,mT,al]
def growQ(J:Keep){n:Nat}(hn:0<n)(h:n<=1000000):LocC (XS J) 136 [.w (.one (.iv (.nil 3))),ae (di (n:Int))] [] (.w (.one (.slc 0 0 0 0 (.fin 3)))) [.mem 55 [] false [(0,0)] 1]:=by
 obtain⟨i,d,z,ok⟩:=aT ((XS J).hT 55 mi (show TT 55=some mi from rfl));have hz:=(ok.vr fun _=>none).size;have hs:i.size=3:=ok.size;have hb:i.bytes=56:=ok.bytes;have:=Sp (X:=XS J) (f:=136) Tryz.growQ rfl ⟨_,Tryz.func136,rfl,rfl⟩ ok.info ok.zero (by omega) (by rw[hz,hs];rfl) hn (by rw[hb];omega) (by omega);rw[hs] at this;exact this
def Nu{g u n m:Nat}{cap:Cap}(h:n=m):ES.w (.one (.slc g u 0 n cap))=.w (.one (.slc g u 0 m cap)):=by rw[h]
def Fh(a b:List Rat)(t:Nat):Nat:=match t with
 |0=>0
 |1=>a.length
 |_=>a.length+b.length
def Fi(a b:List Rat)(t:Nat):List Rat:=match t with
 |0=>[]
 |1=>a
 |_=>a++b
def TG(J:Keep){a b:List Rat}(ha:0<a.length)(hb:0<b.length)(hs:a.length+b.length<=1000):Go.Proofs.Fl.C J 70 [.sl [.sl (a.map qr),.sl (b.map qr)]] (.sl ((a++b).map qr)):=by
 refine lk Tryz.func70 rfl rfl rfl rfl 1 ?_;have la:(((a.map qr).length:Nat):Int)=(a.length:Int):=by simp
 have lb:(((b.map qr).length:Nat):Int)=(b.length:Int):=by simp
 have g0:[IV.sl (a.map qr),.sl (b.map qr)][0]?=some (.sl (a.map qr)):=rfl;have g1:[IV.sl (a.map qr),.sl (b.map qr)][1]?=some (.sl (b.map qr)):=rfl;refine be ?_;refine cq (G:={ t:Nat // t<=2 }) (fun t=>aR [(0,ae (.sl [.sl (a.map qr),.sl (b.map qr)])),(3,ae (di (Fh a b t.1:Nat))),(9,ae (.sl [.sl (a.map qr),.sl (b.map qr)])),(10,ae (di 2)),(11,ae (di (t.1:Int)))] [] 0) (fun t=>2-t.1) ⟨0,ba _⟩
  (Tr.tab [] [] ⟨.sm,.sm,.sm,.sm,.sm,aa⟩ trivial rfl) ?_
 rintro⟨t,ht⟩;show SW (XS J) _ _ _ _ (aR [(0,ae (.sl [.sl (a.map qr),.sl (b.map qr)])),(3,ae (di (Fh a b t:Nat))),(9,ae (.sl [.sl (a.map qr),.sl (b.map qr)])),(10,ae (di 2)),(11,ae (di (t:Int)))] [] 0) _;rcases (show t=0\/t=1\/t=2 by omega) with rfl|rfl|rfl
 . show SW (XS J) _ _ _ _ (aR [(0,ae (.sl [.sl (a.map qr),.sl (b.map qr)])),(3,ae (di 0)),(9,ae (.sl [.sl (a.map qr),.sl (b.map qr)])),(10,ae (di 2)),(11,ae (di 0))] [] 0) _;repeat (first|(refine aG ?_)|((first|refine aO ?_ rfl g0|refine aM la ?_);conv=>whnf)|(refine aJ ?_))
   exact⟨⟨1,by omega⟩,Tr.tab [] [] ⟨.sm,.sm (by show ae (di _)=ae (di _);congr 2;simp[Fh]),.sm,.sm,.sm,aa⟩ trivial rfl,by dsimp only;omega⟩
 . show SW (XS J) _ _ _ _ (aR [(0,ae (.sl [.sl (a.map qr),.sl (b.map qr)])),(3,ae (di (a.length:Int))),(9,ae (.sl [.sl (a.map qr),.sl (b.map qr)])),(10,ae (di 2)),(11,ae (di 1))] [] 0) _;repeat (first|(refine aG ?_)|((first|refine aO ?_ rfl g1|refine aM lb ?_);conv=>whnf)|(refine aJ ?_))
   exact⟨⟨2,by omega⟩,Tr.tab [] [] ⟨.sm,.sm (by show ae (di _)=ae (di _);congr 2),.sm,.sm,.sm,aa⟩ trivial rfl,by dsimp only;omega⟩
 show SW (XS J) _ _ _ _ (aR [(0,ae (.sl [.sl (a.map qr),.sl (b.map qr)])),(3,ae (di ((a.length+b.length:Nat):Int))),(9,ae (.sl [.sl (a.map qr),.sl (b.map qr)])),(10,ae (di 2)),(11,ae (di 2))] [] 0) _;refine be ?_;refine iB (growQ J (n:=a.length+b.length) (by omega) (by omega)) [0] 1 rfl ⟨.d rfl,.d rfl,aa⟩ trivial ⟨rfl,aa⟩ (bp (.d rfl) fS) (.c rfl) ?_;conv=>whnf
 refine be ?_;refine cq (G:={ t:Nat // t<=2 }) (fun t=>aR [(6,.w (.one (.slc 0 0 0 (Fi a b t.1).length (.fin 3)))),(25,ae (.sl [.sl (a.map qr),.sl (b.map qr)])),(26,ae (di 2)),(27,ae (di (t.1:Int)))] [(0,.mem 55 (qC (Fi a b t.1)) false [(0,(Fi a b t.1).length*3)] 1)] 1) (fun t=>2-t.1) ⟨0,ba _⟩
  (Tr.tab [] [] ⟨.rn,.sm,.sm,.sm,aa⟩ ⟨.sm,aa⟩ rfl) ?_
 rintro⟨t,ht⟩;rcases (show t=0\/t=1\/t=2 by omega) with rfl|rfl|rfl
 . show SW (XS J) _ _ _ _ (aR [(6,.w (.one (.slc 0 0 0 0 (.fin 3)))),(25,ae (.sl [.sl (a.map qr),.sl (b.map qr)])),(26,ae (di 2)),(27,ae (di 0))] [(0,.mem 55 [] false [(0,0)] 1)] 1) _;repeat (first|(refine aG ?_)|((first|refine aO ?_ rfl g0|refine yT ?_);conv=>whnf))
   refine bK (g:=1) (b:=1) (ch (p:=0) (sz:=3) rfl rfl rfl vP (by omega) (by omega) (by omega) (by show _*56<=_;omega) (dU) rfl rfl rfl rfl rfl) (by show 1<1+1;decide) ?_;conv=>whnf
   refine be ?_;refine⟨⟨1,by omega⟩,Tr.tab [] [(0,.one 1)] ⟨.rn (Nu (a8 _)),.sm,.sm,.sm,aa⟩ ⟨.ver rfl rfl (gD _ _ _) (by show a.length*3<=_;omega) (by show a.length*3<=(qC a).length;rw[gW];omega) (by show(List.take (0*3) []++qC a).take _=(qC a).take _;rfl) (kG _),aa⟩ rfl,by dsimp only;omega⟩
 . show SW (XS J) _ _ _ _ (aR [(6,.w (.one (.slc 0 0 0 a.length (.fin 3)))),(25,ae (.sl [.sl (a.map qr),.sl (b.map qr)])),(26,ae (di 2)),(27,ae (di 1))] [(0,.mem 55 (qC a) false [(0,a.length*3)] 1)] 1) _;repeat (first|(refine aG ?_)|((first|refine aO ?_ rfl g1|refine yT ?_);conv=>whnf))
   refine bK (g:=1) (b:=1) (ch (p:=a.length*3) (sz:=3) rfl rfl rfl vP (by omega) (by omega) (by omega) (by show _*56<=_;omega) (dU) rfl rfl rfl rfl rfl) (by show 1<1+1;decide) ?_;conv=>whnf
   refine be ?_;have ea:(qC a).take (a.length*3)=qC a:=ay (by rw[gW];exact ah _);refine⟨⟨2,by omega⟩,Tr.tab [] [(0,.one 1)] ⟨.rn (Nu (by show _=(a++b).length;rw[bg])) rfl,.sm,.sm,.sm,aa⟩ ⟨.ver rfl rfl (gD _ _ _) (by show(a++b).length*3<=_;rw[bg];omega) (by show(a++b).length*3<=(qC (a++b)).length;rw[gW];omega) (by show((qC a).take (a.length*3)++qC b).take _=(qC (a++b)).take _;rw[ea,tD]) (kG _),aa⟩ rfl,by dsimp only;omega⟩
 show SW (XS J) _ _ _ _ (aR [(6,.w (.one (.slc 0 0 0 (a++b).length (.fin 3)))),(25,ae (.sl [.sl (a.map qr),.sl (b.map qr)])),(26,ae (di 2)),(27,ae (di 2))] [(0,.mem 55 (qC (a++b)) false [(0,(a++b).length*3)] 1)] 1) _;refine be ?_;exact zg rfl rfl (bn _ _) (ah _) (ay (by rw[gW];exact ah _))
end Go.Proofs.En
namespace Go.Proofs.En
open Go.RowKit Go.Proofs.Fl
def Sm{h:Hp}{g:Nat}{e:TypeId}{cs:List EV}{fz:Bool}{vs:List (Nat×Nat)}{cnt:Nat}(hg:h g=some (.mem e cs fz vs cnt)):jw (fun i=>Nat.beq i g) h=az h g (some .hid):=by
 funext i;unfold jw;dsimp only;by_cases e:i=g
 . subst e;rw[bD,a6];simp only[hg]
 rw[dU e,aI _ _ _ e]
def Iu{X:EX}{nx:Nat}{f:FuncId}{xs:List IV}{r:IV}{args:List ES}{h:Hp}{K:ES->Wr->Nat->Option (List Nat)->Prop}(hc:aW X.P X.I f xs r)(g fu:Nat){e:TypeId}{cs:List EV}{fz:Bool}{vs:List (Nat×Nat)}{cnt:Nat}(hg:h g=some (.mem e cs fz vs cnt))
 (hd:∀h':Hp,h' g=some (.mem e cs fz vs cnt)->cT (iN X.T X.Z (fun i=>Nat.beq i g) h' fu) args=some xs) (hr:qt r=true) (hK:K (dS r) [(g,.hid)] 0 (some [g])):ct X nx f args h K:=by
 have key:∀h':Hp,h' g=some (.mem e cs fz vs cnt)->CallOk X f args h' (dS r) (bw h' [(g,.hid)]):=fun h' hg'=>by
  have:=CallOk.ofData (S:=fun i=>Nat.beq i g) (res:=dS r) hc (hd h' hg') fun H U v hv=>L9 hv hr;rw[Sm hg'] at this;exact this
 refine .inr (.inr ⟨dS r,[(g,.hid)],0,[g],key h hg,key _ ?_,fun p hp=>?_,hK⟩)
 . show(bif bV g [g] then h g else some .hid)=_;rw[show bV g [g]=true by unfold bV;rw[bD];rfl,al,hg]
 rw[List.mem_singleton.1 hp];exact⟨.inr (by rw[hg];simp),List.mem_singleton_self _⟩
end Go.Proofs.En
namespace Go.Proofs.En
open Go.RowKit Go.Proofs.Fl Go.Proofs.Dig
attribute [local irreducible] IntKind.wrap aW bc bj bm SW c7 CallOk To Tr ct
open Go.Proofs.Reg
def AJ:Cl->EV
 | []=>.iv (.nil 3)
 |_::l=>.slc 4 0 0 (l.length+1) (.fin 1)
def AI:Cl->EV
 | []=>.iv (.nil 3)
 |_::l=>.slc 5 0 0 (l.length+1) (.fin 3)
def wZ(n:Int)(acc:Cl):EO:=.mem 29 [.iv (di n),AJ acc,AI acc] false [(0,3)] 1
noncomputable def eJ(acc:Cl):List EV:=acc.map fun x=>.iv (.sl (x.1.map qr))
abbrev bt(l:Cl):List Rat:=l.map fun q=>q.2
noncomputable def uq(acc:Cl):EO:=match acc with
 | []=>.mem 27 [] false [] 0
 |_::l=>.mem 27 (eJ acc) false [(0,l.length+1)] 1
noncomputable def uo(acc:Cl):EO:=match acc with
 | []=>.mem 55 [] false [] 0
 |_::l=>.mem 55 (qC (bt acc)) false [(0,(l.length+1)*3)] 1
noncomputable def ks:EO:=.mem 29 [.iv (di 0),.iv (.nil 3),.iv (.nil 3)] false [(0,3)] 1
noncomputable def prI(n m:Int)(a b acc:Cl)(t:Nat)(x:List Rat)(k:Nat):SS:=aR [(2,.w (.one (.ptr 0 0 0))),(3,.w (.one (.ptr 1 0 0))),(4,.w (.one (.ptr 2 0 0))),(5,.w (.one (.ptr 3 0 0))),(6,ae (di (t:Int))),(7,ae (.sl (x.map qr))),(17,ae (.sl ((a.map fun x=>x.1.map qr).map IV.sl))),(18,ae (di (a.length:Int))),(19,ae (di (t:Int))),(25,ae (.sl ((b.map fun x=>x.1.map qr).map IV.sl))),(26,ae (di (b.length:Int))),(27,ae (di (k:Int)))]
 [(0,ug n a),(1,ug m b),(2,ks),(3,wZ (n+m) acc),(4,uq acc),(5,uo acc)] 6
noncomputable def wY(n m:Int)(a b acc:Cl)(t:Nat):SS:=aR [(2,.w (.one (.ptr 0 0 0))),(3,.w (.one (.ptr 1 0 0))),(4,.w (.one (.ptr 2 0 0))),(5,.w (.one (.ptr 3 0 0))),(17,ae (.sl ((a.map fun x=>x.1.map qr).map IV.sl))),(18,ae (di (a.length:Int))),(19,ae (di (t:Int)))]
 [(0,ug n a),(1,ug m b),(2,ks),(3,wZ (n+m) acc),(4,uq acc),(5,uo acc)] 6
def n0(l:Cl):(eJ l).length=l.length:=by simp[eJ]
def Dj(a b:Cl):eJ (a++b)=eJ a++eJ b:=by simp[eJ]
def ve:∀l:Cl,(eJ l).flatMap bv=[]
 | []=>rfl
 |x::l=>by
  have:=ve l;unfold eJ at this ⊢;rw[aZ,cO,this];rfl
def qO{acc:Cl}:fR (uq acc):=by
 cases acc with
 |nil=>rfl
 |cons x l=>exact ve _
def qN{acc:Cl}:fR (uo acc):=by
 cases acc with
 |nil=>rfl
 |cons x l=>exact kG _
def ip(x:List Rat)(v:Rat)(y:List Rat×Rat):List Rat×Rat:=(x++y.1,v*y.2)
def Ha{a b:Cl}{t:Nat}{x:List Rat×Rat}(h:a[t]?=some x):cU (a.take (t+1)) b=cU (a.take t) b++b.map (ip x.1 x.2):=by
 unfold cU;rw[dO,h,eV];simp only[Option.toList,cO,Ge,eS];rfl
def G9(a b:Cl)(t:Nat):(cU (a.take t) b).length<=a.length*b.length:=by
 rw[prodC_len];exact cL _ (by simp;omega)
def Hc:∀l:Cl,(((l.map fun x=>x.1.map qr).map IV.sl).all pg)=true
 | []=>rfl
 |x::l=>by rw[aZ,aZ,dl,Hc l];rfl
def K9{h:Hp}{n:Int}{z:List Rat×Rat}{l:Cl}(h4:h 4=some (uq (z::l)))(h5:h 5=some (uo (z::l))):iN TT ZZ (fun _=>true) h 3 (.w (.agg [.iv (di n),AJ (z::l),AI (z::l)]))=some (eO n (z::l)):=by
 have d1:cb TT ZZ (fun _=>true) h 3 (AJ (z::l))=some (.sl (((z::l).map fun x=>x.1.map qr).map IV.sl)) :=
  JD (f:=2) (cap:=.fin 1) (te:=pM) (n:=l.length+1) rfl h4 rfl rfl rfl (bn _ _) (ah _) (by simp) (by
   rw[ay (by rw[n0];exact ah _)];unfold eJ;rw[cC,cC];rfl) (Hc _)
 have d2:=zg (f:=2) (cap:=.fin 3) (S:=fun _=>true) (l:=bt (z::l)) rfl h5 (bn _ _) (by simp) (ay (by rw[gW];exact ah _));rw[show(bt (z::l)).length=l.length+1 by simp] at d2;have d2:cb TT ZZ (fun _=>true) h 3 (AI (z::l))=some (.sl ((bt (z::l)).map qr)):=d2;show(match cT (cb TT ZZ (fun _=>true) h 3) [.iv (di n),AJ (z::l),AI (z::l)] with
  |some xs=>some (IV.agg xs)
  |none=>none)=_
 simp only[cT,d1,d2,show cb TT ZZ (fun _=>true) h 3 (.iv (di n))=some (di n) from rfl];unfold eO jl bt;simp only[cC];rfl
def Nj{h:Hp}{x y:List Rat}{f:Nat}(hg:h 6=some (.mem 27 [.iv (.sl (x.map qr)),.iv (.sl (y.map qr))] false [(0,2)] 1)) :
 cT (iN TT ZZ (fun i=>Nat.beq i 6) h (f+1)) [.w (.one (.slc 6 0 0 2 (.ex 2)))]=some [.sl [.sl (x.map qr),.sl (y.map qr)]]:=by
 have:=SF (T:=TT) (Z:=ZZ) (S:=fun i=>Nat.beq i 6) (f:=f) (cap:=.ex 2) (te:=pM) (n:=2) (es:=[.sl (x.map qr),.sl (y.map qr)]) rfl hg rfl rfl rfl (bn _ _) (ah _) rfl rfl rfl;simp only[cT,this]
def TP{J:Keep}(B:Base J){n m:Int}{a b:Cl}(hn:0<=n/\n<=100)(hm:0<=m/\m<=100)(ha:∀x∈a,0<x.1.length/\x.1.length<=100/\aU x.2<2^36)(hb:∀x∈b,0<x.1.length/\x.1.length<=100/\aU x.2<2^36)(hab:a.length*b.length<=5000)(ha5:a.length<=5000)(hb5:b.length<=5000) :
 Go.Proofs.Fl.C J 33 [eO n a,eO m b] (eO (n+m) (cU a b)):=by
 refine lk Tryz.func33 rfl rfl rfl rfl 3 ?_;have la:((((a.map fun x=>x.1.map qr).map IV.sl).length:Nat):Int)=(a.length:Int):=by simp
 have lb:((((b.map fun x=>x.1.map qr).map IV.sl).length:Nat):Int)=(b.length:Int):=by simp
 unfold eO jl;repeat (first|(refine aG ?_)|(refine aM la ?_;conv=>whnf)|(refine aJ ?_))
 refine cq (G:={ t:Nat // t<=a.length }) (fun t=>wY n m a b (cU (a.take t.1) b) t.1) (fun t=>a.length-t.1) ⟨0,ba _⟩
  (Tr.tab [(4,1000),(5,1001)] [] ⟨.rn,.rn,.rn,.rn,.sm,.sm,.sm,aa⟩ ⟨.sm,.sm,.sm,.sm,.ph rfl,.ph rfl,aa⟩ rfl) ?_
 rintro⟨t,ht⟩;obtain⟨acc0,hacc0⟩:∃c,cU (a.take t) b=c:=⟨_,rfl⟩;show SW (XS J) _ _ _ _ (wY n m a b (cU (a.take t) b) t) _;rw[hacc0];by_cases h:t<a.length
 .
  obtain⟨⟨x,v⟩,hx⟩:∃x,a[t]?=some x:=⟨_,bi h⟩;have gp:((a.map fun x=>x.1.map qr).map IV.sl)[t]?=some (.sl (x.map qr)):=by rw[bI,bI,hx];rfl
  have gv:(a.map fun x=>qr x.2)[t]?=some (qr v):=by rw[bI,hx];rfl
  obtain⟨x0,x1,x2⟩:=ha _ (bN hx);unfold wY;repeat (first|(refine aG ?_)|((first|refine aO ?_ rfl gp|refine aM lb ?_);conv=>whnf)|(refine aJ ?_))
  have e0:acc0++(b.take 0).map (ip x v)=acc0:=by simp
  refine cq (G:={ k:Nat // k<=b.length }) (fun k=>prI n m a b (acc0++(b.take k.1).map (ip x v)) t x k.1) (fun k=>b.length-k.1) ⟨0,ba _⟩ ?_ ?_
  . show Tr _ _ (prI n m a b (acc0++(b.take 0).map (ip x v)) t x 0);rw[e0];cases acc0 with
    |nil=>exact Tr.tab [] [] ⟨.rn,.rn,.rn,.rn,.sm,.sm,.sm,.sm,.sm,.sm,.sm,.sm,aa⟩ ⟨.sm,.sm,.sm,.rn,.sm rfl rfl qO,.sm rfl rfl qN,aa⟩ rfl
    |cons z l=>exact Tr.tab [] [] ⟨.rn,.rn,.rn,.rn,.sm,.sm,.sm,.sm,.sm,.sm,.sm,.sm,aa⟩ ⟨.sm,.sm,.sm,.rn,.sm rfl rfl qO,.sm rfl rfl qN,aa⟩ rfl
  rintro⟨k,hk⟩;obtain⟨acc,hacc⟩:∃c,acc0++(b.take k).map (ip x v)=c:=⟨_,rfl⟩;show SW (XS J) _ _ _ _ (prI n m a b (acc0++(b.take k).map (ip x v)) t x k) _;rw[hacc];have hal:acc.length<=10000:=by
   rw[<-hacc,bg,aV,<-hacc0,bG];have:=G9 a b t;omega
  by_cases h2:k<b.length
  .
   obtain⟨⟨y,w⟩,hy⟩:∃x,b[k]?=some x:=⟨_,bi h2⟩;have gq:((b.map fun x=>x.1.map qr).map IV.sl)[k]?=some (.sl (y.map qr)):=by rw[bI,bI,hy];rfl
   have gw:(b.map fun x=>qr x.2)[k]?=some (qr w):=by rw[bI,hy];rfl
   obtain⟨y0,y1,y2⟩:=hb _ (bN hy);have x0:0<x.length:=x0;have x1:x.length<=100:=x1;have x2:aU v<2^36:=x2;have y0:0<y.length:=y0;have y1:y.length<=100:=y1;have y2:aU w<2^36:=y2;have c1:=TG J (a:=x) (b:=y) x0 y0 (by omega);have c2:=px B (a:=v) (b:=w);have hnew:acc0++(b.take (k+1)).map (ip x v)=acc ++ [(x++y,v*w)]:=by
    rw[dO,hy,dD,<-dI,hacc];rfl
   unfold prI;cases acc with
   |nil=>
    repeat (first|(refine aG ?_)|(refine aO ?_ rfl gq;conv=>whnf)|(refine aJ ?_))
    refine Iu c1 6 2 rfl (fun h' hg=>Nj hg) rfl ?_;conv=>whnf
    repeat (first|((first|refine SW.R ?_|refine aO ?_ rfl gv|refine aO ?_ rfl gw|refine aD c2 ?_);conv=>whnf)|(refine aJ ?_))
    refine⟨⟨k+1,h2⟩,?_,by dsimp only;omega⟩;show Tr _ _ (prI n m a b (acc0++(b.take (k+1)).map (ip x v)) t x (k+1));rw[hnew];exact Tr.tab [(4,8),(5,10)] [] ⟨.rn,.rn,.rn,.rn,.sm,.sm,.sm,.sm,.sm,.sm,.sm,.sm,aa⟩ ⟨.sm,.sm,.sm,.rn,.sm,.sm,aa⟩ rfl
   |cons z l=>
    have hl:l.length+1<=10000:=hal;have el:(l ++ [(x++y,v*w)]).length=l.length+1:=by simp
    have qlen:(qC (bt (z::l))).length=(l.length+1)*3:=by rw[gW,aV];rfl
    repeat (first|(refine aG ?_)|(refine aO ?_ rfl gq;conv=>whnf)|(refine aJ ?_))
    refine Iu c1 6 2 rfl (fun h' hg=>Nj hg) rfl ?_;conv=>whnf
    skip
    refine bK (g:=8) (b:=1) (ch (p:=l.length+1) (sz:=1) rfl rfl (bn _ _) rfl (by omega) (by omega) (by omega) (by show _*24<=_;omega) rfl rfl rfl rfl rfl rfl) (by show 8<8+1;decide) ?_;conv=>whnf
    repeat (first|((first|refine SW.R ?_|refine aO ?_ rfl gv|refine aO ?_ rfl gw|refine aD c2 ?_);conv=>whnf)|(refine aJ ?_))
    refine bK (g:=10) (b:=1) (ch (p:=(l.length+1)*3) (sz:=3) rfl rfl (bn _ _) rfl (by omega) (by omega) (by omega) (by show _*56<=_;omega) rfl rfl rfl rfl rfl rfl) (by show 10<10+1;decide) ?_;conv=>whnf
    refine be ?_;refine⟨⟨k+1,h2⟩,?_,by dsimp only;omega⟩;show Tr _ _ (prI n m a b (acc0++(b.take (k+1)).map (ip x v)) t x (k+1));rw[hnew];refine Tr.tab [] [(4,.one 1),(5,.one 1)] ⟨.rn,.rn,.rn,.rn,.sm,.sm,.sm,.sm,.sm,.sm,.sm,.sm,aa⟩ ⟨.sm,.sm,.sm,.rn rfl rfl ?_ rfl,.ver rfl rfl (gD _ _ _) ?_ ?_ ?_ ?_,.ver rfl rfl (gD _ _ _) ?_ ?_ ?_ ?_,aa⟩ rfl
    . show EO.mem 29 [.iv (di (n+m)),.slc 4 0 0 (l.length+1+1) (.fin 1),.slc 5 0 0 (l.length+1+1) (.fin 3)] false [(0,3)] 1=.mem 29 [.iv (di (n+m)),.slc 4 0 0 ((l ++ [(x++y,v*w)]).length+1) (.fin 1),.slc 5 0 0 ((l ++ [(x++y,v*w)]).length+1) (.fin 3)] false [(0,3)] 1;rw[el]
    . show(l ++ [(x++y,v*w)]).length+1<=_;rw[el];omega
    . show(l ++ [(x++y,v*w)]).length+1<=(eJ ((z::l) ++ [(x++y,v*w)])).length;rw[n0];simp
    . show((eJ (z::l)).take ((l.length+1)*1) ++ [EV.iv (IV.sl ((x++y).map qr))]).take _=(eJ ((z::l) ++ [(x++y,v*w)])).take _;rw[ay (i:=(l.length+1)*1) (by rw[n0,eB];exact ah _),Dj];rfl
    . exact ve _
    . show((l ++ [(x++y,v*w)]).length+1)*3<=_;rw[el];omega
    . show((l ++ [(x++y,v*w)]).length+1)*3<=(qC (bt ((z::l) ++ [(x++y,v*w)]))).length;rw[gW];simp
    . show((qC (bt (z::l))).take ((l.length+1)*3)++(qr (v*w)).cells.map EV.iv).take _=(qC (bt ((z::l) ++ [(x++y,v*w)]))).take _;rw[ay (i:=(l.length+1)*3) (by rw[qlen];exact ah _),show bt ((z::l) ++ [(x++y,v*w)])=bt (z::l) ++ [v*w] by simp[bt],tD];congr 1
    exact kG _
  have e:k=b.length:=by omega
  subst e;rw[cN] at hacc;have e1:cU (a.take (t+1)) b=acc:=by rw[Ha hx,hacc0];exact hacc
  unfold prI;refine be ?_;refine⟨⟨t+1,h⟩,?_,by dsimp only;omega⟩;show Tr _ _ (wY n m a b (cU (a.take (t+1)) b) (t+1));rw[e1];cases acc with
  |nil=>exact Tr.tab [] [] ⟨.rn,.rn,.rn,.rn,.sm,.sm,.sm,aa⟩ ⟨.sm,.sm,.sm,.rn,.sm rfl rfl qO,.sm rfl rfl qN,aa⟩ rfl
  |cons z l=>exact Tr.tab [] [] ⟨.rn,.rn,.rn,.rn,.sm,.sm,.sm,aa⟩ ⟨.sm,.sm,.sm,.rn,.sm rfl rfl qO,.sm rfl rfl qN,aa⟩ rfl
 have e:t=a.length:=by omega
 subst e;rw[cN] at hacc0;rw[hacc0];unfold wY;cases acc0 with
 |nil=>
  refine be ?_;rfl
 |cons z l=>
  refine be ?_;exact K9 rfl rfl
end Go.Proofs.En
namespace Go.Proofs.Pt
abbrev Pw:=List Rat
abbrev Tm:=Pw×Rat
def befI:Pw->Pw->Int
 |x::a,y::b=>if x<y then -1 else if y<x then 1 else befI a b
 |_,_=>0
def befI_vals:∀a b:Pw,befI a b = -1\/befI a b=0\/befI a b=1
 | [],_=>by simp[befI]
 |_::_,[]=>by simp[befI]
 |x::a,y::b=>by
  unfold befI;split
  . exact .inl rfl
  split
  . exact .inr (.inr rfl)
  exact befI_vals a b
def befI_swap:∀a b:Pw,befI b a = -befI a b
 | [],[]=>by simp[befI]
 | [],_::_=>by simp[befI]
 |_::_,[]=>by simp[befI]
 |x::a,y::b=>by
  unfold befI;have ih:=befI_swap a b;by_cases h1:x<y
  . rw[aq (by grind),au h1,au h1];rfl
  by_cases h2:y<x
  . rw[au h2,aq h1,au h2]
  rw[aq h2,aq h1,aq h1,aq h2,ih]
def befI_zero:∀{a b:Pw},a.length=b.length->befI a b=0->a=b
 | [],[],_,_=>rfl
 |x::a,y::b,hl,h=>by
  unfold befI at h;split at h
  . cases h
  split at h
  . cases h
  have:=befI_zero (by simpa using hl) h;rw[this,show x=y by grind]
 | [],_::_,hl,_=>by simp at hl
 |_::_,[],hl,_=>by simp at hl
def befI_self:∀a:Pw,befI a a=0
 | []=>rfl
 |x::a=>by unfold befI;rw[aq (by grind),aq (by grind)];exact befI_self a
def befI_trans:∀{a b c:Pw},a.length=b.length->b.length=c.length->befI a b = -1->befI b c = -1->befI a c = -1
 | [],_,_,_,_,h,_=>by simp[befI] at h
 |_::_,[],_,hl,_,_,_=>by simp at hl
 |_::_,_::_,[],_,hl,_,_=>by simp at hl
 |x::a,y::b,z::c,h1,h2,h,k=>by
  unfold befI at h k ⊢;by_cases e1:x<y
  .
   by_cases e2:y<z
   . rw[au (by grind)]
   rw[aq e2] at k;by_cases e3:z<y
   . rw[au e3] at k;cases k
   rw[au (by grind)]
  rw[aq e1] at h;by_cases e2:y<x
  . rw[au e2] at h;cases h
  rw[aq e2] at h;by_cases e3:y<z
  . rw[au (by grind)]
  rw[aq e3] at k;by_cases e4:z<y
  . rw[au e4] at k;cases k
  rw[aq e4] at k;rw[aq (by grind),aq (by grind)];exact befI_trans (by simpa using h1) (by simpa using h2) h k
def bH(f:List Tm)(p:Pw):Rat:=match f with
 | []=>0
 |t::f=>(if t.1=p then t.2 else 0)+bH f p
def It{f g:List Tm}(h:f.Perm g)(p:Pw):bH f p=bH g p:=by
 induction h with
 |nil=>rfl
 |cons x _ ih=>simp only[bH,ih]
 |swap x y l=>simp only[bH,<-oM,xM (if x.1=p then x.2 else 0)]
 |trans _ _ h1 h2=>rw[h1,h2]
def GV(f:List Tm)(p:Pw):bH (f.filter fun t=>decide (t.2≠0)) p=bH f p:=by
 induction f with
 |nil=>rfl
 |cons t f ih=>
  by_cases h:t.2=0
  . rw[List.filter_cons_of_neg (by simp[h]),ih];simp[bH,h,Bj]
  rw[List.filter_cons_of_pos (by simp[h])];simp only[bH,ih]
def JE{f:List Tm}{p:Pw}(h:∀t∈f,t.1≠p):bH f p=0:=by
 induction f with
 |nil=>rfl
 |cons t f ih=>
  simp only[bH];rw[aq (h t (by simp)),ih fun t ht=>h t (by simp[ht]),Bj]
def Srt(f:List Tm):Prop:=f.Pairwise fun a b=>befI a.1 b.1 = -1
def vu{t:Tm}{f:List Tm}(hs:Srt (t::f)):bH (t::f) t.1=t.2:=by
 simp only[bH,bL];rw[JE (f:=f) (p:=t.1) fun u hu e=>?_,Bk];have:=(List.pairwise_cons.1 hs).1 u hu;rw[e,befI_self] at this;cases this
def GK{n:Nat}:∀{f g:List Tm},(∀t∈f,t.1.length=n)->(∀t∈g,t.1.length=n)->Srt f->Srt g->(∀t∈f,t.2≠0)->(∀t∈g,t.2≠0)->(∀p,bH f p=bH g p)->f=g
 | [],[],_,_,_,_,_,_,_=>rfl
 | [],t::g,_,_,_,hs,_,hz,h=>by
  have:=h t.1;rw[vu hs] at this;exact absurd this.symm (hz t (by simp))
 |t::f,[],_,_,hs,_,hz,_,h=>by
  have:=h t.1;rw[vu hs] at this;exact absurd this (hz t (by simp))
 |t::f,u::g,hn,hm,hf,hg,hzf,hzg,h=>by
  have key:∀{t u:Tm} {f g:List Tm},(∀x∈t::f,x.1.length=n)->(∀x∈u::g,x.1.length=n)->Srt (t::f)->Srt (u::g)->(∀x∈t::f,x.2≠0)->(∀p,bH (t::f) p=bH (u::g) p)->befI t.1 u.1≠ -1:=by
   intro t u f g h1 h2 hf hg hz h hb;have e:=h t.1;rw[vu hf] at e;have:bH (u::g) t.1=0:=JE fun x hx ex=>by
    rcases List.mem_cons.1 hx with rfl|hx
    . rw[ex,befI_self] at hb;cases hb
    have h3:=(List.pairwise_cons.1 hg).1 x hx;have h4:=befI_trans (by rw[h1 t (by simp),h2 u (by simp)]) (by rw[h2 u (by simp),h2 x (by simp[hx])]) hb h3;rw[ex,befI_self] at h4;cases h4
   rw[this] at e;exact hz t (by simp) e
  have a1:=key hn hm hf hg hzf h;have a2:=key hm hn hg hf hzg fun p=>(h p).symm;have e0:befI t.1 u.1=0:=by
   rcases befI_vals t.1 u.1 with e|e|e
   . exact absurd e a1
   . exact e
   rw[befI_swap,e] at a2;simp at a2
  have e1:t.1=u.1:=befI_zero (by rw[hn t (by simp),hm u (by simp)]) e0;have e2:t.2=u.2:=by
   have:=h t.1;rw[vu hf,e1,vu hg] at this;exact this
  have et:t=u:=Prod.ext e1 e2;subst et;congr 1;refine GK (fun x hx=>hn x (by simp[hx])) (fun x hx=>hm x (by simp[hx])) (List.pairwise_cons.1 hf).2 (List.pairwise_cons.1 hg).2 (fun x hx=>hzf x (by simp[hx])) (fun x hx=>hzg x (by simp[hx])) fun p=>?_;have:=h p;simp only[bH] at this;have h2:=aL (fun z => -(if t.1=p then t.2 else 0)+z) this;simpa[<-oM,Rat.neg_add_cancel,Bj] using h2
def insF(t:Tm):Bool->List Tm->List Tm
 |d,[]=>if d then [] else [t]
 |d,o::os=>(if !d&&decide (befI t.1 o.1<0) then [t] else [])++(if befI t.1 o.1=0 then(o.1,o.2+t.2) else o)::insF t (d||decide (befI t.1 o.1<0)||decide (befI t.1 o.1=0)) os
def fV(f:List Tm):List Tm:=f.foldl (fun out t=>insF t false out) []
def fw(f:List Tm):List Tm:=(fV f).filter fun t=>decide (t.2≠0)
def B8{t:Tm}:∀{os:List Tm},(∀o∈os,befI t.1 o.1≠0)->insF t true os=os
 | [],_=>rfl
 |o::os,h=>by
  unfold insF;rw[aq (by simp),aq (h o (by simp))];simp only[Bool.true_or];rw[B8 fun o ho=>h o (by simp[ho])];rfl
def KG{n:Nat}{t:Tm}(ht:t.1.length=n):∀{os:List Tm},(∀o∈os,o.1.length=n)->Srt os->Srt (insF t false os)/\(∀x∈insF t false os,x.1=t.1\/∃o∈os,x.1=o.1)/\∀p,bH (insF t false os) p=bH os p+(if t.1=p then t.2 else 0)
 | [],_,_=>⟨Ov _ _,fun x hx=>by simp[insF] at hx;exact .inl (by rw[hx]),fun p=>by simp[insF,bH,xM]⟩
 |o::os,hn,hs=>by
  have hno:=hn o (by simp);have hns:∀x∈os,x.1.length=n:=fun x hx=>hn x (by simp[hx]);obtain⟨hs1,hs2⟩:=List.pairwise_cons.1 hs;rcases befI_vals t.1 o.1 with e|e|e
  .
   -- ahead
   have hne:∀x∈os,befI t.1 x.1 = -1:=fun x hx=>befI_trans (by rw[ht,hno]) (by rw[hno,hns x hx]) e (hs1 x hx);have hi:insF t false (o::os)=t::o::os:=by
    unfold insF;rw[e];simp only[Bool.not_false,qK,xe];rw[au (by decide),aq (by decide)];rw[show(decide ((-1:Int)<0)||decide ((-1:Int)=0))=true from rfl,B8 fun x hx=>by rw[hne x hx];decide];rfl
   rw[hi];refine⟨List.pairwise_cons.2 ⟨fun x hx=>?_,hs⟩,fun x hx=>?_,fun p=>by simp only[bH];rw[xM]⟩
   . rcases List.mem_cons.1 hx with rfl|hx
     . exact e
     exact hne x hx
   rcases List.mem_cons.1 hx with rfl|hx
   . exact .inl rfl
   exact .inr ⟨x,hx,rfl⟩
  .
   -- there
   have eo:t.1=o.1:=befI_zero (by rw[ht,hno]) e;have hne:∀x∈os,befI t.1 x.1≠0:=fun x hx=>by rw[eo,hs1 x hx];decide
   have hi:insF t false (o::os)=(o.1,o.2+t.2)::os:=by
    unfold insF;rw[e];simp only[Bool.not_false,qK,xe];rw[aq (by decide),au trivial];rw[show(decide ((0:Int)<0)||decide True)=true from rfl,B8 hne];rfl
   rw[hi];refine⟨List.pairwise_cons.2 ⟨fun x hx=>hs1 x hx,hs2⟩,fun x hx=>?_,fun p=>?_⟩
   . rcases List.mem_cons.1 hx with rfl|hx
     . exact .inr ⟨o,by simp,rfl⟩
     exact .inr ⟨x,by simp[hx],rfl⟩
   simp only[bH,eo];split
   . rw[oM,oM,xM t.2]
   rw[Bk]
  -- behind
  obtain⟨i1,i2,i3⟩:=KG ht hns hs2;have hi:insF t false (o::os)=o::insF t false os:=by
   conv=>lhs;unfold insF
   rw[e];rfl
  rw[hi];refine⟨List.pairwise_cons.2 ⟨fun x hx=>?_,i1⟩,fun x hx=>?_,fun p=>by simp only[bH,i3,oM]⟩
  . rcases i2 x hx with h|⟨y,hy,h⟩
    . rw[h,befI_swap,e]
    rw[h];exact hs1 y hy
  rcases List.mem_cons.1 hx with rfl|hx
  . exact .inr ⟨x,by simp,rfl⟩
  exact(i2 x hx).imp id fun⟨y,hy,h⟩=>⟨y,by simp[hy],h⟩
def UA{n:Nat}{f:List Tm}(hn:∀t∈f,t.1.length=n):Srt (fV f)/\(∀t∈fV f,t.1.length=n)/\∀p,bH (fV f) p=bH f p:=by
 have key:∀(f out:List Tm),(∀t∈f,t.1.length=n)->Srt out->(∀t∈out,t.1.length=n)->Srt (f.foldl (fun out t=>insF t false out) out)/\(∀t∈f.foldl (fun out t=>insF t false out) out,t.1.length=n)/\∀p,bH (f.foldl (fun out t=>insF t false out) out) p=bH out p+bH f p:=by
  intro f;induction f with
  |nil=>intro out _ hs hl;exact⟨hs,hl,fun p=>by simp[bH,Bk]⟩
  |cons t f ih=>
   intro out hn hs hl;obtain⟨i1,i2,i3⟩:=KG (hn t (by simp)) hl hs;obtain⟨j1,j2,j3⟩:=ih (insF t false out) (fun t ht=>hn t (by simp[ht])) i1 fun x hx=>by
    rcases i2 x hx with h|⟨y,hy,h⟩
    . rw[h];exact hn t (by simp)
    rw[h];exact hl y hy
   exact⟨j1,j2,fun p=>by simp only[iV,j3,i3,bH,oM]⟩
 obtain⟨a,b,c⟩:=key f [] hn List.Pairwise.nil (fun _ h=>by cases h);exact⟨a,b,fun p=>by rw[show fV f=f.foldl (fun out t=>insF t false out) [] from rfl,c];simp[bH,Bj]⟩
def Lc{n:Nat}{f:List Tm}(hn:∀t∈f,t.1.length=n):Srt (fw f)/\(∀t∈fw f,t.1.length=n)/\(∀t∈fw f,t.2≠0)/\∀p,bH (fw f) p=bH f p:=by
 obtain⟨h1,h2,h3⟩:=UA hn;refine⟨h1.filter _,fun t ht=>h2 t (List.mem_filter.1 ht).1,fun t ht=>by simpa using(List.mem_filter.1 ht).2,fun p=>?_⟩;unfold fw;rw[GV,h3]
def Ld{n:Nat}{f g:List Tm}(hn:∀t∈f,t.1.length=n)(hg:∀t∈g,t.1.length=n)(hs:Srt g)(hz:∀t∈g,t.2≠0)(h:∀p,bH g p=bH f p):g=fw f:=by
 obtain⟨h1,h2,h3,h4⟩:=Lc hn;exact GK hg h2 hs h1 hz h3 fun p=>by rw[h,h4]
def cQ(t:Tm):List Tm->List Tm
 | []=>[t]
 |o::os=>if o.1=t.1 then(o.1,o.2+t.2)::os else o::cQ t os
def bO(f:List Tm):List Tm:=f.foldl (fun out t=>cQ t out) []
def KeysNd(f:List Tm):Prop:=f.Pairwise fun a b=>a.1≠b.1
def Jl(t:Tm):∀{os:List Tm},KeysNd os->KeysNd (cQ t os)/\(∀x∈cQ t os,x.1=t.1\/∃o∈os,x.1=o.1)/\∀p,bH (cQ t os) p=bH os p+(if t.1=p then t.2 else 0)
 | [],_=>⟨Ov _ _,fun x hx=>by simp[cQ] at hx;exact .inl (by rw[hx]),fun p=>by simp[cQ,bH,xM]⟩
 |o::os,hs=>by
  obtain⟨h1,h2⟩:=List.pairwise_cons.1 hs;unfold cQ;by_cases e:o.1=t.1
  .
   rw[au e];refine⟨List.pairwise_cons.2 ⟨h1,h2⟩,fun x hx=>?_,fun p=>?_⟩
   . rcases List.mem_cons.1 hx with rfl|hx
     . exact .inl e
     exact .inr ⟨x,by simp[hx],rfl⟩
   simp only[bH,e];split
   . rw[oM,oM,xM t.2]
   rw[Bk]
  rw[aq e];obtain⟨i1,i2,i3⟩:=Jl t h2;refine⟨List.pairwise_cons.2 ⟨fun x hx=>?_,i1⟩,fun x hx=>?_,fun p=>by simp only[bH,i3,oM]⟩
  . rcases i2 x hx with h|⟨y,hy,h⟩
    . rw[h];exact e
    rw[h];exact h1 y hy
  rcases List.mem_cons.1 hx with rfl|hx
  . exact .inr ⟨x,by simp,rfl⟩
  exact(i2 x hx).imp id fun⟨y,hy,h⟩=>⟨y,by simp[hy],h⟩
def Dq{n:Nat}{f:List Tm}(hn:∀t∈f,t.1.length=n):KeysNd (bO f)/\(∀t∈bO f,t.1.length=n)/\∀p,bH (bO f) p=bH f p:=by
 have key:∀(f out:List Tm),(∀t∈f,t.1.length=n)->KeysNd out->(∀t∈out,t.1.length=n)->KeysNd (f.foldl (fun out t=>cQ t out) out)/\(∀t∈f.foldl (fun out t=>cQ t out) out,t.1.length=n)/\∀p,bH (f.foldl (fun out t=>cQ t out) out) p=bH out p+bH f p:=by
  intro f;induction f with
  |nil=>intro out _ hs hl;exact⟨hs,hl,fun p=>by simp[bH,Bk]⟩
  |cons t f ih=>
   intro out hn hs hl;obtain⟨i1,i2,i3⟩:=Jl t hs;obtain⟨j1,j2,j3⟩:=ih (cQ t out) (fun t ht=>hn t (by simp[ht])) i1 fun x hx=>by
    rcases i2 x hx with h|⟨y,hy,h⟩
    . rw[h];exact hn t (by simp)
    rw[h];exact hl y hy
   exact⟨j1,j2,fun p=>by simp only[iV,j3,i3,bH,oM]⟩
 obtain⟨a,b,c⟩:=key f [] hn List.Pairwise.nil (fun _ h=>by cases h);exact⟨a,b,fun p=>by rw[show bO f=f.foldl (fun out t=>cQ t out) [] from rfl,c];simp[bH,Bj]⟩
def Py{n:Nat}{f g:List Tm}(hn:∀t∈f,t.1.length=n)(hp:g.Perm ((bO f).filter fun t=>decide (t.2≠0)))(hs:g.Pairwise fun a b=>¬befI b.1 a.1<0):g=fw f:=by
 obtain⟨h1,h2,h3⟩:=Dq hn;have hm:∀t∈g,t∈bO f/\t.2≠0:=fun t ht=>by simpa using List.mem_filter.1 (hp.mem_iff.1 ht)
 have hnd:KeysNd g:=(hp.pairwise_iff (fun h=>lE h)).2 (h1.filter _);refine Ld hn (fun t ht=>h2 t (hm t ht).1) ?_ (fun t ht=>(hm t ht).2) fun p=>by rw[It hp,GV,h3]
 refine(hs.and hnd).imp_of_mem fun{a b} ha hb ⟨h,hne⟩=>?_;have hl:a.1.length=b.1.length:=by rw[h2 a (hm a ha).1,h2 b (hm b hb).1]
 rcases befI_vals a.1 b.1 with e|e|e
 . exact e
 . exact absurd (befI_zero hl e) hne
 rw[befI_swap,e] at h;exact absurd (by decide) h
end Go.Proofs.Pt
namespace Go.Proofs.Pt
open Go.Proofs.Reg (Hb Hb.mono Hb.add)
def t6(t:Tm):List Tm->List Tm
 | []=>[t]
 |o::os=>if befI t.1 o.1 = -1 then t::o::os else o::t6 t os
def B7(t:Tm):∀os:List Tm,(t6 t os).Perm (t::os)
 | []=>.refl _
 |o::os=>by
  unfold t6;split
  . exact .refl _
  exact((B7 t os).cons o).trans (.swap _ _ _)
def Jc{n:Nat}{t:Tm}(ht:t.1.length=n):∀{os:List Tm},(∀o∈os,o.1.length=n)->(∀o∈os,o.1≠t.1)->Srt os->Srt (t6 t os)
 | [],_,_,_=>Ov _ _
 |o::os,hl,hk,hs=>by
  obtain⟨h1,h2⟩:=List.pairwise_cons.1 hs;have hol:=hl o (by simp);unfold t6;by_cases h:befI t.1 o.1 = -1
  . rw[au h];refine List.pairwise_cons.2 ⟨fun x hx=>?_,hs⟩;rcases List.mem_cons.1 hx with rfl|hx
    . exact h
    exact befI_trans (ht.trans hol.symm) (hol.trans (hl x (by simp[hx])).symm) h (h1 x hx)
  rw[aq h];have hot:befI o.1 t.1 = -1:=by
   have e:=befI_swap o.1 t.1;rcases befI_vals o.1 t.1 with k|k|k
   . exact k
   . exact absurd (befI_zero (hol.trans ht.symm) k) (hk o (by simp))
   rw[k] at e;exact absurd e h
  refine List.pairwise_cons.2 ⟨fun x hx=>?_,Jc ht (fun x hx=>hl x (by simp[hx])) (fun x hx=>hk x (by simp[hx])) h2⟩;rcases List.mem_cons.1 ((B7 t os).mem_iff.1 hx) with rfl|hx
  . exact hot
  exact h1 x hx
def LA{n:Nat}:∀{os:List Tm},(∀o∈os,o.1.length=n)->KeysNd os->∃g,g.Perm os/\Srt g
 | [],_,_=>⟨[],.refl _,.nil⟩
 |o::os,hl,hk=>by
  obtain⟨h1,h2⟩:=List.pairwise_cons.1 hk;obtain⟨g,hp,hs⟩:=LA (fun x hx=>hl x (by simp[hx])) h2;refine⟨t6 o g,(B7 o g).trans (hp.cons o),Jc (hl o (by simp)) (fun x hx=>hl x (by simp[hp.mem_iff.1 hx])) (fun x hx=>(h1 x (hp.mem_iff.1 hx)).symm) hs⟩
def Ro{n:Nat}{f:List Tm}(hn:∀t∈f,t.1.length=n):(fw f).Perm ((bO f).filter fun t=>decide (t.2≠0))/\Srt (fw f):=by
 obtain⟨h1,h2,h3⟩:=Dq hn;obtain⟨g,hp,hs⟩:=LA (n:=n) (os:=(bO f).filter fun t=>decide (t.2≠0)) (fun o ho=>h2 o ((List.mem_filter.1 ho).1)) (h1.filter _);have e:=Py hn hp (hs.imp fun{a b} h=>by rw[befI_swap,h];decide);rw[<-e];exact⟨hp,hs⟩
def Jm{i j:Nat}{t:Tm}(ht:Hb j t.2):∀{os:List Tm},(∀o∈os,Hb i o.2)->∀o∈cQ t os,Hb (i+(j+1)) o.2
 | [],_,o,ho=>by
  simp only[cQ,fg] at ho;rw[ho];exact ht.mono (by omega)
 |x::os,h,o,ho=>by
  unfold cQ at ho;split at ho
  . rcases List.mem_cons.1 ho with rfl|ho
    . exact(h x qH).add ht
    exact(h o (dC _ ho)).mono (by omega)
  rcases List.mem_cons.1 ho with rfl|ho
  . exact(h _ qH).mono (by omega)
  exact Jm ht (fun y hy=>h y (dC _ hy)) o ho
def KH{i j:Nat}{t:Tm}(ht:Hb j t.2):∀{d:Bool} {os:List Tm},(∀o∈os,Hb i o.2)->∀o∈insF t d os,Hb (i+(j+1)) o.2
 |d,[],_,o,ho=>by
  cases d with
  |true=>cases ho
  |false=>simp only[insF,dB,bM,fg] at ho;rw[ho];exact ht.mono (by omega)
 |d,x::os,h,o,ho=>by
  rw[insF] at ho;rcases List.mem_append.1 ho with ho|ho
  . split at ho
    . rw[List.mem_singleton.1 ho];exact ht.mono (by omega)
    cases ho
  rcases List.mem_cons.1 ho with ho|ho
  . rw[ho];split
    . exact(h x qH).add ht
    exact(h x qH).mono (by omega)
  exact KH ht (fun y hy=>h y (dC _ hy)) o ho
def Du{j:Nat}{F:Tm->List Tm->List Tm}(hF:∀{i:Nat} {t:Tm},Hb j t.2->∀{os:List Tm},(∀o∈os,Hb i o.2)->∀o∈F t os,Hb (i+(j+1)) o.2):∀{f:List Tm} {i:Nat} {out:List Tm},(∀t∈f,Hb j t.2)->(∀o∈out,Hb i o.2)->∀o∈f.foldl (fun out t=>F t out) out,Hb (i+f.length*(j+1)) o.2
 | [],i,out,_,h,o,ho=>(h o ho).mono (by simp)
 |t::f,i,out,h1,h2,o,ho=>by
  rw[iV] at ho;have:=Du hF (fun x hx=>h1 x (dC _ hx)) (hF (h1 t qH) h2) o ho;refine this.mono ?_;rw[aY,bQ];omega
def UD{j:Nat}{f:List Tm}(h:∀t∈f,Hb j t.2):∀o∈bO f,Hb (f.length*(j+1)) o.2:=fun o ho=>by
 have:=Du (F:=cQ) (fun ht _ h=>Jm ht h) (i:=0) (out:=[]) h (fun _ h=>by cases h) o ho;exact this.mono (by omega)
def KI{j:Nat}{f:List Tm}(h:∀t∈f,Hb j t.2):∀o∈fV f,Hb (f.length*(j+1)) o.2:=fun o ho=>by
 have:=Du (F:=fun t os=>insF t false os) (fun ht _ h=>KH ht h) (i:=0) (out:=[]) h (fun _ h=>by cases h) o ho;exact this.mono (by omega)
def Vm{j:Nat}{f:List Tm}(h:∀t∈f,Hb j t.2):∀o∈fw f,Hb (f.length*(j+1)) o.2:=fun o ho=>
 KI h o (List.mem_filter.1 ho).1
end Go.Proofs.Pt
namespace Go.Proofs.Fl
open Go.RowKit Go.Proofs.Dig
attribute [local irreducible] IntKind.wrap aW bc bj bm
open Go.Proofs.Pt (befI)
def Ma(a b:Rat):cw a b=if a<b then -1 else if b<a then 1 else 0:=by
 have h1:=DE (a:=a) (b:=b);have h2:=En.Vl (a:=a) (b:=b);have h3:cw a b = -1\/cw a b=0\/cw a b=1:=by
  unfold cw a7;repeat' split
  all_goals omega
 split
 . rename_i h;have h4:cw a b<=0:=h1.2 (by grind);have h5:cw a b≠0:=fun e=>by have:=h2.1 e;grind
   omega
 split
 . rename_i h;have h4:¬cw a b<=0:=fun e=>by have:=h1.1 e;grind
   omega
 exact h2.2 (by grind)
def TL(J:Keep){a b:List Rat}(hl:a.length=b.length)(h60:a.length<2^60)(ha:∀x∈a,aU x<2^38)(hb:∀x∈b,aU x<2^38):C J 144 [.sl (a.map qr),.sl (b.map qr),.fn 116] (.int .i64 (befI a b)):=by
 have la:(a.map qr).length=a.length:=by simp
 have lb:(b.map qr).length=a.length:=by simp[hl]
 obtain⟨r,hr⟩:∃r,befI a b=r:=⟨_,rfl⟩;rw[hr];refine aN Tryz.func144 rfl rfl rfl ?_;refine aK ?_;refine W.loop (G:={ t:Nat // t<=a.length/\befI (a.drop t) (b.drop t)=r }) (fun t=>aF [(0,.iv (.sl (a.map qr))),(1,.iv (.sl (b.map qr))),(2,.iv (.fn 116)),(11,.iv (.sl (a.map qr))),(12,.iv (.int .i64 (a.length:Int))),(13,.iv (.int .i64 (t.1:Int)))] [] 20) (fun t=>a.length-t.1) ⟨0,ba _,hr⟩
  (Wk.tab [] ⟨ab,ab,ab,ab,⟨df (by rw[la]),rfl⟩,ab,aa⟩ trivial rfl) ?_
 rintro⟨t,ht,hz⟩;show W J _ _ (aF [(0,.iv (.sl (a.map qr))),(1,.iv (.sl (b.map qr))),(2,.iv (.fn 116)),(11,.iv (.sl (a.map qr))),(12,.iv (.int .i64 (a.length:Int))),(13,.iv (.int .i64 (t:Int)))] [] 20) _;by_cases h:t<a.length
 .
  obtain⟨x,hx⟩:∃x,a[t]?=some x:=⟨_,bi h⟩;obtain⟨y,hy⟩:∃y,b[t]?=some y:=⟨_,bi (by omega)⟩;have gx:(a.map qr)[t]?=some (qr x):=by rw[bI,hx];rfl
  have gy:(b.map qr)[t]?=some (qr y):=by rw[bI,hy];rfl
  have c1:=L4 (J:=J) (ha x (bN hx)) (hb y (bN hy));have ex:a.drop t=x::a.drop (t+1):=by
   obtain⟨h1,h2⟩:=List.getElem?_eq_some_iff.1 hx;rw[<-h2];exact gS h1
  have ey:b.drop t=y::b.drop (t+1):=by
   obtain⟨h1,h2⟩:=List.getElem?_eq_some_iff.1 hy;rw[<-h2];exact gS h1
  have hv:=Ma x y;rw[ex,ey] at hz;unfold befI at hz;obtain⟨v,ev⟩:∃v,cw x y=v:=⟨_,rfl⟩;rw[ev] at c1 hv;by_cases h0:v=0
  .
   have hz':befI (a.drop (t+1)) (b.drop (t+1))=r:=by
    split at hz
    . rename_i hlt;rw[au hlt] at hv;omega
    split at hz
    . rename_i h1 h2;rw[aq h1,au h2] at hv;omega
    exact hz
   subst h0;repeat (first|(refine af ?_)|((first|refine⟨_,c1,?_⟩|refine⟨t,_,rfl,gx,rfl,?_⟩|refine⟨t,_,rfl,gy,rfl,?_⟩);conv=>whnf)|(refine ap ?_))
   exact⟨⟨t+1,h,hz'⟩,Wk.tab [] ⟨ab,ab,ab,ab,ab,ab,aa⟩ trivial rfl,by dsimp only;omega⟩
  have hz':v=r:=by
   split at hz
   . rename_i hlt;rw[au hlt] at hv;omega
   split at hz
   . rename_i h1 h2;rw[aq h1,au h2] at hv;omega
   rename_i h1 h2;rw[aq h1,aq h2] at hv;exact absurd hv h0
  subst hz';repeat (first|(refine af ?_)|((first|refine⟨_,c1,?_⟩|refine⟨t,_,rfl,gx,rfl,?_⟩|refine⟨t,_,rfl,gy,rfl,?_⟩);conv=>whnf)|(refine ap ?_))
  rfl
 have e:t=a.length:=by omega
 subst e;rw[xN,hl,xN] at hz;have hz:(0:Int)=r:=hz;subst hz;refine aK ?_;rfl
def TR(J:Keep){a b:List Rat}(hl:a.length=b.length)(h60:a.length<2^60)(ha:∀x∈a,aU x<2^38)(hb:∀x∈b,aU x<2^38):C J 79 [.sl (a.map qr),.sl (b.map qr)] (.int .i64 (befI a b)):=by
 have c1:=TL J hl h60 ha hb;refine aN Tryz.func79 rfl rfl rfl ?_;repeat (first|(refine af ?_)|(refine⟨_,c1,?_⟩;conv=>whnf))
 rfl
noncomputable def lj(p:List Rat×Rat):IV:=.agg (.sl (p.1.map qr)::(qr p.2).cells)
def TH(J:Keep){p q:List Rat×Rat}(hl:p.1.length=q.1.length)(h60:p.1.length<2^60)(ha:∀x∈p.1,aU x<2^38)(hb:∀x∈q.1,aU x<2^38):C J 78 [lj p,lj q] (.int .i64 (befI p.1 q.1)):=by
 have c1:=TR J hl h60 ha hb;obtain⟨a,v⟩:=p;obtain⟨b,w⟩:=q;unfold lj;refine aN Tryz.func78 rfl rfl rfl ?_;repeat (first|(refine af ?_)|(refine⟨_,c1,?_⟩;conv=>whnf))
 rfl
def TJ{J:Keep}(B:Base J){p q:List Rat×Rat}(hx:aU p.2<2^36)(hy:aU q.2<2^36):C J 72 [lj p,lj q] (lj (p.1,p.2+q.2)):=by
 have c1:=wk B (a:=p.2) (b:=q.2) (by omega) (by omega);obtain⟨a,v⟩:=p;obtain⟨b,w⟩:=q;unfold lj;refine aN Tryz.func72 rfl rfl rfl ?_;repeat (first|(refine af ?_)|((first|refine⟨_,c1,?_⟩|refine xr ?_);conv=>whnf))
 rfl
end Go.Proofs.Fl
namespace Go.Proofs.Fl
open Go.RowKit Go.Proofs.Dig
attribute [local irreducible] IntKind.wrap aW bc bj bm
def Kh(J:Keep){p:List Rat×Rat}:C J 76 [lj p] (.bool (decide (p.2=0))):=by
 obtain⟨a,x⟩:=p;have c1:=tG J x;unfold lj;refine aN Tryz.func76 rfl rfl rfl ?_;repeat (first|(refine af ?_)|(refine⟨_,c1,?_⟩;conv=>whnf)|(refine ap ?_))
 have e:(a7 x.num 0==0)=decide (x=0):=by
  by_cases h:x=0
  . subst h;rfl
  have:a7 x.num 0≠0:=fun e=>h (Rat.num_eq_zero.1 (vv e));simp[h,this]
 show IV.bool _=.bool (decide (x=0));rw[<-e]
def b9(a:List Rat):List UInt8:=a.flatMap fun x=>eX x ++ [32]
def QJ{a:List Rat}{t:Nat}{x:Rat}(h:a[t]?=some x):b9 (a.take (t+1))=b9 (a.take t)++(eX x ++ [32]):=by
 unfold b9;rw[dO,h,eV];simp
def TI{J:Keep}(L:LibI J){p:List Rat×Rat}(h60:p.1.length<2^60)(ha:∀x∈p.1,aU x<2^36)(hs:(b9 p.1).length<2^40):C J 75 [lj p] (.str (b9 p.1)):=by
 obtain⟨a,w⟩:=p;have h60:a.length<2^60:=h60;have la:(a.map qr).length=a.length:=by simp
 unfold lj;refine aN Tryz.func75 rfl rfl rfl ?_;refine aK ?_;refine W.loop (G:={ t:Nat // t<=a.length }) (fun t=>aF [(3,.iv (.str (b9 (a.take t.1)))),(7,.iv (.sl (a.map qr))),(8,.iv (.int .i64 (a.length:Int))),(9,.iv (.int .i64 (t.1:Int)))] [] 20) (fun t=>a.length-t.1) ⟨0,ba _⟩
  (Wk.tab [] ⟨ab,ab,⟨df (by rw[la]),rfl⟩,ab,aa⟩ trivial rfl) ?_
 rintro⟨t,ht⟩;show W J _ _ (aF [(3,.iv (.str (b9 (a.take t)))),(7,.iv (.sl (a.map qr))),(8,.iv (.int .i64 (a.length:Int))),(9,.iv (.int .i64 (t:Int)))] [] 20) _;by_cases h:t<a.length
 .
  obtain⟨x,hx⟩:∃x,a[t]?=some x:=⟨_,bi h⟩;have gx:(a.map qr)[t]?=some (qr x):=by rw[bI,hx];rfl
  have c1:=Eo L (q:=x) (by have:=ha x (bN hx);omega);have hsn:=QJ hx;have hle:(b9 (a.take (t+1))).length<=(b9 a).length:=by
   have:b9 a=b9 (a.take (t+1))++b9 (a.drop (t+1)):=by
    unfold b9;rw[<-eV,kC]
   rw[this,bg];omega
  have hs:(b9 a).length<2^40:=hs;rw[hsn] at hle;simp only[bg,aY,oF] at hle;have b1:(eX x).length+1<=(140737488355328:Nat):=by omega
  have s1:(eX x).length+1<=9223372036854775807:=by omega
  have s2:(b9 (a.take t)).length+(eX x ++ [32]).length<=9223372036854775807:=by simp;omega
  repeat (first|(refine af ?_)|((first|refine⟨_,c1,?_⟩|refine⟨t,_,rfl,gx,rfl,?_⟩|refine⟨s1,?_⟩|refine⟨s2,?_⟩);conv=>whnf)|(refine ap ?_))
  refine⟨⟨t+1,h⟩,?_,by dsimp only;omega⟩;show Wk _ (aF [(3,.iv (.str (b9 (a.take (t+1))))),(7,.iv (.sl (a.map qr))),(8,.iv (.int .i64 (a.length:Int))),(9,.iv (.int .i64 ((t+1:Nat):Int)))] [] 20);rw[hsn];exact Wk.tab [] ⟨ab,ab,ab,ab,aa⟩ trivial rfl
 have e:t=a.length:=by omega
 subst e;rw[cN];refine aK ?_;rfl
end Go.Proofs.Fl
namespace Go.Proofs.En
open Go.RowKit Go.Proofs.Fl Go.Proofs.Dig
attribute [local irreducible] IntKind.wrap aW bc bj bm SW c7 CallOk To Tr ct
open Go.Proofs.Reg
def VG(J:Keep){p:List Rat}(hp:1<=p.length)(hl:p.length<2^16):Go.Proofs.Fl.C J 55 [.sl (p.map qr)] (.sl (p.map qr)):=by
 cases p with
 |nil=>simp at hp
 |cons a l=>
  refine lk Tryz.func55 rfl rfl rfl rfl 1 ?_;refine be ?_;refine bK (g:=1) (b:=1) (EP (te:=mi) (ty:=pM) (e:=55) (sz:=3) rfl rfl rfl (vP (l:=a::l)) hp (by omega) (by show _*56<=_;omega) rfl rfl rfl rfl rfl) (by show 1<1+1;decide) ?_;conv=>whnf
  repeat ((refine SW.ret ?_;conv=>whnf))
  exact zg rfl rfl (bn _ _) (by rw[gW];exact ah _) (ay (by rw[gW];exact ah _))
end Go.Proofs.En
namespace Go.Proofs.Pt
open Go.Proofs.Reg (Cl cU cR mX sumI)
def jq(n s:Nat):List (List Int):=if n<=s then(cR n (s-n)).map fun p=>p.map (· + 1) else []
def C6:∀p:List Int,sumI (p.map (· + 1))=sumI p+p.length
 | []=>rfl
 |x::p=>by
  simp only[aZ,sumI,C6 p,aY];omega
def mU{n s:Nat}{l:List Int}:l∈jq n s↔l.length=n/\(∀x∈l,1<=x)/\sumI l=s:=by
 unfold jq;have hlen:∀l:List Int,(∀x∈l,1<=x)->(l.length:Int)<=sumI l:=by
  intro l;induction l with
  |nil=>intro _;exact uM _
  |cons a l ih=>
   intro h;have h1:=h a (by simp);have h2:=ih fun x hx=>h x (dC _ hx);show((l.length+1:Nat):Int)<=a+sumI l;omega
 split
 .
  rename_i hns;rw[xj];constructor
  . rintro⟨p,hp,rfl⟩;obtain⟨h1,h2,h3⟩:=mX.1 hp;refine⟨by rw[aV];exact h1,fun x hx=>?_,by rw[C6,h3,h1];omega⟩;obtain⟨y,hy,rfl⟩:=List.mem_map.1 hx;have:=h2 y hy;omega
  rintro⟨h1,h2,h3⟩;have e:(l.map (· - 1)).map (· + 1)=l:=by
   rw[cC];conv=>rhs;rw[<-F8 l]
   refine jI fun x _=>?_;show x-1+1=x;omega
  refine⟨l.map (· - 1),mX.2 ⟨by rw[aV];exact h1,fun x hx=>?_,?_⟩,e⟩
  . obtain⟨y,hy,rfl⟩:=List.mem_map.1 hx;have:=h2 y hy;omega
  have:=C6 (l.map (· - 1));rw[e,h3,aV,h1] at this;omega
 rename_i hns;constructor
 . intro h;cases h
 rintro⟨h1,h2,h3⟩;have:=hlen l h2;omega
def gG(m q:Nat)(ls:List (List Int)):List (List Int):=ls.flatMap fun l=>((List.range m).filter fun(p:Nat)=>decide ((p:Int)+1+sumI l<=q)).map fun(p:Nat)=>l ++ [(p:Int)+1]
def dQ(m q:Nat):Nat->List (List Int)
 |0=>[[]]
 |n+1=>gG m q (dQ m q n)
def Cv:∀a b:List Int,sumI (a++b)=sumI a+sumI b
 | [],b=>by show sumI b=0+sumI b;omega
 |x::a,b=>by
  have:=Cv a b;show x+sumI (a++b)=x+sumI a+sumI b;omega
def oU{m q:Nat}:∀{n:Nat} {l:List Int},l∈dQ m q n↔l.length=n/\(∀x∈l,1<=x/\x<=m)/\(n=0\/sumI l<=q)
 |0,l=>by
  constructor
  . intro h;have:=List.mem_singleton.1 h;subst this;exact⟨rfl,(fun x hx=>by cases hx),.inl rfl⟩
  rintro⟨h,_⟩;rw[List.length_eq_zero_iff.1 h];exact List.mem_singleton_self _
 |n+1,l=>by
  show l∈gG m q (dQ m q n)↔_;unfold gG;rw[Oq];constructor
  .
   rintro⟨a,ha,hl⟩;obtain⟨p,hp,rfl⟩:=List.mem_map.1 hl;obtain⟨h1,h2,h3⟩:=oU.1 ha;obtain⟨p1,p2⟩:=List.mem_filter.1 hp;have p1:=List.mem_range.1 p1;have p2:=mP p2;refine⟨by simp[h1],fun x hx=>?_,.inr ?_⟩
   . rcases List.mem_append.1 hx with hx|hx
     . exact h2 x hx
     rw[List.mem_singleton.1 hx];omega
   rw[Cv];show sumI a+((p:Int)+1+0)<=q;omega
  rintro⟨h1,h2,h3⟩;have h3:sumI l<=q:=by
   rcases h3 with h|h
   . cases h
   exact h
  have hne:l≠[]:=fun e=>by rw[e] at h1;cases h1
  obtain⟨a,y,rfl⟩:∃a y,l=a ++ [y]:=⟨l.dropLast,l.getLast hne,(YV hne).symm⟩;have hy:=h2 y (by simp);rw[Cv] at h3;have h3:sumI a+(y+0)<=q:=h3;refine⟨a,oU.2 ⟨by simpa using h1,fun x hx=>h2 x (by simp[hx]),.inr (by omega)⟩,List.mem_map.2 ⟨(y-1).toNat,List.mem_filter.2 ⟨List.mem_range.2 (by omega),bB (by omega)⟩,?_⟩⟩;rw[show(((y-1).toNat:Nat):Int)+1=y by omega]
def I8{m q:Nat}:∀n,(dQ m q n).Nodup
 |0=>List.nodup_cons.2 ⟨by simp,List.nodup_nil⟩
 |n+1=>by
  show(gG m q (dQ m q n)).Nodup;unfold gG;refine List.pairwise_flatMap.2 ⟨fun a _=>?_,?_⟩
  . refine List.pairwise_map.2 (((List.nodup_range (n:=m)).filter _).imp fun{p p'} hne h=>hne ?_);have:=List.append_cancel_left h;simp only[oK,and_true] at this;omega
  refine(I8 n).imp fun{a b} hab x hx y hy e=>?_;obtain⟨p,_,rfl⟩:=List.mem_map.1 hx;obtain⟨p',_,rfl⟩:=List.mem_map.1 hy;exact hab (List.append_inj_left' e rfl)
def SG(n s:Nat):(cR n s).Nodup:=by
 have:=Reg.Sc n s;unfold Reg.Ai at this;rw[sG,eV] at this;have:=(List.pairwise_append.1 this).2.1;rw[cO,Ge,eS] at this;exact this
def Qs(n s:Nat):(jq n s).Nodup:=by
 unfold jq;split
 .
  refine List.pairwise_map.2 ((SG n (s-n)).imp fun{a b} h e=>h ?_);have:=aL (List.map (· - 1)) e;rw[cC,cC] at this;have hid:∀l:List Int,l.map ((· - 1)∘(· + 1))=l:=fun l=>by
   conv=>rhs;rw[<-F8 l]
   refine jI fun x _=>?_;show x+1-1=x;omega
  rw[hid,hid] at this;exact this
 exact List.nodup_nil
def n7(n q lo:Nat):List (List Int):=(List.range (q+1-lo)).flatMap fun i=>jq n (lo+i)
def QK{n q lo:Nat}{l:List Int}:l∈n7 n q lo↔l.length=n/\(∀x∈l,1<=x)/\(lo:Int)<=sumI l/\sumI l<=q:=by
 unfold n7;rw[Oq];constructor
 . rintro⟨i,hi,hl⟩;have hi:=List.mem_range.1 hi;obtain⟨h1,h2,h3⟩:=mU.1 hl;exact⟨h1,h2,by omega,by omega⟩
 rintro⟨h1,h2,h3,h4⟩;obtain⟨s,hs⟩:=Gb (show 0<=sumI l by omega);exact⟨s-lo,List.mem_range.2 (by omega),mU.2 ⟨h1,h2,by rw[hs];omega⟩⟩
def RT(n q lo:Nat):(n7 n q lo).Nodup:=by
 unfold n7;refine List.pairwise_flatMap.2 ⟨fun i _=>Qs n (lo+i),?_⟩;refine(List.nodup_range (n:=q+1-lo)).imp fun{i j} hij x hx y hy e=>?_;subst e;have h1:=(mU.1 hx).2.2;have h2:=(mU.1 hy).2.2;omega
def wL(m q n lo:Nat):List (List Int):=(dQ m q n).filter fun l=>decide ((lo:Int)<=sumI l)
def IE{l:List Int}(h:∀x∈l,1<=x):∀x∈l,x+(l.length:Int)-1<=sumI l:=by
 have hlen:∀l:List Int,(∀x∈l,1<=x)->(l.length:Int)<=sumI l:=by
  intro l;induction l with
  |nil=>intro _;exact uM _
  |cons a l ih=>
   intro h;have h1:=h a (by simp);have h2:=ih fun x hx=>h x (dC _ hx);show((l.length+1:Nat):Int)<=a+sumI l;omega
 induction l with
 |nil=>intro x hx;cases hx
 |cons a l ih=>
  intro x hx;have h0:=hlen l fun y hy=>h y (dC _ hy);have ha:=h a (by simp);show x+((l.length+1:Nat):Int)-1<=a+sumI l;rcases List.mem_cons.1 hx with rfl|hx
  . omega
  have:=ih (fun y hy=>h y (dC _ hy)) x hx;omega
def Hm{m q n lo:Nat}(hn:1<=n)(hq:q+1<=n+m):(n7 n q lo).Perm (wL m q n lo):=by
 refine(List.perm_ext_iff_of_nodup (RT n q lo) ((I8 n).filter _)).2 fun l=>?_;rw[QK,List.mem_filter,oU,ff];constructor
 . rintro⟨h1,h2,h3,h4⟩;refine⟨⟨h1,fun x hx=>⟨h2 x hx,?_⟩,.inr h4⟩,h3⟩;have:=IE h2 x hx;omega
 rintro⟨⟨h1,h2,h3⟩,h4⟩;refine⟨h1,fun x hx=>(h2 x hx).1,h4,?_⟩;rcases h3 with h|h
 . omega
 exact h
def fJ(R:List Cl)(i:Int):Cl:=R.getD (i.toNat-1) []
def fK(R:List Cl):List Int->Cl
 | []=>[]
 |i::l=>l.foldl (fun c j=>cU c (fJ R j)) (fJ R i)
def ft(k:Rat)(c:Cl):Cl:=c.map fun x=>(x.1,x.2*k)
def nA(R:List Cl)(f:Int->Rat)(ls:List (List Int)):Cl:=ls.flatMap fun l=>ft (f (sumI l)) (fK R l)
def Ix{R:List Cl}{f:Int->Rat}{a b:List (List Int)}(h:a.Perm b):(nA R f a).Perm (nA R f b):=h.flatMap_right _
def Pm{R:List Cl}{f:Int->Rat}{m q n lo d:Nat}(hn:1<=n)(hq:q+1<=n+m)(hd:∀t∈nA R f (n7 n q lo),t.1.length=d) :
 fw (nA R f (n7 n q lo))=fw (nA R f (wL m q n lo)):=by
 have hp:=Ix (R:=R) (f:=f) (Hm (m:=m) (lo:=lo) hn hq);have hd':∀t∈nA R f (wL m q n lo),t.1.length=d:=fun t ht=>hd t (hp.mem_iff.2 ht);obtain⟨h1,h2,h3,h4⟩:=Lc hd;exact Ld hd' h2 h1 h3 fun p=>by rw[h4,It hp]
end Go.Proofs.Pt
namespace Go.Proofs.En
open Go.RowKit Go.Lib Go.Proofs.Fl
set_option maxRecDepth 100000 in
def WI{i0:TypeInfo}{z0:Value}{bytes:Nat}(hi:Tryz.prog.info? 55=some i0)(hz0:i0.zero=some z0)(hz1:i0.size=3)(hz2:i0.bytes=bytes)(hzs:z0.cells.size=3)(a:Option Addr)(c:Nat)(w:World):Calls Tryz.prog 55 #[.slice a 0 c] w fun e w'=>∃a' c',e=.returned (.slice a' 0 c')/\Below w.heap.size w w':=by
 have q22:∀(w:World) (a:Option Addr) (n c n' c':Nat),(binOp .eql 27 (.slice a n c) (.slice none n' c')).run Tryz.prog w=.ok (.bool a.isNone) w:=fun w a n c n' c'=>Lib.run_eql_slice_nil w _ _ a n c n' c' Tryz.underlying27;have u22:∀w,Sem.run Tryz.prog (underlying 27) w=.ok (TypeDesc.slice 55) w:=dq Tryz.underlying27;cases a with
 |none=>
  go_enter Tryz.func55,Tryz.ntmps55
  go_wp2
  go_ret
  exact⟨none,0,rfl,kA _ _⟩
 |some a=>
  go_enter Tryz.func55,Tryz.ntmps55
  go_wp2_with (at_builtin;refine wpList_append_own _ rfl _ _ 27 rfl w.heap.size 55 i0 z0 3 bytes Tryz.underlying27 hi hz0 hz1 hz2 hzs (by decide) _ _ _ rfl (World.ownsRow_made w #[] 0 (ah _) (ba _) rfl) a 0 c [] rfl rfl (by intro j u hj;simp at hj) (by intro u hu;cases hu) (by unfold maxLen;omega) (by omega) (by simp) ?_)
  intro v' w1 hown hgrow hnil
  go_wp2
  go_ret
  have hb:=((kA _ w).alloc (ah _) _).grown hgrow (by simp) (by intro k hk;simp[Value.ownBlock] at hk;omega);rcases hown.2 with⟨rfl,_⟩|⟨g,cap,cur,rfl,_⟩
  . exact⟨_,_,rfl,hb⟩
  exact⟨_,_,rfl,hb⟩
def TB(J:Keep):C J 55 [.sl []] (.sl []):=by
 obtain⟨i,d,z,ok⟩:=aT ((XS J).hT 55 mi (show TT 55=some mi from rfl));have hz:=(ok.vr fun _=>none).size;have hs:i.size=3:=ok.size;refine vG ⟨_,Tryz.func55,rfl,rfl⟩ fun H w args hI hargs=>?_;obtain⟨u,rfl,hu⟩:=hargs.one;have key:∃a c,u=.slice a 0 c:=by
  cases hu with
  |sl0 a c=>exact⟨a,c,rfl⟩
  |sl b off n c sz arr vs es h1 h2 h3 h4 h5 h6=>exact⟨_,_,by rw[h3];rfl⟩
 obtain⟨a,c,rfl⟩:=key;refine(WI ok.info ok.zero hs rfl (by rw[hz];rfl) a c w).mono ?_;rintro e w' ⟨a',c',rfl,hb⟩;exact⟨_,rfl,fun H=>.sl0 a' c',hb⟩
end Go.Proofs.En
namespace Go.Proofs.En
open Go.RowKit Go.Proofs.Fl Go.Proofs.Dig
attribute [local irreducible] IntKind.wrap aW bc bj bm SW c7 CallOk To Tr ct
open Go.Proofs.Reg
open Go.Proofs.Pt
def TA(J:Keep){p:List Rat}{n:Nat}(hn:p.length=n)(hp:1<=n)(hl:n<2^16):LocC (XS J) 55 [ae (.sl (p.map qr))] [] (.w (.one (.slc 0 0 0 n (.fin 3)))) [.mem 55 (qC p) false [(0,n*3)] 1]:=by
 cases p with
 |nil=>simp at hn;omega
 |cons a l=>
  refine lT Tryz.func55 rfl rfl rfl ⟨.c rfl,aa⟩ trivial (.inr rfl) ⟨.d (kG _),aa⟩ ?_;refine be ?_;refine bK (g:=1) (b:=1) (EP (te:=mi) (ty:=pM) (e:=55) (sz:=3) rfl rfl rfl (vP (l:=a::l)) (by omega) (by omega) (by rw[hn];show _*56<=_;omega) rfl rfl rfl rfl rfl) (by show 1<1+1;decide) ?_;conv=>whnf
  repeat ((refine SW.ret ?_;conv=>whnf))
  refine Tr.tab [(0,1)] [] ⟨.rn ?_ rfl,aa⟩ ⟨.sm rfl ?_ (kG _),aa⟩ rfl
  . rw[<-hn];rfl
  show some (EO.mem 55 (qC (a::l)) false [(0,(qC (a::l)).length)] 1)=_;rw[gW,hn]
def mr(k:Rat)(ws:List Rat)(t:Nat):List Rat:=(ws.take t).map (· * k)++ws.drop t
def Th(k:Rat)(ws:List Rat)(t:Nat):(mr k ws t).length=ws.length:=by
 unfold mr;simp;omega
def Ti{k:Rat}{ws:List Rat}{t:Nat}{x:Rat}(h:ws[t]?=some x):(mr k ws t)[t]?=some x:=by
 have hl:=(List.getElem?_eq_some_iff.1 h).1;unfold mr;rw[N6 (by simp;omega),aV,bG,sk,ce (by omega),mM,fF,h]
def Tg{k:Rat}{ws:List Rat}{t:Nat}{x:Rat}(h:ws[t]?=some x):(mr k ws t).set t (x*k)=mr k ws (t+1):=by
 obtain⟨hl,hx⟩:=List.getElem?_eq_some_iff.1 h;unfold mr;rw[List.set_append_right _ _ (by simp;omega),aV,bG,ce (by omega),mM,gS hl,hx,Gc,dO,h,dD];simp
def EF(x:Rat):((qr x).cells.map EV.iv).length=3:=rfl
def Df(l:List Rat):qC l=l.flatMap fun x=>(qr x).cells.map .iv:=by
 unfold qC;rw[Bi,List.map_flatMap]
def Xz{e m P cnt:Nat}{os:List Rat}{x:Rat}{fz:Bool}(h:os[m]?=some x)(hP:P=os.length*3):ji (some (.mem e (qC os) fz [(0,P)] cnt)) 0 (m*3) 3=some ((qr x).cells.map .iv):=by
 have hm:=(List.getElem?_eq_some_iff.1 h).1;unfold ji;simp only[bn,fh (show m*3+3<=P by omega),al];rw[Df,flat_get (fun a _=>EF a) h]
def Xs{e m P cnt:Nat}{os:List Rat}{x:Rat}{new:List EV}(hm:m<os.length)(hP:P=os.length*3)(hn:new=(qr x).cells.map .iv):iQ (some (.mem e (qC os) false [(0,P)] cnt)) 0 (m*3) new=some (.mem e (qC (os.set m x)) false [(0,P)] cnt):=by
 subst hn;unfold iQ;simp only[bn,EF,fh (show m*3+3<=P by omega),al,dE];rw[Df,Df,En.flat_set EF hm];rfl
def Vi{h:Hp}{n:Int}{pts:List IV}{l:List Rat}{L P:Nat}(hL:l.length=L)(hP:L*3<=P)(h3:h 3=some (.mem 55 (qC l) false [(0,P)] 1)):iN TT ZZ (fun _=>true) h 3 (.w (.agg [.iv (di n),.iv (.sl pts),.slc 3 0 0 L (.fin 3)]))=some (.agg [di n,.sl pts,.sl (l.map qr)]):=by
 subst hL;have d2:=zg (f:=2) (cap:=.fin 3) (S:=fun _=>true) (l:=l) rfl h3 (bn _ _) hP (ay (by rw[gW];exact ah _));have d2:cb TT ZZ (fun _=>true) h 3 (.slc 3 0 0 l.length (.fin 3))=some (.sl (l.map qr)):=d2;show(match cT (cb TT ZZ (fun _=>true) h 3) [.iv (di n),.iv (.sl pts),.slc 3 0 0 l.length (.fin 3)] with
  |some xs=>some (IV.agg xs)
  |none=>none)=_
 simp only[cT,d2,show cb TT ZZ (fun _=>true) h 3 (.iv (di n))=some (di n) from rfl,show cb TT ZZ (fun _=>true) h 3 (.iv (.sl pts))=some (.sl pts) from rfl]
noncomputable def un(n:Int)(pts:List IV)(k:Rat)(ws:List Rat)(L t:Nat):SS:=aR [(2,.w (.one (.ptr 0 0 0))),(3,.w (.one (.ptr 1 0 0))),(4,.w (.one (.ptr 2 0 0))),(12,ae (di (L:Int))),(13,ae (di (t:Int)))]
 [(0,.mem 29 [.iv (di n),.iv (.sl pts),.slc 3 0 0 L (.fin 3)] false [(0,3)] 1),(1,.mem 55 ((qr k).cells.map .iv) false [(0,3)] 1),(2,ks),(3,.mem 55 (qC (mr k ws t)) false [(0,L*3)] 1)] 4
def TD{J:Keep}(B:Base J){n:Int}{pts:List IV}{ws:List Rat}{k:Rat}(hk:aU k<2^36)(hw:∀x∈ws,aU x<2^36)(hl:ws.length<2^16):Go.Proofs.Fl.C J 34 [.agg [di n,.sl pts,.sl (ws.map qr)],qr k] (.agg [di n,.sl pts,.sl ((ws.map (· * k)).map qr)]):=by
 refine lk Tryz.func34 rfl rfl rfl rfl 3 ?_;by_cases h0:ws=[]
 .
  subst h0;have c0:=TB J;rw[eP];repeat (first|(refine aG ?_)|(refine aD c0 ?_;conv=>whnf)|(refine aJ ?_))
  refine cq (G:=Unit) (fun _=>aR [(2,.w (.one (.ptr 0 0 0))),(3,.w (.one (.ptr 1 0 0))),(4,.w (.one (.ptr 2 0 0))),(12,ae (di 0)),(13,ae (di 0))]
   [(0,.mem 29 [.iv (di n),.iv (.sl pts),.iv (.sl [])] false [(0,3)] 1),(1,.mem 55 ((qr k).cells.map .iv) false [(0,3)] 1),(2,ks)] 3) (fun _=>0) () (Tr.tab [] [] ⟨.rn,.rn,.rn,.sm,.sm,aa⟩ ⟨.sm,.sm,.sm,aa⟩ rfl) ?_
  rintro⟨⟩;refine be ?_;rfl
 obtain⟨L,hL⟩:∃n,ws.length=n:=⟨_,rfl⟩;have hL1:1<=L:=by cases ws with
  |nil=>exact absurd rfl h0
  |cons=>simp at hL;omega
 have c0:=TA J hL hL1 (by omega);refine be ?_;refine HH c0 [3] 1 rfl ⟨.d rfl,aa⟩ trivial ⟨rfl,aa⟩ (bp (.d (kG _)) fS) (.c rfl) ?_;conv=>whnf
 refine be ?_;refine cq (G:={ t:Nat // t<=L }) (fun t=>un n pts k ws L t.1) (fun t=>L-t.1) ⟨0,ba _⟩
  (Tr.tab [] [] ⟨.rn,.rn,.rn,.sm,.sm,aa⟩ ⟨.rn,.sm,.sm,.sm rfl rfl (kG _),aa⟩ rfl) ?_
 rintro⟨t,ht⟩;show SW (XS J) _ _ _ _ (un n pts k ws L t) _;by_cases h:t<L
 . obtain⟨x,hx⟩:∃x,ws[t]?=some x:=⟨_,bi (by omega)⟩;have c2:=px B (a:=x) (b:=k) (by have:=hw x (bN hx);omega);have hg:=Ti (k:=k) hx;have hs:=Tg (k:=k) hx;have hsl:=Th k ws t;unfold un;repeat (first|(refine aG ?_)|((first|refine jh (j:=t) ?_ rfl h (a8 _)|refine cz ?_ (Xz hg (by rw[hsl,hL]))|refine aD c2 ?_);conv=>whnf)|(refine aJ ?_))
   refine dH ?_ (Xs (x:=x*k) (m:=t) (os:=mr k ws t) (by omega) (by rw[hsl,hL]) rfl);conv=>whnf
   refine be ?_;refine⟨⟨t+1,h⟩,?_,by dsimp only;omega⟩;show Tr _ _ (un n pts k ws L (t+1));unfold un;rw[<-hs];exact Tr.tab [] [] ⟨.rn,.rn,.rn,.sm,.sm,aa⟩ ⟨.rn,.sm,.sm,.sm rfl rfl (kG _),aa⟩ rfl
 have e:t=L:=by omega
 subst e;have e2:mr k ws t=ws.map (· * k):=by
  unfold mr;rw[ay (by omega),oE (by omega),eS]
 unfold un;rw[e2];refine be ?_;exact Vi (by rw[aV,hL]) (ah _) rfl
def r34_ok{J:Keep}(B:Base J){n:Int}{c:Cl}{k:Rat}(hk:aU k<2^36)(hw:∀x∈c,aU x.2<2^36)(hl:c.length<2^16):Go.Proofs.Fl.C J 34 [eO n c,qr k] (eO n (ft k c)):=by
 have:=TD B (n:=n) (pts:=(c.map fun x=>x.1.map qr).map IV.sl) (ws:=c.map fun x=>x.2) hk (fun x hx=>by
  obtain⟨y,hy,rfl⟩:=List.mem_map.1 hx;exact hw y hy) (by simpa using hl)
 unfold eO jl ft;simp only[cC] at this ⊢;exact this
end Go.Proofs.En
namespace Go.Proofs.Pt
open Go.Proofs.Reg (Cl cU Hb Hb.mono Hb.mul)
def jH(R:List Cl)(j:Nat):Prop:=∀c∈R,c.length<=5/\∀x∈c,x.1.length=1/\Hb j x.2/\∀y∈x.1,Hb j y
def COk(c:Cl)(j k:Nat):Prop:=c.length<=5^k/\∀x∈c,x.1.length=k/\Hb (k*j) x.2/\∀y∈x.1,Hb j y
def vE{R:List Cl}{j:Nat}(h:jH R j)(i:Int):COk (fJ R i) j 1:=by
 unfold fJ;rw[cn];cases e:R[i.toNat-1]? with
 |none=>exact⟨ba _,fun x hx=>by cases hx⟩
 |some c=>
  obtain⟨h1,h2⟩:=h c (bN e);exact⟨h1,fun x hx=>by obtain⟨a,b,c⟩:=h2 x hx;exact⟨a,by rw[nJ];exact b,c⟩⟩
def prodC_len(a b:Cl):(cU a b).length=a.length*b.length:=by
 induction a with
 |nil=>simp[cU]
 |cons x a ih=>
  have e:cU (x::a) b=(b.map fun y=>(x.1++y.1,x.2*y.2))++cU a b:=rfl;rw[e,bg,ih,aV,aY,bQ];omega
def QM{a b:Cl}{t:List Rat×Rat}(h:t∈cU a b):∃x∈a,∃y∈b,t=(x.1++y.1,x.2*y.2):=by
 unfold cU at h;obtain⟨x,hx,h⟩:=List.mem_flatMap.1 h;obtain⟨y,hy,rfl⟩:=List.mem_map.1 h;exact⟨x,hx,y,hy,rfl⟩
def COk.prod{a b:Cl}{j k:Nat}(ha:COk a j k)(hb:COk b j 1):COk (cU a b) j (k+1):=by
 refine⟨by rw[prodC_len,bX];exact eT ha.1 (by simpa using hb.1),fun t ht=>?_⟩;obtain⟨x,hx,y,hy,rfl⟩:=QM ht;obtain⟨a1,a2,a3⟩:=ha.2 x hx;obtain⟨b1,b2,b3⟩:=hb.2 y hy;refine⟨by simp only[bg];omega,by rw[bQ];exact a2.mul b2,fun z hz=>?_⟩;rcases List.mem_append.1 hz with h|h
 . exact a3 z h
 exact b3 z h
def IU{R:List Cl}{j:Nat}(h:jH R j):∀(l:List Int) {c:Cl} {k:Nat},COk c j k->COk (l.foldl (fun c j=>cU c (fJ R j)) c) j (k+l.length)
 | [],c,k,hc=>hc
 |i::l,c,k,hc=>by
  have:=IU h l (hc.prod (vE h i));rw[iV,aY,show k+(l.length+1)=k+1+l.length by omega];exact this
def CB{R:List Cl}{j:Nat}(h:jH R j){i:Int}{l:List Int}:COk (fK R (i::l)) j (l.length+1):=by
 have:=IU h l (vE h i);rw[uG] at this;exact this
def G8{R:List Cl}{i k:Int}{l:List Int}{t:Nat}(h:l[t]?=some k):fK R (i::l.take (t+1))=cU (fK R (i::l.take t)) (fJ R k):=by
 rw[dO,h];show List.foldl _ _ (l.take t ++ [k])=cU (List.foldl _ _ _) _;rw[su];rfl
def ld(R:List Cl)(l:List Int):Nat:=l.foldl (fun s i=>s*(fJ R i).length) 1
def RB{R:List Cl}{k:Int}{l:List Int}{t:Nat}(h:l[t]?=some k):ld R (l.take (t+1))=ld R (l.take t)*(fJ R k).length:=by
 unfold ld;rw[dO,h,su];rfl
def zp{R:List Cl}{j:Nat}(h:jH R j)(l:List Int):ld R l<=5^l.length:=by
 have key:∀(l:List Int) (s k:Nat),s<=5^k->l.foldl (fun s i=>s*(fJ R i).length) s<=5^(k+l.length):=by
  intro l;induction l with
  |nil=>intro s k hs;exact hs
  |cons i l ih=>
   intro s k hs;have h1:=(vE h i).1;have:=ih (s*(fJ R i).length) (k+1) (by rw[bX];exact eT hs (by simpa using h1));rw[iV,aY,show k+(l.length+1)=k+1+l.length by omega];exact this
 have:=key l 1 0 (ah _);rw[a8] at this;exact this
def QL(R:List Cl)(i:Int)(l:List Int):(fK R (i::l)).length=ld R (i::l):=by
 have key:∀(l:List Int) (c:Cl),(l.foldl (fun c j=>cU c (fJ R j)) c).length=l.foldl (fun s i=>s*(fJ R i).length) c.length:=by
  intro l;induction l with
  |nil=>intro c;rfl
  |cons a l ih=>intro c;rw[iV,iV,ih,prodC_len]
 show(l.foldl _ (fJ R i)).length=l.foldl _ (1*(fJ R i).length);rw[key,nJ]
end Go.Proofs.Pt
namespace Go.Proofs.En
open Go.RowKit Go.Proofs.Fl
def mA(e:TypeId)(x:IV):EO:=.mem e (x.cells.map .iv) true [(0,x.cells.length)] 1
def UF{Z:QS}{E:EEnv}{H:ak}{U:Bm}{h:Hp}{w:World}(hS:ESim Z E H U h w){g:Nat}{e:TypeId}{x:IV}(hg:h g=some (.mem e (x.cells.map .iv) false [(0,x.cells.length)] 1)):∃H',HLe H H'/\ESim Z E H' U (az h g (some (mA e x))) w:=by
 obtain⟨H',k,arr,k1,k2,k3,k4,k5,k6,k7⟩:=hS.freeze hg (List.mem_singleton.2 rfl);obtain⟨h1,k',arr',j2,j3,j4,j5,j6,j7,j8,j9⟩:=(hS.obj g _ hg).2 0 _ (List.mem_singleton.2 rfl);rw[k1] at j2;cases j2;have ea:arr'=arr:=by
  obtain⟨t,fr,ht⟩:=k3.has _ _ k4;rw[j5] at ht;cases ht;rfl
 subst ea;refine⟨H',k2,⟨k3.has,k3.below,k3.lo,k3.ext,fun g' o ho=>?_,fun g' u k' hk=>?_,k3.inj,fun g' hg'=>?_⟩⟩
 . by_cases e':g'=g
   . subst e';rw[a6] at ho;cases ho;refine⟨fun h=>(by cases h),fun u p hup=>?_⟩;obtain⟨rfl,rfl⟩:=Prod.mk.inj (List.mem_singleton.1 hup);exact⟨h1,k,arr',k1,j3,k4,j5,j6,j7,j8,k5.mono k2 (BLe.refl _)⟩
   rw[aI _ _ _ e'] at ho;exact k3.obj g' o (by rw[aI _ _ _ e'];exact ho)
 . obtain⟨a,o,b,c⟩:=k3.dom g' u k' hk;refine⟨a,?_⟩;by_cases e':g'=g
   . subst e';obtain⟨_,d1,o',d2,d3⟩:=hS.domN hg (by simp) u k' hk;rw[hg] at d2;cases d2;exact⟨_,a6 _ _ _,.inr ⟨d1,d3⟩⟩
   rw[aI _ _ _ e'] at b ⊢;exact⟨o,b,c⟩
 obtain⟨a,b⟩:=hS.hidb g' hg';refine⟨?_,b⟩;by_cases e':g'=g
 . subst e';rw[hg] at a;cases a
 rw[aI _ _ _ e'];exact a
def wt{nP:Nat}{s:SS}{g:Nat}{e:TypeId}(x:IV)(hg:s.h g=some (.mem e (x.cells.map .iv) false [(0,x.cells.length)] 1)):Tr nP s ⟨s.tm,az s.h g (some (mA e x)),s.nx⟩:=fun hf=>by
 refine⟨fun g' hg'=>?_,fun Z E H U w hS hE=>?_⟩
 . show az s.h g _ g'=none;rw[aI _ _ _ fun e'=>by rw[e'] at hg';rw[hf g hg'] at hg;cases hg];exact hf g' hg'
 obtain⟨H',k1,k2⟩:=UF hS hg;exact⟨H',U,k1,BLeP.refl _ _,k2,fun t v hv=>hv.mono k1 (BLe.refl _)⟩
def CdB(h:Hp):List Nat->List IV->Prop
 | [],[]=>True
 |g::gs,x::xs=>(∃e,h g=some (mA e x)/\b7 x.cells.length [x]=true)/\CdB h gs xs
 |_,_=>False
def CdB.dp{Z:QS}{E:EEnv}{H:ak}{U:Bm}{h:Hp}{w:World}(hS:ESim Z E H U h w):∀{gs:List Nat} {xs:List IV},CdB h gs xs->DpL H (gs.map (io U)) xs
 | [],[],_=>trivial
 |g::gs,x::xs,⟨⟨e,hg,hz⟩,t⟩=>by
  refine⟨?_,CdB.dp hS t⟩;obtain⟨h1,k,arr,j2,j3,j4,j5,j6,j7,j8,j9⟩:=(hS.obj g _ hg).2 0 _ (List.mem_singleton.2 rfl);have j9:CRL Z H U (arr.toList.take x.cells.length) (x.cells.map .iv):=by
   have:=j9;rwa[show(x.cells.map EV.iv).take x.cells.length=x.cells.map EV.iv from ay (by rw[aV];exact ah _)] at this
  obtain⟨vs,v1,v2,v3⟩:=xQ (es:=[x]) hz (by rw[cO,Ge,eS];exact j9);cases v1 with
  |cons u _ vs _ hu ht=>
   cases ht;have e1:aX [u]=u.cells.toList:=by simp[aX]
   rw[e1] at v2;refine⟨k.1,0,u,arr,by unfold io;rw[j2],j4,hu,?_⟩;rw[bW,v3 u (by simp),v2]
 | [],_::_,h=>h.elim
 |_::_,[],h=>h.elim
inductive CdC(h:Hp):EV->EV->Prop
 | sm (x:EV):CdC h x x
 |cd {f:FuncId} {gs:List Nat} {xs:List IV} (hb:CdB h gs xs):CdC h (.clo f gs) (.cd f xs)
 |nl:CdC h (.iv (.nil 3)) (.iv (.sl []))
inductive CdL(h:Hp):List EV->List EV->Prop
 | sm (cs:List EV):CdL h cs cs
 |cons {x y:EV} {xs ys:List EV} (h1:CdC h x y) (t:CdL h xs ys):CdL h (x::xs) (y::ys)
 |app {a b c d:List EV} (h1:CdL h a b) (t:CdL h c d):CdL h (a++c) (b++d)
def CdL.get{h:Hp}{cs cs':List EV}(hl:CdL h cs cs'):cs.length=cs'.length/\∀(i:Nat) (y:EV),cs'[i]?=some y->∃x,cs[i]?=some x/\CdC h x y:=by
 induction hl with
 | sm cs=>exact⟨rfl,fun i y hy=>⟨y,hy,.sm y⟩⟩
 |cons h1 t ih=>
  refine⟨by simp[ih.1],fun i y hy=>?_⟩;cases i with
  |zero=>simp at hy;subst hy;exact⟨_,rfl,h1⟩
  |succ i=>simpa using ih.2 i y (by simpa using hy)
 |app h1 t ih1 ih2=>
  refine⟨by simp[ih1.1,ih2.1],fun i y hy=>?_⟩;rw[xd] at hy ⊢;rw[ih1.1];split at hy
  . rename_i hi;rw[au hi];exact ih1.2 i y hy
  rename_i hi;rw[aq hi];exact ih2.2 _ y hy
def CdL.take{Z:QS}{E:EEnv}{H:ak}{U:Bm}{h:Hp}{w:World}(hS:ESim Z E H U h w){cs cs':List EV}(hl:CdL h cs cs'){vs:List Value}{p:Nat}(hv:CRL Z H U vs (cs.take p)):CRL Z H U vs (cs'.take p):=by
 obtain⟨g1,g2⟩:=hl.get;refine HM (by rw[hv.length,bG,bG,g1]) fun i v y hvi hy=>?_;rw[dt] at hy;split at hy
 .
  rename_i hi;obtain⟨x,hx,hc⟩:=g2 i y hy;obtain⟨v',hv',hr⟩:=hv.get i x (by rw[dt,au hi];exact hx);rw[hvi] at hv';cases hv';cases hc with
  | sm=>exact hr
  |cd hb=>exact⟨_,hr.2,hb.dp hS⟩
  |nl=>
   refine⟨hr.1,?_⟩;have:=hr.2;cases this;exact .sl0 none 0
 cases hy
def Tr.cd{nP:Nat}{s:SS}{g:Nat}{e:TypeId}{cs cs':List EV}{fz:Bool}{vs:List (Nat×Nat)}{cnt:Nat}(hg:s.h g=some (.mem e cs fz vs cnt))(hl:CdL s.h cs cs'):Tr nP s ⟨s.tm,az s.h g (some (.mem e cs' fz vs cnt)),s.nx⟩:=fun hf=>by
 refine⟨fun g' hg'=>?_,fun Z E H U w hS hE=>⟨H,U,HLe.refl _,BLeP.refl _ _,⟨hS.has,hS.below,hS.lo,hS.ext,fun g' o ho=>?_,fun g' u k hk=>?_,hS.inj,fun g' hg'=>?_⟩,fun t v hv=>hv⟩⟩
 . show az s.h g _ g'=none;rw[aI _ _ _ fun e'=>by rw[e'] at hg';rw[hf g hg'] at hg;cases hg];exact hf g' hg'
 . by_cases e':g'=g
   . subst e';have ho:az s.h g' _ g'=some o:=ho;rw[a6] at ho;cases ho;obtain⟨h0,h1⟩:=hS.obj g' _ hg;refine⟨h0,fun u p hup=>?_⟩;obtain⟨j1,k,arr,j2,j3,j4,j5,j6,j7,j8,j9⟩:=h1 u p hup;exact⟨j1,k,arr,j2,j3,j4,j5,j6,by rw[<-hl.get.1];exact j7,j8,hl.take hS j9⟩
   have ho:az s.h g _ g'=some o:=ho;rw[aI _ _ _ e'] at ho;exact hS.obj g' o ho
 . obtain⟨a,o,b,c⟩:=hS.dom g' u k hk;refine⟨a,?_⟩;show ∃o,az s.h g _ g'=some o/\_;by_cases e':g'=g
   . subst e';rw[hg] at b;cases b;exact⟨_,a6 _ _ _,.inr (c.resolve_left (by simp))⟩
   rw[aI _ _ _ e'];exact⟨o,b,c⟩
 obtain⟨a,b⟩:=hS.hidb g' hg';refine⟨?_,b⟩;show az s.h g _ g'=some .hid;by_cases e':g'=g
 . subst e';rw[hg] at a;cases a
 rw[aI _ _ _ e'];exact a
end Go.Proofs.En
namespace Go.Proofs.En
open Go.RowKit Go.Proofs.Fl Go.Proofs.Dig
attribute [local irreducible] IntKind.wrap aW bc bj bm SW c7 CallOk To Tr ct
open Go.Proofs.Reg
open Go.Proofs.Pt
noncomputable def iR(R:List Cl):IV:=.sl (R.map (eO 1))
def nz(R:List Cl)(i:Int):Prop:=1<=i/\i<=R.length
def DY{R:List Cl}{i:Int}(h:nz R i):(R.map (eO 1))[i.toNat-1]?=some (eO 1 (fJ R i)):=by
 have h1:i.toNat-1<R.length:=by have:=h.1;have:=h.2;omega
 unfold fJ;rw[bI,cn,bi h1];rfl
def Mk{c:Cl}{j k:Nat}(hj:j<2^20)(hk:k<=10)(h:COk c j k):∀x∈c,x.1.length=k/\aU x.2<2^36:=fun x hx=>by
 obtain⟨a,b,_⟩:=h.2 x hx;refine⟨a,?_⟩;have:=wz b;have:k*j<=10*j:=cL _ hk;omega
noncomputable def YR(n:Int)(c:Cl):EO:=.mem 29 [.iv (di n),.iv (.sl ((c.map fun x=>x.1.map qr).map IV.sl)),.iv (.sl (c.map fun x=>qr x.2))] false [(0,3)] 1
noncomputable def wX(R:List Cl)(L l:List Int)(f:Rat)(c:Cl)(t:Nat):SS:=aR [(0,.w (.one (.dp (iR R) 0))),(1,.w (.one (.dp (.sl (L.map di)) 0))),(2,.w (.one (.dp (qr f) 0))),(3,.w (.one (.ptr 0 0 0))),(4,.w (.one (.ptr 1 0 0))),(15,ae (.sl (l.map di))),(16,ae (di (l.length:Int))),(17,ae (di (t:Int)))]
 [(0,ks),(1,YR ((t+1:Nat):Int) c)] 2
def VS{J:Keep}(B:Base J){R:List Cl}{j:Nat}(hR:jH R j)(hj:j<2^20){i:Int}{l:List Int}(hl:l.length<=3)(hi:nz R i)(hx:∀x∈l,nz R x)(hRl:R.length<=100){f:Rat}(hf:aU f<2^36) :
 LocC (XS J) 32 [.w (.one (.dp (iR R) 0)),.w (.one (.dp (.sl ((i::l).map di)) 0)),.w (.one (.dp (qr f) 0))] [] (dS (eO ((l.length+1:Nat):Int) (ft f (fK R (i::l))))) []:=by
 refine lT Tryz.func32 rfl rfl rfl ⟨.d rfl,.d rfl,.d rfl,aa⟩ trivial (.inr rfl) trivial ?_;have gi:=DY hi;have hi1:=hi.1;have hi2:=hi.2;have sl1:1<=((i::l).map di).length:=by simp
 have asz:b7 Fg.size ((i::l).map di)=true:=tb (i::l);have e15:(((i::l).map di).take ((i::l).map di).length).drop 1=l.map di:=by rw[cN];rfl
 have lz:((((((i::l).map di).take ((i::l).map di).length).drop 1).length:Nat):Int)=(l.length:Int):=by rw[e15,aV]
 unfold iR;repeat (first|(refine aG ?_)|((first|refine aO (j:=0) ?_ rfl rfl|refine aO (j:=i.toNat-1) ?_ (by omega) gi|refine XJ sl1 (ah _) (.inr asz) ?_|refine aM lz ?_|refine YK rfl ?_);conv=>whnf)|(refine aJ ?_))
 refine cq (G:={ t:Nat // t<=l.length }) (fun t=>wX R (i::l) l f (fK R (i::l.take t.1)) t.1) (fun t=>l.length-t.1) ⟨0,ba _⟩
  (Tr.tab [] [] ⟨.sm,.sm,.sm,.rn,.rn,.sm (aL (fun z=>ae (.sl z)) e15) rfl,.sm,.sm,aa⟩ ⟨.sm,.sm,aa⟩ rfl) ?_
 rintro⟨t,ht⟩;obtain⟨c,hc⟩:∃c,fK R (i::l.take t)=c:=⟨_,rfl⟩;show SW (XS J) _ _ _ _ (wX R (i::l) l f (fK R (i::l.take t)) t) _;have hok:=CB hR (i:=i) (l:=l.take t);rw[bG,ce ht,hc] at hok;have hsz:=Mk hj (by omega) hok;have h5:5^(t+1)<=5^4:=co (by omega) (by omega);have h5':(5:Nat)^4=625:=rfl;have hcl:=hok.1;rw[hc];by_cases h:t<l.length
 . obtain⟨k,hk⟩:∃k,l[t]?=some k:=⟨_,bi h⟩;have gk:(l.map di)[t]?=some (di k):=by rw[bI,hk];rfl
   have hko:=hx k (bN hk);have gr:=DY hko;have hk1:=hko.1;have hk2:=hko.2;have hr:=vE hR k;have hrs:=Mk hj (by omega) hr;have hrl:=hr.1;have hs:=G8 (R:=R) (i:=i) hk;rw[hc] at hs;have hmul:c.length*(fJ R k).length<=625*5:=eT (by omega) (by omega);have c1:=TP B (n:=((t+1:Nat):Int)) (m:=1) (a:=c) (b:=fJ R k) (by omega) (by omega) (fun x hx=>by have:=hsz x hx;omega) (fun x hx=>by have:=hrs x hx;omega) (by omega) (by omega) (by omega);rw[show((t+1:Nat):Int)+1=((t+1+1:Nat):Int) by omega] at c1;unfold wX;repeat (first|(refine aG ?_)|((first|refine aD c1 ?_|refine aO (j:=t) ?_ rfl gk|refine aO (j:=k.toNat-1) ?_ (by omega) gr);conv=>whnf)|(refine aJ ?_))
   refine⟨⟨t+1,h⟩,?_,by dsimp only;omega⟩;show Tr _ _ (wX R (i::l) l f (fK R (i::l.take (t+1))) (t+1));rw[hs];exact Tr.tab [] [] ⟨.sm,.sm,.sm,.rn,.rn,.sm,.sm,.sm,aa⟩ ⟨.sm,.sm,aa⟩ rfl
 have e:t=l.length:=by omega
 subst e;rw[cN] at hc;rw[hc];have c1:=r34_ok B (n:=((l.length+1:Nat):Int)) (c:=c) (k:=f) hf (fun x hx=>(hsz x hx).2) (by omega);unfold wX;repeat (first|(refine aG ?_)|(refine aD c1 ?_;conv=>whnf)|(refine aJ ?_))
 exact Tr.tab [] [] ⟨.sm,aa⟩ trivial rfl
abbrev Lf:=List Int×Rat
noncomputable def mC(R:List Cl)(x:Lf):EV:=.cd 32 [iR R,.sl (x.1.map di),qr x.2]
def Ya:List Lf->EV
 | []=>.iv (.nil 3)
 |_::acc=>.slc 4 acc.length 0 (acc.length+1) (.fin 1)
def X9:List Lf->List (Nat×Nat)
 | []=>[]
 |_::acc=>[(acc.length,acc.length+1)]
def ku(acc:List Lf):EO:=.mem 84 [Ya acc] false [(0,1)] 1
noncomputable def ol(R:List Cl)(acc:List Lf):EO:=.mem 91 (acc.map (mC R)) false (X9 acc) acc.length
def r9(n:Nat):EO:=.mem 3 [.iv (di (n:Int))] false [(0,1)] 1
def eZ(R:List Cl):List Lf->Nat
 | []=>0
 |x::l=>ld R x.1+eZ R l
def Id(R:List Cl):∀(a:List Lf) (x:Lf),eZ R (a ++ [x])=eZ R a+ld R x.1
 | [],x=>by simp[eZ]
 |y::a,x=>by rw[lC,eZ,eZ,Id R a x];omega
noncomputable def d5(R:List Cl)(f:Rat)(acc:List Lf):List EO:=[mA 24 (iR R),r9 (eZ R acc),ku acc,mA 55 (qr f),ol R acc]
def bS{R:List Cl}{acc:List Lf}:fR (ol R acc):=by
 show(acc.map (mC R)).flatMap bv=[];induction acc with
 |nil=>rfl
 |cons x l ih=>simp only[aZ,cO,ih];rfl
def kN{p:Nat->Bool}{acc:List Lf}(h:p 4=true:=by exact rfl):ObjOk p (ku acc):=by
 cases acc with
 |nil=>exact .c rfl
 |cons x l=>exact .c (show(p 4&&true)=true by rw[h];rfl)
def kM{V:Nat->Nat}(h:V 4=4:=by exact rfl){acc:List Lf}:fy V (ku acc)=ku acc:=by
 cases acc with
 |nil=>rfl
 |cons x l=>show EO.mem 84 [.slc (V 4) l.length 0 (l.length+1) (.fin 1)] false [(0,1)] 1=_;rw[h];rfl
def jr{V:Rv}(h:∀u,V 4 u=(4,u)){acc:List Lf}:qo V (ku acc)=ku acc:=by
 cases acc with
 |nil=>rfl
 |cons x l=>show EO.mem 84 [.slc (V 4 l.length).1 (V 4 l.length).2 0 (l.length+1) (.fin 1)] false [(0,1)] 1=_;rw[h];rfl
def jp{P:Nat->Nat->Bool}(h:∀u,P 4 u=true){acc:List Lf}:w5 P (ku acc)=true:=by
 cases acc with
 |nil=>rfl
 |cons x l=>show(P 4 l.length&&true)=true;rw[h];rfl
noncomputable def AK(R:List Cl)(f:Rat)(acc:List Lf)(l:List Int)(s t:Nat):SS:=aR [(1,.w (.one (.ptr 0 0 0))),(2,.w (.one (.ptr 1 0 0))),(3,.w (.one (.ptr 2 0 0))),(4,.w (.one (.ptr 3 0 0))),(5,.w (.one (.ptr 5 0 0))),(6,ae (di (s:Int))),(9,ae (.sl (l.map di))),(10,ae (di (l.length:Int))),(11,ae (di (t:Int)))]
 (mf 0 (d5 R f acc ++ [.mem 63 [.iv (.sl (l.map di))] false [(0,1)] 1])) 6
def LF(J:Keep){R:List Cl}{j:Nat}(hR:jH R j){f:Rat}{acc:List Lf}{l:List Int}(hl:l.length<=4)(hx:∀x∈l,nz R x)(hRl:R.length<=100)(hacc:acc.length<10000:=by omega)(hm:eZ R acc<2^40:=by omega) :
 LocC (XS J) 31 [ae (.sl (l.map di)),.w (.one (.ptr 0 0 0)),.w (.one (.ptr 1 0 0)),.w (.one (.ptr 2 0 0)),.w (.one (.ptr 3 0 0))] (d5 R f acc) (.tup []) (d5 R f (acc ++ [(l,f)])):=by
 refine lT Tryz.func31 rfl rfl rfl ⟨.d rfl,.c rfl,.c rfl,.c rfl,.c rfl,aa⟩ ⟨.d rfl,.d rfl,kN,.d rfl,.d bS,aa⟩ (.inr rfl) ⟨.d rfl,.d rfl,kN ?_,.d rfl,.d bS,aa⟩ ?_
 . rfl
 have ll:(((l.map di).length:Nat):Int)=(l.length:Int):=by simp
 repeat (first|(refine aG ?_)|((first|refine aM ll ?_|refine cz ?_);conv=>whnf))
 refine cq (G:={ t:Nat // t<=l.length }) (fun t=>AK R f acc l (ld R (l.take t.1)) t.1) (fun t=>l.length-t.1) ⟨0,ba _⟩
  (Tr.tab [] [] ⟨.rn,.rn,.rn,.rn,.rn,.sm,.sm,.sm,.sm,aa⟩ ⟨.sm,.sm,.rn rfl rfl (jr fun _=>rfl) (jp fun _=>rfl),.sm,.sm rfl rfl bS,.sm,aa⟩ rfl) ?_
 rintro⟨t,ht⟩;obtain⟨s,es⟩:∃s,ld R (l.take t)=s:=⟨_,rfl⟩;show SW (XS J) _ _ _ _ (AK R f acc l (ld R (l.take t)) t) _;rw[es];by_cases h:t<l.length
 .
  obtain⟨i,hi⟩:∃i,l[t]?=some i:=⟨_,bi h⟩;have gi:(l.map di)[t]?=some (di i):=by rw[bI,hi];rfl
  have hio:=hx i (bN hi);have gr:=DY hio;obtain⟨i1,i2⟩:=hio;have hs:=RB (R:=R) hi;have hle:=zp hR (l.take (t+1));have h5:5^(l.take (t+1)).length<=5^4:=co (by omega) (by rw[bG];omega);rw[hs,es] at hle;have h5':(5:Nat)^4=625:=rfl;obtain⟨c,hc⟩:∃c,fJ R i=c:=⟨_,rfl⟩;rw[hc] at hs hle gr;have lc:((((c.map fun x=>x.1.map qr).map IV.sl).length:Nat):Int)=(c.length:Int):=by simp
  have hmul:IntKind.i64.wrap ((s:Int)*(c.length:Int))=((s*c.length:Nat):Int):=by
   rw[<-kB];exact cZ
  have hmin:(if(2001:Int)<((s*c.length:Nat):Int) then 2001 else((s*c.length:Nat):Int))=((s*c.length:Nat):Int):=aq (by omega);repeat (first|(refine aG ?_)|((first|refine aO (j:=t) ?_ rfl gi|refine aO (j:=i.toNat-1) ?_ (by omega) gr|refine aM lc ?_|refine And.intro rfl (aM hmul ?_)|refine aM hmin ?_);conv=>whnf)|(refine aJ ?_))
  refine⟨⟨t+1,h⟩,?_,by dsimp only;omega⟩;show Tr _ _ (AK R f acc l (ld R (l.take (t+1))) (t+1));rw[hs,es];exact(Tr.tab [] [] ⟨.rn,.rn,.rn,.rn,.rn,.sm,.sm,.sm,.sm,aa⟩ ⟨.sm,.sm,.rn rfl rfl (jr fun _=>rfl) (jp fun _=>rfl),.sm,.sm rfl rfl bS,.sm,aa⟩ rfl)
 have e:t=l.length:=by omega
 subst e;rw[cN] at es;have hle:=zp hR l;have h5:5^l.length<=5^4:=co (by omega) hl;have h5':(5:Nat)^4=625:=rfl;rw[es] at hle;have em:eZ R (acc ++ [(l,f)])=eZ R acc+s:=by rw[Id,es]
 obtain⟨mm,hmm⟩:∃m,eZ R acc=m:=⟨_,rfl⟩;unfold AK d5;rw[em];rw[hmm] at hm ⊢;have cdb:∀{h:Hp},h 0=some (mA 24 (iR R))->h 5=some (mA 63 (.sl (l.map di)))->h 3=some (mA 55 (qr f))->CdB h [0,5,3] [iR R,.sl (l.map di),qr f]:=fun a b c=>⟨⟨_,a,rfl⟩,⟨_,b,rfl⟩,⟨_,c,rfl⟩,aa⟩;cases acc with
 |nil=>
  refine be ?_;refine(wt (g:=5) (e:=63) (.sl (l.map di)) rfl).trans ((Tr.cd (g:=7) rfl (.cons (.cd (cdb rfl rfl rfl)) (.sm []))).trans (Tr.tab [(4,7)] [] ⟨.sm,aa⟩ ⟨.sm,.sm,.rn,.sm,.sm rfl rfl bS,aa⟩ rfl))
 |cons y a=>
  have ha:a.length<10000:=by simp at hacc;omega
  refine be ?_;refine bK (g:=7) (b:=1) (ch (p:=a.length+1) (sz:=1) rfl rfl (bn _ _) rfl (by omega) (by omega) (by omega) (by show _*8<=_;omega) rfl rfl rfl rfl rfl rfl) (by show 7<7+1;decide) ?_;conv=>whnf
  repeat ((refine dH ?_;conv=>whnf))
  have el:(a ++ [(l,f)]).length=a.length+1:=by simp
  refine(wt (g:=5) (e:=63) (.sl (l.map di)) rfl).trans ((Tr.cd (g:=4) rfl (.app (.sm _) (.cons (.cd (cdb rfl rfl rfl)) (.sm [])))).trans (Tr.tab [] [] ⟨.sm,aa⟩ ⟨.sm,.sm,.rn rfl rfl ?_ rfl,.sm,?_,aa⟩ rfl))
  . show EO.mem 84 [.slc 4 (a.length+1) 0 (a.length+1+1) (.fin 1)] false [(0,1)] 1=.mem 84 [.slc 4 (a ++ [(l,f)]).length 0 ((a ++ [(l,f)]).length+1) (.fin 1)] false [(0,1)] 1;rw[el]
  have e2:ol R ((y::a) ++ [(l,f)])=.mem 91 (((y::a) ++ [(l,f)]).map (mC R)) false [(a.length+1,a.length+1+1)] (a.length+1+1):=by
   show EO.mem 91 _ false [((a ++ [(l,f)]).length,(a ++ [(l,f)]).length+1)] ((a ++ [(l,f)]).length+1)=_;rw[el]
  rw[e2];refine .drop (pm:=a.length+1+1) rfl rfl ?_ (by simp) ?_ bS
  . intro q hq;rw[fg] at hq;subst hq;exact⟨ah _,_,qH ..,by show a.length+1+1<=(a.length+1+1)*1;omega⟩
  congr 1;rw[ay (by simp)];show(y::a).map (mC R) ++ [mC R (l,f)]=((y::a) ++ [(l,f)]).map (mC R);rw[dD];rfl
def mq(p:List Int):List Int:=p.map (· + 1)
def lf(f:Rat)(ls:List (List Int)):List Lf:=ls.map fun l=>(l,f)
noncomputable def zT(R:List Cl)(f:Rat)(acc:List Lf)(n:Nat):List EO:=d5 R f acc ++ [.mem 3 [.iv (di n)] false [(0,1)] 1,.mem 92 [.clo 31 [0,1,2,3]] false [(0,1)] 1,.mem 3 [.iv (di 1)] false [(0,1)] 1,.mem 134 [.clo 68 [5,6,7,8]] false [(0,1)] 1]
def gT:List ES:=[.w (.one (.ptr 5 0 0)),.w (.one (.ptr 6 0 0)),.w (.one (.ptr 7 0 0)),.w (.one (.ptr 8 0 0))]
def gI(l:List Int)(m e t:Nat):List (List Int):=(List.range t).flatMap fun j=>(cR (m+1) j).map fun p=>l++((((e-j:Nat):Int)+1)::mq p)
def vf(l:List Int)(m e t:Nat):gI l m e (t+1)=gI l m e t++(cR (m+1) t).map fun p=>(l ++ [((e-t:Nat):Int)+1])++mq p:=by
 unfold gI;rw[sG,eV];simp
def yg(l:List Int)(m e:Nat):gI l m e (e+1)=(cR (m+2) e).map fun p=>l++mq p:=by
 unfold gI;rw[show cR (m+2) e=(List.range (e+1)).flatMap fun j=>(cR (m+1) j).map fun p=>((e-j:Nat):Int)::p by rfl,List.map_flatMap];simp[Function.comp_def,mq]
def Hd{l:List Int}{m e t t':Nat}(h:t<=t':=by omega):(gI l m e t).length<=(gI l m e t').length:=by
 induction h with
 |refl=>exact ah _
 |step _ ih=>rw[vf,bg];omega
def H9{l:List Int}{m e t:Nat}:∀x∈gI l m e t,x.length=l.length+1+(m+1):=fun x hx=>by
 unfold gI at hx;obtain⟨j,_,hx⟩:=List.mem_flatMap.1 hx;obtain⟨p,hp,rfl⟩:=List.mem_map.1 hx;have:=(mX.1 hp).1;simp[mq,this];omega
def LS(f:Rat)(a b:List (List Int)):lf f (a++b)=lf f a++lf f b:=dD
def zM(f:Rat)(a:List (List Int)):(lf f a).length=a.length:=aV ..
def vH{R:List Cl}{j:Nat}(hR:jH R j):∀{acc:List Lf},(∀x∈acc,x.1.length<=4)->eZ R acc<=625*acc.length
 | [],_=>ba _
 |x::l,h=>by
  have h1:=zp hR x.1;have h2:5^x.1.length<=5^4:=co (by omega) (h x (by simp));have h3:(5:Nat)^4=625:=rfl;have h4:=vH hR (acc:=l) fun y hy=>h y (by simp[hy]);rw[eZ,aY];omega
def MA{f:Rat}{acc:List Lf}{ls:List (List Int)}(h:∀x∈acc,x.1.length<=4)(h2:∀x∈ls,x.length<=4):∀x∈acc++lf f ls,x.1.length<=4:=fun x hx=>by
 rcases List.mem_append.1 hx with h3|h3
 . exact h x h3
 obtain⟨y,hy,rfl⟩:=List.mem_map.1 h3;exact h2 y hy
def yh{R:List Cl}{l:List Int}{k:Nat}(h:∀x∈l,nz R x:=by simp)(hk:k+1<=R.length:=by omega):∀x∈l ++ [(k:Int)+1],nz R x:=fun x hx=>by
 rcases List.mem_append.1 hx with h3|h3
 . exact h x h3
 rw[fg] at h3;subst h3;exact⟨by omega,by omega⟩
structure PT4(R:List Cl)(acc:List Lf)(l:List Int)(m e:Nat):Prop where
 hn:l.length+1+m<=4
 hl:∀x∈l,nz R x
 he:e+1<=R.length
 hR:R.length<=100
 ha:acc.length+(cR (m+1) e).length<10000
 h4:∀x∈acc,x.1.length<=4
def Xi(J:Keep){R:List Cl}{j:Nat}(hR:jH R j){f:Rat}{acc:List Lf}{l:List Int}{e u c:Nat}{vs:List (Nat×Nat)}(hv:cW u vs=some l.length)(h1:1<=l.length)(hp:PT4 R acc l 0 e) :
 LocC (XS J) 68 (.w (.one (.slc 9 u 0 l.length (.fin 1)))::ae (di ((e+1:Nat):Int))::gT) (zT R f acc (l.length+1) ++ [.mem 3 (iL l) false vs c]) (.tup []) (zT R f (acc ++ [(l ++ [(e:Int)+1],f)]) (l.length+1) ++ [.mem 3 (iL l) false vs c]):=by
 refine lT Tryz.func68 rfl rfl rfl ⟨.c rfl,.c rfl,.c rfl,.c rfl,.c rfl,.c rfl,aa⟩ ⟨.d rfl,.d rfl,kN,.d rfl,.d bS,.c rfl,.c rfl,.c rfl,.c rfl,.d fQ,aa⟩ (.inr rfl) ⟨.d rfl,.d rfl,kN ?_,.d rfl,.d bS,.c rfl,.c rfl,.c rfl,.c rfl,.d fQ,aa⟩ ?_
 . rfl
 have h2:=hp.hn;have hacc:=hp.ha;have hm:=vH hR hp.h4;have hR1:=hp.hR;have he:=hp.he;rw[Co,aY,oF] at hacc;have et:(iL l).take (l.length*1)=iL l:=ay (by rw[l5];omega);have e1:((e+1:Nat):Int)=(e:Int)+1:=by omega
 rw[e1];have ec:((iL l).take (l.length*1) ++ [EV.iv (di ((e:Int)+1))]).take ((l.length+1)*1)=(((l ++ [(e:Int)+1]).map di).flatMap IV.cells).map .iv:=by
  rw[et];refine Eq.trans ?_ (yH _).symm;rw[ay (by rw[bg,l5];simp)];unfold iL;rw[dD];rfl
 have cD:=LF J hR (f:=f) (acc:=acc) (l:=l ++ [(e:Int)+1]) (by simp;omega) (yh hp.hl hp.he) hp.hR;refine be ?_;refine HH (YQ J hv h1 (by omega)) [9,10] 1 rfl ⟨.c rfl,aa⟩ ⟨.d rfl fQ,aa⟩ ⟨rfl,aa⟩ (bp (.d fQ) (bp (.d fQ) fS)) (.c rfl) ?_;conv=>whnf
 skip
 refine bK (g:=12) (b:=1) (ch (p:=l.length) (sz:=1) rfl rfl rfl rfl (by omega) (by omega) (by omega) (by show _*8<=_;omega) rfl rfl rfl rfl rfl rfl) (by show 12<12+1;decide) ?_;conv=>whnf
 skip
 refine BJ cD (g:=10) (u:=1) (n:=l.length+1) (es:=(l ++ [(e:Int)+1]).map di) (fq 1 rfl rfl (by simp) (tb _) (ah _) ec) (.fz _ (.sm _ (.sm _ (.sm _ (.sm _ .nil))))) [0,1,2,3,4] 0 rfl ⟨.d rfl,.c rfl,.c rfl,.c rfl,.c rfl,aa⟩ ⟨.d rfl rfl,.d rfl rfl,.c (aL some (kM).symm),.d rfl rfl,.d rfl bS,aa⟩ trivial (bp (.d rfl) (bp (.d rfl) (bp (.c (kM)) (bp (.d rfl) (bp (.d bS) fS))))) (.d rfl) ?_;conv=>whnf
 refine be ?_;exact Tr.tab [] [] ⟨.sm,aa⟩ ⟨.sm,.sm,.rn rfl rfl (jr fun _=>rfl) (jp fun _=>rfl),.sm,.sm rfl rfl bS,.rn,.rn,.rn,.rn,.sm rfl rfl fQ,aa⟩ rfl
noncomputable def Fj(R:List Cl)(f:Rat)(acc:List Lf)(l:List Int)(u c n left:Nat)(vs:List (Nat×Nat))(k:Int):SS:=aR [(0,.w (.one (.slc 9 u 0 l.length (.fin 1)))),(1,ae (bA left)),(2,.w (.one (.ptr 5 0 0))),(3,.w (.one (.ptr 6 0 0))),(4,.w (.one (.ptr 7 0 0))),(5,.w (.one (.ptr 8 0 0))),(8,ae (bA k))]
 (mf 0 (zT R f acc n ++ [EO.mem 3 (iL l) false vs c])) 10
def M5(J:Keep){R:List Cl}{j:Nat}(hR:jH R j){f:Rat}:∀(m:Nat) {acc:List Lf} {l:List Int} {e u c:Nat} {vs:List (Nat×Nat)} (hv:cW u vs=some l.length) (h1:1<=l.length) (hp:PT4 R acc l m e) (hvs:∀q∈vs,q.2<=l.length) (hvl:vs.length+m<=60),
 LocC (XS J) 68 (.w (.one (.slc 9 u 0 l.length (.fin 1)))::ae (di ((e+(m+1):Nat):Int))::gT) (zT R f acc (l.length+1+m) ++ [.mem 3 (iL l) false vs c]) (.tup []) (zT R f (acc++lf f ((cR (m+1) e).map fun p=>l++mq p)) (l.length+1+m) ++ [.mem 3 (iL l) false vs (c+cI m e)])
 |0,acc,l,e,u,c,vs,hv,h1,hp,hvs,hvl=>by
  rw[Co];exact Xi J hR hv h1 hp
 |m+1,acc,l,e,u,c,vs,hv,h1,hp,hvs,hvl=>by
  refine lT Tryz.func68 rfl rfl rfl ⟨.c rfl,.c rfl,.c rfl,.c rfl,.c rfl,.c rfl,aa⟩ ⟨.d rfl,.d rfl,kN,.d rfl,.d bS,.c rfl,.c rfl,.c rfl,.c rfl,.d fQ,aa⟩ (.inr rfl) ⟨.d rfl,.d rfl,kN ?_,.d rfl,.d bS,.c rfl,.c rfl,.c rfl,.c rfl,.d fQ,aa⟩ ?_
  . rfl
  have h2:=hp.hn;have he:=hp.he;have hR1:=hp.hR;have ha:=hp.ha;obtain⟨left,eleft⟩:∃n,e+(m+1+1)=n:=⟨_,rfl⟩;rw[eleft];have hk0:IntKind.i64.wrap ((left:Int)-((m:Int)+1))=(e:Int)+1:=by rw[cZ];omega
  refine be ?_;refine cq (G:={ t:Nat // t<=e+1 }) (fun t=>Fj R f (acc++lf f (gI l m e t.1)) l u (c+cP (cI m) t.1) (l.length+1+(m+1)) left vs ((e:Int)+1-(t.1:Int))) (fun t=>e+1-t.1) ⟨0,ba _⟩
   (Tr.tab [] [] ⟨.rn,.sm,.rn,.rn,.rn,.rn,.sm (iq (by dsimp only;omega)),aa⟩ ⟨.sm,.sm rfl ?_ rfl,?_,.sm,.sm rfl ?_ bS,.rn,.rn,.rn,.rn,.sm rfl rfl fQ,aa⟩ rfl) ?_
  . show some (r9 (eZ R acc))=some (r9 (eZ R (acc ++ [])));rw[eS]
  . show BoxT [] [] _ 2 (some (ku acc)) (ku (acc ++ []));rw[eS];exact .rn rfl rfl (jr fun _=>rfl) (jp fun _=>rfl)
  . show some (ol R acc)=some (ol R (acc ++ []));rw[eS]
  rintro⟨t,ht⟩;obtain⟨acc1,e1⟩:∃a,acc++lf f (gI l m e t)=a:=⟨_,rfl⟩;obtain⟨c1,e2⟩:∃a,c+cP (cI m) t=a:=⟨_,rfl⟩;show SW (XS J) _ _ _ _ (Fj R f (acc++lf f (gI l m e t)) l u (c+cP (cI m) t) (l.length+1+(m+1)) left vs ((e:Int)+1-(t:Int))) _;rw[e1,e2];by_cases h:t<=e
  .
   obtain⟨k,ek⟩:∃k:Int,(e:Int)+1-(t:Int)=k:=⟨_,rfl⟩;have ek2:((e-t:Nat):Int)+1=k:=by omega
   rw[ek];have hk:IntKind.i64.wrap ((left:Int)-k)=((t+(m+1):Nat):Int):=by rw[cZ];omega
   obtain⟨l',e4⟩:∃l',l ++ [k]=l':=⟨_,rfl⟩;have hl':l'.length=l.length+1:=by rw[<-e4];simp
   obtain⟨vs',e5⟩:∃v,(c1,(l.length+1)*1)::oa (vs.map fun p=>(p.1,Nat.min p.2 (l.length*1)))=v:=⟨_,rfl⟩;have et:(iL l).take (l.length*1)=iL l:=ay (by rw[l5];omega);have eb:(iL l).take (l.length*1) ++ [EV.iv (bA k)]=iL l':=by
    rw[et,<-e4];unfold iL;rw[dD];rfl
   have hlast:∀q∈oa (vs.map fun p=>(p.1,Nat.min p.2 (l.length*1))),q.2<=l.length:=fun q hq=>by
    obtain⟨p,_,rfl⟩:=List.mem_map.1 (dY hq);show min p.2 (l.length*1)<=_;omega
   have h5:=Hd (l:=l) (m:=m) (e:=e) (t:=t+1) (t':=e+1);rw[yg,aV] at h5;have h6:(cR (m+2) e).length=(cR (m+1+1) e).length:=rfl;rw[vf,bg,aV] at h5;have hal:acc1.length=acc.length+(gI l m e t).length:=by rw[<-e1,bg,zM]
   have ih:=M5 J hR (f:=f) m (acc:=acc1) (l:=l') (e:=t) (u:=c1) (c:=c1+1) (vs:=vs') (by rw[<-e5,gD,hl'];simp) (by omega)
    ⟨by omega,by rw[<-e4,<-ek2];exact yh hp.hl,by omega,hp.hR,by omega,by rw[<-e1];exact MA hp.h4 fun x hx=>by have:=H9 x hx;omega⟩
    (fun q hq=>by
      rw[<-e5] at hq;rcases List.mem_cons.1 hq with rfl|hq
      . show(l.length+1)*1<=_;omega
      have:=hlast q hq;omega)
    (by
      rw[<-e5,aY];have:(oa (vs.map fun p=>(p.1,Nat.min p.2 (l.length*1)))).length<=vs.length:=by
       unfold oa;rw[bG,aV];omega
      omega)
   rw[hl',show l.length+1+1+m=l.length+1+(m+1) by omega] at ih;refine be ?_;refine bK (g:=11) (b:=1) (ch (p:=l.length) (sz:=1) rfl rfl hv rfl (by omega) (by omega) (by omega) (by show _*8<=_;omega) rfl rfl rfl rfl rfl rfl) (by show 11<11+1;decide) ?_;conv=>whnf
   repeat ((refine And.intro rfl (aM hk ?_);conv=>whnf))
   refine iB ih [0,1,2,3,4,5,6,7,8,9] 0 rfl ⟨.c rfl,.d rfl,.c rfl,.c rfl,.c rfl,.c rfl,aa⟩ ⟨.d rfl rfl,.d rfl rfl,.c (aL some (kM).symm),.d rfl rfl,.d rfl bS,.c rfl,.c rfl,.c rfl,.c rfl,.d ?_ fQ,aa⟩ trivial (bp (.d rfl) (bp (.d rfl) (bp (.c (kM)) (bp (.d rfl) (bp (.d bS) (bp (.c rfl) (bp (.c rfl) (bp (.c rfl) (bp (.c rfl) (bp (.d fQ) fS)))))))))) (.d rfl) ?_
   . rw[<-eb,<-e5];rfl
   conv=>whnf
   refine be ?_;refine⟨⟨t+1,by omega⟩,?_,by dsimp only;omega⟩;show Tr _ _ (Fj R f (acc++lf f (gI l m e (t+1))) l u (c+cP (cI m) (t+1)) (l.length+1+(m+1)) left vs ((e:Int)+1-((t+1:Nat):Int)));rw[vf,LS,<-dI,e1,show c+cP (cI m) (t+1)=c1+1+cI m t by show c+(cP (cI m) t+(1+cI m t))=_;omega,ek2,e4];refine Tr.tab [] [] ⟨.rn,.sm,.rn,.rn,.rn,.rn,.sm (iq),aa⟩ ⟨.sm,.sm,.rn rfl rfl (jr fun _=>rfl) (jp fun _=>rfl),.sm,.sm rfl rfl bS,.rn,.rn,.rn,.rn,.drop (pm:=l.length) rfl rfl ?_ (by rw[l5];omega) ?_ fQ,aa⟩ rfl
   . intro q hq;refine⟨hvs q hq,Nat.min q.2 (l.length*1),?_,?_⟩
     . rw[<-e5];refine dC _ ?_;unfold oa;rw[ay (by rw[aV];omega)];exact List.mem_map.2 ⟨q,hq,rfl⟩
     have:=hvs q hq;show q.2<=min q.2 (l.length*1);omega
   rw[<-eb,et,jJ (by rw[l5];omega)]
  have e6:t=e+1:=by omega
  subst e6;rw[yg] at e1;have e7:c+cI (m+1) e=c1:=e2;rw[e1,e7];refine be ?_;exact Tr.tab [] [] ⟨.sm,aa⟩ ⟨.sm,.sm,.rn rfl rfl (jr fun _=>rfl) (jp fun _=>rfl),.sm,.sm rfl rfl bS,.rn,.rn,.rn,.rn,.sm rfl rfl fQ,aa⟩ rfl
def Wl(J:Keep){R:List Cl}{j:Nat}(hR:jH R j){f:Rat}{acc:List Lf}{e:Nat}(he:e+1<=R.length)(hR1:R.length<=100)(hacc:acc.length<10000)(h4:∀x∈acc,x.1.length<=4) :
 LocC (XS J) 68 (ae (.nil 3)::ae (di ((e+1:Nat):Int))::gT) (zT R f acc 1) (.tup []) (zT R f (acc ++ [([(e:Int)+1],f)]) 1):=by
 refine lT Tryz.func68 rfl rfl rfl ⟨.c rfl,.c rfl,.c rfl,.c rfl,.c rfl,.c rfl,aa⟩ ⟨.d rfl,.d rfl,kN,.d rfl,.d bS,.c rfl,.c rfl,.c rfl,.c rfl,aa⟩ (.inr rfl) ⟨.d rfl,.d rfl,kN ?_,.d rfl,.d bS,.c rfl,.c rfl,.c rfl,.c rfl,aa⟩ ?_
 . rfl
 have c1:=YP J;have hm:=vH hR h4;have e1:((e+1:Nat):Int)=(e:Int)+1:=by omega
 rw[e1];have cD:=LF J hR (f:=f) (acc:=acc) (l:=[(e:Int)+1]) (by simp) (yh (l:=[]) (by simp) he) hR1;repeat (first|(refine aG ?_)|(refine aD c1 ?_;conv=>whnf)|(refine aJ ?_))
 refine BJ cD (g:=10) (u:=0) (n:=1) (es:=[di ((e:Int)+1)]) (fq 1 rfl rfl rfl rfl (ah _) rfl) (.fz _ (.sm _ (.sm _ (.sm _ (.sm _ .nil))))) [0,1,2,3,4] 0 rfl ⟨.d rfl,.c rfl,.c rfl,.c rfl,.c rfl,aa⟩ ⟨.d rfl rfl,.d rfl rfl,.c (aL some (kM).symm),.d rfl rfl,.d rfl bS,aa⟩ trivial (bp (.d rfl) (bp (.d rfl) (bp (.c (kM)) (bp (.d rfl) (bp (.d bS) fS))))) (.d rfl) ?_;conv=>whnf
 refine be ?_;exact Tr.tab [] [] ⟨.sm,aa⟩ ⟨.sm,.sm,.rn rfl rfl (jr fun _=>rfl) (jp fun _=>rfl),.sm,.sm rfl rfl bS,.rn,.rn,.rn,.rn,aa⟩ rfl
noncomputable def Fk(R:List Cl)(f:Rat)(acc:List Lf)(n left:Nat)(k:Int):SS:=aR [(0,ae (.nil 3)),(1,ae (bA left)),(2,.w (.one (.ptr 5 0 0))),(3,.w (.one (.ptr 6 0 0))),(4,.w (.one (.ptr 7 0 0))),(5,.w (.one (.ptr 8 0 0))),(8,ae (bA k))]
 (mf 0 (zT R f acc n)) 9
def SX(ls:List (List Int)):(ls.map fun p=>([]:List Int)++mq p)=ls.map mq:=by simp
structure PT0(R:List Cl)(acc:List Lf)(m e:Nat):Prop where
 hn:1+m<=4
 he:e+1<=R.length
 hR:R.length<=100
 ha:acc.length+(cR (m+1) e).length<10000
 h4:∀x∈acc,x.1.length<=4
def W3(J:Keep){R:List Cl}{j:Nat}(hR:jH R j){f:Rat}:∀(m:Nat) {acc:List Lf} {e:Nat} (hp:PT0 R acc m e),
 LocC (XS J) 68 (ae (.nil 3)::ae (di ((e+(m+1):Nat):Int))::gT) (zT R f acc (m+1)) (.tup []) (zT R f (acc++lf f ((cR (m+1) e).map mq)) (m+1))
 |0,acc,e,hp=>by
  have:=hp.ha;rw[Co] at this ⊢;exact Wl J hR hp.he hp.hR (by simp at this;omega) hp.h4
 |m+1,acc,e,hp=>by
  refine lT Tryz.func68 rfl rfl rfl ⟨.c rfl,.c rfl,.c rfl,.c rfl,.c rfl,.c rfl,aa⟩ ⟨.d rfl,.d rfl,kN,.d rfl,.d bS,.c rfl,.c rfl,.c rfl,.c rfl,aa⟩ (.inr rfl) ⟨.d rfl,.d rfl,kN ?_,.d rfl,.d bS,.c rfl,.c rfl,.c rfl,.c rfl,aa⟩ ?_
  . rfl
  have h2:=hp.hn;have he:=hp.he;have hR1:=hp.hR;have ha:=hp.ha;obtain⟨left,eleft⟩:∃n,e+(m+1+1)=n:=⟨_,rfl⟩;rw[eleft];refine be ?_;refine cq (G:={ t:Nat // t<=e+1 }) (fun t=>Fk R f (acc++lf f (gI [] m e t.1)) (m+1+1) left ((e:Int)+1-(t.1:Int))) (fun t=>e+1-t.1) ⟨0,ba _⟩
   (Tr.tab [] [] ⟨.sm,.sm,.rn,.rn,.rn,.rn,.sm (iq (by dsimp only;omega)),aa⟩ ⟨.sm,.sm rfl ?_ rfl,?_,.sm,.sm rfl ?_ bS,.rn,.rn,.rn,.rn,aa⟩ rfl) ?_
  . show some (r9 (eZ R acc))=some (r9 (eZ R (acc ++ [])));rw[eS]
  . show BoxT [] [] _ 2 (some (ku acc)) (ku (acc ++ []));rw[eS];exact .rn rfl rfl (jr fun _=>rfl) (jp fun _=>rfl)
  . show some (ol R acc)=some (ol R (acc ++ []));rw[eS]
  rintro⟨t,ht⟩;obtain⟨acc1,e1⟩:∃a,acc++lf f (gI [] m e t)=a:=⟨_,rfl⟩;show SW (XS J) _ _ _ _ (Fk R f (acc++lf f (gI [] m e t)) (m+1+1) left ((e:Int)+1-(t:Int))) _;rw[e1];by_cases h:t<=e
  .
   obtain⟨k,ek⟩:∃k:Int,(e:Int)+1-(t:Int)=k:=⟨_,rfl⟩;have ek2:((e-t:Nat):Int)+1=k:=by omega
   rw[ek];have hk:IntKind.i64.wrap ((left:Int)-k)=((t+(m+1):Nat):Int):=by rw[cZ];omega
   have h5:=Hd (l:=[]) (m:=m) (e:=e) (t:=t+1) (t':=e+1);rw[yg,aV] at h5;have h6:(cR (m+2) e).length=(cR (m+1+1) e).length:=rfl;rw[vf,bg,aV] at h5;have hal:acc1.length=acc.length+(gI [] m e t).length:=by rw[<-e1,bg,zM]
   have ih:=M5 J hR (f:=f) m (acc:=acc1) (l:=[k]) (e:=t) (u:=0) (c:=1) (vs:=[(0,1)]) rfl (ah _)
    ⟨by simp;omega,by rw[<-ek2];exact yh (l:=[]),by omega,hp.hR,by omega,by rw[<-e1];exact MA hp.h4 fun x hx=>by have:=H9 x hx;simp at this;omega⟩
    (fun q hq=>by rw[fg] at hq;subst hq;exact ah _) (by simp only[aY,oF];omega)
   rw[show [k].length+1+m=m+1+1 by simp only[aY,oF];omega] at ih;repeat (first|(refine aG ?_)|(refine And.intro rfl (aM hk ?_);conv=>whnf)|(refine aJ ?_))
   refine iB ih [0,1,2,3,4,5,6,7,8,10] 0 rfl ⟨.c rfl,.d rfl,.c rfl,.c rfl,.c rfl,.c rfl,aa⟩ ⟨.d rfl rfl,.d rfl rfl,.c (aL some (kM).symm),.d rfl rfl,.d rfl bS,.c rfl,.c rfl,.c rfl,.c rfl,.d rfl fQ,aa⟩ trivial (bp (.d rfl) (bp (.d rfl) (bp (.c (kM)) (bp (.d rfl) (bp (.d bS) (bp (.c rfl) (bp (.c rfl) (bp (.c rfl) (bp (.c rfl) (bp (.d fQ) fS)))))))))) (.d rfl) ?_;conv=>whnf
   refine be ?_;refine⟨⟨t+1,by omega⟩,?_,by dsimp only;omega⟩;show Tr _ _ (Fk R f (acc++lf f (gI [] m e (t+1))) (m+1+1) left ((e:Int)+1-((t+1:Nat):Int)));rw[vf,LS,<-dI,e1,ek2];exact Tr.tab [] [] ⟨.sm,.sm,.rn,.rn,.rn,.rn,.sm (iq),aa⟩ ⟨.sm,.sm,.rn rfl rfl (jr fun _=>rfl) (jp fun _=>rfl),.sm,.sm rfl rfl bS,.rn,.rn,.rn,.rn,aa⟩ rfl
  have e6:t=e+1:=by omega
  subst e6;rw[yg,SX] at e1;rw[show acc++lf f ((cR (m+1+1) e).map mq)=acc1 from e1];refine be ?_;exact Tr.tab [] [] ⟨.sm,aa⟩ ⟨.sm,.sm,.rn rfl rfl (jr fun _=>rfl) (jp fun _=>rfl),.sm,.sm rfl rfl bS,.rn,.rn,.rn,.rn,aa⟩ rfl
def VW(J:Keep){R:List Cl}{j:Nat}(hR:jH R j){f:Rat}{acc:List Lf}{m e:Nat}(hp:PT0 R acc m e) :
 LocC (XS J) 30 [ae (di (m+1:Nat)),ae (di 1),ae (di ((e+(m+1):Nat):Int)),.w (.one (.clo 31 [0,1,2,3]))] (d5 R f acc) (.tup []) (d5 R f (acc++lf f (jq (m+1) (e+(m+1))))):=by
 have es:jq (m+1) (e+(m+1))=(cR (m+1) e).map mq:=by
  unfold jq;rw[au (by omega),show e+(m+1)-(m+1)=e by omega];rfl
 rw[es];have h2:=hp.hn;have he:=hp.he;have hR1:=hp.hR;refine lT Tryz.func30 rfl rfl rfl ⟨.c rfl,.c rfl,.c rfl,.c rfl,aa⟩ ⟨.d rfl,.d rfl,kN,.d rfl,.d bS,aa⟩ (.inr rfl) ⟨.d rfl,.d rfl,kN ?_,.d rfl,.d bS,aa⟩ ?_
 . rfl
 repeat (first|(refine aG ?_)|(refine SW.condT rfl ?_)|(refine aJ ?_))
 refine iB (W3 J hR m hp) [0,1,2,3,4,5,7,6,8] 0 rfl ⟨.d rfl,.d rfl,.c rfl,.c rfl,.c rfl,.c rfl,aa⟩ ⟨.d rfl rfl,.d rfl rfl,.c (aL some (kM).symm),.d rfl rfl,.d rfl bS,.c rfl,.c rfl,.c rfl,.c rfl,aa⟩ trivial (bp (.d rfl) (bp (.d rfl) (bp (.c (kM)) (bp (.d rfl) (bp (.d bS) (bp (.c rfl) (bp (.c rfl) (bp (.c rfl) (bp (.c rfl) fS))))))))) (.d rfl) ?_;conv=>whnf
 skip
 exact Tr.tab [] [] ⟨.sm,aa⟩ ⟨.sm,.sm,.rn rfl rfl (jr fun _=>rfl) (jp fun _=>rfl),.sm,.sm rfl rfl bS,aa⟩ rfl
end Go.Proofs.En
namespace Go.Proofs.En
open Go.RowKit Go.Proofs.Fl Go.Proofs.Dig
attribute [local irreducible] IntKind.wrap aW bc bj bm SW c7 CallOk To Tr ct
open Go.Proofs.Reg
abbrev Cg:=Int×List (List IV)×List IV
def iu(c:Cg):IV:=jl c.1 c.2.1 c.2.2
def iP(c:Cg):Bool:=!rF c.1 c.2.1 c.2.2 || !decide (c.1=1)
def LG(J:Keep){c:Cg}(hf:c.2.1.length<2^60):Go.Proofs.Fl.C J 23 [iu c] (.bool (iP c)):=by
 obtain⟨n,f,w⟩:=c;refine pS Tryz.func23 rfl rfl rfl rfl rfl ?_;have c1:=Ki J (n:=n) (w:=w) hf;unfold iu iP;dsimp only;cases h1:rF n f w with
 |false=>
  rw[h1] at c1;unfold jl at c1 ⊢;repeat (first|(refine aG ?_)|((first|refine cY ?_|refine aD c1 ?_);conv=>whnf)|(refine aJ ?_))
  rfl
 |true=>
  rw[h1] at c1;unfold jl at c1 ⊢;by_cases h2:n=1
  . rw[bB h2];repeat (first|(refine aG ?_)|((first|refine dX ?_|refine aD c1 ?_);conv=>whnf)|(refine aJ ?_))
    rfl
  rw[bE h2];repeat (first|(refine aG ?_)|((first|refine dX ?_|refine aD c1 ?_);conv=>whnf)|(refine aJ ?_))
  rfl
end Go.Proofs.En
namespace Go.Proofs.Fl
open Go.RowKit Go.Proofs.Dig
attribute [local irreducible] IntKind.wrap aW bc bj bm
open Go.Proofs.En (Cg iu iP LG)
def VL(J:Keep){l:List Cg}(hl:l.length<2^50)(hf:∀c∈l,c.2.1.length<2^60):C J 66 [.sl (l.map iu),.fn 23] (.int .i64 (nG iP l)):=by
 have la:(l.map iu).length=l.length:=by simp
 obtain⟨r,hr⟩:∃r,nG iP l=r:=⟨_,rfl⟩;rw[hr];refine aN Tryz.func66 rfl rfl rfl ?_;refine aK ?_;refine W.loop (G:={ t:Nat // t<=l.length/\∀y∈l.take t,iP y=false }) (fun t=>aF [(0,.iv (.sl (l.map iu))),(1,.iv (.fn 23)),(6,.iv (.sl (l.map iu))),(7,.iv (.int .i64 (l.length:Int))),(8,.iv (.int .i64 (t.1:Int)))] [] 20) (fun t=>l.length-t.1) ⟨0,ba _,by simp⟩
  (Wk.tab [] ⟨ab,ab,ab,⟨df (by rw[la]),rfl⟩,ab,aa⟩ trivial rfl) ?_
 rintro⟨t,ht,hz⟩;show W J _ _ (aF [(0,.iv (.sl (l.map iu))),(1,.iv (.fn 23)),(6,.iv (.sl (l.map iu))),(7,.iv (.int .i64 (l.length:Int))),(8,.iv (.int .i64 (t:Int)))] [] 20) _;by_cases h:t<l.length
 .
  obtain⟨⟨n,f,w⟩,hlx⟩:∃x,l[t]?=some x:=⟨_,bi h⟩;have gx:(l.map iu)[t]?=some (.agg [.int .i64 n,.sl (f.map IV.sl),.sl w]):=by rw[bI,hlx];rfl
  have c1:C J 23 [.agg [.int .i64 n,.sl (f.map IV.sl),.sl w]] (.bool (iP (n,f,w))):=LG J (c:=(n,f,w)) (hf _ (bN hlx));cases h0:iP (n,f,w) with
  |true=>
   rw[h0] at c1;have e:=KD hz hlx h0;rw[hr] at e;subst e;repeat (first|(refine af ?_)|((first|refine⟨_,c1,?_⟩|refine⟨t,_,rfl,gx,rfl,?_⟩);conv=>whnf)|(refine ap ?_))
   rfl
  |false=>
   rw[h0] at c1;repeat (first|(refine af ?_)|((first|refine⟨_,c1,?_⟩|refine⟨t,_,rfl,gx,rfl,?_⟩);conv=>whnf)|(refine ap ?_))
   exact⟨⟨t+1,h,GX hz hlx h0⟩,Wk.tab [] ⟨ab,ab,ab,ab,ab,aa⟩ trivial rfl,by dsimp only;omega⟩
 have e:t=l.length:=by omega
 subst e;rw[cN] at hz;have e:=CJ hz;rw[hr] at e;subst e;refine aK ?_;rfl
def D5(J:Keep){l:List Cg}(hl:l.length<2^50)(hf:∀c∈l,c.2.1.length<2^60):C J 25 [.sl (l.map iu),.fn 23] (.bool (l.any iP)):=by
 rw[<-KE];refine aN Tryz.func25 rfl rfl rfl ?_;have c1:=VL J hl hf;repeat (first|(refine af ?_)|(refine⟨_,c1,?_⟩;conv=>whnf)|(refine ap ?_))
 rfl
end Go.Proofs.Fl
namespace Go.Proofs.Fl
open Go.RowKit Go.Proofs.Dig
attribute [local irreducible] IntKind.wrap aW bc bj bm
def IO(q:Rat):¬(32:UInt8)∈eX q:=by
 have hz:∀z:Int,¬(32:UInt8)∈eE z:=fun z=>by
  unfold eE;split
  . simp;exact rm (by decide)
  simp;exact rm (by decide)
 unfold eX;split
 . exact hz _
 intro h;simp only[qB,fg] at h;rcases h with(h|h)|h
 . exact hz _ h
 . cases h
 exact rm (by decide) h
def IS:∀{a b:List Rat},b9 a=b9 b->a=b
 | [],[],_=>rfl
 | [],y::b,h=>by
  have:(32:UInt8)∈b9 (y::b):=by simp[b9]
  rw[<-h] at this;cases this
 |x::a,[],h=>by
  have:(32:UInt8)∈b9 (x::a):=by simp[b9]
  rw[h] at this;cases this
 |x::a,y::b,h=>by
  have h:eX x++32::b9 a=eX y++32::b9 b:=by
   have e:∀(z:Rat) (l:List Rat),b9 (z::l)=eX z++32::b9 l:=fun z l=>by simp[b9]
   rw[<-e,<-e];exact h
  obtain⟨h1,h2⟩:=C8 h (IO x) (IO y);rw[HZ h1,IS h2]
end Go.Proofs.Fl
