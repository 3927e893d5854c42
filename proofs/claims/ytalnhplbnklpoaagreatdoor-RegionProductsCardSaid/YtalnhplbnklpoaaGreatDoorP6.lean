/-
  A part of the proof of regionProducts_card.
-/
import Derived.Test.YtalnhplbnklpoaaGreatDoorP5
set_option maxHeartbeats 8000000
namespace Go.Proofs
open Go
abbrev AR:=@Rat.zero_add
abbrev AT:=@Rat.add_zero
abbrev AU:=@List.range_succ
abbrev FA:=@Rat.one_mul
abbrev Fx:=@List.pairwise_singleton
abbrev Fy:=@List.flatMap_nil
abbrev Fz:=@Rat.pow_zero
abbrev NE:=@List.pairwise_map
abbrev NF:=@List.flatMap_map
abbrev NG:=@List.set_cons_zero
abbrev NH:=@List.mem_take_iff_getElem
abbrev NI:=@decide_eq_false_iff_not
abbrev NJ:=@Decidable.not_not
abbrev XY:=@List.findIdx?_eq_some_iff_getElem
abbrev iP:=@List.flatMap_append
abbrev n7:=@Rat.add_assoc
abbrev pF:=@List.all_append
abbrev wD:=@Rat.add_comm
abbrev wE:=@Nat.one_le_two_pow
end Go.Proofs
namespace Go.Proofs.En
open Go.RowKit Go.Proofs.Fl Go.Proofs.Dig
def val(l:List Rat)(c:Int×Nat):Rat:=match c.2 with
 |0=>l.getD c.1.toNat 0
 |d+1=>mkRat c.1 (d+1)
noncomputable def ZL(l:List Rat):QS:=⟨fun n d=>qr (val l (n,d)),3,fun n d=>⟨_,rfl,rfl⟩⟩
section
variable {Z:QS}(hz:Z.qv 0 1 = .agg [.sl [], .bool false, .sl []])(hn:Z.qn = 3)
include hz in
end
theorem PI(l:List Rat)(t:me)(y:EW)(h:ot t=some y):∃i z,Tryz.prog.info? t=some i/\i.zero=some z/\∀H U,WR (ZL l) H U z y:=by
 unfold ot at h;split at h
 . rename_i ty ht;cases hn:qR t with
   |true=>rw[hn] at h;cases h
   |false=>
    rw[hn] at h;simp only[aX,ae] at h;subst h;obtain⟨i,z,h1,h2,h3⟩:=Bn ht hn;exact⟨i,z,h1,h2,fun H U=>HK h3⟩
 . cases h
noncomputable def XL(J:Keep)(l:List Rat):EX:=⟨Tryz.prog,BS,vo,mixed,J.I,ZL l,PI l,CI⟩
structure Fc where
 f:Nat
 xs:List (Int×Nat)
 r:(Int×Nat) ⊕ Int
def vd:List ES->Option (List (Int×Nat))
 | []=>some []
 | .w (.q n d)::l=>match vd l with
  |some cs=>some ((n,d)::cs)
  |none=>none
 |_=>none
def sN:List (Int×Nat)->List (Int×Nat)->Bool
 | [],[]=>true
 |a::l,b::m=>Nat.beq a.2 b.2&&(decide (a.1=b.1)&&sN l m)
 |_,_=>false
theorem BX:∀{l m:List (Int×Nat)},sN l m=true->l=m
 | [],[],_=>rfl
 |a::l,b::m,h=>by
  simp only[sN,az,dL] at h;obtain⟨h1,h2,h3⟩:=h;rw[BX h3,show a=b from Prod.ext h2 (av h1)]
def zq(f:Nat)(cs:List (Int×Nat)):List Fc->Option ES
 | []=>none
 |c::l=>bif Nat.beq c.f f&&sN c.xs cs then(match c.r with
  | .inl (n,d)=>some (.w (.q n d))
  | .inr k=>some (ac (.int .i64 k))) else zq f cs l
def Ef(T:List Fc)(f:qe)(args:List ES)(s:Hs):Option (ES×Hs):=match vd args with
 |some cs=>match zq f cs T with
  |some r=>some (r,s)
  |none=>none
 |none=>match args with
  | [.w (.one (.iv (.int .i64 n)))]=>bif Nat.beq f 70&&i64 n then some (.w (.q n 1),s) else none
  |_=>none
noncomputable def resF(l:List Rat):(Int×Nat) ⊕ Int->IV
 | .inl c=>qr (val l c)
 | .inr k=>.int .i64 k
def mI(J:Keep)(l:List Rat)(c:Fc):Prop:=C J c.f (c.xs.map fun x=>qr (val l x)) (resF l c.r)
theorem BM{l:List Rat}{H:ah}{U:Bm}:∀{args:List ES} {cs:List (Int×Nat)} {vs:List X3},vd args=some cs->SREL (ZL l) H U vs args->VRL H vs (cs.map fun x=>qr (val l x))
 | [],cs,[],h,_=>by
  simp only[vd,ae] at h;subst h;exact .nil
 |a::args,cs,v::vs,h,⟨h1,h2⟩=>by
  unfold vd at h;split at h
  . rename_i e;cases e
  . rename_i n d l' e;cases e;split at h
    . rename_i cs' hc;simp only[ae] at h;subst h;exact .cons _ _ _ _ h1 (BM hc h2)
    . cases h
  . cases h
 | [],_,_::_,_,h=>h.elim
 |_::_,_,[],_,h=>h.elim
theorem Ie{f:Nat}{cs:List (Int×Nat)}{r:ES}:∀{T:List Fc},zq f cs T=some r->∃c∈T,c.f=f/\c.xs=cs/\r=(match c.r with
 | .inl (n,d)=>.w (.q n d)
 | .inr k=>ac (.int .i64 k))
 | [],h=>by cases h
 |c::T,h=>by
  unfold zq at h;cases hb:(Nat.beq c.f f&&sN c.xs cs) with
  |true=>
   rw[hb,af] at h;simp only[az] at hb;refine⟨c,by simp,av hb.1,BX hb.2,?_⟩;split at h<;>(simp only[ae] at h;subst h;rfl)
  |false=>
   rw[hb,aX] at h;obtain⟨d,h1,h2⟩:=Ie h;exact⟨d,by simp[h1],h2⟩
theorem xK{X:EX}{f:qe}{xs:List IV}{r:IV}{args:List ES}{res:ES}{h:Hp}(hc:a7 X.P X.I f xs r)(ha:∀H U vs,SREL X.Z H U vs args->VRL H vs xs)(hr:∀H U v,VR H v r->SRe X.Z H U v res):CallOk X f args h res h:=by
 refine⟨hc.1,fun E hI H U w vs hs hv=>?_⟩;refine(hc.2 H w vs (hI w hs.below) hs.has (ha H U vs hv)).mono ?_;rintro e w' ⟨v,H',rfl,h1,h2,h3,h4⟩;exact⟨v,H',U,rfl,h2.1,BLe.refl _,hs.grow h4 h1 h2,MarkSame.below h4,hr _ _ _ h3⟩
theorem Tc{J:Keep}{l:List Rat}{T:List Fc}(hT:∀c∈T,mI J l c):iX (XL J l) (Ef T):=by
 intro f args s r s' he;unfold Ef at he;split at he
 . rename_i cs hcs;split at he
   . rename_i r0 hr0;simp only[ae,aA] at he;obtain⟨rfl,rfl⟩:=he;refine⟨LogOk.refl _,?_⟩;obtain⟨c,h1,h2,h3,h4⟩:=Ie hr0;have hc:=hT c h1;unfold mI at hc;rw[h2,h3] at hc;refine xK (X:=XL J l) hc (fun H U vs hv=>BM hcs hv) fun H U v hv=>?_;rw[h4];cases hr:c.r with
     |inl x=>rw[hr] at hv;exact hv
     |inr k=>
      rw[hr] at hv;have:=VR.asInt hv;subst this;exact⟨rfl,hv⟩
   . cases he
 . split at he
   . rename_i n _;cases hb:(Nat.beq f 70&&i64 n) with
     |false=>rw[hb] at he;cases he
     |true=>
      rw[hb,af] at he;simp only[ae,aA] at he;obtain⟨rfl,rfl⟩:=he;simp only[az] at hb;have hf:=av hb.1;subst hf;have hn:=yL hb.2;refine⟨LogOk.refl _,xK (X:=XL J l) (pZ J hn.1 hn.2) (fun H U vs hv=>?_) fun H U v hv=>?_⟩
      . exact SREL.data (Z:=ZL l) (U:=U) (xs:=[.int .i64 n]) rfl hv
      . show VR H v (qr (val l (n,1)));rw[show val l (n,1)=(n:Rat) from Rat.mkRat_one n];exact hv
   . cases he
def fe(fn:Func):Option FnE:=match fn.body with
 |some b=>some ⟨fn.ntmps,fn.results.toList,b⟩
 |none=>none
noncomputable def fv(f:Func):PT FnE:=.node .nil (fe f) .nil
noncomputable def K2:PT FnE:=(.node (.node (.node (.node (.node (.node (.node (.node (fv Tryz.f255) (fe Tryz.f127) .nil) (fe Tryz.f63) (fv Tryz.f191)) (fe Tryz.f31) (.node (.node (fv Tryz.f287) (fe Tryz.f159) .nil) (fe Tryz.f95) (fv Tryz.f223))) (fe Tryz.f15) (.node (.node (.node (fv Tryz.f271) (fe Tryz.f143) .nil) (fe Tryz.f79) (fv Tryz.f207)) (fe Tryz.f47) (.node (fv Tryz.f175) (fe Tryz.f111) (fv Tryz.f239)))) (fe Tryz.f7) (.node (.node (.node (.node (fv Tryz.f263) (fe Tryz.f135) .nil) (fe Tryz.f71) (fv Tryz.f199)) (fe Tryz.f39) (.node (fv Tryz.f167) (fe Tryz.f103) (fv Tryz.f231))) (fe Tryz.f23) (.node (.node (.node (fv Tryz.f279) (fe Tryz.f151) .nil) (fe Tryz.f87) (fv Tryz.f215)) (fe Tryz.f55) (.node (fv Tryz.f183) (fe Tryz.f119) (fv Tryz.f247))))) (fe Tryz.f3) (.node (.node (.node (.node (.node (fv Tryz.f259) (fe Tryz.f131) .nil) (fe Tryz.f67) (fv Tryz.f195)) (fe Tryz.f35) (.node (fv Tryz.f163) (fe Tryz.f99) (fv Tryz.f227))) (fe Tryz.f19) (.node (.node (.node (fv Tryz.f275) (fe Tryz.f147) .nil) (fe Tryz.f83) (fv Tryz.f211)) (fe Tryz.f51) (.node (fv Tryz.f179) (fe Tryz.f115) (fv Tryz.f243)))) (fe Tryz.f11) (.node (.node (.node (.node (fv Tryz.f267) (fe Tryz.f139) .nil) (fe Tryz.f75) (fv Tryz.f203)) (fe Tryz.f43) (.node (fv Tryz.f171) (fe Tryz.f107) (fv Tryz.f235))) (fe Tryz.f27) (.node (.node (.node (fv Tryz.f283) (fe Tryz.f155) .nil) (fe Tryz.f91) (fv Tryz.f219)) (fe Tryz.f59) (.node (fv Tryz.f187) (fe Tryz.f123) (fv Tryz.f251)))))) (fe Tryz.f1) (.node (.node (.node (.node (.node (.node (fv Tryz.f257) (fe Tryz.f129) .nil) (fe Tryz.f65) (fv Tryz.f193)) (fe Tryz.f33) (.node (fv Tryz.f161) (fe Tryz.f97) (fv Tryz.f225))) (fe Tryz.f17) (.node (.node (.node (fv Tryz.f273) (fe Tryz.f145) .nil) (fe Tryz.f81) (fv Tryz.f209)) (fe Tryz.f49) (.node (fv Tryz.f177) (fe Tryz.f113) (fv Tryz.f241)))) (fe Tryz.f9) (.node (.node (.node (.node (fv Tryz.f265) (fe Tryz.f137) .nil) (fe Tryz.f73) (fv Tryz.f201)) (fe Tryz.f41) (.node (fv Tryz.f169) (fe Tryz.f105) (fv Tryz.f233))) (fe Tryz.f25) (.node (.node (.node (fv Tryz.f281) (fe Tryz.f153) .nil) (fe Tryz.f89) (fv Tryz.f217)) (fe Tryz.f57) (.node (fv Tryz.f185) (fe Tryz.f121) (fv Tryz.f249))))) (fe Tryz.f5) (.node (.node (.node (.node (.node (fv Tryz.f261) (fe Tryz.f133) .nil) (fe Tryz.f69) (fv Tryz.f197)) (fe Tryz.f37) (.node (fv Tryz.f165) (fe Tryz.f101) (fv Tryz.f229))) (fe Tryz.f21) (.node (.node (.node (fv Tryz.f277) (fe Tryz.f149) .nil) (fe Tryz.f85) (fv Tryz.f213)) (fe Tryz.f53) (.node (fv Tryz.f181) (fe Tryz.f117) (fv Tryz.f245)))) (fe Tryz.f13) (.node (.node (.node (.node (fv Tryz.f269) (fe Tryz.f141) .nil) (fe Tryz.f77) (fv Tryz.f205)) (fe Tryz.f45) (.node (fv Tryz.f173) (fe Tryz.f109) (fv Tryz.f237))) (fe Tryz.f29) (.node (.node (.node (fv Tryz.f285) (fe Tryz.f157) .nil) (fe Tryz.f93) (fv Tryz.f221)) (fe Tryz.f61) (.node (fv Tryz.f189) (fe Tryz.f125) (fv Tryz.f253))))))) (fe Tryz.f0) (.node (.node (.node (.node (.node (.node (.node (fv Tryz.f256) (fe Tryz.f128) .nil) (fe Tryz.f64) (fv Tryz.f192)) (fe Tryz.f32) (.node (fv Tryz.f160) (fe Tryz.f96) (fv Tryz.f224))) (fe Tryz.f16) (.node (.node (.node (fv Tryz.f272) (fe Tryz.f144) .nil) (fe Tryz.f80) (fv Tryz.f208)) (fe Tryz.f48) (.node (fv Tryz.f176) (fe Tryz.f112) (fv Tryz.f240)))) (fe Tryz.f8) (.node (.node (.node (.node (fv Tryz.f264) (fe Tryz.f136) .nil) (fe Tryz.f72) (fv Tryz.f200)) (fe Tryz.f40) (.node (fv Tryz.f168) (fe Tryz.f104) (fv Tryz.f232))) (fe Tryz.f24) (.node (.node (.node (fv Tryz.f280) (fe Tryz.f152) .nil) (fe Tryz.f88) (fv Tryz.f216)) (fe Tryz.f56) (.node (fv Tryz.f184) (fe Tryz.f120) (fv Tryz.f248))))) (fe Tryz.f4) (.node (.node (.node (.node (.node (fv Tryz.f260) (fe Tryz.f132) .nil) (fe Tryz.f68) (fv Tryz.f196)) (fe Tryz.f36) (.node (fv Tryz.f164) (fe Tryz.f100) (fv Tryz.f228))) (fe Tryz.f20) (.node (.node (.node (fv Tryz.f276) (fe Tryz.f148) .nil) (fe Tryz.f84) (fv Tryz.f212)) (fe Tryz.f52) (.node (fv Tryz.f180) (fe Tryz.f116) (fv Tryz.f244)))) (fe Tryz.f12) (.node (.node (.node (.node (fv Tryz.f268) (fe Tryz.f140) .nil) (fe Tryz.f76) (fv Tryz.f204)) (fe Tryz.f44) (.node (fv Tryz.f172) (fe Tryz.f108) (fv Tryz.f236))) (fe Tryz.f28) (.node (.node (.node (fv Tryz.f284) (fe Tryz.f156) .nil) (fe Tryz.f92) (fv Tryz.f220)) (fe Tryz.f60) (.node (fv Tryz.f188) (fe Tryz.f124) (fv Tryz.f252)))))) (fe Tryz.f2) (.node (.node (.node (.node (.node (.node (fv Tryz.f258) (fe Tryz.f130) .nil) (fe Tryz.f66) (fv Tryz.f194)) (fe Tryz.f34) (.node (fv Tryz.f162) (fe Tryz.f98) (fv Tryz.f226))) (fe Tryz.f18) (.node (.node (.node (fv Tryz.f274) (fe Tryz.f146) .nil) (fe Tryz.f82) (fv Tryz.f210)) (fe Tryz.f50) (.node (fv Tryz.f178) (fe Tryz.f114) (fv Tryz.f242)))) (fe Tryz.f10) (.node (.node (.node (.node (fv Tryz.f266) (fe Tryz.f138) .nil) (fe Tryz.f74) (fv Tryz.f202)) (fe Tryz.f42) (.node (fv Tryz.f170) (fe Tryz.f106) (fv Tryz.f234))) (fe Tryz.f26) (.node (.node (.node (fv Tryz.f282) (fe Tryz.f154) .nil) (fe Tryz.f90) (fv Tryz.f218)) (fe Tryz.f58) (.node (fv Tryz.f186) (fe Tryz.f122) (fv Tryz.f250))))) (fe Tryz.f6) (.node (.node (.node (.node (.node (fv Tryz.f262) (fe Tryz.f134) .nil) (fe Tryz.f70) (fv Tryz.f198)) (fe Tryz.f38) (.node (fv Tryz.f166) (fe Tryz.f102) (fv Tryz.f230))) (fe Tryz.f22) (.node (.node (.node (fv Tryz.f278) (fe Tryz.f150) .nil) (fe Tryz.f86) (fv Tryz.f214)) (fe Tryz.f54) (.node (fv Tryz.f182) (fe Tryz.f118) (fv Tryz.f246)))) (fe Tryz.f14) (.node (.node (.node (.node (fv Tryz.f270) (fe Tryz.f142) .nil) (fe Tryz.f78) (fv Tryz.f206)) (fe Tryz.f46) (.node (fv Tryz.f174) (fe Tryz.f110) (fv Tryz.f238))) (fe Tryz.f30) (.node (.node (.node (fv Tryz.f286) (fe Tryz.f158) .nil) (fe Tryz.f94) (fv Tryz.f222)) (fe Tryz.f62) (.node (fv Tryz.f190) (fe Tryz.f126) (fv Tryz.f254))))))))
noncomputable def Ap(f:qe):Option FnE:=bif Nat.blt f 288 then K2.get f else none
theorem TU:(List.range 288).map K2.get=Tryz.prog.funcs.toList.map fe:=by kernel_rfl
theorem Rl:(Tryz.prog.funcs.toList.all fun fn=>!(fn.name == "runtime.NumGoroutine"))=true:=by kernel_rfl
theorem np{X:EX}(hP:X.P=Tryz.prog):∀f q,Ap f=some q->∃fn,FnOk X f q fn:=by
 intro f q h;unfold Ap at h;cases hb:Nat.blt f 288 with
 |false=>rw[hb] at h;cases h
 |true=>
  rw[hb,af] at h;have hl:f<288:=by rwa[cY] at hb
  have e:=aJ (fun l=>l[f]?) TU;simp only[bQ,EZ hl,fa] at e;rw[h] at e;cases hfn:Tryz.prog.funcs.toList[f]? with
  |none=>rw[hfn] at e;cases e
  |some fn=>
   rw[hfn] at e;simp only[fa,ae] at e;unfold fe at e;split at e
   . rename_i b hb;simp only[ae] at e;subst e;have hm:=List.all_eq_true.1 Rl fn (bV hfn);refine⟨fn,?_,hb,rfl,rfl,by simpa using hm⟩;rw[hP,<-tL];exact hfn
   . cases e
end Go.Proofs.En
namespace Go.Proofs.En
open Go.RowKit Go.Proofs.Fl
def At:List UInt8->List UInt8->Bool
 | [],[]=>true
 |a::l,b::m=>Nat.beq a.toNat b.toNat&&At l m
 |_,_=>false
def Ep:IV->IV->Bool
 | .bool true,.bool true=>true
 | .bool false,.bool false=>true
 | .int k n,.int k' n'=>decide (k=k')&&decide (n=n')
 | .str s,.str s'=>At s s'
 | .fn f,.fn g=>Nat.beq f g
 | .nil a,.nil b=>Nat.beq a b
 | .sl [],.sl []=>true
 |_,_=>false
def EQ:Cap->Cap->Bool
 | .ex a,.ex b=>Nat.beq a b
 | .fin a,.fin b=>Nat.beq a b
 |_,_=>false
def As:List Nat->List Nat->Bool
 | [],[]=>true
 |a::l,b::m=>Nat.beq a b&&As l m
 |_,_=>false
def zR:EV->EV->Bool
 | .iv x,.iv y=>Ep x y
 | .qc n d j,.qc n' d' j'=>decide (n=n')&&(Nat.beq d d'&&Nat.beq j j')
 | .ptr g u o,.ptr g' u' o'=>Nat.beq g g'&&(Nat.beq u u'&&Nat.beq o o')
 | .slc g u o n c,.slc g' u' o' n' c'=>Nat.beq g g'&&(Nat.beq u u'&&(Nat.beq o o'&&(Nat.beq n n'&&EQ c c')))
 | .clo f gs,.clo f' gs'=>Nat.beq f f'&&As gs gs'
 | .mp g,.mp g'=>Nat.beq g g'
 |_,_=>false
def vj:List EV->List EV->Bool
 | [],[]=>true
 |a::l,b::m=>zR a b&&vj l m
 |_,_=>false
def Er:EW->EW->Bool
 | .one a,.one b=>zR a b
 | .agg a,.agg b=>vj a b
 | .q n d,.q n' d'=>decide (n=n')&&Nat.beq d d'
 |_,_=>false
def Es:ES->ES->Bool
 | .w a,.w b=>Er a b
 | .und,.und=>true
 |_,_=>false
def Ar:List (Nat×Nat)->List (Nat×Nat)->Bool
 | [],[]=>true
 |a::l,b::m=>Nat.beq a.1 b.1&&(Nat.beq a.2 b.2&&Ar l m)
 |_,_=>false
def EP:EO->EO->Bool
 | .mem e cs fz vs c,.mem e' cs' fz' vs' c'=>Nat.beq e e'&&(vj cs cs'&&((match fz,fz' with
  |true,true=>true
  |false,false=>true
  |_,_=>false)&&(Ar vs vs'&&Nat.beq c c')))
 |_,_=>false
theorem Lb:∀{a b:List UInt8},At a b=true->a=b
 | [],[],_=>rfl
 |a::l,b::m,h=>by
  simp only[At,az] at h;rw[Lb h.2,UInt8.toNat_inj.1 (av h.1)]
theorem Uv{a b:IV}(h:Ep a b=true):a=b:=by
 unfold Ep at h;split at h<;>first
  |rfl
  | (simp only[az,dL] at h;rw[h.1,h.2])
  | (rw[Lb h])
  | (rw[av h])
  |cases h
theorem VO{a b:Cap}(h:EQ a b=true):a=b:=by
 unfold EQ at h;split at h<;>first|(rw[av h])|cases h
theorem La:∀{a b:List Nat},As a b=true->a=b
 | [],[],_=>rfl
 |a::l,b::m,h=>by
  simp only[As,az] at h;rw[La h.2,av h.1]
theorem Ka{a b:EV}(h:zR a b=true):a=b:=by
 unfold zR at h;split at h
 . rw[Uv h]
 . simp only[az,dL] at h;rw[h.1,av h.2.1,av h.2.2]
 . simp only[az] at h;rw[av h.1,av h.2.1,av h.2.2]
 . simp only[az] at h;rw[av h.1,av h.2.1,av h.2.2.1,av h.2.2.2.1,VO h.2.2.2.2]
 . simp only[az] at h;rw[av h.1,La h.2]
 . rw[av h]
 . cases h
theorem Cd:∀{a b:List EV},vj a b=true->a=b
 | [],[],_=>rfl
 |a::l,b::m,h=>by
  simp only[vj,az] at h;rw[Cd h.2,Ka h.1]
theorem Uw{a b:EW}(h:Er a b=true):a=b:=by
 unfold Er at h;split at h
 . rw[Ka h]
 . rw[Cd h]
 . simp only[az,dL] at h;rw[h.1,av h.2]
 . cases h
theorem Ux{a b:ES}(h:Es a b=true):a=b:=by
 unfold Es at h;split at h
 . rw[Uw h]
 . rfl
 . cases h
theorem K9:∀{a b:List (Nat×Nat)},Ar a b=true->a=b
 | [],[],_=>rfl
 |a::l,b::m,h=>by
  simp only[Ar,az] at h;rw[K9 h.2.2,show a=b from Prod.ext (av h.1) (av h.2.1)]
theorem VN{a b:EO}(h:EP a b=true):a=b:=by
 unfold EP at h;split at h
 . rename_i e cs fz vs c e' cs' fz' vs' c';simp only[az] at h;obtain⟨h1,h2,h3,h4,h5⟩:=h;rw[av h1,Cd h2,K9 h4,av h5];split at h3<;>first|rfl|cases h3
 . cases h
def zV(r:List (Nat×Nat))(m:List (Nat×EO))(tm:Nat->ES):List (Nat×ES)->Bool
 | []=>true
 |p::l=>Es (iH (iT r) (tm p.1)) p.2&&((eV (tm p.1)).all (nz r m)&&zV r m tm l)
def zW(r:List (Nat×Nat))(m:List (Nat×EO))(h:Hp):List (Nat×EO)->Bool
 | []=>true
 |p::l=>(match h (eF r p.1) with
  |some o=>EP (dT (iT r) o) p.2&&zk (nz r m) o
  |none=>false)&&zW r m h l
theorem Ki{r:List (Nat×Nat)}{m:List (Nat×EO)}{tm:Nat->ES}:∀{l:List (Nat×ES)},zV r m tm l=true->Df r m tm l
 | [],_=>trivial
 |p::l,h=>by
  simp only[zV,az] at h;exact⟨.rn (Ux h.1) h.2.1,Ki h.2.2⟩
theorem Kj{r:List (Nat×Nat)}{m:List (Nat×EO)}{h:Hp}:∀{l:List (Nat×EO)},zW r m h l=true->yV r m h l
 | [],_=>trivial
 |p::l,hc=>by
  simp only[zW,az] at hc;obtain⟨h1,h2⟩:=hc;split at h1
  . rename_i o ho;simp only[az] at h1;exact⟨.rn ho (VN h1.1) h1.2,Kj h2⟩
  . cases h1
noncomputable def runT(Yz9:EE)(n nP nt:Nat)(code:X5)(l:List (Nat×ES))(m:List (Nat×EO))(nx:Nat)(r:List (Nat×Nat))(l':List (Nat×ES))(m':List (Nat×EO))(nx':Nat):Bool :=
 match Aq Yz9 n false nt code ⟨pe nt l,⟨nL m,nx,[]⟩⟩ with
 |some (.normal,s')=>pc (s'.s.nx+nx) s'.s.wl&&(nn nx m&&(zV r m' s'.tm.sl l'&&(zW r m' s'.s.h.get m'&&(kY (m'.map fun p=>eF r p.1)&&(vh r m' nP&&nn nx' m')))))
 |_=>false
section
variable {X:EX}{nP:Nat}{nt:Nat}{K:X6->SS->Prop}
theorem pL{F:qe->Option FnE}{orc:qe->List ES->Hs->Option (ES×Hs)}(hF:∀f q,F f=some q->∃fn,FnOk X f q fn)(horc:iX X orc){n:Nat}{x y:X5}{l l':List (Nat×ES)}{m m':List (Nat×EO)}{nx nx':Nat}{r:List (Nat×Nat)}
 (h:runT (X.ee F orc) n nP nt x l m nx r l' m' nx'=true) (hk:SW X nP false nt y (aP l' m' nx') K):SW X nP false nt (.seq x y) (aP l m nx) K:=by
 unfold runT at h;split at h
 . rename_i s' he;simp only[az] at h;obtain⟨h1,h2,h3,h4,h5,h6,h7⟩:=h;refine SW.seq (BQ hF horc n he h1 h2 ?_);show SW X nP false nt y ⟨s'.tm.sl,s'.s.h.get,s'.s.nx+nx⟩ K;exact SW.to (To.tab r (Ki h3) (Kj h4) (by simp only[h5,h6,h7,lS])) hk
 . cases h
end
def iZ(S:Nat->Bool)(h:Hp):Hp:=fun g=>match S g with
 |true=>match h g with
  |some (.mem ..)=>some .hid
  |o=>o
 |false=>h g
section
variable {Z:QS}{E:EEnv}{H:ah}{U:Bm}{h:Hp}{w:my}{T:me->Option TY}{S:Nat->Bool}
theorem ESim.hideS(hS:ESim Z E H U h w):ESim Z E (gc U S h H w) U (iZ S h) w where
 has:=Hv hS.has
 below:=hS.below
 lo:=hS.lo
 ext:=hS.ext.step (own':=E.own) ⟨ng,fun b arr hb=>(BH hS hb).imp id fun e=>e.1⟩ fun b hb=>hb
 obj g o hg:=by
  unfold iZ at hg;have key:∀o,h g=some o->(S g=false\/∀e cs fz vs cnt,o≠ .mem e cs fz vs cnt)->OR Z E.own w (gc U S h H w) U g o:=fun o hg hn=>by
   refine(hS.obj g o hg).keep (fun _ _ _=>rfl) (fun u k hk hn'=>?_) ng (BLe.refl _) (fun _=>rfl);cases hf:gc U S h H w k.1 with
   |none=>rfl
   |some arr=>
    rcases BH hS hf with e|⟨_,g',u',k',e,cs,fz,vs,cnt,p,h1,h2,h3,h4,h5⟩
    . rw[e] at hn';cases hn'
    . have:=hS.inj _ _ _ _ _ _ h4 hk h5;subst this;rcases hn with hn|hn
      . rw[hn] at h1;cases h1
      . rw[hg] at h2;cases h2;exact absurd rfl (hn e cs fz vs cnt)
  split at hg
  . split at hg
    . simp only[ae] at hg;subst hg;trivial
    . rename_i hn;exact key o hg (.inr fun e cs fz vs cnt e'=>hn e cs fz vs cnt (by rw[hg,e']))
  . rename_i hs;exact key o hg (.inl hs)
 dom g u k hk:=by
  obtain⟨a,o,b,c⟩:=hS.dom g u k hk;refine⟨a,?_⟩;unfold iZ;split
  . split
    . exact⟨.hid,rfl,.inl rfl⟩
    . exact⟨o,b,c⟩
  . exact⟨o,b,c⟩
 inj:=hS.inj
 hidb g hg:=by
  refine⟨?_,(hS.hidb g hg).2⟩;have:=(hS.hidb g hg).1;unfold iZ;rw[this];split<;>rfl
end
theorem Kt{Z:QS}{E:EEnv}{H:ah}{U:Bm}{h:Hp}{w:my}{T:me->Option TY}{S:Nat->Bool}(hS:ESim Z E H U h w){f:Nat}:∀{xs:List ES} {us:List X3} {ys:List IV},SREL Z H U us xs->cK (gE T Z S h f) xs=some ys->VRL (gc U S h H w) us ys
 | [],[],ys,_,hd=>by
  simp only[cK,ae] at hd;subst hd;exact .nil
 |x::xs,u::us,ys,⟨h1,h2⟩,hd=>by
  unfold cK at hd;split at hd
  . rename_i b hb;split at hd
    . rename_i bs hbs;simp only[ae] at hd;subst hd;exact .cons _ _ _ _ (Kg hS h1 hb) (Kt hS h2 hbs)
    . cases hd
  . cases hd
 | [],_::_,_,h,_=>h.elim
 |_::_,[],_,h,_=>h.elim
def WT(Z:QS)(r:IV)(res:ES):Prop:=∀H U v,VR H v r->SRe Z H U v res
theorem CallOk.ofData{X:EX}{S:Nat->Bool}{fu:Nat}{f:qe}{xs:List IV}{r:IV}{args:List ES}{res:ES}{h:Hp}(hc:a7 X.P X.I f xs r)(hd:cK (gE X.T X.Z S h fu) args=some xs)(hr:WT X.Z r res):CallOk X f args h res (iZ S h):=by
 refine⟨hc.1,fun E hI H U w vs hs hv=>?_⟩;have hs':=hs.hideS (S:=S);refine(hc.2 _ w vs (hI w hs.below) hs'.has (Kt hs hv hd)).mono ?_;rintro e w' ⟨v,H',rfl,h1,h2,h3,h4⟩;exact⟨v,H',U,rfl,ng.trans h2.1,BLe.refl _,hs'.grow h4 h1 h2,MarkSame.below h4,hr _ _ _ h3⟩
def Tr(nP:Nat)(s s':SS):Prop:=s.fr->s'.fr/\∀(Z:QS) (E:EEnv) (H:ah) (U:Bm) (w:my),ESim Z E H U s.h w->(∀g,E.hid g->g<nP)->
 ∃H' U',HLe H H'/\BLeP nP U U'/\ESim Z E H' U' s'.h w/\∀t v,SRe Z H U v (s.tm t)->SRe Z H' U' v (s'.tm t)
theorem Tr.trans{nP:Nat}{a b c:SS}(h:Tr nP a b)(k:Tr nP b c):Tr nP a c:=fun hf=>by
 obtain⟨f1,h⟩:=h hf;obtain⟨f2,k⟩:=k f1;refine⟨f2,fun Z E H U w hS hE=>?_⟩;obtain⟨H1,β1,a1,a2,a3,a4⟩:=h Z E H U w hS hE;obtain⟨H2,β2,b1,b2,b3,b4⟩:=k Z E H1 β1 w a3 hE;exact⟨H2,β2,a1.trans b1,a2.trans b2,b3,fun t v hv=>b4 t v (a4 t v hv)⟩
section
variable {X:EX}{nP:Nat}{rd:Bool}{nt:Nat}{s:SS}{K:X6->SS->Prop}
theorem SSm.tr{E:EEnv}(hh:∀g,E.hid g->g<nP){w0:my}{H:ah}{U:Bm}{a:Act}{w:my}{s s':SS}(t:Tr nP s s')(hS:SSm X E w0 nt H U s a w):∃H' U',HLe H H'/\BLeP nP U U'/\SSm X E w0 nt H' U' s' a w:=by
 obtain⟨f,t⟩:=t hS.fr;obtain⟨H1,β1,a1,a2,a3,a4⟩:=t _ E H U w hS.st.sim hh;exact⟨H1,β1,a1,a2,⟨a3,fun t=>a4 t _ (hS.st.slot t),hS.st.size⟩,hS.mks,hS.sm,f⟩
def sU{G:Type _}(nP:Nat)(inv:G->SS)(μ:G->Nat)(g:G)(K:X6->SS->Prop):X6->SS->Prop
 | .normal,s=>∃g',Tr nP s (inv g')/\μ g'<μ g
 |e,s=>K e s
theorem dc{G:Type _}(inv:G->SS)(μ:G->Nat){c:X5}(g0:G)(h0:Tr nP s (inv g0))(h:∀g,SW X nP rd nt c (inv g) (sU nP inv μ g K)):SW X nP rd nt (.loop c) s K:=fun ro hro E hI hh w0 H U a w Q hS hQ=>by
 have key:∀(n:Nat) (g:G) (H:ah) (U:Bm) (a:Act) (w:my),μ g<=n->SSm X E w0 nt H U (inv g) a w->(∀e s' a' w',K e s'->SPost X nP E w0 nt H U w s' a' w'->Q e a' w')->Code.roundsIn (FW ro) 0 X.P c Q (n+1) a w:=by
  intro n;induction n with
  |zero=>
   intro g H U a w hn hS hQ;rw[tZ];refine h g ro hro E hI hh w0 H U a w _ hS fun e s1 a1 w1 hk hp=>?_;cases e with
   |normal=>obtain⟨g',_,hg'⟩:=hk;omega
   |_=>exact hQ _ _ _ _ hk hp
  |succ n ih=>
   intro g H U a w hn hS hQ;rw[tZ];refine h g ro hro E hI hh w0 H U a w _ hS fun e s1 a1 w1 hk hp=>?_;cases e with
   |normal=>
    obtain⟨g',ht,hg'⟩:=hk;obtain⟨H1,β1,p1,p2,p3,p4⟩:=hp;obtain⟨H2,β2,k0,k1,k2⟩:=p3.tr hh ht;exact ih g' H2 β2 a1 w1 (by omega) k2 fun e s' a' w' k hp'=>hQ e s' a' w' k (hp'.trans (p1.trans k0) (p2.trans k1) p4)
   |_=>exact hQ _ _ _ _ hk hp
 obtain⟨H0,β0,k0,k1,k2⟩:=hS.tr hh h0;exact Fu (μ g0+1) (key (μ g0) g0 H0 β0 a w (ak _) k2 fun e s' a' w' k hp'=>hQ e s' a' w' k (hp'.trans k0 k1 (MarkSame.refl _)))
end
abbrev Rv:=Nat->Nat->Nat×Nat
def oO(V:Rv):EV->EV
 | .ptr g u o=>.ptr (V g u).1 (V g u).2 o
 | .slc g u o n c=>.slc (V g u).1 (V g u).2 o n c
 | .clo f gs=>.clo f (gs.map fun g=>(V g 0).1)
 | .yld g=>.yld (V g 0).1
 | .mp g=>.mp (V g 0).1
 |x=>x
def kt(V:Rv):EW->EW
 | .one c=>.one (oO V c)
 | .agg cs=>.agg (cs.map (oO V))
 | .q n d=>.q n d
def vv(V:Rv):ES->ES
 | .w x=>.w (kt V x)
 | .tup xs=>.tup (xs.map (kt V))
 |x=>x
def ra(V:Rv):EO->EO
 | .mem e cs fz vs cnt=>.mem e (cs.map (oO V)) fz vs cnt
 | .map es ck=>.map (es.map fun e=>(kt V e.1,kt V e.2.1,e.2.2)) ck
 | .iter gm since seen last cur=>.iter (V gm 0).1 since seen last cur
 |o=>o
def pg(P:Nat->Nat->Bool):EV->Bool
 | .ptr g u _=>P g u
 | .slc g u _ _ _=>P g u
 | .clo _ gs=>gs.all fun g=>P g 0
 | .yld g=>P g 0
 | .mp g=>P g 0
 |_=>true
def mN(P:Nat->Nat->Bool):EW->Bool
 | .one c=>pg P c
 | .agg cs=>cs.all (pg P)
 | .q _ _=>true
def EC(P:Nat->Nat->Bool):ES->Bool
 | .w x=>mN P x
 | .tup xs=>xs.all (mN P)
 |_=>true
def Ag(P:Nat->Nat->Bool):EO->Bool
 | .mem _ cs _ _ _=>cs.all (pg P)
 | .map es _=>es.all fun e=>mN P e.1&&mN P e.2.1
 | .iter gm _ _ _ _=>P gm 0
 | .loop .. => false
 | .hid=>true
section
variable {Z:QS}{H:ah}{U U':Bm}{V:Rv}{P:Nat->Nat->Bool}
def pa(U U':Bm)(V:Rv)(P:Nat->Nat->Bool):Prop:=(∀g u,P g u=true->U' (V g u).1 (V g u).2=U g u)/\∀g,(V g 0).2=0
theorem CR.rv(hP:pa U U' V P){v:X3}:∀{x:EV},pg P x=true->CR Z H U v x->CR Z H U' v (oO V x)
 | .iv _,_,h=>h
 | .qc _ _ _,_,h=>h
 | .ptr g u off,hx,⟨k,h1,h2⟩=>⟨k,by rw[hP.1 g u hx];exact h1,h2⟩
 | .slc g u off n cap,hx,⟨k,c,h1,h2⟩=>⟨k,c,by rw[hP.1 g u hx];exact h1,h2⟩
 | .clo f gs,hx,⟨h1,h2⟩=>by
  have key:∀g∈gs,U' (V g 0).1 0=U g 0:=fun g hg=>by
   have:=hP.1 g 0 (List.all_eq_true.1 hx g hg);rwa[hP.2 g] at this
  refine⟨fun g hg=>?_,?_⟩
  . obtain⟨g0,hg0,rfl⟩:=List.mem_map.1 hg;rw[key g0 hg0];exact h1 g0 hg0
  . rw[h2,fb];congr 2;exact rq fun g hg=>by unfold ii;simp only[Function.comp];rw[key g hg]
 | .yld g,hx,⟨k,h1,h2⟩=>⟨k,by have:=hP.1 g 0 hx;rw[hP.2 g] at this;rw[this];exact h1,h2⟩
 | .mp g,hx,⟨k,h1,h2⟩=>⟨k,by have:=hP.1 g 0 hx;rw[hP.2 g] at this;rw[this];exact h1,h2⟩
 | .dp _ _,_,h=>h
theorem CRL.rv(hP:pa U U' V P):∀{vs:List X3} {xs:List EV},xs.all (pg P)=true->CRL Z H U vs xs->CRL Z H U' vs (xs.map (oO V))
 | [],[],_,_=>trivial
 |v::vs,x::xs,hx,⟨h1,h2⟩=>by
  simp only[cF,az] at hx;exact⟨CR.rv hP hx.1 h1,CRL.rv hP hx.2 h2⟩
 | [],_::_,_,h=>h.elim
 |_::_,[],_,h=>h.elim
theorem WR.rv(hP:pa U U' V P){v:X3}{x:EW}(hx:mN P x=true)(h:WR Z H U v x):WR Z H U' v (kt V x):=by
 cases x with
 |one c=>exact CR.rv hP hx h
 |agg cs=>obtain⟨vs,e,k⟩:=h;exact⟨vs,e,CRL.rv hP hx k⟩
 |q n d=>exact h
theorem WRL.rv(hP:pa U U' V P):∀{vs:List X3} {xs:List EW},xs.all (mN P)=true->WRL Z H U vs xs->WRL Z H U' vs (xs.map (kt V))
 | [],[],_,_=>trivial
 |v::vs,x::xs,hx,⟨h1,h2⟩=>by
  simp only[cF,az] at hx;exact⟨WR.rv hP hx.1 h1,WRL.rv hP hx.2 h2⟩
 | [],_::_,_,h=>h.elim
 |_::_,[],_,h=>h.elim
theorem SRe.rv(hP:pa U U' V P){v:X3}{x:ES}(hx:EC P x=true)(h:SRe Z H U v x):SRe Z H U' v (vv V x):=by
 cases x with
 |unk=>trivial
 |und=>exact h
 |w x=>exact WR.rv hP hx h
 |tup xs=>obtain⟨vs,e,k⟩:=h;exact⟨vs,e,WRL.rv hP hx k⟩
theorem MRL.rv(hP:pa U U' V P):∀{vs:List MapEntry} {xs:List (EW×EW×Nat)},(xs.all fun e=>mN P e.1&&mN P e.2.1)=true->MRL Z H U vs xs->MRL Z H U' vs (xs.map fun e=>(kt V e.1,kt V e.2.1,e.2.2))
 | [],[],_,_=>trivial
 |v::vs,x::xs,hx,⟨⟨h0,h1,h2⟩,h3⟩=>by
  simp only[cF,az] at hx;exact⟨⟨WR.rv hP hx.1.1 h0,WR.rv hP hx.1.2 h1,h2⟩,MRL.rv hP hx.2 h3⟩
 | [],_::_,_,h=>h.elim
 |_::_,[],_,h=>h.elim
theorem OR.rv(hP:pa U U' V P){own:Nat->Prop}{w:my}{g g':Nat}{o:EO}(hg:∀u,U' g' u=U g u)(ho:Ag P o=true)(h:OR Z own w H U g o):OR Z own w H U' g' (ra V o):=by
 cases o with
 |mem e cs fz vs cnt=>
  refine⟨fun hf u k hk=>h.1 hf u k (by rw[<-hg];exact hk),fun u p hup=>?_⟩;obtain⟨h1,k,arr,h2,h3,h4,h5,h6,h7,h8,h9⟩:=h.2 u p hup;refine⟨h1,k,arr,by rw[hg];exact h2,h3,h4,h5,h6,by rw[bR];exact h7,h8,?_⟩;rw[<-Fq];exact CRL.rv hP (List.all_eq_true.2 fun x hx=>List.all_eq_true.1 ho x (dY hx)) h9
 |map es ck=>
  obtain⟨k,ents,h1,h2,h3,h4,h5⟩:=h;exact⟨k,ents,by rw[hg];exact h1,h2,h3,h4,MRL.rv hP ho h5⟩
 |iter gm since seen last cur=>
  obtain⟨k,km,sn,h1,h2,h3⟩:=h;refine⟨k,km,sn,by rw[hg];exact h1,?_,h3⟩;have:=hP.1 gm 0 ho;rw[hP.2 gm] at this;rw[this];exact h2
 |loop=>cases ho
 |hid=>trivial
end
theorem Gk{P:Nat->Nat->Bool}:∀{x:EV},bj x=[]->pg P x=true
 | .clo f gs,h=>by
  have h:gs=[]:=h;subst h;rfl
 | .iv _,_=>rfl
 | .qc _ _ _,_=>rfl
 | .dp _ _,_=>rfl
 | .ptr _ _ _,h=>by cases h
 | .slc _ _ _ _ _,h=>by cases h
 | .yld _,h=>by cases h
 | .mp _,h=>by cases h
theorem F2{V:Rv}:∀{x:EV},bj x=[]->oO V x=x
 | .clo f gs,h=>by
  have h:gs=[]:=h;subst h;rfl
 | .iv _,_=>rfl
 | .qc _ _ _,_=>rfl
 | .dp _ _,_=>rfl
 | .ptr _ _ _,h=>by cases h
 | .slc _ _ _ _ _,h=>by cases h
 | .yld _,h=>by cases h
 | .mp _,h=>by cases h
theorem rO{P:Nat->Nat->Bool}:∀{cs:List EV},cs.flatMap bj=[]->cs.all (pg P)=true
 | [],_=>rfl
 |c::cs,h=>by
  simp only[ch,wB] at h;simp only[cF,Gk h.1,rO h.2,lS]
theorem rN{V:Rv}:∀{cs:List EV},cs.flatMap bj=[]->cs.map (oO V)=cs
 | [],_=>rfl
 |c::cs,h=>by
  simp only[ch,wB] at h;rw[aS,F2 h.1,rN h.2]
theorem wT{P:Nat->Nat->Bool}{x:EW}(h:eA x=[]):mN P x=true:=by
 cases x with
 |one c=>exact Gk h
 |agg cs=>exact rO h
 |q=>rfl
theorem wL{V:Rv}{x:EW}(h:eA x=[]):kt V x=x:=by
 cases x with
 |one c=>rw[kt,F2 h]
 |agg cs=>rw[kt,rN h]
 |q=>rfl
theorem Gl{P:Nat->Nat->Bool}:∀{xs:List EW},xs.flatMap eA=[]->xs.all (mN P)=true
 | [],_=>rfl
 |c::cs,h=>by
  simp only[ch,wB] at h;simp only[cF,wT h.1,Gl h.2,lS]
theorem Gh{V:Rv}:∀{xs:List EW},xs.flatMap eA=[]->xs.map (kt V)=xs
 | [],_=>rfl
 |c::cs,h=>by
  simp only[ch,wB] at h;rw[aS,wL h.1,Gh h.2]
theorem Pj{P:Nat->Nat->Bool}{x:ES}(h:eV x=[]):EC P x=true:=by
 cases x with
 |unk=>rfl
 |und=>rfl
 |w x=>exact wT h
 |tup xs=>exact Gl h
theorem OD{V:Rv}{x:ES}(h:eV x=[]):vv V x=x:=by
 cases x with
 |unk=>rfl
 |und=>rfl
 |w x=>rw[vv,wL h]
 |tup xs=>rw[vv,Gh h]
theorem Pi{P:Nat->Nat->Bool}{o:EO}(h:gM o):Ag P o=true:=by
 cases o with
 |mem e cs fz vs cnt=>exact rO h
 |map es ck=>exact List.all_eq_true.2 fun e he=>by rw[wT (h e he).1,wT (h e he).2];rfl
 |iter=>exact h.elim
 |loop=>exact h.elim
 |hid=>rfl
theorem O5{V:Rv}{o:EO}(h:gM o):ra V o=o:=by
 cases o with
 |mem e cs fz vs cnt=>rw[ra,rN h]
 |map es ck=>
  rw[ra];congr 1;conv=>rhs;rw[<-List.map_id es]
  refine rq fun e he=>?_;rw[wL (h e he).1,wL (h e he).2];rfl
 |iter=>exact h.elim
 |loop=>exact h.elim
 |hid=>rfl
inductive VM where
 |one (u:Nat)
 |cut (c:Nat)
def fZ:List (Nat×VM)->Nat->Option VM
 | [],_=>none
 | (k,u)::l,g=>bif Nat.beq g k then some u else fZ l g
def oP(r:List (Nat×Nat))(vr:List (Nat×VM)):Rv:=fun g u=>(iT r g,match fZ vr (iT r g) with
 |some (.one _)=>0
 |_=>u)
def tB(r:List (Nat×Nat))(vr:List (Nat×VM))(m:List (Nat×EO))(g u:Nat):Bool:=nz r m g&&(match fZ vr (iT r g) with
 |none=>true
 |some (.one u0)=>Nat.beq u u0
 |some (.cut c)=>Nat.blt u c)
def gf(r:List (Nat×Nat))(vr:List (Nat×VM))(m:List (Nat×EO))(U:Bm):Bm:=fun g u=>match fW m g with
 |false=>none
 |true=>match fZ vr g with
  |none=>U (eF r g) u
  |some (.one u0)=>(match u with
   |0=>U (eF r g) u0
   |_+1=>none)
  |some (.cut c)=>match Nat.blt u c with
   |true=>U (eF r g) u
   |false=>none
inductive SlotT(r:List (Nat×Nat))(vr:List (Nat×VM))(m:List (Nat×EO)):ES->ES->Prop
 |rn {x y:ES} (h:vv (oP r vr) x=y) (hi:EC (tB r vr m) x=true):SlotT r vr m x y
 | sm {x y:ES} (h:x=y) (hi:eV x=[]):SlotT r vr m x y
inductive BoxT(r:List (Nat×Nat))(vr:List (Nat×VM))(m:List (Nat×EO))(g:Nat):Option EO->EO->Prop
 |rn {x:Option EO} {o0 o:EO} (hv:fZ vr g=none) (h:x=some o0) (h2:ra (oP r vr) o0=o) (hi:Ag (tB r vr m) o0=true):BoxT r vr m g x o
 | sm {x:Option EO} {o:EO} (hv:fZ vr g=none) (h:x=some o) (hc:gM o):BoxT r vr m g x o
 |ver {x:Option EO} {e:me} {cs cs1:List EV} {fz:Bool} {vs:List (Nat×Nat)} {cnt u0 p p1:Nat} (hv:fZ vr g=some (.one u0)) (h:x=some (.mem e cs fz vs cnt)) (hu:dl u0 vs=some p) (hp:p1<=p) (hl:p1<=cs1.length) (hc:cs.take p1=cs1.take p1) (hn:cs1.flatMap bj=[]):BoxT r vr m g x (.mem e cs1 fz [(0,p1)] 1)
 |verR {x:Option EO} {e:me} {cs cs1:List EV} {fz:Bool} {vs:List (Nat×Nat)} {cnt u0 p p1:Nat} (hv:fZ vr g=some (.one u0)) (h:x=some (.mem e cs fz vs cnt)) (hu:dl u0 vs=some p) (hp:p1<=p) (hl:p1<=cs1.length) (hc:(cs.take p1).map (oO (oP r vr))=cs1.take p1) (hn:(cs.take p1).all (pg (tB r vr m))=true):BoxT r vr m g x (.mem e cs1 fz [(0,p1)] 1)
 |cut {x:Option EO} {e:me} {cs cs1:List EV} {fz:Bool} {vs vs1:List (Nat×Nat)} {cnt c pm:Nat} (hv:fZ vr g=some (.cut c)) (h:x=some (.mem e cs fz vs cnt)) (hu:∀q∈vs1,q.1<c/\q.2<=pm/\∃p,(q.1,p)∈vs/\q.2<=p) (hl:pm<=cs1.length) (hc:cs.take pm=cs1.take pm) (hn:cs1.flatMap bj=[]):BoxT r vr m g x (.mem e cs1 fz vs1 c)
 |drop {x:Option EO} {e:me} {cs cs1:List EV} {fz:Bool} {vs vs1:List (Nat×Nat)} {cnt pm:Nat} (hv:fZ vr g=none) (h:x=some (.mem e cs fz vs cnt)) (hu:∀q∈vs1,q.2<=pm/\∃p,(q.1,p)∈vs/\q.2<=p) (hl:pm<=cs1.length) (hc:cs.take pm=cs1.take pm) (hn:cs1.flatMap bj=[]):BoxT r vr m g x (.mem e cs1 fz vs1 cnt)
 |ph {x:Option EO} {e:me} {cs:List EV} {fz:Bool} (h:x=none):BoxT r vr m g x (.mem e cs fz [] 0)
def KG(r:List (Nat×Nat))(vr:List (Nat×VM))(m:List (Nat×EO))(tm:Nat->ES):List (Nat×ES)->Prop
 | []=>True
 | (t,v)::l=>SlotT r vr m (tm t) v/\KG r vr m tm l
def DG(r:List (Nat×Nat))(vr:List (Nat×VM))(m:List (Nat×EO))(h:Hp):List (Nat×EO)->Prop
 | []=>True
 | (g,o)::l=>BoxT r vr m g (h (eF r g)) o/\DG r vr m h l
theorem wY{r:List (Nat×Nat)}{vr:List (Nat×VM)}{m:List (Nat×EO)}{h:Hp}{g:Nat}{o:EO}:∀{l:List (Nat×EO)},DG r vr m h l->(g,o)∈l->BoxT r vr m g (h (eF r g)) o
 | (k,o')::l,⟨h1,h2⟩,hm=>by
   rcases List.mem_cons.1 hm with e|hm
   . cases e;exact h1
   . exact wY h2 hm
def CF:Option EO->Bool
 |some (.mem _ _ _ _ 0)=>true
 |_=>false
def zi(r:List (Nat×Nat))(vr:List (Nat×VM))(m:List (Nat×EO))(h:Hp):Nat->Bool
 |0=>true
 |n+1=>((fW m n&&(Nat.beq (eF r n) n&&(fZ vr n).isNone))||CF (h n))&&zi r vr m h n
theorem B1{r:List (Nat×Nat)}{vr:List (Nat×VM)}{m:List (Nat×EO)}{h:Hp}:∀{n:Nat},zi r vr m h n=true->∀g,g<n->(fW m g=true/\eF r g=g/\fZ vr g=none)\/CF (h g)=true
 |n+1,hp,g,hg=>by
  simp only[zi,az,g6,Option.isNone_iff_eq_none] at hp;rcases Nat.lt_succ_iff_lt_or_eq.1 hg with h1|h1
  . exact B1 hp.2 g h1
  . subst h1;exact hp.1.imp (fun k=>⟨k.1,av k.2.1,k.2.2⟩) id
theorem Tr.tab{nP:Nat}{s:SS}(r:List (Nat×Nat))(vr:List (Nat×VM)){l:List (Nat×ES)}{m:List (Nat×EO)}{nx:Nat}(h1:KG r vr m s.tm l)(h2:DG r vr m s.h m)(h3:(kY (m.map fun p=>eF r p.1)&&(zi r vr m s.h nP&&nn nx m))=true):Tr nP s (aP l m nx):=fun _=>by
 simp only[az] at h3;refine⟨xh h3.2.2,fun Z E H U w hS hE=>?_⟩;have hnone:∀g,s.h g=none->∀u,U g u=none:=fun g hg u=>by
  cases hk:U g u with
  |none=>rfl
  |some k=>obtain⟨_,o,b,_⟩:=hS.dom g u k hk;rw[hg] at b;cases b
 have hR:pa U (gf r vr m U) (oP r vr) (tB r vr m):=by
  refine⟨fun g u hp=>?_,fun g=>?_⟩
  . simp only[tB,nz,az] at hp;unfold oP gf;rw[hp.1.1];have e2:=av hp.1.2;have h2:=hp.2;cases hv:fZ vr (iT r g) with
    |none=>simp only[e2]
    |some x=>
     rw[hv] at h2;cases x with
     |one u0=>simp only[e2,av h2]
     |cut c=>
      have h2:Nat.blt u c=true:=h2;simp only[e2,h2]
  . unfold oP;split<;>rfl
 have hget:∀{g u k},gf r vr m U g u=some k->fW m g=true/\∃u',U (eF r g) u'=some k/\(fZ vr g=none/\u'=u\/(∃u0,fZ vr g=some (.one u0)/\u=0)\/∃c,fZ vr g=some (.cut c)/\u<c/\u'=u):=fun{g u k} hk=>by
  unfold gf at hk;split at hk
  . cases hk
  . rename_i hi;refine⟨hi,?_⟩;split at hk
    . exact⟨u,hk,.inl ⟨by assumption,rfl⟩⟩
    . rename_i u0 hv;split at hk
      . exact⟨u0,hk,.inr (.inl ⟨u0,hv,rfl⟩)⟩
      . cases hk
    . rename_i c hv;split at hk
      . rename_i hb;exact⟨u,hk,.inr (.inr ⟨c,hv,by rwa[cY] at hb,rfl⟩)⟩
      . cases hk
 refine⟨H,gf r vr m U,HLe.refl _,fun g u k hg hk=>?_,⟨hS.has,hS.below,hS.lo,hS.ext,fun g o hg=>?_,fun g u k hk=>?_,fun g1 g2 u1 u2 k1 k2 e1 e2 he=>?_,fun g hg=>?_⟩,fun t v hv=>?_⟩
 . rcases B1 h3.2.1 g hg with⟨a,b,c⟩|hp
   . unfold gf;rw[a,c,b];exact hk
   . exfalso;obtain⟨_,o,b,c⟩:=hS.dom g u k hk;rw[b] at hp;unfold CF at hp;split at hp
     . rename_i ho;cases ho;rcases c with c|c
       . cases c
       . exact absurd c.2 (Nat.not_lt_zero _)
     . cases hp
 . have hin:fW m g=true:=by
    cases hi:fW m g with
    |true=>rfl
    |false=>have hg:cV m g=some o:=hg;rw[Ik hi] at hg;cases hg
   obtain⟨o',hm,ht⟩:=sj hin;have hg:cV m g=some o:=hg;rw[ht] at hg;cases hg;have hbn:fZ vr g=none->∀u,gf r vr m U g u=U (eF r g) u:=fun hv u=>by unfold gf;rw[hin,hv]
   have hbs:∀u0,fZ vr g=some (.one u0)->(gf r vr m U g 0=U (eF r g) u0)/\∀u k,gf r vr m U g u=some k->u=0/\U (eF r g) u0=some k:=fun u0 hv=>by
    unfold gf;rw[hin,hv];refine⟨rfl,fun u k hk=>?_⟩;cases u with
    |zero=>exact⟨rfl,hk⟩
    |succ=>cases hk
   have hver:∀{e:me} {cs cs1:List EV} {fz:Bool} {vs:List (Nat×Nat)} {cnt u0 p p1:Nat},fZ vr g=some (.one u0)->s.h (eF r g)=some (.mem e cs fz vs cnt)->dl u0 vs=some p->p1<=p->p1<=cs1.length->(∀vs',CRL Z H U vs' (cs.take p1)->CRL Z H (gf r vr m U) vs' (cs1.take p1))->OR Z E.own w H (gf r vr m U) g (.mem e cs1 fz [(0,p1)] 1):=fun{e cs cs1 fz vs cnt u0 p p1} hv h hu hp hl hc=>by
    have ho:=hS.obj _ _ h;obtain⟨b1,b2⟩:=hbs u0 hv;obtain⟨_,k,arr,j2,j3,j4,j5,j6,j7,j8,j9⟩:=ho.2 u0 p (oi hu);refine⟨fun hf u k hk=>ho.1 hf _ _ (b2 u k hk).2,fun u q huq=>?_⟩;simp only[fL,aA] at huq;obtain⟨rfl,rfl⟩:=huq;refine⟨Nat.one_pos,k,arr,by rw[b1];exact j2,j3,j4,j5,j6,hl,by omega,hc _ ?_⟩;have:=j9.take q;rwa[ce,ce,cB hp] at this
   cases wY h2 hm with
   |rn hv h h2 hi=>rw[<-h2];exact OR.rv hR (hbn hv) hi (hS.obj _ _ h)
   | sm hv h hc=>rw[<-O5 (V:=oP r vr) hc];exact OR.rv hR (hbn hv) (Pi hc) (hS.obj _ _ h)
   | @ver e cs cs1 fz vs cnt u0 p p1 hv h hu hp hl hc hn=>
    refine hver hv h hu hp hl fun vs' hcr=>?_;rw[hc] at hcr;have hn':(cs1.take p1).flatMap bj=[]:=by
     cases hx:(cs1.take p1).flatMap bj with
     |nil=>rfl
     |cons i l=>
      have:i∈cs1.flatMap bj:=ub (p:=p1) (by rw[hx];simp);rw[hn] at this;cases this
    have:=CRL.rv hR (rO hn') hcr;rwa[rN hn'] at this
   | @verR e cs cs1 fz vs cnt u0 p p1 hv h hu hp hl hc hn=>
    refine hver hv h hu hp hl fun vs' hcr=>?_;rw[<-hc];exact CRL.rv hR hn hcr
   | @cut e cs cs1 fz vs vs1 cnt c pm hv h hu hl hc hn=>
    have ho:=hS.obj _ _ h;have hb:∀u,u<c->gf r vr m U g u=U (eF r g) u:=fun u hu=>by
     have hu':Nat.blt u c=true:=by rw[cY];exact hu
     unfold gf;rw[hin,hv];simp only[hu']
    refine⟨fun hf u k hk=>?_,fun u q huq=>?_⟩
    . obtain⟨_,u',hk',hcase⟩:=hget hk;exact ho.1 hf u' k hk'
    . obtain⟨j0,j1,p,hp,j2⟩:=hu _ huq;obtain⟨_,k,arr,i2,i3,i4,i5,i6,i7,i8,i9⟩:=ho.2 u p hp;have j1:q<=pm:=j1;have j2:q<=p:=j2;refine⟨j0,k,arr,by rw[hb u j0];exact i2,i3,i4,i5,i6,by omega,by omega,?_⟩;have h9:=i9.take q;rw[ce,ce,cB j2] at h9;have e9:cs.take q=cs1.take q:=by
       have:=aJ (List.take q) hc;rwa[ce,ce,cB j1] at this
      rw[e9] at h9;have hn':(cs1.take q).flatMap bj=[]:=by
       cases hx:(cs1.take q).flatMap bj with
       |nil=>rfl
       |cons i l=>
        have:i∈cs1.flatMap bj:=ub (p:=q) (by rw[hx];simp);rw[hn] at this;cases this
      have:=CRL.rv hR (rO hn') h9;rwa[rN hn'] at this
   | @drop e cs cs1 fz vs vs1 cnt pm hv h hu hl hc hn=>
    have ho:=hS.obj _ _ h;refine⟨fun hf u k hk=>ho.1 hf u k (by rw[<-hbn hv];exact hk),fun u q huq=>?_⟩;obtain⟨j1,p,hp,j2⟩:=hu _ huq;obtain⟨j0,k,arr,i2,i3,i4,i5,i6,i7,i8,i9⟩:=ho.2 u p hp;have j1:q<=pm:=j1;have j2:q<=p:=j2;refine⟨j0,k,arr,by rw[hbn hv];exact i2,i3,i4,i5,i6,by omega,by omega,?_⟩;have h9:=i9.take q;rw[ce,ce,cB j2] at h9;have e9:cs.take q=cs1.take q:=by
     have:=aJ (List.take q) hc;rwa[ce,ce,cB j1] at this
    rw[e9] at h9;have hn':(cs1.take q).flatMap bj=[]:=by
     cases hx:(cs1.take q).flatMap bj with
     |nil=>rfl
     |cons i l=>
      have:i∈cs1.flatMap bj:=ub (p:=q) (by rw[hx];simp);rw[hn] at this;cases this
    have:=CRL.rv hR (rO hn') h9;rwa[rN hn'] at this
   |ph h=>
    have hno:∀u,gf r vr m U g u=none:=fun u=>by
     cases hk:gf r vr m U g u with
     |none=>rfl
     |some k=>obtain⟨_,u',hk',_⟩:=hget hk;rw[hnone _ h] at hk';cases hk'
    exact⟨fun _ u k hk=>(by rw[hno] at hk;cases hk),fun u p hup=>(by cases hup)⟩
 . obtain⟨hin,u',hk',hcase⟩:=hget hk;obtain⟨o,hm,ht⟩:=sj hin;obtain⟨a,o0,b,c⟩:=hS.dom _ _ _ hk';refine⟨a,o,ht,?_⟩;cases wY h2 hm with
   |rn hv h h2 hi=>
    rw[h] at b;cases b;rcases hcase with⟨_,rfl⟩|⟨u0,e,_⟩|⟨c,e,_⟩
    rotate_left
    . rw[hv] at e;cases e
    . rw[hv] at e;cases e
    . rw[<-h2];refine c.imp (fun e=>by rw[e];rfl) fun c=>⟨c.1,?_⟩;have:(ra (oP r vr) o0).cnt=o0.cnt:=by cases o0<;>rfl
      rw[this];exact c.2
   | sm hv h hc=>
    rw[h] at b;cases b;rcases hcase with⟨_,rfl⟩|⟨u0,e,_⟩|⟨c,e,_⟩
    . exact c
    . rw[hv] at e;cases e
    . rw[hv] at e;cases e
   |drop hv h hu hl hc hn=>
    rw[h] at b;cases b;rcases hcase with⟨_,rfl⟩|⟨u0,e,_⟩|⟨c,e,_⟩
    . exact .inr (c.resolve_left (by simp))
    . rw[hv] at e;cases e
    . rw[hv] at e;cases e
   | @cut e cs cs1 fz vs vs1 cnt c0 pm hv h hu hl hc hn=>
    rw[h] at b;cases b;rcases hcase with⟨e,_⟩|⟨u0,e,_⟩|⟨c',e,e2,rfl⟩
    . rw[hv] at e;cases e
    . rw[hv] at e;cases e
    . rw[hv] at e;cases e;rcases c with c|c
      . cases c
      . exact .inr ⟨c.1,e2⟩
   |ver hv h hu hp hl hc hn=>
    rw[h] at b;cases b;rcases hcase with⟨e,_⟩|⟨u0,_,rfl⟩|⟨c',e,_⟩
    . rw[hv] at e;cases e
    rotate_left
    . rw[hv] at e;cases e
    . rcases c with c|c
      . cases c
      . exact .inr ⟨c.1,Nat.one_pos⟩
   |verR hv h hu hp hl hc hn=>
    rw[h] at b;cases b;rcases hcase with⟨e,_⟩|⟨u0,_,rfl⟩|⟨c',e,_⟩
    . rw[hv] at e;cases e
    rotate_left
    . rw[hv] at e;cases e
    . rcases c with c|c
      . cases c
      . exact .inr ⟨c.1,Nat.one_pos⟩
   |ph h=>rw[h] at b;cases b
 . obtain⟨i1,u1',f1,_⟩:=hget e1;obtain⟨i2,u2',f2,_⟩:=hget e2;exact By h3.1 i1 i2 (hS.inj _ _ _ _ _ _ f1 f2 he)
 . obtain⟨a,b⟩:=hS.hidb g hg;rcases B1 h3.2.1 g (hE g hg) with⟨i1,i2,i3⟩|hp
   . refine⟨?_,fun u=>by unfold gf;rw[i1,i3,i2];exact b u⟩;obtain⟨o,hm,ht⟩:=sj i1;show cV m g=_;rw[ht];have hb:=wY h2 hm;rw[i2,a] at hb;cases hb with
     |rn hv h h2 hi=>cases h;rw[<-h2];rfl
     | sm hv h hc=>cases h;rfl
     |ver hv h hu hp hl hc hn=>cases h
     |verR hv h hu hp hl hc hn=>cases h
     |cut hv h hu hl hc hn=>cases h
     |drop hv h hu hl hc hn=>cases h
     |ph h=>cases h
   . rw[a] at hp;cases hp
 . show SRe Z H (gf r vr m U) v (pd l t);induction l with
   |nil=>exact trivial
   |cons p l ih=>
    obtain⟨k,x⟩:=p;unfold pd;cases hb:Nat.beq t k with
    |true=>
     have:=av hb;subst this;rw[af];cases h1.1 with
     |rn h hi=>rw[<-h];exact SRe.rv hR hi hv
     | sm h hi=>
      rw[h] at hv hi;have:=SRe.rv hR (Pj (P:=tB r vr m) hi) hv;rwa[OD hi] at this
    |false=>exact ih h1.2
structure FzB(h:Hp)(g u n:Nat)(es:List IV):Prop where
 ex:∃e cs vs cnt sz p,h g=some (.mem e cs false vs cnt)/\dl u vs=some p/\n=es.length/\dI sz es=true/\n*sz<=p/\cs.take (n*sz)=(es.flatMap IV.cells).map .iv
theorem yr{h:Hp}{g u n:Nat}{es:List IV}{e:me}{cs:List EV}{vs:List (Nat×Nat)}{cnt p:Nat}(sz:Nat)(hg:h g=some (.mem e cs false vs cnt))(hv:dl u vs=some p)(hn:n=es.length)(hsz:dI sz es=true)(hp:n*sz<=p)(hc:cs.take (n*sz)=(es.flatMap IV.cells).map .iv):FzB h g u n es :=
 ⟨e,cs,vs,cnt,sz,p,hg,hv,hn,hsz,hp,hc⟩
theorem JS{Z:QS}{E:EEnv}{H:ah}{U:Bm}{h:Hp}{w:my}(hS:ESim Z E H U h w){g u n:Nat}{es:List IV}(hb:FzB h g u n es) :
 ∃H',HLe H H'/\ESim Z E H' U (aB h g (some .hid)) w/\∀cap v,CR Z H U v (.slc g u 0 n cap)->CR Z H' U v (.iv (.sl es)):=by
 obtain⟨e,cs,vs,cnt,sz,p,hg,hv,hn,hsz,hp,hc⟩:=hb.ex;obtain⟨H',k,arr,k1,k2,k3,k4,k5,k6,k7⟩:=hS.freeze hg (oi hv);refine⟨H',k2,k3,fun cap v hv'=>?_⟩;obtain⟨k',c,e1,rfl,e2,e3⟩:=hv';rw[k1] at e1;cases e1;refine⟨rfl,?_⟩;have h5:=k5.take (n*sz);rw[ce,ce,cB hp,hc] at h5;obtain⟨vs',v1,v2,v3⟩:=AX hsz h5;have hl:=v1.length;refine VR.sl k.1 0 n c sz arr vs' es k4 (v1.mono k2) hn e2 v3 ?_;rw[bL,v2,hl,<-hn]
inductive FzC(g u n:Nat)(es:List IV):EV->EV->Prop
 | sm (x:EV):FzC g u n es x x
 |fz (cap:Cap):FzC g u n es (.slc g u 0 n cap) (.iv (.sl es))
inductive FzL(g u n:Nat)(es:List IV):List EV->List EV->Prop
 | sm (cs:List EV):FzL g u n es cs cs
 |cons {x y:EV} {xs ys:List EV} (h:FzC g u n es x y) (t:FzL g u n es xs ys):FzL g u n es (x::xs) (y::ys)
 |app {a b c d:List EV} (h:FzL g u n es a b) (t:FzL g u n es c d):FzL g u n es (a++c) (b++d)
theorem FzL.get{g u n:Nat}{es:List IV}{cs cs':List EV}(h:FzL g u n es cs cs'):cs.length=cs'.length/\∀(i:Nat) (y:EV),cs'[i]?=some y->∃x,cs[i]?=some x/\FzC g u n es x y:=by
 induction h with
 | sm cs=>exact⟨rfl,fun i y hy=>⟨y,hy,.sm y⟩⟩
 |cons h t ih=>
  refine⟨by simp[ih.1],fun i y hy=>?_⟩;cases i with
  |zero=>simp at hy;subst hy;exact⟨_,rfl,h⟩
  |succ i=>simp at hy;simpa using ih.2 i y hy
 |app h t ih1 ih2=>
  refine⟨by simp[ih1.1,ih2.1],fun i y hy=>?_⟩;rw[Az] at hy ⊢;rw[ih1.1];split at hy
  . rename_i hlt;rw[ay hlt];exact ih1.2 i y hy
  . rename_i hlt;rw[am hlt];exact ih2.2 _ y hy
theorem FzL.take{Z:QS}{H H':ah}{U:Bm}{g u n:Nat}{es:List IV}{cs cs':List EV}(h:FzL g u n es cs cs')(hf:∀cap v,CR Z H U v (.slc g u 0 n cap)->CR Z H' U v (.iv (.sl es))){vs:List X3}{p:Nat}(hv:CRL Z H' U vs (cs.take p)):CRL Z H' U vs (cs'.take p):=by
 obtain⟨hl,hget⟩:=h.get;refine PF (by rw[hv.length,cy,cy,hl]) fun i v y h1 h2=>?_;have hi:i<p:=by
  have:=(List.getElem?_eq_some_iff.1 h2).1;rw[cy] at this;omega
 rw[cX,ay hi] at h2;obtain⟨x,hx,hc⟩:=hget i y h2;obtain⟨v',e1,e2⟩:=hv.get i x (by rw[cX,ay hi];exact hx);rw[h1] at e1;cases e1;cases hc with
 | sm=>exact e2
 |fz cap=>exact hf cap v e2
def FzO(g u n:Nat)(es:List IV)(x:Option EO)(o':EO):Prop:=∃e cs cs' fz vs cnt,x=some (.mem e cs fz vs cnt)/\o'=.mem e cs' fz vs cnt/\FzL g u n es cs cs'
theorem FzO.mk{g u n:Nat}{es:List IV}{x:Option EO}{e:me}{cs cs':List EV}{fz:Bool}{vs:List (Nat×Nat)}{cnt:Nat}(h:x=some (.mem e cs fz vs cnt))(hl:FzL g u n es cs cs'):FzO g u n es x (.mem e cs' fz vs cnt):=⟨e,cs,cs',fz,vs,cnt,h,rfl,hl⟩
def Eo(g u n:Nat)(es:List IV)(h:Hp):List (Nat×EO)->Prop
 | []=>True
 | (g',o)::l=>(g'≠g/\FzO g u n es (h g') o)/\Eo g u n es h l
def Em(g u n:Nat)(tm:Nat->ES):List Nat->Prop
 | []=>True
 |t::l=>(∃cap,tm t=.w (.one (.slc g u 0 n cap)))/\Em g u n tm l
theorem Iu{g u n:Nat}{tm:Nat->ES}{t:Nat}:∀{l:List Nat},Em g u n tm l->t∈l->∃cap,tm t=.w (.one (.slc g u 0 n cap))
 |x::l,⟨h1,h2⟩,hm=>by
  rcases List.mem_cons.1 hm with rfl|hm
  . exact h1
  . exact Iu h2 hm
theorem uH{g u n:Nat}{es:List IV}{h:Hp}{g':Nat}:∀{l:List (Nat×EO)},Eo g u n es h l->∀{o},cV l g'=some o->g'≠g/\FzO g u n es (h g') o
 | (k,o')::l,⟨h1,h2⟩,o,hm=>by
   unfold cV at hm;cases hb:Nat.beq g' k with
   |true=>
    rw[hb,af] at hm;cases hm;rw[av hb];exact h1
   |false=>rw[hb,aX] at hm;exact uH h2 hm
def WL(s:SS)(g:Nat)(es:List IV)(ts:List Nat)(bs:List (Nat×EO)):SS :=
 ⟨fun t=>bif bJ t ts then ac (.sl es) else s.tm t,fun g'=>bif Nat.beq g' g then some .hid else(match cV bs g' with
  |some o=>some o
  |none=>s.h g'),s.nx⟩
theorem Lr{nP:Nat}{s:SS}{g u n:Nat}{es:List IV}(ts:List Nat)(bs:List (Nat×EO))(hb:FzB s.h g u n es)(ht:Em g u n s.tm ts)(hbs:Eo g u n es s.h bs):Tr nP s (WL s g es ts bs):=fun hf=>by
 have hgs:s.h g≠none:=by
  obtain⟨e,cs,vs,cnt,sz,p,hg,_⟩:=hb.ex;rw[hg];simp
 refine⟨fun g' hg'=>?_,fun Z E H U w hS hE=>?_⟩
 . have h0:=hf g' hg';show(bif Nat.beq g' g then some EO.hid else(match cV bs g' with|some o=>some o|none=>s.h g'))=none;cases hb':Nat.beq g' g with
   |true=>rw[av hb'] at h0;exact absurd h0 hgs
   |false=>
    rw[aX];cases ht':cV bs g' with
    |none=>exact h0
    |some o=>obtain⟨_,e,cs,cs',fz,vs,cnt,h1,_⟩:=uH hbs ht';rw[h0] at h1;cases h1
 . obtain⟨H',k1,k2,k3⟩:=JS hS hb;refine⟨H',U,k1,BLeP.refl _ _,⟨k2.has,k2.below,k2.lo,k2.ext,fun g' o hg'=>?_,fun g' u' k hk=>?_,k2.inj,fun g' hg'=>?_⟩,fun t v hv=>?_⟩
   . have hg':(bif Nat.beq g' g then some EO.hid else(match cV bs g' with|some o=>some o|none=>s.h g'))=some o:=hg';cases hb':Nat.beq g' g with
     |true=>rw[hb',af] at hg';cases hg';trivial
     |false=>
      rw[hb',aX] at hg';have hne:g'≠g:=fun e=>by rw[e,bh] at hb';cases hb'
      cases ht':cV bs g' with
      |none=>
       rw[ht'] at hg';exact k2.obj g' o (by rw[aD _ _ _ hne];exact hg')
      |some o'=>
       rw[ht'] at hg';cases hg';obtain⟨_,e,cs,cs',fz,vs,cnt,h1,rfl,h3⟩:=uH hbs ht';have ho:=k2.obj g' _ (by rw[aD _ _ _ hne];exact h1);refine⟨ho.1,fun u' p hup=>?_⟩;obtain⟨j1,k,arr,j2,j3,j4,j5,j6,j7,j8,j9⟩:=ho.2 u' p hup;exact⟨j1,k,arr,j2,j3,j4,j5,j6,by rw[<-h3.get.1];exact j7,j8,h3.take k3 j9⟩
   . obtain⟨a,o,b,c⟩:=k2.dom g' u' k hk;refine⟨a,?_⟩;show ∃o,(bif Nat.beq g' g then some EO.hid else(match cV bs g' with|some o=>some o|none=>s.h g'))=some o/\_;cases hb':Nat.beq g' g with
     |true=>exact⟨.hid,rfl,.inl rfl⟩
     |false=>
      have hne:g'≠g:=fun e=>by rw[e,bh] at hb';cases hb'
      rw[aD _ _ _ hne] at b;rw[aX];cases ht':cV bs g' with
      |none=>exact⟨o,b,c⟩
      |some o'=>
       obtain⟨_,e,cs,cs',fz,vs,cnt,h1,rfl,h3⟩:=uH hbs ht';rw[h1] at b;cases b;exact⟨_,rfl,.inr (c.resolve_left (by simp))⟩
   . obtain⟨a,b⟩:=hS.hidb g' hg';refine⟨?_,b⟩;show(bif Nat.beq g' g then some EO.hid else(match cV bs g' with|some o=>some o|none=>s.h g'))=some .hid;cases hb':Nat.beq g' g with
     |true=>rfl
     |false=>
      rw[aX];cases ht':cV bs g' with
      |none=>exact a
      |some o'=>obtain⟨_,e,cs,cs',fz,vs,cnt,h1,_⟩:=uH hbs ht';rw[a] at h1;cases h1
   . show SRe Z H' U v (bif bJ t ts then ac (.sl es) else s.tm t);cases hm:bJ t ts with
     |true=>
      obtain⟨cap,hc⟩:=Iu ht (js.1 hm);rw[hc] at hv;exact k3 cap v hv
     |false=>exact hv.mono k1 (BLe.refl _)
theorem nO{a b:Nat}(h:Nat.beq a b=false):a≠b:=fun e=>by
 subst e;rw[bh] at h;cases h
theorem df{V:Nat->Nat}:oR V [] []:=trivial
theorem bm{V:Nat->Nat}{o o':EO}{l l':List EO}(h:OZ V o o')(t:oR V l l'):oR V (o::l) (o'::l'):=⟨h,t⟩
theorem aV{X:EX}{nx:Nat}{f:qe}{xs:List IV}{r:IV}{args:List ES}{h:Hp}{K:ES->Wr->Nat->Option (List Nat)->Prop}(c:a7 X.P X.I f xs r)(ha:args=xs.map dS)(hn:jy xs=true)(hr:pi r=true)(hK:K (dS r) [] 0 (some [])):eG X nx f args h K:=.inl ⟨xs,r,c,ha,hn,hr,hK⟩
inductive GiveA(g u n:Nat)(es:List IV):List ES->List ES->Prop
 |nil:GiveA g u n es [] []
 | sm {l l':List ES} (x:ES) (h:GiveA g u n es l l'):GiveA g u n es (x::l) (x::l')
 |fz {l l':List ES} (cap:Cap) (h:GiveA g u n es l l'):GiveA g u n es (.w (.one (.slc g u 0 n cap))::l) (ac (.sl es)::l')
theorem O0{X:EX}{f:qe}{args args':List ES}{h h':Hp}{r:ES}{g u n:Nat}{es:List IV}(hb:FzB h g u n es)(ha:GiveA g u n es args args')(hc:CallOk X f args' (aB h g (some .hid)) r h'):CallOk X f args h r h':=by
 refine⟨hc.1,fun E hI H U w vs hS hv=>?_⟩;obtain⟨H',k1,k2,k3⟩:=JS hS hb;have hv':SREL X.Z H' U vs args':=by
  clear hc;induction ha generalizing vs with
  |nil=>cases vs with
   |nil=>exact trivial
   |cons=>exact hv.elim
  | sm x _ ih=>cases vs with
   |nil=>exact hv.elim
   |cons v vs=>exact⟨hv.1.mono k1 (BLe.refl _),ih vs hv.2⟩
  |fz cap _ ih=>cases vs with
   |nil=>exact hv.elim
   |cons v vs=>exact⟨k3 cap v hv.1,ih vs hv.2⟩
 refine(hc.2 E hI H' U w vs k2 hv').mono ?_;rintro e w' ⟨v,H2,β2,rfl,a1,a2,a3,a4,a5⟩;exact⟨v,H2,β2,rfl,k1.trans a1,a2,a3,a4,a5⟩
theorem GR{X:EX}{nx:Nat}{f:qe}{args argsd args0:List ES}{zs zs' zo:List EO}{r0 r:ES}{h:Hp}{K:ES->Wr->Nat->Option (List Nat)->Prop}{g u n:Nat}{es:List IV}(L:LocC X f args0 zs r0 zs')(hb:FzB h g u n es)(hgv:GiveA g u n es args argsd)(ids:List Nat)(b:Nat)
 (hn:(Nat.beq ids.length zs'.length&&(kY ids&&ids.all fun i=>Nat.blt i (nx+b)))=true) (ha:argZ (co ids) args0 argsd) (hz:oA (aB h g (some .hid)) (co ids) 0 zs) (hnew:oT (aB h g (some .hid)) (co ids) zs.length (zs'.length-zs.length)) (ho:oR (co ids) zs' zo) (hr:RZ (co ids) r0 r)
 (hK:K r ((g,.hid)::ll ids zo) b none):eG X nx f args h K:=by
 simp only[az] at hn;have hlen:=av hn.1;have hle:=L.le;have hc:=A3 L (V:=co ids) (fun i j hi hj e=>wU hn.2.1 i j (by omega) (by omega) e) (h:=aB h g (some .hid)) (fun i o hi=>by have:=xd hz i o hi;rwa[aU] at this) fun i h1 h2=>by
  have:=xX hnew (i-zs.length) (by omega);rwa[show zs.length+(i-zs.length)=i by omega] at this
 rw[ha.eq,hr.eq,xV (by omega) ho,bL] at hc;refine .inr (.inl ⟨r,(g,.hid)::ll ids zo,b,O0 hb hgv hc,fun p hp=>?_,hK⟩);rcases List.mem_cons.1 hp with rfl|hp
 . obtain⟨e,cs,vs,cnt,sz,p,hg,_⟩:=hb.ex;exact .inr (by rw[hg];simp)
 . refine .inl ?_;have:=List.all_eq_true.1 hn.2.2 p.1 (uD hp);rwa[cY] at this
end Go.Proofs.En
namespace Go.Proofs.Reg
abbrev Pw:=List Int
abbrev Tm:=Pw×Rat
def sumI:List Int->Int
 | []=>0
 |x::l=>x+sumI l
def cU:Pw->Pw->Int
 |x::a,y::b=>if y<x then -1 else if x<y then 1 else cU a b
 |_,_=>0
def cc(a b:Pw):Int:=if sumI a≠sumI b then(if sumI a<sumI b then -1 else 1) else cU a b
theorem Hj:∀a b:Pw,cU a b = -1\/cU a b=0\/cU a b=1
 | [],_=>by simp[cU]
 |_::_,[]=>by simp[cU]
 |x::a,y::b=>by
  unfold cU;split
  . exact .inl rfl
  . split
    . exact .inr (.inr rfl)
    . exact Hj a b
theorem pQ(a b:Pw):cc a b = -1\/cc a b=0\/cc a b=1:=by
 unfold cc;split
 . split
   . exact .inl rfl
   . exact .inr (.inr rfl)
 . exact Hj a b
theorem Hl:∀a b:Pw,cU b a = -cU a b
 | [],[]=>by simp[cU]
 | [],_::_=>by simp[cU]
 |_::_,[]=>by simp[cU]
 |x::a,y::b=>by
  unfold cU;have ih:=Hl a b;by_cases h1:y<x
  . rw[am (by omega),ay h1,ay h1];rfl
  . by_cases h2:x<y
    . rw[ay h2,am h1,ay h2]
    . rw[am h2,am h1,am h1,am h2,ih]
theorem pR(a b:Pw):cc b a = -cc a b:=by
 unfold cc;by_cases h:sumI a=sumI b
 . rw[am (by simp[h]),am (by simp[h]),Hl]
 . rw[ay (fun e=>h e.symm),ay h];by_cases h2:sumI a<sumI b
   . rw[am (by omega),ay h2];rfl
   . rw[ay (by omega),am h2]
theorem Hi:∀{a b:Pw},a.length=b.length->cU a b=0->a=b
 | [],[],_,_=>rfl
 |x::a,y::b,hl,h=>by
  unfold cU at h;split at h
  . cases h
  . split at h
    . cases h
    . have:=Hi (by simpa using hl) h;rw[this,show x=y by omega]
 | [],_::_,hl,_=>by simp at hl
 |_::_,[],hl,_=>by simp at hl
theorem rW{a b:Pw}(hl:a.length=b.length)(h:cc a b=0):a=b:=by
 unfold cc at h;split at h
 . split at h<;>cases h
 . exact Hi hl h
theorem Hm:∀a:Pw,cU a a=0
 | []=>rfl
 |x::a=>by unfold cU;rw[am (by omega),am (by omega)];exact Hm a
theorem uA(a:Pw):cc a a=0:=by unfold cc;rw[am (by simp)];exact Hm a
theorem Gt:∀{a b c:Pw},a.length=b.length->b.length=c.length->cU a b = -1->cU b c = -1->cU a c = -1
 | [],_,_,_,_,h,_=>by simp[cU] at h
 |_::_,[],_,hl,_,_,_=>by simp at hl
 |_::_,_::_,[],_,hl,_,_=>by simp at hl
 |x::a,y::b,z::c,h1,h2,h,k=>by
  unfold cU at h k ⊢;by_cases e1:y<x
  . by_cases e2:z<y
    . rw[ay (by omega)]
    . rw[am e2] at k;by_cases e3:y<z
      . rw[ay e3] at k;cases k
      . rw[ay (by omega)]
  . rw[am e1] at h;by_cases e2:x<y
    . rw[ay e2] at h;cases h
    . rw[am e2] at h;by_cases e3:z<y
      . rw[ay (by omega)]
      . rw[am e3] at k;by_cases e4:y<z
        . rw[ay e4] at k;cases k
        . rw[am e4] at k;rw[am (by omega),am (by omega)];exact Gt (by simpa using h1) (by simpa using h2) h k
theorem uq{a b c:Pw}(h1:a.length=b.length)(h2:b.length=c.length)(h:cc a b = -1)(k:cc b c = -1):cc a c = -1:=by
 unfold cc at h k ⊢;by_cases e1:sumI a=sumI b
 . rw[am (by simp[e1])] at h;by_cases e2:sumI b=sumI c
   . rw[am (by simp[e2])] at k;rw[am (by rw[e1,e2];simp)];exact Gt h1 h2 h k
   . rw[ay e2] at k;rw[ay (by rw[e1];exact e2)];by_cases e3:sumI b<sumI c
     . rw[ay (by omega)]
     . rw[am e3] at k;cases k
 . rw[ay e1] at h;by_cases e3:sumI a<sumI b
   . by_cases e2:sumI b=sumI c
     . rw[ay (by omega),ay (by omega)]
     . rw[ay e2] at k;by_cases e4:sumI b<sumI c
       . rw[ay (by omega),ay (by omega)]
       . rw[am e4] at k;cases k
   . rw[am e3] at h;cases h
def bv(f:List Tm)(p:Pw):Rat:=match f with
 | []=>0
 |t::f=>(if t.1=p then t.2 else 0)+bv f p
theorem Qz{f g:List Tm}(h:f.Perm g)(p:Pw):bv f p=bv g p:=by
 induction h with
 |nil=>rfl
 |cons x _ ih=>simp only[bv,ih]
 |swap x y l=>simp only[bv,<-n7,wD (if x.1=p then x.2 else 0)]
 |trans _ _ h1 h2=>rw[h1,h2]
theorem F9(f:List Tm)(p:Pw):bv (f.filter fun t=>decide (t.2≠0)) p=bv f p:=by
 induction f with
 |nil=>rfl
 |cons t f ih=>
  by_cases h:t.2=0
  . rw[List.filter_cons_of_neg (by simp[h]),ih];simp[bv,h,AR]
  . rw[List.filter_cons_of_pos (by simp[h])];simp only[bv,ih]
theorem IJ{f:List Tm}{p:Pw}(h:∀t∈f,t.1≠p):bv f p=0:=by
 induction f with
 |nil=>rfl
 |cons t f ih=>
  simp only[bv];rw[am (h t (by simp)),ih fun t ht=>h t (by simp[ht]),AR]
def gI(f:List Tm):Prop:=f.Pairwise fun a b=>cc a.1 b.1 = -1
theorem uy{t:Tm}{f:List Tm}(hs:gI (t::f)):bv (t::f) t.1=t.2:=by
 simp only[bv,bD];rw[IJ (f:=f) (p:=t.1) fun u hu e=>?_,AT];have:=(List.pairwise_cons.1 hs).1 u hu;rw[e,uA] at this;cases this
theorem F0{n:Nat}:∀{f g:List Tm},(∀t∈f,t.1.length=n)->(∀t∈g,t.1.length=n)->gI f->gI g->(∀t∈f,t.2≠0)->(∀t∈g,t.2≠0)->(∀p,bv f p=bv g p)->f=g
 | [],[],_,_,_,_,_,_,_=>rfl
 | [],t::g,_,_,_,hs,_,hz,h=>by
  have:=h t.1;rw[uy hs] at this;exact absurd this.symm (hz t (by simp))
 |t::f,[],_,_,hs,_,hz,_,h=>by
  have:=h t.1;rw[uy hs] at this;exact absurd this (hz t (by simp))
 |t::f,u::g,hn,hm,hf,hg,hzf,hzg,h=>by
  have key:∀{t u:Tm} {f g:List Tm},(∀x∈t::f,x.1.length=n)->(∀x∈u::g,x.1.length=n)->gI (t::f)->gI (u::g)->(∀x∈t::f,x.2≠0)->(∀p,bv (t::f) p=bv (u::g) p)->cc t.1 u.1≠ -1:=by
   intro t u f g h1 h2 hf hg hz h hb;have e:=h t.1;rw[uy hf] at e;have:bv (u::g) t.1=0:=IJ fun x hx ex=>by
    rcases List.mem_cons.1 hx with rfl|hx
    . rw[ex,uA] at hb;cases hb
    . have h3:=(List.pairwise_cons.1 hg).1 x hx;have h4:=uq (by rw[h1 t (by simp),h2 u (by simp)]) (by rw[h2 u (by simp),h2 x (by simp[hx])]) hb h3;rw[ex,uA] at h4;cases h4
   rw[this] at e;exact hz t (by simp) e
  have a1:=key hn hm hf hg hzf h;have a2:=key hm hn hg hf hzg fun p=>(h p).symm;have e0:cc t.1 u.1=0:=by
   rcases pQ t.1 u.1 with e|e|e
   . exact absurd e a1
   . exact e
   . rw[pR,e] at a2;simp at a2
  have e1:t.1=u.1:=rW (by rw[hn t (by simp),hm u (by simp)]) e0;have e2:t.2=u.2:=by
   have:=h t.1;rw[uy hf,e1,uy hg] at this;exact this
  have et:t=u:=Prod.ext e1 e2;subst et;congr 1;refine F0 (fun x hx=>hn x (by simp[hx])) (fun x hx=>hm x (by simp[hx])) (List.pairwise_cons.1 hf).2 (List.pairwise_cons.1 hg).2 (fun x hx=>hzf x (by simp[hx])) (fun x hx=>hzg x (by simp[hx])) fun p=>?_;have:=h p;simp only[bv] at this;have h2:=aJ (fun z => -(if t.1=p then t.2 else 0)+z) this;simpa[<-n7,Rat.neg_add_cancel,AR] using h2
def fE(t:Tm):Bool->List Tm->List Tm
 |d,[]=>if d then [] else [t]
 |d,o::os=>(if !d&&decide (cc t.1 o.1<0) then [t] else [])++(if cc t.1 o.1=0 then(o.1,o.2+t.2) else o)::fE t (d||decide (cc t.1 o.1<0)||decide (cc t.1 o.1=0)) os
def vE(f:List Tm):List Tm:=f.foldl (fun out t=>fE t false out) []
def dt(f:List Tm):List Tm:=(vE f).filter fun t=>decide (t.2≠0)
theorem BC{t:Tm}:∀{os:List Tm},(∀o∈os,cc t.1 o.1≠0)->fE t true os=os
 | [],_=>rfl
 |o::os,h=>by
  unfold fE;rw[am (by simp),am (h o (by simp))];simp only[Bool.true_or];rw[BC fun o ho=>h o (by simp[ho])];rfl
theorem JP{n:Nat}{t:Tm}(ht:t.1.length=n):∀{os:List Tm},(∀o∈os,o.1.length=n)->gI os->gI (fE t false os)/\(∀x∈fE t false os,x.1=t.1\/∃o∈os,x.1=o.1)/\∀p,bv (fE t false os) p=bv os p+(if t.1=p then t.2 else 0)
 | [],_,_=>⟨Fx _ _,fun x hx=>by simp[fE] at hx;exact .inl (by rw[hx]),fun p=>by simp[fE,bv,wD]⟩
 |o::os,hn,hs=>by
  have hno:=hn o (by simp);have hns:∀x∈os,x.1.length=n:=fun x hx=>hn x (by simp[hx]);obtain⟨hs1,hs2⟩:=List.pairwise_cons.1 hs;rcases pQ t.1 o.1 with e|e|e
  . -- ahead
    have hne:∀x∈os,cc t.1 x.1 = -1:=fun x hx=>uq (by rw[ht,hno]) (by rw[hno,hns x hx]) e (hs1 x hx);have hi:fE t false (o::os)=t::o::os:=by
     unfold fE;rw[e];simp only[Bool.not_false,n3,vX];rw[ay (by decide),am (by decide)];rw[show(decide ((-1:Int)<0)||decide ((-1:Int)=0))=true from rfl,BC fun x hx=>by rw[hne x hx];decide];rfl
    rw[hi];refine⟨List.pairwise_cons.2 ⟨fun x hx=>?_,hs⟩,fun x hx=>?_,fun p=>by simp only[bv];rw[wD]⟩
    . rcases List.mem_cons.1 hx with rfl|hx
      . exact e
      . exact hne x hx
    . rcases List.mem_cons.1 hx with rfl|hx
      . exact .inl rfl
      . exact .inr ⟨x,hx,rfl⟩
  . -- there
    have eo:t.1=o.1:=rW (by rw[ht,hno]) e;have hne:∀x∈os,cc t.1 x.1≠0:=fun x hx=>by rw[eo,hs1 x hx];decide
    have hi:fE t false (o::os)=(o.1,o.2+t.2)::os:=by
     unfold fE;rw[e];simp only[Bool.not_false,n3,vX];rw[am (by decide),ay trivial];rw[show(decide ((0:Int)<0)||decide True)=true from rfl,BC hne];rfl
    rw[hi];refine⟨List.pairwise_cons.2 ⟨fun x hx=>hs1 x hx,hs2⟩,fun x hx=>?_,fun p=>?_⟩
    . rcases List.mem_cons.1 hx with rfl|hx
      . exact .inr ⟨o,by simp,rfl⟩
      . exact .inr ⟨x,by simp[hx],rfl⟩
    . simp only[bv,eo];split
      . rw[n7,n7,wD t.2]
      . rw[AT]
  . -- behind
    obtain⟨i1,i2,i3⟩:=JP ht hns hs2;have hi:fE t false (o::os)=o::fE t false os:=by
     conv=>lhs;unfold fE
     rw[e];rfl
    rw[hi];refine⟨List.pairwise_cons.2 ⟨fun x hx=>?_,i1⟩,fun x hx=>?_,fun p=>by simp only[bv,i3,n7]⟩
    . rcases i2 x hx with h|⟨y,hy,h⟩
      . rw[h,pR,e]
      . rw[h];exact hs1 y hy
    . rcases List.mem_cons.1 hx with rfl|hx
      . exact .inr ⟨x,by simp,rfl⟩
      . exact(i2 x hx).imp id fun⟨y,hy,h⟩=>⟨y,by simp[hy],h⟩
theorem TO{n:Nat}{f:List Tm}(hn:∀t∈f,t.1.length=n):gI (vE f)/\(∀t∈vE f,t.1.length=n)/\∀p,bv (vE f) p=bv f p:=by
 have key:∀(f out:List Tm),(∀t∈f,t.1.length=n)->gI out->(∀t∈out,t.1.length=n)->gI (f.foldl (fun out t=>fE t false out) out)/\(∀t∈f.foldl (fun out t=>fE t false out) out,t.1.length=n)/\∀p,bv (f.foldl (fun out t=>fE t false out) out) p=bv out p+bv f p:=by
  intro f;induction f with
  |nil=>intro out _ hs hl;exact⟨hs,hl,fun p=>by simp[bv,AT]⟩
  |cons t f ih=>
   intro out hn hs hl;obtain⟨i1,i2,i3⟩:=JP (hn t (by simp)) hl hs;obtain⟨j1,j2,j3⟩:=ih (fE t false out) (fun t ht=>hn t (by simp[ht])) i1 fun x hx=>by
    rcases i2 x hx with h|⟨y,hy,h⟩
    . rw[h];exact hn t (by simp)
    . rw[h];exact hl y hy
   exact⟨j1,j2,fun p=>by simp only[kL,j3,i3,bv,n7]⟩
 obtain⟨a,b,c⟩:=key f [] hn List.Pairwise.nil (fun _ h=>by cases h);exact⟨a,b,fun p=>by rw[show vE f=f.foldl (fun out t=>fE t false out) [] from rfl,c];simp[bv,AR]⟩
theorem UG{n:Nat}{f:List Tm}(hn:∀t∈f,t.1.length=n):gI (dt f)/\(∀t∈dt f,t.1.length=n)/\(∀t∈dt f,t.2≠0)/\∀p,bv (dt f) p=bv f p:=by
 obtain⟨h1,h2,h3⟩:=TO hn;refine⟨h1.filter _,fun t ht=>h2 t (List.mem_filter.1 ht).1,fun t ht=>by simpa using(List.mem_filter.1 ht).2,fun p=>?_⟩;unfold dt;rw[F9,h3]
theorem Kk{n:Nat}{f g:List Tm}(hn:∀t∈f,t.1.length=n)(hg:∀t∈g,t.1.length=n)(hs:gI g)(hz:∀t∈g,t.2≠0)(h:∀p,bv g p=bv f p):g=dt f:=by
 obtain⟨h1,h2,h3,h4⟩:=UG hn;exact F0 hg h2 hs h1 hz h3 fun p=>by rw[h,h4]
def cz(t:Tm):List Tm->List Tm
 | []=>[t]
 |o::os=>if o.1=t.1 then(o.1,o.2+t.2)::os else o::cz t os
def bu(f:List Tm):List Tm:=f.foldl (fun out t=>cz t out) []
def nq(f:List Tm):Prop:=f.Pairwise fun a b=>a.1≠b.1
theorem Ir(t:Tm):∀{os:List Tm},nq os->nq (cz t os)/\(∀x∈cz t os,x.1=t.1\/∃o∈os,x.1=o.1)/\∀p,bv (cz t os) p=bv os p+(if t.1=p then t.2 else 0)
 | [],_=>⟨Fx _ _,fun x hx=>by simp[cz] at hx;exact .inl (by rw[hx]),fun p=>by simp[cz,bv,wD]⟩
 |o::os,hs=>by
  obtain⟨h1,h2⟩:=List.pairwise_cons.1 hs;unfold cz;by_cases e:o.1=t.1
  . rw[ay e];refine⟨List.pairwise_cons.2 ⟨h1,h2⟩,fun x hx=>?_,fun p=>?_⟩
    . rcases List.mem_cons.1 hx with rfl|hx
      . exact .inl e
      . exact .inr ⟨x,by simp[hx],rfl⟩
    . simp only[bv,e];split
      . rw[n7,n7,wD t.2]
      . rw[AT]
  . rw[am e];obtain⟨i1,i2,i3⟩:=Ir t h2;refine⟨List.pairwise_cons.2 ⟨fun x hx=>?_,i1⟩,fun x hx=>?_,fun p=>by simp only[bv,i3,n7]⟩
    . rcases i2 x hx with h|⟨y,hy,h⟩
      . rw[h];exact e
      . rw[h];exact h1 y hy
    . rcases List.mem_cons.1 hx with rfl|hx
      . exact .inr ⟨x,by simp,rfl⟩
      . exact(i2 x hx).imp id fun⟨y,hy,h⟩=>⟨y,by simp[hy],h⟩
theorem CM{n:Nat}{f:List Tm}(hn:∀t∈f,t.1.length=n):nq (bu f)/\(∀t∈bu f,t.1.length=n)/\∀p,bv (bu f) p=bv f p:=by
 have key:∀(f out:List Tm),(∀t∈f,t.1.length=n)->nq out->(∀t∈out,t.1.length=n)->nq (f.foldl (fun out t=>cz t out) out)/\(∀t∈f.foldl (fun out t=>cz t out) out,t.1.length=n)/\∀p,bv (f.foldl (fun out t=>cz t out) out) p=bv out p+bv f p:=by
  intro f;induction f with
  |nil=>intro out _ hs hl;exact⟨hs,hl,fun p=>by simp[bv,AT]⟩
  |cons t f ih=>
   intro out hn hs hl;obtain⟨i1,i2,i3⟩:=Ir t hs;obtain⟨j1,j2,j3⟩:=ih (cz t out) (fun t ht=>hn t (by simp[ht])) i1 fun x hx=>by
    rcases i2 x hx with h|⟨y,hy,h⟩
    . rw[h];exact hn t (by simp)
    . rw[h];exact hl y hy
   exact⟨j1,j2,fun p=>by simp only[kL,j3,i3,bv,n7]⟩
 obtain⟨a,b,c⟩:=key f [] hn List.Pairwise.nil (fun _ h=>by cases h);exact⟨a,b,fun p=>by rw[show bu f=f.foldl (fun out t=>cz t out) [] from rfl,c];simp[bv,AR]⟩
theorem OK{n:Nat}{f g:List Tm}(hn:∀t∈f,t.1.length=n)(hp:g.Perm ((bu f).filter fun t=>decide (t.2≠0)))(hs:g.Pairwise fun a b=>¬cc b.1 a.1<0):g=dt f:=by
 obtain⟨h1,h2,h3⟩:=CM hn;have hm:∀t∈g,t∈bu f/\t.2≠0:=fun t ht=>by simpa using List.mem_filter.1 (hp.mem_iff.1 ht)
 have hnd:nq g:=(hp.pairwise_iff (fun h=>kP h)).2 (h1.filter _);refine Kk hn (fun t ht=>h2 t (hm t ht).1) ?_ (fun t ht=>(hm t ht).2) fun p=>by rw[Qz hp,F9,h3]
 refine(hs.and hnd).imp_of_mem fun{a b} ha hb ⟨h,hne⟩=>?_;have hl:a.1.length=b.1.length:=by rw[h2 a (hm a ha).1,h2 b (hm b hb).1]
 rcases pQ a.1 b.1 with e|e|e
 . exact e
 . exact absurd (rW hl e) hne
 . rw[pR,e] at h;exact absurd (by decide) h
def bX:Nat->Nat->List Pw
 |0,0=>[[]]
 |0,_+1=>[]
 |n+1,s=>(List.range (s+1)).flatMap fun j=>(bX n j).map fun p=>((s-j:Nat):Int)::p
def cQ(n d:Nat):List Pw:=(List.range (d+1)).flatMap fun s=>bX n s
theorem QP(a b:List Int):sumI (a++b)=sumI a+sumI b:=by
 induction a with
 |nil=>simp[sumI]
 |cons x a ih=>simp only[kJ,sumI,ih];omega
theorem n8:∀{p:Pw},(∀x∈p,0<=x)->0<=sumI p
 | [],_=>by simp[sumI]
 |x::p,h=>by
  have h1:=h x (by simp);have h2:=n8 (p:=p) fun y hy=>h y (by simp[hy]);simp only[sumI];omega
theorem od:∀{n s:Nat} {p:Pw},p∈bX n s↔p.length=n/\(∀x∈p,0<=x)/\sumI p=s
 |0,0,p=>by
  simp only[bX,fL];constructor
  . rintro rfl;simp[sumI]
  . rintro⟨h,_⟩;exact rA h
 |0,s+1,p=>by
  simp only[bX,bt,false_iff];rintro⟨h,_,h2⟩;rw[rA h] at h2;simp only[sumI] at h2;omega
 |n+1,s,p=>by
  simp only[bX,List.mem_flatMap,List.mem_range,AC];constructor
  . rintro⟨j,hj,q,hq,rfl⟩;obtain⟨h1,h2,h3⟩:=od.1 hq;refine⟨by simp[h1],fun x hx=>?_,by simp only[sumI,h3];omega⟩;rcases List.mem_cons.1 hx with rfl|hx
    . omega
    . exact h2 x hx
  . rintro⟨h1,h2,h3⟩;cases p with
    |nil=>simp at h1
    |cons x q=>
     have hx:=h2 x (by simp);have hq:=n8 (p:=q) fun y hy=>h2 y (by simp[hy]);simp only[sumI] at h3;refine⟨(sumI q).toNat,by omega,q,od.2 ⟨by simpa using h1,fun y hy=>h2 y (by simp[hy]),by omega⟩,?_⟩;congr 1;omega
theorem uu{n d:Nat}{p:Pw}:p∈cQ n d↔p.length=n/\(∀x∈p,0<=x)/\sumI p<=d:=by
 simp only[cQ,List.mem_flatMap,List.mem_range,od];constructor
 . rintro⟨s,hs,h1,h2,h3⟩;exact⟨h1,h2,by omega⟩
 . rintro⟨h1,h2,h3⟩;have:=n8 h2;exact⟨(sumI p).toNat,by omega,h1,h2,by omega⟩
theorem Qh{x:Int}{a b:Pw}:cU (x::a) (x::b)=cU a b:=by
 conv=>lhs;unfold cU
 rw[am (by omega),am (by omega)]
theorem CB{α:Type}{R:α->α->Prop}{f:Nat->List α}:∀{k m:Nat},(∀i,i<k->(f (m+i)).Pairwise R)->(∀i j,i<j->j<k->∀a∈f (m+i),∀b∈f (m+j),R a b)->((List.range' m k).flatMap f).Pairwise R
 |0,m,_,_=>by simp
 |k+1,m,h1,h2=>by
  rw[List.range'_succ,ch,List.pairwise_append];refine⟨by simpa using h1 0 (by omega),CB (fun i hi=>?_) (fun i j hij hj a ha b hb=>?_),fun a ha b hb=>?_⟩
  . have:=h1 (i+1) (by omega);rwa[show m+(i+1)=m+1+i by omega] at this
  . refine h2 (i+1) (j+1) (by omega) (by omega) a ?_ b ?_
    . rwa[show m+(i+1)=m+1+i by omega]
    . rwa[show m+(j+1)=m+1+j by omega]
  . obtain⟨j,hj,hb⟩:=List.mem_flatMap.1 hb;rw[List.mem_range'] at hj;obtain⟨i,hi,rfl⟩:=hj;refine h2 0 (i+1) (by omega) (by omega) a (by simpa using ha) b ?_;rwa[show m+(i+1)=m+1+1*i by omega]
theorem HB:∀n s:Nat,(bX n s).Pairwise fun a b=>cU a b = -1
 |0,0=>by simp[bX]
 |0,s+1=>by simp[bX]
 |n+1,s=>by
  unfold bX;rw[List.range_eq_range'];refine CB (fun i hi=>?_) fun i j hij hj a ha b hb=>?_
  . rw[NE];exact(HB n (0+i)).imp fun{a b} h=>by rw[Qh];exact h
  . obtain⟨p,hp,rfl⟩:=List.mem_map.1 ha;obtain⟨q,hq,rfl⟩:=List.mem_map.1 hb;unfold cU;rw[ay (by omega)]
theorem Qe(n d:Nat):(cQ n d).Pairwise fun a b=>cc a b = -1:=by
 unfold cQ;rw[List.range_eq_range'];refine CB (fun i hi=>?_) fun i j hij hj a ha b hb=>?_
 . refine(HB n (0+i)).imp_of_mem fun{a b} ha hb h=>?_;have h1:=(od.1 ha).2.2;have h2:=(od.1 hb).2.2;unfold cc;rw[am (by simp[h1,h2]),h]
 . have h1:=(od.1 ha).2.2;have h2:=(od.1 hb).2.2;unfold cc;rw[ay (by omega),ay (by omega)]
end Go.Proofs.Reg
namespace Go.Proofs.Fl
open Go.RowKit Go.Proofs.Dig
attribute [local irreducible] IntKind.wrap a7 be bq bw
theorem Jw(J:Keep)(n:Int):C J 65 [.int .i64 n] (.bool (decide (1<=n/\n<=4))):=by
 refine aH Tryz.func65 rfl rfl rfl ?_;by_cases h:1<=n
 . by_cases h2:n<=4
   . rw[aZ (show 1<=n/\n<=4 from⟨h,h2⟩)];repeat((first|refine W.RS ?_|refine W.ret ?_|refine xT (by omega) ?_|refine xr ?_|refine xB ?_);conv=>whnf)
     rfl
   . rw[bl (show ¬(1<=n/\n<=4) by omega)];repeat((first|refine W.RS ?_|refine W.ret ?_|refine xT (by omega) ?_|refine xF (by omega) ?_|refine xr ?_|refine xB ?_);conv=>whnf)
     rfl
 . rw[bl (show ¬(1<=n/\n<=4) by omega)];repeat((first|refine W.RS ?_|refine W.ret ?_|refine xF (by omega) ?_|refine xr ?_|refine xA ?_);conv=>whnf)
   rfl
def ge(n:Int):Nat->Int
 |0=>1
 |i+1=>(ge n i*(n-i)).tdiv (i+1)
theorem S3(J:Keep){n:Int}{k:Nat}(hk:k<=4)(h1:0<=n)(h2:n<=28):C J 29 [.int .i64 n,.int .i64 k] (.int .i64 (ge n k)):=by
 have hb:∀i≤4,-1000000<=ge n i/\ge n i<=1000000:=by
  obtain⟨m,rfl⟩:=Int.eq_ofNat_of_zero_le h1;have:∀m:Nat,m<=28->∀i≤4,-1000000<=ge (m:Int) i/\ge (m:Int) i<=1000000:=by decide +kernel
  exact this m (by omega)
 refine aH Tryz.func29 rfl rfl rfl ?_;repeat((first|refine W.R ?_|refine W.c ?_);conv=>whnf)
 refine W.loop (G:={ t:Nat // t<=k }) (fun t=>aF [(0,.iv (.int .i64 n)),(5,.iv (.int .i64 (ge n t.1))),(7,.iv (.int .i64 k)),(8,.iv (.int .i64 (t.1:Int)))] [] 20) (fun t=>k-t.1) ⟨0,bk _⟩
  (Wk.tab [] ⟨aa,aa,aa,aa,ab⟩ trivial rfl) ?_
 rintro⟨t,ht⟩;show W J _ _ (aF [(0,.iv (.int .i64 n)),(5,.iv (.int .i64 (ge n t))),(7,.iv (.int .i64 k)),(8,.iv (.int .i64 (t:Int)))] [] 20) _;by_cases h:t<k
 . have b1:=hb t (by omega);have b2:=hb (t+1) (by omega);obtain⟨y,hy⟩:∃y,ge n t=y:=⟨_,rfl⟩;have e:ge n (t+1)=(y*(n-t)).tdiv (t+1):=by rw[ge,hy]
   rw[hy] at b1;rw[hy];have hm : -100000000<=y*(n-t)/\y*(n-t)<=100000000:=by
    have h3 : -4<=n-t/\n-t<=28:=by omega
    have h4:(y*(n-t)).natAbs<=1000000*28:=by
     rw[fB];exact iO (by omega) (by omega)
    omega
   obtain⟨z,hz⟩:∃z,y*(n-t)=z:=⟨_,rfl⟩;rw[hz] at hm e;rw[e] at b2;repeat((first|refine W.R ?_|refine W.c ?_|refine ap (by omega) ?_|refine xT (by omega) ?_|refine⟨_,rfl,?_⟩|refine xr ?_|refine And.intro (by omega) ?_);conv=>whnf)
   exact⟨⟨t+1,by omega⟩,Wk.tab [] ⟨aa,⟨dm (by dsimp only;rw[e,<-hz];exact dv (by rw[hz];omega)),rfl⟩,aa,aa,ab⟩ trivial rfl,by dsimp only;omega⟩
 . have e:t=k:=by omega
   subst e;repeat((first|refine W.R ?_|refine W.c ?_|refine xF (by omega) ?_|refine xr ?_);conv=>whnf)
   rfl
theorem D9:∀l:List Int,sumI l=Reg.sumI l
 | []=>rfl
 |x::l=>by simp only[sumI,Reg.sumI,D9 l]
end Go.Proofs.Fl
namespace Go.Proofs.Fl
theorem BU:∀l:List Int,Fl.sumI l=Reg.sumI l
 | []=>rfl
 |x::l=>by rw[Fl.sumI,Reg.sumI,BU l]
theorem IK:∀a b:List Int,kA b a=Reg.cU a b
 |x::a,y::b=>by
  rw[kA,Reg.cU,IK a b];unfold aN;by_cases h1:y<x
  . simp[h1]
  . by_cases h2:x<y
    . simp[h1,h2]
    . simp[h1,h2]
 | [],[]=>rfl
 | [],_::_=>rfl
 |_::_,[]=>rfl
theorem wZ(a b:List Int):sM a b=Reg.cc a b:=by
 unfold sM Reg.cc;rw[kE,kE,kE,IK,BU,BU];unfold aN;by_cases h1:Reg.sumI a<Reg.sumI b
 . have h2:Reg.sumI a≠Reg.sumI b:=by omega
   simp[h1,h2]
 . by_cases h2:Reg.sumI b<Reg.sumI a
   . have h3:Reg.sumI a≠Reg.sumI b:=by omega
     simp[h1,h2,h3]
   . have h3:Reg.sumI a=Reg.sumI b:=by omega
     simp[h3];intro h;exact h.symm
theorem Q5{α U:Type}{f:α->U}{m g:List U}(h:m.Perm g):∀{l:List α},m=l.map f->∃l':List α,l'.Perm l/\l'.map f=g:=by
 induction h with
 |nil=>intro l e;exact⟨l,.refl _,e.symm⟩
 |cons x _ ih=>
  intro l e;cases l with
  |nil=>cases e
  |cons a l=>
   simp only[aS,pE] at e;obtain⟨l',h1,h2⟩:=ih e.2;exact⟨a::l',h1.cons a,by rw[aS,h2,e.1]⟩
 |swap x y m=>
  intro l e;cases l with
  |nil=>cases e
  |cons a l=>
   cases l with
   |nil=>cases e
   |cons b l=>
    simp only[aS,pE] at e;exact⟨b::a::l,.swap _ _ _,by rw[aS,aS,<-e.1,<-e.2.1,<-e.2.2]⟩
 |trans _ _ ih1 ih2=>
  intro l e;obtain⟨l1,h1,h2⟩:=ih1 e;obtain⟨l2,h3,h4⟩:=ih2 h2.symm;exact⟨l2,h3.trans h1,h4⟩
end Go.Proofs.Fl
namespace Go.Proofs.En
open Go.RowKit Go.Proofs.Fl Go.Proofs.Dig
attribute [local irreducible] IntKind.wrap a7 be bq bw SW SWr CallOk To Tr eG
open Go.Sort
noncomputable def bC(t:Reg.Tm):List EV:=(.iv (.sl (t.1.map di))::(qr t.2).cells.map .iv)
noncomputable def ik(ts:List Reg.Tm)(cnt:Nat):EO:=.mem 83 (ts.flatMap bC) false [(0,ts.length*4)] cnt
theorem jU(t:Reg.Tm):(bC t).length=4:=rfl
theorem N8(J:Keep){n:Nat}{ts g:List Reg.Tm}(hn:∀t∈ts,t.1.length=n)(hn2:n<2^50)(hs:∀t∈ts,cu t.1<2^62)(h0:ts≠[])(hl:ts.length<2^60)(hp:g.Perm ts)(hg:Reg.gI g){cap:Cap}{cnt:Nat} :
 CallOk (XS J) 133 [.w (.one (.slc 0 0 0 ts.length cap)),ac (.fn 134)] (fV [ik ts cnt]) (.tup []) (fV [ik g cnt]):=by
 have e1:(List.finRange ts.length).map (fun i=>ts.get i)=ts:=by
  apply List.ext_getElem<;>simp
 obtain⟨ord,h1,h2⟩:=Q5 (f:=fun i=>ts.get i) hp.symm (l:=List.finRange ts.length) e1.symm;have hget:∀i:Fin ts.length,ts.get i∈ts:=fun i=>List.get_mem _ _;have hgl:g.length=ts.length:=hp.length_eq;have key:=PN (X:=XS J) (f:=133) (g:=134) (k:=4) (n:=ts.length) (e:=83) (by omega) (List.length_pos_iff.2 h0) (by omega) Tryz.sortTerm rfl ⟨_,Tryz.func133,rfl,rfl⟩ Tryz.isAgg83 Tryz.sizeOf83
  (enters_of Tryz.func134 (by kernel_rfl) rfl) (rows:=fun i=>bC (ts.get i)) (fun i=>rfl) (xs:=fun i=>tq (ts.get i).1 (ts.get i).2)
  (fun H U vs i h=>by
    obtain⟨a,b⟩:=uQ (cs:=.sl ((ts.get i).1.map di)::(qr (ts.get i).2).cells) h;exact .agg vs _ a b)
  (cf:=fun i j=>sM (ts.get i).1 (ts.get j).1) (fun i j=>Sy J ((hn _ (hget i)).trans (hn _ (hget j)).symm) (by rw[hn _ (hget i)];exact hn2) (hs _ (hget i)) (hs _ (hget j)))
  ?_ h1 ?_ ?_ (cap:=cap) (cnt:=cnt)
 . have e2:(List.finRange ts.length).flatMap (fun i=>bC (ts.get i))=ts.flatMap bC:=by
    conv=>rhs;rw[<-e1,NF]
   have e3:ord.flatMap (fun i=>bC (ts.get i))=g.flatMap bC:=by rw[<-h2,NF]
   rw[e2,e3] at key;unfold ik;rw[hgl];exact key
 . have lt:∀x y:Fin ts.length,ltOf (fun i j=>sM (ts.get i).1 (ts.get j).1) x y=decide (Reg.cc (ts.get x).1 (ts.get y).1 = -1):=fun x y=>by
    show decide (sM (ts.get x).1 (ts.get y).1<0)=_;rw[wZ];rcases Reg.pQ (ts.get x).1 (ts.get y).1 with h|h|h<;>rw[h]<;>rfl
   have len:∀x y:Fin ts.length,(ts.get x).1.length=(ts.get y).1.length:=fun x y=>(hn _ (hget x)).trans (hn _ (hget y)).symm;refine⟨fun x=>?_,fun x y z h k=>?_,fun x y z h k=>?_⟩
   . rw[lt,Reg.uA];rfl
   . rw[lt] at h k ⊢;exact aZ (Reg.uq (len x y) (len y z) (mY h) (mY k))
   . rw[lt] at h k ⊢;refine bl fun hxz=>?_;have h:=pC h;have k:=pC k;rcases Reg.pQ (ts.get x).1 (ts.get y).1 with e|e|e
     . exact h e
     . rw[Reg.rW (len x y) e] at hxz;exact k hxz
     . have e4:=Reg.pR (ts.get x).1 (ts.get y).1;rw[e] at e4;exact k (Reg.uq (len y x) (len x z) e4 hxz)
 . have h3:(ord.map fun i=>ts.get i).Pairwise fun a b=>Reg.cc a.1 b.1 = -1:=by rw[h2];exact hg
   rw[NE] at h3;refine h3.imp fun{i j} h=>?_;rw[wZ,h];decide
 . intro i j hij;have hnd:Reg.nq ts:=(hp.pairwise_iff (R:=fun a b:Reg.Tm=>a.1≠b.1) (fun h=>kP h)).1 (hg.imp fun{a b} h e=>by rw[e,Reg.uA] at h;cases h);have hne:(ts.get i).1≠(ts.get j).1:=by
    have:=List.pairwise_iff_getElem.1 hnd;rcases Nat.lt_trichotomy i.1 j.1 with h|h|h
    . exact this i.1 j.1 i.2 j.2 h
    . exact absurd (Fin.ext h) hij
    . exact kP (this j.1 i.1 j.2 i.2 h)
   rw[wZ,wZ,Reg.pR (ts.get i).1 (ts.get j).1];rcases Reg.pQ (ts.get i).1 (ts.get j).1 with e|e|e
   . left;omega
   . exact absurd (Reg.rW ((hn _ (hget i)).trans (hn _ (hget j)).symm) e) hne
   . right;omega
end Go.Proofs.En
namespace Go.Proofs.Fl
open Go.RowKit Go.Proofs.Dig
attribute [local irreducible] IntKind.wrap a7 be bq bw
theorem SA{J:Keep}(B:Base J){a b:List Int}{x y:Rat}(hx:al x<2^36)(hy:al y<2^36):C J 130 [tq a x,tq b y] (tq a (x+y)):=by
 refine aH Tryz.func130 rfl rfl rfl ?_;have c1:=mi B (a:=x) (b:=y) (by omega) (by omega);repeat((first|refine W.RS ?_|refine W.ret ?_|refine⟨_,c1,?_⟩|refine xr ?_);conv=>whnf)
 rfl
theorem Js(J:Keep){a:List Int}{x:Rat}:C J 132 [tq a x] (.bool (decide (x=0))):=by
 refine aH Tryz.func132 rfl rfl rfl ?_;have c1:=qq J x;repeat((first|refine W.RS ?_|refine W.ret ?_|refine⟨_,c1,?_⟩|refine⟨_,rfl,?_⟩|refine xr ?_);conv=>whnf)
 have e:(aN x.num 0==0)=decide (x=0):=by
  by_cases h:x=0
  . subst h;rfl
  . have:aN x.num 0≠0:=fun e=>h (Rat.num_eq_zero.1 (rV e));simp[h,this]
 rw[e];rfl
end Go.Proofs.Fl
namespace Go.Proofs.En
open Go.RowKit Go.Proofs.Fl Go.Proofs.Dig
attribute [local irreducible] IntKind.wrap a7 be bq bw SW SWr CallOk To Tr eG
def dP(p:List Int):List Int:=p++List.replicate (4-p.length) 0
theorem Q7{p q:List Int}(h:p.length=q.length)(e:dP p=dP q):p=q:=List.append_inj_left e h
theorem Vi(J:Keep){a:Int}{x:Rat}:Go.Proofs.Fl.C J 129 [tq [a] x] (.agg ((dP [a]).map di)):=by
 refine pS Tryz.func129 rfl rfl rfl rfl rfl ?_;repeat((first|refine SW.RS ?_|refine SW.ret ?_|refine cn rfl ?_|refine bg rfl ?_|refine aM rfl ?_|refine vU rfl ?_);conv=>whnf)
 rfl
theorem Vh(J:Keep){a b:Int}{x:Rat}:Go.Proofs.Fl.C J 129 [tq [a,b] x] (.agg ((dP [a,b]).map di)):=by
 refine pS Tryz.func129 rfl rfl rfl rfl rfl ?_;repeat((first|refine SW.RS ?_|refine SW.ret ?_|refine cn rfl ?_|refine bg rfl ?_|refine aM rfl ?_|refine vU rfl ?_);conv=>whnf)
 rfl
theorem Vg(J:Keep){a b c:Int}{x:Rat}:Go.Proofs.Fl.C J 129 [tq [a,b,c] x] (.agg ((dP [a,b,c]).map di)):=by
 refine pS Tryz.func129 rfl rfl rfl rfl rfl ?_;repeat((first|refine SW.RS ?_|refine SW.ret ?_|refine cn rfl ?_|refine bg rfl ?_|refine aM rfl ?_|refine vU rfl ?_);conv=>whnf)
 rfl
theorem Vf(J:Keep){a b c d:Int}{x:Rat}:Go.Proofs.Fl.C J 129 [tq [a,b,c,d] x] (.agg ((dP [a,b,c,d]).map di)):=by
 refine pS Tryz.func129 rfl rfl rfl rfl rfl ?_;repeat((first|refine SW.RS ?_|refine SW.ret ?_|refine cn rfl ?_|refine bg rfl ?_|refine aM rfl ?_|refine vU rfl ?_);conv=>whnf)
 rfl
theorem SB(J:Keep){p:List Int}{x:Rat}(h0:p≠[])(h4:p.length<=4):Go.Proofs.Fl.C J 129 [tq p x] (.agg ((dP p).map di)):=by
 match p,h0,h4 with
 | [a],_,_=>exact Vi J
 | [a,b],_,_=>exact Vh J
 | [a,b,c],_,_=>exact Vg J
 | [a,b,c,d],_,_=>exact Vf J
 |_::_::_::_::_::_,_,h=>simp at h
end Go.Proofs.En
namespace Go.Proofs.En
open Go.RowKit Go.Proofs.Fl Go.Proofs.Dig
attribute [local irreducible] IntKind.wrap a7 be bq bw SW SWr CallOk To Tr eG
def jG(p:List Int):EW:=.agg ((dP p).map fun z=>.iv (di z))
theorem F7:∀l:List Int,l7 (l.map fun z=>.iv (di z))=some l
 | []=>rfl
 |x::l=>by rw[aS,l7,F7 l];rfl
theorem rU(p:List Int):ic (jG p)=some (.ints (dP p)):=by
 show(l7 _).map KV.ints=_;rw[F7];rfl
theorem I9:∀{l:List Int} {x:Int},x∈l->x.natAbs<=cu l
 |y::l,x,h=>by
  rw[cu];rcases List.mem_cons.1 h with rfl|h
  . omega
  . have:=I9 h;omega
def jg(n:Nat)(p:List Int):Prop:=p.length=n/\cu p<2^62
theorem rP{n:Nat}{p:List Int}(hn:n<=4)(h:jg n p):fO 4 (.ints (dP p))=true:=by
 show(Nat.beq (dP p).length 4&&(dP p).all mD)=true;have hl:(dP p).length=4:=by
  unfold dP;rw[bF,AK,h.1];omega
 rw[hl,bh,n3,kO];intro z hz;unfold dP at hz;unfold mD;rw[cY];rcases List.mem_append.1 hz with hz|hz
 . have:=I9 hz;have:=h.2;omega
 . rw[vY hz];decide
def kF:List (List Int)->Nat->List (EW×EW×Nat)
 | [],_=>[]
 |p::l,i=>(jG p,.one (.iv (di (i:Int))),i)::kF l (i+1)
theorem JN{n:Nat}{p q:List Int}(hp:jg n p)(hq:jg n q)(h:p≠q):decide (KV.ints (dP p)=.ints (dP q))=false :=
 bl fun e=>h (Q7 (hp.1.trans hq.1.symm) (by simpa using e))
theorem w8{n:Nat}{p:List Int}(hn:n<=4)(hp:jg n p):∀{ps:List (List Int)} {i j:Nat},(∀q∈ps,jg n q)->p∉ps->fq (fO 4) (.ints (dP p)) (kF ps i) j=some []
 | [],_,_,_,_=>rfl
 |q::ps,i,j,ho,hm=>by
  have ih:=w8 hn hp (ps:=ps) (i:=i+1) (j:=j+1) (fun x hx=>ho x (by simp[hx])) fun e=>hm (by simp[e]);have h2:=JN (ho q (by simp)) hp fun e=>hm (by simp[e]);unfold kF fq;rw[rU,ih];simp only[rP hn (ho q (by simp)),h2,af,aX]
theorem G9{n:Nat}{p:List Int}(hn:n<=4):∀{ps:List (List Int)} {m i j:Nat},(∀q∈ps,jg n q)->ps.Nodup->ps[m]?=some p->fq (fO 4) (.ints (dP p)) (kF ps i) j=some [(j+m,EW.one (.iv (di ((i+m:Nat):Int))),i+m)]
 | [],_,_,_,_,_,h=>by simp at h
 |q::ps,0,i,j,ho,hd,h=>by
  simp at h;subst h;have hd':=List.nodup_cons.1 hd;unfold kF fq;rw[rU,w8 hn (ho q (by simp)) (fun x hx=>ho x (by simp[hx])) hd'.1];simp only[rP hn (ho q (by simp)),decide_true,af,fA]
 |q::ps,m+1,i,j,ho,hd,h=>by
  simp at h;have hd':=List.nodup_cons.1 hd;have hpm:p∈ps:=bV h;have ih:=G9 hn (ps:=ps) (m:=m) (i:=i+1) (j:=j+1) (fun x hx=>ho x (by simp[hx])) hd'.2 h;have h2:=JN (ho q (by simp)) (ho p (by simp[hpm])) fun e=>hd'.1 (by rw[e];exact hpm);unfold kF fq;rw[rU,ih];simp only[rP hn (ho q (by simp)),h2,af,aX];rw[show j+1+m=j+(m+1) by omega,show i+1+m=i+(m+1) by omega]
theorem Ic(p:List Int):∀(ps:List (List Int)) (i:Nat),kF (ps ++ [p]) i=kF ps i ++ [(jG p,EW.one (.iv (di ((i+ps.length:Nat):Int))),i+ps.length)]
 | [],i=>rfl
 |q::ps,i=>by
  rw[kJ,kF,Ic p ps,kF,kJ,bB,show i+1+ps.length=i+(ps.length+1) by omega]
def jh(ps:List (List Int)):EO:=.map (kF ps 0) ps.length
theorem FX{zw:me->Option EW}(hz:zw 3=some (EW.one (.iv (di 0)))){h:Hp}{g n:Nat}{ps:List (List Int)}{p:List Int}(hg:h g=some (jh ps))(hn:n<=4)(ho:∀q∈ps,jg n q)(hp:jg n p)(hm:p∉ps){kw:EW}(hkw:jG p=kw) :
 mb nF zw h 243 (.w (.one (.mp g))) (.w kw) true=some (.tup [.one (.iv (di 0)),.one (.iv (.bool false))],[]):=by
 subst hkw;show(match h g,ic (jG p) with
  |some (.map es _),some k=>bif fO 4 k then(match fq (fO 4) k es 0,zw 3 with
   |some [],some z=>some (bif true then ES.tup [z,EW.one (.iv (.bool false))] else .w z,([]:Wr))
   |some [(_,y,_)],some _=>some (bif true then ES.tup [y,EW.one (.iv (.bool true))] else .w y,[])
   |_,_=>none) else none
  |_,_=>none)=_
 rw[hg,rU];simp only[jh,rP hn hp,af,hz,w8 hn hp ho hm]
theorem Ol{zw:me->Option EW}(hz:zw 3=some (EW.one (.iv (di 0)))){h:Hp}{g n m:Nat}{ps:List (List Int)}{p:List Int}(hg:h g=some (jh ps))(hn:n<=4)(ho:∀q∈ps,jg n q)(hd:ps.Nodup)(hm:ps[m]?=some p){kw:EW}(hkw:jG p=kw) :
 mb nF zw h 243 (.w (.one (.mp g))) (.w kw) true=some (.tup [.one (.iv (di (m:Int))),.one (.iv (.bool true))],[]):=by
 subst hkw;show(match h g,ic (jG p) with
  |some (.map es _),some k=>bif fO 4 k then(match fq (fO 4) k es 0,zw 3 with
   |some [],some z=>some (bif true then ES.tup [z,EW.one (.iv (.bool false))] else .w z,([]:Wr))
   |some [(_,y,_)],some _=>some (bif true then ES.tup [y,EW.one (.iv (.bool true))] else .w y,[])
   |_,_=>none) else none
  |_,_=>none)=_
 rw[hg,rU];have:=G9 hn (i:=0) (j:=0) ho hd hm;simp only[aU] at this;simp only[jh,rP hn (ho p (bV hm)),af,hz,this]
theorem KC{h:Hp}{g n:Nat}{ps:List (List Int)}{p:List Int}(hg:h g=some (jh ps))(hn:n<=4)(ho:∀q∈ps,jg n q)(hp:jg n p)(hm:p∉ps){kw:EW}(hkw:jG p=kw){v:Int}(hv:v=(ps.length:Int)) :
 jr nF h 243 (.w (.one (.mp g))) (.w kw) (.w (.one (.iv (di v))))=some (.und,[(g,jh (ps ++ [p]))]):=by
 subst hv;subst hkw;show(match h g,ic (jG p) with
  |some (.map es ck),some kk=>bif fO 4 kk then(match fq (fO 4) kk es 0 with
   |some []=>bA (ck+1) fun ck'=>fY (es ++ [(jG p,EW.one (.iv (di (ps.length:Int))),ck)]) fun es'=>some (ES.und,[(g,EO.map es' ck')])
   |some [(i,_,b)]=>fY (es.set i (jG p,EW.one (.iv (di (ps.length:Int))),b)) fun es'=>some (.und,[(g,.map es' ck)])
   |_=>none) else none
  |_,_=>none)=_
 rw[hg,rU];simp only[jh,rP hn hp,af,w8 hn hp ho hm,cZ,bd];rw[Ic,aU,bF];rfl
theorem P4{n:Nat}{p:List Int}(hn:n<=4)(h:jg n p):∃a b c d,dP p=[a,b,c,d]:=by
 have hl:(dP p).length=4:=by unfold dP;rw[bF,AK,h.1];omega
 match dP p,hl with
 | [a,b,c,d],_=>exact⟨a,b,c,d,rfl⟩
theorem Ql{p:List Int}{a b c d:Int}(h:dP p=[a,b,c,d]):jG p=.agg [.iv (di a),.iv (di b),.iv (di c),.iv (di d)]:=by
 unfold jG;rw[h];rfl
end Go.Proofs.En
namespace Go.Proofs.Reg
structure K5 where
 a:Nat
 b:Nat
 c:Nat
 d:Nat
 e:Nat
 deriving DecidableEq
def K5.zero:K5:=⟨0,0,0,0,0⟩
def K5.list(k:K5):List Int:=[k.a,k.b,k.c,k.d,k.e]
def K5.tot(k:K5):Nat:=k.a+k.b+k.c+k.d+k.e
def K5.inc(k:K5):Nat->K5
 |0=>⟨k.a+1,k.b,k.c,k.d,k.e⟩
 |1=>⟨k.a,k.b+1,k.c,k.d,k.e⟩
 |2=>⟨k.a,k.b,k.c+1,k.d,k.e⟩
 |3=>⟨k.a,k.b,k.c,k.d+1,k.e⟩
 |_=>⟨k.a,k.b,k.c,k.d,k.e+1⟩
theorem K5.inc_tot(k:K5)(p:Nat):(k.inc p).tot=k.tot+1:=by
 unfold K5.inc K5.tot;split<;>dsimp only<;>omega
theorem K5.list_inj{k k':K5}(h:k.list=k'.list):k=k':=by
 obtain⟨a,b,c,d,e⟩:=k;obtain⟨a',b',c',d',e'⟩:=k';simp only[K5.list,pE,Int.natCast_inj,and_true] at h;obtain⟨rfl,rfl,rfl,rfl,rfl⟩:=h;rfl
abbrev Tb:=List (K5×Int)
def ba(l:Tb):List K5:=l.map Prod.fst
def cC:Tb->K5->Int
 | [],_=>0
 |p::l,k=>if p.1=k then p.2 else cC l k
def cR:Tb->K5->Int->Tb
 | [],k,x=>[(k,x)]
 |p::l,k,x=>if p.1=k then(k,x)::l else p::cR l k x
def lin(φ:K5->Int):Tb->Int
 | []=>0
 |p::l=>p.2*φ p.1+lin φ l
def fU:Tb->Nat
 | []=>0
 |p::l=>p.2.natAbs+fU l
theorem JK(φ:K5->Int)(k:K5)(x:Int):∀l:Tb,lin φ (cR l k (cC l k+x))=lin φ l+x*φ k
 | []=>by simp[cR,cC,lin]
 |p::l=>by
  unfold cR cC;split
  . rename_i h;subst h;simp only[lin,Int.add_mul];omega
  . simp only[lin,JK φ k x l];omega
theorem I7(k:K5)(x:Int):∀l:Tb,fU (cR l k (cC l k+x))<=fU l+x.natAbs
 | []=>by simp[cR,cC,fU]
 |p::l=>by
  unfold cR cC;split
  . simp only[fU];omega
  . have:=I7 k x l;simp only[fU];omega
theorem Iq(k:K5):∀l:Tb,(cC l k).natAbs<=fU l
 | []=>by simp[cC]
 |p::l=>by
  have:=Iq k l;unfold cC fU;split<;>omega
theorem Cr{k:K5}{z:Int}:∀{l:Tb},(k,z)∈l->z.natAbs<=fU l
 |p::l,h=>by
  rcases List.mem_cons.1 h with rfl|h
  . simp only[fU];omega
  . have:=Cr h;simp only[fU];omega
theorem B7(k:K5)(x:Int):∀l:Tb,ba (cR l k x)=if k∈ba l then ba l else ba l ++ [k]
 | []=>by simp[cR,ba]
 |p::l=>by
  have ih:=B7 k x l;unfold cR;by_cases h:p.1=k
  . rw[ay h,ay (by simp[ba,h])];simp[ba,h]
  . rw[am h];have h':¬k=p.1:=fun e=>h e.symm;unfold ba at ih ⊢;simp only[aS,ih,eZ,h',false_or];split<;>rfl
theorem Qd(k:K5)(x:Int){l:Tb}(h:(ba l).Nodup):(ba (cR l k x)).Nodup:=by
 rw[B7];split
 . exact h
 . rename_i hk;rw[List.nodup_append];refine⟨h,by simp,fun a ha b hb=>?_⟩;simp only[fL] at hb;subst hb;intro e;subst e;exact hk ha
theorem TH{k:K5}{x:Int}{l:Tb}{y:K5}(h:y∈ba (cR l k x)):y∈ba l\/y=k:=by
 rw[B7] at h;split at h
 . exact .inl h
 . simpa using h
def lk(φ:K5->Int)(k:K5):List Int->Nat->Int
 | [],_=>0
 |a::l,p=>a*φ (k.inc p)+lk φ k l (p+1)
def lz:List (List Int)->(K5->Int)->Int
 | [],φ=>φ K5.zero
 |a::fs,φ=>lz fs fun k=>lk φ k a 0
def bM(seen:List Nat):Tb->Nat->List (K5×Int×Nat)
 | [],_=>[]
 |p::l,i=>if i∈seen then bM seen l (i+1) else(p.1,p.2,i)::bM seen l (i+1)
def jF(φ:K5->Int):List (K5×Int×Nat)->Int
 | []=>0
 |p::l=>p.2.1*φ p.1+jF φ l
def jb:List (K5×Int×Nat)->Nat
 | []=>0
 |p::l=>p.2.1.natAbs+jb l
theorem uF(seen:List Nat):∀(l:Tb) (i:Nat),∀e∈bM seen l i,i<=e.2.2
 | [],_,e,h=>by cases h
 |p::l,i,e,h=>by
  unfold bM at h;split at h
  . have:=uF seen l (i+1) e h;omega
  . rcases List.mem_cons.1 h with rfl|h
    . exact ak _
    . have:=uF seen l (i+1) e h;omega
theorem Gu{seen:List Nat}{j:Nat}:∀{l:Tb} {i:Nat},j<i->bM (j::seen) l i=bM seen l i
 | [],_,_=>rfl
 |p::l,i,h=>by
  have h2:¬i=j:=by omega
  unfold bM;simp only[eZ,h2,false_or,Gu (l:=l) (show j<i+1 by omega)]
theorem oc{seen:List Nat}:∀{l:Tb} {i:Nat} {e:K5×Int×Nat},e∈bM seen l i->
 (∀ φ,jF φ (bM seen l i)=e.2.1*φ e.1+jF φ (bM (e.2.2::seen) l i))/\jb (bM seen l i)=e.2.1.natAbs+jb (bM (e.2.2::seen) l i)/\(bM seen l i).length=(bM (e.2.2::seen) l i).length+1
 | [],_,e,h=>by cases h
 |p::l,i,e,h=>by
  unfold bM at h;split at h
  . rename_i hs;have hi:=uF seen l (i+1) e h;obtain⟨h1,h2,h3⟩:=oc h;unfold bM;simp only[hs,eZ,or_true,bD];exact⟨h1,h2,h3⟩
  . rename_i hs;rcases List.mem_cons.1 h with rfl|h
    . unfold bM;simp only[hs,eZ,true_or,bD,bG,Gu (tY i)];exact⟨fun φ=>rfl,rfl,rfl⟩
    . have hi:=uF seen l (i+1) e h;have hne:¬i=e.2.2:=by omega
      obtain⟨h1,h2,h3⟩:=oc h;unfold bM;simp only[hs,eZ,hne,false_or,bG];refine⟨fun φ=>?_,?_,?_⟩
      . simp only[jF,h1 φ];omega
      . simp only[jb,h2];omega
      . simp only[bB,h3]
theorem Hn(l:Tb)(φ:K5->Int):∀i,jF φ (bM [] l i)=lin φ l:=by
 induction l with
 |nil=>intro i;rfl
 |cons p l ih=>intro i;simp[bM,jF,lin,ih]
theorem Gv(l:Tb):∀i,jb (bM [] l i)=fU l:=by
 induction l with
 |nil=>intro i;rfl
 |cons p l ih=>intro i;simp[bM,jb,fU,ih]
theorem BA{seen:List Nat}:∀{l:Tb} {i:Nat} {e:K5×Int×Nat},e∈bM seen l i->(e.1,e.2.1)∈l/\i<=e.2.2/\l[e.2.2-i]?=some (e.1,e.2.1)
 | [],_,e,h=>by cases h
 |p::l,i,e,h=>by
  have hi:=uF seen (p::l) i e h;unfold bM at h;have key:e∈bM seen l (i+1)->(e.1,e.2.1)∈p::l/\i<=e.2.2/\(p::l)[e.2.2-i]?=some (e.1,e.2.1):=fun h=>by
   obtain⟨h1,h2,h3⟩:=BA h;refine⟨eB _ h1,hi,?_⟩;rw[show e.2.2-i=(e.2.2-(i+1))+1 by omega];simpa using h3
  split at h
  . exact key h
  . rcases List.mem_cons.1 h with rfl|h
    . simp
    . exact key h
end Go.Proofs.Reg
namespace Go.Proofs.En
open Go.RowKit Go.Proofs.Fl Go.Proofs.Dig Go.Proofs.Reg
def aQ(n:Int):IV:=.int .i64 n
def gY(k:K5):EW:=.agg [.iv (aQ k.a),.iv (aQ k.b),.iv (aQ k.c),.iv (aQ k.d),.iv (aQ k.e)]
noncomputable def qw(q:Rat):EW:=dW (qr q)
noncomputable def mz(d:Nat)(z:Int):EW:=qw (mkRat z d)
noncomputable def cL(d:Nat):Tb->Nat->List (EW×EW×Nat)
 | [],_=>[]
 |p::l,i=>(gY p.1,mz d p.2,i)::cL d l (i+1)
def iI(k:K5):Prop:=k.tot<2^63
theorem uw(k:K5):ic (gY k)=some (.ints k.list):=rfl
theorem uk{k:K5}(h:iI k):fO 5 (.ints k.list)=true:=by
 unfold iI K5.tot at h;have e:∀n:Nat,n<9223372036854775808->mD (n:Int)=true:=fun n hn=>by
  unfold mD;rw[cY,fc];exact hn
 show(Nat.beq 5 5&&(k.list).all mD)=true;rw[bh,n3];simp only[K5.list,cF,List.all_nil,Bool.and_true,az];exact⟨e _ (by omega),e _ (by omega),e _ (by omega),e _ (by omega),e _ (by omega)⟩
theorem w9{d:Nat}{k:K5}:∀{l:Tb} {i j:Nat},(∀p∈ba l,iI p)->k∉ba l->fq (fO 5) (.ints k.list) (cL d l i) j=some []
 | [],_,_,_,_=>rfl
 |p::l,i,j,ho,hk=>by
  have h1:p.1≠k:=fun e=>hk (by simp[ba,e]);have ih:=w9 (d:=d) (l:=l) (i:=i+1) (j:=j+1) (fun q hq=>ho q (by simp only[ba,aS,eZ];exact .inr hq)) (fun e=>hk (by simp only[ba,aS,eZ];exact .inr e));have h2:decide (KV.ints p.1.list=.ints k.list)=false:=bl fun e=>h1 (K5.list_inj (by simpa using e));unfold cL fq;rw[uw,ih];simp only[uk (ho p.1 (by simp[ba])),h2,af,aX]
theorem Bu{d:Nat}{k:K5}:∀{l:Tb} {i j:Nat},(∀p∈ba l,iI p)->(ba l).Nodup->k∈ba l->∃n,fq (fO 5) (.ints k.list) (cL d l i) j=some [(j+n,mz d (cC l k),i+n)]/\∀x,(cL d l i).set n (gY k,mz d x,i+n)=cL d (cR l k x) i
 | [],_,_,_,_,hk=>by cases hk
 |p::l,i,j,ho,hn,hk=>by
  have hn':p.1∉ba l/\(ba l).Nodup:=by simpa[ba] using hn
  have ho':∀q∈ba l,iI q:=fun q hq=>ho q (by simp only[ba,aS,eZ];exact .inr hq);by_cases h1:p.1=k
  . subst h1;refine⟨0,?_,fun x=>?_⟩
    . unfold cL fq;rw[uw,w9 ho' hn'.1];have h2:decide (KV.ints p.1.list=.ints p.1.list)=true:=aZ rfl;simp only[uk (ho p.1 (by simp[ba])),decide_true,af,cC,bD,fA]
    . simp only[cL,cR,bD,NG,fA]
  . have hk':k∈ba l:=by
     simp only[ba,aS,eZ] at hk;rcases hk with e|e
     . exact absurd e.symm h1
     . exact e
    obtain⟨n,e1,e2⟩:=Bu (d:=d) (k:=k) (l:=l) (i:=i+1) (j:=j+1) ho' hn'.2 hk';refine⟨n+1,?_,fun x=>?_⟩
    . have h2:decide (KV.ints p.1.list=.ints k.list)=false:=bl fun e=>h1 (K5.list_inj (by simpa using e));unfold cL fq;rw[uw,e1];simp only[uk (ho p.1 (by simp[ba])),h2,af,aX,cC,am h1];rw[show j+1+n=j+(n+1) by omega,show i+1+n=i+(n+1) by omega]
    . simp only[cL,cR,am h1,Fa];rw[show i+(n+1)=i+1+n by omega,e2 x]
theorem Ht{k:K5}:∀{l:Tb},k∉ba l->cC l k=0
 | [],_=>rfl
 |p::l,h=>by
  simp only[ba,aS,eZ,not_or] at h;rw[cC,am (fun e=>h.1 e.symm)];exact Ht h.2
theorem G4{d:Nat}{k:K5}{x:Int}:∀{l:Tb} {i:Nat},k∉ba l->cL d (cR l k x) i=cL d l i ++ [(gY k,mz d x,i+l.length)]
 | [],_,_=>by simp[cR,cL]
 |p::l,i,h=>by
  simp only[ba,aS,eZ,not_or] at h;rw[cR,am (fun e=>h.1 e.symm),cL,G4 h.2,cL];simp only[kJ,bB];rw[show i+1+l.length=i+(l.length+1) by omega]
theorem BW{k:K5}{x:Int}:∀{l:Tb},(cR l k x).length=if k∈ba l then l.length else l.length+1
 | []=>by simp[cR,ba]
 |p::l=>by
  have ih:=BW (k:=k) (x:=x) (l:=l);unfold cR;by_cases h:p.1=k
  . rw[ay h,ay (by simp[ba,h])];rfl
  . have h':¬k=p.1:=fun e=>h e.symm;rw[am h];have e:(k∈ba (p::l))=(k∈ba l):=by simp[ba,h']
    simp only[bB,ih,e];split<;>rfl
noncomputable def dU(d:Nat)(l:Tb):EO:=.map (cL d l 0) l.length
theorem uM{zw:me->Option EW}(hz:zw 54=some (qw 0)){h:Hp}{g d:Nat}{l:Tb}{k:K5}(hg:h g=some (dU d l))(ho:∀p∈ba l,iI p)(hn:(ba l).Nodup)(hk:iI k) :
 mb nF zw h 205 (.w (.one (.mp g))) (.w (gY k)) false=some (.w (mz d (cC l k)),[]):=by
 show(match h g,ic (gY k) with
  |some (.map es _),some k=>bif fO 5 k then(match fq (fO 5) k es 0,zw 54 with
   |some [],some z=>some (bif false then ES.tup [z,.one (.iv (.bool false))] else .w z,([]:Wr))
   |some [(_,y,_)],some _=>some (bif false then .tup [y,.one (.iv (.bool true))] else .w y,[])
   |_,_=>none) else none
  |_,_=>none)=_
 rw[hg,uw];simp only[dU,uk hk,af,aX,hz];by_cases hm:k∈ba l
 . obtain⟨n,e1,_⟩:=Bu (d:=d) (i:=0) (j:=0) ho hn hm;rw[e1]
 . rw[w9 ho hm,Ht hm];simp only[mz,Rat.zero_mkRat]
theorem sD{h:Hp}{g d:Nat}{l:Tb}{k:K5}(x:Int)(hg:h g=some (dU d l))(ho:∀p∈ba l,iI p)(hn:(ba l).Nodup)(hk:iI k) :
 jr nF h 205 (.w (.one (.mp g))) (.w (gY k)) (.w (mz d x))=some (.und,[(g,dU d (cR l k x))]):=by
 show(match h g,ic (gY k) with
  |some (.map es ck),some kk=>bif fO 5 kk then(match fq (fO 5) kk es 0 with
   |some []=>bA (ck+1) fun ck'=>fY (es ++ [(gY k,mz d x,ck)]) fun es'=>some (ES.und,[(g,EO.map es' ck')])
   |some [(i,_,b)]=>fY (es.set i (gY k,mz d x,b)) fun es'=>some (.und,[(g,.map es' ck)])
   |_=>none) else none
  |_,_=>none)=_
 rw[hg,uw];simp only[dU,uk hk,af];by_cases hm:k∈ba l
 . obtain⟨n,e1,e2⟩:=Bu (d:=d) (i:=0) (j:=0) ho hn hm;rw[e1];simp only[cZ,aU];have:=e2 x;rw[aU] at this;rw[this,BW,ay hm]
 . rw[w9 ho hm];simp only[cZ,bd];rw[BW,am hm,G4 hm,aU]
theorem rY{d:Nat}{seen:List Nat}:∀{l:Tb} {i:Nat},fD seen (cL d l i)=(bM seen l i).map fun e=>(gY e.1,mz d e.2.1,e.2.2)
 | [],_=>rfl
 |p::l,i=>by
  unfold cL fD bM;by_cases hs:i∈seen
  . simp only[js.2 hs,af,hs,bD,rY]
  . have:bJ i seen=false:=by
     cases h:bJ i seen with
     |false=>rfl
     |true=>exact absurd (js.1 h) hs
    simp only[this,aX,hs,bG,rY,aS]
theorem I3{d n:Nat}:∀{l:Tb} {i:Nat},i+l.length<=n->mC n (cL d l i)=true
 | [],_,_=>rfl
 |p::l,i,h=>by
  simp only[bB] at h;unfold cL mC;simp only[az,cY];exact⟨by omega,I3 (by omega)⟩
theorem Gp{d:Nat}{l:Tb}{seen:List Nat}:(mC l.length (cL d l 0)&&(kZ seen||(kZ (cL d l 0)||mB l.length (cL d l 0))))=true:=by
 rw[I3 (by omega),n3];cases l with
 |nil=>simp[cL,kZ]
 |cons p l=>
  have:mB (p::l).length (cL d (p::l) 0)=true:=by
   unfold cL mB;simp
  rw[this];simp
theorem Iy{d:Nat}:∀{l:Tb} {i n:Nat} {k:K5} {z:Int},l[n]?=some (k,z)->qK (i+n) (cL d l i)=some (gY k,mz d z)
 | [],_,_,_,_,h=>by simp at h
 |p::l,i,0,k,z,h=>by
  simp only[nX,ae] at h;subst h;unfold cL qK;simp
 |p::l,i,n+1,k,z,h=>by
  simp only[M9] at h;have ih:=Iy (d:=d) (i:=i+1) h;unfold cL qK;have:Nat.beq i (i+(n+1))=false:=by
   cases hb:Nat.beq i (i+(n+1)) with
   |false=>rfl
   |true=>have:=av hb;omega
  have h3:Nat.beq (i+(n+1)) i=false:=by
   cases hb:Nat.beq (i+(n+1)) i with
   |false=>rfl
   |true=>have:=av hb;omega
  simp only[this,h3,aX];rw[show i+(n+1)=i+1+n by omega];exact ih
theorem IG{h:Hp}{gi gm d since:Nat}{l:Tb}{seen:List Nat}{e:K5×Int×Nat}(h1:h gi=some (.iter gm since seen l.length (some e.2.2)))(h2:h gm=some (dU d l))(h3:l[e.2.2]?=some (e.1,e.2.1)) :
 qt h (.w (.one (.ptr gi 0 0)))=some (.tup [gY e.1,mz d e.2.1],[]):=by
 unfold qt;simp only[h1,h2,dU];have:=Iy (d:=d) (i:=0) h3;rw[aU] at this;rw[bh,af,this]
end Go.Proofs.En
namespace Go.Proofs.En
open Go.RowKit Go.Proofs.Fl
def vz(X:EX)(rs:List ResultVar)(nP:Nat)(zs':List EO)(r:ES):X6->SS->Prop
 | .normal,s=>match gV X.T X.Z s.tm s.h rs with
  |some xs=>Tr nP ⟨fun _=>jE xs,s.h,s.nx⟩ (aP [(0,r)] (mw 0 zs') zs'.length)
  |none=>False
 | .ret,s=>match gV X.T X.Z s.tm s.h rs with
  |some xs=>Tr nP ⟨fun _=>jE xs,s.h,s.nx⟩ (aP [(0,r)] (mw 0 zs') zs'.length)
  |none=>False
 |_,_=>False
section
variable {X:EX}{nP:Nat}{rd:Bool}{nt:Nat}{s:SS}{K:X6->SS->Prop}
theorem SW.fr{c:X5}(h:SW X nP rd nt c s K):SW X nP rd nt c s (fun e s'=>K e s'/\s'.fr):=fun ro hro E hI hh w0 H U a w Q hS hQ=>
 h ro hro E hI hh w0 H U a w Q hS fun e s' a' w' k hp=>hQ e s' a' w' ⟨k,by obtain⟨_,_,_,_,p,_⟩:=hp;exact p.fr⟩ hp
theorem WM{f:qe}{fn:Func}{c:X5}(hf:X.P.funcs[f]?=some fn)(hb:fn.body=some c)(hn:(fn.name == "runtime.NumGoroutine")=false){args:List ES}(hx:Nat.ble args.length fn.ntmps=true){h:Hp}{zs':List EO}{r:ES}(hfr:∀g,nP<=g->h g=none)
 (hw:SW X nP false fn.ntmps c ⟨argS args,h,nP⟩ (vz X fn.results.toList nP zs' r)):CallOk X f args h r (fV zs'):=by
 have hw':SW X nP false fn.ntmps c ⟨argS args,h,nP⟩ (iY X fn.results.toList fun hp rf=>∃nx,(∀g,nx<=g->hp g=none)/\Tr nP ⟨fun _=>rf,hp,nx⟩ (aP [(0,r)] (mw 0 zs') zs'.length)):=hw.fr.mono fun e s ⟨hk,hfr⟩=>by
  cases e with
  |normal=>
   simp only[vz] at hk;simp only[iY];split at hk
   . rename_i xs hr;first|exact⟨s.nx,hfr,hk⟩|(rw[hr];exact⟨s.nx,hfr,hk⟩)
   . exact hk.elim
  |ret=>
   simp only[vz] at hk;simp only[iY];split at hk
   . rename_i xs hr;first|exact⟨s.nx,hfr,hk⟩|(rw[hr];exact⟨s.nx,hfr,hk⟩)
   . exact hk.elim
  |_=>exact hk.elim
 refine⟨⟨fn,hf,hn,by rw[hb];rfl⟩,fun E hI H U w vs hS hv=>?_⟩;have hlt:∀g,h g≠none->g<nP:=fun g hg=>by
  rcases fx g nP with h1|h1
  . exact h1
  . exact absurd (hfr g h1) hg
 have hh:∀g,E.hid g->g<nP:=fun g hg=>hlt g (by rw[(hS.hidb g hg).1];simp);refine zD hf hb (aG hx) hfr hw' hI hh hS hv fun v H' U' hp' rf w' h1 h2 h3 h4 h5 h6=>?_;obtain⟨nx,hf',t⟩:=h6;obtain⟨_,t⟩:=t hf';obtain⟨H2,β2,a1,a2,a3,a4⟩:=t _ E H' U' w' h3 hh;refine⟨v,H2,β2,rfl,h1.trans a1,fun g u k hk=>?_,?_,h4,a4 0 v h5⟩
 . have hg:g<nP:=by
    obtain⟨_,o,ho,_⟩:=hS.dom g u k hk;exact hlt g (by rw[ho];simp)
   exact a2 g u k hg (h2 g u k hg hk)
 . rw[<-QN];exact a3
theorem Ws{f:qe}{fn:Func}{c:X5}(hf:X.P.funcs[f]?=some fn)(hb:fn.body=some c)(hn:(fn.name == "runtime.NumGoroutine")=false){args:List ES}{zs zs':List EO}{r:ES}
 (hx:(Nat.ble args.length fn.ntmps&&(Nat.ble zs.length zs'.length&&zs.all fun o=>!LK o))=true) (ha:yY zs.length args) (hz:sE (fun i=>Nat.blt i zs.length) zs) (hr:SlotOk [] [] r r\/(eV r).all (sS zs')=true) (hz':sE (sS zs') zs')
 (hw:SW X zs.length false fn.ntmps c ⟨argS args,fV zs,zs.length⟩ (vz X fn.results.toList zs.length zs' r)):LocC X f args zs r zs':=by
 simp only[az] at hx;refine⟨WM hf hb hn hx.1 (fun g hg=>?_) hw,aG hx.2.1,HG ha,fun o ho=>⟨?_,Bv (fun i h=>by rwa[cY] at h) hz o ho⟩,fun i hi=>?_,Bv (fun i h=>If h) hz'⟩
 . show zs[g]?=none;exact ry hg
 . have:=List.all_eq_true.1 hx.2.2 o ho;intro e;subst e;cases this
 . rcases hr with h|h
   . cases h with
     |rn h1 h2=>have:=List.all_eq_true.1 h2 i hi;simp[nz,fW] at this
     | sm h1 h2=>rw[h2] at hi;cases hi
   . exact If (List.all_eq_true.1 h i hi)
end
theorem oJ{T:me->Option TY}{h:Hp}{g t e g1 u1 n1 m sz p cnt:Nat}{ty te:TY}{s x:ES}{news cs:List EV}{vs:List (Nat×Nat)}(hs:s=.w (.one (.slc g1 u1 0 n1 (.fin sz))))(hg:h g1=some (.mem e cs false vs cnt))(hv:dl u1 vs=some p)
 (hx:gU h sz x=some (news,m)) (h1:n1*sz<=p) (h2:p<(n1+m)*sz) (h3:n1+m<=1000000) (h4:(n1+m)*te.bytes<=140737488355328) (hm:Nat.beq m 0=false)
 (ht:T t=some ty) (hsh:ty.sh=.slice e) (hte:T e=some te) (hsz:te.size=sz) (h0:(Nat.blt 0 te.size&&Nat.beq te.zero.cells.length te.size)=true) :
 jw T h g t s x=some (.w (.one (.slc g1 cnt 0 (n1+m) (.fin sz))),[(g1,.mem e (cs.take (n1*sz)++news) false ((cnt,(n1+m)*sz)::nw (vs.map fun p=>(p.1,Nat.min p.2 (n1*sz)))) (cnt+1))]):=by
 subst hs;have hb:∀{a b:Nat},a<=b->Nat.ble a b=true:=fun h=>fM h;have hnb:Nat.ble ((n1+m)*sz) p=false:=by
  cases hb':Nat.ble ((n1+m)*sz) p with
  |false=>rfl
  |true=>have:=aG hb';omega
 rw[hsz] at h0;unfold jw;rw[ht];simp only[hsh,hte,h0,af,hsz,hx,hm,aX,hb h3,hb h4,lS,hg,bh,hv,hnb,hb h1,cZ,bd]
theorem LR{T:me->Option TY}{h:Hp}{g t e g1 u1 off1 m sz:Nat}{ty te:TY}{s x:ES}{news:List EV}(hs:s=.w (.one (.slc g1 u1 off1 0 (.ex 0))))(hr:g3 (h g1) u1 off1 0=some [])(hn:h g=none)
 (hx:gU h sz x=some (news,m)) (hm:1<=m) (h3:m<=1000000) (h4:m*te.bytes<=140737488355328)
 (ht:T t=some ty) (hsh:ty.sh=.slice e) (hte:T e=some te) (hsz:te.size=sz) (h0:(Nat.blt 0 te.size&&Nat.beq te.zero.cells.length te.size)=true) :
 jw T h g t s x=some (.w (.one (.slc g 0 0 m (.fin sz))),[(g,.mem e news false [(0,news.length)] 1)]):=by
 subst hs;have hb:∀{a b:Nat},a<=b->Nat.ble a b=true:=fun h=>fM h;have hm0:Nat.beq m 0=false:=ed (by omega);have hnb:Nat.ble m 0=false:=by
  cases hb':Nat.ble m 0 with
  |false=>rfl
  |true=>have:=aG hb';omega
 rw[hsz] at h0;unfold jw;rw[ht];simp only[hsh,hte,hsz,h0,af,hx,hm0,aX,aU,hb h3,hb h4,lS,hnb,mW,hr,xb hn,lM]
theorem R8{h:Hp}{g u n sz p cnt:Nat}{e:me}{cap:Cap}{cs:List EV}{fz:Bool}{vs:List (Nat×Nat)}{x:ES}(hx:x=.w (.one (.slc g u 0 n cap)))(hg:h g=some (.mem e cs fz vs cnt))(hv:dl u vs=some p)(hp:n*sz<=p):gU h sz x=some (cs.take (n*sz),n):=by
 subst hx;unfold gU g3;simp only[hg,hv,aU,fM hp,af,bL,fa]
theorem r7(u p:Nat)(vs:List (Nat×Nat)):dl u ((u,p)::vs)=some p:=by
 unfold dl;rw[bh];rfl
def kX(x:IV):Bool:=!x.isAgg && !x.isTup&&(match x with
 | .nil 3=>false
 |_=>true)
theorem yq{T:me->Option TY}{Z:QS}{S:Nat->Bool}{h:Hp}{f:Nat}:∀{es:List IV},(es.all kX)=true->cK (bZ T Z S h f) (es.map .iv)=some es
 | [],_=>rfl
 |x::es,hx=>by
  simp only[cF,az] at hx;have ih:=yq (T:=T) (Z:=Z) (S:=S) (h:=h) (f:=f) hx.2;have h1:bZ T Z S h f (.iv x)=some x:=by
   have hp:=hx.1;unfold kX at hp;cases x<;>first|(unfold bZ;rfl)|skip
   rename_i k;unfold bZ;split
   . rename_i he;cases he;simp at hp
   . rfl
  simp only[aS,cK,h1,ih]
theorem Io:∀(es:List IV),eS false 1 es.length es=es
 | []=>rfl
 |x::es=>by
  have ih:=Io es;rw[bB,eS];show(x::es).headD (.bool false)::eS false 1 es.length es=_;rw[ih];rfl
theorem HZ:∀{es:List IV},(es.all kX)=true->dI 1 es=true/\(es.all fun x=>!x.isAgg)=true
 | [],_=>⟨rfl,rfl⟩
 |x::es,hx=>by
  simp only[cF,az] at hx;obtain⟨i1,i2⟩:=HZ hx.2;have hp:=hx.1;unfold kX at hp;simp only[az,fy] at hp;unfold dI at i1 ⊢;have hc:x.cells=[x]:=by cases x<;>first|rfl|(simp[IV.isAgg] at hp;done)
  constructor
  . simp only[cF,i1,hc,hp.1.2];rfl
  . simp only[cF,i2,hp.1.1];rfl
theorem II{T:me->Option TY}{Z:QS}{S:Nat->Bool}{h:Hp}{f g u n p cnt:Nat}{cap:Cap}{e:me}{cs:List EV}{fz:Bool}{vs:List (Nat×Nat)}{te:TY}{es:List IV}(hs:S g=true)(hg:h g=some (.mem e cs fz vs cnt))(ht:T e=some te)(h1:te.size=1)(ha:te.sh.agg=false)
 (hv:dl u vs=some p) (hp:n<=p) (hn:n=es.length) (hc:cs.take n=es.map .iv) (hes:(es.all kX)=true):bZ T Z S h (f+1) (.slc g u 0 n cap)=some (.sl es):=by
 obtain⟨z1,z2⟩:=HZ hes;subst hn;have hb:=fM hp;unfold bZ;simp only[hs,hg,ht,hv,h1,ha,iK,aU,hb,af,bL,hc,yq hes,Io,z1,z2,bh,lS,Bool.or_true]
theorem Cf{T:me->Option TY}{Z:QS}{S:Nat->Bool}{h:Hp}{f g u n p cnt:Nat}{cap:Cap}{e:me}{cs:List EV}{fz:Bool}{vs:List (Nat×Nat)}{te:TY}{es:List IV}(hs:S g=true)(hg:h g=some (.mem e cs fz vs cnt))(ht:T e=some te)(h1:te.size=1)(ha:te.sh.agg=false)
 (hv:dl u vs=some p) (hp:n<=p) (hn:n=es.length) (hc:cs.take n=es.map .iv) (hes:(es.all kX)=true):gE T Z S h (f+1) (.w (.one (.slc g u 0 n cap)))=some (.sl es):=by
 simp only[gE,qU];exact II (cap:=cap) hs hg ht h1 ha hv hp hn hc hes
variable {J:Keep}
theorem lT{f:qe}{fn:Func}{c:X5}(hf:Tryz.prog.funcs[f]?=some fn)(hb:fn.body=some c)(hn:(fn.name == "runtime.NumGoroutine")=false){args:List ES}{zs zs':List EO}{r:ES}
 (hx:(Nat.ble args.length fn.ntmps&&(Nat.ble zs.length zs'.length&&zs.all fun o=>!LK o))=true) (ha:yY zs.length args) (hz:sE (fun i=>Nat.blt i zs.length) zs) (hr:SlotOk [] [] r r\/(eV r).all (sS zs')=true) (hz':sE (sS zs') zs')
 (hw:SW (XS J) zs.length false fn.ntmps c ⟨argS args,fV zs,zs.length⟩ (vz (XS J) fn.results.toList zs.length zs' r)):LocC (XS J) f args zs r zs' :=
 Ws (X:=XS J) hf hb hn hx ha hz hr hz' hw
theorem tz{f:qe}{fn:Func}{c:X5}(hf:Tryz.prog.funcs[f]?=some fn)(hb:fn.body=some c)(hn:(fn.name == "runtime.NumGoroutine")=false){xs:List IV}{r:IV}(hx:Nat.ble xs.length fn.ntmps=true)(hxt:jy xs=true)(fu:Nat)
 (hw:SW (XS J) 0 false fn.ntmps c ⟨argS (xs.map dS),fun _=>none,0⟩ (iY (XS J) fn.results.toList fun h rf=>gE TT ZZ (fun _=>true) h fu rf=some r)):C J f xs r :=
 DU (X:=XS J) J.bel hf hb hn hx hxt fu hw
end Go.Proofs.En
namespace Go.Proofs.En
open Go.RowKit Go.Proofs.Fl Go.Proofs.Dig
attribute [local irreducible] IntKind.wrap a7 be bq bw SW SWr CallOk To Tr eG
open Go.Proofs.Reg
def iL(l:List Int):List EV:=l.map fun n=>.iv (aQ n)
noncomputable def tw(p:List Int):IV:=.agg (.sl (p.map aQ)::(qr 1).cells)
noncomputable def fT(p:List Int):IV:=.sl [tw p]
def WX:List (List Int)->EV
 | []=>.iv (.nil 3)
 |_::acc=>.slc 1 acc.length 0 (acc.length+1) (.fin 1)
def WZ:List (List Int)->List (Nat×Nat)
 | []=>[]
 |_::acc=>[(acc.length,acc.length+1)]
def zb(acc:List (List Int)):EO:=.mem 100 [WX acc] false [(0,1)] 1
noncomputable def za(acc:List (List Int)):EO:=.mem 85 (acc.map fun p=>.iv (fT p)) false (WZ acc) acc.length
theorem gO(u p:Nat):dl u [(u,p)]=some p:=by
 unfold dl;rw[bh];rfl
theorem cj{acc:List (List Int)}:gM (za acc):=by
 show(acc.map fun p=>EV.iv (fT p)).flatMap bj=[];induction acc with
 |nil=>rfl
 |cons x l ih=>simp only[aS,ch,ih];rfl
theorem kg{p:Nat->Bool}{acc:List (List Int)}(h:p 1=true):ObjOk p (zb acc):=by
 cases acc with
 |nil=>exact .c rfl
 |cons x l=>exact .c (show(p 1&&true)=true by rw[h];rfl)
theorem MU(J:Keep)(acc:List (List Int))(x:List Int)(hacc:acc.length<10000):LocC (XS J) 69 [ac (.sl (x.map aQ)),.w (.one (.ptr 0 0 0))] [zb acc,za acc] (.tup []) [zb (acc ++ [x]),za (acc ++ [x])]:=by
 refine lT Tryz.func69 rfl rfl rfl ⟨.c rfl,.c rfl,ab⟩ ⟨kg rfl,.d cj,ab⟩ (.inr rfl) ⟨kg ?_,.d cj,ab⟩ ?_
 . cases acc<;>rfl
 have c1:Go.Proofs.Fl.C J 70 [.int .i64 1] (qr 1):=pZ J (n:=1) (by omega) (by omega);cases acc with
 |nil=>
  repeat((first|refine SW.R ?_|refine aV c1 rfl rfl rfl ?_|refine bg rfl ?_|refine aM rfl ?_|refine lC rfl ?_|refine And.intro (nO rfl) ?_);conv=>whnf)
  exact(Lr (g:=2) (u:=0) (n:=1) (es:=[tw x]) [] [(4,.mem 85 [.iv (fT x)] false [(0,1)] 1)] (yr 4 rfl rfl rfl rfl (aG rfl) rfl) trivial ⟨⟨by decide,FzO.mk rfl (.cons (.fz _) (.sm _))⟩,ab⟩).trans (Tr.tab [(1,4)] [] ⟨.sm rfl rfl,ab⟩ ⟨.rn rfl rfl rfl rfl,.sm rfl rfl cj,ab⟩ rfl)
 |cons y l=>
  have hl:l.length<10000:=by simp at hacc;omega
  have ep:l.length+1+1<=1000000:=by omega
  repeat((first|refine SW.R ?_|refine aV c1 rfl rfl rfl ?_|refine aM rfl ?_);conv=>whnf)
  refine mv (g:=4) (b:=1) (oJ (p:=l.length+1) (sz:=1) rfl rfl (gO _ _) rfl (by omega) (by omega) (by omega) (by show _*24<=_;omega) rfl rfl rfl rfl rfl rfl) (by show 4<4+1;decide) ?_;conv=>whnf
  repeat((first|refine bg rfl ?_|refine And.intro (nO rfl) ?_);conv=>whnf)
  have el:(l ++ [x]).length=l.length+1:=by simp
  refine(Lr (g:=2) (u:=0) (n:=1) (es:=[tw x]) [] [(1,_)] (yr 4 rfl rfl rfl rfl (aG rfl) rfl) trivial ⟨⟨by decide,FzO.mk rfl (.app (.sm _) (.cons (.fz _) (.sm _)))⟩,ab⟩).trans
   (Tr.tab [] [] ⟨.sm rfl rfl,ab⟩ ⟨.rn rfl rfl ?_ rfl,?_,ab⟩ rfl)
  . show EO.mem 100 [.slc 1 (l.length+1) 0 (l.length+1+1) (.fin 1)] false [(0,1)] 1=.mem 100 [.slc 1 (l ++ [x]).length 0 ((l ++ [x]).length+1) (.fin 1)] false [(0,1)] 1;rw[el]
  . have e2:za ((y::l) ++ [x])=.mem 85 (((y::l) ++ [x]).map fun p=>.iv (fT p)) false [(l.length+1,l.length+1+1)] (l.length+1+1):=by
     show EO.mem 85 _ false [((l ++ [x]).length,(l ++ [x]).length+1)] ((l ++ [x]).length+1)=_;rw[el]
    rw[e2];refine .drop (pm:=l.length+1+1) rfl rfl ?_ (by simp) ?_ cj
    . intro q hq;rw[fL] at hq;subst hq;exact⟨ak _,_,tO ..,by show l.length+1+1<=(l.length+1+1)*1;omega⟩
    . congr 1;rw[aC (by simp)];show(y::l).map (fun p=>EV.iv (fT p)) ++ [.iv (fT x)]=((y::l) ++ [x]).map fun p=>EV.iv (fT p);rw[dE];rfl
theorem fC:∀{l:List Int},(iL l).flatMap bj=[]
 | []=>rfl
 |x::l=>by
  have:=fC (l:=l);simp only[iL,aS,ch] at this ⊢;rw[this];rfl
theorem nk(l:List Int):(iL l).length=l.length:=by simp[iL]
theorem XT(J:Keep){l:List Int}{u c:Nat}{vs:List (Nat×Nat)}(hv:dl u vs=some l.length)(h1:1<=l.length)(h2:l.length<=100):LocC (XS J) 124 [.w (.one (.slc 0 u 0 l.length (.fin 1)))] [.mem 3 (iL l) false vs c] (.w (.one (.slc 1 0 0 l.length (.fin 1)))) [.mem 3 (iL l) false vs c,.mem 3 (iL l) false [(0,l.length)] 1]:=by
 refine lT Tryz.func124 rfl rfl rfl ⟨.c rfl,ab⟩ ⟨.d fC,ab⟩ (.inr rfl) ⟨.d fC,.d fC,ab⟩ ?_;repeat((first|refine SW.R ?_|refine SW.c ?_);conv=>whnf)
 refine mv (g:=2) (b:=1) (LR (sz:=1) rfl rfl rfl (R8 rfl rfl hv (by omega)) h1 (by omega) (by show _*8<=_;omega) rfl rfl rfl rfl rfl) (by show 2<2+1;decide) ?_;conv=>whnf
 repeat ((refine SW.ret ?_;conv=>whnf))
 have e:(iL l).take (l.length*1)=iL l:=aC (by rw[nk];omega);refine Tr.tab [(1,2)] [] ⟨.rn rfl rfl,ab⟩ ⟨.sm rfl rfl fC,.sm rfl ?_ fC,ab⟩ rfl;show some (EO.mem 3 ((iL l).take (l.length*1)) false [(0,((iL l).take (l.length*1)).length)] 1)=_;rw[e,nk]
def cP(f:Nat->Nat):Nat->Nat
 |0=>0
 |t+1=>cP f t+(1+f t)
def cI:Nat->Nat->Nat
 |0,_=>0
 |m+1,s=>cP (cI m) (s+1)
theorem ke{V:Nat->Nat}(h:V 1=1){acc:List (List Int)}:dT V (zb acc)=zb acc:=by
 cases acc with
 |nil=>rfl
 |cons x l=>show EO.mem 100 [.slc (V 1) l.length 0 (l.length+1) (.fin 1)] false [(0,1)] 1=_;rw[h];rfl
theorem mm{V:Rv}(h:∀u,V 1 u=(1,u)){acc:List (List Int)}:ra V (zb acc)=zb acc:=by
 cases acc with
 |nil=>rfl
 |cons x l=>show EO.mem 100 [.slc (V 1 l.length).1 (V 1 l.length).2 0 (l.length+1) (.fin 1)] false [(0,1)] 1=_;rw[h];rfl
theorem mc{P:Nat->Nat->Bool}(h:∀u,P 1 u=true){acc:List (List Int)}:Ag P (zb acc)=true:=by
 cases acc with
 |nil=>rfl
 |cons x l=>show(P 1 l.length&&true)=true;rw[h];rfl
noncomputable def zS(acc:List (List Int))(n:Nat):List EO:=[zb acc,za acc,.mem 3 [.iv (aQ n)] false [(0,1)] 1,.mem 136 [.clo 69 [0]] false [(0,1)] 1,.mem 3 [.iv (aQ 0)] false [(0,1)] 1,.mem 191 [.clo 123 [2,3,4,5]] false [(0,1)] 1]
def gS:List ES:=[.w (.one (.ptr 2 0 0)),.w (.one (.ptr 3 0 0)),.w (.one (.ptr 4 0 0)),.w (.one (.ptr 5 0 0))]
theorem Cq:∀(l:List Int),dI 1 (l.map aQ)=true
 | []=>rfl
 |x::l=>by
  have:=Cq l;unfold dI at this ⊢;rw[aS,cF,this];rfl
theorem Ci:∀(l:List Int),((l.map aQ).flatMap IV.cells).map EV.iv=iL l
 | []=>rfl
 |x::l=>by
  have:=Ci l;rw[aS,ch,dE,this];rfl
theorem leaf(J:Keep){acc:List (List Int)}{l:List Int}{left u c:Nat}{vs:List (Nat×Nat)}(hv:dl u vs=some l.length)(h1:1<=l.length)(h2:l.length<=100)(hl:left<100)(ha:acc.length<10000) :
 LocC (XS J) 123 (.w (.one (.slc 6 u 0 l.length (.fin 1)))::ac (aQ left)::gS) (zS acc (l.length+1) ++ [.mem 3 (iL l) false vs c]) (.tup []) (zS (acc ++ [l ++ [(left:Int)]]) (l.length+1) ++ [.mem 3 (iL l) false vs c]):=by
 refine lT Tryz.func123 rfl rfl rfl ⟨.c rfl,.c rfl,.c rfl,.c rfl,.c rfl,.c rfl,ab⟩ ⟨kg rfl,.d cj,.c rfl,.c rfl,.c rfl,.c rfl,.d fC,ab⟩ (.inr rfl) ⟨kg ?_,.d cj,.c rfl,.c rfl,.c rfl,.c rfl,.d fC,ab⟩ ?_
 . rfl
 have et:(iL l).take (l.length*1)=iL l:=aC (by rw[nk];omega);have ec:((iL l).take (l.length*1) ++ [EV.iv (aQ left)]).take ((l.length+1)*1)=(((l ++ [(left:Int)]).map aQ).flatMap IV.cells).map .iv:=by
  rw[et,Ci,aC (by rw[bF,nk];simp)];show _=(l ++ [(left:Int)]).map _;rw[dE];rfl
 repeat((first|refine SW.R ?_|refine SW.c ?_|refine ap (by omega) ?_|refine yT (by omega) ?_|refine bc rfl ?_|refine aM rfl ?_);conv=>whnf)
 refine Py (XT J hv h1 h2) [6,7] 1 rfl ⟨.c rfl,ab⟩ ⟨.d rfl fC,ab⟩ ⟨rfl,ab⟩ (bm (.d fC) (bm (.d fC) df)) (.c rfl) ?_;conv=>whnf
 skip
 refine mv (g:=9) (b:=1) (oJ (p:=l.length) (sz:=1) rfl rfl rfl rfl (by omega) (by omega) (by omega) (by show _*8<=_;omega) rfl rfl rfl rfl rfl rfl) (by show 9<9+1;decide) ?_;conv=>whnf
 skip
 refine GR (MU J acc (l ++ [(left:Int)]) ha) (g:=7) (u:=1) (n:=l.length+1) (es:=(l ++ [(left:Int)]).map aQ) (yr 1 rfl rfl (by simp) (Cq _) (ak _) ec) (.fz _ (.sm _ .nil)) [0,1] 0 rfl ⟨.d rfl,.c rfl,ab⟩ ⟨.c (aJ some (ke rfl).symm),.d rfl cj,ab⟩ trivial (bm (.c (ke rfl)) (bm (.d cj) df)) (.d rfl) ?_;conv=>whnf
 repeat((first|refine SW.ret ?_|refine And.intro (nO rfl) ?_);conv=>whnf)
 exact Tr.tab [] [] ⟨.sm rfl rfl,ab⟩ ⟨.rn rfl rfl (mm fun _=>rfl) (mc fun _=>rfl),.sm rfl rfl cj,.rn rfl rfl rfl rfl,.rn rfl rfl rfl rfl,.rn rfl rfl rfl rfl,.rn rfl rfl rfl rfl,.sm rfl rfl fC,ab⟩ rfl
theorem iq{a b:Int}(h:a=b):ac (.int .i64 a)=ac (.int .i64 b):=by rw[h]
theorem HA(s:Nat):bX 1 s=[[(s:Int)]]:=by
 have h0:∀j,bX 0 j=if j=0 then [[]] else []:=fun j=>by cases j<;>rfl
 unfold bX;rw[List.range_succ_eq_map,ch,NF];have:∀l:List Nat,(l.flatMap fun a=>(bX 0 a.succ).map fun p=>(((s-a.succ:Nat):Int))::p)=[]:=fun l=>by
  induction l with
  |nil=>rfl
  |cons a l ih=>rw[ch,ih];rfl
 rw[this];rfl
def gP(l:List Int)(m left t:Nat):List (List Int):=(List.range t).flatMap fun j=>(bX (m+1) j).map fun p=>l++(((left-j:Nat):Int)::p)
theorem ui(l:List Int)(m left t:Nat):gP l m left (t+1)=gP l m left t++(bX (m+1) t).map fun p=>(l ++ [((left-t:Nat):Int)])++p:=by
 unfold gP;rw[AU,iP];simp
theorem xa(l:List Int)(m left:Nat):gP l m left (left+1)=(bX (m+2) left).map (l ++ ·):=by
 unfold gP;rw[show bX (m+2) left=(List.range (left+1)).flatMap fun j=>(bX (m+1) j).map fun p=>((left-j:Nat):Int)::p by rfl,List.map_flatMap];simp[Function.comp_def]
theorem Gj{l:List Int}{m left t t':Nat}(h:t<=t'):(gP l m left t).length<=(gP l m left t').length:=by
 induction h with
 |refl=>exact ak _
 |step _ ih=>rw[ui,bF];omega
noncomputable def Ez(acc:List (List Int))(l:List Int)(u c n left:Nat)(vs:List (Nat×Nat))(k:Int):SS:=aP [(0,.w (.one (.slc 6 u 0 l.length (.fin 1)))),(1,ac (aQ left)),(2,.w (.one (.ptr 2 0 0))),(3,.w (.one (.ptr 3 0 0))),(4,.w (.one (.ptr 4 0 0))),(5,.w (.one (.ptr 5 0 0))),(8,ac (aQ k))]
 (mw 0 (zS acc n ++ [EO.mem 3 (iL l) false vs c])) 7
theorem Mc(J:Keep):∀(m:Nat) {acc:List (List Int)} {l:List Int} {left u c:Nat} {vs:List (Nat×Nat)} (hv:dl u vs=some l.length) (h1:1<=l.length) (h2:l.length+m<=100) (hl:left<100) (ha:acc.length+(bX (m+1) left).length<=10000) (hvs:∀q∈vs,q.2<=l.length) (hvl:vs.length+m<=60),
 LocC (XS J) 123 (.w (.one (.slc 6 u 0 l.length (.fin 1)))::ac (aQ left)::gS) (zS acc (l.length+1+m) ++ [.mem 3 (iL l) false vs c]) (.tup []) (zS (acc++(bX (m+1) left).map (l ++ ·)) (l.length+1+m) ++ [.mem 3 (iL l) false vs (c+cI m left)])
 |0,acc,l,left,u,c,vs,hv,h1,h2,hl,ha,hvs,hvl=>by
  rw[HA] at ha ⊢;simp only[bB,nV] at ha;exact leaf J hv h1 (by omega) hl (by omega)
 |m+1,acc,l,left,u,c,vs,hv,h1,h2,hl,ha,hvs,hvl=>by
  refine lT Tryz.func123 rfl rfl rfl ⟨.c rfl,.c rfl,.c rfl,.c rfl,.c rfl,.c rfl,ab⟩ ⟨kg rfl,.d cj,.c rfl,.c rfl,.c rfl,.c rfl,.d fC,ab⟩ (.inr rfl) ⟨kg ?_,.d cj,.c rfl,.c rfl,.c rfl,.c rfl,.d fC,ab⟩ ?_
  . rfl
  repeat((first|refine SW.R ?_|refine SW.c ?_|refine ap (by omega) ?_|refine yF (by omega) ?_|refine bc rfl ?_|refine aM rfl ?_);conv=>whnf)
  refine dc (G:={ t:Nat // t<=left+1 }) (fun t=>Ez (acc++gP l m left t.1) l u (c+cP (cI m) t.1) (l.length+1+(m+1)) left vs ((left:Int)-(t.1:Int))) (fun t=>left+1-t.1) ⟨0,bk _⟩
   (Tr.tab [] [] ⟨.rn rfl rfl,.sm rfl rfl,.rn rfl rfl,.rn rfl rfl,.rn rfl rfl,.rn rfl rfl,.sm (iq (by dsimp only;omega)) rfl,ab⟩ ⟨?_,.sm rfl ?_ cj,.rn rfl rfl rfl rfl,.rn rfl rfl rfl rfl,.rn rfl rfl rfl rfl,.rn rfl rfl rfl rfl,.sm rfl rfl fC,ab⟩ rfl) ?_
  . show BoxT [] [] _ 0 (some (zb acc)) (zb (acc ++ []));rw[iw];exact .rn rfl rfl (mm fun _=>rfl) (mc fun _=>rfl)
  . show some (za acc)=some (za (acc ++ []));rw[iw]
  rintro⟨t,ht⟩;obtain⟨acc1,e1⟩:∃a,acc++gP l m left t=a:=⟨_,rfl⟩;obtain⟨c1,e2⟩:∃a,c+cP (cI m) t=a:=⟨_,rfl⟩;obtain⟨n,e3⟩:∃a,l.length+1+(m+1)=a:=⟨_,rfl⟩;show SW (XS J) _ _ _ _ (Ez (acc++gP l m left t) l u (c+cP (cI m) t) (l.length+1+(m+1)) left vs ((left:Int)-(t:Int))) _;rw[e1,e2];by_cases h:t<=left
  . have hk:IntKind.i64.wrap ((left:Int)-((left:Int)-(t:Int)))=(t:Int):=by rw[dv (by omega)];omega
    have hc':(((left-t:Nat):Int))=(left:Int)-(t:Int):=by omega
    obtain⟨l',e4⟩:∃l',l ++ [((left-t:Nat):Int)]=l':=⟨_,rfl⟩;have hl':l'.length=l.length+1:=by rw[<-e4];simp
    obtain⟨vs',e5⟩:∃v,(c1,(l.length+1)*1)::nw (vs.map fun p=>(p.1,Nat.min p.2 (l.length*1)))=v:=⟨_,rfl⟩;have et:(iL l).take (l.length*1)=iL l:=aC (by rw[nk];omega);have eb:(iL l).take (l.length*1) ++ [EV.iv (aQ ((left:Int)-(t:Int)))]=iL l':=by
     rw[et,<-e4,<-hc'];unfold iL;rw[dE];rfl
    have hlast:∀q∈nw (vs.map fun p=>(p.1,Nat.min p.2 (l.length*1))),q.2<=l.length:=fun q hq=>by
     obtain⟨p,_,rfl⟩:=List.mem_map.1 (dY hq);show min p.2 (l.length*1)<=_;omega
    have hcnt:(acc++gP l m left (t+1)).length<=10000:=by
     have h5:=Gj (l:=l) (m:=m) (left:=left) (t:=t+1) (t':=left+1) (by omega);rw[xa,bR] at h5;have h6:(bX (m+2) left).length=(bX (m+1+1) left).length:=rfl;rw[bF];omega
    rw[ui,<-dX,e1,bF,bR] at hcnt;have ih:=Mc J m (acc:=acc1) (l:=l') (left:=t) (u:=c1) (c:=c1+1) (vs:=vs') (by rw[<-e5,r7,hl'];simp) (by omega) (by omega) (by omega) (by omega)
     (fun q hq=>by
       rw[<-e5] at hq;rcases List.mem_cons.1 hq with rfl|hq
       . show(l.length+1)*1<=_;omega
       . have:=hlast q hq;omega)
     (by
       rw[<-e5,bB];have:(nw (vs.map fun p=>(p.1,Nat.min p.2 (l.length*1)))).length<=vs.length:=by
        unfold nw;rw[cy,bR];omega
       omega)
    rw[hl',show l.length+1+1+m=l.length+1+(m+1) by omega] at ih;repeat((first|refine SW.R ?_|refine SW.c ?_|refine yT (by omega) ?_|refine aM rfl ?_);conv=>whnf)
    refine mv (g:=8) (b:=1) (oJ (p:=l.length) (sz:=1) rfl rfl hv rfl (by omega) (by omega) (by omega) (by show _*8<=_;omega) rfl rfl rfl rfl rfl rfl) (by show 8<8+1;decide) ?_;conv=>whnf
    repeat ((refine And.intro rfl (bc hk ?_);conv=>whnf))
    refine dN ih [0,1,2,3,4,5,6] 0 rfl ⟨.c rfl,.d rfl,.c rfl,.c rfl,.c rfl,.c rfl,ab⟩ ⟨.c (aJ some (ke rfl).symm),.d rfl cj,.c rfl,.c rfl,.c rfl,.c rfl,.d ?_ fC,ab⟩ trivial (bm (.c (ke rfl)) (bm (.d cj) (bm (.c rfl) (bm (.c rfl) (bm (.c rfl) (bm (.c rfl) (bm (.d fC) df))))))) (.d rfl) ?_
    . rw[<-eb,<-e5];rfl
    conv=>whnf
    repeat((first|refine SW.R ?_|refine ap (by omega) ?_|refine And.intro (nO rfl) ?_);conv=>whnf)
    refine⟨⟨t+1,by omega⟩,?_,by dsimp only;omega⟩;show Tr _ _ (Ez (acc++gP l m left (t+1)) l u (c+cP (cI m) (t+1)) (l.length+1+(m+1)) left vs ((left:Int)-((t+1:Nat):Int)));rw[ui,<-dX,e1,show c+cP (cI m) (t+1)=c1+1+cI m t by show c+(cP (cI m) t+(1+cI m t))=_;omega,e4];refine Tr.tab [] [] ⟨.rn rfl rfl,.sm rfl rfl,.rn rfl rfl,.rn rfl rfl,.rn rfl rfl,.rn rfl rfl,.sm (iq (by omega)) rfl,ab⟩ ⟨.rn rfl rfl (mm fun _=>rfl) (mc fun _=>rfl),.sm rfl rfl cj,.rn rfl rfl rfl rfl,.rn rfl rfl rfl rfl,.rn rfl rfl rfl rfl,.rn rfl rfl rfl rfl,.drop (pm:=l.length) rfl rfl ?_ (by rw[nk];omega) ?_ fC,ab⟩ rfl
    . intro q hq;refine⟨hvs q hq,Nat.min q.2 (l.length*1),?_,?_⟩
      . rw[<-e5];refine eB _ ?_;unfold nw;rw[aC (by rw[bR];omega)];exact List.mem_map.2 ⟨q,hq,rfl⟩
      . have:=hvs q hq;show q.2<=min q.2 (l.length*1);omega
    . rw[<-eb,et,jm (by rw[nk];omega)]
  . have e6:t=left+1:=by omega
    subst e6;rw[xa] at e1;have e7:c+cI (m+1) left=c1:=e2;rw[e1,e7];repeat((first|refine SW.R ?_|refine SW.c ?_|refine yF (by omega) ?_|refine aM rfl ?_);conv=>whnf)
    exact Tr.tab [] [] ⟨.sm rfl rfl,ab⟩ ⟨.rn rfl rfl (mm fun _=>rfl) (mc fun _=>rfl),.sm rfl rfl cj,.rn rfl rfl rfl rfl,.rn rfl rfl rfl rfl,.rn rfl rfl rfl rfl,.rn rfl rfl rfl rfl,.sm rfl rfl fC,ab⟩ rfl
theorem XR(J:Keep):Go.Proofs.Fl.C J 124 [.nil 3] (.nil 3):=by
 refine pS Tryz.func124 rfl rfl rfl rfl rfl ?_;repeat((first|refine SW.R ?_|refine SW.c ?_);conv=>whnf)
 rfl
theorem Wn(J:Keep){acc:List (List Int)}{left:Nat}(hl:left<100)(ha:acc.length<10000) :
 LocC (XS J) 123 (ac (.nil 3)::ac (aQ left)::gS) (zS acc 1) (.tup []) (zS (acc ++ [[(left:Int)]]) 1):=by
 refine lT Tryz.func123 rfl rfl rfl ⟨.c rfl,.c rfl,.c rfl,.c rfl,.c rfl,.c rfl,ab⟩ ⟨kg rfl,.d cj,.c rfl,.c rfl,.c rfl,.c rfl,ab⟩ (.inr rfl) ⟨kg ?_,.d cj,.c rfl,.c rfl,.c rfl,.c rfl,ab⟩ ?_
 . rfl
 have c1:=XR J;repeat((first|refine SW.R ?_|refine SW.c ?_|refine aV c1 rfl rfl rfl ?_|refine ap (by omega) ?_|refine yT (by omega) ?_|refine aM rfl ?_|refine lC rfl ?_);conv=>whnf)
 refine GR (MU J acc [(left:Int)] ha) (g:=7) (u:=0) (n:=1) (es:=[aQ left]) (yr 1 rfl rfl rfl rfl (ak _) rfl) (.fz _ (.sm _ .nil)) [0,1] 0 rfl ⟨.d rfl,.c rfl,ab⟩ ⟨.c (aJ some (ke rfl).symm),.d rfl cj,ab⟩ trivial (bm (.c (ke rfl)) (bm (.d cj) df)) (.d rfl) ?_;conv=>whnf
 repeat((first|refine SW.ret ?_|refine And.intro (nO rfl) ?_);conv=>whnf)
 exact Tr.tab [] [] ⟨.sm rfl rfl,ab⟩ ⟨.rn rfl rfl (mm fun _=>rfl) (mc fun _=>rfl),.sm rfl rfl cj,.rn rfl rfl rfl rfl,.rn rfl rfl rfl rfl,.rn rfl rfl rfl rfl,.rn rfl rfl rfl rfl,ab⟩ rfl
noncomputable def EA(acc:List (List Int))(n left:Nat)(k:Int):SS:=aP [(0,ac (.nil 3)),(1,ac (aQ left)),(2,.w (.one (.ptr 2 0 0))),(3,.w (.one (.ptr 3 0 0))),(4,.w (.one (.ptr 4 0 0))),(5,.w (.one (.ptr 5 0 0))),(8,ac (aQ k))]
 (mw 0 (zS acc n)) 6
theorem WC(J:Keep):∀(m:Nat) {acc:List (List Int)} {left:Nat} (h2:m<=50) (hl:left<100) (ha:acc.length+(bX (m+1) left).length<=10000),
 LocC (XS J) 123 (ac (.nil 3)::ac (aQ left)::gS) (zS acc (m+1)) (.tup []) (zS (acc++bX (m+1) left) (m+1))
 |0,acc,left,h2,hl,ha=>by
  rw[HA] at ha ⊢;simp only[bB,nV] at ha;exact Wn J hl (by omega)
 |m+1,acc,left,h2,hl,ha=>by
  refine lT Tryz.func123 rfl rfl rfl ⟨.c rfl,.c rfl,.c rfl,.c rfl,.c rfl,.c rfl,ab⟩ ⟨kg rfl,.d cj,.c rfl,.c rfl,.c rfl,.c rfl,ab⟩ (.inr rfl) ⟨kg ?_,.d cj,.c rfl,.c rfl,.c rfl,.c rfl,ab⟩ ?_
  . rfl
  repeat((first|refine SW.R ?_|refine SW.c ?_|refine ap (by omega) ?_|refine yF (by omega) ?_|refine aM rfl ?_);conv=>whnf)
  refine dc (G:={ t:Nat // t<=left+1 }) (fun t=>EA (acc++gP [] m left t.1) (m+1+1) left ((left:Int)-(t.1:Int))) (fun t=>left+1-t.1) ⟨0,bk _⟩
   (Tr.tab [] [] ⟨.sm rfl rfl,.sm rfl rfl,.rn rfl rfl,.rn rfl rfl,.rn rfl rfl,.rn rfl rfl,.sm (iq (by dsimp only;omega)) rfl,ab⟩ ⟨?_,.sm rfl ?_ cj,.rn rfl rfl rfl rfl,.rn rfl rfl rfl rfl,.rn rfl rfl rfl rfl,.rn rfl rfl rfl rfl,ab⟩ rfl) ?_
  . show BoxT [] [] _ 0 (some (zb acc)) (zb (acc ++ []));rw[iw];exact .rn rfl rfl (mm fun _=>rfl) (mc fun _=>rfl)
  . show some (za acc)=some (za (acc ++ []));rw[iw]
  rintro⟨t,ht⟩;obtain⟨acc1,e1⟩:∃a,acc++gP [] m left t=a:=⟨_,rfl⟩;show SW (XS J) _ _ _ _ (EA (acc++gP [] m left t) (m+1+1) left ((left:Int)-(t:Int))) _;rw[e1];by_cases h:t<=left
  . have hk:IntKind.i64.wrap ((left:Int)-((left:Int)-(t:Int)))=(t:Int):=by rw[dv (by omega)];omega
    have hc':(((left-t:Nat):Int))=(left:Int)-(t:Int):=by omega
    have hcnt:(acc++gP [] m left (t+1)).length<=10000:=by
     have h5:=Gj (l:=[]) (m:=m) (left:=left) (t:=t+1) (t':=left+1) (by omega);rw[xa,bR] at h5;have h6:(bX (m+2) left).length=(bX (m+1+1) left).length:=rfl;rw[bF];omega
    rw[ui,<-dX,e1,bF,bR] at hcnt;have ih:=Mc J m (acc:=acc1) (l:=[((left-t:Nat):Int)]) (left:=t) (u:=0) (c:=1) (vs:=[(0,1)]) rfl (ak _) (by simp only[bB,nV];omega) (by omega) (by omega) (fun q hq=>by rw[fL] at hq;subst hq;exact ak _) (by simp only[bB,nV];omega);rw[show [((left-t:Nat):Int)].length+1+m=m+1+1 by simp only[bB,nV];omega] at ih;repeat((first|refine SW.R ?_|refine SW.c ?_|refine And.intro rfl (bc hk ?_)|refine yT (by omega) ?_|refine aM rfl ?_|refine lC rfl ?_);conv=>whnf)
    refine dN ih [0,1,2,3,4,5,7] 0 rfl ⟨.c rfl,.d rfl,.c rfl,.c rfl,.c rfl,.c rfl,ab⟩ ⟨.c (aJ some (ke rfl).symm),.d rfl cj,.c rfl,.c rfl,.c rfl,.c rfl,.d ?_ fC,ab⟩ trivial (bm (.c (ke rfl)) (bm (.d cj) (bm (.c rfl) (bm (.c rfl) (bm (.c rfl) (bm (.c rfl) (bm (.d fC) df))))))) (.d rfl) ?_
    . show some (EO.mem 3 [.iv (aQ ((left:Int)-(t:Int)))] false [(0,1)] 1)=some (.mem 3 [.iv (aQ ((left-t:Nat):Int))] false [(0,1)] 1);rw[hc']
    conv=>whnf
    repeat((first|refine SW.R ?_|refine ap (by omega) ?_|refine And.intro (nO rfl) ?_);conv=>whnf)
    refine⟨⟨t+1,by omega⟩,?_,by dsimp only;omega⟩;show Tr _ _ (EA (acc++gP [] m left (t+1)) (m+1+1) left ((left:Int)-((t+1:Nat):Int)));rw[ui,<-dX,e1];exact Tr.tab [] [] ⟨.sm rfl rfl,.sm rfl rfl,.rn rfl rfl,.rn rfl rfl,.rn rfl rfl,.rn rfl rfl,.sm (iq (by omega)) rfl,ab⟩ ⟨.rn rfl rfl (mm fun _=>rfl) (mc fun _=>rfl),.sm rfl rfl cj,.rn rfl rfl rfl rfl,.rn rfl rfl rfl rfl,.rn rfl rfl rfl rfl,.rn rfl rfl rfl rfl,ab⟩ rfl
  . have e6:t=left+1:=by omega
    subst e6;rw[xa] at e1;have e8:acc++bX (m+1+1) left=acc1:=by rw[<-e1];simp
    rw[e8];repeat((first|refine SW.R ?_|refine SW.c ?_|refine yF (by omega) ?_|refine aM rfl ?_);conv=>whnf)
    exact Tr.tab [] [] ⟨.sm rfl rfl,ab⟩ ⟨.rn rfl rfl (mm fun _=>rfl) (mc fun _=>rfl),.sm rfl rfl cj,.rn rfl rfl rfl rfl,.rn rfl rfl rfl rfl,.rn rfl rfl rfl rfl,.rn rfl rfl rfl rfl,ab⟩ rfl
theorem SN(J:Keep){acc:List (List Int)}{m sum:Nat}(hm:m<=50)(hl:sum<100)(ha:acc.length+(bX (m+1) sum).length<=10000) :
 LocC (XS J) 68 [ac (aQ (m+1:Nat)),ac (aQ 0),ac (aQ sum),.w (.one (.clo 69 [0]))] [zb acc,za acc] (.tup []) [zb (acc++bX (m+1) sum),za (acc++bX (m+1) sum)]:=by
 refine lT Tryz.func68 rfl rfl rfl ⟨.c rfl,.c rfl,.c rfl,.c rfl,ab⟩ ⟨kg rfl,.d cj,ab⟩ (.inr rfl) ⟨kg ?_,.d cj,ab⟩ ?_
 . rfl
 repeat (first|((first|refine SW.RS ?_|refine SW.R ?_|refine ap (by omega) ?_|refine yT (by omega) ?_|refine bg rfl ?_|refine aM rfl ?_);conv=>whnf)|(refine SW.condT rfl ?_))
 refine dN (WC J m hm hl ha) [0,1,2,4,3,5] 0 rfl ⟨.d rfl,.d rfl,.c rfl,.c rfl,.c rfl,.c rfl,ab⟩ ⟨.c (aJ some (ke rfl).symm),.d rfl cj,.c rfl,.c rfl,.c rfl,.c rfl,ab⟩ trivial (bm (.c (ke rfl)) (bm (.d cj) (bm (.c rfl) (bm (.c rfl) (bm (.c rfl) (bm (.c rfl) df)))))) (.d rfl) ?_;conv=>whnf
 skip
 exact Tr.tab [] [] ⟨.sm rfl rfl,ab⟩ ⟨.rn rfl rfl (mm fun _=>rfl) (mc fun _=>rfl),.sm rfl rfl cj,ab⟩ rfl
noncomputable def EJ(acc:List (List Int))(n d t:Nat):SS:=aP [(0,ac (aQ n)),(1,ac (aQ d)),(5,.w (.one (.ptr 0 0 0))),(8,ac (aQ (d+1:Nat))),(9,ac (aQ t))] [(0,zb acc),(1,za acc)] 2
theorem Gq(n d:Nat){t:Nat}(h:t<=d+1):(((List.range t).flatMap fun s=>bX n s)).length<=(cQ n d).length:=by
 unfold cQ;rw[show d+1=t+(d+1-t) by omega,List.range_add,iP,bF];omega
theorem Kr:∀(l:List (List Int)),((l.map fT).all kX)=true
 | []=>rfl
 |x::l=>by rw[aS,cF,Kr l];rfl
theorem Jv(J:Keep){m d:Nat}(hm:m<=50)(hd:d<99)(ha:(cQ (m+1) d).length<=10000):Go.Proofs.Fl.C J 30 [.int .i64 (m+1:Nat),.int .i64 d] (.sl ((cQ (m+1) d).map fT)):=by
 refine tz Tryz.func30 rfl rfl rfl rfl 1 ?_;repeat((first|refine SW.R ?_|refine SW.c ?_|refine ap (by omega) ?_);conv=>whnf)
 refine dc (G:={ t:Nat // t<=d+1 }) (fun t=>EJ ((List.range t.1).flatMap fun s=>bX (m+1) s) (m+1) d t.1) (fun t=>d+1-t.1) ⟨0,bk _⟩
  (Tr.tab [(1,1000)] [] ⟨.sm rfl rfl,.sm rfl rfl,.rn rfl rfl,.sm (iq (by omega)) rfl,.sm rfl rfl,ab⟩ ⟨.rn rfl rfl rfl rfl,.ph rfl,ab⟩ rfl) ?_
 rintro⟨t,ht⟩;obtain⟨acc,e1⟩:∃a,((List.range t).flatMap fun s=>bX (m+1) s)=a:=⟨_,rfl⟩;show SW (XS J) _ _ _ _ (EJ ((List.range t).flatMap fun s=>bX (m+1) s) (m+1) d t) _;rw[e1];by_cases h:t<d+1
 . have h3:=Gq (m+1) d (t:=t+1) (by omega);rw[AU,iP,e1,bF] at h3;simp only[ch,Fy,iw] at h3;repeat((first|refine SW.R ?_|refine SW.c ?_|refine yT (by omega) ?_);conv=>whnf)
   refine dN (SN J (acc:=acc) (m:=m) (sum:=t) hm (by omega) (by omega)) [0,1] 0 rfl ⟨.d rfl,.d rfl,.d rfl,.c rfl,ab⟩ ⟨.c (aJ some (ke rfl).symm),.d rfl cj,ab⟩ trivial (bm (.c (ke rfl)) (bm (.d cj) df)) (.d rfl) ?_;conv=>whnf
   repeat((first|refine SW.R ?_|refine ap (by omega) ?_);conv=>whnf)
   refine⟨⟨t+1,by omega⟩,?_,by dsimp only;omega⟩;show Tr _ _ (EJ ((List.range (t+1)).flatMap fun s=>bX (m+1) s) (m+1) d (t+1));rw[AU,iP,e1];simp only[ch,Fy,iw];exact Tr.tab [] [] ⟨.sm rfl rfl,.sm rfl rfl,.rn rfl rfl,.sm rfl rfl,.sm rfl rfl,ab⟩ ⟨.rn rfl rfl (mm fun _=>rfl) (mc fun _=>rfl),.sm rfl rfl cj,ab⟩ rfl
 . have e6:t=d+1:=by omega
   subst e6;have e7:cQ (m+1) d=acc:=e1;rw[e7];have hne:acc≠[]:=fun e=>by
    have:=Gq (m+1) d (t:=1) (by omega);rw[e7,e] at this;have h2:(bX (m+1) 0).length<=0:=by simpa using this
    have h3:List.replicate (m+1) (0:Int)∈bX (m+1) 0:=od.2 ⟨by simp,fun x hx=>by rw[(List.mem_replicate.1 hx).2];exact Int.le_refl _,by
     have:∀k,Reg.sumI (List.replicate k (0:Int))=0:=fun k=>by
      induction k with
      |zero=>rfl
      |succ k ih=>simp only[rp,Reg.sumI,ih];rfl
     rw[this];rfl⟩
    cases hc:bX (m+1) 0 with
    |nil=>rw[hc] at h3;cases h3
    |cons a b=>rw[hc] at h2;simp at h2
   cases acc with
   |nil=>exact absurd rfl hne
   |cons x acc=>
    repeat((first|refine SW.R ?_|refine SW.c ?_|refine yF (by omega) ?_|refine aM rfl ?_);conv=>whnf)
    exact Cf (te:=L6) (n:=acc.length+1) (es:=(x::acc).map fT) (cs:=(x::acc).map fun p=>EV.iv (fT p)) rfl rfl rfl rfl rfl (gO _ _) (ak _) (by simp) (by rw[aC (by simp),fb];rfl) (Kr _)
end Go.Proofs.En
namespace Go.Proofs.Reg
theorem GF{t:Tm}:∀{os:List Tm},t.1∉os.map Prod.fst->cz t os=os ++ [t]
 | [],_=>rfl
 |o::os,h=>by
  simp only[aS,eZ,not_or] at h;rw[cz,am fun e=>h.1 e.symm,GF h.2];rfl
theorem Gz{t o:Tm}:∀{os:List Tm} {m:Nat},nq os->os[m]?=some o->o.1=t.1->cz t os=os.set m (o.1,o.2+t.2)
 | [],m,_,h,_=>by simp at h
 |x::os,0,_,h,e=>by
  simp at h;subst h;rw[cz,ay e];rfl
 |x::os,m+1,hn,h,e=>by
  simp at h;have hx:=(List.pairwise_cons.1 hn).1 o (bV h);rw[cz,am (by rw[<-e];exact hx),Gz (List.pairwise_cons.1 hn).2 h e];rfl
theorem BF{f:List Tm}{i:Nat}(h:i<f.length):bu (f.take (i+1))=cz f[i] (bu (f.take i)):=by
 rw[tR h];unfold bu;rw[AE];rfl
theorem Qj{os:List Tm}{m:Nat}{o:Tm}{q:Rat}(h:os[m]?=some o):(os.set m (o.1,q)).map Prod.fst=os.map Prod.fst:=by
 apply px;intro i;simp only[bQ,AA];by_cases e:m=i
 . subst e;obtain⟨hl,he⟩:=List.getElem?_eq_some_iff.1 h;simp[hl,he]
 . simp[e]
theorem GG(t:Tm):∀(os:List Tm),∀x∈cz t os,x.1=t.1\/∃o∈os,x.1=o.1
 | [],x,hx=>by simp[cz] at hx;exact .inl (by rw[hx])
 |o::os,x,hx=>by
  unfold cz at hx;split at hx
  . rename_i e;rcases List.mem_cons.1 hx with rfl|hx
    . exact .inl e
    . exact .inr ⟨x,by simp[hx],rfl⟩
  . rcases List.mem_cons.1 hx with rfl|hx
    . exact .inr ⟨x,by simp,rfl⟩
    . rcases GG t os x hx with h|⟨y,hy,h⟩
      . exact .inl h
      . exact .inr ⟨y,by simp[hy],h⟩
theorem xg{f:List Tm}:∀i,i<=f.length->∀x∈bu (f.take i),∃t∈f,x.1=t.1
 |0,_,x,hx=>by simp[bu] at hx
 |i+1,h,x,hx=>by
  have hi:i<f.length:=h;rw[BF hi] at hx;rcases GG _ _ x hx with e|⟨y,hy,e⟩
  . exact⟨f[i],eM hi,e⟩
  . obtain⟨z,hz,e'⟩:=xg i (by omega) y hy;exact⟨z,hz,e.trans e'⟩
theorem Hu(t:Tm):∀os:List Tm,(cz t os).length<=os.length+1
 | []=>by simp[cz]
 |o::os=>by
  have:=Hu t os;unfold cz;split<;>simp<;>omega
theorem xv(f:List Tm):(bu f).length<=f.length:=by
 have key:∀(f out:List Tm),(f.foldl (fun out t=>cz t out) out).length<=out.length+f.length:=by
  intro f;induction f with
  |nil=>intro out;simp
  |cons t f ih=>intro out;have h1:=ih (cz t out);have h2:=Hu t out;simp only[kL,bB];omega
 have:=key f [];rw[nV,aU] at this;exact this
end Go.Proofs.Reg
namespace Go.Proofs.En
open Go.RowKit Go.Proofs.Fl Go.Proofs.Dig
attribute [local irreducible] IntKind.wrap a7 be bq bw SW SWr CallOk To Tr eG
open Go.Proofs.Reg
theorem flat_set{α U:Type}{f:α->List U}{k:Nat}{a':α}:∀{l:List α} {i:Nat},(∀a,(f a).length=k)->i<l.length->splice (l.flatMap f) (i*k) (f a')=(l.set i a').flatMap f
 | [],i,_,h=>by simp at h
 |b::l,0,hl,h=>by
  unfold splice;rw[mW,wh,lM,NG,ch,ch,aU,hl,<-hl b,List.drop_left]
 |b::l,i+1,hl,h=>by
  have ih:=flat_set (f:=f) (k:=k) (a':=a') (l:=l) (i:=i) hl (by simpa using h);unfold splice at ih ⊢;rw[Fa,ch,ch,show(i+1)*k=(f b).length+i*k by rw[hl,bP];omega,MY,Fd,aC (wA _ _),lI,MX,Fd,pt (wA _ _),lM,<-ih,dX,dX,dX]
theorem uT{e m P cnt:Nat}{os:List Tm}{x:Tm}{fz:Bool}(h:os[m]?=some x)(hP:P=os.length*4):g3 (some (.mem e (os.flatMap bC) fz [(0,P)] cnt)) 0 (m*4) 4=some (bC x):=by
 have hm:=(List.getElem?_eq_some_iff.1 h).1;unfold g3;simp only[gO,fM (show m*4+4<=P by omega),af];rw[flat_get (fun a _=>jU a) h]
theorem KA{e m P cnt:Nat}{os:List Tm}{x:Tm}{new:List EV}(hm:m<os.length)(hP:P=os.length*4)(hn:new=bC x):il (some (.mem e (os.flatMap bC) false [(0,P)] cnt)) 0 (m*4) new=some (.mem e ((os.set m x).flatMap bC) false [(0,P)] cnt):=by
 subst hn;unfold il;simp only[gO,jU,fM (show m*4+4<=P by omega),af,cZ];rw[flat_set jU hm];rfl
def Xg:List Tm->EV
 | []=>.iv (.nil 3)
 |_::l=>.slc 1 0 0 (l.length+1) (.fin 4)
noncomputable def Mz:List Tm->EO
 | []=>.mem 83 [] false [] 0
 |x::l=>ik (x::l) 1
theorem iB:∀os:List Tm,(os.flatMap bC).flatMap bj=[]
 | []=>rfl
 |x::l=>by rw[ch,iP,iB l];rfl
noncomputable def gR(os:List Tm):List (List Int):=os.map Prod.fst
noncomputable def dq(f:List Tm):IV:=.sl (f.map fun t=>tq t.1 t.2)
theorem pI{ps:List (List Int)}:gM (jh ps):=by
 have key:∀(ps:List (List Int)) (i:Nat),∀e∈kF ps i,eA e.1=[]/\eA e.2.1=[]:=by
  intro ps;induction ps with
  |nil=>intro i e he;cases he
  |cons p ps ih=>
   intro i e he;rcases List.mem_cons.1 he with rfl|he
   . refine⟨?_,rfl⟩;show((dP p).map fun z=>EV.iv (di z)).flatMap bj=[];induction dP p with
     |nil=>rfl
     |cons a l ih=>rw[aS,ch,ih];rfl
   . exact ih _ _ he
 exact key ps 0
noncomputable def tF(f os:List Tm)(t:Nat):SS:=aP [(1,ac (.fn 129)),(2,ac (.fn 130)),(3,ac (.fn 132)),(9,.w (.one (.mp 0))),(10,.w (.one (Xg os))),(17,ac (dq f)),(18,ac (di (f.length:Int))),(19,ac (di (t:Int)))] [(0,jh (gR os)),(1,Mz os)] 2
noncomputable def XI(f os:List Tm)(L t:Nat):SS:=aP [(1,ac (.fn 129)),(2,ac (.fn 130)),(3,ac (.fn 132)),(9,.w (.one (.mp 0))),(10,.w (.one (.slc 1 0 0 L (.fin 4)))),(17,ac (dq f)),(18,ac (di (f.length:Int))),(19,ac (di (t:Int)))] [(0,jh (gR os)),(1,.mem 83 (os.flatMap bC) false [(0,L*4)] 1)] 2
theorem Dz{f os:List Tm}{L t:Nat}(h0:os≠[])(hL:os.length=L):tF f os t=XI f os L t:=by
 cases os with
 |nil=>exact absurd rfl h0
 |cons x l=>subst hL;rfl
end Go.Proofs.En
namespace Go.Proofs.En
open Go.RowKit Go.Proofs.Fl Go.Proofs.Dig
attribute [local irreducible] IntKind.wrap a7 be bq bw SW SWr CallOk To Tr eG
open Go.Proofs.Reg
def tE(ts:List Tm):Int:=match ts.findIdx? (fun t=>decide (t.2=0)) with
 |some i=>(i:Int)
 |none => -1
theorem JO{ts:List Tm}{t:Nat}{x:Tm}(h:∀y∈ts.take t,y.2≠0)(hx:ts[t]?=some x)(h0:x.2=0):tE ts=(t:Int):=by
 have hl:=(List.getElem?_eq_some_iff.1 hx);obtain⟨hlt,he⟩:=hl;have:ts.findIdx? (fun t=>decide (t.2=0))=some t:=by
  rw[XY];refine⟨hlt,by rw[he];exact aZ h0,fun j hj=>?_⟩;have:=h ts[j] (by rw[NH];exact⟨j,by omega,rfl⟩);simpa using this
 unfold tE;rw[this]
theorem Ig{ts:List Tm}(h:∀y∈ts,y.2≠0):tE ts = -1:=by
 have:ts.findIdx? (fun t=>decide (t.2=0))=none:=by
  rw[List.findIdx?_eq_none_iff];intro x hx;exact bl (h x hx)
 unfold tE;rw[this]
theorem gK{ts:List Tm}{c:Nat}:gM (ik ts c):=iB ts
theorem Jq(J:Keep){ts:List Tm}{c:Nat}(hl:ts.length<2^20):LocC (XS J) 207 [.w (.one (.slc 0 0 0 ts.length (.fin 4))),ac (.fn 132)] [ik ts c] (ac (di (tE ts))) [ik ts c]:=by
 obtain⟨r,hr⟩:∃r,tE ts=r:=⟨_,rfl⟩;rw[hr];refine lT Tryz.func207 rfl rfl rfl ⟨.c rfl,.c rfl,ab⟩ ⟨.d gK,ab⟩ (.inr rfl) ⟨.d gK,ab⟩ ?_;repeat((first|refine SW.R ?_|refine SW.c ?_|refine bc rfl ?_);conv=>whnf)
 refine dc (G:={ t:Nat // t<=ts.length/\∀y∈ts.take t,y.2≠0 }) (fun t=>aP [(0,.w (.one (.slc 0 0 0 ts.length (.fin 4)))),(1,ac (.fn 132)),(6,.w (.one (.slc 0 0 0 ts.length (.fin 4)))),(7,ac (di (ts.length:Int))),(8,ac (di (t.1:Int)))] [(0,ik ts c)] 1) (fun t=>ts.length-t.1) ⟨0,bk _,by simp⟩
  (Tr.tab [] [] ⟨.rn rfl rfl,.sm rfl rfl,.rn rfl rfl,.sm rfl rfl,.sm rfl rfl,ab⟩ ⟨.sm rfl rfl gK,ab⟩ rfl) ?_
 rintro⟨t,ht,hz⟩;show SW (XS J) _ _ _ _ (aP [(0,.w (.one (.slc 0 0 0 ts.length (.fin 4)))),(1,ac (.fn 132)),(6,.w (.one (.slc 0 0 0 ts.length (.fin 4)))),(7,ac (di (ts.length:Int))),(8,ac (di (t:Int)))] [(0,.mem 83 (ts.flatMap bC) false [(0,ts.length*4)] c)] 1) _;by_cases h:t<ts.length
 . obtain⟨⟨p,q⟩,hx⟩:∃x,ts[t]?=some x:=⟨_,a6 h⟩;have c237:=Js J (a:=p) (x:=q);by_cases h0:q=0
   . rw[aZ h0] at c237;have e:=JO hz hx h0;rw[hr] at e;subst e;repeat((first|refine SW.R ?_|refine SW.c ?_|refine jI (j:=t) rfl h (aU _) ?_|refine aM (uT hx rfl) ?_|refine aV c237 rfl rfl rfl ?_|refine yT (by omega) ?_);conv=>whnf)
     exact Tr.tab [] [] ⟨.sm rfl rfl,ab⟩ ⟨.sm rfl rfl gK,ab⟩ rfl
   . rw[bl h0] at c237;repeat((first|refine SW.R ?_|refine SW.c ?_|refine jI (j:=t) rfl h (aU _) ?_|refine aM (uT hx rfl) ?_|refine aV c237 rfl rfl rfl ?_|refine ap (by omega) ?_|refine yT (by omega) ?_);conv=>whnf)
     refine⟨⟨t+1,by omega,fun y hy=>?_⟩,Tr.tab [] [] ⟨.rn rfl rfl,.sm rfl rfl,.rn rfl rfl,.sm rfl rfl,.sm rfl rfl,ab⟩ ⟨.sm rfl rfl gK,ab⟩ rfl,by dsimp only;omega⟩;rw[gg,hx] at hy;rcases List.mem_append.1 hy with hy|hy
     . exact hz y hy
     . rw[List.mem_singleton.1 hy];exact h0
 . have e:t=ts.length:=by omega
   subst e;rw[dM] at hz;have e:=Ig hz;rw[hr] at e;subst e;repeat((first|refine SW.R ?_|refine SW.c ?_|refine yF (by omega) ?_);conv=>whnf)
   exact Tr.tab [] [] ⟨.sm rfl rfl,ab⟩ ⟨.sm rfl rfl gK,ab⟩ rfl
theorem JM{u L e c:Nat}{cs:List EV}{fz:Bool}:tD (some (.mem e cs fz [(u,L*4)] c)) u 0 L 4=L:=by
 unfold tD;simp only[gO,aU,fM (ak _),n3,tX,Nat.mul_div_cancel _ (by omega:0<4)];rfl
theorem QX{T:me->Option TY}{h:Hp}{g t e e1 L i c:Nat}{ty te:TY}{cs:List EV}{fz:Bool}(hg:h g=some (.mem e1 cs fz [(0,L*4)] c))(hi:i<L)(ht:T t=some ty)(hsh:ty.sh=.slice e)(hte:T e=some te)(hsz:te.size=4) :
 iF T h t (.w (.one (.slc g 0 0 L (.fin 4)))) (some (ac (di (i:Int)))) none none=some (.w (.one (.slc g 0 (i*4) (L-i) (.fin 4))),[]):=by
 unfold iF;rw[ht];simp only[hsh,hte];rw[show jN (some (ac (di (i:Int)))) 0=some i from rfl,show jN none L=some L from rfl,hg,JM];have e1:(Nat.ble i L&&Nat.ble L L&&Nat.blt i L&&Nat.beq 4 4)=true:=by
  rw[fM (by omega),fM (ak _),(by rw[cY];exact hi:Nat.blt i L=true)];rfl
 rw[hsz];simp only[bd,e1,af,aU]
theorem QY{T:me->Option TY}{h:Hp}{g t e e1 L i c:Nat}{ty te:TY}{cs:List EV}{fz:Bool}(hg:h g=some (.mem e1 cs fz [(0,L*4)] c))(hi:i<L)(ht:T t=some ty)(hsh:ty.sh=.slice e)(hte:T e=some te)(hsz:te.size=4) :
 iF T h t (.w (.one (.slc g 0 0 L (.fin 4)))) none (some (ac (di (i:Int)))) none=some (.w (.one (.slc g 0 0 i (.fin 4))),[]):=by
 unfold iF;rw[ht];simp only[hsh,hte];rw[show jN none 0=some 0 from rfl,show jN (some (ac (di (i:Int)))) L=some i from rfl,hg,JM];have e1:(Nat.ble 0 i&&Nat.ble i L&&Nat.blt 0 L&&Nat.beq 4 4)=true:=by
  rw[fM (bk _),fM (by omega),(by rw[cY];omega:Nat.blt 0 L=true)];rfl
 rw[hsz];simp only[bd,e1,af,mW,aU,tX]
def bI(x:Tm):Bool:=decide (x.2≠0)
theorem JU{ts:List Tm}{i j:Nat}{x:Tm}(hx:ts[i]?=some x)(h0:x.2=0)(hij:i<j):((ts.take j).filter bI).length<j:=by
 have hm:x∈ts.take j:=by
  obtain⟨hl,he⟩:=List.getElem?_eq_some_iff.1 hx;rw[NH];exact⟨i,by omega,he⟩
 have h1:((ts.take j).filter bI).length<(ts.take j).length:=by
  apply List.length_filter_lt_length_iff_exists.2;exact⟨x,hm,by unfold bI;simp[h0]⟩
 have:=List.length_take_le j ts;omega
def fG(ts:List Tm)(j:Nat):List Tm:=(ts.take j).filter bI++ts.drop ((ts.take j).filter bI).length
theorem Se{ts:List Tm}{j:Nat}(h:((ts.take j).filter bI).length<=ts.length):(fG ts j).length=ts.length:=by
 unfold fG;rw[bF,mX];omega
theorem Sf{ts:List Tm}{j:Nat}(h:((ts.take j).filter bI).length<=j):(fG ts j)[j]?=ts[j]?:=by
 unfold fG;rw[List.getElem?_append_right h,ru];congr 1;omega
theorem Sd{ts:List Tm}{j:Nat}{x:Tm}(hx:ts[j]?=some x)(hz:x.2≠0)(h:((ts.take j).filter bI).length<ts.length) :
 (ts.take (j+1)).filter bI=(ts.take j).filter bI ++ [x]/\(fG ts j).set ((ts.take j).filter bI).length x=fG ts (j+1):=by
 have e1:(ts.take (j+1)).filter bI=(ts.take j).filter bI ++ [x]:=by
  rw[gg,hx,List.filter_append];have:bI x=true:=by unfold bI;simpa using hz
  simp[this]
 refine⟨e1,?_⟩;unfold fG;rw[e1,gJ h,bF,tS,List.set_append_right _ _ (ak _),nW,NG,dX];rfl
theorem HT{ts:List Tm}{j:Nat}{x:Tm}(hx:ts[j]?=some x)(hz:x.2=0):(ts.take (j+1)).filter bI=(ts.take j).filter bI:=by
 rw[gg,hx,List.filter_append];have:bI x=false:=by unfold bI;simp[hz]
 simp[this]
theorem BZ{zs:List EV}:∀m,(gC zs m).length=m*zs.length
 |0=>by simp[gC]
 |m+1=>by rw[gC,bF,BZ m,n5];omega
theorem QD{T:me->Option TY}{ze:me->Option (List EV)}{h:Hp}{g t e e1 L i m c:Nat}{ty te:TY}{cs zs:List EV}(hg:h g=some (.mem e1 cs false [(0,L*4)] c))(hl:cs.length=L*4)(him:i+m=L)(ht:T t=some ty)(hsh:ty.sh=.slice e)(hte:T e=some te)(hze:ze e=some zs)(hsz:te.size=4)(hzs:zs.length=4) :
 k8 T ze h t (.w (.one (.slc g 0 (i*4) m (.fin 4))))=some (.tup [],[(g,.mem e1 (cs.take (i*4)++gC zs m) false [(0,L*4)] c)]):=by
 unfold k8;rw[ht];simp only[hsh,hte,hze];rw[hzs,hsz,bh,af,hg];unfold il;have e2:(gC zs m).length=m*4:=by rw[BZ,hzs]
 simp only[gO,e2,fM (show i*4+m*4<=L*4 by omega),af,cZ];unfold splice;rw[e2,pt (by omega),iw];rfl
theorem Q2(J:Keep){ts:List Tm}{c:Nat}(hl:ts.length<2^20)(hz:∀y∈ts,y.2≠0):LocC (XS J) 176 [.w (.one (.slc 0 0 0 ts.length (.fin 4))),ac (.fn 132)] [ik ts c] (.w (.one (.slc 0 0 0 ts.length (.fin 4)))) [ik ts c]:=by
 refine lT Tryz.func176 rfl rfl rfl ⟨.c rfl,.c rfl,ab⟩ ⟨.d gK,ab⟩ (.inr rfl) ⟨.d gK,ab⟩ ?_;have c1:=Jq J (ts:=ts) (c:=c) hl;rw[Ig hz] at c1;repeat ((refine SW.RS ?_;conv=>whnf))
 refine dN c1 [0] 0 rfl ⟨.c rfl,.d rfl,ab⟩ ⟨.d rfl gK,ab⟩ trivial (bm (.d gK) df) (.d rfl) ?_;conv=>whnf
 repeat((first|refine SW.R ?_|refine SW.c ?_|refine yT (by omega) ?_);conv=>whnf)
 exact Tr.tab [] [] ⟨.rn rfl rfl,ab⟩ ⟨.sm rfl rfl gK,ab⟩ rfl
theorem PX(J:Keep){ts:List Tm}{c i:Nat}{x:Tm}(hl:ts.length<2^20)(hi:∀y∈ts.take i,y.2≠0)(hx:ts[i]?=some x)(h0:x.2=0):∃zs:List EV,zs.flatMap bj=[]/\zs.length=(ts.length-(ts.filter bI).length)*4/\
 LocC (XS J) 176 [.w (.one (.slc 0 0 0 ts.length (.fin 4))),ac (.fn 132)] [ik ts c] (.w (.one (.slc 0 0 0 (ts.filter bI).length (.fin 4)))) [.mem 83 ((ts.filter bI).flatMap bC++zs) false [(0,ts.length*4)] c]:=by
 obtain⟨zc,hzc,hz4,hzi⟩:∃zc,(XS J).ze 83=some zc/\zc.length=4/\zc.flatMap bj=[]:=⟨_,rfl,rfl,rfl⟩;have hzr:∀m,(gC zc m).flatMap bj=[]:=fun m=>by
  induction m with
  |zero=>rfl
  |succ m ih=>rw[gC,iP,hzi,ih];rfl
 have hil:i<ts.length:=(List.getElem?_eq_some_iff.1 hx).1;obtain⟨K,hK⟩:∃K,ts.filter bI=K:=⟨_,rfl⟩;have hKl:K.length<ts.length:=by
  have:=JU (j:=ts.length) hx h0 hil;rwa[dM,hK] at this
 rw[hK];refine⟨gC zc (ts.length-K.length),hzr _,by rw[BZ,hz4],?_⟩;refine lT Tryz.func176 rfl rfl rfl ⟨.c rfl,.c rfl,ab⟩ ⟨.d gK,ab⟩ (.inr rfl) ⟨.d (by show(K.flatMap bC++_).flatMap bj=[];rw[iP,iB,hzr];rfl),ab⟩ ?_;have c1:=Jq J (ts:=ts) (c:=c) hl;rw[JO hi hx h0] at c1;repeat ((refine SW.RS ?_;conv=>whnf))
 refine dN c1 [0] 0 rfl ⟨.c rfl,.d rfl,ab⟩ ⟨.d rfl gK,ab⟩ trivial (bm (.d gK) df) (.d rfl) ?_;conv=>whnf
 repeat((first|refine SW.R ?_|refine SW.c ?_|refine ap (by omega) ?_|refine yF (by omega) ?_);conv=>whnf)
 have e0:(ts.take (i+1)).filter bI=ts.take i:=by
  rw[HT hx h0,List.filter_eq_self];intro y hy;unfold bI;simpa using hi y hy
 have e1:(ts.take i).length=i:=by rw[cy];omega
 have e2:fG ts (i+1)=ts:=by unfold fG;rw[e0,e1,jQ]
 refine dc (G:={ j:Nat // i<j/\j<=ts.length }) (fun j=>aP [(0,.w (.one (.slc 0 0 0 ts.length (.fin 4)))),(1,ac (.fn 132)),(5,ac (di (((ts.take j.1).filter bI).length:Int))),(6,ac (di (j.1:Int)))] [(0,.mem 83 ((fG ts j.1).flatMap bC) false [(0,ts.length*4)] c)] 1) (fun j=>ts.length-j.1) ⟨i+1,by omega,by omega⟩
  (Tr.tab [] [] ⟨.rn rfl rfl,.sm rfl rfl,.sm (by rw[e0,e1];rfl) rfl,.sm rfl rfl,ab⟩ ⟨.sm rfl (by rw[e2];rfl) (iB _),ab⟩ rfl) ?_
 rintro⟨j,hj1,hj2⟩;have hjl:=JU (j:=j) hx h0 hj1;have hRl:=Se (ts:=ts) (j:=j) (by omega);have hRg:=Sf (ts:=ts) (j:=j) (by omega);show SW (XS J) _ _ _ _ (aP [(0,.w (.one (.slc 0 0 0 ts.length (.fin 4)))),(1,ac (.fn 132)),(5,ac (di (((ts.take j).filter bI).length:Int))),(6,ac (di (j:Int)))] [(0,.mem 83 ((fG ts j).flatMap bC) false [(0,ts.length*4)] c)] 1) _;by_cases h:j<ts.length
 . obtain⟨⟨p,q⟩,hxj⟩:∃x,ts[j]?=some x:=⟨_,a6 h⟩;have c237:=Js J (a:=p) (x:=q);have hgj:=hRg.trans hxj;by_cases hq0:q=0
   . rw[aZ hq0] at c237;have e3:=HT hxj hq0;obtain⟨R,hR⟩:∃R,fG ts j=R:=⟨_,rfl⟩;obtain⟨I,hI⟩:∃I,((ts.take j).filter bI).length=I:=⟨_,rfl⟩;rw[hR] at hgj hRl;rw[hR,hI];repeat((first|refine SW.R ?_|refine SW.c ?_|refine jI (j:=j) rfl h (aU _) ?_|refine aM (uT hgj (by rw[hRl])) ?_|refine aV c237 rfl rfl rfl ?_|refine ap (by omega) ?_|refine yT (by omega) ?_|refine bc rfl ?_|refine eU rfl ?_|refine bg rfl ?_|refine aM rfl ?_);conv=>whnf)
     refine⟨⟨j+1,by omega,by omega⟩,?_,by dsimp only;omega⟩;have e4:fG ts (j+1)=R:=by unfold fG;rw[e3];exact hR
     show Tr _ _ (aP [(0,.w (.one (.slc 0 0 0 ts.length (.fin 4)))),(1,ac (.fn 132)),(5,ac (di (((ts.take (j+1)).filter bI).length:Int))),(6,ac (di ((j+1:Nat):Int)))] [(0,.mem 83 ((fG ts (j+1)).flatMap bC) false [(0,ts.length*4)] c)] 1);rw[e3,hI,e4];exact Tr.tab [] [] ⟨.rn rfl rfl,.sm rfl rfl,.sm rfl rfl,.sm rfl rfl,ab⟩ ⟨.sm rfl rfl (iB _),ab⟩ rfl
   . rw[bl hq0] at c237;obtain⟨e3,e4⟩:=Sd hxj hq0 (by omega);obtain⟨R,hR⟩:∃R,fG ts j=R:=⟨_,rfl⟩;obtain⟨I,hI⟩:∃I,((ts.take j).filter bI).length=I:=⟨_,rfl⟩;have e5:((ts.take (j+1)).filter bI).length=I+1:=by rw[e3,bF,hI];rfl
     rw[hR] at hgj hRl;rw[hR,hI] at e4;rw[hI] at hjl;rw[hR,hI];have hIL:I<ts.length:=by omega
     have hIR:I<R.length:=by omega
     repeat((first|refine SW.R ?_|refine SW.c ?_|refine jI (j:=j) rfl h (aU _) ?_|refine aM (uT hgj (by rw[hRl])) ?_|refine aV c237 rfl rfl rfl ?_|refine jI (j:=I) rfl hIL (aU _) ?_|refine yT (by omega) ?_|refine bc rfl ?_|refine eU rfl ?_|refine bg rfl ?_|refine aM rfl ?_);conv=>whnf)
     refine bg (KA (x:=(p,q)) (m:=I) (os:=R) hIR (by rw[hRl]) rfl) ?_;conv=>whnf
     repeat((first|refine SW.R ?_|refine ap (by omega) ?_);conv=>whnf)
     refine⟨⟨j+1,by omega,by omega⟩,?_,by dsimp only;omega⟩;show Tr _ _ (aP [(0,.w (.one (.slc 0 0 0 ts.length (.fin 4)))),(1,ac (.fn 132)),(5,ac (di (((ts.take (j+1)).filter bI).length:Int))),(6,ac (di ((j+1:Nat):Int)))] [(0,.mem 83 ((fG ts (j+1)).flatMap bC) false [(0,ts.length*4)] c)] 1);rw[e5,<-e4];exact Tr.tab [] [] ⟨.rn rfl rfl,.sm rfl rfl,.sm rfl rfl,.sm rfl rfl,ab⟩ ⟨.sm rfl rfl (iB _),ab⟩ rfl
 . have ej:j=ts.length:=by omega
   subst ej;have eK:(ts.take ts.length).filter bI=K:=by rw[dM];exact hK
   have eR:((fG ts ts.length).flatMap bC).take (K.length*4)=K.flatMap bC:=by
    unfold fG;rw[eK,iP,jm (by rw[jt fun a _=>jU a];exact ak _),aC (by rw[jt fun a _=>jU a];exact ak _)]
   have eL:((fG ts ts.length).flatMap bC).length=ts.length*4:=by rw[jt fun a _=>jU a,hRl]
   rw[eK];obtain⟨R,hR⟩:∃R,(fG ts ts.length).flatMap bC=R:=⟨_,rfl⟩;rw[hR] at eR eL;rw[hR];repeat((first|refine SW.R ?_|refine SW.c ?_|refine kI (QX (L:=ts.length) (i:=K.length) rfl hKl rfl rfl rfl rfl) ?_|refine yF (by omega) ?_|refine bc rfl ?_);conv=>whnf)
   refine vU (QD (L:=ts.length) (i:=K.length) (m:=ts.length-K.length) rfl eL (by omega) rfl rfl rfl hzc rfl hz4) ?_;conv=>whnf
   repeat((first|refine SW.RS ?_|refine SW.ret ?_|refine kI (QY (L:=ts.length) (i:=K.length) rfl hKl rfl rfl rfl rfl) ?_);conv=>whnf)
   refine Tr.tab [] [] ⟨.rn rfl rfl,ab⟩ ⟨.sm rfl ?_ (by show(K.flatMap bC++_).flatMap bj=[];rw[iP,iB,hzr];rfl),ab⟩ rfl;rw[<-eR];rfl
end Go.Proofs.En
namespace Go.Proofs.Reg
theorem Rz(t:Tm):∀os:List Tm,cz t os≠[]
 | []=>by simp[cz]
 |o::os=>by unfold cz;split<;>simp
theorem TQ{f:List Tm}(h:f≠[]):bu f≠[]:=by
 have hl:f.length-1<f.length:=by have:=List.length_pos_iff.2 h;omega
 have e:=BF hl;rw[show f.length-1+1=f.length by omega,dM] at e;rw[e];exact Rz _ _
end Go.Proofs.Reg
namespace Go.Proofs.En
open Go.RowKit Go.Proofs.Fl Go.Proofs.Dig
attribute [local irreducible] IntKind.wrap a7 be bq bw SW SWr CallOk To Tr eG
open Go.Proofs.Reg
theorem Su(J:Keep){ts:List Tm}{c:Nat}(hl:ts.length<2^20):∃zs:List EV,zs.flatMap bj=[]/\zs.length=(ts.length-(ts.filter bI).length)*4/\
 LocC (XS J) 176 [.w (.one (.slc 0 0 0 ts.length (.fin 4))),ac (.fn 132)] [ik ts c] (.w (.one (.slc 0 0 0 (ts.filter bI).length (.fin 4)))) [.mem 83 ((ts.filter bI).flatMap bC++zs) false [(0,ts.length*4)] c]:=by
 by_cases h:∀y∈ts,y.2≠0
 . have e:ts.filter bI=ts:=by
    rw[List.filter_eq_self];intro y hy;unfold bI;simpa using h y hy
   rw[e];refine⟨[],rfl,by simp,?_⟩;rw[iw];exact Q2 J hl h
 . obtain⟨n,hn⟩:∃n,n=ts.findIdx (fun t=>decide (t.2=0)):=⟨_,rfl⟩;have hex:∃y∈ts,decide (y.2=0)=true:=by
    apply iM;intro hc;refine h fun y hy e=>hc ⟨y,hy,aZ e⟩
   have hlt:=List.findIdx_lt_length_of_exists hex;refine PX J hl (i:=ts.findIdx (fun t=>decide (t.2=0))) (x:=ts[ts.findIdx (fun t=>decide (t.2=0))]) (fun y hy e=>?_) (a6 hlt) (mY (List.findIdx_getElem (w:=hlt)));obtain⟨j,hj,rfl⟩:=List.mem_take_iff_getElem.1 hy;have:=List.not_of_lt_findIdx (xs:=ts) (p:=fun t=>decide (t.2=0)) (i:=j) (by omega);rw[aZ e] at this;exact absurd this (by simp)
theorem nQ:ot 3=some (EW.one (.iv (di 0))):=by unfold ot;rfl
theorem Sz{J:Keep}(B:Base J){n:Nat}{f:List Tm}(hn4:n<=4)(hn1:1<=n)(hn:∀t∈f,t.1.length=n)(hs:∀t∈f,cu t.1<2^62)(hq:∀t∈f,al t.2<2^36)(hg:∀i,i<=f.length->∀o∈bu (f.take i),al o.2<2^36)(hl:f.length<2^16)(h0:f≠[]) :
 ∃zs:List EV,zs.flatMap bj=[]/\zs.length=((bu f).length-((bu f).filter bI).length)*4/\
 LocC (XS J) 131 [ac (dq f),ac (.fn 129),ac (.fn 130),ac (.fn 132)] [] (.w (.one (.slc 1 0 0 ((bu f).filter bI).length (.fin 4)))) [jh (gR (bu f)),.mem 83 (((bu f).filter bI).flatMap bC++zs) false [(0,(bu f).length*4)] 1]:=by
 have hGl:(bu f).length<2^20:=by have:=xv f;omega
 have hG0:bu f≠[]:=TQ h0;obtain⟨zs,hz1,hz2,cD⟩:=Su J (ts:=bu f) (c:=1) hGl;refine⟨zs,hz1,hz2,?_⟩;have hcl:gM (.mem 83 (((bu f).filter bI).flatMap bC++zs) false [(0,(bu f).length*4)] 1):=by
  show(((bu f).filter bI).flatMap bC++zs).flatMap bj=[];rw[iP,iB,hz1];rfl
 refine lT Tryz.func131 rfl rfl rfl ⟨.c rfl,.c rfl,.c rfl,.c rfl,ab⟩ trivial (.inr ?_) ⟨.d pI,.d hcl,ab⟩ ?_
 . rfl
 have lf:(((f.map fun t=>tq t.1 t.2).length:Nat):Int)=(f.length:Int):=by simp
 repeat((first|refine SW.R ?_|refine SW.c ?_|refine bc lf ?_);conv=>whnf)
 refine dc (G:={ t:Nat // t<=f.length }) (fun t=>tF f (bu (f.take t.1)) t.1) (fun t=>f.length-t.1) ⟨0,bk _⟩
  (Tr.tab [(1,1000)] [] ⟨.sm rfl rfl,.sm rfl rfl,.sm rfl rfl,.rn rfl rfl,.sm rfl rfl,.sm rfl rfl,.sm rfl rfl,.sm rfl rfl,ab⟩ ⟨.sm rfl rfl pI,.ph rfl,ab⟩ rfl) ?_
 rintro⟨t,ht⟩;obtain⟨os,eos⟩:∃os,bu (f.take t)=os:=⟨_,rfl⟩;show SW (XS J) _ _ _ _ (tF f (bu (f.take t)) t) _;have hgt:=hg t ht;have hkt:=xg t ht;have hnd:=(CM (f:=f.take t) (n:=n) fun x hx=>hn x (dY hx)).1;rw[eos] at hgt hkt hnd ⊢;by_cases h:t<f.length
 . have hsn:=BF h;obtain⟨⟨p,q⟩,etm⟩:∃x,f[t]=x:=⟨_,rfl⟩;have hmem:(p,q)∈f:=by rw[<-etm];exact eM h
   rw[etm,eos] at hsn;have gv:(f.map fun t=>tq t.1 t.2)[t]?=some (tq p q):=by rw[bQ,a6 h,etm];rfl
   have hp:jg n p:=⟨hn _ hmem,hs _ hmem⟩;have hpn:p≠[]:=fun e=>by have:=hp.1;rw[e] at this;simp at this;omega
   have hko:∀k∈gR os,jg n k:=fun k hk=>by
    obtain⟨x,hx,rfl⟩:=List.mem_map.1 hk;obtain⟨y,hy,e⟩:=hkt x hx;rw[e];exact⟨hn y hy,hs y hy⟩
   have c234:=SB J (p:=p) (x:=q) hpn (by rw[hp.1];exact hn4);obtain⟨k1,k2,k3,k4,ek⟩:=P4 hn4 hp;have ek':=Ql ek;rw[ek] at c234;cases os with
   |nil=>
    have e5:bu (f.take (t+1))=[(p,q)]:=hsn;show SW (XS J) _ _ _ _ (aP [(1,ac (.fn 129)),(2,ac (.fn 130)),(3,ac (.fn 132)),(9,.w (.one (.mp 0))),(10,.w (.one (.iv (.nil 3)))),(17,ac (dq f)),(18,ac (di (f.length:Int))),(19,ac (di (t:Int)))] [(0,jh []),(1,Mz [])] 2) _;repeat((first|refine SW.R ?_|refine SW.c ?_|refine bz rfl gv rfl ?_|refine aV c234 rfl rfl rfl ?_|refine kI (FX (n:=n) (ps:=[]) (p:=p) nQ rfl hn4 (fun _ h=>by cases h) hp (by simp) ek') ?_|refine po (KC (n:=n) (ps:=[]) (p:=p) rfl hn4 (fun _ h=>by cases h) hp (by simp) ek' rfl) ?_|refine ap (by omega) ?_|refine yT (by omega) ?_|refine bg rfl ?_|refine aM rfl ?_|refine lC rfl ?_);conv=>whnf)
    refine⟨⟨t+1,by omega⟩,?_,by dsimp only;omega⟩;show Tr _ _ (tF f (bu (f.take (t+1))) (t+1));rw[e5];exact Tr.tab [(1,5)] [] ⟨.sm rfl rfl,.sm rfl rfl,.sm rfl rfl,.rn rfl rfl,.rn rfl rfl,.sm rfl rfl,.sm rfl rfl,.sm rfl rfl,ab⟩ ⟨.sm rfl rfl pI,.rn rfl rfl rfl rfl,ab⟩ rfl
   |cons o os=>
    have hol:(o::os).length<=t:=by rw[<-eos];exact aY (xv (f.take t)) (by simp;omega)
    simp only[bB] at hol;show SW (XS J) _ _ _ _ (aP [(1,ac (.fn 129)),(2,ac (.fn 130)),(3,ac (.fn 132)),(9,.w (.one (.mp 0))),(10,.w (.one (.slc 1 0 0 (os.length+1) (.fin 4)))),(17,ac (dq f)),(18,ac (di (f.length:Int))),(19,ac (di (t:Int)))] [(0,jh (gR (o::os))),(1,.mem 83 ((o::os).flatMap bC) false [(0,(os.length+1)*4)] 1)] 2) _;by_cases hin:p∈gR (o::os)
    . obtain⟨m,hm⟩:=List.mem_iff_getElem?.1 hin;obtain⟨⟨p',q0⟩,hx,ex⟩:∃x,(o::os)[m]?=some x/\x.1=p:=by
       unfold gR at hm;rw[bQ] at hm;cases hx:(o::os)[m]? with
       |none=>rw[hx] at hm;cases hm
       |some x=>rw[hx] at hm;exact⟨x,rfl,by simpa using hm⟩
      have ex:p'=p:=ex;subst ex;have hml:m<os.length+1:=(List.getElem?_eq_some_iff.1 hx).1;have e5:bu (f.take (t+1))=(o::os).set m (p',q0+q):=by rw[hsn];exact Gz hnd hx rfl
      have hndk:(gR (o::os)).Nodup:=by
       unfold gR List.Nodup;rw[NE];exact hnd
      have c235:=SA B (a:=p') (b:=p') (x:=q0) (y:=q) (hgt _ (bV hx)) (hq _ hmem);repeat((first|refine SW.R ?_|refine SW.c ?_|refine bz rfl gv rfl ?_|refine aV c234 rfl rfl rfl ?_|refine kI (Ol (n:=n) (m:=m) nQ rfl hn4 hko hndk hm ek') ?_|refine aV c235 rfl rfl rfl ?_|refine jI (j:=m) rfl hml (aU _) ?_|refine aM (uT hx rfl) ?_|refine yT (by omega) ?_|refine bg rfl ?_|refine aM rfl ?_);conv=>whnf)
      refine bg (KA (x:=(p',q0+q)) (m:=m) (os:=o::os) hml rfl rfl) ?_;conv=>whnf
      repeat((first|refine SW.R ?_|refine SW.exit ?_|refine ap (by omega) ?_);conv=>whnf)
      refine⟨⟨t+1,by omega⟩,?_,by dsimp only;omega⟩;show Tr _ _ (tF f (bu (f.take (t+1))) (t+1));have e8:gR ((o::os).set m (p',q0+q))=gR (o::os):=Qj hx;rw[e5,Dz (L:=os.length+1) (fun e=>by have:=aJ List.length e;simp at this) (by simp)];exact Tr.tab [] [] ⟨.sm rfl rfl,.sm rfl rfl,.sm rfl rfl,.rn rfl rfl,.rn rfl rfl,.sm rfl rfl,.sm rfl rfl,.sm rfl rfl,ab⟩ ⟨.sm rfl (by rw[e8];rfl) pI,.sm rfl rfl (iB _),ab⟩ rfl
    . have e5:bu (f.take (t+1))=(o::os) ++ [(p,q)]:=by rw[hsn];exact GF hin
      have e6:gR (o::(os ++ [(p,q)]))=gR (o::os) ++ [p]:=by unfold gR;rw[<-kJ,dE];rfl
      have ekl:(((gR (o::os)).length:Nat):Int)=((os.length+1:Nat):Int):=by unfold gR;simp
      repeat((first|refine SW.R ?_|refine SW.c ?_|refine bz rfl gv rfl ?_|refine aV c234 rfl rfl rfl ?_|refine kI (FX (n:=n) (p:=p) nQ rfl hn4 hko hp hin ek') ?_|refine po (KC (n:=n) (p:=p) rfl hn4 hko hp hin ek' ekl.symm) ?_|refine yT (by omega) ?_|refine bc rfl ?_|refine bg rfl ?_|refine aM rfl ?_);conv=>whnf)
      refine mv (g:=5) (b:=1) (oJ (p:=(os.length+1)*4) (sz:=4) rfl rfl (gO _ _) rfl (by omega) (by omega) (by omega) (by show _*80<=_;omega) rfl rfl rfl rfl rfl rfl) (by show 5<5+1;decide) ?_;conv=>whnf
      repeat((first|refine SW.R ?_|refine ap (by omega) ?_);conv=>whnf)
      refine⟨⟨t+1,by omega⟩,?_,by dsimp only;omega⟩;show Tr _ _ (tF f (bu (f.take (t+1))) (t+1));rw[e5,Dz (L:=os.length+1+1) (by simp) (by simp)];refine Tr.tab [] [(1,.one 1)] ⟨.sm rfl rfl,.sm rfl rfl,.sm rfl rfl,.rn rfl rfl,.rn rfl rfl,.sm rfl rfl,.sm rfl rfl,.sm rfl rfl,ab⟩ ⟨.sm rfl ?_ pI,.ver rfl rfl (r7 _ _ _) (ak _) ?_ ?_ (iB _),ab⟩ rfl
      . rw[kJ,e6];rfl
      . rw[jt fun a _=>jU a];simp
      . rw[aC (kM (jt fun a _=>jU a):((o::os).flatMap bC).length<=(os.length+1)*4),iP];rfl
 . have et:t=f.length:=by omega
   subst et;rw[dM] at eos;subst eos;rw[Dz hG0 rfl];show SW (XS J) _ _ _ _ (aP [(1,ac (.fn 129)),(2,ac (.fn 130)),(3,ac (.fn 132)),(9,.w (.one (.mp 0))),(10,.w (.one (.slc 1 0 0 (bu f).length (.fin 4)))),(17,ac (dq f)),(18,ac (di (f.length:Int))),(19,ac (di (f.length:Int)))] [(0,jh (gR (bu f))),(1,ik (bu f) 1)] 2) _;repeat((first|refine SW.R ?_|refine SW.c ?_|refine yF (by omega) ?_);conv=>whnf)
   refine dN cD [1] 0 rfl ⟨.c rfl,.d rfl,ab⟩ ⟨.d rfl gK,ab⟩ trivial (bm (.d hcl) df) (.c rfl) ?_;conv=>whnf
   repeat ((refine SW.ret ?_;conv=>whnf))
   exact Tr.tab [] [] ⟨.rn rfl rfl,ab⟩ ⟨.sm rfl rfl pI,.sm rfl rfl hcl,ab⟩ rfl
end Go.Proofs.En
namespace Go.Proofs.En
open Go.RowKit Go.Proofs.Fl Go.Proofs.Dig
attribute [local irreducible] IntKind.wrap a7 be bq bw SW SWr CallOk To Tr eG
open Go.Proofs.Reg
theorem Wp(l:List Int):iL l=(l.map di).map .iv:=by
 induction l with
 |nil=>rfl
 |cons x l ih=>rw[aS,aS,<-ih];rfl
theorem R9{h:Hp}{l:List Int}:gU h 1 (.w (.one (.iv (.sl (l.map di)))))=some (iL l,l.length):=by
 show(bif dI 1 (l.map di) then some (((l.map di).flatMap IV.cells).map EV.iv,(l.map di).length) else none)=_;rw[show dI 1 (l.map di)=true from Cq l,af,show((l.map di).flatMap IV.cells).map EV.iv=iL l from Ci l,bR]
theorem H6:∀l:List Int,((l.map di).all kX)=true
 | []=>rfl
 |x::l=>by rw[aS,cF,H6 l];rfl
theorem SP(J:Keep){p:List Int}(hp:1<=p.length)(hl:p.length<2^16):Go.Proofs.Fl.C J 124 [.sl (p.map di)] (.sl (p.map di)):=by
 cases p with
 |nil=>simp at hp
 |cons a l=>
  refine tz Tryz.func124 rfl rfl rfl rfl 1 ?_;repeat((first|refine SW.R ?_|refine SW.c ?_);conv=>whnf)
  refine mv (g:=1) (b:=1) (LR (te:=Aa) (ty:=L7) (e:=3) (sz:=1) rfl rfl rfl (R9 (l:=a::l)) hp (by omega) (by show _*8<=_;omega) rfl rfl rfl rfl rfl) (by show 1<1+1;decide) ?_;conv=>whnf
  repeat ((refine SW.ret ?_;conv=>whnf))
  refine Cf (te:=Aa) (n:=(a::l).length) (es:=(a::l).map di) rfl rfl rfl rfl rfl (gO _ _) (by rw[nk];exact ak _) (by simp) ?_ (H6 _);rw[aC (by rw[nk];exact ak _),Wp]
end Go.Proofs.En
namespace Go.Proofs.Reg
def s9(t:Tm):List Tm->List Tm
 | []=>[t]
 |o::os=>if cc t.1 o.1 = -1 then t::o::os else o::s9 t os
theorem BB(t:Tm):∀os:List Tm,(s9 t os).Perm (t::os)
 | []=>.refl _
 |o::os=>by
  unfold s9;split
  . exact .refl _
  . exact((BB t os).cons o).trans (.swap _ _ _)
theorem Ij{n:Nat}{t:Tm}(ht:t.1.length=n):∀{os:List Tm},(∀o∈os,o.1.length=n)->(∀o∈os,o.1≠t.1)->gI os->gI (s9 t os)
 | [],_,_,_=>Fx _ _
 |o::os,hl,hk,hs=>by
  obtain⟨h1,h2⟩:=List.pairwise_cons.1 hs;have hol:=hl o (by simp);unfold s9;by_cases h:cc t.1 o.1 = -1
  . rw[ay h];refine List.pairwise_cons.2 ⟨fun x hx=>?_,hs⟩;rcases List.mem_cons.1 hx with rfl|hx
    . exact h
    . exact uq (ht.trans hol.symm) (hol.trans (hl x (by simp[hx])).symm) h (h1 x hx)
  . rw[am h];have hot:cc o.1 t.1 = -1:=by
     have e:=pR o.1 t.1;rcases pQ o.1 t.1 with k|k|k
     . exact k
     . exact absurd (rW (hol.trans ht.symm) k) (hk o (by simp))
     . rw[k] at e;exact absurd e h
    refine List.pairwise_cons.2 ⟨fun x hx=>?_,Ij ht (fun x hx=>hl x (by simp[hx])) (fun x hx=>hk x (by simp[hx])) h2⟩;rcases List.mem_cons.1 ((BB t os).mem_iff.1 hx) with rfl|hx
    . exact hot
    . exact h1 x hx
theorem KF{n:Nat}:∀{os:List Tm},(∀o∈os,o.1.length=n)->nq os->∃g,g.Perm os/\gI g
 | [],_,_=>⟨[],.refl _,.nil⟩
 |o::os,hl,hk=>by
  obtain⟨h1,h2⟩:=List.pairwise_cons.1 hk;obtain⟨g,hp,hs⟩:=KF (fun x hx=>hl x (by simp[hx])) h2;refine⟨s9 o g,(BB o g).trans (hp.cons o),Ij (hl o (by simp)) (fun x hx=>hl x (by simp[hp.mem_iff.1 hx])) (fun x hx=>(h1 x (hp.mem_iff.1 hx)).symm) hs⟩
theorem HD{n:Nat}{f:List Tm}(hn:∀t∈f,t.1.length=n):(dt f).Perm ((bu f).filter fun t=>decide (t.2≠0))/\gI (dt f):=by
 obtain⟨h1,h2,h3⟩:=CM hn;obtain⟨g,hp,hs⟩:=KF (n:=n) (os:=(bu f).filter fun t=>decide (t.2≠0)) (fun o ho=>h2 o ((List.mem_filter.1 ho).1)) (h1.filter _);have e:=OK hn hp (hs.imp fun{a b} h=>by rw[pR,h];decide);rw[<-e];exact⟨hp,hs⟩
end Go.Proofs.Reg
namespace Go.Proofs.En
open Go.RowKit Go.Proofs.Fl Go.Proofs.Dig
attribute [local irreducible] IntKind.wrap a7 be bq bw SW SWr CallOk To Tr eG
open Go.Proofs.Reg
theorem OC(J:Keep){n:Nat}{ts g:List Tm}(hn:∀t∈ts,t.1.length=n)(hn2:n<2^50)(hs:∀t∈ts,cu t.1<2^62)(h0:ts≠[])(hl:ts.length<2^60)(hp:g.Perm ts)(hg:gI g){cap:Cap}{cnt:Nat} :
 LocC (XS J) 133 [.w (.one (.slc 0 0 0 ts.length cap)),ac (.fn 134)] [ik ts cnt] (.tup []) [ik g cnt] where
 call:=N8 J hn hn2 hs h0 hl hp hg
 le:=ak _
 a i hi:=by
  have:i=0:=by simpa[eV,eA,bj,ac] using hi
  subst this;exact Nat.one_pos
 z o ho:=by
  rw[fL] at ho;subst ho;exact⟨(fun e=>by cases e),rfl,wQ gK⟩
 r i hi:=by cases hi
 z' o ho:=by
  rw[fL] at ho;subst ho;exact⟨rfl,wQ gK⟩
theorem IM:∀ts:List Tm,ts.flatMap bC=(ts.flatMap fun t=>(tq t.1 t.2).cells).map .iv
 | []=>rfl
 |x::l=>by rw[ch,ch,dE,IM l];rfl
theorem In:∀ts:List Tm,eS true 4 ts.length (ts.flatMap fun t=>(tq t.1 t.2).cells)=ts.map fun t=>tq t.1 t.2
 | []=>rfl
 |x::l=>by
  rw[bB,eS,ch,aS,<-In l];rfl
theorem HY:∀ts:List Tm,((ts.flatMap fun t=>(tq t.1 t.2).cells).all kX)=true
 | []=>rfl
 |x::l=>by rw[ch,pF,HY l];rfl
theorem Lx:∀ts:List Tm,dI 4 (ts.map fun t=>tq t.1 t.2)=true
 | []=>rfl
 |x::l=>by
  have:=Lx l;unfold dI at this ⊢;rw[aS,cF,this];rfl
theorem GO{h:Hp}{f g P cnt:Nat}{cap:Cap}{S:Nat->Bool}{cs:List EV}{fz:Bool}{ts:List Tm}(hS:S g=true)(hg:h g=some (.mem 83 cs fz [(0,P)] cnt))(hP:ts.length*4<=P)(hc:cs.take (ts.length*4)=ts.flatMap bC) :
 gE TT ZZ S h (f+1) (.w (.one (.slc g 0 0 ts.length cap)))=some (dq ts):=by
 show bZ TT ZZ S h (f+1) (.slc g 0 0 ts.length cap)=_;unfold bZ;rw[hS];simp only[hg];rw[show TT 83=some zI from rfl,gO];simp only;rw[show zI.size=4 from rfl,show zI.sh.agg=true from rfl,aU,fM hP,af,bL,hc,IM,yq (HY ts)];simp only[In,Lx,Bool.true_or,lS,af];rfl
end Go.Proofs.En
namespace Go.Proofs.Fl
open Go.RowKit
attribute [local irreducible] IntKind.wrap a7 be bq bw
theorem Lh(J:Keep):C J 178 [.int .u64 0] (.int .i64 0) :=
 xp ⟨_,Tryz.func178,rfl,rfl⟩ fun H w args hI hargs=>by
  obtain⟨u,rfl,hu⟩:=hargs.one;rw[VR.asInt hu];refine(Tryz.bits_Len 0 w (by omega) (by omega)).mono ?_;rintro e w' ⟨rfl,rfl⟩;exact⟨_,rfl,fun H=>.int _ _,lK _ _⟩
end Go.Proofs.Fl
namespace Go.Proofs.En
open Go.RowKit Go.Proofs.Fl Go.Proofs.Dig
attribute [local irreducible] IntKind.wrap a7 be bq bw SW SWr CallOk To Tr eG
open Go.Proofs.Reg
theorem U7(J:Keep){cs:List EV}{vs:List (Nat×Nat)}{c:Nat}{cap:Cap}(hc:cs.flatMap bj=[]):LocC (XS J) 208 [.w (.one (.slc 0 0 0 0 cap)),ac (di 0),ac (di 0),ac (.fn 134)] [.mem 83 cs false vs c] (.tup []) [.mem 83 cs false vs c]:=by
 refine lT Tryz.func208 rfl rfl rfl ⟨.c rfl,.c rfl,.c rfl,.c rfl,ab⟩ ⟨.d hc,ab⟩ (.inr rfl) ⟨.d hc,ab⟩ ?_;repeat (first|((first|refine SW.RS ?_|refine ap (by omega) ?_);conv=>whnf)|(refine SW.block ?_))
 refine dc (G:=Unit) (fun _=>aP [(2,ac (di 0)),(8,ac (di 1))] [(0,.mem 83 cs false vs c)] 1) (fun _=>0) ()
  (Tr.tab [] [] ⟨.sm rfl rfl,.sm rfl rfl,ab⟩ ⟨.sm rfl rfl hc,ab⟩ rfl) ?_
 rintro⟨⟩;repeat((first|refine SW.R ?_|refine SW.c ?_|refine yF (by omega) ?_);conv=>whnf)
 exact Tr.tab [] [] ⟨.sm rfl rfl,ab⟩ ⟨.sm rfl rfl hc,ab⟩ rfl
theorem Va(J:Keep){cs:List EV}{vs:List (Nat×Nat)}{c:Nat}{cap:Cap}(hc:cs.flatMap bj=[]):LocC (XS J) 177 [.w (.one (.slc 0 0 0 0 cap)),ac (di 0),ac (di 0),ac (di 0),ac (.fn 134)] [.mem 83 cs false vs c] (.tup []) [.mem 83 cs false vs c]:=by
 refine lT Tryz.func177 rfl rfl rfl ⟨.c rfl,.c rfl,.c rfl,.c rfl,.c rfl,ab⟩ ⟨.d hc,ab⟩ (.inr rfl) ⟨.d hc,ab⟩ ?_;have c1:=U7 J (cap:=cap) (vs:=vs) (c:=c) hc;repeat (first|(refine SW.RS ?_;conv=>whnf)|(refine SW.block ?_))
 refine dc (G:=Unit) (fun _=>aP [(0,.w (.one (.slc 0 0 0 0 cap))),(1,ac (di 0)),(2,ac (di 0)),(4,ac (.fn 134))] [(0,.mem 83 cs false vs c)] 1) (fun _=>0) ()
  (Tr.tab [] [] ⟨.rn rfl rfl,.sm rfl rfl,.sm rfl rfl,.sm rfl rfl,ab⟩ ⟨.sm rfl rfl hc,ab⟩ rfl) ?_
 rintro⟨⟩;repeat((first|refine SW.R ?_|refine SW.c ?_|refine ap (by omega) ?_|refine yT (by omega) ?_);conv=>whnf)
 refine dN c1 [0] 0 rfl ⟨.c rfl,.d rfl,.d rfl,.d rfl,ab⟩ ⟨.d rfl hc,ab⟩ trivial (bm (.d hc) df) (.d rfl) ?_;conv=>whnf
 repeat ((refine SW.ret ?_;conv=>whnf))
 exact Tr.tab [] [] ⟨.sm rfl rfl,ab⟩ ⟨.sm rfl rfl hc,ab⟩ rfl
theorem Vd(J:Keep){cs:List EV}{vs:List (Nat×Nat)}{c:Nat}{cap:Cap}(hc:cs.flatMap bj=[]):LocC (XS J) 133 [.w (.one (.slc 0 0 0 0 cap)),ac (.fn 134)] [.mem 83 cs false vs c] (.tup []) [.mem 83 cs false vs c]:=by
 refine lT Tryz.func133 rfl rfl rfl ⟨.c rfl,.c rfl,ab⟩ ⟨.d hc,ab⟩ (.inr rfl) ⟨.d hc,ab⟩ ?_;have c1:=Va J (cap:=cap) (vs:=vs) (c:=c) hc;have c2:Go.Proofs.Fl.C J 178 [.int .u64 ((0:Nat):Int)] (.int .i64 0):=Lh J;repeat((first|refine SW.RS ?_|refine SW.R ?_|refine aV c2 rfl rfl rfl ?_|refine bc (eH (by omega)) ?_|refine bc rfl ?_);conv=>whnf)
 refine dN c1 [0] 0 rfl ⟨.c rfl,.d rfl,.d rfl,.d rfl,.d rfl,ab⟩ ⟨.d rfl hc,ab⟩ trivial (bm (.d hc) df) (.d rfl) ?_;conv=>whnf
 skip
 exact Tr.tab [] [] ⟨.sm rfl rfl,ab⟩ ⟨.sm rfl rfl hc,ab⟩ rfl
end Go.Proofs.En
namespace Go.Proofs.En
open Go.RowKit Go.Proofs.Fl Go.Proofs.Dig
attribute [local irreducible] IntKind.wrap a7 be bq bw SW SWr CallOk To Tr eG
open Go.Proofs.Reg
theorem U8(J:Keep):Go.Proofs.Fl.C J 207 [.nil 3,.fn 132] (.int .i64 (-1)):=by
 refine pS Tryz.func207 rfl rfl rfl rfl rfl ?_;repeat((first|refine SW.R ?_|refine SW.c ?_);conv=>whnf)
 refine dc (G:=Unit) (fun _=>aP [(7,ac (di 0)),(8,ac (di 0))] [] 0) (fun _=>0) () (Tr.tab [] [] ⟨.sm rfl rfl,.sm rfl rfl,ab⟩ trivial rfl) ?_;rintro⟨⟩;repeat((first|refine SW.R ?_|refine SW.c ?_|refine yF (by omega) ?_);conv=>whnf)
 rfl
theorem Vb(J:Keep):Go.Proofs.Fl.C J 176 [.nil 3,.fn 132] (.nil 3):=by
 refine pS Tryz.func176 rfl rfl rfl rfl rfl ?_;repeat((first|refine SW.R ?_|refine SW.c ?_|refine aV (U8 J) rfl rfl rfl ?_|refine yT (by omega) ?_);conv=>whnf)
 rfl
theorem Ve(J:Keep):Go.Proofs.Fl.C J 131 [.sl [],.fn 129,.fn 130,.fn 132] (.nil 3):=by
 refine pS Tryz.func131 rfl rfl rfl rfl rfl ?_;repeat((first|refine SW.R ?_|refine SW.c ?_|refine bc rfl ?_);conv=>whnf)
 refine dc (G:=Unit) (fun _=>aP [(3,ac (.fn 132)),(10,.w (.one (.iv (.nil 3)))),(18,ac (di 0)),(19,ac (di 0))] [] 0) (fun _=>0) () (Tr.tab [] [] ⟨.sm rfl rfl,.sm rfl rfl,.sm rfl rfl,.sm rfl rfl,ab⟩ trivial rfl) ?_;rintro⟨⟩;repeat((first|refine SW.R ?_|refine SW.c ?_|refine aV (Vb J) rfl rfl rfl ?_|refine yF (by omega) ?_);conv=>whnf)
 rfl
theorem U6(J:Keep):Go.Proofs.Fl.C J 208 [.nil 3,.int .i64 0,.int .i64 0,.fn 134] (.tup []):=by
 refine pS Tryz.func208 rfl rfl rfl rfl rfl ?_;repeat (first|((first|refine SW.RS ?_|refine ap (by omega) ?_);conv=>whnf)|(refine SW.block ?_))
 refine dc (G:=Unit) (fun _=>aP [(2,ac (di 0)),(8,ac (di 1))] [] 0) (fun _=>0) () (Tr.tab [] [] ⟨.sm rfl rfl,.sm rfl rfl,ab⟩ trivial rfl) ?_;rintro⟨⟩;repeat((first|refine SW.R ?_|refine SW.c ?_|refine yF (by omega) ?_);conv=>whnf)
 rfl
theorem U9(J:Keep):Go.Proofs.Fl.C J 177 [.nil 3,.int .i64 0,.int .i64 0,.int .i64 0,.fn 134] (.tup []):=by
 refine pS Tryz.func177 rfl rfl rfl rfl rfl ?_;repeat (first|(refine SW.RS ?_;conv=>whnf)|(refine SW.block ?_))
 refine dc (G:=Unit) (fun _=>aP [(0,.w (.one (.iv (.nil 3)))),(1,ac (di 0)),(2,ac (di 0)),(4,ac (.fn 134))] [] 0) (fun _=>0) () (Tr.tab [] [] ⟨.sm rfl rfl,.sm rfl rfl,.sm rfl rfl,.sm rfl rfl,ab⟩ trivial rfl) ?_;rintro⟨⟩;repeat((first|refine SW.R ?_|refine SW.c ?_|refine aV (U6 J) rfl rfl rfl ?_|refine ap (by omega) ?_|refine yT (by omega) ?_);conv=>whnf)
 rfl
theorem Vc(J:Keep):Go.Proofs.Fl.C J 133 [.nil 3,.fn 134] (.tup []):=by
 refine pS Tryz.func133 rfl rfl rfl rfl rfl ?_;have c2:Go.Proofs.Fl.C J 178 [.int .u64 0] (.int .i64 0):=Lh J;repeat((first|refine SW.RS ?_|refine SW.R ?_|refine aV c2 rfl rfl rfl ?_|refine aV (U9 J) rfl rfl rfl ?_|refine bc (eH (by omega)) ?_);conv=>whnf)
 rfl
theorem Vk(J:Keep):Go.Proofs.Fl.C J 74 [.sl []] (.sl []):=by
 refine tz Tryz.func74 rfl rfl rfl rfl 1 ?_;repeat((first|refine SW.R ?_|refine SW.c ?_|refine aV (Ve J) rfl rfl rfl ?_);conv=>whnf)
 refine dc (G:=Unit) (fun _=>aP [(5,.w (.one (.iv (.nil 3)))),(12,ac (di 0)),(13,ac (di 0))] [] 0) (fun _=>0) () (Tr.tab [] [] ⟨.sm rfl rfl,.sm rfl rfl,.sm rfl rfl,ab⟩ trivial rfl) ?_;rintro⟨⟩;repeat((first|refine SW.R ?_|refine SW.c ?_|refine aV (Vc J) rfl rfl rfl ?_|refine yF (by omega) ?_);conv=>whnf)
 rfl
theorem HU{os:List Tm}{i:Nat}{x:Tm}(h:os[i]?=some x):(os.flatMap bC)[i*4]?=some (.iv (.sl (x.1.map di))):=by
 have h2:=flat_get (f:=bC) (k:=4) (fun a _=>jU a) h;have h3:(((os.flatMap bC).drop (i*4)).take 4)[0]?=(bC x)[0]?:=by rw[h2]
 rw[cX,ay (by omega),ru] at h3;exact h3
theorem U0{e i P cnt:Nat}{os:List Tm}{x:Tm}{fz:Bool}(h:os[i]?=some x)(hP:P=os.length*4):g3 (some (.mem e (os.flatMap bC) fz [(0,P)] cnt)) 0 (i*4) 1=some [.iv (.sl (x.1.map di))]:=by
 have hm:=(List.getElem?_eq_some_iff.1 h).1;unfold g3;simp only[gO,fM (show i*4+1<=P by omega),af];have:=HU h;obtain⟨hl,he⟩:=List.getElem?_eq_some_iff.1 this;rw[gJ hl,List.take_succ_cons,wh,he]
theorem UO{e i P cnt:Nat}{os:List Tm}{x:Tm}(h:os[i]?=some x)(hP:P=os.length*4):il (some (.mem e (os.flatMap bC) false [(0,P)] cnt)) 0 (i*4) [.iv (.sl (x.1.map di))]=some (.mem e (os.flatMap bC) false [(0,P)] cnt):=by
 have hm:=(List.getElem?_eq_some_iff.1 h).1;have:=HU h;obtain⟨hl,he⟩:=List.getElem?_eq_some_iff.1 this;have e2:splice (os.flatMap bC) (i*4) [.iv (.sl (x.1.map di))]=os.flatMap bC:=by
  unfold splice;rw[<-he,tS,dX,List.singleton_append,<-gJ hl,jQ]
 unfold il;simp only[gO,tS,fM (show i*4+1<=P by omega),af,cZ,e2];rfl
theorem PY{J:Keep}(B:Base J){n:Nat}{f:List Tm}(hn4:n<=4)(hn1:1<=n)(hn:∀t∈f,t.1.length=n)(hs:∀t∈f,cu t.1<2^62)(hq:∀t∈f,al t.2<2^36)(hg:∀i,i<=f.length->∀o∈bu (f.take i),al o.2<2^36)(hl:f.length<2^16)(h0:f≠[]):Go.Proofs.Fl.C J 74 [dq f] (dq (dt f)):=by
 obtain⟨hpm,hsr⟩:=HD hn;obtain⟨zs,hz1,hz2,cG⟩:=Sz B hn4 hn1 hn hs hq hg hl h0;have hkeys:=xg (f:=f) f.length (ak _);rw[dM] at hkeys;obtain⟨K,hK⟩:∃K,(bu f).filter bI=K:=⟨_,rfl⟩;have hpm:(dt f).Perm K:=by rw[<-hK];exact hpm
 have hKg:K.length<=(bu f).length:=by rw[<-hK];exact AF _ _
 have hKm:∀t∈K,∃y∈f,t.1=y.1:=fun t ht=>hkeys t (List.mem_filter.1 (by rw[hK];exact ht:t∈(bu f).filter bI)).1;have hGl:=xv f;rw[hK] at cG hz2;have hcl:gM (.mem 83 (K.flatMap bC++zs) false [(0,(bu f).length*4)] 1):=by
  show(K.flatMap bC++zs).flatMap bj=[];rw[iP,iB,hz1];rfl
 refine tz Tryz.func74 rfl rfl rfl rfl 1 ?_;repeat ((refine SW.RS ?_;conv=>whnf))
 refine dN cG [0,1] 2 rfl ⟨.d rfl,.d rfl,.d rfl,.d rfl,ab⟩ trivial ⟨rfl,rfl,ab⟩ (bm (.d pI) (bm (.d hcl) df)) (.c rfl) ?_;conv=>whnf
 repeat((first|refine SW.R ?_|refine SW.c ?_|refine bc rfl ?_);conv=>whnf)
 refine dc (G:={ i:Nat // i<=K.length }) (fun i=>aP [(5,.w (.one (.slc 1 0 0 K.length (.fin 4)))),(11,.w (.one (.slc 1 0 0 K.length (.fin 4)))),(12,ac (di (K.length:Int))),(13,ac (di (i.1:Int)))] [(1,ik K 1)] 2) (fun i=>K.length-i.1) ⟨0,bk _⟩
  (Tr.tab [] [] ⟨.rn rfl rfl,.rn rfl rfl,.sm rfl rfl,.sm rfl rfl,ab⟩ ⟨.drop (pm:=K.length*4) rfl rfl (fun q hq=>by
    rw[fL] at hq;subst hq;exact⟨ak _,_,tO ..,bU 4 hKg⟩) (by rw[jt fun a _=>jU a];exact ak _) (by rw[jm (by rw[jt fun a _=>jU a];exact ak _)]) (iB K),ab⟩ rfl) ?_
 rintro⟨i,hi⟩;show SW (XS J) _ _ _ _ (aP [(5,.w (.one (.slc 1 0 0 K.length (.fin 4)))),(11,.w (.one (.slc 1 0 0 K.length (.fin 4)))),(12,ac (di (K.length:Int))),(13,ac (di (i:Int)))] [(1,.mem 83 (K.flatMap bC) false [(0,K.length*4)] 1)] 2) _;by_cases h:i<K.length
 . obtain⟨⟨p,q⟩,hx⟩:∃x,K[i]?=some x:=⟨_,a6 h⟩;obtain⟨y,hy,ey⟩:=hKm _ (bV hx);have hpl:p.length=n:=by have e:p=y.1:=ey;rw[e];exact hn y hy
   have c153:=SP J (p:=p) (by omega) (by omega);repeat((first|refine SW.R ?_|refine SW.c ?_|refine jI (j:=i) rfl h (aU _) ?_|refine aM (U0 hx rfl) ?_|refine aV c153 rfl rfl rfl ?_|refine yT (by omega) ?_|refine cn rfl ?_);conv=>whnf)
   refine bg (UO hx rfl) ?_;conv=>whnf
   repeat((first|refine SW.R ?_|refine ap (by omega) ?_);conv=>whnf)
   exact⟨⟨i+1,h⟩,Tr.tab [] [] ⟨.rn rfl rfl,.rn rfl rfl,.sm rfl rfl,.sm rfl rfl,ab⟩ ⟨.sm rfl rfl (iB K),ab⟩ rfl,by dsimp only;omega⟩
 . have e:i=K.length:=by omega
   subst e;have hKl:(dt f).length=K.length:=hpm.length_eq;by_cases hK0:K=[]
   . have hc0:dt f=[]:=List.length_eq_zero_iff.1 (by rw[hKl,hK0];rfl);rw[hc0];subst hK0;have cS:=Vd J (cs:=[]) (vs:=[(0,0)]) (c:=1) (cap:=.fin 4) rfl;repeat((first|refine SW.R ?_|refine SW.c ?_|refine yF (by omega) ?_);conv=>whnf)
     refine dN cS [1] 0 rfl ⟨.c rfl,.d rfl,ab⟩ ⟨.d rfl rfl,ab⟩ trivial (bm (.d rfl) df) (.d rfl) ?_;conv=>whnf
     repeat((first|refine SW.RS ?_|refine SW.ret ?_);conv=>whnf)
     exact GO (ts:=[]) (cs:=[]) (P:=0) rfl rfl (ak _) rfl
   . have cS:=OC J (n:=n) (ts:=K) (g:=dt f) (cap:=.fin 4) (cnt:=1) (fun t ht=>by obtain⟨y,hy,e⟩:=hKm t ht;rw[e];exact hn y hy) (by omega) (fun t ht=>by obtain⟨y,hy,e⟩:=hKm t ht;rw[e];exact hs y hy) hK0 (by omega) hpm hsr;repeat((first|refine SW.R ?_|refine SW.c ?_|refine yF (by omega) ?_);conv=>whnf)
     refine dN cS [1] 0 rfl ⟨.c rfl,.d rfl,ab⟩ ⟨.d rfl (iB K),ab⟩ trivial (bm (.d (iB (dt f))) df) (.d rfl) ?_;conv=>whnf
     repeat((first|refine SW.RS ?_|refine SW.ret ?_);conv=>whnf)
     rw[<-hKl];exact GO (ts:=dt f) (cs:=(dt f).flatMap bC) (P:=(dt f).length*4) rfl rfl (ak _) (aC (by rw[jt fun a _=>jU a];exact ak _))
theorem Jt{J:Keep}(B:Base J){n:Nat}{f:List Tm}(hn4:n<=4)(hn1:1<=n)(hn:∀t∈f,t.1.length=n)(hs:∀t∈f,cu t.1<2^62)(hq:∀t∈f,al t.2<2^36)(hg:∀i,i<=f.length->∀o∈bu (f.take i),al o.2<2^36)(hl:f.length<2^16):Go.Proofs.Fl.C J 74 [dq f] (dq (dt f)):=by
 by_cases h0:f=[]
 . subst h0;exact Vk J
 . exact PY B hn4 hn1 hn hs hq hg hl h0
end Go.Proofs.En
namespace Go.Proofs.Fl
open Go.RowKit Go.Proofs.Dig
attribute [local irreducible] IntKind.wrap a7 be bq bw
def jj{α:Type}(pr:α->Bool)(l:List α):Int:=match l.findIdx? pr with
 |some i=>(i:Int)
 |none => -1
theorem ya{α:Type}{pr:α->Bool}{l:List α}{t:Nat}{x:α}(h:∀y∈l.take t,pr y=false)(hx:l[t]?=some x)(h0:pr x=true):jj pr l=(t:Int):=by
 obtain⟨hlt,he⟩:=List.getElem?_eq_some_iff.1 hx;have:l.findIdx? pr=some t:=by
  rw[XY];refine⟨hlt,by rw[he];exact h0,fun j hj=>?_⟩;have:=h l[j] (by rw[NH];exact⟨j,by omega,rfl⟩);simpa using this
 unfold jj;rw[this]
theorem uG{α:Type}{pr:α->Bool}{l:List α}(h:∀y∈l,pr y=false):jj pr l = -1:=by
 have:l.findIdx? pr=none:=List.findIdx?_eq_none_iff.2 h;unfold jj;rw[this]
theorem yb{α:Type}{pr:α->Bool}{l:List α}:decide (jj pr l>=0)=l.any pr:=by
 by_cases h:∀y∈l,pr y=false
 . rw[uG h];have:l.any pr=false:=by rw[pA];intro x hx;rw[h x hx];simp
   rw[this];rfl
 . have:l.any pr=true:=by
    rw[List.any_eq_true];apply iM;intro hc;refine h fun y hy=>?_;cases e:pr y with
    |false=>rfl
    |true=>exact absurd ⟨y,hy,e⟩ hc
   rw[this];unfold jj;cases e:l.findIdx? pr with
   |none=>exact absurd (List.findIdx?_eq_none_iff.1 e) h
   |some i=>exact aZ (by show(0:Int)<=(i:Int);omega)
theorem uf{α:Type}{pr:α->Bool}{l:List α}{t:Nat}{x:α}(h:∀y∈l.take t,pr y=false)(hx:l[t]?=some x)(h0:pr x=false):∀y∈l.take (t+1),pr y=false:=fun y hy=>by
 rw[gg,hx] at hy;rcases List.mem_append.1 hy with hy|hy
 . exact h y hy
 . rw[List.mem_singleton.1 hy];exact h0
def s7(k:Int):Bool:=decide (k<0\/24<k)
end Go.Proofs.Fl
namespace Go.Proofs.En
open Go.RowKit Go.Proofs.Fl Go.Proofs.Dig
attribute [local irreducible] IntKind.wrap a7 be bq bw SW SWr CallOk To Tr eG
open Go.Proofs.Reg
def vJ(n:Int)(p:List Int):Bool:=!decide ((p.length:Int)=n)||p.any s7||decide (24<Fl.sumI p)
theorem CH:∀{p:List Int},p.any s7=false->cu p<=24*p.length
 | [],_=>by simp[cu]
 |x::p,h=>by
  simp only[E2,NB] at h;have ih:=CH h.2;have hx:=pC h.1;rw[cu,bB];omega
theorem kz{a b r:ES}{K:ES->Prop}(h:a=r)(k:K r):∃r,(true=true->a=r)/\(true=false->b=r)/\K r:=⟨r,fun _=>h,fun e=>Bool.noConfusion e,k⟩
theorem mG{a b r:ES}{K:ES->Prop}(h:b=r)(k:K r):∃r,(false=true->a=r)/\(false=false->b=r)/\K r:=⟨r,fun e=>Bool.noConfusion e,fun _=>h,k⟩
def oX(n:Int):EO:=.mem 3 [.iv (di n)] false [(0,1)] 1
def tj(n:Int)(t:Tm):Bool:=vJ n t.1
def kW(n:Int)(f:List Tm):Bool:=decide (1<=n/\n<=4)&&(decide (f.length<=500) && !f.any (tj n))
end Go.Proofs.En
namespace Go.Proofs.Fl
open Go.RowKit Go.Proofs.Dig
attribute [local irreducible] IntKind.wrap a7 be bq bw
open Go.Proofs.En (dq kW tj vJ Jt CH)
open Go.Proofs.Reg (Tm dt bu)
def zG(f:List Tm):Prop:=(∀t∈f,al t.2<2^36)/\∀i,i<=f.length->∀o∈bu (f.take i),al o.2<2^36
theorem A4{n:Int}{f:List Tm}(h:kW n f=true):1<=n/\n<=4/\f.length<=500/\∀t∈f,(t.1.length:Int)=n/\t.1.any s7=false/\sumI t.1<=24/\cu t.1<=96:=by
 unfold kW at h;simp only[az,dL,fy] at h;obtain⟨h1,h2,h3⟩:=h;refine⟨h1.1,h1.2,h2,fun t ht=>?_⟩;rw[pA] at h3;have h4:=h3 t ht;unfold tj vJ at h4;simp only[g6,fy,NI,dL,not_or,NJ,MV] at h4;obtain⟨⟨h5,h6⟩,h7⟩:=h4;have h8:=CH h6;exact⟨h5,h6,by omega,by omega⟩
theorem IN{J:Keep}(B:Base J){n:Int}{f:List Tm}(h:kW n f=true)(hq:zG f):C J 74 [dq f] (dq (dt f)):=by
 obtain⟨h1,h2,h3,h4⟩:=A4 h;exact Jt B (n:=n.toNat) (by omega) (by omega) (fun t ht=>by have:=(h4 t ht).1;omega) (fun t ht=>by have:=(h4 t ht).2.2.2;omega) hq.1 hq.2 (by omega)
def Eu(f:List Tm):Int:=match(dt f).getLast? with
 |some t=>sumI t.1
 |none => -1
theorem SX{J:Keep}(B:Base J){n:Int}{f:List Tm}(h:kW n f=true)(hq:zG f):C J 34 [dq f] (.int .i64 (Eu f)):=by
 obtain⟨h1,h2,h3,h4⟩:=A4 h;have c1:=IN B h hq;have hp:=(Reg.HD (n:=n.toNat) (f:=f) fun t ht=>by have:=(h4 t ht).1;omega).1;have hcl:(dt f).length<=f.length:=by
  rw[hp.length_eq];exact aY (AF _ _) (Reg.xv f)
 have hkeys:∀t∈dt f,∃y∈f,t.1=y.1:=fun t ht=>by
  have:=Reg.xg (f:=f) f.length (ak _);rw[dM] at this;exact this t (List.mem_filter.1 (hp.mem_iff.1 ht)).1
 refine aH Tryz.func34 rfl rfl rfl ?_;unfold Eu;obtain⟨g,hg⟩:∃g,dt f=g:=⟨_,rfl⟩;rw[hg] at c1 hkeys hcl;rw[hg];have lg:(((g.map fun t=>tq t.1 t.2).length:Nat):Int)=(g.length:Int):=by simp
 cases g with
 |nil=>
  repeat((first|refine W.R ?_|refine W.c ?_|refine⟨_,c1,?_⟩|refine⟨_,rfl,?_⟩|refine xr ?_);conv=>whnf)
  rfl
 |cons o os=>
  have hl1:os.length<(o::os).length:=by simp
  obtain⟨x,hx⟩:∃x,(o::os)[os.length]?=some x:=⟨_,a6 hl1⟩;have e:(o::os).getLast?=some x:=by
   rw[List.getLast?_eq_getElem?,bB,tQ,hx]
  rw[e];have gv:(((o::os).map fun t=>tq t.1 t.2):List IV)[os.length]?=some (tq x.1 x.2):=by rw[bQ,hx];rfl
  obtain⟨y,hy,ey⟩:=hkeys x (bV hx);have c2:=xS J (l:=x.1) (by rw[ey];have:=(h4 y hy).1;omega) (by rw[ey];have:=(h4 y hy).2.2.2;omega);have hos:os.length<2^40:=by simp only[bB] at hcl;omega
  have hw:IntKind.i64.wrap ((((os.map fun t=>tq t.1 t.2).length+1:Nat):Int)-1)=((os.length:Nat):Int):=by
   rw[bR,show((os.length+1:Nat):Int)-1=((os.length:Nat):Int) by omega];exact dv (by omega)
  repeat((first|refine W.R ?_|refine W.c ?_|refine⟨_,c1,?_⟩|refine⟨_,c2,?_⟩|refine⟨os.length,_,hw,gv,rfl,?_⟩|refine⟨_,kr _,?_⟩|refine xT (by omega) ?_|refine⟨_,rfl,?_⟩|refine xr ?_);conv=>whnf)
  rfl
end Go.Proofs.Fl
namespace Go.Proofs.En
open Go.RowKit Go.Proofs.Fl Go.Proofs.Dig
attribute [local irreducible] IntKind.wrap a7 be bq bw SW SWr CallOk To Tr eG
open Go.Proofs.Reg
noncomputable def fI(c:Rat)(xs:List Rat)(p:List Int):Nat->Rat
 |0=>c
 |i+1=>fI c xs p i*(xs.getD i 0)^(p.getD i 0).toNat
noncomputable def evS(f:List Tm)(xs:List Rat):Nat->Rat
 |0=>0
 |t+1=>evS f xs t+(match f[t]? with
  |some x=>fI x.2 xs x.1 x.1.length
  |none=>0)
def zF(f:List Tm)(xs:List Rat):Prop :=
 (∀x∈xs,al x<2^28)/\(∀t∈f,∀i,i<=t.1.length->al (fI t.2 xs t.1 i)<2^36/\al ((xs.getD i 0)^(t.1.getD i 0).toNat)<2^36)/\∀t,t<=f.length->al (evS f xs t)<2^36
theorem oh:(qr 0).cells.map EV.iv=[.iv (.sl []),.iv (.bool false),.iv (.sl [])]:=by rw[um];rfl
noncomputable def bO(q:Rat):EO:=.mem 54 ((qr q).cells.map .iv) false [(0,3)] 1
theorem SU{J:Keep}(B:Base J){f:List Tm}{xs:List Rat}(hx:∀t∈f,t.1.length=xs.length/\∀k∈t.1,0<=k/\k<=24)(hf:f.length<2^16)(hxl:xs.length<2^16)(hv:zF f xs):Go.Proofs.Fl.C J 51 [dq f,.sl (xs.map qr)] (qr (evS f xs f.length)):=by
 obtain⟨v1,v2,v3⟩:=hv;refine pS Tryz.func51 rfl rfl rfl rfl rfl ?_;have lf:(((f.map fun t=>tq t.1 t.2).length:Nat):Int)=(f.length:Int):=by simp
 repeat((first|refine SW.R ?_|refine SW.c ?_|refine bc lf ?_);conv=>whnf)
 refine dc (G:={ t:Nat // t<=f.length }) (fun t=>aP [(1,ac (.sl (xs.map qr))),(4,.w (.one (.ptr 0 0 0))),(5,.w (.one (.ptr 1 0 0))),(11,ac (dq f)),(12,ac (di (f.length:Int))),(13,ac (di (t.1:Int)))] [(0,bO 0),(1,bO (evS f xs t.1))] 2) (fun t=>f.length-t.1) ⟨0,bk _⟩
  (Tr.tab [] [] ⟨.sm rfl rfl,.rn rfl rfl,.rn rfl rfl,.sm rfl rfl,.sm rfl rfl,.sm rfl rfl,ab⟩ ⟨.sm rfl (by unfold bO;rw[oh];rfl) rfl,.sm rfl (by unfold bO;rw[evS,oh];rfl) rfl,ab⟩ rfl) ?_
 rintro⟨t,ht⟩;show SW (XS J) _ _ _ _ (aP [(1,ac (.sl (xs.map qr))),(4,.w (.one (.ptr 0 0 0))),(5,.w (.one (.ptr 1 0 0))),(11,ac (dq f)),(12,ac (di (f.length:Int))),(13,ac (di (t:Int)))] [(0,bO 0),(1,bO (evS f xs t))] 2) _;by_cases h:t<f.length
 . obtain⟨⟨p,q⟩,hpq⟩:∃x,f[t]?=some x:=⟨_,a6 h⟩;have hm:=bV hpq;have gv:(f.map fun t=>tq t.1 t.2)[t]?=some (tq p q):=by rw[bQ,hpq];rfl
   have lp:(((p.map di).length:Nat):Int)=(p.length:Int):=by simp
   obtain⟨hpl,hpk⟩:=hx _ hm;have v2':=v2 _ hm;repeat((first|refine SW.R ?_|refine SW.c ?_|refine bz rfl gv rfl ?_|refine bc lp ?_|refine yT (by omega) ?_|refine cn rfl ?_|refine bg rfl ?_|refine aM rfl ?_);conv=>whnf)
   refine dc (G:={ i:Nat // i<=p.length }) (fun i=>aP [(1,ac (.sl (xs.map qr))),(4,.w (.one (.ptr 0 0 0))),(5,.w (.one (.ptr 1 0 0))),(8,.w (.one (.ptr 2 0 0))),(11,ac (dq f)),(12,ac (di (f.length:Int))),(13,ac (di (t:Int))),(20,ac (.sl (p.map di))),(21,ac (di (p.length:Int))),(22,ac (di (i.1:Int)))] [(0,bO 0),(1,bO (evS f xs t)),(2,bO (fI q xs p i.1))] 3) (fun i=>p.length-i.1) ⟨0,bk _⟩
    (Tr.tab [(2,3)] [] ⟨.sm rfl rfl,.rn rfl rfl,.rn rfl rfl,.rn rfl rfl,.sm rfl rfl,.sm rfl rfl,.sm rfl rfl,.sm rfl rfl,.sm rfl rfl,.sm rfl rfl,ab⟩ ⟨.sm rfl rfl rfl,.sm rfl rfl rfl,.sm rfl (by rw[fI];rfl) rfl,ab⟩ rfl) ?_
   rintro⟨i,hi⟩;show SW (XS J) _ _ _ _ (aP [(1,ac (.sl (xs.map qr))),(4,.w (.one (.ptr 0 0 0))),(5,.w (.one (.ptr 1 0 0))),(8,.w (.one (.ptr 2 0 0))),(11,ac (dq f)),(12,ac (di (f.length:Int))),(13,ac (di (t:Int))),(20,ac (.sl (p.map di))),(21,ac (di (p.length:Int))),(22,ac (di (i:Int)))] [(0,bO 0),(1,bO (evS f xs t)),(2,bO (fI q xs p i))] 3) _;by_cases h2:i<p.length
   . have hix:i<xs.length:=by have e:p.length=xs.length:=hpl;omega
     have gk:=tf h2;have gx:(xs.map qr)[i]?=some (qr (xs.getD i 0)):=by
      rw[bQ,br,a6 hix];rfl
     have hk:=hpk (p.getD i 0) (by rw[br,a6 h2];exact eM h2);have hxm:=v1 (xs.getD i 0) (by rw[br,a6 hix];exact eM hix);have ei:fI q xs p (i+1)=fI q xs p i*(xs.getD i 0)^(p.getD i 0).toNat:=rfl;obtain⟨k,ek⟩:∃k,p.getD i 0=k:=⟨_,rfl⟩;obtain⟨x,ex⟩:∃x,xs.getD i 0=x:=⟨_,rfl⟩;obtain⟨w1,w2⟩:=v2' i hi;have w1:al (fI q xs p i)<2^36:=w1;have w2:al ((xs.getD i 0)^(p.getD i 0).toNat)<2^36:=w2;rw[ek,ex] at ei w2;rw[ek] at gk hk;rw[ex] at gx hxm;have c1:=yQ (J:=J) hxm k;have einto:kh k 1000=k.toNat:=by unfold kh;omega
     rw[einto] at c1;have c2:=ka B (a:=fI q xs p i) (b:=x^k.toNat) (by omega) (by omega);repeat((first|refine SW.R ?_|refine SW.c ?_|refine bz rfl gk rfl ?_|refine bz rfl gx rfl ?_|refine aV c1 rfl rfl rfl ?_|refine aV c2 rfl rfl rfl ?_|refine ap (by omega) ?_|refine yT (by omega) ?_|refine bg rfl ?_|refine aM rfl ?_);conv=>whnf)
     exact⟨⟨i+1,h2⟩,Tr.tab [] [] ⟨.sm rfl rfl,.rn rfl rfl,.rn rfl rfl,.rn rfl rfl,.sm rfl rfl,.sm rfl rfl,.sm rfl rfl,.sm rfl rfl,.sm rfl rfl,.sm rfl rfl,ab⟩ ⟨.sm rfl rfl rfl,.sm rfl rfl rfl,.sm rfl (by dsimp only;rw[ei];rfl) rfl,ab⟩ rfl,by dsimp only;omega⟩
   . have ei:i=p.length:=by omega
     subst ei;have es:evS f xs (t+1)=evS f xs t+fI q xs p p.length:=by
      show evS f xs t+(match f[t]? with
       |some x=>fI x.2 xs x.1 x.1.length
       |none=>0)=_
      rw[hpq]
     have w1:al (fI q xs p p.length)<2^36:=(v2' p.length hi).1;have w3:=v3 t ht;have c1:=mi B (a:=evS f xs t) (b:=fI q xs p p.length) (by omega) (by omega);repeat((first|refine SW.R ?_|refine SW.c ?_|refine aV c1 rfl rfl rfl ?_|refine ap (by omega) ?_|refine yF (by omega) ?_|refine bg rfl ?_|refine aM rfl ?_);conv=>whnf)
     exact⟨⟨t+1,h⟩,Tr.tab [] [] ⟨.sm rfl rfl,.rn rfl rfl,.rn rfl rfl,.sm rfl rfl,.sm rfl rfl,.sm rfl rfl,ab⟩ ⟨.sm rfl rfl rfl,.sm rfl (by dsimp only;rw[es];rfl) rfl,ab⟩ rfl,by dsimp only;omega⟩
 . have e:t=f.length:=by omega
   subst e;repeat((first|refine SW.R ?_|refine SW.c ?_|refine yF (by omega) ?_|refine bg rfl ?_|refine aM rfl ?_);conv=>whnf)
   rfl
theorem GX{n:Int}{f:List Tm}(h:kW n f=true):∀t∈f,∀k∈t.1,0<=k/\k<=24:=fun t ht k hk=>by
 have h2:=(A4 h).2.2.2 t ht;have h3:=h2.2.1;rw[pA] at h3;have h4:=h3 k hk;unfold s7 at h4;simp only[dL] at h4;omega
end Go.Proofs.En
namespace Go.Proofs.Reg
def Hb(k:Nat)(q:Rat):Prop:=q.num.natAbs<=2^k/\q.den<=2^k
theorem Hb.mono{i j:Nat}{q:Rat}(h:Hb i q)(hij:i<=j):Hb j q :=
 ⟨aY h.1 (dz (by omega) hij),aY h.2 (dz (by omega) hij)⟩
theorem Hb.zero(k:Nat):Hb k 0:=⟨bk _,wE⟩
theorem Hb.mk{k:Nat}{z:Int}{d:Nat}(hd:d≠0)(h1:z.natAbs<=2^k)(h2:d<=2^k):Hb k (mkRat z d):=by
 obtain⟨m,hm,e1,e2⟩:=Rat.mkRat_num_den (n:=z) (d:=d) (n':=(mkRat z d).num) (d':=(mkRat z d).den) (z':=(mkRat z d).den_nz) (c:=(mkRat z d).reduced) hd rfl;have hm:1<=m:=Fk hm;refine⟨aY ?_ h1,aY ?_ h2⟩
 . conv=>rhs;rw[e1,fB,fc]
   exact AI _ hm
 . conv=>rhs;rw[e2]
   exact AI _ hm
theorem Hb.mul{i j:Nat}{a b:Rat}(ha:Hb i a)(hb:Hb j b):Hb (i+j) (a*b):=by
 rw[wv];refine Hb.mk (rF a.den_nz b.den_nz) ?_ ?_
 . rw[fB,jq];exact iO ha.1 hb.1
 . rw[jq];exact iO ha.2 hb.2
theorem Hb.add{i j:Nat}{a b:Rat}(ha:Hb i a)(hb:Hb j b):Hb (i+j+1) (a+b):=by
 rw[Rat.add_def'];have h1:(a.num*(b.den:Int)).natAbs<=2^(i+j):=by
  rw[fB,jq];exact iO ha.1 hb.2
 have h2:(b.num*(a.den:Int)).natAbs<=2^(i+j):=by
  rw[fB,jq,dD (2^i)];exact iO hb.1 ha.2
 refine Hb.mk (rF a.den_nz b.den_nz) ?_ ?_
 . have:=Np (a.num*(b.den:Int)) (b.num*(a.den:Int));rw[cr];omega
 . have:a.den*b.den<=2^(i+j):=by rw[jq];exact iO ha.2 hb.2
   rw[cr];omega
theorem Hb.pow{i:Nat}{a:Rat}(ha:Hb i a):∀k:Nat,Hb (i*k) (a^k)
 |0=>by rw[Fz];exact⟨by show 1<=2^(i*0);exact wE,wE⟩
 |k+1=>by rw[wC,Nat.mul_succ];exact(Hb.pow ha k).mul ha
theorem It{i j:Nat}{t:Tm}(ht:Hb j t.2):∀{os:List Tm},(∀o∈os,Hb i o.2)->∀o∈cz t os,Hb (i+(j+1)) o.2
 | [],_,o,ho=>by
  simp only[cz,fL] at ho;rw[ho];exact ht.mono (by omega)
 |x::os,h,o,ho=>by
  unfold cz at ho;split at ho
  . rcases List.mem_cons.1 ho with rfl|ho
    . exact(h x tO).add ht
    . exact(h o (eB _ ho)).mono (by omega)
  . rcases List.mem_cons.1 ho with rfl|ho
    . exact(h _ tO).mono (by omega)
    . exact It ht (fun y hy=>h y (eB _ hy)) o ho
theorem JT{j:Nat}{F:Tm->List Tm->List Tm}(hF:∀{i:Nat} {t:Tm},Hb j t.2->∀{os:List Tm},(∀o∈os,Hb i o.2)->∀o∈F t os,Hb (i+(j+1)) o.2):∀{f:List Tm} {i:Nat} {out:List Tm},(∀t∈f,Hb j t.2)->(∀o∈out,Hb i o.2)->∀o∈f.foldl (fun out t=>F t out) out,Hb (i+f.length*(j+1)) o.2
 | [],i,out,_,h,o,ho=>(h o ho).mono (by simp)
 |t::f,i,out,h1,h2,o,ho=>by
  rw[kL] at ho;have:=JT hF (fun x hx=>h1 x (eB _ hx)) (hF (h1 t tO) h2) o ho;refine this.mono ?_;rw[bB,bP];omega
theorem TR{j:Nat}{f:List Tm}(h:∀t∈f,Hb j t.2):∀o∈bu f,Hb (f.length*(j+1)) o.2:=fun o ho=>by
 have:=JT (F:=cz) (fun ht _ h=>It ht h) (i:=0) (out:=[]) h (fun _ h=>by cases h) o ho;exact this.mono (by omega)
end Go.Proofs.Reg
namespace Go.Proofs.Fl
open Go.RowKit Go.Proofs.Dig
attribute [local irreducible] IntKind.wrap a7 be bq bw
def oI(n d:Int):Rat:=(n:Rat)/((if d=0 then 1 else d:Int):Rat)
def zB(n d:Int)(p:Nat):Rat:=oI n d^(p%4+1)
theorem Mx{a:Int}(h:0<=a/\a<=255):IntKind.wrap .u8 a=a:=by
 have e:IntKind.wrap .u8 a=(let m:=a%(256:Int);if false&&decide (m>=(128:Int)) then m-(256:Int) else m):=by with_unfolding_all rfl
 rw[e];simp;omega
theorem Sn{n d:Int}(h1 : -9223372036854775808<=n)(h2:n<=9223372036854775807)(h3 : -9223372036854775808<=d)(h4:d<=9223372036854775807):rl (oI n d)<=13:=by
 unfold oI;have e1:=KK n;have e2:=KK (if d=0 then 1 else d:Int);have l1:lh n.natAbs<=5:=lj (jP (show n.natAbs<=9223372036854775808 by omega) (by decide));have l2:lh (if d=0 then 1 else d:Int).natAbs<=5:=lj (jP (show(if d=0 then 1 else d:Int).natAbs<=9223372036854775808 by split<;>omega) (by decide));have:=UZ (n:Rat) ((if d=0 then 1 else d:Int):Rat);omega
theorem Jo{q:Rat}{N:Nat}(h:rl q<=N):∀k,rl (q^(k+1))<=(k+1)*N
 |0=>by rw[aU,wC,Fz,FA];omega
 |k+1=>by
  rw[wC];have h1:=KJ (q^(k+1)) q;have h2:=Jo h k;rw[n5];omega
theorem Lw{x y:IV}(h:x=y):some (Bx.var x)=some (Bx.var y):=by rw[h]
theorem B0(q:Rat):q^(0+1)=q:=by rw[wC,Fz,FA]
abbrev qQ(n d:Int)(p:Nat):IV:=.agg [.int .i64 n,.int .i64 d,.int .u8 p]
theorem VH(J:Keep){n d:Int}{p:Nat}(h1 : -9223372036854775808<=n)(h2:n<=9223372036854775807)(h3 : -9223372036854775808<=d)(h4:d<=9223372036854775807):C J 23 [qQ n d p] (.tup [qr (zB n d p),rr (zB n d p)]):=by
 refine aH Tryz.func23 rfl rfl rfl ?_;have hb:=Sn h1 h2 h3 h4;unfold zB;obtain⟨D,hD⟩:∃D:Int,(if d=0 then 1 else d:Int)=D:=⟨_,rfl⟩;have hD0:D≠0:=by rw[<-hD];split<;>omega
 have hD1 : -9223372036854775808<=D/\D<=9223372036854775807:=by rw[<-hD];split<;>omega
 have c57:=K6 (base J) (n:=n) (d:=D) h1 h2 hD1.1 hD1.2 hD0;have c29:=VI J (n:=n) (d:=D) h1 h2 hD1.1 hD1.2 hD0;have hQ:oI n d=(n:Rat)/(D:Rat):=by unfold oI;rw[hD]
 rw[<-hQ] at c57 c29;obtain⟨Q,hQe⟩:∃Q,oI n d=Q:=⟨_,rfl⟩;rw[hQe] at c57 c29 hb ⊢;obtain⟨m,hm⟩:∃m,p%4=m:=⟨_,rfl⟩;have hm4:m<4:=by omega
 have hmod:((p:Nat):Int).tmod 4=((m:Nat):Int):=by rw[<-hm];exact mn p 4
 rw[hm];clear hQ hQe;iterate 1 ((refine W.RS ?_;conv=>whnf))
 refine W.join (G:=Unit) (fun _=>aF [(1,.ptr 0 0),(2,.ptr 1 0),(3,.ptr 2 0)] [(0,.var (qQ n D p)),(1,.var (.agg [.sl [],.bool false,.sl []])),(2,.var (.agg [.int .i64 0,.sl [],.int .i64 0,.sl []]))] 10) ?_ (fun _=>?_)
 . by_cases h0:d=0
   . rw[ay h0] at hD;subst hD;iterate 5 (first|((first|refine W.RS ?_|refine W.R ?_|refine xT (by omega) ?_|refine xr ?_);conv=>whnf)|(refine W.condT rfl ?_))
     exact⟨(),Wk.tab [] ⟨aa,aa,aa,ab⟩ ⟨rfl,rfl,rfl,ab⟩ rfl⟩
   . rw[am h0] at hD;subst hD;iterate 5 (first|((first|refine W.RS ?_|refine W.skip ?_|refine xF (by omega) ?_|refine xr ?_);conv=>whnf)|(refine W.condF rfl ?_))
     exact⟨(),Wk.tab [] ⟨aa,aa,aa,ab⟩ ⟨rfl,rfl,rfl,ab⟩ rfl⟩
 . show W J _ _ (aF [(1,.ptr 0 0),(2,.ptr 1 0),(3,.ptr 2 0)] [(0,.var (qQ n D p)),(1,.var (.agg [.sl [],.bool false,.sl []])),(2,.var (.agg [.int .i64 0,.sl [],.int .i64 0,.sl []]))] 10) _;repeat((first|refine W.R ?_|refine W.c ?_|refine⟨_,c57,?_⟩|refine⟨_,c29,?_⟩|refine xr ?_);conv=>whnf)
   refine W.loop (G:={ k:Nat // k<=m }) (fun k=>aF [(1,.ptr 0 0),(2,.ptr 1 0),(3,.ptr 2 0),(4,.ptr 3 0),(6,.ptr 4 0),(7,.ptr 5 0),(8,.ptr 6 0),(9,.iv (.int .u8 (k.1:Nat)))]
    [(0,.var (qQ n D p)),(1,.var (.agg [.sl [],.bool false,.sl []])),(2,.var (.agg [.int .i64 0,.sl [],.int .i64 0,.sl []])),(3,.var (qr Q)),(4,.var (rr Q)),(5,.var (qr (Q^(k.1+1)))),(6,.var (rr (Q^(k.1+1))))] 40) (fun k=>m-k.1)
    ⟨0,bk _⟩ (Wk.tab [(3,18),(4,26),(5,30),(6,31)] ⟨aa,aa,aa,aa,aa,aa,aa,aa,ab⟩ ⟨rfl,rfl,rfl,rfl,rfl,Lw (by rw[B0]),Lw (by rw[B0]),ab⟩ rfl) ?_
   rintro⟨k,hk⟩;show W J _ _ (aF [(1,.ptr 0 0),(2,.ptr 1 0),(3,.ptr 2 0),(4,.ptr 3 0),(6,.ptr 4 0),(7,.ptr 5 0),(8,.ptr 6 0),(9,.iv (.int .u8 (k:Nat)))]
    [(0,.var (qQ n D p)),(1,.var (.agg [.sl [],.bool false,.sl []])),(2,.var (.agg [.int .i64 0,.sl [],.int .i64 0,.sl []])),(3,.var (qr Q)),(4,.var (rr Q)),(5,.var (qr (Q^(k+1)))),(6,.var (rr (Q^(k+1))))] 40) _
   have lp:=Jo hb k;have lp2:=bU 13 (show k+1<=4 by omega);have lq:=Dn Q;have lq2:=Dn (Q^(k+1));have c49:=ka (base J) (a:=Q^(k+1)) (b:=Q) (by omega) (by omega);have c65:=VE J (DI (Q^(k+1))) (DI Q) (by omega) (by omega);rw[<-wC] at c49 c65;have hw:IntKind.wrap .u8 (((k:Nat):Int)+1)=((k+1:Nat):Int):=Mx (by omega);by_cases hk2:k=m
   . subst hk2;repeat((first|refine W.R ?_|refine W.c ?_|refine⟨by omega,_,hmod,?_⟩|refine xF (by omega) ?_|refine xr ?_);conv=>whnf)
     rfl
   . repeat((first|refine W.R ?_|refine W.c ?_|refine⟨by omega,_,hmod,?_⟩|refine⟨_,c49,?_⟩|refine⟨_,c65,?_⟩|refine⟨_,hw,?_⟩|refine xT (by omega) ?_|refine xr ?_);conv=>whnf)
     exact⟨⟨k+1,by omega⟩,Wk.tab [] ⟨aa,aa,aa,aa,aa,aa,aa,aa,ab⟩ ⟨rfl,rfl,rfl,rfl,rfl,rfl,rfl,ab⟩ rfl,by dsimp only;omega⟩
section
variable {J:Keep}{a b c:Rat}
end
structure Num3 where
 n:Int
 d:Int
 p:Nat
def Num3.iv(x:Num3):IV:=qQ x.n x.d x.p
def Num3.q(x:Num3):Rat:=zB x.n x.d x.p
def Num3.ok(x:Num3):Prop:=(-9223372036854775808<=x.n/\x.n<=9223372036854775807)/\(-9223372036854775808<=x.d/\x.d<=9223372036854775807)/\x.p<256
theorem D7(J:Keep){x:Num3}(h:x.ok):C J 23 [x.iv] (.tup [qr x.q,rr x.q]):=VH J h.1.1 h.1.2 h.2.1.1 h.2.1.2
structure Gap6 where
 lo:Num3
 hi:Num3
def Gap6.iv(g:Gap6):IV:=.agg [.int .i64 g.lo.n,.int .i64 g.lo.d,.int .u8 g.lo.p,.int .i64 g.hi.n,.int .i64 g.hi.d,.int .u8 g.hi.p]
def Gap6.ok(g:Gap6):Prop:=g.lo.ok/\g.hi.ok
theorem VK(J:Keep){g:Gap6}(h:g.ok):C J 7 [g.iv] (.tup [sd g.lo.q g.hi.q,sx (some g.lo.q) (some g.hi.q)]):=by
 refine aH Tryz.func7 rfl rfl rfl ?_;have c1:=D7 J h.1;have c2:=D7 J h.2;unfold Num3.iv at c1 c2;unfold Gap6.iv;obtain⟨a,ha⟩:∃a,g.lo.q=a:=⟨_,rfl⟩;obtain⟨b,hb⟩:∃b,g.hi.q=b:=⟨_,rfl⟩;rw[ha] at c1 ⊢;rw[hb] at c2 ⊢;repeat((first|refine W.RS ?_|refine W.ret ?_|refine⟨_,c1,?_⟩|refine⟨_,c2,?_⟩|refine xr ?_);conv=>whnf)
 rfl
theorem vT(v:Bool):(v==v)=true:=by cases v<;>rfl
def WU(p:Prop):Prop:=p
attribute [irreducible] WU
noncomputable def XG(l:List Num3)(k:Nat):AS :=
 match k with
 |0=>aF [(0,.iv (.sl (l.map Num3.iv))),(4,.nilS),(5,.nilS),(6,.iv (.int .i64 0))] [] 10
 |k+1=>aF [(0,.iv (.sl (l.map Num3.iv))),(4,.ref 0 0 (k+1) true),(5,.ref 1 0 (k+1) true),(6,.iv (.int .i64 ((k+1:Nat):Int)))]
  [(0,.arr 54 3 ((l.take (k+1)).map fun x=>qr x.q) false),(1,.arr 61 4 ((l.take (k+1)).map fun x=>rr x.q) false)] 10
theorem jW{z v:IV}{n:Nat}(h:v.cells.length=n/\v.isTup=false):∀y∈List.take 1 (List.drop 0 ((List.replicate 1 z).set 0 v)),y.cells.length=n/\y.isTup=false:=by
 intro y hy;simp at hy;subst hy;exact h
theorem gZ{e sz:Nat}{a b:List IV}{f:Bool}(h:a=b):some (Bx.arr e sz a f)=some (Bx.arr e sz b f):=by rw[h]
theorem KD{l:List Num3}{k:Nat}(h:k<l.length):l.take (k+1)=l.take k ++ [l[k]]:=by
 rw[gg,a6 h];rfl
theorem K3(J:Keep){l:List Num3}(hl:l.length<2^30)(hok:∀x∈l,x.ok):C J 13 [.sl (l.map Num3.iv)] (.tup [.sl (l.map fun x=>qr x.q),.sl (l.map fun x=>rr x.q)]):=by
 refine aH Tryz.func13 rfl rfl rfl ?_;have la:(l.map Num3.iv).length=l.length:=by simp
 repeat((first|refine W.R ?_|refine W.c ?_);conv=>whnf)
 refine W.loop (G:={ k:Nat // k<=l.length }) (fun k=>XG l k.1) (fun k=>l.length-k.1) ⟨0,bk _⟩ (Wk.tab [] ⟨aa,aa,aa,aa,ab⟩ trivial rfl) ?_;rintro⟨k,hk⟩;by_cases hke:k<l.length
 . have c1:=D7 J (hok l[k] (eM hke));have g:(l.map Num3.iv)[k]?=some (Num3.iv l[k]):=by simp[hke]
   have tk:=KD hke;obtain⟨x,hx⟩:∃x,l[k]=x:=⟨_,rfl⟩;rw[hx] at c1 g tk;have gx:(Num3.iv x).cells.length=3:=rfl;cases k with
   |zero=>
    show W J _ _ (aF [(0,.iv (.sl (l.map Num3.iv))),(4,.nilS),(5,.nilS),(6,.iv (.int .i64 0))] [] 10) _;repeat((first|refine W.R ?_|refine W.c ?_|refine⟨_,c1,?_⟩|refine⟨0,_,rfl,g,rfl,?_⟩|refine⟨jW ⟨rfl,rfl⟩,aG rfl,aG rfl,?_⟩|refine ap (by omega) ?_|refine xT (by omega) ?_|refine⟨_,rfl,?_⟩|refine xr ?_);conv=>whnf)
    exact⟨⟨0+1,by omega⟩,Wk.tab [(0,29),(1,33)] ⟨aa,aa,aa,aa,ab⟩ ⟨gZ (by rw[tk];rfl),gZ (by rw[tk];rfl),ab⟩ rfl,by dsimp only;omega⟩
   |succ k=>
    show W J _ _ (aF [(0,.iv (.sl (l.map Num3.iv))),(4,.ref 0 0 (k+1) true),(5,.ref 1 0 (k+1) true),(6,.iv (.int .i64 ((k+1:Nat):Int)))]
     [(0,.arr 54 3 ((l.take (k+1)).map fun x=>qr x.q) false),(1,.arr 61 4 ((l.take (k+1)).map fun x=>rr x.q) false)] 10) _
    have l1:k+1=((l.take (k+1)).map fun x=>qr x.q).length:=by simp;omega
    have l2:k+1=((l.take (k+1)).map fun x=>rr x.q).length:=by simp;omega
    repeat (first|((first|refine W.R ?_|refine W.c ?_|refine⟨_,c1,?_⟩|refine⟨k+1,_,rfl,g,rfl,?_⟩);conv=>whnf)|(refine⟨gW rfl,rfl,rfl,l1,jW ⟨rfl,rfl⟩,by show(k+1+1)*56<=(140737488355328:Nat);omega,by show k+1+1<=maxLen;unfold maxLen;omega,?_⟩;conv=>whnf)|(refine⟨gW rfl,rfl,rfl,l2,jW ⟨rfl,rfl⟩,by show(k+1+1)*64<=(140737488355328:Nat);omega,by show k+1+1<=maxLen;unfold maxLen;omega,?_⟩;conv=>whnf)|((first|refine ap (by omega) ?_|refine xT (by omega) ?_|refine⟨_,rfl,?_⟩|refine xr ?_);conv=>whnf))
    exact⟨⟨k+1+1,by omega⟩,Wk.tab [(0,29),(1,33)] ⟨aa,aa,aa,aa,ab⟩ ⟨gZ (by rw[tk,dE];rfl),gZ (by rw[tk,dE];rfl),ab⟩ rfl,by dsimp only;omega⟩
 . have e:k=l.length:=by omega
   cases l with
   |nil=>
    subst e;show W J _ _ (aF [(0,.iv (.sl [])),(4,.nilS),(5,.nilS),(6,.iv (.int .i64 0))] [] 10) _;repeat((first|refine W.R ?_|refine W.c ?_|refine⟨_,rfl,?_⟩|refine xr ?_);conv=>whnf)
    rfl
   |cons y l=>
    subst e;show W J _ _ (aF [(0,.iv (.sl ((y::l).map Num3.iv))),(4,.ref 0 0 (l.length+1) true),(5,.ref 1 0 (l.length+1) true),(6,.iv (.int .i64 ((l.length+1:Nat):Int)))]
     [(0,.arr 54 3 (((y::l).take (l.length+1)).map fun x=>qr x.q) false),(1,.arr 61 4 (((y::l).take (l.length+1)).map fun x=>rr x.q) false)] 10) _
    have la2:(l.map Num3.iv).length=l.length:=by simp
    have la':((y::l).map Num3.iv).length=l.length+1:=by simp
    have e1:(y::l).take (l.length+1)=y::l:=aC (by simp);rw[e1];repeat((first|refine W.R ?_|refine W.c ?_|refine⟨_,kr _,?_⟩|refine xF (by omega) ?_|refine xr ?_);conv=>whnf)
    show IV.tup [.sl (List.take (l.length+1) (List.drop 0 ((y::l).map fun x=>qr x.q))),.sl (List.take (l.length+1) (List.drop 0 ((y::l).map fun x=>rr x.q)))]=_;rw[bL,bL,aC (by simp),aC (by simp)]
def Num3.tame(x:Num3):Bool:=!(decide (x.p%4≠0)||decide (x.n>9999)||decide (x.n < -9999)||decide (x.d>9999)||decide (x.d < -9999))
theorem Dm(J:Keep){l:List Num3}(hl:l.length<2^30):C J 8 [.sl (l.map Num3.iv)] (.bool (l.all Num3.tame)):=by
 refine aH Tryz.func8 rfl rfl rfl ?_;have la:(l.map Num3.iv).length=l.length:=by simp
 repeat((first|refine W.R ?_|refine W.c ?_);conv=>whnf)
 refine W.loop (G:={ k:Nat // k<=l.length/\(l.take k).all Num3.tame=true }) (fun k=>aF [(0,.iv (.sl (l.map Num3.iv))),(3,.iv (.int .i64 (k.1:Int)))] [] 10) (fun k=>l.length-k.1) ⟨0,bk _,by simp⟩ (Wk.tab [] ⟨aa,aa,ab⟩ trivial rfl) ?_;rintro⟨k,hk,hall⟩;show W J _ _ (aF [(0,.iv (.sl (l.map Num3.iv))),(3,.iv (.int .i64 (k:Int)))] [] 10) _;by_cases hke:k<l.length
 . have g:(l.map Num3.iv)[k]?=some (Num3.iv l[k]):=by simp[hke]
   have tk:=KD hke;have hbad:l[k].tame=false->l.all Num3.tame=false:=fun h=>by
    rw[List.all_eq_false];exact⟨l[k],eM hke,by simp[h]⟩
   obtain⟨⟨n,d,p⟩,hx⟩:∃x,l[k]=x:=⟨_,rfl⟩;rw[hx] at g tk hbad;have g:(l.map Num3.iv)[k]?=some (qQ n d p):=g;have hmod:((p:Nat):Int).tmod 4=((p%4:Nat):Int):=mn p 4;have hw:IntKind.wrap .u8 ((p%4:Nat):Int)=((p%4:Nat):Int):=Mx (by omega);obtain⟨m,hm⟩:∃m,p%4=m:=⟨_,rfl⟩;have et:Num3.tame ⟨n,d,p⟩ = !(decide (m≠0)||decide (n>9999)||decide (n < -9999)||decide (d>9999)||decide (d < -9999)):=by unfold Num3.tame;rw[<-hm]
   rw[hm] at hmod hw;have key:m≠0\/(m=0/\n>9999)\/(m=0/\n < -9999)\/(m=0/\n<=9999/\ -9999<=n/\d>9999)\/(m=0/\n<=9999/\ -9999<=n/\d < -9999)\/(m=0/\n<=9999/\ -9999<=n/\d<=9999/\ -9999<=d):=by omega
   rcases key with h1|⟨h1,h2⟩|⟨h1,h2⟩|⟨h1,h2,h3,h4⟩|⟨h1,h2,h3,h4⟩|⟨h1,h2,h3,h4,h5⟩
   . rw[hbad (by rw[et];simp;omega)];repeat((first|refine W.R ?_|refine W.c ?_|refine⟨by omega,_,hmod,?_⟩|refine⟨k,_,rfl,g,rfl,?_⟩|refine xT (by omega) ?_|refine⟨true,bne_iff_ne.2 (by omega),?_⟩|refine⟨_,rfl,?_⟩|refine xr ?_|refine xB ?_);conv=>whnf)
     rfl
   . rw[hbad (by rw[et];simp;omega)];repeat((first|refine W.R ?_|refine W.c ?_|refine⟨by omega,_,hmod,?_⟩|refine⟨k,_,rfl,g,rfl,?_⟩|refine xT (by omega) ?_|refine⟨false,bne_eq_false_iff_eq.2 (by omega),?_⟩|refine⟨_,rfl,?_⟩|refine xr ?_|refine xA ?_|refine xB ?_);conv=>whnf)
     rfl
   . rw[hbad (by rw[et];simp;omega)];repeat((first|refine W.R ?_|refine W.c ?_|refine⟨by omega,_,hmod,?_⟩|refine⟨k,_,rfl,g,rfl,?_⟩|refine xT (by omega) ?_|refine xF (by omega) ?_|refine⟨false,bne_eq_false_iff_eq.2 (by omega),?_⟩|refine⟨_,rfl,?_⟩|refine xr ?_|refine xA ?_|refine xB ?_);conv=>whnf)
     rfl
   . rw[hbad (by rw[et];simp;omega)];repeat((first|refine W.R ?_|refine W.c ?_|refine⟨by omega,_,hmod,?_⟩|refine⟨k,_,rfl,g,rfl,?_⟩|refine xT (by omega) ?_|refine xF (by omega) ?_|refine⟨false,bne_eq_false_iff_eq.2 (by omega),?_⟩|refine⟨_,rfl,?_⟩|refine xr ?_|refine xA ?_|refine xB ?_);conv=>whnf)
     rfl
   . rw[hbad (by rw[et];simp;omega)];repeat((first|refine W.R ?_|refine W.c ?_|refine⟨by omega,_,hmod,?_⟩|refine⟨k,_,rfl,g,rfl,?_⟩|refine xT (by omega) ?_|refine xF (by omega) ?_|refine⟨false,bne_eq_false_iff_eq.2 (by omega),?_⟩|refine⟨_,rfl,?_⟩|refine xr ?_|refine xA ?_);conv=>whnf)
     rfl
   . repeat((first|refine W.R ?_|refine W.c ?_|refine⟨by omega,_,hmod,?_⟩|refine⟨k,_,rfl,g,rfl,?_⟩|refine ap (by omega) ?_|refine xT (by omega) ?_|refine xF (by omega) ?_|refine⟨false,bne_eq_false_iff_eq.2 (by omega),?_⟩|refine⟨_,rfl,?_⟩|refine xr ?_|refine xA ?_);conv=>whnf)
     exact⟨⟨k+1,hke,by rw[tk,pF,hall,cF,et];simp;omega⟩,Wk.tab [] ⟨aa,aa,ab⟩ trivial rfl,by dsimp only;omega⟩
 . have e:k=l.length:=by omega
   subst e;rw[dM] at hall;rw[hall];repeat((first|refine W.R ?_|refine W.c ?_|refine xF (by omega) ?_|refine⟨_,rfl,?_⟩|refine xr ?_);conv=>whnf)
   rfl
abbrev XV:=List Int×Num3
def prI(t:XV):IV:=.agg [.sl (t.1.map di),.int .i64 t.2.n,.int .i64 t.2.d,.int .u8 t.2.p]
end Go.Proofs.Fl
namespace Go.Proofs.Fl
open Go.RowKit Go.Proofs.Dig
attribute [local irreducible] IntKind.wrap a7 be bq bw
open Go.Proofs.Reg (Tm dt Hb)
theorem DW{k:Nat}{q:Rat}(h:Hb k q):rl q<=2*(k+1):=by
 have hB:∀n:Nat,n<=2^k->lh n<=k+1:=fun n hn=>lj (by
  have h1:2^(k+1)<=aq^(k+1):=No (by decide) _;have h2:2^k<2^(k+1):=Nat.pow_lt_pow_right (by omega) (by omega);omega)
 have h1:=hB _ h.1;have h2:=hB _ h.2;unfold Fl.rl;omega
end Go.Proofs.Fl
namespace Go.Proofs.Fl
open Go.RowKit Go.Proofs.Dig
attribute [local irreducible] IntKind.wrap a7 be bq bw
open Go.Proofs.En (kW zF)
open Go.Proofs.Reg (Tm dt Hb)
theorem K8{c:Rat}{xs:List Rat}{p:List Int}{j:Nat}(hc:Hb j c)(hx:∀x∈xs,Hb j x)(hp:∀k∈p,0<=k/\k<=24):∀i,Hb (j+i*(j*24)) (En.fI c xs p i)/\Hb (j*24) ((xs.getD i 0)^(p.getD i 0).toNat):=by
 have h1:∀i,Hb (j*24) ((xs.getD i 0)^(p.getD i 0).toNat):=fun i=>by
  have hx':Hb j (xs.getD i 0):=by
   rw[br];cases h:xs[i]? with
   |none=>exact Hb.zero j
   |some x=>exact hx x (bV h)
  have hk:(p.getD i 0).toNat<=24:=by
   rw[br];cases h:p[i]? with
   |none=>show(0:Int).toNat<=24;decide
   |some k=>have:=hp k (bV h);show k.toNat<=24;omega
  exact(hx'.pow _).mono (fK _ hk)
 intro i;refine⟨?_,h1 i⟩;induction i with
 |zero=>exact hc.mono (wA _ _)
 |succ i ih=>show Hb _ (En.fI c xs p i*_);exact(ih.mul (h1 i)).mono (by rw[n5];omega)
theorem DD{f:List Tm}{xs:List Rat}{j n:Nat}(hf:∀t∈f,Hb j t.2/\t.1.length=n/\∀k∈t.1,0<=k/\k<=24)(hx:∀x∈xs,Hb j x):∀t,Hb (t*(j+n*(j*24)+1)) (En.evS f xs t)
 |0=>Hb.zero _
 |t+1=>by
  have ih:=DD hf hx t;rw[n5];show Hb _ (En.evS f xs t+(match f[t]? with
   |some x=>En.fI x.2 xs x.1 x.1.length
   |none=>0))
  cases h:f[t]? with
  |none=>exact(ih.add (Hb.zero (j+n*(j*24)))).mono (by omega)
  |some x=>
   obtain⟨h1,h2,h3⟩:=hf x (bV h);have:=(K8 h1 hx h3 x.1.length).1;rw[h2] at this;have e:x.1.length=n:=h2;simp only[e];exact(ih.add this).mono (by omega)
theorem dG{k:Nat}{q:Rat}(h:Hb k q):al q<=2*(k+1):=aY (Dn q) (DW h)
theorem V7{f:List Tm}{xs:List Rat}{j n:Nat}(hf:∀t∈f,Hb j t.2/\t.1.length=n/\∀k∈t.1,0<=k/\k<=24)(hx:∀x∈xs,Hb j x)(hs:(f.length+1)*(j+n*(j*24)+1)<2^26):zF f xs:=by
 have h0:j+n*(j*24)+1<=(f.length+1)*(j+n*(j*24)+1):=Nat.le_mul_of_pos_left _ (by omega);refine⟨fun x h=>?_,fun t ht i hi=>?_,fun t ht=>?_⟩
 . have:=dG (hx x h);omega
 . obtain⟨h1,h2,h3⟩:=hf t ht;obtain⟨a,b⟩:=K8 h1 hx h3 i;have ha:=dG a;have hb:=dG b;have hin:i*(j*24)<=n*(j*24):=bU _ (by omega);refine⟨by omega,?_⟩;rcases Nat.eq_zero_or_pos n with hn|hn
   . have e:t.1=[]:=List.length_eq_zero_iff.1 (by omega);rw[e];show al ((xs.getD i 0)^0)<_;rw[Fz];have:Hb 0 (1:Rat):=⟨ak _,ak _⟩;have:=dG this;omega
   . have:j*24<=n*(j*24):=Nat.le_mul_of_pos_left _ hn;omega
 . have:=dG (DD hf hx t);have:t*(j+n*(j*24)+1)<=(f.length+1)*(j+n*(j*24)+1):=bU _ (by omega);omega
end Go.Proofs.Fl
namespace Go.Proofs.En
open Go.RowKit Go.Proofs.Fl Go.Proofs.Dig
def Ab:List EV->Option (List (Int×Nat))
 | []=>some []
 | .qc n d 0 :: .qc n1 d1 1 :: .qc n2 d2 2::l=>bif decide (n=n1)&&(decide (n=n2)&&(Nat.beq d d1&&Nat.beq d d2)) then(match Ab l with
  |some r=>some ((n,d)::r)
  |none=>none) else none
 |_=>none
def rowQ(h:Hp):EV->Option (List (Int×Nat)×Nat)
 | .slc g u 0 n _=>match h g with
  |some (.mem e cs _ vs _)=>match dl u vs with
   |some p=>bif Nat.beq e 54&&Nat.ble (n*3) p then(match Ab (cs.take (n*3)) with
    |some l=>bif Nat.beq l.length n then some (l,g) else none
    |none=>none) else none
   |none=>none
  |_=>none
 |_=>none
def Ao:List EV->Option (List Int)
 | []=>some []
 | .iv (.int .i64 n)::l=>match Ao l with
  |some r=>some (n::r)
  |none=>none
 |_=>none
def rowI(h:Hp):EV->Option (List Int×Nat)
 | .slc g u 0 n _=>match h g with
  |some (.mem e cs _ vs _)=>match dl u vs with
   |some p=>bif Nat.beq e 3&&Nat.ble n p then(match Ao (cs.take n) with
    |some l=>bif Nat.beq l.length n then some (l,g) else none
    |none=>none) else none
   |none=>none
  |_=>none
 |_=>none
section
variable {Z:QS}{h:Hp}{S:Nat->Bool}
theorem Vm(hz:∀n d,∃a b c,Z.qv n d=.agg [a,b,c]){T:me->Option TY}{f:Nat}:∀{cs:List EV} {l:List (Int×Nat)},Ab cs=some l->∃xs,cK (bZ T Z S h f) cs=some xs/\eS true 3 l.length xs=l.map (fun c=>Z.qv c.1 c.2):=by
 intro cs
 fun_induction Ab cs with
 |case1=>
  intro l h;simp only[ae] at h;subst h;exact⟨[],rfl,rfl⟩
 |case2 n d n1 d1 n2 d2 l hb r hr ih=>
  intro l' hc;simp only[ae] at hc;subst hc;simp only[az,dL] at hb;obtain⟨rfl,rfl,h1,h2⟩:=hb;have h1:=av h1;have h2:=av h2;subst h1;subst h2;obtain⟨xs,i1,i2⟩:=ih hr;obtain⟨a,b,c,e⟩:=hz n d;refine⟨a::b::c::xs,?_,?_⟩
  . have ha:bZ T Z S h f (.qc n d 0)=some a:=by unfold bZ;rw[e];rfl
    have hb:bZ T Z S h f (.qc n d 1)=some b:=by unfold bZ;rw[e];rfl
    have hc:bZ T Z S h f (.qc n d 2)=some c:=by unfold bZ;rw[e];rfl
    simp only[cK,ha,hb,hc,i1]
  . rw[bB,eS];show EN true 3 (a::b::c::xs)::eS true 3 r.length xs=_;rw[i2,aS,e];rfl
 |_=>intro l h;cases h
theorem VC{T:me->Option TY}{f:Nat}:∀{cs:List EV} {l:List Int},Ao cs=some l->cK (bZ T Z S h f) cs=some (l.map fun n=>.int .i64 n):=by
 intro cs
 fun_induction Ao cs with
 |case1=>
  intro l h;simp only[ae] at h;subst h;rfl
 |case2 n l r hr ih=>
  intro l' hc;simp only[ae] at hc;subst hc;have ha:bZ T Z S h f (.iv (.int .i64 n))=some (.int .i64 n):=by unfold bZ;rfl
  simp only[cK,ha,ih hr,aS]
 |_=>intro l h;cases h
theorem Ip:∀(l:List IV),eS false 1 l.length l=l
 | []=>rfl
 |x::l=>by
  rw[bB,eS];show EN false 1 (x::l)::eS false 1 l.length l=_;rw[Ip l];rfl
theorem Sj(hz:∀n d,∃a b c,Z.qv n d=.agg [a,b,c]){T:me->Option TY}{te:TY}(ht:T 54=some te)(ht2:te.sh.agg=true)(ht3:te.size=3){f g:Nat}{x:EV}{l:List (Int×Nat)}(hr:rowQ h x=some (l,g))(hs:S g=true) :
 bZ T Z S h (f+1) x=some (.sl (l.map fun c=>Z.qv c.1 c.2)):=by
 unfold rowQ at hr;split at hr
 . rename_i g' u n cap;split at hr
   . rename_i e cs fz vs cnt hg;split at hr
     . rename_i p hp;cases hb:(Nat.beq e 54&&Nat.ble (n*3) p) with
       |false=>rw[hb] at hr;cases hr
       |true=>
        rw[hb,af] at hr;simp only[az] at hb;have he:=av hb.1;subst he;split at hr
        . rename_i l' hl;cases hn:Nat.beq l'.length n with
          |false=>rw[hn] at hr;cases hr
          |true=>
           rw[hn,af] at hr;simp only[ae,aA] at hr;obtain⟨rfl,rfl⟩:=hr;have hn:=av hn;obtain⟨xs,h1,h2⟩:=Vm (Z:=Z) (h:=h) (S:=S) hz (T:=T) (f:=f) hl;unfold bZ;simp only[hs,hg,ht,hp,ht3,ht2,aU,hb.2,af,bL,h1];rw[<-hn,h2];have hall:dI 3 (l'.map fun c=>Z.qv c.1 c.2)=true:=by
            unfold dI;rw[List.all_map,kO];intro c _;obtain⟨a,b,d,e⟩:=hz c.1 c.2;simp only[Function.comp,e];rfl
           rw[hall];rfl
        . cases hr
     . cases hr
   . cases hr
 . cases hr
theorem Sk{T:me->Option TY}{te:TY}(ht:T 3=some te)(ht2:te.sh.agg=false)(ht3:te.size=1){f g:Nat}{x:EV}{l:List Int}(hr:rowI h x=some (l,g))(hs:S g=true) :
 bZ T Z S h (f+1) x=some (.sl (l.map fun n=>.int .i64 n)):=by
 unfold rowI at hr;split at hr
 . rename_i g' u n cap;split at hr
   . rename_i e cs fz vs cnt hg;split at hr
     . rename_i p hp;cases hb:(Nat.beq e 3&&Nat.ble n p) with
       |false=>rw[hb] at hr;cases hr
       |true=>
        rw[hb,af] at hr;simp only[az] at hb;have he:=av hb.1;subst he;split at hr
        . rename_i l' hl;cases hn:Nat.beq l'.length n with
          |false=>rw[hn] at hr;cases hr
          |true=>
           rw[hn,af] at hr;simp only[ae,aA] at hr;obtain⟨rfl,rfl⟩:=hr;have hn:=av hn;have h1:=VC (Z:=Z) (h:=h) (S:=S) (T:=T) (f:=f) hl;unfold bZ;simp only[hs,hg,ht,hp,ht3,ht2,aU,iK,hb.2,af,bL,h1];have e1:eS false 1 n (l'.map fun n=>IV.int .i64 n)=l'.map fun n=>IV.int .i64 n:=by
            have:=Ip (l'.map fun n=>IV.int .i64 n);rwa[bR,hn] at this
           rw[e1];have hall:dI 1 (l'.map fun n=>IV.int .i64 n)=true:=by
            unfold dI;rw[List.all_map,kO];intro c _;rfl
           have hag:((l'.map fun n=>IV.int .i64 n).all fun x=>!x.isAgg)=true:=by
            rw[List.all_map,kO];intro c _;rfl
           rw[hall,hag];rfl
        . cases hr
     . cases hr
   . cases hr
 . cases hr
theorem Jm(hz:∀n d,∃a b c,Z.qv n d=.agg [a,b,c]){T:me->Option TY}{te:TY}(ht:T 54=some te)(ht2:te.sh.agg=true)(ht3:te.size=3){f:Nat}:∀{cs:List EV} {ls:List (List (Int×Nat)×Nat)},cK (rowQ h) cs=some ls->(∀p∈ls,S p.2=true)->
 cK (bZ T Z S h (f+1)) cs=some (ls.map fun p=>.sl (p.1.map fun c=>Z.qv c.1 c.2))/\cs.length=ls.length
 | [],ls,hr,_=>by
  simp only[cK,ae] at hr;subst hr;exact⟨rfl,rfl⟩
 |c::cs,ls,hr,hs=>by
  unfold cK at hr;split at hr
  . rename_i b hb;split at hr
    . rename_i bs hbs;simp only[ae] at hr;subst hr;obtain⟨i1,i2⟩:=Jm (f:=f) hz ht ht2 ht3 hbs fun p hp=>hs p (by simp[hp]);have:=Sj (Z:=Z) (S:=S) hz ht ht2 ht3 (f:=f) (g:=b.2) (l:=b.1) hb (hs b (by simp));refine⟨?_,by simp[i2]⟩;simp only[cK,this,i1,aS]
    . cases hr
  . cases hr
end
end Go.Proofs.En
namespace Go.Proofs.Fl
open Go.RowKit Go.Proofs.Dig
attribute [local irreducible] IntKind.wrap a7 be bq bw
def bb:Nat->Nat
 |0=>1
 |n+1=>bb n*(n+1)
theorem yf:∀n,0<bb n
 |0=>Nat.one_pos
 |n+1=>n0 (yf n) (Nat.succ_pos n)
theorem xU{m:Nat}(hm:m<2^32):∀n≤m,al ((bb n:Nat):Rat)<=2+4*n
 |0,_=>by
  have:=zg 1;rw[show Int.natAbs 1=1 by rfl,qk] at this;exact this
 |n+1,h=>by
  have h1:=xU hm n (by omega);have h2:=zg ((n:Int)+1);have h3:=yJ (n:=((n:Int)+1).natAbs) (by omega);have h4:=sc ((bb n:Nat):Rat) (((n:Int)+1:Int):Rat);have e:((bb (n+1):Nat):Rat)=((bb n:Nat):Rat)*(((n:Int)+1:Int):Rat):=by
   rw[bb,Rat.natCast_mul];rfl
  rw[e];omega
theorem Jr(J:Keep){n:Nat}(hn:n<2^32):C J 139 [.int .i64 n] (qr ((bb n:Nat):Rat)):=by
 refine aH Tryz.func139 rfl rfl rfl ?_;have c0:C J 70 [.int .i64 1] (qr ((1:Int):Rat)):=pZ J (n:=1) (by omega) (by omega);rw[show((1:Int):Rat)=((bb 0:Nat):Rat) by rfl] at c0;repeat((first|refine W.R ?_|refine W.c ?_|refine⟨_,c0,?_⟩);conv=>whnf)
 refine W.loop (G:={ t:Nat // t<=n }) (fun t=>aF [(0,.iv (.int .i64 (n:Int))),(2,.ptr 0 0),(3,.ptr 2 0),(6,.iv (.int .i64 (n:Int))),(7,.iv (.int .i64 (t.1:Int)))] [(0,.var (.agg [.sl [],.bool false,.sl []])),(2,.var (qr ((bb t.1:Nat):Rat)))] 20) (fun t=>n-t.1) ⟨0,bk _⟩
  (Wk.tab [] ⟨aa,aa,aa,aa,aa,ab⟩ ⟨rfl,rfl,ab⟩ rfl) ?_
 rintro⟨t,ht⟩;show W J _ _ (aF [(0,.iv (.int .i64 (n:Int))),(2,.ptr 0 0),(3,.ptr 2 0),(6,.iv (.int .i64 (n:Int))),(7,.iv (.int .i64 (t:Int)))] [(0,.var (.agg [.sl [],.bool false,.sl []])),(2,.var (qr ((bb t:Nat):Rat)))] 20) _;by_cases h:t<n
 . have c1:=pZ J (n:=(t:Int)+1) (by omega) (by omega);have h1:=xU hn t (by omega);have h2:=zg ((t:Int)+1);have h3:=yJ (n:=((t:Int)+1).natAbs) (by omega);have c2:=ka (base J) (a:=((bb t:Nat):Rat)) (b:=(((t:Int)+1:Int):Rat)) (by omega) (by omega);have e:((bb (t+1):Nat):Rat)=((bb t:Nat):Rat)*(((t:Int)+1:Int):Rat):=by
    rw[bb,Rat.natCast_mul];rfl
   rw[<-e] at c2;repeat((first|refine W.R ?_|refine W.c ?_|refine⟨_,c1,?_⟩|refine⟨_,c2,?_⟩|refine ap (by omega) ?_|refine xT (by omega) ?_|refine xr ?_);conv=>whnf)
   exact⟨⟨t+1,by omega⟩,Wk.tab [] ⟨aa,aa,aa,aa,aa,ab⟩ ⟨rfl,rfl,ab⟩ rfl,by dsimp only;omega⟩
 . have e:t=n:=by omega
   subst e;repeat((first|refine W.R ?_|refine W.c ?_|refine xF (by omega) ?_|refine xr ?_);conv=>whnf)
   rfl
end Go.Proofs.Fl
