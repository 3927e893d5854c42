/-
  A part of the proof of regionForms_card.
-/
import Derived.Test.YtaniegbleeenfaaGreatDoorF5
set_option maxHeartbeats 4000000
namespace Go.Proofs
open Go
abbrev EB:=@Prod.ext
abbrev EC:=@List.set_cons_zero
abbrev ED:=@Rat.mkRat_mul_right
abbrev MP:=@List.pairwise_singleton
abbrev MQ:=@List.flatMap_map
abbrev MS:=@Int.add_mul
abbrev MT:=@List.mem_take_iff_getElem
abbrev MU:=@List.filter_append
abbrev MV:=@decide_eq_false_iff_not
abbrev MW:=@Nat.one_le_two_pow
abbrev MX:=@Rat.one_mul
abbrev XA:=@List.filter_cons_of_pos
abbrev XB:=@List.findIdx?_eq_some_iff_getElem
abbrev XC:=@List.set_append_right
abbrev XD:=@List.filter_eq_self
abbrev XF:=@List.singleton_append
abbrev XG:=@List.getLast?_eq_getElem?
abbrev XH:=@List.getElem_zipWith
abbrev Xz:=@List.filter_cons_of_neg
abbrev mG:=@List.flatMap_append
abbrev nI:=@Rat.add_assoc
abbrev vR:=@Rat.add_comm
abbrev zS:=@Rat.zero_add
abbrev zT:=@Rat.add_zero
abbrev zU:=@List.length_zipWith
abbrev zV:=@Rat.pow_zero
end Go.Proofs
namespace Go.Proofs.En
open Go.RowKit Go.Proofs.Fl Go.Proofs.Dig
def val(l:List Rat)(c:Int×Nat):Rat:=match c.2 with
 |0=>l.getD c.1.toNat 0
 |d+1=>mkRat c.1 (d+1)
noncomputable def ZL(l:List Rat):QS:=⟨fun n d=>qr (val l (n,d)),3,fun n d=>⟨_,rfl,rfl⟩⟩
section
variable {Z:QS}(hz:Z.qv 0 1 = .agg [.sl [], .bool false, .sl []])(hn:Z.qn = 3)
include hz in
end
theorem O0(l:List Rat)(t:TypeId)(y:EW)(h:nZ t=some y):∃i z,Tryz.prog.info? t=some i/\i.zero=some z/\∀H U,WR (ZL l) H U z y:=by
 unfold nZ at h;split at h
 . rename_i ty ht;cases hn:ql t with
   |true=>rw[hn] at h;cases h
   |false=>
    rw[hn] at h;simp only[aW,ae] at h;subst h;obtain⟨i,z,h1,h2,h3⟩:=At ht hn;exact⟨i,z,h1,h2,fun H U=>GN h3⟩
 . cases h
noncomputable def XL(J:Keep)(l:List Rat):EX:=⟨Tryz.prog,BS,uN,mixed,J.I,ZL l,O0 l,BW⟩
structure Fc where
 f:Nat
 xs:List (Int×Nat)
 r:(Int×Nat) ⊕ Int
def uA:List ES->Option (List (Int×Nat))
 | []=>some []
 | .w (.q n d)::l=>match uA l with
  |some cs=>some ((n,d)::cs)
  |none=>none
 |_=>none
def sc:List (Int×Nat)->List (Int×Nat)->Bool
 | [],[]=>true
 |a::l,b::m=>Nat.beq a.2 b.2&&(decide (a.1=b.1)&&sc l m)
 |_,_=>false
theorem A2:∀{l m:List (Int×Nat)},sc l m=true->l=m
 | [],[],_=>rfl
 |a::l,b::m,h=>by
  simp only[sc,aC,d9] at h;obtain⟨h1,h2,h3⟩:=h;rw[A2 h3,show a=b from EB h2 (aw h1)]
def yo(f:Nat)(cs:List (Int×Nat)):List Fc->Option ES
 | []=>none
 |c::l=>bif Nat.beq c.f f&&sc c.xs cs then(match c.r with
  | .inl (n,d)=>some (.w (.q n d))
  | .inr k=>some (ac (.int .i64 k))) else yo f cs l
def Ds(T:List Fc)(f:FuncId)(args:List ES)(s:Hs):Option (ES×Hs):=match uA args with
 |some cs=>match yo f cs T with
  |some r=>some (r,s)
  |none=>none
 |none=>match args with
  | [.w (.one (.iv (.int .i64 n)))]=>bif Nat.beq f 154&&i64 n then some (.w (.q n 1),s) else none
  |_=>none
noncomputable def resF(l:List Rat):(Int×Nat) ⊕ Int->IV
 | .inl c=>qr (val l c)
 | .inr k=>.int .i64 k
def mf(J:Keep)(l:List Rat)(c:Fc):Prop:=C J c.f (c.xs.map fun x=>qr (val l x)) (resF l c.r)
theorem AU{l:List Rat}{H:ah}{U:Bm}:∀{args:List ES} {cs:List (Int×Nat)} {vs:List Value},uA args=some cs->SREL (ZL l) H U vs args->VRL H vs (cs.map fun x=>qr (val l x))
 | [],cs,[],h,_=>by
  simp only[uA,ae] at h;subst h;exact .nil
 |a::args,cs,v::vs,h,⟨h1,h2⟩=>by
  unfold uA at h;split at h
  . rename_i e;cases e
  . rename_i n d l' e;cases e;split at h
    . rename_i cs' hc;simp only[ae] at h;subst h;exact .cons _ _ _ _ h1 (AU hc h2)
    . cases h
  . cases h
 | [],_,_::_,_,h=>h.elim
 |_::_,_,[],_,h=>h.elim
theorem Hm{f:Nat}{cs:List (Int×Nat)}{r:ES}:∀{T:List Fc},yo f cs T=some r->∃c∈T,c.f=f/\c.xs=cs/\r=(match c.r with
 | .inl (n,d)=>.w (.q n d)
 | .inr k=>ac (.int .i64 k))
 | [],h=>by cases h
 |c::T,h=>by
  unfold yo at h;cases hb:(Nat.beq c.f f&&sc c.xs cs) with
  |true=>
   rw[hb,ai] at h;simp only[aC] at hb;refine⟨c,by simp,aw hb.1,A2 hb.2,?_⟩;split at h<;>(simp only[ae] at h;subst h;rfl)
  |false=>
   rw[hb,aW] at h;obtain⟨d,h1,h2⟩:=Hm h;exact⟨d,by simp[h1],h2⟩
theorem wY{X:EX}{f:FuncId}{xs:List IV}{r:IV}{args:List ES}{res:ES}{h:Hp}(hc:aY X.P X.I f xs r)(ha:∀H U vs,SREL X.Z H U vs args->VRL H vs xs)(hr:∀H U v,VR H v r->SRe X.Z H U v res):CallOk X f args h res h:=by
 refine⟨hc.1,fun E hI H U w vs hs hv=>?_⟩;refine(hc.2 H w vs (hI w hs.below) hs.has (ha H U vs hv)).mono ?_;rintro e w' ⟨v,H',rfl,h1,h2,h3,h4⟩;exact⟨v,H',U,rfl,h2.1,BLe.refl _,hs.grow h4 h1 h2,MarkSame.below h4,hr _ _ _ h3⟩
theorem So{J:Keep}{l:List Rat}{T:List Fc}(hT:∀c∈T,mf J l c):iH (XL J l) (Ds T):=by
 intro f args s r s' he;unfold Ds at he;split at he
 . rename_i cs hcs;split at he
   . rename_i r0 hr0;simp only[ae,aA] at he;obtain⟨rfl,rfl⟩:=he;refine⟨LogOk.refl _,?_⟩;obtain⟨c,h1,h2,h3,h4⟩:=Hm hr0;have hc:=hT c h1;unfold mf at hc;rw[h2,h3] at hc;refine wY (X:=XL J l) hc (fun H U vs hv=>AU hcs hv) fun H U v hv=>?_;rw[h4];cases hr:c.r with
     |inl x=>rw[hr] at hv;exact hv
     |inr k=>
      rw[hr] at hv;have:=VR.asInt hv;subst this;exact⟨rfl,hv⟩
   . cases he
 . split at he
   . rename_i n _;cases hb:(Nat.beq f 154&&i64 n) with
     |false=>rw[hb] at he;cases he
     |true=>
      rw[hb,ai] at he;simp only[ae,aA] at he;obtain⟨rfl,rfl⟩:=he;simp only[aC] at hb;have hf:=aw hb.1;subst hf;have hn:=xS hb.2;refine⟨LogOk.refl _,wY (X:=XL J l) (xc J hn.1 hn.2) (fun H U vs hv=>?_) fun H U v hv=>?_⟩
      . exact SREL.data (Z:=ZL l) (U:=U) (xs:=[.int .i64 n]) rfl hv
      . show VR H v (qr (val l (n,1)));rw[show val l (n,1)=(n:Rat) from MN n];exact hv
   . cases he
def fe(fn:Func):Option FnE:=match fn.body with
 |some b=>some ⟨fn.ntmps,fn.results.toList,b⟩
 |none=>none
noncomputable def fv(f:Func):PT FnE:=.node .nil (fe f) .nil
noncomputable def fw(a:PT FnE)(f:Func)(b:PT FnE):PT FnE:=.node a (fe f) b
open Tryz in
noncomputable def Kh:PT FnE:=(fw (fw (fw (fw (fw (fw (fw (fw (fv f255) f127 .nil) f63 (fv f191)) f31 (fw (fw (fv f287) f159 .nil) f95 (fv f223))) f15 (fw (fw (fw (fv f271) f143 .nil) f79 (fv f207)) f47 (fw (fv f175) f111 (fv f239)))) f7 (fw (fw (fw (fw (fv f263) f135 .nil) f71 (fv f199)) f39 (fw (fv f167) f103 (fv f231))) f23 (fw (fw (fw (fv f279) f151 .nil) f87 (fv f215)) f55 (fw (fv f183) f119 (fv f247))))) f3 (fw (fw (fw (fw (fw (fv f259) f131 .nil) f67 (fv f195)) f35 (fw (fw (fv f291) f163 .nil) f99 (fv f227))) f19 (fw (fw (fw (fv f275) f147 .nil) f83 (fv f211)) f51 (fw (fv f179) f115 (fv f243)))) f11 (fw (fw (fw (fw (fv f267) f139 .nil) f75 (fv f203)) f43 (fw (fv f171) f107 (fv f235))) f27 (fw (fw (fw (fv f283) f155 .nil) f91 (fv f219)) f59 (fw (fv f187) f123 (fv f251)))))) f1 (fw (fw (fw (fw (fw (fw (fv f257) f129 .nil) f65 (fv f193)) f33 (fw (fw (fv f289) f161 .nil) f97 (fv f225))) f17 (fw (fw (fw (fv f273) f145 .nil) f81 (fv f209)) f49 (fw (fv f177) f113 (fv f241)))) f9 (fw (fw (fw (fw (fv f265) f137 .nil) f73 (fv f201)) f41 (fw (fv f169) f105 (fv f233))) f25 (fw (fw (fw (fv f281) f153 .nil) f89 (fv f217)) f57 (fw (fv f185) f121 (fv f249))))) f5 (fw (fw (fw (fw (fw (fv f261) f133 .nil) f69 (fv f197)) f37 (fw (fw (fv f293) f165 .nil) f101 (fv f229))) f21 (fw (fw (fw (fv f277) f149 .nil) f85 (fv f213)) f53 (fw (fv f181) f117 (fv f245)))) f13 (fw (fw (fw (fw (fv f269) f141 .nil) f77 (fv f205)) f45 (fw (fv f173) f109 (fv f237))) f29 (fw (fw (fw (fv f285) f157 .nil) f93 (fv f221)) f61 (fw (fv f189) f125 (fv f253))))))) f0 (fw (fw (fw (fw (fw (fw (fw (fv f256) f128 .nil) f64 (fv f192)) f32 (fw (fw (fv f288) f160 .nil) f96 (fv f224))) f16 (fw (fw (fw (fv f272) f144 .nil) f80 (fv f208)) f48 (fw (fv f176) f112 (fv f240)))) f8 (fw (fw (fw (fw (fv f264) f136 .nil) f72 (fv f200)) f40 (fw (fv f168) f104 (fv f232))) f24 (fw (fw (fw (fv f280) f152 .nil) f88 (fv f216)) f56 (fw (fv f184) f120 (fv f248))))) f4 (fw (fw (fw (fw (fw (fv f260) f132 .nil) f68 (fv f196)) f36 (fw (fw (fv f292) f164 .nil) f100 (fv f228))) f20 (fw (fw (fw (fv f276) f148 .nil) f84 (fv f212)) f52 (fw (fv f180) f116 (fv f244)))) f12 (fw (fw (fw (fw (fv f268) f140 .nil) f76 (fv f204)) f44 (fw (fv f172) f108 (fv f236))) f28 (fw (fw (fw (fv f284) f156 .nil) f92 (fv f220)) f60 (fw (fv f188) f124 (fv f252)))))) f2 (fw (fw (fw (fw (fw (fw (fv f258) f130 .nil) f66 (fv f194)) f34 (fw (fw (fv f290) f162 .nil) f98 (fv f226))) f18 (fw (fw (fw (fv f274) f146 .nil) f82 (fv f210)) f50 (fw (fv f178) f114 (fv f242)))) f10 (fw (fw (fw (fw (fv f266) f138 .nil) f74 (fv f202)) f42 (fw (fv f170) f106 (fv f234))) f26 (fw (fw (fw (fv f282) f154 .nil) f90 (fv f218)) f58 (fw (fv f186) f122 (fv f250))))) f6 (fw (fw (fw (fw (fw (fv f262) f134 .nil) f70 (fv f198)) f38 (fw (fw (fv f294) f166 .nil) f102 (fv f230))) f22 (fw (fw (fw (fv f278) f150 .nil) f86 (fv f214)) f54 (fw (fv f182) f118 (fv f246)))) f14 (fw (fw (fw (fw (fv f270) f142 .nil) f78 (fv f206)) f46 (fw (fv f174) f110 (fv f238))) f30 (fw (fw (fw (fv f286) f158 .nil) f94 (fv f222)) f62 (fw (fv f190) f126 (fv f254))))))))
noncomputable def y5(f:FuncId):Option FnE:=bif Nat.blt f 295 then Kh.get f else none
theorem Tc:(List.range 295).map Kh.get=Tryz.prog.funcs.toList.map fe:=by kernel_rfl
theorem QH:(Tryz.prog.funcs.toList.all fun fn=>!(fn.name == "runtime.NumGoroutine"))=true:=by kernel_rfl
theorem mS{X:EX}(hP:X.P=Tryz.prog):∀f q,y5 f=some q->∃fn,FnOk X f q fn:=by
 intro f q h;unfold y5 at h;cases hb:Nat.blt f 295 with
 |false=>rw[hb] at h;cases h
 |true=>
  rw[hb,ai] at h;have hl:f<295:=by rwa[cR] at hb
  have e:=congrArg (fun l=>l[f]?) Tc;simp only[dw,D4 hl,eU] at e;rw[h] at e;cases hfn:Tryz.prog.funcs.toList[f]? with
  |none=>rw[hfn] at e;cases e
  |some fn=>
   rw[hfn] at e;simp only[eU,ae] at e;unfold fe at e;split at e
   . rename_i b hb;simp only[ae] at e;subst e;have hm:=List.all_eq_true.1 QH fn (cd hfn);refine⟨fn,?_,hb,rfl,rfl,by simpa using hm⟩;rw[hP,<-tb];exact hfn
   . cases e
end Go.Proofs.En
namespace Go.Proofs.En
open Go.RowKit Go.Proofs.Fl
def y9:List UInt8->List UInt8->Bool
 | [],[]=>true
 |a::l,b::m=>Nat.beq a.toNat b.toNat&&y9 l m
 |_,_=>false
def DC:IV->IV->Bool
 | .bool true,.bool true=>true
 | .bool false,.bool false=>true
 | .int k n,.int k' n'=>decide (k=k')&&decide (n=n')
 | .str s,.str s'=>y9 s s'
 | .fn f,.fn g=>Nat.beq f g
 | .nil a,.nil b=>Nat.beq a b
 | .sl [],.sl []=>true
 |_,_=>false
def DV:Cap->Cap->Bool
 | .ex a,.ex b=>Nat.beq a b
 | .fin a,.fin b=>Nat.beq a b
 |_,_=>false
def y8:List Nat->List Nat->Bool
 | [],[]=>true
 |a::l,b::m=>Nat.beq a b&&y8 l m
 |_,_=>false
def yI:EV->EV->Bool
 | .iv x,.iv y=>DC x y
 | .qc n d j,.qc n' d' j'=>decide (n=n')&&(Nat.beq d d'&&Nat.beq j j')
 | .ptr g u o,.ptr g' u' o'=>Nat.beq g g'&&(Nat.beq u u'&&Nat.beq o o')
 | .slc g u o n c,.slc g' u' o' n' c'=>Nat.beq g g'&&(Nat.beq u u'&&(Nat.beq o o'&&(Nat.beq n n'&&DV c c')))
 | .clo f gs,.clo f' gs'=>Nat.beq f f'&&y8 gs gs'
 | .mp g,.mp g'=>Nat.beq g g'
 |_,_=>false
def uH:List EV->List EV->Bool
 | [],[]=>true
 |a::l,b::m=>yI a b&&uH l m
 |_,_=>false
def DD:EW->EW->Bool
 | .one a,.one b=>yI a b
 | .agg a,.agg b=>uH a b
 | .q n d,.q n' d'=>decide (n=n')&&Nat.beq d d'
 |_,_=>false
def DE:ES->ES->Bool
 | .w a,.w b=>DD a b
 | .und,.und=>true
 |_,_=>false
def y7:List (Nat×Nat)->List (Nat×Nat)->Bool
 | [],[]=>true
 |a::l,b::m=>Nat.beq a.1 b.1&&(Nat.beq a.2 b.2&&y7 l m)
 |_,_=>false
def DU:EO->EO->Bool
 | .mem e cs fz vs c,.mem e' cs' fz' vs' c'=>Nat.beq e e'&&(uH cs cs'&&((match fz,fz' with
  |true,true=>true
  |false,false=>true
  |_,_=>false)&&(y7 vs vs'&&Nat.beq c c')))
 |_,_=>false
theorem Kr:∀{a b:List UInt8},y9 a b=true->a=b
 | [],[],_=>rfl
 |a::l,b::m,h=>by
  simp only[y9,aC] at h;rw[Kr h.2,UInt8.toNat_inj.1 (aw h.1)]
theorem TM{a b:IV}(h:DC a b=true):a=b:=by
 unfold DC at h;split at h<;>first
  |rfl
  | (simp only[aC,d9] at h;rw[h.1,h.2])
  | (rw[Kr h])
  | (rw[aw h])
  |cases h
theorem U8{a b:Cap}(h:DV a b=true):a=b:=by
 unfold DV at h;split at h<;>first|(rw[aw h])|cases h
theorem Kq:∀{a b:List Nat},y8 a b=true->a=b
 | [],[],_=>rfl
 |a::l,b::m,h=>by
  simp only[y8,aC] at h;rw[Kq h.2,aw h.1]
theorem Jp{a b:EV}(h:yI a b=true):a=b:=by
 unfold yI at h;split at h
 . rw[TM h]
 . simp only[aC,d9] at h;rw[h.1,aw h.2.1,aw h.2.2]
 . simp only[aC] at h;rw[aw h.1,aw h.2.1,aw h.2.2]
 . simp only[aC] at h;rw[aw h.1,aw h.2.1,aw h.2.2.1,aw h.2.2.2.1,U8 h.2.2.2.2]
 . simp only[aC] at h;rw[aw h.1,Kq h.2]
 . rw[aw h]
 . cases h
theorem Bj:∀{a b:List EV},uH a b=true->a=b
 | [],[],_=>rfl
 |a::l,b::m,h=>by
  simp only[uH,aC] at h;rw[Bj h.2,Jp h.1]
theorem TN{a b:EW}(h:DD a b=true):a=b:=by
 unfold DD at h;split at h
 . rw[Jp h]
 . rw[Bj h]
 . simp only[aC,d9] at h;rw[h.1,aw h.2]
 . cases h
theorem TO{a b:ES}(h:DE a b=true):a=b:=by
 unfold DE at h;split at h
 . rw[TN h]
 . rfl
 . cases h
theorem Kp:∀{a b:List (Nat×Nat)},y7 a b=true->a=b
 | [],[],_=>rfl
 |a::l,b::m,h=>by
  simp only[y7,aC] at h;rw[Kp h.2.2,show a=b from EB (aw h.1) (aw h.2.1)]
theorem U7{a b:EO}(h:DU a b=true):a=b:=by
 unfold DU at h;split at h
 . rename_i e cs fz vs c e' cs' fz' vs' c';simp only[aC] at h;obtain⟨h1,h2,h3,h4,h5⟩:=h;rw[aw h1,Bj h2,Kp h4,aw h5];split at h3<;>first|rfl|cases h3
 . cases h
def yL(r:List (Nat×Nat))(m:List (Nat×EO))(tm:Nat->ES):List (Nat×ES)->Bool
 | []=>true
 |p::l=>DE (il (iE r) (tm p.1)) p.2&&((fb (tm p.1)).all (m6 r m)&&yL r m tm l)
def yM(r:List (Nat×Nat))(m:List (Nat×EO))(h:Hp):List (Nat×EO)->Bool
 | []=>true
 |p::l=>(match h (dR r p.1) with
  |some o=>DU (dN (iE r) o) p.2&&yl (m6 r m) o
  |none=>false)&&yM r m h l
theorem Jy{r:List (Nat×Nat)}{m:List (Nat×EO)}{tm:Nat->ES}:∀{l:List (Nat×ES)},yL r m tm l=true->Cr r m tm l
 | [],_=>trivial
 |p::l,h=>by
  simp only[yL,aC] at h;exact⟨.rn (TO h.1) h.2.1,Jy h.2.2⟩
theorem Jz{r:List (Nat×Nat)}{m:List (Nat×EO)}{h:Hp}:∀{l:List (Nat×EO)},yM r m h l=true->yb r m h l
 | [],_=>trivial
 |p::l,hc=>by
  simp only[yM,aC] at hc;obtain⟨h1,h2⟩:=hc;split at h1
  . rename_i o ho;simp only[aC] at h1;exact⟨.rn ho (U7 h1.1) h1.2,Jz h2⟩
  . cases h1
noncomputable def runT(Yz9:EE)(n nP nt:Nat)(code:Code)(l:List (Nat×ES))(m:List (Nat×EO))(nx:Nat)(r:List (Nat×Nat))(l':List (Nat×ES))(m':List (Nat×EO))(nx':Nat):Bool :=
 match y6 Yz9 n false nt code ⟨oH nt l,⟨ns m,nx,[]⟩⟩ with
 |some (.normal,s')=>oE (s'.s.nx+nx) s'.s.wl&&(mR nx m&&(yL r m' s'.tm.sl l'&&(yM r m' s'.s.h.get m'&&(lQ (m'.map fun p=>dR r p.1)&&(uF r m' nP&&mR nx' m')))))
 |_=>false
section
variable {X:EX}{nP:Nat}{nt:Nat}{K:Exit->SS->Prop}
theorem pe{F:FuncId->Option FnE}{orc:FuncId->List ES->Hs->Option (ES×Hs)}(hF:∀f q,F f=some q->∃fn,FnOk X f q fn)(horc:iH X orc){n:Nat}{x y:Code}{l l':List (Nat×ES)}{m m':List (Nat×EO)}{nx nx':Nat}{r:List (Nat×Nat)}
 (h:runT (X.ee F orc) n nP nt x l m nx r l' m' nx'=true) (hk:SW X nP false nt y (ba l' m' nx') K):SW X nP false nt (.seq x y) (ba l m nx) K:=by
 unfold runT at h;split at h
 . rename_i s' he;simp only[aC] at h;obtain⟨h1,h2,h3,h4,h5,h6,h7⟩:=h;refine SW.seq (AY hF horc n he h1 h2 ?_);show SW X nP false nt y ⟨s'.tm.sl,s'.s.h.get,s'.s.nx+nx⟩ K;exact SW.to (To.tab r (Jy h3) (Jz h4) (by simp only[h5,h6,h7,mF])) hk
 . cases h
end
def jW(S:Nat->Bool)(h:Hp):Hp:=fun g=>match S g with
 |true=>match h g with
  |some (.mem ..)=>some .hid
  |o=>o
 |false=>h g
section
variable {Z:QS}{E:EEnv}{H:ah}{U:Bm}{h:Hp}{w:World}{T:TypeId->Option TY}{S:Nat->Bool}
theorem ESim.hideS(hS:ESim Z E H U h w):ESim Z E (fL U S h H w) U (jW S h) w where
 has:=GG hS.has
 below:=hS.below
 lo:=hS.lo
 ext:=hS.ext.step (own':=E.own) ⟨mO,fun b arr hb=>(AO hS hb).imp id fun e=>e.1⟩ fun b hb=>hb
 obj g o hg:=by
  unfold jW at hg;have key:∀o,h g=some o->(S g=false\/∀e cs fz vs cnt,o≠ .mem e cs fz vs cnt)->OR Z E.own w (fL U S h H w) U g o:=fun o hg hn=>by
   refine(hS.obj g o hg).keep (fun _ _ _=>rfl) (fun u k hk hn'=>?_) mO (BLe.refl _) (fun _=>rfl);cases hf:fL U S h H w k.1 with
   |none=>rfl
   |some arr=>
    rcases AO hS hf with e|⟨_,g',u',k',e,cs,fz,vs,cnt,p,h1,h2,h3,h4,h5⟩
    . rw[e] at hn';cases hn'
    . have:=hS.inj _ _ _ _ _ _ h4 hk h5;subst this;rcases hn with hn|hn
      . rw[hn] at h1;cases h1
      . rw[hg] at h2;cases h2;exact absurd rfl (hn e cs fz vs cnt)
  split at hg
  . split at hg
    . simp only[ae] at hg;subst hg;trivial
    . rename_i hn;exact key o hg (.inr fun e cs fz vs cnt e'=>hn e cs fz vs cnt (by rw[hg,e']))
  . rename_i hs;exact key o hg (.inl hs)
 dom g u k hk:=by
  obtain⟨a,o,b,c⟩:=hS.dom g u k hk;refine⟨a,?_⟩;unfold jW;split
  . split
    . exact⟨.hid,rfl,.inl rfl⟩
    . exact⟨o,b,c⟩
  . exact⟨o,b,c⟩
 inj:=hS.inj
 hidb g hg:=by
  refine⟨?_,(hS.hidb g hg).2⟩;have:=(hS.hidb g hg).1;unfold jW;rw[this];split<;>rfl
end
theorem JH{Z:QS}{E:EEnv}{H:ah}{U:Bm}{h:Hp}{w:World}{T:TypeId->Option TY}{S:Nat->Bool}(hS:ESim Z E H U h w){f:Nat}:∀{xs:List ES} {us:List Value} {ys:List IV},SREL Z H U us xs->du (iO T Z S h f) xs=some ys->VRL (fL U S h H w) us ys
 | [],[],ys,_,hd=>by
  simp only[du,ae] at hd;subst hd;exact .nil
 |x::xs,u::us,ys,⟨h1,h2⟩,hd=>by
  unfold du at hd;split at hd
  . rename_i b hb;split at hd
    . rename_i bs hbs;simp only[ae] at hd;subst hd;exact .cons _ _ _ _ (Jx hS h1 hb) (JH hS h2 hbs)
    . cases hd
  . cases hd
 | [],_::_,_,h,_=>h.elim
 |_::_,[],_,h,_=>h.elim
def Wc(Z:QS)(r:IV)(res:ES):Prop:=∀H U v,VR H v r->SRe Z H U v res
theorem CallOk.ofData{X:EX}{S:Nat->Bool}{fu:Nat}{f:FuncId}{xs:List IV}{r:IV}{args:List ES}{res:ES}{h:Hp}(hc:aY X.P X.I f xs r)(hd:du (iO X.T X.Z S h fu) args=some xs)(hr:Wc X.Z r res):CallOk X f args h res (jW S h):=by
 refine⟨hc.1,fun E hI H U w vs hs hv=>?_⟩;have hs':=hs.hideS (S:=S);refine(hc.2 _ w vs (hI w hs.below) hs'.has (JH hs hv hd)).mono ?_;rintro e w' ⟨v,H',rfl,h1,h2,h3,h4⟩;exact⟨v,H',U,rfl,mO.trans h2.1,BLe.refl _,hs'.grow h4 h1 h2,MarkSame.below h4,hr _ _ _ h3⟩
def Tr(nP:Nat)(s s':SS):Prop:=s.fr->s'.fr/\∀(Z:QS) (E:EEnv) (H:ah) (U:Bm) (w:World),ESim Z E H U s.h w->(∀g,E.hid g->g<nP)->
 ∃H' U',HLe H H'/\BLeP nP U U'/\ESim Z E H' U' s'.h w/\∀t v,SRe Z H U v (s.tm t)->SRe Z H' U' v (s'.tm t)
theorem Tr.trans{nP:Nat}{a b c:SS}(h:Tr nP a b)(k:Tr nP b c):Tr nP a c:=fun hf=>by
 obtain⟨f1,h⟩:=h hf;obtain⟨f2,k⟩:=k f1;refine⟨f2,fun Z E H U w hS hE=>?_⟩;obtain⟨H1,β1,a1,a2,a3,a4⟩:=h Z E H U w hS hE;obtain⟨H2,β2,b1,b2,b3,b4⟩:=k Z E H1 β1 w a3 hE;exact⟨H2,β2,a1.trans b1,a2.trans b2,b3,fun t v hv=>b4 t v (a4 t v hv)⟩
section
variable {X:EX}{nP:Nat}{rd:Bool}{nt:Nat}{s:SS}{K:Exit->SS->Prop}
theorem SSm.tr{E:EEnv}(hh:∀g,E.hid g->g<nP){w0:World}{H:ah}{U:Bm}{a:Act}{w:World}{s s':SS}(t:Tr nP s s')(hS:SSm X E w0 nt H U s a w):∃H' U',HLe H H'/\BLeP nP U U'/\SSm X E w0 nt H' U' s' a w:=by
 obtain⟨f,t⟩:=t hS.fr;obtain⟨H1,β1,a1,a2,a3,a4⟩:=t _ E H U w hS.st.sim hh;exact⟨H1,β1,a1,a2,⟨a3,fun t=>a4 t _ (hS.st.slot t),hS.st.size⟩,hS.mks,hS.sm,f⟩
theorem SW.tr{c:Code}{s':SS}(t:Tr nP s s')(h:SW X nP rd nt c s' K):SW X nP rd nt c s K:=fun ro hro E hI hh w0 H U a w Q hS hQ=>by
 obtain⟨H1,β1,a1,a2,a3⟩:=hS.tr hh t;exact h ro hro E hI hh w0 H1 β1 a w Q a3 fun e s2 a' w' k hp'=>hQ e s2 a' w' k (hp'.trans a1 a2 (MarkSame.refl _))
def sU{G:Type _}(nP:Nat)(inv:G->SS)(μ:G->Nat)(g:G)(K:Exit->SS->Prop):Exit->SS->Prop
 | .normal,s=>∃g',Tr nP s (inv g')/\μ g'<μ g
 |e,s=>K e s
theorem gu{G:Type _}(inv:G->SS)(μ:G->Nat){c:Code}(g0:G)(h0:Tr nP s (inv g0))(h:∀g,SW X nP rd nt c (inv g) (sU nP inv μ g K)):SW X nP rd nt (.loop c) s K:=fun ro hro E hI hh w0 H U a w Q hS hQ=>by
 have key:∀(n:Nat) (g:G) (H:ah) (U:Bm) (a:Act) (w:World),μ g<=n->SSm X E w0 nt H U (inv g) a w->(∀e s' a' w',K e s'->SPost X nP E w0 nt H U w s' a' w'->Q e a' w')->Code.roundsIn (FW ro) 0 X.P c Q (n+1) a w:=by
  intro n;induction n with
  |zero=>
   intro g H U a w hn hS hQ;rw[tv];refine h g ro hro E hI hh w0 H U a w _ hS fun e s1 a1 w1 hk hp=>?_;cases e with
   |normal=>obtain⟨g',_,hg'⟩:=hk;omega
   |_=>exact hQ _ _ _ _ hk hp
  |succ n ih=>
   intro g H U a w hn hS hQ;rw[tv];refine h g ro hro E hI hh w0 H U a w _ hS fun e s1 a1 w1 hk hp=>?_;cases e with
   |normal=>
    obtain⟨g',ht,hg'⟩:=hk;obtain⟨H1,β1,p1,p2,p3,p4⟩:=hp;obtain⟨H2,β2,k0,k1,k2⟩:=p3.tr hh ht;exact ih g' H2 β2 a1 w1 (by omega) k2 fun e s' a' w' k hp'=>hQ e s' a' w' k (hp'.trans (p1.trans k0) (p2.trans k1) p4)
   |_=>exact hQ _ _ _ _ hk hp
 obtain⟨H0,β0,k0,k1,k2⟩:=hS.tr hh h0;exact Ex (μ g0+1) (key (μ g0) g0 H0 β0 a w (ak _) k2 fun e s' a' w' k hp'=>hQ e s' a' w' k (hp'.trans k0 k1 (MarkSame.refl _)))
end
abbrev Rv:=Nat->Nat->Nat×Nat
def oo(V:Rv):EV->EV
 | .ptr g u o=>.ptr (V g u).1 (V g u).2 o
 | .slc g u o n c=>.slc (V g u).1 (V g u).2 o n c
 | .clo f gs=>.clo f (gs.map fun g=>(V g 0).1)
 | .yld g=>.yld (V g 0).1
 | .mp g=>.mp (V g 0).1
 |x=>x
def jT(V:Rv):EW->EW
 | .one c=>.one (oo V c)
 | .agg cs=>.agg (cs.map (oo V))
 | .q n d=>.q n d
def su(V:Rv):ES->ES
 | .w x=>.w (jT V x)
 | .tup xs=>.tup (xs.map (jT V))
 |x=>x
def sS(V:Rv):EO->EO
 | .mem e cs fz vs cnt=>.mem e (cs.map (oo V)) fz vs cnt
 | .map es ck=>.map (es.map fun e=>(jT V e.1,jT V e.2.1,e.2.2)) ck
 | .iter gm since seen last cur=>.iter (V gm 0).1 since seen last cur
 |o=>o
def oJ(P:Nat->Nat->Bool):EV->Bool
 | .ptr g u _=>P g u
 | .slc g u _ _ _=>P g u
 | .clo _ gs=>gs.all fun g=>P g 0
 | .yld g=>P g 0
 | .mp g=>P g 0
 |_=>true
def mj(P:Nat->Nat->Bool):EW->Bool
 | .one c=>oJ P c
 | .agg cs=>cs.all (oJ P)
 | .q _ _=>true
def yX(P:Nat->Nat->Bool):ES->Bool
 | .w x=>mj P x
 | .tup xs=>xs.all (mj P)
 |_=>true
def DL(P:Nat->Nat->Bool):EO->Bool
 | .mem _ cs _ _ _=>cs.all (oJ P)
 | .map es _=>es.all fun e=>mj P e.1&&mj P e.2.1
 | .iter gm _ _ _ _=>P gm 0
 | .loop .. => false
 | .hid=>true
section
variable {Z:QS}{H:ah}{U U':Bm}{V:Rv}{P:Nat->Nat->Bool}
def oB(U U':Bm)(V:Rv)(P:Nat->Nat->Bool):Prop:=(∀g u,P g u=true->U' (V g u).1 (V g u).2=U g u)/\∀g,(V g 0).2=0
theorem CR.rv(hP:oB U U' V P){v:Value}:∀{x:EV},oJ P x=true->CR Z H U v x->CR Z H U' v (oo V x)
 | .iv _,_,h=>h
 | .qc _ _ _,_,h=>h
 | .ptr g u off,hx,⟨k,h1,h2⟩=>⟨k,by rw[hP.1 g u hx];exact h1,h2⟩
 | .slc g u off n cap,hx,⟨k,c,h1,h2⟩=>⟨k,c,by rw[hP.1 g u hx];exact h1,h2⟩
 | .clo f gs,hx,⟨h1,h2⟩=>by
  have key:∀g∈gs,U' (V g 0).1 0=U g 0:=fun g hg=>by
   have:=hP.1 g 0 (List.all_eq_true.1 hx g hg);rwa[hP.2 g] at this
  refine⟨fun g hg=>?_,?_⟩
  . obtain⟨g0,hg0,rfl⟩:=List.mem_map.1 hg;rw[key g0 hg0];exact h1 g0 hg0
  . rw[h2,jF];congr 2;exact qO fun g hg=>by unfold gZ;simp only[Function.comp];rw[key g hg]
 | .yld g,hx,⟨k,h1,h2⟩=>⟨k,by have:=hP.1 g 0 hx;rw[hP.2 g] at this;rw[this];exact h1,h2⟩
 | .mp g,hx,⟨k,h1,h2⟩=>⟨k,by have:=hP.1 g 0 hx;rw[hP.2 g] at this;rw[this];exact h1,h2⟩
 | .dp _ _,_,h=>h
theorem CRL.rv(hP:oB U U' V P):∀{vs:List Value} {xs:List EV},xs.all (oJ P)=true->CRL Z H U vs xs->CRL Z H U' vs (xs.map (oo V))
 | [],[],_,_=>trivial
 |v::vs,x::xs,hx,⟨h1,h2⟩=>by
  simp only[ed,aC] at hx;exact⟨CR.rv hP hx.1 h1,CRL.rv hP hx.2 h2⟩
 | [],_::_,_,h=>h.elim
 |_::_,[],_,h=>h.elim
theorem WR.rv(hP:oB U U' V P){v:Value}{x:EW}(hx:mj P x=true)(h:WR Z H U v x):WR Z H U' v (jT V x):=by
 cases x with
 |one c=>exact CR.rv hP hx h
 |agg cs=>obtain⟨vs,e,k⟩:=h;exact⟨vs,e,CRL.rv hP hx k⟩
 |q n d=>exact h
theorem WRL.rv(hP:oB U U' V P):∀{vs:List Value} {xs:List EW},xs.all (mj P)=true->WRL Z H U vs xs->WRL Z H U' vs (xs.map (jT V))
 | [],[],_,_=>trivial
 |v::vs,x::xs,hx,⟨h1,h2⟩=>by
  simp only[ed,aC] at hx;exact⟨WR.rv hP hx.1 h1,WRL.rv hP hx.2 h2⟩
 | [],_::_,_,h=>h.elim
 |_::_,[],_,h=>h.elim
theorem SRe.rv(hP:oB U U' V P){v:Value}{x:ES}(hx:yX P x=true)(h:SRe Z H U v x):SRe Z H U' v (su V x):=by
 cases x with
 |unk=>trivial
 |und=>exact h
 |w x=>exact WR.rv hP hx h
 |tup xs=>obtain⟨vs,e,k⟩:=h;exact⟨vs,e,WRL.rv hP hx k⟩
theorem MRL.rv(hP:oB U U' V P):∀{vs:List MapEntry} {xs:List (EW×EW×Nat)},(xs.all fun e=>mj P e.1&&mj P e.2.1)=true->MRL Z H U vs xs->MRL Z H U' vs (xs.map fun e=>(jT V e.1,jT V e.2.1,e.2.2))
 | [],[],_,_=>trivial
 |v::vs,x::xs,hx,⟨⟨h0,h1,h2⟩,h3⟩=>by
  simp only[ed,aC] at hx;exact⟨⟨WR.rv hP hx.1.1 h0,WR.rv hP hx.1.2 h1,h2⟩,MRL.rv hP hx.2 h3⟩
 | [],_::_,_,h=>h.elim
 |_::_,[],_,h=>h.elim
theorem OR.rv(hP:oB U U' V P){own:Nat->Prop}{w:World}{g g':Nat}{o:EO}(hg:∀u,U' g' u=U g u)(ho:DL P o=true)(h:OR Z own w H U g o):OR Z own w H U' g' (sS V o):=by
 cases o with
 |mem e cs fz vs cnt=>
  refine⟨fun hf u k hk=>h.1 hf u k (by rw[<-hg];exact hk),fun u p hup=>?_⟩;obtain⟨h1,k,arr,h2,h3,h4,h5,h6,h7,h8,h9⟩:=h.2 u p hup;refine⟨h1,k,arr,by rw[hg];exact h2,h3,h4,h5,h6,by rw[cT];exact h7,h8,?_⟩;rw[<-zL];exact CRL.rv hP (List.all_eq_true.2 fun x hx=>List.all_eq_true.1 ho x (dH hx)) h9
 |map es ck=>
  obtain⟨k,ents,h1,h2,h3,h4,h5⟩:=h;exact⟨k,ents,by rw[hg];exact h1,h2,h3,h4,MRL.rv hP ho h5⟩
 |iter gm since seen last cur=>
  obtain⟨k,km,sn,h1,h2,h3⟩:=h;refine⟨k,km,sn,by rw[hg];exact h1,?_,h3⟩;have:=hP.1 gm 0 ho;rw[hP.2 gm] at this;rw[this];exact h2
 |loop=>cases ho
 |hid=>trivial
end
theorem Fy{P:Nat->Nat->Bool}:∀{x:EV},bB x=[]->oJ P x=true
 | .clo f gs,h=>by
  have h:gs=[]:=h;subst h;rfl
 | .iv _,_=>rfl
 | .qc _ _ _,_=>rfl
 | .dp _ _,_=>rfl
 | .ptr _ _ _,h=>by cases h
 | .slc _ _ _ _ _,h=>by cases h
 | .yld _,h=>by cases h
 | .mp _,h=>by cases h
theorem Fd{V:Rv}:∀{x:EV},bB x=[]->oo V x=x
 | .clo f gs,h=>by
  have h:gs=[]:=h;subst h;rfl
 | .iv _,_=>rfl
 | .qc _ _ _,_=>rfl
 | .dp _ _,_=>rfl
 | .ptr _ _ _,h=>by cases h
 | .slc _ _ _ _ _,h=>by cases h
 | .yld _,h=>by cases h
 | .mp _,h=>by cases h
theorem rj{P:Nat->Nat->Bool}:∀{cs:List EV},cs.flatMap bB=[]->cs.all (oJ P)=true
 | [],_=>rfl
 |c::cs,h=>by
  simp only[dz,vQ] at h;simp only[ed,Fy h.1,rj h.2,mF]
theorem ri{V:Rv}:∀{cs:List EV},cs.flatMap bB=[]->cs.map (oo V)=cs
 | [],_=>rfl
 |c::cs,h=>by
  simp only[dz,vQ] at h;rw[aS,Fd h.1,ri h.2]
theorem wh{P:Nat->Nat->Bool}{x:EW}(h:eB x=[]):mj P x=true:=by
 cases x with
 |one c=>exact Fy h
 |agg cs=>exact rj h
 |q=>rfl
theorem vZ{V:Rv}{x:EW}(h:eB x=[]):jT V x=x:=by
 cases x with
 |one c=>rw[jT,Fd h]
 |agg cs=>rw[jT,ri h]
 |q=>rfl
theorem Fz{P:Nat->Nat->Bool}:∀{xs:List EW},xs.flatMap eB=[]->xs.all (mj P)=true
 | [],_=>rfl
 |c::cs,h=>by
  simp only[dz,vQ] at h;simp only[ed,wh h.1,Fz h.2,mF]
theorem Fx{V:Rv}:∀{xs:List EW},xs.flatMap eB=[]->xs.map (jT V)=xs
 | [],_=>rfl
 |c::cs,h=>by
  simp only[dz,vQ] at h;rw[aS,vZ h.1,Fx h.2]
theorem Oz{P:Nat->Nat->Bool}{x:ES}(h:fb x=[]):yX P x=true:=by
 cases x with
 |unk=>rfl
 |und=>rfl
 |w x=>exact wh h
 |tup xs=>exact Fz h
theorem NV{V:Rv}{x:ES}(h:fb x=[]):su V x=x:=by
 cases x with
 |unk=>rfl
 |und=>rfl
 |w x=>rw[su,vZ h]
 |tup xs=>rw[su,Fx h]
theorem Oy{P:Nat->Nat->Bool}{o:EO}(h:ig o):DL P o=true:=by
 cases o with
 |mem e cs fz vs cnt=>exact rj h
 |map es ck=>exact List.all_eq_true.2 fun e he=>by rw[wh (h e he).1,wh (h e he).2];rfl
 |iter=>exact h.elim
 |loop=>exact h.elim
 |hid=>rfl
theorem Oi{V:Rv}{o:EO}(h:ig o):sS V o=o:=by
 cases o with
 |mem e cs fz vs cnt=>rw[sS,ri h]
 |map es ck=>
  rw[sS];congr 1;conv=>rhs;rw[<-MI es]
  refine qO fun e he=>?_;rw[vZ (h e he).1,vZ (h e he).2];rfl
 |iter=>exact h.elim
 |loop=>exact h.elim
 |hid=>rfl
inductive VM where
 |one (u:Nat)
 |cut (c:Nat)
def fK:List (Nat×VM)->Nat->Option VM
 | [],_=>none
 | (k,u)::l,g=>bif Nat.beq g k then some u else fK l g
def jt(r:List (Nat×Nat))(vr:List (Nat×VM)):Rv:=fun g u=>(iE r g,match fK vr (iE r g) with
 |some (.one _)=>0
 |_=>u)
def sW(r:List (Nat×Nat))(vr:List (Nat×VM))(m:List (Nat×EO))(g u:Nat):Bool:=m6 r m g&&(match fK vr (iE r g) with
 |none=>true
 |some (.one u0)=>Nat.beq u u0
 |some (.cut c)=>Nat.blt u c)
def fN(r:List (Nat×Nat))(vr:List (Nat×VM))(m:List (Nat×EO))(U:Bm):Bm:=fun g u=>match fE m g with
 |false=>none
 |true=>match fK vr g with
  |none=>U (dR r g) u
  |some (.one u0)=>(match u with
   |0=>U (dR r g) u0
   |_+1=>none)
  |some (.cut c)=>match Nat.blt u c with
   |true=>U (dR r g) u
   |false=>none
inductive SlotT(r:List (Nat×Nat))(vr:List (Nat×VM))(m:List (Nat×EO)):ES->ES->Prop
 |rn {x y:ES} (h:su (jt r vr) x=y) (hi:yX (sW r vr m) x=true):SlotT r vr m x y
 |same {x y:ES} (h:x=y) (hi:fb x=[]):SlotT r vr m x y
inductive BoxT(r:List (Nat×Nat))(vr:List (Nat×VM))(m:List (Nat×EO))(g:Nat):Option EO->EO->Prop
 |rn {x:Option EO} {o0 o:EO} (hv:fK vr g=none) (h:x=some o0) (h2:sS (jt r vr) o0=o) (hi:DL (sW r vr m) o0=true):BoxT r vr m g x o
 |same {x:Option EO} {o:EO} (hv:fK vr g=none) (h:x=some o) (hc:ig o):BoxT r vr m g x o
 |ver {x:Option EO} {e:TypeId} {cs cs1:List EV} {fz:Bool} {vs:List (Nat×Nat)} {cnt u0 p p1:Nat} (hv:fK vr g=some (.one u0)) (h:x=some (.mem e cs fz vs cnt)) (hu:dV u0 vs=some p) (hp:p1<=p) (hl:p1<=cs1.length) (hc:cs.take p1=cs1.take p1) (hn:cs1.flatMap bB=[]):BoxT r vr m g x (.mem e cs1 fz [(0,p1)] 1)
 |verR {x:Option EO} {e:TypeId} {cs cs1:List EV} {fz:Bool} {vs:List (Nat×Nat)} {cnt u0 p p1:Nat} (hv:fK vr g=some (.one u0)) (h:x=some (.mem e cs fz vs cnt)) (hu:dV u0 vs=some p) (hp:p1<=p) (hl:p1<=cs1.length) (hc:(cs.take p1).map (oo (jt r vr))=cs1.take p1) (hn:(cs.take p1).all (oJ (sW r vr m))=true):BoxT r vr m g x (.mem e cs1 fz [(0,p1)] 1)
 |cut {x:Option EO} {e:TypeId} {cs cs1:List EV} {fz:Bool} {vs vs1:List (Nat×Nat)} {cnt c pm:Nat} (hv:fK vr g=some (.cut c)) (h:x=some (.mem e cs fz vs cnt)) (hu:∀q∈vs1,q.1<c/\q.2<=pm/\∃p,(q.1,p)∈vs/\q.2<=p) (hl:pm<=cs1.length) (hc:cs.take pm=cs1.take pm) (hn:cs1.flatMap bB=[]):BoxT r vr m g x (.mem e cs1 fz vs1 c)
 |drop {x:Option EO} {e:TypeId} {cs cs1:List EV} {fz:Bool} {vs vs1:List (Nat×Nat)} {cnt pm:Nat} (hv:fK vr g=none) (h:x=some (.mem e cs fz vs cnt)) (hu:∀q∈vs1,q.2<=pm/\∃p,(q.1,p)∈vs/\q.2<=p) (hl:pm<=cs1.length) (hc:cs.take pm=cs1.take pm) (hn:cs1.flatMap bB=[]):BoxT r vr m g x (.mem e cs1 fz vs1 cnt)
 |ph {x:Option EO} {e:TypeId} {cs:List EV} {fz:Bool} (h:x=none):BoxT r vr m g x (.mem e cs fz [] 0)
def JV(r:List (Nat×Nat))(vr:List (Nat×VM))(m:List (Nat×EO))(tm:Nat->ES):List (Nat×ES)->Prop
 | []=>True
 | (t,v)::l=>SlotT r vr m (tm t) v/\JV r vr m tm l
def CU(r:List (Nat×Nat))(vr:List (Nat×VM))(m:List (Nat×EO))(h:Hp):List (Nat×EO)->Prop
 | []=>True
 | (g,o)::l=>BoxT r vr m g (h (dR r g)) o/\CU r vr m h l
theorem wn{r:List (Nat×Nat)}{vr:List (Nat×VM)}{m:List (Nat×EO)}{h:Hp}{g:Nat}{o:EO}:∀{l:List (Nat×EO)},CU r vr m h l->(g,o)∈l->BoxT r vr m g (h (dR r g)) o
 | (k,o')::l,⟨h1,h2⟩,hm=>by
   rcases List.mem_cons.1 hm with e|hm
   . cases e;exact h1
   . exact wn h2 hm
def BP:Option EO->Bool
 |some (.mem _ _ _ _ 0)=>true
 |_=>false
def yj(r:List (Nat×Nat))(vr:List (Nat×VM))(m:List (Nat×EO))(h:Hp):Nat->Bool
 |0=>true
 |n+1=>((fE m n&&(Nat.beq (dR r n) n&&(fK vr n).isNone))||BP (h n))&&yj r vr m h n
theorem A6{r:List (Nat×Nat)}{vr:List (Nat×VM)}{m:List (Nat×EO)}{h:Hp}:∀{n:Nat},yj r vr m h n=true->∀g,g<n->(fE m g=true/\dR r g=g/\fK vr g=none)\/BP (h g)=true
 |n+1,hp,g,hg=>by
  simp only[yj,aC,fO,Xq] at hp;rcases Nat.lt_succ_iff_lt_or_eq.1 hg with h1|h1
  . exact A6 hp.2 g h1
  . subst h1;exact hp.1.imp (fun k=>⟨k.1,aw k.2.1,k.2.2⟩) id
theorem Tr.tab{nP:Nat}{s:SS}(r:List (Nat×Nat))(vr:List (Nat×VM)){l:List (Nat×ES)}{m:List (Nat×EO)}{nx:Nat}(h1:JV r vr m s.tm l)(h2:CU r vr m s.h m)(h3:(lQ (m.map fun p=>dR r p.1)&&(yj r vr m s.h nP&&mR nx m))=true):Tr nP s (ba l m nx):=fun _=>by
 simp only[aC] at h3;refine⟨wA h3.2.2,fun Z E H U w hS hE=>?_⟩;have hnone:∀g,s.h g=none->∀u,U g u=none:=fun g hg u=>by
  cases hk:U g u with
  |none=>rfl
  |some k=>obtain⟨_,o,b,_⟩:=hS.dom g u k hk;rw[hg] at b;cases b
 have hR:oB U (fN r vr m U) (jt r vr) (sW r vr m):=by
  refine⟨fun g u hp=>?_,fun g=>?_⟩
  . simp only[sW,m6,aC] at hp;unfold jt fN;rw[hp.1.1];have e2:=aw hp.1.2;have h2:=hp.2;cases hv:fK vr (iE r g) with
    |none=>simp only[e2]
    |some x=>
     rw[hv] at h2;cases x with
     |one u0=>simp only[e2,aw h2]
     |cut c=>
      have h2:Nat.blt u c=true:=h2;simp only[e2,h2]
  . unfold jt;split<;>rfl
 have hget:∀{g u k},fN r vr m U g u=some k->fE m g=true/\∃u',U (dR r g) u'=some k/\(fK vr g=none/\u'=u\/(∃u0,fK vr g=some (.one u0)/\u=0)\/∃c,fK vr g=some (.cut c)/\u<c/\u'=u):=fun{g u k} hk=>by
  unfold fN at hk;split at hk
  . cases hk
  . rename_i hi;refine⟨hi,?_⟩;split at hk
    . exact⟨u,hk,.inl ⟨by assumption,rfl⟩⟩
    . rename_i u0 hv;split at hk
      . exact⟨u0,hk,.inr (.inl ⟨u0,hv,rfl⟩)⟩
      . cases hk
    . rename_i c hv;split at hk
      . rename_i hb;exact⟨u,hk,.inr (.inr ⟨c,hv,by rwa[cR] at hb,rfl⟩)⟩
      . cases hk
 refine⟨H,fN r vr m U,HLe.refl _,fun g u k hg hk=>?_,⟨hS.has,hS.below,hS.lo,hS.ext,fun g o hg=>?_,fun g u k hk=>?_,fun g1 g2 u1 u2 k1 k2 e1 e2 he=>?_,fun g hg=>?_⟩,fun t v hv=>?_⟩
 . rcases A6 h3.2.1 g hg with⟨a,b,c⟩|hp
   . unfold fN;rw[a,c,b];exact hk
   . exfalso;obtain⟨_,o,b,c⟩:=hS.dom g u k hk;rw[b] at hp;unfold BP at hp;split at hp
     . rename_i ho;cases ho;rcases c with c|c
       . cases c
       . exact absurd c.2 (Nat.not_lt_zero _)
     . cases hp
 . have hin:fE m g=true:=by
    cases hi:fE m g with
    |true=>rfl
    |false=>have hg:cJ m g=some o:=hg;rw[Hy hi] at hg;cases hg
   obtain⟨o',hm,ht⟩:=rK hin;have hg:cJ m g=some o:=hg;rw[ht] at hg;cases hg;have hbn:fK vr g=none->∀u,fN r vr m U g u=U (dR r g) u:=fun hv u=>by unfold fN;rw[hin,hv]
   have hbs:∀u0,fK vr g=some (.one u0)->(fN r vr m U g 0=U (dR r g) u0)/\∀u k,fN r vr m U g u=some k->u=0/\U (dR r g) u0=some k:=fun u0 hv=>by
    unfold fN;rw[hin,hv];refine⟨rfl,fun u k hk=>?_⟩;cases u with
    |zero=>exact⟨rfl,hk⟩
    |succ=>cases hk
   have hver:∀{e:TypeId} {cs cs1:List EV} {fz:Bool} {vs:List (Nat×Nat)} {cnt u0 p p1:Nat},fK vr g=some (.one u0)->s.h (dR r g)=some (.mem e cs fz vs cnt)->dV u0 vs=some p->p1<=p->p1<=cs1.length->(∀vs',CRL Z H U vs' (cs.take p1)->CRL Z H (fN r vr m U) vs' (cs1.take p1))->OR Z E.own w H (fN r vr m U) g (.mem e cs1 fz [(0,p1)] 1):=fun{e cs cs1 fz vs cnt u0 p p1} hv h hu hp hl hc=>by
    have ho:=hS.obj _ _ h;obtain⟨b1,b2⟩:=hbs u0 hv;obtain⟨_,k,arr,j2,j3,j4,j5,j6,j7,j8,j9⟩:=ho.2 u0 p (nS hu);refine⟨fun hf u k hk=>ho.1 hf _ _ (b2 u k hk).2,fun u q huq=>?_⟩;simp only[fQ,aA] at huq;obtain⟨rfl,rfl⟩:=huq;refine⟨Nat.one_pos,k,arr,by rw[b1];exact j2,j3,j4,j5,j6,hl,by omega,hc _ ?_⟩;have:=j9.take q;rwa[b6,b6,cg hp] at this
   cases wn h2 hm with
   |rn hv h h2 hi=>rw[<-h2];exact OR.rv hR (hbn hv) hi (hS.obj _ _ h)
   |same hv h hc=>rw[<-Oi (V:=jt r vr) hc];exact OR.rv hR (hbn hv) (Oy hc) (hS.obj _ _ h)
   | @ver e cs cs1 fz vs cnt u0 p p1 hv h hu hp hl hc hn=>
    refine hver hv h hu hp hl fun vs' hcr=>?_;rw[hc] at hcr;have hn':(cs1.take p1).flatMap bB=[]:=by
     cases hx:(cs1.take p1).flatMap bB with
     |nil=>rfl
     |cons i l=>
      have:i∈cs1.flatMap bB:=tC (p:=p1) (by rw[hx];simp);rw[hn] at this;cases this
    have:=CRL.rv hR (rj hn') hcr;rwa[ri hn'] at this
   | @verR e cs cs1 fz vs cnt u0 p p1 hv h hu hp hl hc hn=>
    refine hver hv h hu hp hl fun vs' hcr=>?_;rw[<-hc];exact CRL.rv hR hn hcr
   | @cut e cs cs1 fz vs vs1 cnt c pm hv h hu hl hc hn=>
    have ho:=hS.obj _ _ h;have hb:∀u,u<c->fN r vr m U g u=U (dR r g) u:=fun u hu=>by
     have hu':Nat.blt u c=true:=by rw[cR];exact hu
     unfold fN;rw[hin,hv];simp only[hu']
    refine⟨fun hf u k hk=>?_,fun u q huq=>?_⟩
    . obtain⟨_,u',hk',hcase⟩:=hget hk;exact ho.1 hf u' k hk'
    . obtain⟨j0,j1,p,hp,j2⟩:=hu _ huq;obtain⟨_,k,arr,i2,i3,i4,i5,i6,i7,i8,i9⟩:=ho.2 u p hp;have j1:q<=pm:=j1;have j2:q<=p:=j2;refine⟨j0,k,arr,by rw[hb u j0];exact i2,i3,i4,i5,i6,by omega,by omega,?_⟩;have h9:=i9.take q;rw[b6,b6,cg j2] at h9;have e9:cs.take q=cs1.take q:=by
       have:=congrArg (List.take q) hc;rwa[b6,b6,cg j1] at this
      rw[e9] at h9;have hn':(cs1.take q).flatMap bB=[]:=by
       cases hx:(cs1.take q).flatMap bB with
       |nil=>rfl
       |cons i l=>
        have:i∈cs1.flatMap bB:=tC (p:=q) (by rw[hx];simp);rw[hn] at this;cases this
      have:=CRL.rv hR (rj hn') h9;rwa[ri hn'] at this
   | @drop e cs cs1 fz vs vs1 cnt pm hv h hu hl hc hn=>
    have ho:=hS.obj _ _ h;refine⟨fun hf u k hk=>ho.1 hf u k (by rw[<-hbn hv];exact hk),fun u q huq=>?_⟩;obtain⟨j1,p,hp,j2⟩:=hu _ huq;obtain⟨j0,k,arr,i2,i3,i4,i5,i6,i7,i8,i9⟩:=ho.2 u p hp;have j1:q<=pm:=j1;have j2:q<=p:=j2;refine⟨j0,k,arr,by rw[hbn hv];exact i2,i3,i4,i5,i6,by omega,by omega,?_⟩;have h9:=i9.take q;rw[b6,b6,cg j2] at h9;have e9:cs.take q=cs1.take q:=by
     have:=congrArg (List.take q) hc;rwa[b6,b6,cg j1] at this
    rw[e9] at h9;have hn':(cs1.take q).flatMap bB=[]:=by
     cases hx:(cs1.take q).flatMap bB with
     |nil=>rfl
     |cons i l=>
      have:i∈cs1.flatMap bB:=tC (p:=q) (by rw[hx];simp);rw[hn] at this;cases this
    have:=CRL.rv hR (rj hn') h9;rwa[ri hn'] at this
   |ph h=>
    have hno:∀u,fN r vr m U g u=none:=fun u=>by
     cases hk:fN r vr m U g u with
     |none=>rfl
     |some k=>obtain⟨_,u',hk',_⟩:=hget hk;rw[hnone _ h] at hk';cases hk'
    exact⟨fun _ u k hk=>(by rw[hno] at hk;cases hk),fun u p hup=>(by cases hup)⟩
 . obtain⟨hin,u',hk',hcase⟩:=hget hk;obtain⟨o,hm,ht⟩:=rK hin;obtain⟨a,o0,b,c⟩:=hS.dom _ _ _ hk';refine⟨a,o,ht,?_⟩;cases wn h2 hm with
   |rn hv h h2 hi=>
    rw[h] at b;cases b;rcases hcase with⟨_,rfl⟩|⟨u0,e,_⟩|⟨c,e,_⟩
    rotate_left
    . rw[hv] at e;cases e
    . rw[hv] at e;cases e
    . rw[<-h2];refine c.imp (fun e=>by rw[e];rfl) fun c=>⟨c.1,?_⟩;have:(sS (jt r vr) o0).cnt=o0.cnt:=by cases o0<;>rfl
      rw[this];exact c.2
   |same hv h hc=>
    rw[h] at b;cases b;rcases hcase with⟨_,rfl⟩|⟨u0,e,_⟩|⟨c,e,_⟩
    . exact c
    . rw[hv] at e;cases e
    . rw[hv] at e;cases e
   |drop hv h hu hl hc hn=>
    rw[h] at b;cases b;rcases hcase with⟨_,rfl⟩|⟨u0,e,_⟩|⟨c,e,_⟩
    . exact .inr (c.resolve_left (by simp))
    . rw[hv] at e;cases e
    . rw[hv] at e;cases e
   | @cut e cs cs1 fz vs vs1 cnt c0 pm hv h hu hl hc hn=>
    rw[h] at b;cases b;rcases hcase with⟨e,_⟩|⟨u0,e,_⟩|⟨c',e,e2,rfl⟩
    . rw[hv] at e;cases e
    . rw[hv] at e;cases e
    . rw[hv] at e;cases e;rcases c with c|c
      . cases c
      . exact .inr ⟨c.1,e2⟩
   |ver hv h hu hp hl hc hn=>
    rw[h] at b;cases b;rcases hcase with⟨e,_⟩|⟨u0,_,rfl⟩|⟨c',e,_⟩
    . rw[hv] at e;cases e
    rotate_left
    . rw[hv] at e;cases e
    . rcases c with c|c
      . cases c
      . exact .inr ⟨c.1,Nat.one_pos⟩
   |verR hv h hu hp hl hc hn=>
    rw[h] at b;cases b;rcases hcase with⟨e,_⟩|⟨u0,_,rfl⟩|⟨c',e,_⟩
    . rw[hv] at e;cases e
    rotate_left
    . rw[hv] at e;cases e
    . rcases c with c|c
      . cases c
      . exact .inr ⟨c.1,Nat.one_pos⟩
   |ph h=>rw[h] at b;cases b
 . obtain⟨i1,u1',f1,_⟩:=hget e1;obtain⟨i2,u2',f2,_⟩:=hget e2;exact AD h3.1 i1 i2 (hS.inj _ _ _ _ _ _ f1 f2 he)
 . obtain⟨a,b⟩:=hS.hidb g hg;rcases A6 h3.2.1 g (hE g hg) with⟨i1,i2,i3⟩|hp
   . refine⟨?_,fun u=>by unfold fN;rw[i1,i3,i2];exact b u⟩;obtain⟨o,hm,ht⟩:=rK i1;show cJ m g=_;rw[ht];have hb:=wn h2 hm;rw[i2,a] at hb;cases hb with
     |rn hv h h2 hi=>cases h;rw[<-h2];rfl
     |same hv h hc=>cases h;rfl
     |ver hv h hu hp hl hc hn=>cases h
     |verR hv h hu hp hl hc hn=>cases h
     |cut hv h hu hl hc hn=>cases h
     |drop hv h hu hl hc hn=>cases h
     |ph h=>cases h
   . rw[a] at hp;cases hp
 . show SRe Z H (fN r vr m U) v (oF l t);induction l with
   |nil=>exact trivial
   |cons p l ih=>
    obtain⟨k,x⟩:=p;unfold oF;cases hb:Nat.beq t k with
    |true=>
     have:=aw hb;subst this;rw[ai];cases h1.1 with
     |rn h hi=>rw[<-h];exact SRe.rv hR hi hv
     |same h hi=>
      rw[h] at hv hi;have:=SRe.rv hR (Oz (P:=sW r vr m) hi) hv;rwa[NV hi] at this
    |false=>exact ih h1.2
structure FzB(h:Hp)(g u n:Nat)(es:List IV):Prop where
 ex:∃e cs vs cnt sz p,h g=some (.mem e cs false vs cnt)/\dV u vs=some p/\n=es.length/\dT sz es=true/\n*sz<=p/\cs.take (n*sz)=(es.flatMap IV.cells).map .iv
theorem JL{h:Hp}{g u n:Nat}{es:List IV}{e:TypeId}{cs:List EV}{vs:List (Nat×Nat)}{cnt p:Nat}(sz:Nat)(hg:h g=some (.mem e cs false vs cnt))(hv:dV u vs=some p)(hn:n=es.length)(hsz:dT sz es=true)(hp:n*sz<=p)(hc:cs.take (n*sz)=(es.flatMap IV.cells).map .iv):FzB h g u n es :=
 ⟨e,cs,vs,cnt,sz,p,hg,hv,hn,hsz,hp,hc⟩
theorem Ta{Z:QS}{E:EEnv}{H:ah}{U:Bm}{h:Hp}{w:World}(hS:ESim Z E H U h w){g u n:Nat}{es:List IV}(hb:FzB h g u n es) :
 ∃H',HLe H H'/\ESim Z E H' U (aD h g (some .hid)) w/\∀cap v,CR Z H U v (.slc g u 0 n cap)->CR Z H' U v (.iv (.sl es)):=by
 obtain⟨e,cs,vs,cnt,sz,p,hg,hv,hn,hsz,hp,hc⟩:=hb.ex;obtain⟨H',k,arr,k1,k2,k3,k4,k5,k6,k7⟩:=hS.freeze hg (nS hv);refine⟨H',k2,k3,fun cap v hv'=>?_⟩;obtain⟨k',c,e1,rfl,e2,e3⟩:=hv';rw[k1] at e1;cases e1;refine⟨rfl,?_⟩;have h5:=k5.take (n*sz);rw[b6,b6,cg hp,hc] at h5;obtain⟨vs',v1,v2,v3⟩:=zY hsz h5;have hl:=v1.length;refine VR.sl k.1 0 n c sz arr vs' es k4 (v1.mono k2) hn e2 v3 ?_;rw[bJ,v2,hl,<-hn]
inductive FzC(g u n:Nat)(es:List IV):EV->EV->Prop
 |same (x:EV):FzC g u n es x x
 |fz (cap:Cap):FzC g u n es (.slc g u 0 n cap) (.iv (.sl es))
inductive FzL(g u n:Nat)(es:List IV):List EV->List EV->Prop
 |same (cs:List EV):FzL g u n es cs cs
 |cons {x y:EV} {xs ys:List EV} (h:FzC g u n es x y) (t:FzL g u n es xs ys):FzL g u n es (x::xs) (y::ys)
 |app {a b c d:List EV} (h:FzL g u n es a b) (t:FzL g u n es c d):FzL g u n es (a++c) (b++d)
theorem FzL.get{g u n:Nat}{es:List IV}{cs cs':List EV}(h:FzL g u n es cs cs'):cs.length=cs'.length/\∀(i:Nat) (y:EV),cs'[i]?=some y->∃x,cs[i]?=some x/\FzC g u n es x y:=by
 induction h with
 |same cs=>exact⟨rfl,fun i y hy=>⟨y,hy,.same y⟩⟩
 |cons h t ih=>
  refine⟨by simp[ih.1],fun i y hy=>?_⟩;cases i with
  |zero=>simp at hy;subst hy;exact⟨_,rfl,h⟩
  |succ i=>simp at hy;simpa using ih.2 i y hy
 |app h t ih1 ih2=>
  refine⟨by simp[ih1.1,ih2.1],fun i y hy=>?_⟩;rw[zi] at hy ⊢;rw[ih1.1];split at hy
  . rename_i hlt;rw[ar hlt];exact ih1.2 i y hy
  . rename_i hlt;rw[al hlt];exact ih2.2 _ y hy
theorem FzL.take{Z:QS}{H H':ah}{U:Bm}{g u n:Nat}{es:List IV}{cs cs':List EV}(h:FzL g u n es cs cs')(hf:∀cap v,CR Z H U v (.slc g u 0 n cap)->CR Z H' U v (.iv (.sl es))){vs:List Value}{p:Nat}(hv:CRL Z H' U vs (cs.take p)):CRL Z H' U vs (cs'.take p):=by
 obtain⟨hl,hget⟩:=h.get;refine OU (by rw[hv.length,b9,b9,hl]) fun i v y h1 h2=>?_;have hi:i<p:=by
  have:=(List.getElem?_eq_some_iff.1 h2).1;rw[b9] at this;omega
 rw[cL,ar hi] at h2;obtain⟨x,hx,hc⟩:=hget i y h2;obtain⟨v',e1,e2⟩:=hv.get i x (by rw[cL,ar hi];exact hx);rw[h1] at e1;cases e1;cases hc with
 |same=>exact e2
 |fz cap=>exact hf cap v e2
def FzO(g u n:Nat)(es:List IV)(x:Option EO)(o':EO):Prop:=∃e cs cs' fz vs cnt,x=some (.mem e cs fz vs cnt)/\o'=.mem e cs' fz vs cnt/\FzL g u n es cs cs'
theorem FzO.mk{g u n:Nat}{es:List IV}{x:Option EO}{e:TypeId}{cs cs':List EV}{fz:Bool}{vs:List (Nat×Nat)}{cnt:Nat}(h:x=some (.mem e cs fz vs cnt))(hl:FzL g u n es cs cs'):FzO g u n es x (.mem e cs' fz vs cnt):=⟨e,cs,cs',fz,vs,cnt,h,rfl,hl⟩
def DB(g u n:Nat)(es:List IV)(h:Hp):List (Nat×EO)->Prop
 | []=>True
 | (g',o)::l=>(g'≠g/\FzO g u n es (h g') o)/\DB g u n es h l
def DA(g u n:Nat)(tm:Nat->ES):List Nat->Prop
 | []=>True
 |t::l=>(∃cap,tm t=.w (.one (.slc g u 0 n cap)))/\DA g u n tm l
theorem HH{g u n:Nat}{tm:Nat->ES}{t:Nat}:∀{l:List Nat},DA g u n tm l->t∈l->∃cap,tm t=.w (.one (.slc g u 0 n cap))
 |x::l,⟨h1,h2⟩,hm=>by
  rcases List.mem_cons.1 hm with rfl|hm
  . exact h1
  . exact HH h2 hm
theorem t8{g u n:Nat}{es:List IV}{h:Hp}{g':Nat}:∀{l:List (Nat×EO)},DB g u n es h l->∀{o},cJ l g'=some o->g'≠g/\FzO g u n es (h g') o
 | (k,o')::l,⟨h1,h2⟩,o,hm=>by
   unfold cJ at hm;cases hb:Nat.beq g' k with
   |true=>
    rw[hb,ai] at hm;cases hm;rw[aw hb];exact h1
   |false=>rw[hb,aW] at hm;exact t8 h2 hm
def V5(s:SS)(g:Nat)(es:List IV)(ts:List Nat)(bs:List (Nat×EO)):SS :=
 ⟨fun t=>bif bL t ts then ac (.sl es) else s.tm t,fun g'=>bif Nat.beq g' g then some .hid else(match cJ bs g' with
  |some o=>some o
  |none=>s.h g'),s.nx⟩
theorem KC{nP:Nat}{s:SS}{g u n:Nat}{es:List IV}(ts:List Nat)(bs:List (Nat×EO))(hb:FzB s.h g u n es)(ht:DA g u n s.tm ts)(hbs:DB g u n es s.h bs):Tr nP s (V5 s g es ts bs):=fun hf=>by
 have hgs:s.h g≠none:=by
  obtain⟨e,cs,vs,cnt,sz,p,hg,_⟩:=hb.ex;rw[hg];simp
 refine⟨fun g' hg'=>?_,fun Z E H U w hS hE=>?_⟩
 . have h0:=hf g' hg';show(bif Nat.beq g' g then some EO.hid else(match cJ bs g' with|some o=>some o|none=>s.h g'))=none;cases hb':Nat.beq g' g with
   |true=>rw[aw hb'] at h0;exact absurd h0 hgs
   |false=>
    rw[aW];cases ht':cJ bs g' with
    |none=>exact h0
    |some o=>obtain⟨_,e,cs,cs',fz,vs,cnt,h1,_⟩:=t8 hbs ht';rw[h0] at h1;cases h1
 . obtain⟨H',k1,k2,k3⟩:=Ta hS hb;refine⟨H',U,k1,BLeP.refl _ _,⟨k2.has,k2.below,k2.lo,k2.ext,fun g' o hg'=>?_,fun g' u' k hk=>?_,k2.inj,fun g' hg'=>?_⟩,fun t v hv=>?_⟩
   . have hg':(bif Nat.beq g' g then some EO.hid else(match cJ bs g' with|some o=>some o|none=>s.h g'))=some o:=hg';cases hb':Nat.beq g' g with
     |true=>rw[hb',ai] at hg';cases hg';trivial
     |false=>
      rw[hb',aW] at hg';have hne:g'≠g:=fun e=>by rw[e,bj] at hb';cases hb'
      cases ht':cJ bs g' with
      |none=>
       rw[ht'] at hg';exact k2.obj g' o (by rw[aG _ _ _ hne];exact hg')
      |some o'=>
       rw[ht'] at hg';cases hg';obtain⟨_,e,cs,cs',fz,vs,cnt,h1,rfl,h3⟩:=t8 hbs ht';have ho:=k2.obj g' _ (by rw[aG _ _ _ hne];exact h1);refine⟨ho.1,fun u' p hup=>?_⟩;obtain⟨j1,k,arr,j2,j3,j4,j5,j6,j7,j8,j9⟩:=ho.2 u' p hup;exact⟨j1,k,arr,j2,j3,j4,j5,j6,by rw[<-h3.get.1];exact j7,j8,h3.take k3 j9⟩
   . obtain⟨a,o,b,c⟩:=k2.dom g' u' k hk;refine⟨a,?_⟩;show ∃o,(bif Nat.beq g' g then some EO.hid else(match cJ bs g' with|some o=>some o|none=>s.h g'))=some o/\_;cases hb':Nat.beq g' g with
     |true=>exact⟨.hid,rfl,.inl rfl⟩
     |false=>
      have hne:g'≠g:=fun e=>by rw[e,bj] at hb';cases hb'
      rw[aG _ _ _ hne] at b;rw[aW];cases ht':cJ bs g' with
      |none=>exact⟨o,b,c⟩
      |some o'=>
       obtain⟨_,e,cs,cs',fz,vs,cnt,h1,rfl,h3⟩:=t8 hbs ht';rw[h1] at b;cases b;exact⟨_,rfl,.inr (c.resolve_left (by simp))⟩
   . obtain⟨a,b⟩:=hS.hidb g' hg';refine⟨?_,b⟩;show(bif Nat.beq g' g then some EO.hid else(match cJ bs g' with|some o=>some o|none=>s.h g'))=some .hid;cases hb':Nat.beq g' g with
     |true=>rfl
     |false=>
      rw[aW];cases ht':cJ bs g' with
      |none=>exact a
      |some o'=>obtain⟨_,e,cs,cs',fz,vs,cnt,h1,_⟩:=t8 hbs ht';rw[a] at h1;cases h1
   . show SRe Z H' U v (bif bL t ts then ac (.sl es) else s.tm t);cases hm:bL t ts with
     |true=>
      obtain⟨cap,hc⟩:=HH ht (ji.1 hm);rw[hc] at hv;exact k3 cap v hv
     |false=>exact hv.mono k1 (BLe.refl _)
theorem WU{a b:Nat}(h:Nat.beq a b=false):a≠b:=fun e=>by
 subst e;rw[bj] at h;cases h
theorem iD{V:Nat->Nat}:qk V [] []:=trivial
theorem ii{V:Nat->Nat}{o o':EO}{l l':List EO}(h:OZ V o o')(t:qk V l l'):qk V (o::l) (o'::l'):=⟨h,t⟩
theorem bM{X:EX}{nx:Nat}{f:FuncId}{xs:List IV}{r:IV}{args:List ES}{h:Hp}{K:ES->Wr->Nat->Option (List Nat)->Prop}(c:aY X.P X.I f xs r)(ha:args=xs.map dS)(hn:jn xs=true)(hr:qG r=true)(hK:K (dS r) [] 0 (some [])):eX X nx f args h K:=.inl ⟨xs,r,c,ha,hn,hr,hK⟩
end Go.Proofs.En
namespace Go.Proofs.Reg
abbrev Pw:=List Int
abbrev Tm:=Pw×Rat
def sumI:List Int->Int
 | []=>0
 |x::l=>x+sumI l
def co:Pw->Pw->Int
 |x::a,y::b=>if y<x then -1 else if x<y then 1 else co a b
 |_,_=>0
def bp(a b:Pw):Int:=if sumI a≠sumI b then(if sumI a<sumI b then -1 else 1) else co a b
theorem Gs:∀a b:Pw,co a b = -1\/co a b=0\/co a b=1
 | [],_=>by simp[co]
 |_::_,[]=>by simp[co]
 |x::a,y::b=>by
  unfold co;split
  . exact .inl rfl
  . split
    . exact .inr (.inr rfl)
    . exact Gs a b
theorem nO(a b:Pw):bp a b = -1\/bp a b=0\/bp a b=1:=by
 unfold bp;split
 . split
   . exact .inl rfl
   . exact .inr (.inr rfl)
 . exact Gs a b
theorem Gt:∀a b:Pw,co b a = -co a b
 | [],[]=>by simp[co]
 | [],_::_=>by simp[co]
 |_::_,[]=>by simp[co]
 |x::a,y::b=>by
  unfold co;have ih:=Gt a b;by_cases h1:y<x
  . rw[al (by omega),ar h1,ar h1];rfl
  . by_cases h2:x<y
    . rw[ar h2,al h1,ar h2]
    . rw[al h2,al h1,al h1,al h2,ih]
theorem pt(a b:Pw):bp b a = -bp a b:=by
 unfold bp;by_cases h:sumI a=sumI b
 . rw[al (by simp[h]),al (by simp[h]),Gt]
 . rw[ar (fun e=>h e.symm),ar h];by_cases h2:sumI a<sumI b
   . rw[al (by omega),ar h2];rfl
   . rw[ar (by omega),al h2]
theorem Gr:∀{a b:Pw},a.length=b.length->co a b=0->a=b
 | [],[],_,_=>rfl
 |x::a,y::b,hl,h=>by
  unfold co at h;split at h
  . cases h
  . split at h
    . cases h
    . have:=Gr (by simpa using hl) h;rw[this,show x=y by omega]
 | [],_::_,hl,_=>by simp at hl
 |_::_,[],hl,_=>by simp at hl
theorem rB{a b:Pw}(hl:a.length=b.length)(h:bp a b=0):a=b:=by
 unfold bp at h;split at h
 . split at h<;>cases h
 . exact Gr hl h
theorem Gu:∀a:Pw,co a a=0
 | []=>rfl
 |x::a=>by unfold co;rw[al (by omega),al (by omega)];exact Gu a
theorem tX(a:Pw):bp a a=0:=by unfold bp;rw[al (by simp)];exact Gu a
theorem FH:∀{a b c:Pw},a.length=b.length->b.length=c.length->co a b = -1->co b c = -1->co a c = -1
 | [],_,_,_,_,h,_=>by simp[co] at h
 |_::_,[],_,hl,_,_,_=>by simp at hl
 |_::_,_::_,[],_,hl,_,_=>by simp at hl
 |x::a,y::b,z::c,h1,h2,h,k=>by
  unfold co at h k ⊢;by_cases e1:y<x
  . by_cases e2:z<y
    . rw[ar (by omega)]
    . rw[al e2] at k;by_cases e3:y<z
      . rw[ar e3] at k;cases k
      . rw[ar (by omega)]
  . rw[al e1] at h;by_cases e2:x<y
    . rw[ar e2] at h;cases h
    . rw[al e2] at h;by_cases e3:z<y
      . rw[ar (by omega)]
      . rw[al e3] at k;by_cases e4:y<z
        . rw[ar e4] at k;cases k
        . rw[al e4] at k;rw[al (by omega),al (by omega)];exact FH (by simpa using h1) (by simpa using h2) h k
theorem tP{a b c:Pw}(h1:a.length=b.length)(h2:b.length=c.length)(h:bp a b = -1)(k:bp b c = -1):bp a c = -1:=by
 unfold bp at h k ⊢;by_cases e1:sumI a=sumI b
 . rw[al (by simp[e1])] at h;by_cases e2:sumI b=sumI c
   . rw[al (by simp[e2])] at k;rw[al (by rw[e1,e2];simp)];exact FH h1 h2 h k
   . rw[ar e2] at k;rw[ar (by rw[e1];exact e2)];by_cases e3:sumI b<sumI c
     . rw[ar (by omega)]
     . rw[al e3] at k;cases k
 . rw[ar e1] at h;by_cases e3:sumI a<sumI b
   . by_cases e2:sumI b=sumI c
     . rw[ar (by omega),ar (by omega)]
     . rw[ar e2] at k;by_cases e4:sumI b<sumI c
       . rw[ar (by omega),ar (by omega)]
       . rw[al e4] at k;cases k
   . rw[al e3] at h;cases h
def bl(f:List Tm)(p:Pw):Rat:=match f with
 | []=>0
 |t::f=>(if t.1=p then t.2 else 0)+bl f p
theorem PS{f g:List Tm}(h:f.Perm g)(p:Pw):bl f p=bl g p:=by
 induction h with
 |nil=>rfl
 |cons x _ ih=>simp only[bl,ih]
 |swap x y l=>simp only[bl,<-nI,vR (if x.1=p then x.2 else 0)]
 |trans _ _ h1 h2=>rw[h1,h2]
theorem Fm(f:List Tm)(p:Pw):bl (f.filter fun t=>decide (t.2≠0)) p=bl f p:=by
 induction f with
 |nil=>rfl
 |cons t f ih=>
  by_cases h:t.2=0
  . rw[Xz (by simp[h]),ih];simp[bl,h,zS]
  . rw[XA (by simp[h])];simp only[bl,ih]
theorem HU{f:List Tm}{p:Pw}(h:∀t∈f,t.1≠p):bl f p=0:=by
 induction f with
 |nil=>rfl
 |cons t f ih=>
  simp only[bl];rw[al (h t (by simp)),ih fun t ht=>h t (by simp[ht]),zS]
def gg(f:List Tm):Prop:=f.Pairwise fun a b=>bp a.1 b.1 = -1
theorem tV{t:Tm}{f:List Tm}(hs:gg (t::f)):bl (t::f) t.1=t.2:=by
 simp only[bl,bD];rw[HU (f:=f) (p:=t.1) fun u hu e=>?_,zT];have:=(List.pairwise_cons.1 hs).1 u hu;rw[e,tX] at this;cases this
theorem E9{n:Nat}:∀{f g:List Tm},(∀t∈f,t.1.length=n)->(∀t∈g,t.1.length=n)->gg f->gg g->(∀t∈f,t.2≠0)->(∀t∈g,t.2≠0)->(∀p,bl f p=bl g p)->f=g
 | [],[],_,_,_,_,_,_,_=>rfl
 | [],t::g,_,_,_,hs,_,hz,h=>by
  have:=h t.1;rw[tV hs] at this;exact absurd this.symm (hz t (by simp))
 |t::f,[],_,_,hs,_,hz,_,h=>by
  have:=h t.1;rw[tV hs] at this;exact absurd this (hz t (by simp))
 |t::f,u::g,hn,hm,hf,hg,hzf,hzg,h=>by
  have key:∀{t u:Tm} {f g:List Tm},(∀x∈t::f,x.1.length=n)->(∀x∈u::g,x.1.length=n)->gg (t::f)->gg (u::g)->(∀x∈t::f,x.2≠0)->(∀p,bl (t::f) p=bl (u::g) p)->bp t.1 u.1≠ -1:=by
   intro t u f g h1 h2 hf hg hz h hb;have e:=h t.1;rw[tV hf] at e;have:bl (u::g) t.1=0:=HU fun x hx ex=>by
    rcases List.mem_cons.1 hx with rfl|hx
    . rw[ex,tX] at hb;cases hb
    . have h3:=(List.pairwise_cons.1 hg).1 x hx;have h4:=tP (by rw[h1 t (by simp),h2 u (by simp)]) (by rw[h2 u (by simp),h2 x (by simp[hx])]) hb h3;rw[ex,tX] at h4;cases h4
   rw[this] at e;exact hz t (by simp) e
  have a1:=key hn hm hf hg hzf h;have a2:=key hm hn hg hf hzg fun p=>(h p).symm;have e0:bp t.1 u.1=0:=by
   rcases nO t.1 u.1 with e|e|e
   . exact absurd e a1
   . exact e
   . rw[pt,e] at a2;simp at a2
  have e1:t.1=u.1:=rB (by rw[hn t (by simp),hm u (by simp)]) e0;have e2:t.2=u.2:=by
   have:=h t.1;rw[tV hf,e1,tV hg] at this;exact this
  have et:t=u:=EB e1 e2;subst et;congr 1;refine E9 (fun x hx=>hn x (by simp[hx])) (fun x hx=>hm x (by simp[hx])) (List.pairwise_cons.1 hf).2 (List.pairwise_cons.1 hg).2 (fun x hx=>hzf x (by simp[hx])) (fun x hx=>hzg x (by simp[hx])) fun p=>?_;have:=h p;simp only[bl] at this;have h2:=congrArg (fun z => -(if t.1=p then t.2 else 0)+z) this;simpa[<-nI,Rat.neg_add_cancel,zS] using h2
def cW(t:Tm):Bool->List Tm->List Tm
 |d,[]=>if d then [] else [t]
 |d,o::os=>(if !d&&decide (bp t.1 o.1<0) then [t] else [])++(if bp t.1 o.1=0 then(o.1,o.2+t.2) else o)::cW t (d||decide (bp t.1 o.1<0)||decide (bp t.1 o.1=0)) os
def qp(f:List Tm):List Tm:=f.foldl (fun out t=>cW t false out) []
def aN(f:List Tm):List Tm:=(qp f).filter fun t=>decide (t.2≠0)
theorem AK{t:Tm}:∀{os:List Tm},(∀o∈os,bp t.1 o.1≠0)->cW t true os=os
 | [],_=>rfl
 |o::os,h=>by
  unfold cW;rw[al (by simp),al (h o (by simp))];simp only[Bool.true_or];rw[AK fun o ho=>h o (by simp[ho])];rfl
theorem I7{n:Nat}{t:Tm}(ht:t.1.length=n):∀{os:List Tm},(∀o∈os,o.1.length=n)->gg os->gg (cW t false os)/\(∀x∈cW t false os,x.1=t.1\/∃o∈os,x.1=o.1)/\∀p,bl (cW t false os) p=bl os p+(if t.1=p then t.2 else 0)
 | [],_,_=>⟨MP _ _,fun x hx=>by simp[cW] at hx;exact .inl (by rw[hx]),fun p=>by simp[cW,bl,vR]⟩
 |o::os,hn,hs=>by
  have hno:=hn o (by simp);have hns:∀x∈os,x.1.length=n:=fun x hx=>hn x (by simp[hx]);obtain⟨hs1,hs2⟩:=List.pairwise_cons.1 hs;rcases nO t.1 o.1 with e|e|e
  . -- ahead
    have hne:∀x∈os,bp t.1 x.1 = -1:=fun x hx=>tP (by rw[ht,hno]) (by rw[hno,hns x hx]) e (hs1 x hx);have hi:cW t false (o::os)=t::o::os:=by
     unfold cW;rw[e];simp only[Bool.not_false,qW,vo];rw[ar (by decide),al (by decide)];rw[show(decide ((-1:Int)<0)||decide ((-1:Int)=0))=true from rfl,AK fun x hx=>by rw[hne x hx];decide];rfl
    rw[hi];refine⟨List.pairwise_cons.2 ⟨fun x hx=>?_,hs⟩,fun x hx=>?_,fun p=>by simp only[bl];rw[vR]⟩
    . rcases List.mem_cons.1 hx with rfl|hx
      . exact e
      . exact hne x hx
    . rcases List.mem_cons.1 hx with rfl|hx
      . exact .inl rfl
      . exact .inr ⟨x,hx,rfl⟩
  . -- there
    have eo:t.1=o.1:=rB (by rw[ht,hno]) e;have hne:∀x∈os,bp t.1 x.1≠0:=fun x hx=>by rw[eo,hs1 x hx];decide
    have hi:cW t false (o::os)=(o.1,o.2+t.2)::os:=by
     unfold cW;rw[e];simp only[Bool.not_false,qW,vo];rw[al (by decide),ar trivial];rw[show(decide ((0:Int)<0)||decide True)=true from rfl,AK hne];rfl
    rw[hi];refine⟨List.pairwise_cons.2 ⟨fun x hx=>hs1 x hx,hs2⟩,fun x hx=>?_,fun p=>?_⟩
    . rcases List.mem_cons.1 hx with rfl|hx
      . exact .inr ⟨o,by simp,rfl⟩
      . exact .inr ⟨x,by simp[hx],rfl⟩
    . simp only[bl,eo];split
      . rw[nI,nI,vR t.2]
      . rw[zT]
  . -- behind
    obtain⟨i1,i2,i3⟩:=I7 ht hns hs2;have hi:cW t false (o::os)=o::cW t false os:=by
     conv=>lhs;unfold cW
     rw[e];rfl
    rw[hi];refine⟨List.pairwise_cons.2 ⟨fun x hx=>?_,i1⟩,fun x hx=>?_,fun p=>by simp only[bl,i3,nI]⟩
    . rcases i2 x hx with h|⟨y,hy,h⟩
      . rw[h,pt,e]
      . rw[h];exact hs1 y hy
    . rcases List.mem_cons.1 hx with rfl|hx
      . exact .inr ⟨x,by simp,rfl⟩
      . exact(i2 x hx).imp id fun⟨y,hy,h⟩=>⟨y,by simp[hy],h⟩
theorem S5{n:Nat}{f:List Tm}(hn:∀t∈f,t.1.length=n):gg (qp f)/\(∀t∈qp f,t.1.length=n)/\∀p,bl (qp f) p=bl f p:=by
 have key:∀(f out:List Tm),(∀t∈f,t.1.length=n)->gg out->(∀t∈out,t.1.length=n)->gg (f.foldl (fun out t=>cW t false out) out)/\(∀t∈f.foldl (fun out t=>cW t false out) out,t.1.length=n)/\∀p,bl (f.foldl (fun out t=>cW t false out) out) p=bl out p+bl f p:=by
  intro f;induction f with
  |nil=>intro out _ hs hl;exact⟨hs,hl,fun p=>by simp[bl,zT]⟩
  |cons t f ih=>
   intro out hn hs hl;obtain⟨i1,i2,i3⟩:=I7 (hn t (by simp)) hl hs;obtain⟨j1,j2,j3⟩:=ih (cW t false out) (fun t ht=>hn t (by simp[ht])) i1 fun x hx=>by
    rcases i2 x hx with h|⟨y,hy,h⟩
    . rw[h];exact hn t (by simp)
    . rw[h];exact hl y hy
   exact⟨j1,j2,fun p=>by simp only[iw,j3,i3,bl,nI]⟩
 obtain⟨a,b,c⟩:=key f [] hn List.Pairwise.nil (fun _ h=>by cases h);exact⟨a,b,fun p=>by rw[show qp f=f.foldl (fun out t=>cW t false out) [] from rfl,c];simp[bl,zS]⟩
theorem ug{n:Nat}{f:List Tm}(hn:∀t∈f,t.1.length=n):gg (aN f)/\(∀t∈aN f,t.1.length=n)/\(∀t∈aN f,t.2≠0)/\∀p,bl (aN f) p=bl f p:=by
 obtain⟨h1,h2,h3⟩:=S5 hn;refine⟨h1.filter _,fun t ht=>h2 t (List.mem_filter.1 ht).1,fun t ht=>by simpa using(List.mem_filter.1 ht).2,fun p=>?_⟩;unfold aN;rw[Fm,h3]
theorem JB{n:Nat}{f g:List Tm}(hn:∀t∈f,t.1.length=n)(hg:∀t∈g,t.1.length=n)(hs:gg g)(hz:∀t∈g,t.2≠0)(h:∀p,bl g p=bl f p):g=aN f:=by
 obtain⟨h1,h2,h3,h4⟩:=ug hn;exact E9 hg h2 hs h1 hz h3 fun p=>by rw[h,h4]
def bX(t:Tm):List Tm->List Tm
 | []=>[t]
 |o::os=>if o.1=t.1 then(o.1,o.2+t.2)::os else o::bX t os
def bk(f:List Tm):List Tm:=f.foldl (fun out t=>bX t out) []
def mU(f:List Tm):Prop:=f.Pairwise fun a b=>a.1≠b.1
theorem HF(t:Tm):∀{os:List Tm},mU os->mU (bX t os)/\(∀x∈bX t os,x.1=t.1\/∃o∈os,x.1=o.1)/\∀p,bl (bX t os) p=bl os p+(if t.1=p then t.2 else 0)
 | [],_=>⟨MP _ _,fun x hx=>by simp[bX] at hx;exact .inl (by rw[hx]),fun p=>by simp[bX,bl,vR]⟩
 |o::os,hs=>by
  obtain⟨h1,h2⟩:=List.pairwise_cons.1 hs;unfold bX;by_cases e:o.1=t.1
  . rw[ar e];refine⟨List.pairwise_cons.2 ⟨h1,h2⟩,fun x hx=>?_,fun p=>?_⟩
    . rcases List.mem_cons.1 hx with rfl|hx
      . exact .inl e
      . exact .inr ⟨x,by simp[hx],rfl⟩
    . simp only[bl,e];split
      . rw[nI,nI,vR t.2]
      . rw[zT]
  . rw[al e];obtain⟨i1,i2,i3⟩:=HF t h2;refine⟨List.pairwise_cons.2 ⟨fun x hx=>?_,i1⟩,fun x hx=>?_,fun p=>by simp only[bl,i3,nI]⟩
    . rcases i2 x hx with h|⟨y,hy,h⟩
      . rw[h];exact e
      . rw[h];exact h1 y hy
    . rcases List.mem_cons.1 hx with rfl|hx
      . exact .inr ⟨x,by simp,rfl⟩
      . exact(i2 x hx).imp id fun⟨y,hy,h⟩=>⟨y,by simp[hy],h⟩
theorem B0{n:Nat}{f:List Tm}(hn:∀t∈f,t.1.length=n):mU (bk f)/\(∀t∈bk f,t.1.length=n)/\∀p,bl (bk f) p=bl f p:=by
 have key:∀(f out:List Tm),(∀t∈f,t.1.length=n)->mU out->(∀t∈out,t.1.length=n)->mU (f.foldl (fun out t=>bX t out) out)/\(∀t∈f.foldl (fun out t=>bX t out) out,t.1.length=n)/\∀p,bl (f.foldl (fun out t=>bX t out) out) p=bl out p+bl f p:=by
  intro f;induction f with
  |nil=>intro out _ hs hl;exact⟨hs,hl,fun p=>by simp[bl,zT]⟩
  |cons t f ih=>
   intro out hn hs hl;obtain⟨i1,i2,i3⟩:=HF t hs;obtain⟨j1,j2,j3⟩:=ih (bX t out) (fun t ht=>hn t (by simp[ht])) i1 fun x hx=>by
    rcases i2 x hx with h|⟨y,hy,h⟩
    . rw[h];exact hn t (by simp)
    . rw[h];exact hl y hy
   exact⟨j1,j2,fun p=>by simp only[iw,j3,i3,bl,nI]⟩
 obtain⟨a,b,c⟩:=key f [] hn List.Pairwise.nil (fun _ h=>by cases h);exact⟨a,b,fun p=>by rw[show bk f=f.foldl (fun out t=>bX t out) [] from rfl,c];simp[bl,zS]⟩
theorem N2{n:Nat}{f g:List Tm}(hn:∀t∈f,t.1.length=n)(hp:g.Perm ((bk f).filter fun t=>decide (t.2≠0)))(hs:g.Pairwise fun a b=>¬bp b.1 a.1<0):g=aN f:=by
 obtain⟨h1,h2,h3⟩:=B0 hn;have hm:∀t∈g,t∈bk f/\t.2≠0:=fun t ht=>by simpa using List.mem_filter.1 (hp.mem_iff.1 ht)
 have hnd:mU g:=(hp.pairwise_iff (fun h=>kr h)).2 (h1.filter _);refine JB hn (fun t ht=>h2 t (hm t ht).1) ?_ (fun t ht=>(hm t ht).2) fun p=>by rw[PS hp,Fm,h3]
 refine(hs.and hnd).imp_of_mem fun{a b} ha hb ⟨h,hne⟩=>?_;have hl:a.1.length=b.1.length:=by rw[h2 a (hm a ha).1,h2 b (hm b hb).1]
 rcases nO a.1 b.1 with e|e|e
 . exact e
 . exact absurd (rB hl e) hne
 . rw[pt,e] at h;exact absurd (by decide) h
end Go.Proofs.Reg
namespace Go.Proofs.Fl
open Go.RowKit Go.Proofs.Dig
attribute [local irreducible] IntKind.wrap aY be bm bt
theorem Se(J:Keep)(n:Int):C J 67 [.int .i64 n] (.bool (decide (1<=n/\n<=4))):=by
 refine aI Tryz.func67 rfl rfl rfl ?_;by_cases h:1<=n
 . by_cases h2:n<=4
   . rw[bu (show 1<=n/\n<=4 from⟨h,h2⟩)];repeat (((first|refine W.RS (by kernel_rfl) ?_|refine W.ret ?_|refine xT (by omega) ?_|refine xr ?_|refine xB ?_);conv=>whnf))
     rfl
   . rw[bz (show ¬(1<=n/\n<=4) by omega)];repeat (((first|refine W.RS (by kernel_rfl) ?_|refine W.ret ?_|refine xT (by omega) ?_|refine xF (by omega) ?_|refine xr ?_|refine xB ?_);conv=>whnf))
     rfl
 . rw[bz (show ¬(1<=n/\n<=4) by omega)];repeat (((first|refine W.RS (by kernel_rfl) ?_|refine W.ret ?_|refine xF (by omega) ?_|refine xr ?_|refine xA ?_);conv=>whnf))
   rfl
theorem Dk:∀l:List Int,sumI l=Reg.sumI l
 | []=>rfl
 |x::l=>by simp only[sumI,Reg.sumI,Dk l]
theorem BL(J:Keep){l:List Int}(hl:l.length<2^60)(hs:bq l<2^62):C J 44 [.sl (l.map di)] (.int .i64 (sumI l)):=by
 have la:(l.map di).length=l.length:=by simp
 refine aI Tryz.func44 rfl rfl rfl ?_;repeat (((first|refine W.R (by kernel_rfl) ?_|refine W.c rfl ?_);conv=>whnf))
 refine W.loop (G:={ t:Nat // t<=l.length }) (fun t=>am [(0,.iv (.sl (l.map di))),(3,.iv (.int .i64 (sumI (l.take t.1)))),(4,.iv (.int .i64 (t.1:Int)))] [] 20) (fun t=>l.length-t.1) ⟨0,bb _⟩
  (Wk.tab [] ⟨aa,aa,aa,ab⟩ trivial rfl) ?_
 rintro⟨t,ht⟩;show W J _ _ (am [(0,.iv (.sl (l.map di))),(3,.iv (.int .i64 (sumI (l.take t)))),(4,.iv (.int .i64 (t:Int)))] [] 20) _;have b1:=nT (l.take t);have b2:=wE l t;by_cases h:t<l.length
 . have e:=Aw h;have b3:=nT (l.take (t+1));have b4:=wE l (t+1);obtain⟨y,hy⟩:∃y,l.getD t 0=y:=⟨_,rfl⟩;obtain⟨s,hs'⟩:∃s,sumI (l.take t)=s:=⟨_,rfl⟩;obtain⟨s2,hs2⟩:∃s,sumI (l.take (t+1))=s:=⟨_,rfl⟩;rw[hs2] at b3;rw[hs',hy,hs2] at e;rw[hs'] at b1;rw[hs'];have gy:(l.map di)[t]?=some (di y):=by rw[fY h,hy]
   repeat (((first|refine W.R (by kernel_rfl) ?_|refine W.c rfl ?_|refine⟨t,_,rfl,gy,rfl,?_⟩|refine ap (by omega) ?_|refine xT (by omega) ?_|refine⟨_,rfl,?_⟩|refine xr ?_);conv=>whnf))
   exact⟨⟨t+1,by omega⟩,Wk.tab [] ⟨aa,⟨cu (by dsimp only;rw[hs2];omega),rfl⟩,aa,ab⟩ trivial rfl,by dsimp only;omega⟩
 . have e:t=l.length:=by omega
   subst e;rw[cU];repeat (((first|refine W.R (by kernel_rfl) ?_|refine W.c rfl ?_|refine xF (by omega) ?_|refine⟨_,rfl,?_⟩|refine xr ?_);conv=>whnf))
   rfl
theorem AH{a b:List Int}(hl:a.length=b.length):∀{t:Nat},t<=a.length->(∀i,i<t->a.getD i 0=b.getD i 0)->Reg.co a b=Reg.co (a.drop t) (b.drop t)
 |0,_,_=>by simp
 |t+1,ht,he=>by
  rw[AH hl (t:=t) (by omega) fun i hi=>he i (by omega)];have h1:t<a.length:=by omega
  have h2:t<b.length:=by omega
  rw[dY h1,dY h2];have:=he t (by omega);rw[aV,aV,aQ h1,aQ h2] at this;simp only[Mv] at this;rw[this];conv=>lhs;unfold Reg.co
  rw[al (by omega),al (by omega)]
theorem SY{a b:List Int}(hl:a.length=b.length){t:Nat}(ht:t<a.length)(he:∀i,i<t->a.getD i 0=b.getD i 0):(b.getD t 0<a.getD t 0->Reg.co a b = -1)/\(a.getD t 0<b.getD t 0->Reg.co a b=1):=by
 rw[AH hl (t:=t) (by omega) he];have h2:t<b.length:=by omega
 rw[dY ht,dY h2,aV,aV,aQ ht,aQ h2];simp only[Mv];unfold Reg.co;exact⟨fun h=>ar h,fun h=>by rw[al (by omega),ar h]⟩
theorem QK{a b:List Int}(hl:a.length=b.length)(he:∀i,i<a.length->a.getD i 0=b.getD i 0):Reg.co a b=0:=by
 rw[AH hl (t:=a.length) (ak _) he,kW (ak _)];rfl
theorem Sa(J:Keep){a b:List Int}(hl:a.length=b.length)(hn:a.length<2^60)(ha:bq a<2^62)(hb:bq b<2^62):C J 42 [.sl (a.map di),.sl (b.map di)] (.int .i64 (Reg.bp a b)):=by
 have la:(a.map di).length=a.length:=by simp
 have c1:=BL J hn ha;have c2:=BL J (l:=b) (by omega) hb;rw[Dk] at c1 c2;have b1:=nT a;have b2:=nT b;rw[Dk] at b1 b2;obtain⟨x,hx⟩:∃x,Reg.sumI a=x:=⟨_,rfl⟩;obtain⟨y,hy⟩:∃x,Reg.sumI b=x:=⟨_,rfl⟩;refine aI Tryz.func42 rfl rfl rfl ?_;unfold Reg.bp;rw[hx,hy];rw[hx] at c1 b1;rw[hy] at c2 b2;by_cases h1:x=y
 . rw[al (fun h=>h h1)];repeat (((first|refine W.R (by kernel_rfl) ?_|refine W.c rfl ?_|refine⟨_,c1,?_⟩|refine⟨_,c2,?_⟩|refine⟨false,bne_eq_false_iff_eq.2 (by omega),?_⟩|refine xr ?_);conv=>whnf))
   refine W.loop (G:={ t:Nat // t<=a.length/\∀i,i<t->a.getD i 0=b.getD i 0 }) (fun t=>am [(0,.iv (.sl (a.map di))),(1,.iv (.sl (b.map di))),(5,.iv (.int .i64 (t.1:Int)))] [] 20) (fun t=>a.length-t.1) ⟨0,bb _,fun i hi=>absurd hi (Nat.not_lt_zero _)⟩
    (Wk.tab [] ⟨aa,aa,aa,ab⟩ trivial rfl) ?_
   rintro⟨t,ht,he⟩;show W J _ _ (am [(0,.iv (.sl (a.map di))),(1,.iv (.sl (b.map di))),(5,.iv (.int .i64 (t:Int)))] [] 20) _;by_cases h:t<a.length
   . obtain⟨k1,k2⟩:=SY hl h he;have ga:=fY h;have gb:=fY (l:=b) (i:=t) (by omega);obtain⟨u,hu⟩:∃u,a.getD t 0=u:=⟨_,rfl⟩;obtain⟨v,hv⟩:∃u,b.getD t 0=u:=⟨_,rfl⟩;rw[hu,hv] at k1 k2;rw[hu] at ga;rw[hv] at gb;by_cases h2:v<u
     . rw[k1 h2];repeat (((first|refine W.R (by kernel_rfl) ?_|refine W.c rfl ?_|refine⟨t,_,rfl,ga,rfl,?_⟩|refine⟨t,_,rfl,gb,rfl,?_⟩|refine xT (by omega) ?_|refine⟨_,rfl,?_⟩|refine xr ?_);conv=>whnf))
       rfl
     . by_cases h3:u<v
       . rw[k2 h3];repeat (((first|refine W.R (by kernel_rfl) ?_|refine W.c rfl ?_|refine⟨t,_,rfl,ga,rfl,?_⟩|refine⟨t,_,rfl,gb,rfl,?_⟩|refine xT (by omega) ?_|refine xF (by omega) ?_|refine⟨_,rfl,?_⟩|refine xr ?_);conv=>whnf))
         rfl
       . repeat (((first|refine W.R (by kernel_rfl) ?_|refine W.c rfl ?_|refine⟨t,_,rfl,ga,rfl,?_⟩|refine⟨t,_,rfl,gb,rfl,?_⟩|refine ap (by omega) ?_|refine xT (by omega) ?_|refine xF (by omega) ?_|refine⟨_,rfl,?_⟩|refine xr ?_);conv=>whnf))
         exact⟨⟨t+1,by omega,fun i hi=>by
          by_cases hi':i<t
          . exact he i hi'
          . have:i=t:=by omega
            subst this;omega⟩,Wk.tab [] ⟨aa,aa,aa,ab⟩ trivial rfl,by dsimp only;omega⟩
   . have e:t=a.length:=by omega
     subst e;rw[QK hl he];repeat (((first|refine W.R (by kernel_rfl) ?_|refine W.c rfl ?_|refine xF (by omega) ?_|refine⟨_,rfl,?_⟩|refine xr ?_);conv=>whnf))
     rfl
 . rw[ar h1];by_cases h2:x<y
   . rw[ar h2];repeat (((first|refine W.R (by kernel_rfl) ?_|refine W.c rfl ?_|refine⟨_,c1,?_⟩|refine⟨_,c2,?_⟩|refine xT (by omega) ?_|refine⟨true,bne_iff_ne.2 (by omega),?_⟩|refine xr ?_);conv=>whnf))
     rfl
   . rw[al h2];repeat (((first|refine W.R (by kernel_rfl) ?_|refine W.c rfl ?_|refine⟨_,c1,?_⟩|refine⟨_,c2,?_⟩|refine xF (by omega) ?_|refine⟨true,bne_iff_ne.2 (by omega),?_⟩|refine xr ?_);conv=>whnf))
     rfl
theorem Sd(J:Keep){a:List Int}(hn:a.length<2^60):C J 41 [.sl (a.map di),.sl (a.map di)] (.bool true):=by
 have la:(a.map di).length=a.length:=by simp
 refine aI Tryz.func41 rfl rfl rfl ?_;repeat (((first|refine W.R (by kernel_rfl) ?_|refine W.c rfl ?_|refine⟨false,bne_eq_false_iff_eq.2 (by omega),?_⟩|refine⟨_,rfl,?_⟩|refine xr ?_);conv=>whnf))
 refine W.loop (G:={ t:Nat // t<=a.length }) (fun t=>am [(0,.iv (.sl (a.map di))),(1,.iv (.sl (a.map di))),(5,.iv (.int .i64 (t.1:Int)))] [] 20) (fun t=>a.length-t.1) ⟨0,bb _⟩
  (Wk.tab [] ⟨aa,aa,aa,ab⟩ trivial rfl) ?_
 rintro⟨t,ht⟩;show W J _ _ (am [(0,.iv (.sl (a.map di))),(1,.iv (.sl (a.map di))),(5,.iv (.int .i64 (t:Int)))] [] 20) _;by_cases h:t<a.length
 . have ga:=fY h;repeat (((first|refine W.R (by kernel_rfl) ?_|refine W.c rfl ?_|refine⟨t,_,rfl,ga,rfl,?_⟩|refine ap (by omega) ?_|refine xT (by omega) ?_|refine⟨false,bne_eq_false_iff_eq.2 (by omega),?_⟩|refine⟨_,rfl,?_⟩|refine xr ?_);conv=>whnf))
   exact⟨⟨t+1,by omega⟩,Wk.tab [] ⟨aa,aa,aa,ab⟩ trivial rfl,by dsimp only;omega⟩
 . have e:t=a.length:=by omega
   subst e;repeat (((first|refine W.R (by kernel_rfl) ?_|refine W.c rfl ?_|refine xF (by omega) ?_|refine⟨_,rfl,?_⟩|refine xr ?_);conv=>whnf))
   rfl
end Go.Proofs.Fl
namespace Go.Proofs.Fl
theorem A0:∀l:List Int,Fl.sumI l=Reg.sumI l
 | []=>rfl
 |x::l=>by rw[Fl.sumI,Reg.sumI,A0 l]
theorem HW:∀a b:List Int,jX b a=Reg.co a b
 |x::a,y::b=>by
  rw[jX,Reg.co,HW a b];unfold aL;by_cases h1:y<x
  . simp[h1]
  . by_cases h2:x<y
    . simp[h1,h2]
    . simp[h1,h2]
 | [],[]=>rfl
 | [],_::_=>rfl
 |_::_,[]=>rfl
theorem wo(a b:List Int):sa a b=Reg.bp a b:=by
 unfold sa Reg.bp;rw[ka,ka,ka,HW,A0,A0];unfold aL;by_cases h1:Reg.sumI a<Reg.sumI b
 . have h2:Reg.sumI a≠Reg.sumI b:=by omega
   simp[h1,h2]
 . by_cases h2:Reg.sumI b<Reg.sumI a
   . have h3:Reg.sumI a≠Reg.sumI b:=by omega
     simp[h1,h2,h3]
   . have h3:Reg.sumI a=Reg.sumI b:=by omega
     simp[h3];intro h;exact h.symm
theorem Qs{α U:Type}{f:α->U}{m g:List U}(h:m.Perm g):∀{l:List α},m=l.map f->∃l':List α,l'.Perm l/\l'.map f=g:=by
 induction h with
 |nil=>intro l e;exact⟨l,.refl _,e.symm⟩
 |cons x _ ih=>
  intro l e;cases l with
  |nil=>cases e
  |cons a l=>
   simp only[aS,oY] at e;obtain⟨l',h1,h2⟩:=ih e.2;exact⟨a::l',h1.cons a,by rw[aS,h2,e.1]⟩
 |swap x y m=>
  intro l e;cases l with
  |nil=>cases e
  |cons a l=>
   cases l with
   |nil=>cases e
   |cons b l=>
    simp only[aS,oY] at e;exact⟨b::a::l,.swap _ _ _,by rw[aS,aS,<-e.1,<-e.2.1,<-e.2.2]⟩
 |trans _ _ ih1 ih2=>
  intro l e;obtain⟨l1,h1,h2⟩:=ih1 e;obtain⟨l2,h3,h4⟩:=ih2 h2.symm;exact⟨l2,h3.trans h1,h4⟩
end Go.Proofs.Fl
namespace Go.Proofs.En
open Go.RowKit Go.Proofs.Fl Go.Proofs.Dig
attribute [local irreducible] IntKind.wrap aY be bm bt SW SWr CallOk To Tr eX
open Go.Sort
noncomputable def bd(t:Reg.Tm):List EV:=(.iv (.sl (t.1.map di))::(qr t.2).cells.map .iv)
noncomputable def gc(ts:List Reg.Tm)(cnt:Nat):EO:=.mem 78 (ts.flatMap bd) false [(0,ts.length*4)] cnt
theorem ia(t:Reg.Tm):(bd t).length=4:=rfl
theorem Nu(J:Keep){n:Nat}{ts g:List Reg.Tm}(hn:∀t∈ts,t.1.length=n)(hn2:n<2^50)(hs:∀t∈ts,bq t.1<2^62)(h0:ts≠[])(hl:ts.length<2^60)(hp:g.Perm ts)(hg:Reg.gg g){cap:Cap}{cnt:Nat} :
 CallOk (XS J) 74 [.w (.one (.slc 0 0 0 ts.length cap)),ac (.fn 75)] (g3 [gc ts cnt]) (.tup []) (g3 [gc g cnt]):=by
 have e1:(List.finRange ts.length).map (fun i=>ts.get i)=ts:=by
  apply List.ext_getElem<;>simp
 obtain⟨ord,h1,h2⟩:=Qs (f:=fun i=>ts.get i) hp.symm (l:=List.finRange ts.length) e1.symm;have hget:∀i:Fin ts.length,ts.get i∈ts:=fun i=>List.get_mem _ _;have hgl:g.length=ts.length:=hp.length_eq;have key:=O4 (X:=XS J) (f:=74) (g:=75) (k:=4) (n:=ts.length) (e:=78) (by omega) (List.length_pos_iff.2 h0) (by omega) Tryz.sortTerm rfl ⟨_,Tryz.func74,rfl,rfl⟩ Tryz.isAgg78 Tryz.sizeOf78
  (enters_of Tryz.func75 (by kernel_rfl) rfl) (rows:=fun i=>bd (ts.get i)) (fun i=>rfl) (xs:=fun i=>tq (ts.get i).1 (ts.get i).2)
  (fun H U vs i h=>by
    obtain⟨a,b⟩:=ui (cs:=.sl ((ts.get i).1.map di)::(qr (ts.get i).2).cells) h;exact .agg vs _ a b)
  (cf:=fun i j=>sa (ts.get i).1 (ts.get j).1) (fun i j=>R1 J ((hn _ (hget i)).trans (hn _ (hget j)).symm) (by rw[hn _ (hget i)];exact hn2) (hs _ (hget i)) (hs _ (hget j)))
  ?_ h1 ?_ ?_ (cap:=cap) (cnt:=cnt)
 . have e2:(List.finRange ts.length).flatMap (fun i=>bd (ts.get i))=ts.flatMap bd:=by
    conv=>rhs;rw[<-e1,MQ]
   have e3:ord.flatMap (fun i=>bd (ts.get i))=g.flatMap bd:=by rw[<-h2,MQ]
   rw[e2,e3] at key;unfold gc;rw[hgl];exact key
 . have lt:∀x y:Fin ts.length,ltOf (fun i j=>sa (ts.get i).1 (ts.get j).1) x y=decide (Reg.bp (ts.get x).1 (ts.get y).1 = -1):=fun x y=>by
    show decide (sa (ts.get x).1 (ts.get y).1<0)=_;rw[wo];rcases Reg.nO (ts.get x).1 (ts.get y).1 with h|h|h<;>rw[h]<;>rfl
   have len:∀x y:Fin ts.length,(ts.get x).1.length=(ts.get y).1.length:=fun x y=>(hn _ (hget x)).trans (hn _ (hget y)).symm;refine⟨fun x=>?_,fun x y z h k=>?_,fun x y z h k=>?_⟩
   . rw[lt,Reg.tX];rfl
   . rw[lt] at h k ⊢;exact bu (Reg.tP (len x y) (len y z) (mB h) (mB k))
   . rw[lt] at h k ⊢;refine bz fun hxz=>?_;have h:=oW h;have k:=oW k;rcases Reg.nO (ts.get x).1 (ts.get y).1 with e|e|e
     . exact h e
     . rw[Reg.rB (len x y) e] at hxz;exact k hxz
     . have e4:=Reg.pt (ts.get x).1 (ts.get y).1;rw[e] at e4;exact k (Reg.tP (len y x) (len x z) e4 hxz)
 . have h3:(ord.map fun i=>ts.get i).Pairwise fun a b=>Reg.bp a.1 b.1 = -1:=by rw[h2];exact hg
   rw[List.pairwise_map] at h3;refine h3.imp fun{i j} h=>?_;rw[wo,h];decide
 . intro i j hij;have hnd:Reg.mU ts:=(hp.pairwise_iff (R:=fun a b:Reg.Tm=>a.1≠b.1) (fun h=>kr h)).1 (hg.imp fun{a b} h e=>by rw[e,Reg.tX] at h;cases h);have hne:(ts.get i).1≠(ts.get j).1:=by
    have:=List.pairwise_iff_getElem.1 hnd;rcases Nat.lt_trichotomy i.1 j.1 with h|h|h
    . exact this i.1 j.1 i.2 j.2 h
    . exact absurd (Fin.ext h) hij
    . exact kr (this j.1 i.1 j.2 i.2 h)
   rw[wo,wo,Reg.pt (ts.get i).1 (ts.get j).1];rcases Reg.nO (ts.get i).1 (ts.get j).1 with e|e|e
   . left;omega
   . exact absurd (Reg.rB ((hn _ (hget i)).trans (hn _ (hget j)).symm) e) hne
   . right;omega
end Go.Proofs.En
namespace Go.Proofs.Fl
open Go.RowKit Go.Proofs.Dig
attribute [local irreducible] IntKind.wrap aY be bm bt
theorem R3{J:Keep}(B:Base J){a b:List Int}{x y:Rat}(hx:az x<2^36)(hy:az y<2^36):C J 70 [tq a x,tq b y] (tq a (x+y)):=by
 refine aI Tryz.func70 rfl rfl rfl ?_;have c1:=r5 B (a:=x) (b:=y) (by omega) (by omega);repeat (((first|refine W.RS (by kernel_rfl) ?_|refine W.ret ?_|refine⟨_,c1,?_⟩|refine xr ?_);conv=>whnf))
 rfl
theorem IH(J:Keep){a:List Int}{x:Rat}:C J 73 [tq a x] (.bool (decide (x=0))):=by
 refine aI Tryz.func73 rfl rfl rfl ?_;have c1:=n8 J x;repeat (((first|refine W.RS (by kernel_rfl) ?_|refine W.ret ?_|refine⟨_,c1,?_⟩|refine⟨_,rfl,?_⟩|refine xr ?_);conv=>whnf))
 have e:(aL x.num 0==0)=decide (x=0):=by
  by_cases h:x=0
  . subst h;rfl
  . have:aL x.num 0≠0:=fun e=>h (Rat.num_eq_zero.1 (rA e));simp[h,this]
 rw[e];rfl
end Go.Proofs.Fl
namespace Go.Proofs.En
open Go.RowKit Go.Proofs.Fl Go.Proofs.Dig
attribute [local irreducible] IntKind.wrap aY be bm bt SW SWr CallOk To Tr eX
def dA(p:List Int):List Int:=p++List.replicate (4-p.length) 0
theorem Qu{p q:List Int}(h:p.length=q.length)(e:dA p=dA q):p=q:=List.append_inj_left e h
theorem UG(J:Keep){a:Int}{x:Rat}:Go.Proofs.Fl.C J 69 [tq [a] x] (.agg ((dA [a]).map di)):=by
 refine pS Tryz.func69 rfl rfl rfl rfl rfl ?_;repeat (((first|refine SW.RS (by kernel_rfl) ?_|refine SW.ret ?_|refine jp rfl ?_|refine bN rfl ?_|refine bi rfl ?_|refine vk rfl ?_);conv=>whnf))
 rfl
theorem UF(J:Keep){a b:Int}{x:Rat}:Go.Proofs.Fl.C J 69 [tq [a,b] x] (.agg ((dA [a,b]).map di)):=by
 refine pS Tryz.func69 rfl rfl rfl rfl rfl ?_;repeat (((first|refine SW.RS (by kernel_rfl) ?_|refine SW.ret ?_|refine jp rfl ?_|refine bN rfl ?_|refine bi rfl ?_|refine vk rfl ?_);conv=>whnf))
 rfl
theorem UE(J:Keep){a b c:Int}{x:Rat}:Go.Proofs.Fl.C J 69 [tq [a,b,c] x] (.agg ((dA [a,b,c]).map di)):=by
 refine pS Tryz.func69 rfl rfl rfl rfl rfl ?_;repeat (((first|refine SW.RS (by kernel_rfl) ?_|refine SW.ret ?_|refine jp rfl ?_|refine bN rfl ?_|refine bi rfl ?_|refine vk rfl ?_);conv=>whnf))
 rfl
theorem UD(J:Keep){a b c d:Int}{x:Rat}:Go.Proofs.Fl.C J 69 [tq [a,b,c,d] x] (.agg ((dA [a,b,c,d]).map di)):=by
 refine pS Tryz.func69 rfl rfl rfl rfl rfl ?_;repeat (((first|refine SW.RS (by kernel_rfl) ?_|refine SW.ret ?_|refine jp rfl ?_|refine bN rfl ?_|refine bi rfl ?_|refine vk rfl ?_);conv=>whnf))
 rfl
theorem R4(J:Keep){p:List Int}{x:Rat}(h0:p≠[])(h4:p.length<=4):Go.Proofs.Fl.C J 69 [tq p x] (.agg ((dA p).map di)):=by
 match p,h0,h4 with
 | [a],_,_=>exact UG J
 | [a,b],_,_=>exact UF J
 | [a,b,c],_,_=>exact UE J
 | [a,b,c,d],_,_=>exact UD J
 |_::_::_::_::_::_,_,h=>simp at h
end Go.Proofs.En
namespace Go.Proofs.En
open Go.RowKit Go.Proofs.Fl Go.Proofs.Dig
attribute [local irreducible] IntKind.wrap aY be bm bt SW SWr CallOk To Tr eX
def jx(p:List Int):EW:=.agg ((dA p).map fun z=>.iv (di z))
theorem Fj:∀l:List Int,lI (l.map fun z=>.iv (di z))=some l
 | []=>rfl
 |x::l=>by rw[aS,lI,Fj l];rfl
theorem ry(p:List Int):gX (jx p)=some (.ints (dA p)):=by
 show(lI _).map KV.ints=_;rw[Fj];rfl
theorem Ij:∀{l:List Int} {x:Int},x∈l->x.natAbs<=bq l
 |y::l,x,h=>by
  rw[bq];rcases List.mem_cons.1 h with rfl|h
  . omega
  . have:=Ij h;omega
def iT(n:Nat)(p:List Int):Prop:=p.length=n/\bq p<2^62
theorem rk{n:Nat}{p:List Int}(hn:n<=4)(h:iT n p):fm 4 (.ints (dA p))=true:=by
 show(Nat.beq (dA p).length 4&&(dA p).all mc)=true;have hl:(dA p).length=4:=by
  unfold dA;rw[ce,zB,h.1];omega
 rw[hl,bj,qW,kq];intro z hz;unfold dA at hz;unfold mc;rw[cR];rcases List.mem_append.1 hz with hz|hz
 . have:=Ij hz;have:=h.2;omega
 . rw[vp hz];decide
def ke:List (List Int)->Nat->List (EW×EW×Nat)
 | [],_=>[]
 |p::l,i=>(jx p,.one (.iv (di (i:Int))),i)::ke l (i+1)
theorem I3{n:Nat}{p q:List Int}(hp:iT n p)(hq:iT n q)(h:p≠q):decide (KV.ints (dA p)=.ints (dA q))=false :=
 bz fun e=>h (Qu (hp.1.trans hq.1.symm) (by simpa using e))
theorem wv{n:Nat}{p:List Int}(hn:n<=4)(hp:iT n p):∀{ps:List (List Int)} {i j:Nat},(∀q∈ps,iT n q)->p∉ps->eP (fm 4) (.ints (dA p)) (ke ps i) j=some []
 | [],_,_,_,_=>rfl
 |q::ps,i,j,ho,hm=>by
  have ih:=wv hn hp (ps:=ps) (i:=i+1) (j:=j+1) (fun x hx=>ho x (by simp[hx])) fun e=>hm (by simp[e]);have h2:=I3 (ho q (by simp)) hp fun e=>hm (by simp[e]);unfold ke eP;rw[ry,ih];simp only[rk hn (ho q (by simp)),h2,ai,aW]
theorem Gi{n:Nat}{p:List Int}(hn:n<=4):∀{ps:List (List Int)} {m i j:Nat},(∀q∈ps,iT n q)->ps.Nodup->ps[m]?=some p->eP (fm 4) (.ints (dA p)) (ke ps i) j=some [(j+m,EW.one (.iv (di ((i+m:Nat):Int))),i+m)]
 | [],_,_,_,_,_,h=>by simp at h
 |q::ps,0,i,j,ho,hd,h=>by
  simp at h;subst h;have hd':=List.nodup_cons.1 hd;unfold ke eP;rw[ry,wv hn (ho q (by simp)) (fun x hx=>ho x (by simp[hx])) hd'.1];simp only[rk hn (ho q (by simp)),MH,ai,eG]
 |q::ps,m+1,i,j,ho,hd,h=>by
  simp at h;have hd':=List.nodup_cons.1 hd;have hpm:p∈ps:=cd h;have ih:=Gi hn (ps:=ps) (m:=m) (i:=i+1) (j:=j+1) (fun x hx=>ho x (by simp[hx])) hd'.2 h;have h2:=I3 (ho q (by simp)) (ho p (by simp[hpm])) fun e=>hd'.1 (by rw[e];exact hpm);unfold ke eP;rw[ry,ih];simp only[rk hn (ho q (by simp)),h2,ai,aW];rw[show j+1+m=j+(m+1) by omega,show i+1+m=i+(m+1) by omega]
theorem Hi(p:List Int):∀(ps:List (List Int)) (i:Nat),ke (ps ++ [p]) i=ke ps i ++ [(jx p,EW.one (.iv (di ((i+ps.length:Nat):Int))),i+ps.length)]
 | [],i=>rfl
 |q::ps,i=>by
  rw[g8,ke,Hi p ps,ke,g8,bf,show i+1+ps.length=i+(ps.length+1) by omega]
def iU(ps:List (List Int)):EO:=.map (ke ps 0) ps.length
theorem E6{zw:TypeId->Option EW}(hz:zw 3=some (EW.one (.iv (di 0)))){h:Hp}{g n:Nat}{ps:List (List Int)}{p:List Int}(hg:h g=some (iU ps))(hn:n<=4)(ho:∀q∈ps,iT n q)(hp:iT n p)(hm:p∉ps){kw:EW}(hkw:jx p=kw) :
 lK nh zw h 194 (.w (.one (.mp g))) (.w kw) true=some (.tup [.one (.iv (di 0)),.one (.iv (.bool false))],[]):=by
 subst hkw;show(match h g,gX (jx p) with
  |some (.map es _),some k=>bif fm 4 k then(match eP (fm 4) k es 0,zw 3 with
   |some [],some z=>some (bif true then ES.tup [z,EW.one (.iv (.bool false))] else .w z,([]:Wr))
   |some [(_,y,_)],some _=>some (bif true then ES.tup [y,EW.one (.iv (.bool true))] else .w y,[])
   |_,_=>none) else none
  |_,_=>none)=_
 rw[hg,ry];simp only[iU,rk hn hp,ai,hz,wv hn hp ho hm]
theorem NH{zw:TypeId->Option EW}(hz:zw 3=some (EW.one (.iv (di 0)))){h:Hp}{g n m:Nat}{ps:List (List Int)}{p:List Int}(hg:h g=some (iU ps))(hn:n<=4)(ho:∀q∈ps,iT n q)(hd:ps.Nodup)(hm:ps[m]?=some p){kw:EW}(hkw:jx p=kw) :
 lK nh zw h 194 (.w (.one (.mp g))) (.w kw) true=some (.tup [.one (.iv (di (m:Int))),.one (.iv (.bool true))],[]):=by
 subst hkw;show(match h g,gX (jx p) with
  |some (.map es _),some k=>bif fm 4 k then(match eP (fm 4) k es 0,zw 3 with
   |some [],some z=>some (bif true then ES.tup [z,EW.one (.iv (.bool false))] else .w z,([]:Wr))
   |some [(_,y,_)],some _=>some (bif true then ES.tup [y,EW.one (.iv (.bool true))] else .w y,[])
   |_,_=>none) else none
  |_,_=>none)=_
 rw[hg,ry];have:=Gi hn (i:=0) (j:=0) ho hd hm;simp only[aX] at this;simp only[iU,rk hn (ho p (cd hm)),ai,hz,this]
theorem JR{h:Hp}{g n:Nat}{ps:List (List Int)}{p:List Int}(hg:h g=some (iU ps))(hn:n<=4)(ho:∀q∈ps,iT n q)(hp:iT n p)(hm:p∉ps){kw:EW}(hkw:jx p=kw){v:Int}(hv:v=(ps.length:Int)) :
 jg nh h 194 (.w (.one (.mp g))) (.w kw) (.w (.one (.iv (di v))))=some (.und,[(g,iU (ps ++ [p]))]):=by
 subst hv;subst hkw;show(match h g,gX (jx p) with
  |some (.map es ck),some kk=>bif fm 4 kk then(match eP (fm 4) kk es 0 with
   |some []=>bA (ck+1) fun ck'=>fJ (es ++ [(jx p,EW.one (.iv (di (ps.length:Int))),ck)]) fun es'=>some (ES.und,[(g,EO.map es' ck')])
   |some [(i,_,b)]=>fJ (es.set i (jx p,EW.one (.iv (di (ps.length:Int))),b)) fun es'=>some (.und,[(g,.map es' ck)])
   |_=>none) else none
  |_,_=>none)=_
 rw[hg,ry];simp only[iU,rk hn hp,ai,wv hn hp ho hm,cC,bc];rw[Hi,aX,ce];rfl
theorem Pm{n:Nat}{p:List Int}(hn:n<=4)(h:iT n p):∃a b c d,dA p=[a,b,c,d]:=by
 have hl:(dA p).length=4:=by unfold dA;rw[ce,zB,h.1];omega
 match dA p,hl with
 | [a,b,c,d],_=>exact⟨a,b,c,d,rfl⟩
theorem PE{p:List Int}{a b c d:Int}(h:dA p=[a,b,c,d]):jx p=.agg [.iv (di a),.iv (di b),.iv (di c),.iv (di d)]:=by
 unfold jx;rw[h];rfl
end Go.Proofs.En
namespace Go.Proofs.Reg
structure K5 where
 a:Nat
 b:Nat
 c:Nat
 d:Nat
 e:Nat
 deriving DecidableEq
def K5.zero:K5:=⟨0,0,0,0,0⟩
def K5.list(k:K5):List Int:=[k.a,k.b,k.c,k.d,k.e]
def K5.tot(k:K5):Nat:=k.a+k.b+k.c+k.d+k.e
def K5.inc(k:K5):Nat->K5
 |0=>⟨k.a+1,k.b,k.c,k.d,k.e⟩
 |1=>⟨k.a,k.b+1,k.c,k.d,k.e⟩
 |2=>⟨k.a,k.b,k.c+1,k.d,k.e⟩
 |3=>⟨k.a,k.b,k.c,k.d+1,k.e⟩
 |_=>⟨k.a,k.b,k.c,k.d,k.e+1⟩
theorem F6(k:K5)(p:Nat):(k.inc p).tot=k.tot+1:=by
 unfold K5.inc K5.tot;split<;>dsimp only<;>omega
theorem Fp{k k':K5}(h:k.list=k'.list):k=k':=by
 obtain⟨a,b,c,d,e⟩:=k;obtain⟨a',b',c',d',e'⟩:=k';simp only[K5.list,oY,Int.natCast_inj,and_true] at h;obtain⟨rfl,rfl,rfl,rfl,rfl⟩:=h;rfl
abbrev Tb:=List (K5×Int)
def aZ(l:Tb):List K5:=l.map Prod.fst
def ci:Tb->K5->Int
 | [],_=>0
 |p::l,k=>if p.1=k then p.2 else ci l k
def cF:Tb->K5->Int->Tb
 | [],k,x=>[(k,x)]
 |p::l,k,x=>if p.1=k then(k,x)::l else p::cF l k x
def lin(φ:K5->Int):Tb->Int
 | []=>0
 |p::l=>p.2*φ p.1+lin φ l
def fB:Tb->Nat
 | []=>0
 |p::l=>p.2.natAbs+fB l
theorem I0(φ:K5->Int)(k:K5)(x:Int):∀l:Tb,lin φ (cF l k (ci l k+x))=lin φ l+x*φ k
 | []=>by simp[cF,ci,lin]
 |p::l=>by
  unfold cF ci;split
  . rename_i h;subst h;simp only[lin,MS];omega
  . simp only[lin,I0 φ k x l];omega
theorem Ih(k:K5)(x:Int):∀l:Tb,fB (cF l k (ci l k+x))<=fB l+x.natAbs
 | []=>by simp[cF,ci,fB]
 |p::l=>by
  unfold cF ci;split
  . simp only[fB];omega
  . have:=Ih k x l;simp only[fB];omega
theorem HE(k:K5):∀l:Tb,(ci l k).natAbs<=fB l
 | []=>by simp[ci]
 |p::l=>by
  have:=HE k l;unfold ci fB;split<;>omega
theorem Bz{k:K5}{z:Int}:∀{l:Tb},(k,z)∈l->z.natAbs<=fB l
 |p::l,h=>by
  rcases List.mem_cons.1 h with rfl|h
  . simp only[fB];omega
  . have:=Bz h;simp only[fB];omega
theorem Bb(k:K5)(x:Int):∀l:Tb,aZ (cF l k x)=if k∈aZ l then aZ l else aZ l ++ [k]
 | []=>by simp[cF,aZ]
 |p::l=>by
  have ih:=Bb k x l;unfold cF;by_cases h:p.1=k
  . rw[ar h,ar (by simp[aZ,h])];simp[aZ,h]
  . rw[al h];have h':¬k=p.1:=fun e=>h e.symm;unfold aZ at ih ⊢;simp only[aS,ih,eT,h',false_or];split<;>rfl
theorem Pv(k:K5)(x:Int){l:Tb}(h:(aZ l).Nodup):(aZ (cF l k x)).Nodup:=by
 rw[Bb];split
 . exact h
 . rename_i hk;rw[List.nodup_append];refine⟨h,by simp,fun a ha b hb=>?_⟩;simp only[fQ] at hb;subst hb;intro e;subst e;exact hk ha
theorem SP{k:K5}{x:Int}{l:Tb}{y:K5}(h:y∈aZ (cF l k x)):y∈aZ l\/y=k:=by
 rw[Bb] at h;split at h
 . exact .inl h
 . simpa using h
def kO(φ:K5->Int)(k:K5):List Int->Nat->Int
 | [],_=>0
 |a::l,p=>a*φ (k.inc p)+kO φ k l (p+1)
def kR:List (List Int)->(K5->Int)->Int
 | [],φ=>φ K5.zero
 |a::fs,φ=>kR fs fun k=>kO φ k a 0
def bI(seen:List Nat):Tb->Nat->List (K5×Int×Nat)
 | [],_=>[]
 |p::l,i=>if i∈seen then bI seen l (i+1) else(p.1,p.2,i)::bI seen l (i+1)
def jw(φ:K5->Int):List (K5×Int×Nat)->Int
 | []=>0
 |p::l=>p.2.1*φ p.1+jw φ l
def iP:List (K5×Int×Nat)->Nat
 | []=>0
 |p::l=>p.2.1.natAbs+iP l
theorem t7(seen:List Nat):∀(l:Tb) (i:Nat),∀e∈bI seen l i,i<=e.2.2
 | [],_,e,h=>by cases h
 |p::l,i,e,h=>by
  unfold bI at h;split at h
  . have:=t7 seen l (i+1) e h;omega
  . rcases List.mem_cons.1 h with rfl|h
    . exact ak _
    . have:=t7 seen l (i+1) e h;omega
theorem FI{seen:List Nat}{j:Nat}:∀{l:Tb} {i:Nat},j<i->bI (j::seen) l i=bI seen l i
 | [],_,_=>rfl
 |p::l,i,h=>by
  have h2:¬i=j:=by omega
  unfold bI;simp only[eT,h2,false_or,FI (l:=l) (show j<i+1 by omega)]
theorem nM{seen:List Nat}:∀{l:Tb} {i:Nat} {e:K5×Int×Nat},e∈bI seen l i->
 (∀ φ,jw φ (bI seen l i)=e.2.1*φ e.1+jw φ (bI (e.2.2::seen) l i))/\iP (bI seen l i)=e.2.1.natAbs+iP (bI (e.2.2::seen) l i)/\(bI seen l i).length=(bI (e.2.2::seen) l i).length+1
 | [],_,e,h=>by cases h
 |p::l,i,e,h=>by
  unfold bI at h;split at h
  . rename_i hs;have hi:=t7 seen l (i+1) e h;obtain⟨h1,h2,h3⟩:=nM h;unfold bI;simp only[hs,eT,or_true,bD];exact⟨h1,h2,h3⟩
  . rename_i hs;rcases List.mem_cons.1 h with rfl|h
    . unfold bI;simp only[hs,eT,true_or,bD,bE,FI (tt i)];exact⟨fun φ=>rfl,rfl,rfl⟩
    . have hi:=t7 seen l (i+1) e h;have hne:¬i=e.2.2:=by omega
      obtain⟨h1,h2,h3⟩:=nM h;unfold bI;simp only[hs,eT,hne,false_or,bE];refine⟨fun φ=>?_,?_,?_⟩
      . simp only[jw,h1 φ];omega
      . simp only[iP,h2];omega
      . simp only[bf,h3]
theorem Gv(l:Tb)(φ:K5->Int):∀i,jw φ (bI [] l i)=lin φ l:=by
 induction l with
 |nil=>intro i;rfl
 |cons p l ih=>intro i;simp[bI,jw,lin,ih]
theorem FJ(l:Tb):∀i,iP (bI [] l i)=fB l:=by
 induction l with
 |nil=>intro i;rfl
 |cons p l ih=>intro i;simp[bI,iP,fB,ih]
theorem AI{seen:List Nat}:∀{l:Tb} {i:Nat} {e:K5×Int×Nat},e∈bI seen l i->(e.1,e.2.1)∈l/\i<=e.2.2/\l[e.2.2-i]?=some (e.1,e.2.1)
 | [],_,e,h=>by cases h
 |p::l,i,e,h=>by
  have hi:=t7 seen (p::l) i e h;unfold bI at h;have key:e∈bI seen l (i+1)->(e.1,e.2.1)∈p::l/\i<=e.2.2/\(p::l)[e.2.2-i]?=some (e.1,e.2.1):=fun h=>by
   obtain⟨h1,h2,h3⟩:=AI h;refine⟨dx _ h1,hi,?_⟩;rw[show e.2.2-i=(e.2.2-(i+1))+1 by omega];simpa using h3
  split at h
  . exact key h
  . rcases List.mem_cons.1 h with rfl|h
    . simp
    . exact key h
end Go.Proofs.Reg
namespace Go.Proofs.En
open Go.RowKit Go.Proofs.Fl Go.Proofs.Dig Go.Proofs.Reg
def br(n:Int):IV:=.int .i64 n
def gE(k:K5):EW:=.agg [.iv (br k.a),.iv (br k.b),.iv (br k.c),.iv (br k.d),.iv (br k.e)]
noncomputable def qw(q:Rat):EW:=dW (qr q)
noncomputable def mz(d:Nat)(z:Int):EW:=qw (mkRat z d)
noncomputable def cr(d:Nat):Tb->Nat->List (EW×EW×Nat)
 | [],_=>[]
 |p::l,i=>(gE p.1,mz d p.2,i)::cr d l (i+1)
def iq(k:K5):Prop:=k.tot<2^63
theorem tT(k:K5):gX (gE k)=some (.ints k.list):=rfl
theorem tK{k:K5}(h:iq k):fm 5 (.ints k.list)=true:=by
 unfold iq K5.tot at h;have e:∀n:Nat,n<9223372036854775808->mc (n:Int)=true:=fun n hn=>by
  unfold mc;rw[cR,ef];exact hn
 show(Nat.beq 5 5&&(k.list).all mc)=true;rw[bj,qW];simp only[K5.list,ed,List.all_nil,Bool.and_true,aC];exact⟨e _ (by omega),e _ (by omega),e _ (by omega),e _ (by omega),e _ (by omega)⟩
theorem ww{d:Nat}{k:K5}:∀{l:Tb} {i j:Nat},(∀p∈aZ l,iq p)->k∉aZ l->eP (fm 5) (.ints k.list) (cr d l i) j=some []
 | [],_,_,_,_=>rfl
 |p::l,i,j,ho,hk=>by
  have h1:p.1≠k:=fun e=>hk (by simp[aZ,e]);have ih:=ww (d:=d) (l:=l) (i:=i+1) (j:=j+1) (fun q hq=>ho q (by simp only[aZ,aS,eT];exact .inr hq)) (fun e=>hk (by simp only[aZ,aS,eT];exact .inr e));have h2:decide (KV.ints p.1.list=.ints k.list)=false:=bz fun e=>h1 (Fp (by simpa using e));unfold cr eP;rw[tT,ih];simp only[tK (ho p.1 (by simp[aZ])),h2,ai,aW]
theorem Az{d:Nat}{k:K5}:∀{l:Tb} {i j:Nat},(∀p∈aZ l,iq p)->(aZ l).Nodup->k∈aZ l->∃n,eP (fm 5) (.ints k.list) (cr d l i) j=some [(j+n,mz d (ci l k),i+n)]/\∀x,(cr d l i).set n (gE k,mz d x,i+n)=cr d (cF l k x) i
 | [],_,_,_,_,hk=>by cases hk
 |p::l,i,j,ho,hn,hk=>by
  have hn':p.1∉aZ l/\(aZ l).Nodup:=by simpa[aZ] using hn
  have ho':∀q∈aZ l,iq q:=fun q hq=>ho q (by simp only[aZ,aS,eT];exact .inr hq);by_cases h1:p.1=k
  . subst h1;refine⟨0,?_,fun x=>?_⟩
    . unfold cr eP;rw[tT,ww ho' hn'.1];have h2:decide (KV.ints p.1.list=.ints p.1.list)=true:=bu rfl;simp only[tK (ho p.1 (by simp[aZ])),MH,ai,ci,bD,eG]
    . simp only[cr,cF,bD,EC,eG]
  . have hk':k∈aZ l:=by
     simp only[aZ,aS,eT] at hk;rcases hk with e|e
     . exact absurd e.symm h1
     . exact e
    obtain⟨n,e1,e2⟩:=Az (d:=d) (k:=k) (l:=l) (i:=i+1) (j:=j+1) ho' hn'.2 hk';refine⟨n+1,?_,fun x=>?_⟩
    . have h2:decide (KV.ints p.1.list=.ints k.list)=false:=bz fun e=>h1 (Fp (by simpa using e));unfold cr eP;rw[tT,e1];simp only[tK (ho p.1 (by simp[aZ])),h2,ai,aW,ci,al h1];rw[show j+1+n=j+(n+1) by omega,show i+1+n=i+(n+1) by omega]
    . simp only[cr,cF,al h1,Ei];rw[show i+(n+1)=i+1+n by omega,e2 x]
theorem Gz{k:K5}:∀{l:Tb},k∉aZ l->ci l k=0
 | [],_=>rfl
 |p::l,h=>by
  simp only[aZ,aS,eT,s9] at h;rw[ci,al (fun e=>h.1 e.symm)];exact Gz h.2
theorem Gd{d:Nat}{k:K5}{x:Int}:∀{l:Tb} {i:Nat},k∉aZ l->cr d (cF l k x) i=cr d l i ++ [(gE k,mz d x,i+l.length)]
 | [],_,_=>by simp[cF,cr]
 |p::l,i,h=>by
  simp only[aZ,aS,eT,s9] at h;rw[cF,al (fun e=>h.1 e.symm),cr,Gd h.2,cr];simp only[g8,bf];rw[show i+1+l.length=i+(l.length+1) by omega]
theorem A1{k:K5}{x:Int}:∀{l:Tb},(cF l k x).length=if k∈aZ l then l.length else l.length+1
 | []=>by simp[cF,aZ]
 |p::l=>by
  have ih:=A1 (k:=k) (x:=x) (l:=l);unfold cF;by_cases h:p.1=k
  . rw[ar h,ar (by simp[aZ,h])];rfl
  . have h':¬k=p.1:=fun e=>h e.symm;rw[al h];have e:(k∈aZ (p::l))=(k∈aZ l):=by simp[aZ,h']
    simp only[bf,ih,e];split<;>rfl
noncomputable def dE(d:Nat)(l:Tb):EO:=.map (cr d l 0) l.length
theorem uf{zw:TypeId->Option EW}(hz:zw 48=some (qw 0)){h:Hp}{g d:Nat}{l:Tb}{k:K5}(hg:h g=some (dE d l))(ho:∀p∈aZ l,iq p)(hn:(aZ l).Nodup)(hk:iq k) :
 lK nh zw h 218 (.w (.one (.mp g))) (.w (gE k)) false=some (.w (mz d (ci l k)),[]):=by
 show(match h g,gX (gE k) with
  |some (.map es _),some k=>bif fm 5 k then(match eP (fm 5) k es 0,zw 48 with
   |some [],some z=>some (bif false then ES.tup [z,.one (.iv (.bool false))] else .w z,([]:Wr))
   |some [(_,y,_)],some _=>some (bif false then .tup [y,.one (.iv (.bool true))] else .w y,[])
   |_,_=>none) else none
  |_,_=>none)=_
 rw[hg,tT];simp only[dE,tK hk,ai,aW,hz];by_cases hm:k∈aZ l
 . obtain⟨n,e1,_⟩:=Az (d:=d) (i:=0) (j:=0) ho hn hm;rw[e1]
 . rw[ww ho hm,Gz hm];simp only[mz,Rat.zero_mkRat]
theorem rU{h:Hp}{g d:Nat}{l:Tb}{k:K5}(x:Int)(hg:h g=some (dE d l))(ho:∀p∈aZ l,iq p)(hn:(aZ l).Nodup)(hk:iq k) :
 jg nh h 218 (.w (.one (.mp g))) (.w (gE k)) (.w (mz d x))=some (.und,[(g,dE d (cF l k x))]):=by
 show(match h g,gX (gE k) with
  |some (.map es ck),some kk=>bif fm 5 kk then(match eP (fm 5) kk es 0 with
   |some []=>bA (ck+1) fun ck'=>fJ (es ++ [(gE k,mz d x,ck)]) fun es'=>some (ES.und,[(g,EO.map es' ck')])
   |some [(i,_,b)]=>fJ (es.set i (gE k,mz d x,b)) fun es'=>some (.und,[(g,.map es' ck)])
   |_=>none) else none
  |_,_=>none)=_
 rw[hg,tT];simp only[dE,tK hk,ai];by_cases hm:k∈aZ l
 . obtain⟨n,e1,e2⟩:=Az (d:=d) (i:=0) (j:=0) ho hn hm;rw[e1];simp only[cC,aX];have:=e2 x;rw[aX] at this;rw[this,A1,ar hm]
 . rw[ww ho hm];simp only[cC,bc];rw[A1,al hm,Gd hm,aX]
theorem rD{d:Nat}{seen:List Nat}:∀{l:Tb} {i:Nat},eW seen (cr d l i)=(bI seen l i).map fun e=>(gE e.1,mz d e.2.1,e.2.2)
 | [],_=>rfl
 |p::l,i=>by
  unfold cr eW bI;by_cases hs:i∈seen
  . simp only[ji.2 hs,ai,hs,bD,rD]
  . have:bL i seen=false:=by
     cases h:bL i seen with
     |false=>rfl
     |true=>exact absurd (ji.1 h) hs
    simp only[this,aW,hs,bE,rD,aS]
theorem Id{d n:Nat}:∀{l:Tb} {i:Nat},i+l.length<=n->l9 n (cr d l i)=true
 | [],_,_=>rfl
 |p::l,i,h=>by
  simp only[bf] at h;unfold cr l9;simp only[aC,cR];exact⟨by omega,Id (by omega)⟩
theorem FC{d:Nat}{l:Tb}{seen:List Nat}:(l9 l.length (cr d l 0)&&(kG seen||(kG (cr d l 0)||l7 l.length (cr d l 0))))=true:=by
 rw[Id (by omega),qW];cases l with
 |nil=>simp[cr,kG]
 |cons p l=>
  have:l7 (p::l).length (cr d (p::l) 0)=true:=by
   unfold cr l7;simp
  rw[this];simp
theorem HL{d:Nat}:∀{l:Tb} {i n:Nat} {k:K5} {z:Int},l[n]?=some (k,z)->qa (i+n) (cr d l i)=some (gE k,mz d z)
 | [],_,_,_,_,h=>by simp at h
 |p::l,i,0,k,z,h=>by
  simp only[nE,ae] at h;subst h;unfold cr qa;simp
 |p::l,i,n+1,k,z,h=>by
  simp only[Mc] at h;have ih:=HL (d:=d) (i:=i+1) h;unfold cr qa;have:Nat.beq i (i+(n+1))=false:=by
   cases hb:Nat.beq i (i+(n+1)) with
   |false=>rfl
   |true=>have:=aw hb;omega
  have h3:Nat.beq (i+(n+1)) i=false:=by
   cases hb:Nat.beq (i+(n+1)) i with
   |false=>rfl
   |true=>have:=aw hb;omega
  simp only[this,h3,aW];rw[show i+(n+1)=i+1+n by omega];exact ih
theorem HT{h:Hp}{gi gm d since:Nat}{l:Tb}{seen:List Nat}{e:K5×Int×Nat}(h1:h gi=some (.iter gm since seen l.length (some e.2.2)))(h2:h gm=some (dE d l))(h3:l[e.2.2]?=some (e.1,e.2.1)) :
 pR h (.w (.one (.ptr gi 0 0)))=some (.tup [gE e.1,mz d e.2.1],[]):=by
 unfold pR;simp only[h1,h2,dE];have:=HL (d:=d) (i:=0) h3;rw[aX] at this;rw[bj,ai,this]
end Go.Proofs.En
namespace Go.Proofs.En
open Go.RowKit Go.Proofs.Fl
def uS(X:EX)(rs:List ResultVar)(nP:Nat)(zs':List EO)(r:ES):Exit->SS->Prop
 | .normal,s=>match gC X.T X.Z s.tm s.h rs with
  |some xs=>Tr nP ⟨fun _=>ju xs,s.h,s.nx⟩ (ba [(0,r)] (oh 0 zs') zs'.length)
  |none=>False
 | .ret,s=>match gC X.T X.Z s.tm s.h rs with
  |some xs=>Tr nP ⟨fun _=>ju xs,s.h,s.nx⟩ (ba [(0,r)] (oh 0 zs') zs'.length)
  |none=>False
 |_,_=>False
section
variable {X:EX}{nP:Nat}{rd:Bool}{nt:Nat}{s:SS}{K:Exit->SS->Prop}
theorem SW.fr{c:Code}(h:SW X nP rd nt c s K):SW X nP rd nt c s (fun e s'=>K e s'/\s'.fr):=fun ro hro E hI hh w0 H U a w Q hS hQ=>
 h ro hro E hI hh w0 H U a w Q hS fun e s' a' w' k hp=>hQ e s' a' w' ⟨k,by obtain⟨_,_,_,_,p,_⟩:=hp;exact p.fr⟩ hp
theorem V6{f:FuncId}{fn:Func}{c:Code}(hf:X.P.funcs[f]?=some fn)(hb:fn.body=some c)(hn:(fn.name == "runtime.NumGoroutine")=false){args:List ES}(hx:Nat.ble args.length fn.ntmps=true){h:Hp}{zs':List EO}{r:ES}(hfr:∀g,nP<=g->h g=none)
 (hw:SW X nP false fn.ntmps c ⟨argS args,h,nP⟩ (uS X fn.results.toList nP zs' r)):CallOk X f args h r (g3 zs'):=by
 have hw':SW X nP false fn.ntmps c ⟨argS args,h,nP⟩ (iJ X fn.results.toList fun hp rf=>∃nx,(∀g,nx<=g->hp g=none)/\Tr nP ⟨fun _=>rf,hp,nx⟩ (ba [(0,r)] (oh 0 zs') zs'.length)):=hw.fr.mono fun e s ⟨hk,hfr⟩=>by
  cases e with
  |normal=>
   simp only[uS] at hk;simp only[iJ];split at hk
   . rename_i xs hr;first|exact⟨s.nx,hfr,hk⟩|(rw[hr];exact⟨s.nx,hfr,hk⟩)
   . exact hk.elim
  |ret=>
   simp only[uS] at hk;simp only[iJ];split at hk
   . rename_i xs hr;first|exact⟨s.nx,hfr,hk⟩|(rw[hr];exact⟨s.nx,hfr,hk⟩)
   . exact hk.elim
  |_=>exact hk.elim
 refine⟨⟨fn,hf,hn,by rw[hb];rfl⟩,fun E hI H U w vs hS hv=>?_⟩;have hlt:∀g,h g≠none->g<nP:=fun g hg=>by
  rcases eS g nP with h1|h1
  . exact h1
  . exact absurd (hfr g h1) hg
 have hh:∀g,E.hid g->g<nP:=fun g hg=>hlt g (by rw[(hS.hidb g hg).1];simp);refine yx hf hb (aB hx) hfr hw' hI hh hS hv fun v H' U' hp' rf w' h1 h2 h3 h4 h5 h6=>?_;obtain⟨nx,hf',t⟩:=h6;obtain⟨_,t⟩:=t hf';obtain⟨H2,β2,a1,a2,a3,a4⟩:=t _ E H' U' w' h3 hh;refine⟨v,H2,β2,rfl,h1.trans a1,fun g u k hk=>?_,?_,h4,a4 0 v h5⟩
 . have hg:g<nP:=by
    obtain⟨_,o,ho,_⟩:=hS.dom g u k hk;exact hlt g (by rw[ho];simp)
   exact a2 g u k hg (h2 g u k hg hk)
 . rw[<-Qb];exact a3
theorem VK{f:FuncId}{fn:Func}{c:Code}(hf:X.P.funcs[f]?=some fn)(hb:fn.body=some c)(hn:(fn.name == "runtime.NumGoroutine")=false){args:List ES}{zs zs':List EO}{r:ES}
 (hx:(Nat.ble args.length fn.ntmps&&(Nat.ble zs.length zs'.length&&zs.all fun o=>!KQ o))=true) (ha:ye zs.length args) (hz:rV (fun i=>Nat.blt i zs.length) zs) (hr:SlotOk [] [] r r\/(fb r).all (si zs')=true) (hz':rV (si zs') zs')
 (hw:SW X zs.length false fn.ntmps c ⟨argS args,g3 zs,zs.length⟩ (uS X fn.results.toList zs.length zs' r)):LocC X f args zs r zs':=by
 simp only[aC] at hx;refine⟨V6 hf hb hn hx.1 (fun g hg=>?_) hw,aB hx.2.1,GK ha,fun o ho=>⟨?_,AB (fun i h=>by rwa[cR] at h) hz o ho⟩,fun i hi=>?_,AB (fun i h=>Hn h) hz'⟩
 . show zs[g]?=none;exact qQ hg
 . have:=List.all_eq_true.1 hx.2.2 o ho;intro e;subst e;cases this
 . rcases hr with h|h
   . cases h with
     |rn h1 h2=>have:=List.all_eq_true.1 h2 i hi;simp[m6,fE] at this
     |same h1 h2=>rw[h2] at hi;cases hi
   . exact Hn (List.all_eq_true.1 h i hi)
end
theorem KZ{T:TypeId->Option TY}{h:Hp}{g t e g1 u1 n1 m sz p cnt:Nat}{ty te:TY}{s x:ES}{news cs:List EV}{vs:List (Nat×Nat)}(hs:s=.w (.one (.slc g1 u1 0 n1 (.fin sz))))(hg:h g1=some (.mem e cs false vs cnt))(hv:dV u1 vs=some p)
 (hx:iI h sz x=some (news,m)) (h1:n1*sz<=p) (h2:p<(n1+m)*sz) (h3:n1+m<=1000000) (h4:(n1+m)*te.bytes<=140737488355328) (hm:Nat.beq m 0=false)
 (ht:T t=some ty) (hsh:ty.sh=.slice e) (hte:T e=some te) (hsz:te.size=sz) (h0:(Nat.blt 0 te.size&&Nat.beq te.zero.cells.length te.size)=true) :
 jl T h g t s x=some (.w (.one (.slc g1 cnt 0 (n1+m) (.fin sz))),[(g1,.mem e (cs.take (n1*sz)++news) false ((cnt,(n1+m)*sz)::yp (vs.map fun p=>(p.1,Nat.min p.2 (n1*sz)))) (cnt+1))]):=by
 subst hs;have hb:∀{a b:Nat},a<=b->Nat.ble a b=true:=fun h=>fh h;have hnb:Nat.ble ((n1+m)*sz) p=false:=by
  cases hb':Nat.ble ((n1+m)*sz) p with
  |false=>rfl
  |true=>have:=aB hb';omega
 rw[hsz] at h0;unfold jl;rw[ht];simp only[hsh,hte,h0,ai,hsz,hx,hm,aW,hb h3,hb h4,mF,hg,bj,hv,hnb,hb h1,cC,bc]
theorem K0{T:TypeId->Option TY}{h:Hp}{g t e g1 u1 off1 m sz:Nat}{ty te:TY}{s x:ES}{news:List EV}(hs:s=.w (.one (.slc g1 u1 off1 0 (.ex 0))))(hr:gf (h g1) u1 off1 0=some [])(hn:h g=none)
 (hx:iI h sz x=some (news,m)) (hm:1<=m) (h3:m<=1000000) (h4:m*te.bytes<=140737488355328)
 (ht:T t=some ty) (hsh:ty.sh=.slice e) (hte:T e=some te) (hsz:te.size=sz) (h0:(Nat.blt 0 te.size&&Nat.beq te.zero.cells.length te.size)=true) :
 jl T h g t s x=some (.w (.one (.slc g 0 0 m (.fin sz))),[(g,.mem e news false [(0,news.length)] 1)]):=by
 subst hs;have hb:∀{a b:Nat},a<=b->Nat.ble a b=true:=fun h=>fh h;have hm0:Nat.beq m 0=false:=eO (by omega);have hnb:Nat.ble m 0=false:=by
  cases hb':Nat.ble m 0 with
  |false=>rfl
  |true=>have:=aB hb';omega
 rw[hsz] at h0;unfold jl;rw[ht];simp only[hsh,hte,hsz,h0,ai,hx,hm0,aW,aX,hb h3,hb h4,mF,hnb,mA,hr,wx hn,ku]
theorem In(u p:Nat)(vs:List (Nat×Nat)):dV u ((u,p)::vs)=some p:=by
 unfold dV;rw[bj];rfl
def n4(x:IV):Bool:=!x.isAgg && !x.isTup&&(match x with
 | .nil 3=>false
 |_=>true)
theorem Cj{T:TypeId->Option TY}{Z:QS}{S:Nat->Bool}{h:Hp}{f:Nat}:∀{es:List IV},(es.all n4)=true->du (cj T Z S h f) (es.map .iv)=some es
 | [],_=>rfl
 |x::es,hx=>by
  simp only[ed,aC] at hx;have ih:=Cj (T:=T) (Z:=Z) (S:=S) (h:=h) (f:=f) hx.2;have h1:cj T Z S h f (.iv x)=some x:=by
   have hp:=hx.1;unfold n4 at hp;cases x<;>first|(unfold cj;rfl)|skip
   rename_i k;unfold cj;split
   . rename_i he;cases he;simp at hp
   . rfl
  simp only[aS,du,h1,ih]
theorem HC:∀(es:List IV),fA false 1 es.length es=es
 | []=>rfl
 |x::es=>by
  have ih:=HC es;rw[bf,fA];show(x::es).headD (.bool false)::fA false 1 es.length es=_;rw[ih];rfl
theorem G6:∀{es:List IV},(es.all n4)=true->dT 1 es=true/\(es.all fun x=>!x.isAgg)=true
 | [],_=>⟨rfl,rfl⟩
 |x::es,hx=>by
  simp only[ed,aC] at hx;obtain⟨i1,i2⟩:=G6 hx.2;have hp:=hx.1;unfold n4 at hp;simp only[aC,eF] at hp;unfold dT at i1 ⊢;have hc:x.cells=[x]:=by cases x<;>first|rfl|(simp[IV.isAgg] at hp;done)
  constructor
  . simp only[ed,i1,hc,hp.1.2];rfl
  . simp only[ed,i2,hp.1.1];rfl
theorem Ra{T:TypeId->Option TY}{Z:QS}{S:Nat->Bool}{h:Hp}{f g u n p cnt:Nat}{cap:Cap}{e:TypeId}{cs:List EV}{fz:Bool}{vs:List (Nat×Nat)}{te:TY}{es:List IV}(hs:S g=true)(hg:h g=some (.mem e cs fz vs cnt))(ht:T e=some te)(h1:te.size=1)(ha:te.sh.agg=false)
 (hv:dV u vs=some p) (hp:n<=p) (hn:n=es.length) (hc:cs.take n=es.map .iv) (hes:(es.all n4)=true):cj T Z S h (f+1) (.slc g u 0 n cap)=some (.sl es):=by
 obtain⟨z1,z2⟩:=G6 hes;subst hn;have hb:=fh hp;unfold cj;simp only[hs,hg,ht,hv,h1,ha,jc,aX,hb,ai,bJ,hc,Cj hes,HC,z1,z2,bj,mF,Bool.or_true]
theorem Rb{T:TypeId->Option TY}{Z:QS}{S:Nat->Bool}{h:Hp}{f g u n p cnt:Nat}{cap:Cap}{e:TypeId}{cs:List EV}{fz:Bool}{vs:List (Nat×Nat)}{te:TY}{es:List IV}(hs:S g=true)(hg:h g=some (.mem e cs fz vs cnt))(ht:T e=some te)(h1:te.size=1)(ha:te.sh.agg=false)
 (hv:dV u vs=some p) (hp:n<=p) (hn:n=es.length) (hc:cs.take n=es.map .iv) (hes:(es.all n4)=true):iO T Z S h (f+1) (.w (.one (.slc g u 0 n cap)))=some (.sl es):=by
 simp only[iO,qt];exact Ra (cap:=cap) hs hg ht h1 ha hv hp hn hc hes
variable {J:Keep}
theorem lT{f:FuncId}{fn:Func}{c:Code}(hf:Tryz.prog.funcs[f]?=some fn)(hb:fn.body=some c)(hn:(fn.name == "runtime.NumGoroutine")=false){args:List ES}{zs zs':List EO}{r:ES}
 (hx:(Nat.ble args.length fn.ntmps&&(Nat.ble zs.length zs'.length&&zs.all fun o=>!KQ o))=true) (ha:ye zs.length args) (hz:rV (fun i=>Nat.blt i zs.length) zs) (hr:SlotOk [] [] r r\/(fb r).all (si zs')=true) (hz':rV (si zs') zs')
 (hw:SW (XS J) zs.length false fn.ntmps c ⟨argS args,g3 zs,zs.length⟩ (uS (XS J) fn.results.toList zs.length zs' r)):LocC (XS J) f args zs r zs' :=
 VK (X:=XS J) hf hb hn hx ha hz hr hz' hw
theorem DK{f:FuncId}{fn:Func}{c:Code}(hf:Tryz.prog.funcs[f]?=some fn)(hb:fn.body=some c)(hn:(fn.name == "runtime.NumGoroutine")=false){xs:List IV}{r:IV}(hx:Nat.ble xs.length fn.ntmps=true)(hxt:jn xs=true)(fu:Nat)
 (hw:SW (XS J) 0 false fn.ntmps c ⟨argS (xs.map dS),fun _=>none,0⟩ (iJ (XS J) fn.results.toList fun h rf=>iO TT ZZ (fun _=>true) h fu rf=some r)):C J f xs r :=
 C8 (X:=XS J) J.bel hf hb hn hx hxt fu hw
end Go.Proofs.En
namespace Go.Proofs.En
open Go.RowKit Go.Proofs.Fl Go.Proofs.Dig
attribute [local irreducible] IntKind.wrap aY be bm bt SW SWr CallOk To Tr eX
open Go.Proofs.Reg
def iL(l:List Int):List EV:=l.map fun n=>.iv (br n)
theorem jN(u p:Nat):dV u [(u,p)]=some p:=by
 unfold dV;rw[bj];rfl
theorem rz:∀{l:List Int},(iL l).flatMap bB=[]
 | []=>rfl
 |x::l=>by
  have:=rz (l:=l);simp only[iL,aS,dz] at this ⊢;rw[this];rfl
theorem rX(l:List Int):(iL l).length=l.length:=by simp[iL]
theorem Bw:∀(l:List Int),dT 1 (l.map br)=true
 | []=>rfl
 |x::l=>by
  have:=Bw l;unfold dT at this ⊢;rw[aS,ed,this];rfl
theorem Bq:∀(l:List Int),((l.map br).flatMap IV.cells).map EV.iv=iL l
 | []=>rfl
 |x::l=>by
  have:=Bq l;rw[aS,dz,ch,this];rfl
end Go.Proofs.En
namespace Go.Proofs.Reg
theorem FP{t:Tm}:∀{os:List Tm},t.1∉os.map Prod.fst->bX t os=os ++ [t]
 | [],_=>rfl
 |o::os,h=>by
  simp only[aS,eT,s9] at h;rw[bX,al fun e=>h.1 e.symm,FP h.2];rfl
theorem FO{t o:Tm}:∀{os:List Tm} {m:Nat},mU os->os[m]?=some o->o.1=t.1->bX t os=os.set m (o.1,o.2+t.2)
 | [],m,_,h,_=>by simp at h
 |x::os,0,_,h,e=>by
  simp at h;subst h;rw[bX,ar e];rfl
 |x::os,m+1,hn,h,e=>by
  simp at h;have hx:=(List.pairwise_cons.1 hn).1 o (cd h);rw[bX,al (by rw[<-e];exact hx),FO (List.pairwise_cons.1 hn).2 h e];rfl
theorem AM{f:List Tm}{i:Nat}(h:i<f.length):bk (f.take (i+1))=bX f[i] (bk (f.take i)):=by
 rw[je h];unfold bk;rw[vz];rfl
theorem PC{os:List Tm}{m:Nat}{o:Tm}{q:Rat}(h:os[m]?=some o):(os.set m (o.1,q)).map Prod.fst=os.map Prod.fst:=by
 apply oQ;intro i;simp only[dw,zj];by_cases e:m=i
 . subst e;obtain⟨hl,he⟩:=List.getElem?_eq_some_iff.1 h;simp[hl,he]
 . simp[e]
theorem FQ(t:Tm):∀(os:List Tm),∀x∈bX t os,x.1=t.1\/∃o∈os,x.1=o.1
 | [],x,hx=>by simp[bX] at hx;exact .inl (by rw[hx])
 |o::os,x,hx=>by
  unfold bX at hx;split at hx
  . rename_i e;rcases List.mem_cons.1 hx with rfl|hx
    . exact .inl e
    . exact .inr ⟨x,by simp[hx],rfl⟩
  . rcases List.mem_cons.1 hx with rfl|hx
    . exact .inr ⟨x,by simp,rfl⟩
    . rcases FQ t os x hx with h|⟨y,hy,h⟩
      . exact .inl h
      . exact .inr ⟨y,by simp[hy],h⟩
theorem pj{f:List Tm}:∀i,i<=f.length->∀x∈bk (f.take i),∃t∈f,x.1=t.1
 |0,_,x,hx=>by simp[bk] at hx
 |i+1,h,x,hx=>by
  have hi:i<f.length:=h;rw[AM hi] at hx;rcases FQ _ _ x hx with e|⟨y,hy,e⟩
  . exact⟨f[i],bV hi,e⟩
  . obtain⟨z,hz,e'⟩:=pj i (by omega) y hy;exact⟨z,hz,e.trans e'⟩
theorem GF(t:Tm):∀os:List Tm,(bX t os).length<=os.length+1
 | []=>by simp[bX]
 |o::os=>by
  have:=GF t os;unfold bX;split<;>simp<;>omega
theorem pv(f:List Tm):(bk f).length<=f.length:=by
 have key:∀(f out:List Tm),(f.foldl (fun out t=>bX t out) out).length<=out.length+f.length:=by
  intro f;induction f with
  |nil=>intro out;simp
  |cons t f ih=>intro out;have h1:=ih (bX t out);have h2:=GF t out;simp only[iw,bf];omega
 have:=key f [];rw[zg,aX] at this;exact this
end Go.Proofs.Reg
namespace Go.Proofs.En
open Go.RowKit Go.Proofs.Fl Go.Proofs.Dig
attribute [local irreducible] IntKind.wrap aY be bm bt SW SWr CallOk To Tr eX
open Go.Proofs.Reg
theorem flat_set{α U:Type}{f:α->List U}{k:Nat}{a':α}:∀{l:List α} {i:Nat},(∀a,(f a).length=k)->i<l.length->splice (l.flatMap f) (i*k) (f a')=(l.set i a').flatMap f
 | [],i,_,h=>by simp at h
 |b::l,0,hl,h=>by
  unfold splice;rw[mA,th,ku,EC,dz,dz,aX,hl,<-hl b,List.drop_left]
 |b::l,i+1,hl,h=>by
  have ih:=flat_set (f:=f) (k:=k) (a':=a') (l:=l) (i:=i) hl (by simpa using h);unfold splice at ih ⊢;rw[Ei,dz,dz,show(i+1)*k=(f b).length+i*k by rw[hl,bP];omega,L0,Ek,aH (zP _ _),kX,LY,Ek,kW (zP _ _),ku,<-ih,dj,dj,dj]
theorem un{e m P cnt:Nat}{os:List Tm}{x:Tm}{fz:Bool}(h:os[m]?=some x)(hP:P=os.length*4):gf (some (.mem e (os.flatMap bd) fz [(0,P)] cnt)) 0 (m*4) 4=some (bd x):=by
 have hm:=(List.getElem?_eq_some_iff.1 h).1;unfold gf;simp only[jN,fh (show m*4+4<=P by omega),ai];rw[flat_get (fun a _=>ia a) h]
theorem JP{e m P cnt:Nat}{os:List Tm}{x:Tm}{new:List EV}(hm:m<os.length)(hP:P=os.length*4)(hn:new=bd x):ge (some (.mem e (os.flatMap bd) false [(0,P)] cnt)) 0 (m*4) new=some (.mem e ((os.set m x).flatMap bd) false [(0,P)] cnt):=by
 subst hn;unfold ge;simp only[jN,ia,fh (show m*4+4<=P by omega),ai,cC];rw[flat_set ia hm];rfl
def nn:List Tm->EV
 | []=>.iv (.nil 3)
 |_::l=>.slc 1 0 0 (l.length+1) (.fin 4)
noncomputable def nr:List Tm->EO
 | []=>.mem 78 [] false [] 0
 |x::l=>gc (x::l) 1
theorem gj:∀os:List Tm,(os.flatMap bd).flatMap bB=[]
 | []=>rfl
 |x::l=>by rw[dz,mG,gj l];rfl
theorem tH{os:List Tm}:ig (nr os):=by
 cases os with
 |nil=>rfl
 |cons x l=>exact gj (x::l)
noncomputable def gA(os:List Tm):List (List Int):=os.map Prod.fst
noncomputable def aR(f:List Tm):IV:=.sl (f.map fun t=>tq t.1 t.2)
theorem pb{ps:List (List Int)}:ig (iU ps):=by
 have key:∀(ps:List (List Int)) (i:Nat),∀e∈ke ps i,eB e.1=[]/\eB e.2.1=[]:=by
  intro ps;induction ps with
  |nil=>intro i e he;cases he
  |cons p ps ih=>
   intro i e he;rcases List.mem_cons.1 he with rfl|he
   . refine⟨?_,rfl⟩;show((dA p).map fun z=>EV.iv (di z)).flatMap bB=[];induction dA p with
     |nil=>rfl
     |cons a l ih=>rw[aS,dz,ih];rfl
   . exact ih _ _ he
 exact key ps 0
noncomputable def s5(f os:List Tm)(t:Nat):SS:=ba [(1,ac (.fn 69)),(2,ac (.fn 70)),(3,ac (.fn 73)),(9,.w (.one (.mp 0))),(10,.w (.one (nn os))),(17,ac (aR f)),(18,ac (di (f.length:Int))),(19,ac (di (t:Int)))] [(0,iU (gA os)),(1,nr os)] 2
noncomputable def WZ(f os:List Tm)(L t:Nat):SS:=ba [(1,ac (.fn 69)),(2,ac (.fn 70)),(3,ac (.fn 73)),(9,.w (.one (.mp 0))),(10,.w (.one (.slc 1 0 0 L (.fin 4)))),(17,ac (aR f)),(18,ac (di (f.length:Int))),(19,ac (di (t:Int)))] [(0,iU (gA os)),(1,.mem 78 (os.flatMap bd) false [(0,L*4)] 1)] 2
theorem CM{f os:List Tm}{L t:Nat}(h0:os≠[])(hL:os.length=L):s5 f os t=WZ f os L t:=by
 cases os with
 |nil=>exact absurd rfl h0
 |cons x l=>subst hL;rfl
end Go.Proofs.En
namespace Go.Proofs.En
open Go.RowKit Go.Proofs.Fl Go.Proofs.Dig
attribute [local irreducible] IntKind.wrap aY be bm bt SW SWr CallOk To Tr eX
open Go.Proofs.Reg
def sZ(ts:List Tm):Int:=match ts.findIdx? (fun t=>decide (t.2=0)) with
 |some i=>(i:Int)
 |none => -1
theorem I4{ts:List Tm}{t:Nat}{x:Tm}(h:∀y∈ts.take t,y.2≠0)(hx:ts[t]?=some x)(h0:x.2=0):sZ ts=(t:Int):=by
 have hl:=(List.getElem?_eq_some_iff.1 hx);obtain⟨hlt,he⟩:=hl;have:ts.findIdx? (fun t=>decide (t.2=0))=some t:=by
  rw[XB];refine⟨hlt,by rw[he];exact bu h0,fun j hj=>?_⟩;have:=h ts[j] (by rw[MT];exact⟨j,by omega,rfl⟩);simpa using this
 unfold sZ;rw[this]
theorem Ho{ts:List Tm}(h:∀y∈ts,y.2≠0):sZ ts = -1:=by
 have:ts.findIdx? (fun t=>decide (t.2=0))=none:=by
  rw[List.findIdx?_eq_none_iff];intro x hx;exact bz (h x hx)
 unfold sZ;rw[this]
theorem gn{ts:List Tm}{c:Nat}:ig (gc ts c):=gj ts
theorem IE(J:Keep){ts:List Tm}{c:Nat}(hl:ts.length<2^20):LocC (XS J) 183 [.w (.one (.slc 0 0 0 ts.length (.fin 4))),ac (.fn 73)] [gc ts c] (ac (di (sZ ts))) [gc ts c]:=by
 obtain⟨r,hr⟩:∃r,sZ ts=r:=⟨_,rfl⟩;rw[hr];refine lT Tryz.func183 rfl rfl rfl ⟨.c rfl,.c rfl,ab⟩ ⟨.d gn,ab⟩ (.inr rfl) ⟨.d gn,ab⟩ ?_;repeat (((first|refine SW.R (by kernel_rfl) ?_|refine SW.c rfl ?_|refine b8 rfl ?_);conv=>whnf))
 refine gu (G:={ t:Nat // t<=ts.length/\∀y∈ts.take t,y.2≠0 }) (fun t=>ba [(0,.w (.one (.slc 0 0 0 ts.length (.fin 4)))),(1,ac (.fn 73)),(6,.w (.one (.slc 0 0 0 ts.length (.fin 4)))),(7,ac (di (ts.length:Int))),(8,ac (di (t.1:Int)))] [(0,gc ts c)] 1) (fun t=>ts.length-t.1) ⟨0,bb _,by simp⟩
  (Tr.tab [] [] ⟨.rn rfl rfl,.same rfl rfl,.rn rfl rfl,.same rfl rfl,.same rfl rfl,ab⟩ ⟨.same rfl rfl gn,ab⟩ rfl) ?_
 rintro⟨t,ht,hz⟩;show SW (XS J) _ _ _ _ (ba [(0,.w (.one (.slc 0 0 0 ts.length (.fin 4)))),(1,ac (.fn 73)),(6,.w (.one (.slc 0 0 0 ts.length (.fin 4)))),(7,ac (di (ts.length:Int))),(8,ac (di (t:Int)))] [(0,.mem 78 (ts.flatMap bd) false [(0,ts.length*4)] c)] 1) _;by_cases h:t<ts.length
 . obtain⟨⟨p,q⟩,hx⟩:∃x,ts[t]?=some x:=⟨_,aQ h⟩;have c237:=IH J (a:=p) (x:=q);by_cases h0:q=0
   . rw[bu h0] at c237;have e:=I4 hz hx h0;rw[hr] at e;subst e;repeat (((first|refine SW.R (by kernel_rfl) ?_|refine SW.c rfl ?_|refine iN (j:=t) rfl h (aX _) ?_|refine bi (un hx rfl) ?_|refine bM c237 rfl rfl rfl ?_|refine yT (by omega) ?_);conv=>whnf))
     exact Tr.tab [] [] ⟨.same rfl rfl,ab⟩ ⟨.same rfl rfl gn,ab⟩ rfl
   . rw[bz h0] at c237;repeat (((first|refine SW.R (by kernel_rfl) ?_|refine SW.c rfl ?_|refine iN (j:=t) rfl h (aX _) ?_|refine bi (un hx rfl) ?_|refine bM c237 rfl rfl rfl ?_|refine ap (by omega) ?_|refine yT (by omega) ?_);conv=>whnf))
     refine⟨⟨t+1,by omega,fun y hy=>?_⟩,Tr.tab [] [] ⟨.rn rfl rfl,.same rfl rfl,.rn rfl rfl,.same rfl rfl,.same rfl rfl,ab⟩ ⟨.same rfl rfl gn,ab⟩ rfl,by dsimp only;omega⟩;rw[k9,hx] at hy;rcases List.mem_append.1 hy with hy|hy
     . exact hz y hy
     . rw[List.mem_singleton.1 hy];exact h0
 . have e:t=ts.length:=by omega
   subst e;rw[cU] at hz;have e:=Ho hz;rw[hr] at e;subst e;repeat (((first|refine SW.R (by kernel_rfl) ?_|refine SW.c rfl ?_|refine yF (by omega) ?_);conv=>whnf))
   exact Tr.tab [] [] ⟨.same rfl rfl,ab⟩ ⟨.same rfl rfl gn,ab⟩ rfl
theorem I2{u L e c:Nat}{cs:List EV}{fz:Bool}:sY (some (.mem e cs fz [(u,L*4)] c)) u 0 L 4=L:=by
 unfold sY;simp only[jN,aX,fh (ak _),qW,tn,Xn _ (by omega:0<4)];rfl
theorem Qj{T:TypeId->Option TY}{h:Hp}{g t e e1 L i c:Nat}{ty te:TY}{cs:List EV}{fz:Bool}(hg:h g=some (.mem e1 cs fz [(0,L*4)] c))(hi:i<L)(ht:T t=some ty)(hsh:ty.sh=.slice e)(hte:T e=some te)(hsz:te.size=4) :
 ij T h t (.w (.one (.slc g 0 0 L (.fin 4)))) (some (ac (di (i:Int)))) none none=some (.w (.one (.slc g 0 (i*4) (L-i) (.fin 4))),[]):=by
 unfold ij;rw[ht];simp only[hsh,hte];rw[show jC (some (ac (di (i:Int)))) 0=some i from rfl,show jC none L=some L from rfl,hg,I2];have e1:(Nat.ble i L&&Nat.ble L L&&Nat.blt i L&&Nat.beq 4 4)=true:=by
  rw[fh (by omega),fh (ak _),(by rw[cR];exact hi:Nat.blt i L=true)];rfl
 rw[hsz];simp only[bc,e1,ai,aX]
theorem Qk{T:TypeId->Option TY}{h:Hp}{g t e e1 L i c:Nat}{ty te:TY}{cs:List EV}{fz:Bool}(hg:h g=some (.mem e1 cs fz [(0,L*4)] c))(hi:i<L)(ht:T t=some ty)(hsh:ty.sh=.slice e)(hte:T e=some te)(hsz:te.size=4) :
 ij T h t (.w (.one (.slc g 0 0 L (.fin 4)))) none (some (ac (di (i:Int)))) none=some (.w (.one (.slc g 0 0 i (.fin 4))),[]):=by
 unfold ij;rw[ht];simp only[hsh,hte];rw[show jC none 0=some 0 from rfl,show jC (some (ac (di (i:Int)))) L=some i from rfl,hg,I2];have e1:(Nat.ble 0 i&&Nat.ble i L&&Nat.blt 0 L&&Nat.beq 4 4)=true:=by
  rw[fh (bb _),fh (by omega),(by rw[cR];omega:Nat.blt 0 L=true)];rfl
 rw[hsz];simp only[bc,e1,ai,mA,aX,tn]
def bH(x:Tm):Bool:=decide (x.2≠0)
theorem Jc{ts:List Tm}{i j:Nat}{x:Tm}(hx:ts[i]?=some x)(h0:x.2=0)(hij:i<j):((ts.take j).filter bH).length<j:=by
 have hm:x∈ts.take j:=by
  obtain⟨hl,he⟩:=List.getElem?_eq_some_iff.1 hx;rw[MT];exact⟨i,by omega,he⟩
 have h1:((ts.take j).filter bH).length<(ts.take j).length:=by
  apply List.length_filter_lt_length_iff_exists.2;exact⟨x,hm,by unfold bH;simp[h0]⟩
 have:=List.length_take_le j ts;omega
def eZ(ts:List Tm)(j:Nat):List Tm:=(ts.take j).filter bH++ts.drop ((ts.take j).filter bH).length
theorem RG{ts:List Tm}{j:Nat}(h:((ts.take j).filter bH).length<=ts.length):(eZ ts j).length=ts.length:=by
 unfold eZ;rw[ce,k8];omega
theorem RH{ts:List Tm}{j:Nat}(h:((ts.take j).filter bH).length<=j):(eZ ts j)[j]?=ts[j]?:=by
 unfold eZ;rw[Mp h,oR];congr 1;omega
theorem RF{ts:List Tm}{j:Nat}{x:Tm}(hx:ts[j]?=some x)(hz:x.2≠0)(h:((ts.take j).filter bH).length<ts.length) :
 (ts.take (j+1)).filter bH=(ts.take j).filter bH ++ [x]/\(eZ ts j).set ((ts.take j).filter bH).length x=eZ ts (j+1):=by
 have e1:(ts.take (j+1)).filter bH=(ts.take j).filter bH ++ [x]:=by
  rw[k9,hx,MU];have:bH x=true:=by unfold bH;simpa using hz
  simp[this]
 refine⟨e1,?_⟩;unfold eZ;rw[e1,dY h,ce,nG,XC _ _ (ak _),kZ,EC,dj];rfl
theorem GY{ts:List Tm}{j:Nat}{x:Tm}(hx:ts[j]?=some x)(hz:x.2=0):(ts.take (j+1)).filter bH=(ts.take j).filter bH:=by
 rw[k9,hx,MU];have:bH x=false:=by unfold bH;simp[hz]
 simp[this]
theorem A4{zs:List EV}:∀m,(fX zs m).length=m*zs.length
 |0=>by simp[fX]
 |m+1=>by rw[fX,ce,A4 m,qX];omega
theorem PW{T:TypeId->Option TY}{ze:TypeId->Option (List EV)}{h:Hp}{g t e e1 L i m c:Nat}{ty te:TY}{cs zs:List EV}(hg:h g=some (.mem e1 cs false [(0,L*4)] c))(hl:cs.length=L*4)(him:i+m=L)(ht:T t=some ty)(hsh:ty.sh=.slice e)(hte:T e=some te)(hze:ze e=some zs)(hsz:te.size=4)(hzs:zs.length=4) :
 kH T ze h t (.w (.one (.slc g 0 (i*4) m (.fin 4))))=some (.tup [],[(g,.mem e1 (cs.take (i*4)++fX zs m) false [(0,L*4)] c)]):=by
 unfold kH;rw[ht];simp only[hsh,hte,hze];rw[hzs,hsz,bj,ai,hg];unfold ge;have e2:(fX zs m).length=m*4:=by rw[A4,hzs]
 simp only[jN,e2,fh (show i*4+m*4<=L*4 by omega),ai,cC];unfold splice;rw[e2,kW (by omega),jb];rfl
theorem Qp(J:Keep){ts:List Tm}{c:Nat}(hl:ts.length<2^20)(hz:∀y∈ts,y.2≠0):LocC (XS J) 130 [.w (.one (.slc 0 0 0 ts.length (.fin 4))),ac (.fn 73)] [gc ts c] (.w (.one (.slc 0 0 0 ts.length (.fin 4)))) [gc ts c]:=by
 refine lT Tryz.func130 rfl rfl rfl ⟨.c rfl,.c rfl,ab⟩ ⟨.d gn,ab⟩ (.inr rfl) ⟨.d gn,ab⟩ ?_;have c1:=IE J (ts:=ts) (c:=c) hl;rw[Ho hz] at c1;repeat ((refine SW.RS (by kernel_rfl) ?_;conv=>whnf))
 refine jh c1 [0] 0 rfl ⟨.c rfl,.d rfl,ab⟩ ⟨.d rfl gn,ab⟩ trivial (ii (.d gn) iD) (.d rfl) ?_;conv=>whnf
 repeat (((first|refine SW.R (by kernel_rfl) ?_|refine SW.c rfl ?_|refine yT (by omega) ?_);conv=>whnf))
 exact Tr.tab [] [] ⟨.rn rfl rfl,ab⟩ ⟨.same rfl rfl gn,ab⟩ rfl
theorem Pe(J:Keep){ts:List Tm}{c i:Nat}{x:Tm}(hl:ts.length<2^20)(hi:∀y∈ts.take i,y.2≠0)(hx:ts[i]?=some x)(h0:x.2=0):∃zs:List EV,zs.flatMap bB=[]/\zs.length=(ts.length-(ts.filter bH).length)*4/\
 LocC (XS J) 130 [.w (.one (.slc 0 0 0 ts.length (.fin 4))),ac (.fn 73)] [gc ts c] (.w (.one (.slc 0 0 0 (ts.filter bH).length (.fin 4)))) [.mem 78 ((ts.filter bH).flatMap bd++zs) false [(0,ts.length*4)] c]:=by
 obtain⟨zc,hzc,hz4,hzi⟩:∃zc,(XS J).ze 78=some zc/\zc.length=4/\zc.flatMap bB=[]:=⟨_,rfl,rfl,rfl⟩;have hzr:∀m,(fX zc m).flatMap bB=[]:=fun m=>by
  induction m with
  |zero=>rfl
  |succ m ih=>rw[fX,mG,hzi,ih];rfl
 have hil:i<ts.length:=(List.getElem?_eq_some_iff.1 hx).1;obtain⟨K,hK⟩:∃K,ts.filter bH=K:=⟨_,rfl⟩;have hKl:K.length<ts.length:=by
  have:=Jc (j:=ts.length) hx h0 hil;rwa[cU,hK] at this
 rw[hK];refine⟨fX zc (ts.length-K.length),hzr _,by rw[A4,hz4],?_⟩;refine lT Tryz.func130 rfl rfl rfl ⟨.c rfl,.c rfl,ab⟩ ⟨.d gn,ab⟩ (.inr rfl) ⟨.d (by show(K.flatMap bd++_).flatMap bB=[];rw[mG,gj,hzr];rfl),ab⟩ ?_;have c1:=IE J (ts:=ts) (c:=c) hl;rw[I4 hi hx h0] at c1;repeat ((refine SW.RS (by kernel_rfl) ?_;conv=>whnf))
 refine jh c1 [0] 0 rfl ⟨.c rfl,.d rfl,ab⟩ ⟨.d rfl gn,ab⟩ trivial (ii (.d gn) iD) (.d rfl) ?_;conv=>whnf
 repeat (((first|refine SW.R (by kernel_rfl) ?_|refine SW.c rfl ?_|refine ap (by omega) ?_|refine yF (by omega) ?_);conv=>whnf))
 have e0:(ts.take (i+1)).filter bH=ts.take i:=by
  rw[GY hx h0,XD];intro y hy;unfold bH;simpa using hi y hy
 have e1:(ts.take i).length=i:=by rw[b9];omega
 have e2:eZ ts (i+1)=ts:=by unfold eZ;rw[e0,e1,ks]
 refine gu (G:={ j:Nat // i<j/\j<=ts.length }) (fun j=>ba [(0,.w (.one (.slc 0 0 0 ts.length (.fin 4)))),(1,ac (.fn 73)),(5,ac (di (((ts.take j.1).filter bH).length:Int))),(6,ac (di (j.1:Int)))] [(0,.mem 78 ((eZ ts j.1).flatMap bd) false [(0,ts.length*4)] c)] 1) (fun j=>ts.length-j.1) ⟨i+1,by omega,by omega⟩
  (Tr.tab [] [] ⟨.rn rfl rfl,.same rfl rfl,.same (by rw[e0,e1];rfl) rfl,.same rfl rfl,ab⟩ ⟨.same rfl (by rw[e2];rfl) (gj _),ab⟩ rfl) ?_
 rintro⟨j,hj1,hj2⟩;have hjl:=Jc (j:=j) hx h0 hj1;have hRl:=RG (ts:=ts) (j:=j) (by omega);have hRg:=RH (ts:=ts) (j:=j) (by omega);show SW (XS J) _ _ _ _ (ba [(0,.w (.one (.slc 0 0 0 ts.length (.fin 4)))),(1,ac (.fn 73)),(5,ac (di (((ts.take j).filter bH).length:Int))),(6,ac (di (j:Int)))] [(0,.mem 78 ((eZ ts j).flatMap bd) false [(0,ts.length*4)] c)] 1) _;by_cases h:j<ts.length
 . obtain⟨⟨p,q⟩,hxj⟩:∃x,ts[j]?=some x:=⟨_,aQ h⟩;have c237:=IH J (a:=p) (x:=q);have hgj:=hRg.trans hxj;by_cases hq0:q=0
   . rw[bu hq0] at c237;have e3:=GY hxj hq0;obtain⟨R,hR⟩:∃R,eZ ts j=R:=⟨_,rfl⟩;obtain⟨I,hI⟩:∃I,((ts.take j).filter bH).length=I:=⟨_,rfl⟩;rw[hR] at hgj hRl;rw[hR,hI];repeat (((first|refine SW.R (by kernel_rfl) ?_|refine SW.c rfl ?_|refine iN (j:=j) rfl h (aX _) ?_|refine bi (un hgj (by rw[hRl])) ?_|refine bM c237 rfl rfl rfl ?_|refine ap (by omega) ?_|refine yT (by omega) ?_|refine b8 rfl ?_|refine jB rfl ?_|refine bN rfl ?_|refine bi rfl ?_);conv=>whnf))
     refine⟨⟨j+1,by omega,by omega⟩,?_,by dsimp only;omega⟩;have e4:eZ ts (j+1)=R:=by unfold eZ;rw[e3];exact hR
     show Tr _ _ (ba [(0,.w (.one (.slc 0 0 0 ts.length (.fin 4)))),(1,ac (.fn 73)),(5,ac (di (((ts.take (j+1)).filter bH).length:Int))),(6,ac (di ((j+1:Nat):Int)))] [(0,.mem 78 ((eZ ts (j+1)).flatMap bd) false [(0,ts.length*4)] c)] 1);rw[e3,hI,e4];exact Tr.tab [] [] ⟨.rn rfl rfl,.same rfl rfl,.same rfl rfl,.same rfl rfl,ab⟩ ⟨.same rfl rfl (gj _),ab⟩ rfl
   . rw[bz hq0] at c237;obtain⟨e3,e4⟩:=RF hxj hq0 (by omega);obtain⟨R,hR⟩:∃R,eZ ts j=R:=⟨_,rfl⟩;obtain⟨I,hI⟩:∃I,((ts.take j).filter bH).length=I:=⟨_,rfl⟩;have e5:((ts.take (j+1)).filter bH).length=I+1:=by rw[e3,ce,hI];rfl
     rw[hR] at hgj hRl;rw[hR,hI] at e4;rw[hI] at hjl;rw[hR,hI];have hIL:I<ts.length:=by omega
     have hIR:I<R.length:=by omega
     repeat (((first|refine SW.R (by kernel_rfl) ?_|refine SW.c rfl ?_|refine iN (j:=j) rfl h (aX _) ?_|refine bi (un hgj (by rw[hRl])) ?_|refine bM c237 rfl rfl rfl ?_|refine iN (j:=I) rfl hIL (aX _) ?_|refine yT (by omega) ?_|refine b8 rfl ?_|refine jB rfl ?_|refine bN rfl ?_|refine bi rfl ?_);conv=>whnf))
     refine bN (JP (x:=(p,q)) (m:=I) (os:=R) hIR (by rw[hRl]) rfl) ?_;conv=>whnf
     repeat (((first|refine SW.R (by kernel_rfl) ?_|refine ap (by omega) ?_);conv=>whnf))
     refine⟨⟨j+1,by omega,by omega⟩,?_,by dsimp only;omega⟩;show Tr _ _ (ba [(0,.w (.one (.slc 0 0 0 ts.length (.fin 4)))),(1,ac (.fn 73)),(5,ac (di (((ts.take (j+1)).filter bH).length:Int))),(6,ac (di ((j+1:Nat):Int)))] [(0,.mem 78 ((eZ ts (j+1)).flatMap bd) false [(0,ts.length*4)] c)] 1);rw[e5,<-e4];exact Tr.tab [] [] ⟨.rn rfl rfl,.same rfl rfl,.same rfl rfl,.same rfl rfl,ab⟩ ⟨.same rfl rfl (gj _),ab⟩ rfl
 . have ej:j=ts.length:=by omega
   subst ej;have eK:(ts.take ts.length).filter bH=K:=by rw[cU];exact hK
   have eR:((eZ ts ts.length).flatMap bd).take (K.length*4)=K.flatMap bd:=by
    unfold eZ;rw[eK,mG,jD (by rw[gN fun a _=>ia a];exact ak _),aH (by rw[gN fun a _=>ia a];exact ak _)]
   have eL:((eZ ts ts.length).flatMap bd).length=ts.length*4:=by rw[gN fun a _=>ia a,hRl]
   rw[eK];obtain⟨R,hR⟩:∃R,(eZ ts ts.length).flatMap bd=R:=⟨_,rfl⟩;rw[hR] at eR eL;rw[hR];repeat (((first|refine SW.R (by kernel_rfl) ?_|refine SW.c rfl ?_|refine kg (Qj (L:=ts.length) (i:=K.length) rfl hKl rfl rfl rfl rfl) ?_|refine yF (by omega) ?_|refine b8 rfl ?_);conv=>whnf))
   refine vk (PW (L:=ts.length) (i:=K.length) (m:=ts.length-K.length) rfl eL (by omega) rfl rfl rfl hzc rfl hz4) ?_;conv=>whnf
   repeat (((first|refine SW.RS (by kernel_rfl) ?_|refine SW.ret ?_|refine kg (Qk (L:=ts.length) (i:=K.length) rfl hKl rfl rfl rfl rfl) ?_);conv=>whnf))
   refine Tr.tab [] [] ⟨.rn rfl rfl,ab⟩ ⟨.same rfl ?_ (by show(K.flatMap bd++_).flatMap bB=[];rw[mG,gj,hzr];rfl),ab⟩ rfl;rw[<-eR];rfl
end Go.Proofs.En
namespace Go.Proofs.Reg
theorem QV(t:Tm):∀os:List Tm,bX t os≠[]
 | []=>by simp[bX]
 |o::os=>by unfold bX;split<;>simp
theorem S7{f:List Tm}(h:f≠[]):bk f≠[]:=by
 have hl:f.length-1<f.length:=by have:=List.length_pos_iff.2 h;omega
 have e:=AM hl;rw[show f.length-1+1=f.length by omega,cU] at e;rw[e];exact QV _ _
end Go.Proofs.Reg
namespace Go.Proofs.En
open Go.RowKit Go.Proofs.Fl Go.Proofs.Dig
attribute [local irreducible] IntKind.wrap aY be bm bt SW SWr CallOk To Tr eX
open Go.Proofs.Reg
theorem RX(J:Keep){ts:List Tm}{c:Nat}(hl:ts.length<2^20):∃zs:List EV,zs.flatMap bB=[]/\zs.length=(ts.length-(ts.filter bH).length)*4/\
 LocC (XS J) 130 [.w (.one (.slc 0 0 0 ts.length (.fin 4))),ac (.fn 73)] [gc ts c] (.w (.one (.slc 0 0 0 (ts.filter bH).length (.fin 4)))) [.mem 78 ((ts.filter bH).flatMap bd++zs) false [(0,ts.length*4)] c]:=by
 by_cases h:∀y∈ts,y.2≠0
 . have e:ts.filter bH=ts:=by
    rw[XD];intro y hy;unfold bH;simpa using h y hy
   rw[e];refine⟨[],rfl,by simp,?_⟩;rw[jb];exact Qp J hl h
 . obtain⟨n,hn⟩:∃n,n=ts.findIdx (fun t=>decide (t.2=0)):=⟨_,rfl⟩;have hex:∃y∈ts,decide (y.2=0)=true:=by
    apply fP;intro hc;refine h fun y hy e=>hc ⟨y,hy,bu e⟩
   have hlt:=List.findIdx_lt_length_of_exists hex;refine Pe J hl (i:=ts.findIdx (fun t=>decide (t.2=0))) (x:=ts[ts.findIdx (fun t=>decide (t.2=0))]) (fun y hy e=>?_) (aQ hlt) (mB (List.findIdx_getElem (w:=hlt)));obtain⟨j,hj,rfl⟩:=List.mem_take_iff_getElem.1 hy;have:=List.not_of_lt_findIdx (xs:=ts) (p:=fun t=>decide (t.2=0)) (i:=j) (by omega);rw[bu e] at this;exact absurd this (by simp)
theorem nw:nZ 3=some (EW.one (.iv (di 0))):=by unfold nZ;rfl
theorem R2{J:Keep}(B:Base J){n:Nat}{f:List Tm}(hn4:n<=4)(hn1:1<=n)(hn:∀t∈f,t.1.length=n)(hs:∀t∈f,bq t.1<2^62)(hq:∀t∈f,az t.2<2^36)(hg:∀i,i<=f.length->∀o∈bk (f.take i),az o.2<2^36)(hl:f.length<2^16)(h0:f≠[]) :
 ∃zs:List EV,zs.flatMap bB=[]/\zs.length=((bk f).length-((bk f).filter bH).length)*4/\
 LocC (XS J) 72 [ac (aR f),ac (.fn 69),ac (.fn 70),ac (.fn 73)] [] (.w (.one (.slc 1 0 0 ((bk f).filter bH).length (.fin 4)))) [iU (gA (bk f)),.mem 78 (((bk f).filter bH).flatMap bd++zs) false [(0,(bk f).length*4)] 1]:=by
 have hGl:(bk f).length<2^20:=by have:=pv f;omega
 have hG0:bk f≠[]:=S7 h0;obtain⟨zs,hz1,hz2,cD⟩:=RX J (ts:=bk f) (c:=1) hGl;refine⟨zs,hz1,hz2,?_⟩;have hcl:ig (.mem 78 (((bk f).filter bH).flatMap bd++zs) false [(0,(bk f).length*4)] 1):=by
  show(((bk f).filter bH).flatMap bd++zs).flatMap bB=[];rw[mG,gj,hz1];rfl
 refine lT Tryz.func72 rfl rfl rfl ⟨.c rfl,.c rfl,.c rfl,.c rfl,ab⟩ trivial (.inr ?_) ⟨.d pb,.d hcl,ab⟩ ?_
 . rfl
 have lf:(((f.map fun t=>tq t.1 t.2).length:Nat):Int)=(f.length:Int):=by simp
 repeat (((first|refine SW.R (by kernel_rfl) ?_|refine SW.c rfl ?_|refine b8 lf ?_);conv=>whnf))
 refine gu (G:={ t:Nat // t<=f.length }) (fun t=>s5 f (bk (f.take t.1)) t.1) (fun t=>f.length-t.1) ⟨0,bb _⟩
  (Tr.tab [(1,1000)] [] ⟨.same rfl rfl,.same rfl rfl,.same rfl rfl,.rn rfl rfl,.same rfl rfl,.same rfl rfl,.same rfl rfl,.same rfl rfl,ab⟩ ⟨.same rfl rfl pb,.ph rfl,ab⟩ rfl) ?_
 rintro⟨t,ht⟩;obtain⟨os,eos⟩:∃os,bk (f.take t)=os:=⟨_,rfl⟩;show SW (XS J) _ _ _ _ (s5 f (bk (f.take t)) t) _;have hgt:=hg t ht;have hkt:=pj t ht;have hnd:=(B0 (f:=f.take t) (n:=n) fun x hx=>hn x (dH hx)).1;rw[eos] at hgt hkt hnd ⊢;by_cases h:t<f.length
 . have hsn:=AM h;obtain⟨⟨p,q⟩,etm⟩:∃x,f[t]=x:=⟨_,rfl⟩;have hmem:(p,q)∈f:=by rw[<-etm];exact bV h
   rw[etm,eos] at hsn;have gv:(f.map fun t=>tq t.1 t.2)[t]?=some (tq p q):=by rw[dw,aQ h,etm];rfl
   have hp:iT n p:=⟨hn _ hmem,hs _ hmem⟩;have hpn:p≠[]:=fun e=>by have:=hp.1;rw[e] at this;simp at this;omega
   have hko:∀k∈gA os,iT n k:=fun k hk=>by
    obtain⟨x,hx,rfl⟩:=List.mem_map.1 hk;obtain⟨y,hy,e⟩:=hkt x hx;rw[e];exact⟨hn y hy,hs y hy⟩
   have c234:=R4 J (p:=p) (x:=q) hpn (by rw[hp.1];exact hn4);obtain⟨k1,k2,k3,k4,ek⟩:=Pm hn4 hp;have ek':=PE ek;rw[ek] at c234;cases os with
   |nil=>
    have e5:bk (f.take (t+1))=[(p,q)]:=hsn;show SW (XS J) _ _ _ _ (ba [(1,ac (.fn 69)),(2,ac (.fn 70)),(3,ac (.fn 73)),(9,.w (.one (.mp 0))),(10,.w (.one (.iv (.nil 3)))),(17,ac (aR f)),(18,ac (di (f.length:Int))),(19,ac (di (t:Int)))] [(0,iU []),(1,nr [])] 2) _;repeat (((first|refine SW.R (by kernel_rfl) ?_|refine SW.c rfl ?_|refine cX rfl gv rfl ?_|refine bM c234 rfl rfl rfl ?_|refine kg (E6 (n:=n) (ps:=[]) (p:=p) nw rfl hn4 (fun _ h=>by cases h) hp (by simp) ek') ?_|refine oK (JR (n:=n) (ps:=[]) (p:=p) rfl hn4 (fun _ h=>by cases h) hp (by simp) ek' rfl) ?_|refine ap (by omega) ?_|refine yT (by omega) ?_|refine bN rfl ?_|refine bi rfl ?_|refine ov rfl ?_);conv=>whnf))
    refine⟨⟨t+1,by omega⟩,?_,by dsimp only;omega⟩;show Tr _ _ (s5 f (bk (f.take (t+1))) (t+1));rw[e5];exact Tr.tab [(1,5)] [] ⟨.same rfl rfl,.same rfl rfl,.same rfl rfl,.rn rfl rfl,.rn rfl rfl,.same rfl rfl,.same rfl rfl,.same rfl rfl,ab⟩ ⟨.same rfl rfl pb,.rn rfl rfl rfl rfl,ab⟩ rfl
   |cons o os=>
    have hol:(o::os).length<=t:=by rw[<-eos];exact aP (pv (f.take t)) (by simp;omega)
    simp only[bf] at hol;show SW (XS J) _ _ _ _ (ba [(1,ac (.fn 69)),(2,ac (.fn 70)),(3,ac (.fn 73)),(9,.w (.one (.mp 0))),(10,.w (.one (.slc 1 0 0 (os.length+1) (.fin 4)))),(17,ac (aR f)),(18,ac (di (f.length:Int))),(19,ac (di (t:Int)))] [(0,iU (gA (o::os))),(1,.mem 78 ((o::os).flatMap bd) false [(0,(os.length+1)*4)] 1)] 2) _;by_cases hin:p∈gA (o::os)
    . obtain⟨m,hm⟩:=List.mem_iff_getElem?.1 hin;obtain⟨⟨p',q0⟩,hx,ex⟩:∃x,(o::os)[m]?=some x/\x.1=p:=by
       unfold gA at hm;rw[dw] at hm;cases hx:(o::os)[m]? with
       |none=>rw[hx] at hm;cases hm
       |some x=>rw[hx] at hm;exact⟨x,rfl,by simpa using hm⟩
      have ex:p'=p:=ex;subst ex;have hml:m<os.length+1:=(List.getElem?_eq_some_iff.1 hx).1;have e5:bk (f.take (t+1))=(o::os).set m (p',q0+q):=by rw[hsn];exact FO hnd hx rfl
      have hndk:(gA (o::os)).Nodup:=by
       unfold gA List.Nodup;rw[List.pairwise_map];exact hnd
      have c235:=R3 B (a:=p') (b:=p') (x:=q0) (y:=q) (hgt _ (cd hx)) (hq _ hmem);repeat (((first|refine SW.R (by kernel_rfl) ?_|refine SW.c rfl ?_|refine cX rfl gv rfl ?_|refine bM c234 rfl rfl rfl ?_|refine kg (NH (n:=n) (m:=m) nw rfl hn4 hko hndk hm ek') ?_|refine bM c235 rfl rfl rfl ?_|refine iN (j:=m) rfl hml (aX _) ?_|refine bi (un hx rfl) ?_|refine yT (by omega) ?_|refine bN rfl ?_|refine bi rfl ?_);conv=>whnf))
      refine bN (JP (x:=(p',q0+q)) (m:=m) (os:=o::os) hml rfl rfl) ?_;conv=>whnf
      repeat (((first|refine SW.R (by kernel_rfl) ?_|refine SW.exit ?_|refine ap (by omega) ?_);conv=>whnf))
      refine⟨⟨t+1,by omega⟩,?_,by dsimp only;omega⟩;show Tr _ _ (s5 f (bk (f.take (t+1))) (t+1));have e8:gA ((o::os).set m (p',q0+q))=gA (o::os):=PC hx;rw[e5,CM (L:=os.length+1) (fun e=>by have:=congrArg List.length e;simp at this) (by simp)];exact Tr.tab [] [] ⟨.same rfl rfl,.same rfl rfl,.same rfl rfl,.rn rfl rfl,.rn rfl rfl,.same rfl rfl,.same rfl rfl,.same rfl rfl,ab⟩ ⟨.same rfl (by rw[e8];rfl) pb,.same rfl rfl (gj _),ab⟩ rfl
    . have e5:bk (f.take (t+1))=(o::os) ++ [(p,q)]:=by rw[hsn];exact FP hin
      have e6:gA (o::(os ++ [(p,q)]))=gA (o::os) ++ [p]:=by unfold gA;rw[<-g8,ch];rfl
      have ekl:(((gA (o::os)).length:Nat):Int)=((os.length+1:Nat):Int):=by unfold gA;simp
      repeat (((first|refine SW.R (by kernel_rfl) ?_|refine SW.c rfl ?_|refine cX rfl gv rfl ?_|refine bM c234 rfl rfl rfl ?_|refine kg (E6 (n:=n) (p:=p) nw rfl hn4 hko hp hin ek') ?_|refine oK (JR (n:=n) (p:=p) rfl hn4 hko hp hin ek' ekl.symm) ?_|refine yT (by omega) ?_|refine b8 rfl ?_|refine bN rfl ?_|refine bi rfl ?_);conv=>whnf))
      refine yr (g:=5) (b:=1) (KZ (p:=(os.length+1)*4) (sz:=4) rfl rfl (jN _ _) rfl (by omega) (by omega) (by omega) (by show _*80<=_;omega) rfl rfl rfl rfl rfl rfl) (by show 5<5+1;decide) ?_;conv=>whnf
      repeat (((first|refine SW.R (by kernel_rfl) ?_|refine ap (by omega) ?_);conv=>whnf))
      refine⟨⟨t+1,by omega⟩,?_,by dsimp only;omega⟩;show Tr _ _ (s5 f (bk (f.take (t+1))) (t+1));rw[e5,CM (L:=os.length+1+1) (by simp) (by simp)];refine Tr.tab [] [(1,.one 1)] ⟨.same rfl rfl,.same rfl rfl,.same rfl rfl,.rn rfl rfl,.rn rfl rfl,.same rfl rfl,.same rfl rfl,.same rfl rfl,ab⟩ ⟨.same rfl ?_ pb,.ver rfl rfl (In _ _ _) (ak _) ?_ ?_ (gj _),ab⟩ rfl
      . rw[g8,e6];rfl
      . rw[gN fun a _=>ia a];simp
      . rw[aH (iY (gN fun a _=>ia a):((o::os).flatMap bd).length<=(os.length+1)*4),mG];rfl
 . have et:t=f.length:=by omega
   subst et;rw[cU] at eos;subst eos;rw[CM hG0 rfl];show SW (XS J) _ _ _ _ (ba [(1,ac (.fn 69)),(2,ac (.fn 70)),(3,ac (.fn 73)),(9,.w (.one (.mp 0))),(10,.w (.one (.slc 1 0 0 (bk f).length (.fin 4)))),(17,ac (aR f)),(18,ac (di (f.length:Int))),(19,ac (di (f.length:Int)))] [(0,iU (gA (bk f))),(1,gc (bk f) 1)] 2) _;repeat (((first|refine SW.R (by kernel_rfl) ?_|refine SW.c rfl ?_|refine yF (by omega) ?_);conv=>whnf))
   refine jh cD [1] 0 rfl ⟨.c rfl,.d rfl,ab⟩ ⟨.d rfl gn,ab⟩ trivial (ii (.d hcl) iD) (.c rfl) ?_;conv=>whnf
   repeat ((refine SW.ret ?_;conv=>whnf))
   exact Tr.tab [] [] ⟨.rn rfl rfl,ab⟩ ⟨.same rfl rfl pb,.same rfl rfl hcl,ab⟩ rfl
end Go.Proofs.En
namespace Go.Proofs.En
open Go.RowKit Go.Proofs.Fl Go.Proofs.Dig
attribute [local irreducible] IntKind.wrap aY be bm bt SW SWr CallOk To Tr eX
open Go.Proofs.Reg
theorem VI(l:List Int):iL l=(l.map di).map .iv:=by
 induction l with
 |nil=>rfl
 |cons x l ih=>rw[aS,aS,<-ih];rfl
theorem Iu{h:Hp}{l:List Int}:iI h 1 (.w (.one (.iv (.sl (l.map di)))))=some (iL l,l.length):=by
 show(bif dT 1 (l.map di) then some (((l.map di).flatMap IV.cells).map EV.iv,(l.map di).length) else none)=_;rw[show dT 1 (l.map di)=true from Bw l,ai,show((l.map di).flatMap IV.cells).map EV.iv=iL l from Bq l,cT]
theorem G7:∀l:List Int,((l.map di).all n4)=true
 | []=>rfl
 |x::l=>by rw[aS,ed,G7 l];rfl
theorem Sb(J:Keep){p:List Int}(hp:1<=p.length)(hl:p.length<2^16):Go.Proofs.Fl.C J 34 [.sl (p.map di)] (.sl (p.map di)):=by
 cases p with
 |nil=>simp at hp
 |cons a l=>
  refine DK Tryz.func34 rfl rfl rfl rfl 1 ?_;repeat (((first|refine SW.R (by kernel_rfl) ?_|refine SW.c rfl ?_);conv=>whnf))
  refine yr (g:=1) (b:=1) (K0 (te:=u7) (ty:=Dh) (e:=3) (sz:=1) rfl rfl rfl (Iu (l:=a::l)) hp (by omega) (by show _*8<=_;omega) rfl rfl rfl rfl rfl) (by show 1<1+1;decide) ?_;conv=>whnf
  repeat ((refine SW.ret ?_;conv=>whnf))
  refine Rb (te:=u7) (n:=(a::l).length) (es:=(a::l).map di) rfl rfl rfl rfl rfl (jN _ _) (by rw[rX];exact ak _) (by simp) ?_ (G7 _);rw[aH (by rw[rX];exact ak _),VI]
end Go.Proofs.En
namespace Go.Proofs.Reg
def sD(t:Tm):List Tm->List Tm
 | []=>[t]
 |o::os=>if bp t.1 o.1 = -1 then t::o::os else o::sD t os
theorem AJ(t:Tm):∀os:List Tm,(sD t os).Perm (t::os)
 | []=>.refl _
 |o::os=>by
  unfold sD;split
  . exact .refl _
  . exact((AJ t os).cons o).trans (.swap _ _ _)
theorem Hu{n:Nat}{t:Tm}(ht:t.1.length=n):∀{os:List Tm},(∀o∈os,o.1.length=n)->(∀o∈os,o.1≠t.1)->gg os->gg (sD t os)
 | [],_,_,_=>MP _ _
 |o::os,hl,hk,hs=>by
  obtain⟨h1,h2⟩:=List.pairwise_cons.1 hs;have hol:=hl o (by simp);unfold sD;by_cases h:bp t.1 o.1 = -1
  . rw[ar h];refine List.pairwise_cons.2 ⟨fun x hx=>?_,hs⟩;rcases List.mem_cons.1 hx with rfl|hx
    . exact h
    . exact tP (ht.trans hol.symm) (hol.trans (hl x (by simp[hx])).symm) h (h1 x hx)
  . rw[al h];have hot:bp o.1 t.1 = -1:=by
     have e:=pt o.1 t.1;rcases nO o.1 t.1 with k|k|k
     . exact k
     . exact absurd (rB (hol.trans ht.symm) k) (hk o (by simp))
     . rw[k] at e;exact absurd e h
    refine List.pairwise_cons.2 ⟨fun x hx=>?_,Hu ht (fun x hx=>hl x (by simp[hx])) (fun x hx=>hk x (by simp[hx])) h2⟩;rcases List.mem_cons.1 ((AJ t os).mem_iff.1 hx) with rfl|hx
    . exact hot
    . exact h1 x hx
theorem JU{n:Nat}:∀{os:List Tm},(∀o∈os,o.1.length=n)->mU os->∃g,g.Perm os/\gg g
 | [],_,_=>⟨[],.refl _,.nil⟩
 |o::os,hl,hk=>by
  obtain⟨h1,h2⟩:=List.pairwise_cons.1 hk;obtain⟨g,hp,hs⟩:=JU (fun x hx=>hl x (by simp[hx])) h2;refine⟨sD o g,(AJ o g).trans (hp.cons o),Hu (hl o (by simp)) (fun x hx=>hl x (by simp[hp.mem_iff.1 hx])) (fun x hx=>(h1 x (hp.mem_iff.1 hx)).symm) hs⟩
theorem nN{n:Nat}{f:List Tm}(hn:∀t∈f,t.1.length=n):(aN f).Perm ((bk f).filter fun t=>decide (t.2≠0))/\gg (aN f):=by
 obtain⟨h1,h2,h3⟩:=B0 hn;obtain⟨g,hp,hs⟩:=JU (n:=n) (os:=(bk f).filter fun t=>decide (t.2≠0)) (fun o ho=>h2 o ((List.mem_filter.1 ho).1)) (h1.filter _);have e:=N2 hn hp (hs.imp fun{a b} h=>by rw[pt,h];decide);rw[<-e];exact⟨hp,hs⟩
end Go.Proofs.Reg
namespace Go.Proofs.En
open Go.RowKit Go.Proofs.Fl Go.Proofs.Dig
attribute [local irreducible] IntKind.wrap aY be bm bt SW SWr CallOk To Tr eX
open Go.Proofs.Reg
theorem NU(J:Keep){n:Nat}{ts g:List Tm}(hn:∀t∈ts,t.1.length=n)(hn2:n<2^50)(hs:∀t∈ts,bq t.1<2^62)(h0:ts≠[])(hl:ts.length<2^60)(hp:g.Perm ts)(hg:gg g){cap:Cap}{cnt:Nat} :
 LocC (XS J) 74 [.w (.one (.slc 0 0 0 ts.length cap)),ac (.fn 75)] [gc ts cnt] (.tup []) [gc g cnt] where
 call:=Nu J hn hn2 hs h0 hl hp hg
 le:=ak _
 a i hi:=by
  have:i=0:=by simpa[fb,eB,bB,ac] using hi
  subst this;exact Nat.one_pos
 z o ho:=by
  rw[fQ] at ho;subst ho;exact⟨(fun e=>by cases e),rfl,wg gn⟩
 r i hi:=by cases hi
 z' o ho:=by
  rw[fQ] at ho;subst ho;exact⟨rfl,wg gn⟩
theorem Bp:∀ts:List Tm,ts.flatMap bd=(ts.flatMap fun t=>(tq t.1 t.2).cells).map .iv
 | []=>rfl
 |x::l=>by rw[dz,dz,ch,Bp l];rfl
theorem HB:∀ts:List Tm,fA true 4 ts.length (ts.flatMap fun t=>(tq t.1 t.2).cells)=ts.map fun t=>tq t.1 t.2
 | []=>rfl
 |x::l=>by
  rw[bf,fA,dz,aS,<-HB l];rfl
theorem G5:∀ts:List Tm,((ts.flatMap fun t=>(tq t.1 t.2).cells).all n4)=true
 | []=>rfl
 |x::l=>by rw[dz,List.all_append,G5 l];rfl
theorem C2:∀ts:List Tm,dT 4 (ts.map fun t=>tq t.1 t.2)=true
 | []=>rfl
 |x::l=>by
  have:=C2 l;unfold dT at this ⊢;rw[aS,ed,this];rfl
theorem FZ{h:Hp}{f g P cnt:Nat}{cap:Cap}{S:Nat->Bool}{cs:List EV}{fz:Bool}{ts:List Tm}(hS:S g=true)(hg:h g=some (.mem 78 cs fz [(0,P)] cnt))(hP:ts.length*4<=P)(hc:cs.take (ts.length*4)=ts.flatMap bd) :
 iO TT ZZ S h (f+1) (.w (.one (.slc g 0 0 ts.length cap)))=some (aR ts):=by
 show cj TT ZZ S h (f+1) (.slc g 0 0 ts.length cap)=_;unfold cj;rw[hS];simp only[hg];rw[show TT 78=some yy from rfl,jN];simp only;rw[show yy.size=4 from rfl,show yy.sh.agg=true from rfl,aX,fh hP,ai,bJ,hc,Bp,Cj (G5 ts)];simp only[HB,C2,Bool.true_or,mF,ai];rfl
end Go.Proofs.En
namespace Go.Proofs.Fl
open Go.RowKit
attribute [local irreducible] IntKind.wrap aY be bm bt
theorem Ku(J:Keep):C J 132 [.int .u64 0] (.int .i64 0) :=
 wJ ⟨_,Tryz.func132,rfl,rfl⟩ fun H w args hI hargs=>by
  obtain⟨u,rfl,hu⟩:=hargs.one;rw[VR.asInt hu];refine(Tryz.bits_Len 0 w (by omega) (by omega)).mono ?_;rintro e w' ⟨rfl,rfl⟩;exact⟨_,rfl,fun H=>.int _ _,mr _ _⟩
end Go.Proofs.Fl
namespace Go.Proofs.En
open Go.RowKit Go.Proofs.Fl Go.Proofs.Dig
attribute [local irreducible] IntKind.wrap aY be bm bt SW SWr CallOk To Tr eX
open Go.Proofs.Reg
theorem Uu(J:Keep){cs:List EV}{vs:List (Nat×Nat)}{c:Nat}{cap:Cap}(hc:cs.flatMap bB=[]):LocC (XS J) 184 [.w (.one (.slc 0 0 0 0 cap)),ac (di 0),ac (di 0),ac (.fn 75)] [.mem 78 cs false vs c] (.tup []) [.mem 78 cs false vs c]:=by
 refine lT Tryz.func184 rfl rfl rfl ⟨.c rfl,.c rfl,.c rfl,.c rfl,ab⟩ ⟨.d hc,ab⟩ (.inr rfl) ⟨.d hc,ab⟩ ?_;repeat (first|((first|refine SW.RS (by kernel_rfl) ?_|refine ap (by omega) ?_);conv=>whnf)|(refine SW.block ?_))
 refine gu (G:=Unit) (fun _=>ba [(2,ac (di 0)),(8,ac (di 1))] [(0,.mem 78 cs false vs c)] 1) (fun _=>0) ()
  (Tr.tab [] [] ⟨.same rfl rfl,.same rfl rfl,ab⟩ ⟨.same rfl rfl hc,ab⟩ rfl) ?_
 rintro⟨⟩;repeat (((first|refine SW.R (by kernel_rfl) ?_|refine SW.c rfl ?_|refine yF (by omega) ?_);conv=>whnf))
 exact Tr.tab [] [] ⟨.same rfl rfl,ab⟩ ⟨.same rfl rfl hc,ab⟩ rfl
theorem Ux(J:Keep){cs:List EV}{vs:List (Nat×Nat)}{c:Nat}{cap:Cap}(hc:cs.flatMap bB=[]):LocC (XS J) 131 [.w (.one (.slc 0 0 0 0 cap)),ac (di 0),ac (di 0),ac (di 0),ac (.fn 75)] [.mem 78 cs false vs c] (.tup []) [.mem 78 cs false vs c]:=by
 refine lT Tryz.func131 rfl rfl rfl ⟨.c rfl,.c rfl,.c rfl,.c rfl,.c rfl,ab⟩ ⟨.d hc,ab⟩ (.inr rfl) ⟨.d hc,ab⟩ ?_;have c1:=Uu J (cap:=cap) (vs:=vs) (c:=c) hc;repeat (first|(refine SW.RS (by kernel_rfl) ?_;conv=>whnf)|(refine SW.block ?_))
 refine gu (G:=Unit) (fun _=>ba [(0,.w (.one (.slc 0 0 0 0 cap))),(1,ac (di 0)),(2,ac (di 0)),(4,ac (.fn 75))] [(0,.mem 78 cs false vs c)] 1) (fun _=>0) ()
  (Tr.tab [] [] ⟨.rn rfl rfl,.same rfl rfl,.same rfl rfl,.same rfl rfl,ab⟩ ⟨.same rfl rfl hc,ab⟩ rfl) ?_
 rintro⟨⟩;repeat (((first|refine SW.R (by kernel_rfl) ?_|refine SW.c rfl ?_|refine ap (by omega) ?_|refine yT (by omega) ?_);conv=>whnf))
 refine jh c1 [0] 0 rfl ⟨.c rfl,.d rfl,.d rfl,.d rfl,ab⟩ ⟨.d rfl hc,ab⟩ trivial (ii (.d hc) iD) (.d rfl) ?_;conv=>whnf
 repeat ((refine SW.ret ?_;conv=>whnf))
 exact Tr.tab [] [] ⟨.same rfl rfl,ab⟩ ⟨.same rfl rfl hc,ab⟩ rfl
theorem UB(J:Keep){cs:List EV}{vs:List (Nat×Nat)}{c:Nat}{cap:Cap}(hc:cs.flatMap bB=[]):LocC (XS J) 74 [.w (.one (.slc 0 0 0 0 cap)),ac (.fn 75)] [.mem 78 cs false vs c] (.tup []) [.mem 78 cs false vs c]:=by
 refine lT Tryz.func74 rfl rfl rfl ⟨.c rfl,.c rfl,ab⟩ ⟨.d hc,ab⟩ (.inr rfl) ⟨.d hc,ab⟩ ?_;have c1:=Ux J (cap:=cap) (vs:=vs) (c:=c) hc;have c2:Go.Proofs.Fl.C J 132 [.int .u64 ((0:Nat):Int)] (.int .i64 0):=Ku J;repeat (((first|refine SW.RS (by kernel_rfl) ?_|refine SW.R (by kernel_rfl) ?_|refine bM c2 rfl rfl rfl ?_|refine b8 (dU (by omega)) ?_|refine b8 rfl ?_);conv=>whnf))
 refine jh c1 [0] 0 rfl ⟨.c rfl,.d rfl,.d rfl,.d rfl,.d rfl,ab⟩ ⟨.d rfl hc,ab⟩ trivial (ii (.d hc) iD) (.d rfl) ?_;conv=>whnf
 skip
 exact Tr.tab [] [] ⟨.same rfl rfl,ab⟩ ⟨.same rfl rfl hc,ab⟩ rfl
end Go.Proofs.En
namespace Go.Proofs.En
open Go.RowKit Go.Proofs.Fl Go.Proofs.Dig
attribute [local irreducible] IntKind.wrap aY be bm bt SW SWr CallOk To Tr eX
open Go.Proofs.Reg
theorem Uv(J:Keep):Go.Proofs.Fl.C J 183 [.nil 3,.fn 73] (.int .i64 (-1)):=by
 refine pS Tryz.func183 rfl rfl rfl rfl rfl ?_;repeat (((first|refine SW.R (by kernel_rfl) ?_|refine SW.c rfl ?_);conv=>whnf))
 refine gu (G:=Unit) (fun _=>ba [(7,ac (di 0)),(8,ac (di 0))] [] 0) (fun _=>0) () (Tr.tab [] [] ⟨.same rfl rfl,.same rfl rfl,ab⟩ trivial rfl) ?_;rintro⟨⟩;repeat (((first|refine SW.R (by kernel_rfl) ?_|refine SW.c rfl ?_|refine yF (by omega) ?_);conv=>whnf))
 rfl
theorem Uy(J:Keep):Go.Proofs.Fl.C J 130 [.nil 3,.fn 73] (.nil 3):=by
 refine pS Tryz.func130 rfl rfl rfl rfl rfl ?_;repeat (((first|refine SW.R (by kernel_rfl) ?_|refine SW.c rfl ?_|refine bM (Uv J) rfl rfl rfl ?_|refine yT (by omega) ?_);conv=>whnf))
 rfl
theorem UC(J:Keep):Go.Proofs.Fl.C J 72 [.sl [],.fn 69,.fn 70,.fn 73] (.nil 3):=by
 refine pS Tryz.func72 rfl rfl rfl rfl rfl ?_;repeat (((first|refine SW.R (by kernel_rfl) ?_|refine SW.c rfl ?_|refine b8 rfl ?_);conv=>whnf))
 refine gu (G:=Unit) (fun _=>ba [(3,ac (.fn 73)),(10,.w (.one (.iv (.nil 3)))),(18,ac (di 0)),(19,ac (di 0))] [] 0) (fun _=>0) () (Tr.tab [] [] ⟨.same rfl rfl,.same rfl rfl,.same rfl rfl,.same rfl rfl,ab⟩ trivial rfl) ?_;rintro⟨⟩;repeat (((first|refine SW.R (by kernel_rfl) ?_|refine SW.c rfl ?_|refine bM (Uy J) rfl rfl rfl ?_|refine yF (by omega) ?_);conv=>whnf))
 rfl
theorem Ut(J:Keep):Go.Proofs.Fl.C J 184 [.nil 3,.int .i64 0,.int .i64 0,.fn 75] (.tup []):=by
 refine pS Tryz.func184 rfl rfl rfl rfl rfl ?_;repeat (first|((first|refine SW.RS (by kernel_rfl) ?_|refine ap (by omega) ?_);conv=>whnf)|(refine SW.block ?_))
 refine gu (G:=Unit) (fun _=>ba [(2,ac (di 0)),(8,ac (di 1))] [] 0) (fun _=>0) () (Tr.tab [] [] ⟨.same rfl rfl,.same rfl rfl,ab⟩ trivial rfl) ?_;rintro⟨⟩;repeat (((first|refine SW.R (by kernel_rfl) ?_|refine SW.c rfl ?_|refine yF (by omega) ?_);conv=>whnf))
 rfl
theorem Uw(J:Keep):Go.Proofs.Fl.C J 131 [.nil 3,.int .i64 0,.int .i64 0,.int .i64 0,.fn 75] (.tup []):=by
 refine pS Tryz.func131 rfl rfl rfl rfl rfl ?_;repeat (first|(refine SW.RS (by kernel_rfl) ?_;conv=>whnf)|(refine SW.block ?_))
 refine gu (G:=Unit) (fun _=>ba [(0,.w (.one (.iv (.nil 3)))),(1,ac (di 0)),(2,ac (di 0)),(4,ac (.fn 75))] [] 0) (fun _=>0) () (Tr.tab [] [] ⟨.same rfl rfl,.same rfl rfl,.same rfl rfl,.same rfl rfl,ab⟩ trivial rfl) ?_;rintro⟨⟩;repeat (((first|refine SW.R (by kernel_rfl) ?_|refine SW.c rfl ?_|refine bM (Ut J) rfl rfl rfl ?_|refine ap (by omega) ?_|refine yT (by omega) ?_);conv=>whnf))
 rfl
theorem UA(J:Keep):Go.Proofs.Fl.C J 74 [.nil 3,.fn 75] (.tup []):=by
 refine pS Tryz.func74 rfl rfl rfl rfl rfl ?_;have c2:Go.Proofs.Fl.C J 132 [.int .u64 0] (.int .i64 0):=Ku J;repeat (((first|refine SW.RS (by kernel_rfl) ?_|refine SW.R (by kernel_rfl) ?_|refine bM c2 rfl rfl rfl ?_|refine bM (Uw J) rfl rfl rfl ?_|refine b8 (dU (by omega)) ?_);conv=>whnf))
 rfl
theorem J2(J:Keep):Go.Proofs.Fl.C J 31 [.sl []] (.sl []):=by
 refine DK Tryz.func31 rfl rfl rfl rfl 1 ?_;repeat (((first|refine SW.R (by kernel_rfl) ?_|refine SW.c rfl ?_|refine bM (UC J) rfl rfl rfl ?_);conv=>whnf))
 refine gu (G:=Unit) (fun _=>ba [(5,.w (.one (.iv (.nil 3)))),(12,ac (di 0)),(13,ac (di 0))] [] 0) (fun _=>0) () (Tr.tab [] [] ⟨.same rfl rfl,.same rfl rfl,.same rfl rfl,ab⟩ trivial rfl) ?_;rintro⟨⟩;repeat (((first|refine SW.R (by kernel_rfl) ?_|refine SW.c rfl ?_|refine bM (UA J) rfl rfl rfl ?_|refine yF (by omega) ?_);conv=>whnf))
 rfl
theorem GZ{os:List Tm}{i:Nat}{x:Tm}(h:os[i]?=some x):(os.flatMap bd)[i*4]?=some (.iv (.sl (x.1.map di))):=by
 have h2:=flat_get (f:=bd) (k:=4) (fun a _=>ia a) h;have h3:(((os.flatMap bd).drop (i*4)).take 4)[0]?=(bd x)[0]?:=by rw[h2]
 rw[cL,ar (by omega),oR] at h3;exact h3
theorem Ul{e i P cnt:Nat}{os:List Tm}{x:Tm}{fz:Bool}(h:os[i]?=some x)(hP:P=os.length*4):gf (some (.mem e (os.flatMap bd) fz [(0,P)] cnt)) 0 (i*4) 1=some [.iv (.sl (x.1.map di))]:=by
 have hm:=(List.getElem?_eq_some_iff.1 h).1;unfold gf;simp only[jN,fh (show i*4+1<=P by omega),ai];have:=GZ h;obtain⟨hl,he⟩:=List.getElem?_eq_some_iff.1 this;rw[dY hl,LZ,th,he]
theorem Ua{e i P cnt:Nat}{os:List Tm}{x:Tm}(h:os[i]?=some x)(hP:P=os.length*4):ge (some (.mem e (os.flatMap bd) false [(0,P)] cnt)) 0 (i*4) [.iv (.sl (x.1.map di))]=some (.mem e (os.flatMap bd) false [(0,P)] cnt):=by
 have hm:=(List.getElem?_eq_some_iff.1 h).1;have:=GZ h;obtain⟨hl,he⟩:=List.getElem?_eq_some_iff.1 this;have e2:splice (os.flatMap bd) (i*4) [.iv (.sl (x.1.map di))]=os.flatMap bd:=by
  unfold splice;rw[<-he,nG,dj,XF,<-dY hl,ks]
 unfold ge;simp only[jN,nG,fh (show i*4+1<=P by omega),ai,cC,e2];rfl
theorem Pf{J:Keep}(B:Base J){n:Nat}{f:List Tm}(hn4:n<=4)(hn1:1<=n)(hn:∀t∈f,t.1.length=n)(hs:∀t∈f,bq t.1<2^62)(hq:∀t∈f,az t.2<2^36)(hg:∀i,i<=f.length->∀o∈bk (f.take i),az o.2<2^36)(hl:f.length<2^16)(h0:f≠[]):Go.Proofs.Fl.C J 31 [aR f] (aR (aN f)):=by
 obtain⟨hpm,hsr⟩:=nN hn;obtain⟨zs,hz1,hz2,cG⟩:=R2 B hn4 hn1 hn hs hq hg hl h0;have hkeys:=pj (f:=f) f.length (ak _);rw[cU] at hkeys;obtain⟨K,hK⟩:∃K,(bk f).filter bH=K:=⟨_,rfl⟩;have hpm:(aN f).Perm K:=by rw[<-hK];exact hpm
 have hKg:K.length<=(bk f).length:=by rw[<-hK];exact oV _ _
 have hKm:∀t∈K,∃y∈f,t.1=y.1:=fun t ht=>hkeys t (List.mem_filter.1 (by rw[hK];exact ht:t∈(bk f).filter bH)).1;have hGl:=pv f;rw[hK] at cG hz2;have hcl:ig (.mem 78 (K.flatMap bd++zs) false [(0,(bk f).length*4)] 1):=by
  show(K.flatMap bd++zs).flatMap bB=[];rw[mG,gj,hz1];rfl
 refine DK Tryz.func31 rfl rfl rfl rfl 1 ?_;repeat ((refine SW.RS (by kernel_rfl) ?_;conv=>whnf))
 refine jh cG [0,1] 2 rfl ⟨.d rfl,.d rfl,.d rfl,.d rfl,ab⟩ trivial ⟨rfl,rfl,ab⟩ (ii (.d pb) (ii (.d hcl) iD)) (.c rfl) ?_;conv=>whnf
 repeat (((first|refine SW.R (by kernel_rfl) ?_|refine SW.c rfl ?_|refine b8 rfl ?_);conv=>whnf))
 refine gu (G:={ i:Nat // i<=K.length }) (fun i=>ba [(5,.w (.one (.slc 1 0 0 K.length (.fin 4)))),(11,.w (.one (.slc 1 0 0 K.length (.fin 4)))),(12,ac (di (K.length:Int))),(13,ac (di (i.1:Int)))] [(1,gc K 1)] 2) (fun i=>K.length-i.1) ⟨0,bb _⟩
  (Tr.tab [] [] ⟨.rn rfl rfl,.rn rfl rfl,.same rfl rfl,.same rfl rfl,ab⟩ ⟨.drop (pm:=K.length*4) rfl rfl (fun q hq=>by
    rw[fQ] at hq;subst hq;exact⟨ak _,_,kp ..,bW 4 hKg⟩) (by rw[gN fun a _=>ia a];exact ak _) (by rw[jD (by rw[gN fun a _=>ia a];exact ak _)]) (gj K),ab⟩ rfl) ?_
 rintro⟨i,hi⟩;show SW (XS J) _ _ _ _ (ba [(5,.w (.one (.slc 1 0 0 K.length (.fin 4)))),(11,.w (.one (.slc 1 0 0 K.length (.fin 4)))),(12,ac (di (K.length:Int))),(13,ac (di (i:Int)))] [(1,.mem 78 (K.flatMap bd) false [(0,K.length*4)] 1)] 2) _;by_cases h:i<K.length
 . obtain⟨⟨p,q⟩,hx⟩:∃x,K[i]?=some x:=⟨_,aQ h⟩;obtain⟨y,hy,ey⟩:=hKm _ (cd hx);have hpl:p.length=n:=by have e:p=y.1:=ey;rw[e];exact hn y hy
   have c153:=Sb J (p:=p) (by omega) (by omega);repeat (((first|refine SW.R (by kernel_rfl) ?_|refine SW.c rfl ?_|refine iN (j:=i) rfl h (aX _) ?_|refine bi (Ul hx rfl) ?_|refine bM c153 rfl rfl rfl ?_|refine yT (by omega) ?_|refine jp rfl ?_);conv=>whnf))
   refine bN (Ua hx rfl) ?_;conv=>whnf
   repeat (((first|refine SW.R (by kernel_rfl) ?_|refine ap (by omega) ?_);conv=>whnf))
   exact⟨⟨i+1,h⟩,Tr.tab [] [] ⟨.rn rfl rfl,.rn rfl rfl,.same rfl rfl,.same rfl rfl,ab⟩ ⟨.same rfl rfl (gj K),ab⟩ rfl,by dsimp only;omega⟩
 . have e:i=K.length:=by omega
   subst e;have hKl:(aN f).length=K.length:=hpm.length_eq;by_cases hK0:K=[]
   . have hc0:aN f=[]:=List.length_eq_zero_iff.1 (by rw[hKl,hK0];rfl);rw[hc0];subst hK0;have cS:=UB J (cs:=[]) (vs:=[(0,0)]) (c:=1) (cap:=.fin 4) rfl;repeat (((first|refine SW.R (by kernel_rfl) ?_|refine SW.c rfl ?_|refine yF (by omega) ?_);conv=>whnf))
     refine jh cS [1] 0 rfl ⟨.c rfl,.d rfl,ab⟩ ⟨.d rfl rfl,ab⟩ trivial (ii (.d rfl) iD) (.d rfl) ?_;conv=>whnf
     repeat (((first|refine SW.RS (by kernel_rfl) ?_|refine SW.ret ?_);conv=>whnf))
     exact FZ (ts:=[]) (cs:=[]) (P:=0) rfl rfl (ak _) rfl
   . have cS:=NU J (n:=n) (ts:=K) (g:=aN f) (cap:=.fin 4) (cnt:=1) (fun t ht=>by obtain⟨y,hy,e⟩:=hKm t ht;rw[e];exact hn y hy) (by omega) (fun t ht=>by obtain⟨y,hy,e⟩:=hKm t ht;rw[e];exact hs y hy) hK0 (by omega) hpm hsr;repeat (((first|refine SW.R (by kernel_rfl) ?_|refine SW.c rfl ?_|refine yF (by omega) ?_);conv=>whnf))
     refine jh cS [1] 0 rfl ⟨.c rfl,.d rfl,ab⟩ ⟨.d rfl (gj K),ab⟩ trivial (ii (.d (gj (aN f))) iD) (.d rfl) ?_;conv=>whnf
     repeat (((first|refine SW.RS (by kernel_rfl) ?_|refine SW.ret ?_);conv=>whnf))
     rw[<-hKl];exact FZ (ts:=aN f) (cs:=(aN f).flatMap bd) (P:=(aN f).length*4) rfl rfl (ak _) (aH (by rw[gN fun a _=>ia a];exact ak _))
theorem BJ{J:Keep}(B:Base J){n:Nat}{f:List Tm}(hn4:n<=4)(hn1:1<=n)(hn:∀t∈f,t.1.length=n)(hs:∀t∈f,bq t.1<2^62)(hq:∀t∈f,az t.2<2^36)(hg:∀i,i<=f.length->∀o∈bk (f.take i),az o.2<2^36)(hl:f.length<2^16):Go.Proofs.Fl.C J 31 [aR f] (aR (aN f)):=by
 by_cases h0:f=[]
 . subst h0;exact J2 J
 . exact Pf B hn4 hn1 hn hs hq hg hl h0
end Go.Proofs.En
namespace Go.Proofs.Fl
open Go.RowKit Go.Proofs.Dig
attribute [local irreducible] IntKind.wrap aY be bm bt
def mm{α:Type}(pr:α->Bool)(l:List α):Int:=match l.findIdx? pr with
 |some i=>(i:Int)
 |none => -1
theorem I5{α:Type}{pr:α->Bool}{l:List α}{t:Nat}{x:α}(h:∀y∈l.take t,pr y=false)(hx:l[t]?=some x)(h0:pr x=true):mm pr l=(t:Int):=by
 obtain⟨hlt,he⟩:=List.getElem?_eq_some_iff.1 hx;have:l.findIdx? pr=some t:=by
  rw[XB];refine⟨hlt,by rw[he];exact h0,fun j hj=>?_⟩;have:=h l[j] (by rw[MT];exact⟨j,by omega,rfl⟩);simpa using this
 unfold mm;rw[this]
theorem Bc{α:Type}{pr:α->Bool}{l:List α}(h:∀y∈l,pr y=false):mm pr l = -1:=by
 have:l.findIdx? pr=none:=List.findIdx?_eq_none_iff.2 h;unfold mm;rw[this]
theorem I6{α:Type}{pr:α->Bool}{l:List α}:decide (mm pr l>=0)=l.any pr:=by
 by_cases h:∀y∈l,pr y=false
 . rw[Bc h];have:l.any pr=false:=by rw[zr];intro x hx;rw[h x hx];simp
   rw[this];rfl
 . have:l.any pr=true:=by
    rw[List.any_eq_true];apply fP;intro hc;refine h fun y hy=>?_;cases e:pr y with
    |false=>rfl
    |true=>exact absurd ⟨y,hy,e⟩ hc
   rw[this];unfold mm;cases e:l.findIdx? pr with
   |none=>exact absurd (List.findIdx?_eq_none_iff.1 e) h
   |some i=>exact bu (by show(0:Int)<=(i:Int);omega)
theorem Fq{α:Type}{pr:α->Bool}{l:List α}{t:Nat}{x:α}(h:∀y∈l.take t,pr y=false)(hx:l[t]?=some x)(h0:pr x=false):∀y∈l.take (t+1),pr y=false:=fun y hy=>by
 rw[k9,hx] at hy;rcases List.mem_append.1 hy with hy|hy
 . exact h y hy
 . rw[List.mem_singleton.1 hy];exact h0
def gV(k:Int):Bool:=decide (k<0\/24<k)
theorem R8(J:Keep)(k:Int):C J 64 [.int .i64 k] (.bool (gV k)):=by
 refine aI Tryz.func64 rfl rfl rfl ?_;unfold gV;by_cases h:k<0
 . rw[bu (show k<0\/24<k from .inl h)];repeat (((first|refine W.RS (by kernel_rfl) ?_|refine W.ret ?_|refine xT (by omega) ?_|refine xr ?_|refine xB ?_);conv=>whnf))
   rfl
 . by_cases h2:24<k
   . rw[bu (show k<0\/24<k from .inr h2)];repeat (((first|refine W.RS (by kernel_rfl) ?_|refine W.ret ?_|refine xT (by omega) ?_|refine xF (by omega) ?_|refine xr ?_|refine xA ?_);conv=>whnf))
     rfl
   . rw[bz (show ¬(k<0\/24<k) by omega)];repeat (((first|refine W.RS (by kernel_rfl) ?_|refine W.ret ?_|refine xF (by omega) ?_|refine xr ?_|refine xA ?_);conv=>whnf))
     rfl
theorem R0(J:Keep){l:List Int}(hl:l.length<2^50):C J 127 [.sl (l.map di),.fn 64] (.int .i64 (mm gV l)):=by
 have la:(l.map di).length=l.length:=by simp
 obtain⟨r,hr⟩:∃r,mm gV l=r:=⟨_,rfl⟩;rw[hr];refine aI Tryz.func127 rfl rfl rfl ?_;repeat (((first|refine W.R (by kernel_rfl) ?_|refine W.c rfl ?_|refine⟨_,rfl,?_⟩);conv=>whnf))
 refine W.loop (G:={ t:Nat // t<=l.length/\∀y∈l.take t,gV y=false }) (fun t=>am [(0,.iv (.sl (l.map di))),(1,.iv (.fn 64)),(6,.iv (.sl (l.map di))),(7,.iv (.int .i64 (l.length:Int))),(8,.iv (.int .i64 (t.1:Int)))] [] 20) (fun t=>l.length-t.1) ⟨0,bb _,by simp⟩
  (Wk.tab [] ⟨aa,aa,aa,⟨cu (by rw[la]),rfl⟩,aa,ab⟩ trivial rfl) ?_
 rintro⟨t,ht,hz⟩;show W J _ _ (am [(0,.iv (.sl (l.map di))),(1,.iv (.fn 64)),(6,.iv (.sl (l.map di))),(7,.iv (.int .i64 (l.length:Int))),(8,.iv (.int .i64 (t:Int)))] [] 20) _;by_cases h:t<l.length
 . have gx:=fY h;obtain⟨x,hx⟩:∃x,l.getD t 0=x:=⟨_,rfl⟩;have hlx:l[t]?=some x:=by rw[<-hx,aV,aQ h];rfl
   have c1:=R8 J x;rw[hx] at gx;cases h0:gV x with
   |true=>
    rw[h0] at c1;have e:=I5 hz hlx h0;rw[hr] at e;subst e;repeat (((first|refine W.R (by kernel_rfl) ?_|refine W.c rfl ?_|refine⟨_,c1,?_⟩|refine⟨t,_,rfl,gx,rfl,?_⟩|refine xT (by omega) ?_|refine xr ?_);conv=>whnf))
    rfl
   |false=>
    rw[h0] at c1;repeat (((first|refine W.R (by kernel_rfl) ?_|refine W.c rfl ?_|refine⟨_,c1,?_⟩|refine⟨t,_,rfl,gx,rfl,?_⟩|refine ap (by omega) ?_|refine xT (by omega) ?_|refine xr ?_);conv=>whnf))
    exact⟨⟨t+1,h,Fq hz hlx h0⟩,Wk.tab [] ⟨aa,aa,aa,aa,aa,ab⟩ trivial rfl,by dsimp only;omega⟩
 . have e:t=l.length:=by omega
   subst e;rw[cU] at hz;have e:=Bc hz;rw[hr] at e;subst e;repeat (((first|refine W.R (by kernel_rfl) ?_|refine W.c rfl ?_|refine xF (by omega) ?_|refine xr ?_);conv=>whnf))
   rfl
theorem R7(J:Keep){l:List Int}(hl:l.length<2^50):C J 65 [.sl (l.map di),.fn 64] (.bool (l.any gV)):=by
 rw[<-I6];refine aI Tryz.func65 rfl rfl rfl ?_;have c1:=R0 J hl;repeat (((first|refine W.RS (by kernel_rfl) ?_|refine W.ret ?_|refine⟨_,c1,?_⟩|refine⟨_,rfl,?_⟩|refine xr ?_);conv=>whnf))
 rfl
end Go.Proofs.Fl
namespace Go.Proofs.En
open Go.RowKit Go.Proofs.Fl Go.Proofs.Dig
attribute [local irreducible] IntKind.wrap aY be bm bt SW SWr CallOk To Tr eX
open Go.Proofs.Reg
def gG(n:Int)(p:List Int):Bool:=!decide ((p.length:Int)=n)||p.any gV||decide (24<Fl.sumI p)
theorem xh:∀{p:List Int},p.any gV=false->bq p<=24*p.length
 | [],_=>by simp[bq]
 |x::p,h=>by
  simp only[zp,MJ] at h;have ih:=xh h.2;have hx:=oW h.1;rw[bq,bf];omega
theorem qs{a b r:ES}{K:ES->Prop}(h:a=r)(k:K r):∃r,(true=true->a=r)/\(true=false->b=r)/\K r:=⟨r,fun _=>h,fun e=>Bool.noConfusion e,k⟩
theorem sF{a b r:ES}{K:ES->Prop}(h:b=r)(k:K r):∃r,(false=true->a=r)/\(false=false->b=r)/\K r:=⟨r,fun e=>Bool.noConfusion e,fun _=>h,k⟩
def oz(n:Int):EO:=.mem 3 [.iv (di n)] false [(0,1)] 1
theorem R9(J:Keep){n:Int}{p:List Int}{q:Rat}(hl:p.length<2^50):LocC (XS J) 63 [dS (tq p q),.w (.one (.ptr 0 0 0))] [oz n] (ac (.bool (gG n p))) [oz n]:=by
 refine lT Tryz.func63 rfl rfl rfl ⟨.c rfl,.c rfl,ab⟩ ⟨.c rfl,ab⟩ (.inr rfl) ⟨.c rfl,ab⟩ ?_;have lp:(((p.map di).length:Nat):Int)=(p.length:Int):=by simp
 have c1:=R7 J hl;show SW (XS J) 1 false Tryz.f63.ntmps _ ⟨argS [.w (.agg (.iv (.sl (p.map di))::(qr q).cells.map .iv)),.w (.one (.ptr 0 0 0))],g3 [.mem 3 [.iv (di n)] false [(0,1)] 1],1⟩ _;unfold gG;by_cases h1:(p.length:Int)=n
 . cases h2:p.any gV with
   |true=>
    rw[h2] at c1;rw[bu h1];repeat (((first|refine SW.RS (by kernel_rfl) ?_|refine SW.ret ?_|refine qs rfl ?_|refine sF rfl ?_|refine b8 lp ?_|refine bM c1 rfl rfl rfl ?_|refine And.intro rfl (jB (b:=false) (bne_eq_false_iff_eq.2 (by omega)) ?_)|refine jp rfl ?_|refine bi rfl ?_);conv=>whnf))
    exact Tr.tab [] [] ⟨.same rfl rfl,ab⟩ ⟨.rn rfl rfl rfl rfl,ab⟩ rfl
   |false=>
    rw[h2] at c1;have hab:=xh h2;have c2:=ue J (l:=p) (by omega) (by omega);have hsb:=nT p;rw[bu h1];by_cases h3:24<Fl.sumI p
    . rw[bu h3];repeat (((first|refine SW.RS (by kernel_rfl) ?_|refine SW.ret ?_|refine sF rfl ?_|refine b8 lp ?_|refine bM c1 rfl rfl rfl ?_|refine bM c2 rfl rfl rfl ?_|refine yT (by omega) ?_|refine And.intro rfl (jB (b:=false) (bne_eq_false_iff_eq.2 (by omega)) ?_)|refine jp rfl ?_|refine bi rfl ?_);conv=>whnf))
      exact Tr.tab [] [] ⟨.same rfl rfl,ab⟩ ⟨.rn rfl rfl rfl rfl,ab⟩ rfl
    . rw[bz h3];repeat (((first|refine SW.RS (by kernel_rfl) ?_|refine SW.ret ?_|refine sF rfl ?_|refine b8 lp ?_|refine bM c1 rfl rfl rfl ?_|refine bM c2 rfl rfl rfl ?_|refine yF (by omega) ?_|refine And.intro rfl (jB (b:=false) (bne_eq_false_iff_eq.2 (by omega)) ?_)|refine jp rfl ?_|refine bi rfl ?_);conv=>whnf))
      exact Tr.tab [] [] ⟨.same rfl rfl,ab⟩ ⟨.rn rfl rfl rfl rfl,ab⟩ rfl
 . rw[bz h1];repeat (((first|refine SW.RS (by kernel_rfl) ?_|refine SW.ret ?_|refine qs rfl ?_|refine b8 lp ?_|refine And.intro rfl (jB (b:=true) (bne_iff_ne.2 (by omega)) ?_)|refine jp rfl ?_|refine bi rfl ?_);conv=>whnf))
   exact Tr.tab [] [] ⟨.same rfl rfl,ab⟩ ⟨.rn rfl rfl rfl rfl,ab⟩ rfl
def ip(n:Int)(t:Tm):Bool:=gG n t.1
theorem RY(J:Keep){n:Int}{f:List Tm}(hf:f.length<2^40)(hl:∀t∈f,t.1.length<2^50):LocC (XS J) 128 [ac (aR f),.w (.one (.clo 63 [0]))] [oz n] (ac (di (mm (ip n) f))) [oz n]:=by
 obtain⟨r,hr⟩:∃r,mm (ip n) f=r:=⟨_,rfl⟩;rw[hr];have lf:(((f.map fun t=>tq t.1 t.2).length:Nat):Int)=(f.length:Int):=by simp
 refine lT Tryz.func128 rfl rfl rfl ⟨.c rfl,.c rfl,ab⟩ ⟨.c rfl,ab⟩ (.inr rfl) ⟨.c rfl,ab⟩ ?_;repeat (((first|refine SW.R (by kernel_rfl) ?_|refine SW.c rfl ?_|refine b8 lf ?_);conv=>whnf))
 refine gu (G:={ t:Nat // t<=f.length/\∀y∈f.take t,ip n y=false }) (fun t=>ba [(0,ac (aR f)),(1,.w (.one (.clo 63 [0]))),(6,ac (aR f)),(7,ac (di (f.length:Int))),(8,ac (di (t.1:Int)))] [(0,oz n)] 1) (fun t=>f.length-t.1) ⟨0,bb _,by simp⟩
  (Tr.tab [] [] ⟨.same rfl rfl,.rn rfl rfl,.same rfl rfl,.same rfl rfl,.same rfl rfl,ab⟩ ⟨.rn rfl rfl rfl rfl,ab⟩ rfl) ?_
 rintro⟨t,ht,hz⟩;show SW (XS J) _ _ _ _ (ba [(0,ac (aR f)),(1,.w (.one (.clo 63 [0]))),(6,ac (aR f)),(7,ac (di (f.length:Int))),(8,ac (di (t:Int)))] [(0,oz n)] 1) _;by_cases h:t<f.length
 . obtain⟨⟨p,q⟩,hx⟩:∃x,f[t]?=some x:=⟨_,aQ h⟩;have gv:(f.map fun t=>tq t.1 t.2)[t]?=some (tq p q):=by rw[dw,hx];rfl
   have c1:=R9 J (n:=n) (p:=p) (q:=q) (hl _ (cd hx));cases h0:gG n p with
   |true=>
    rw[h0] at c1;have e:=I5 (pr:=ip n) hz hx h0;rw[hr] at e;subst e;repeat (((first|refine SW.R (by kernel_rfl) ?_|refine SW.c rfl ?_|refine cX rfl gv rfl ?_|refine yT (by omega) ?_);conv=>whnf))
    refine jh c1 [0] 0 rfl ⟨.d rfl,.c rfl,ab⟩ ⟨.c rfl,ab⟩ trivial (ii (.c rfl) iD) (.d rfl) ?_;conv=>whnf
    repeat (first|((first|refine SW.RS (by kernel_rfl) ?_|refine SW.ret ?_);conv=>whnf)|(refine SW.condT rfl ?_))
    exact Tr.tab [] [] ⟨.same rfl rfl,ab⟩ ⟨.rn rfl rfl rfl rfl,ab⟩ rfl
   |false=>
    rw[h0] at c1;repeat (((first|refine SW.R (by kernel_rfl) ?_|refine SW.c rfl ?_|refine cX rfl gv rfl ?_|refine yT (by omega) ?_);conv=>whnf))
    refine jh c1 [0] 0 rfl ⟨.d rfl,.c rfl,ab⟩ ⟨.c rfl,ab⟩ trivial (ii (.c rfl) iD) (.d rfl) ?_;conv=>whnf
    repeat (first|((first|refine SW.R (by kernel_rfl) ?_|refine SW.skip ?_|refine ap (by omega) ?_);conv=>whnf)|(refine SW.condF rfl ?_))
    exact⟨⟨t+1,h,Fq hz hx h0⟩,Tr.tab [] [] ⟨.same rfl rfl,.rn rfl rfl,.same rfl rfl,.same rfl rfl,.same rfl rfl,ab⟩ ⟨.rn rfl rfl rfl rfl,ab⟩ rfl,by dsimp only;omega⟩
 . have e:t=f.length:=by omega
   subst e;rw[cU] at hz;have e:=Bc hz;rw[hr] at e;subst e;repeat (((first|refine SW.R (by kernel_rfl) ?_|refine SW.c rfl ?_|refine yF (by omega) ?_);conv=>whnf))
   exact Tr.tab [] [] ⟨.same rfl rfl,ab⟩ ⟨.rn rfl rfl rfl rfl,ab⟩ rfl
theorem R6(J:Keep){n:Int}{f:List Tm}(hf:f.length<2^40)(hl:∀t∈f,t.1.length<2^50):LocC (XS J) 68 [ac (aR f),.w (.one (.clo 63 [0]))] [oz n] (ac (.bool (f.any (ip n)))) [oz n]:=by
 rw[<-I6];have c1:=RY J (n:=n) hf hl;refine lT Tryz.func68 rfl rfl rfl ⟨.c rfl,.c rfl,ab⟩ ⟨.c rfl,ab⟩ (.inr rfl) ⟨.c rfl,ab⟩ ?_;repeat ((refine SW.RS (by kernel_rfl) ?_;conv=>whnf))
 refine jh c1 [0] 0 rfl ⟨.d rfl,.c rfl,ab⟩ ⟨.c rfl,ab⟩ trivial (ii (.c rfl) iD) (.d rfl) ?_;conv=>whnf
 repeat (((first|refine SW.ret ?_|refine jB rfl ?_|refine And.intro (by decide) ?_);conv=>whnf))
 exact Tr.tab [] [] ⟨.same rfl rfl,ab⟩ ⟨.rn rfl rfl rfl rfl,ab⟩ rfl
def bg(n:Int)(f:List Tm):Bool:=decide (1<=n/\n<=4)&&(decide (f.length<=500) && !f.any (ip n))
theorem n3(J:Keep){n:Int}{f:List Tm}(hf:f.length<2^40)(hl:∀t∈f,t.1.length<2^50):Go.Proofs.Fl.C J 30 [aR f,.int .i64 n] (.bool (bg n f)):=by
 refine pS Tryz.func30 rfl rfl rfl rfl rfl ?_;have lf:(((f.map fun t=>tq t.1 t.2).length:Nat):Int)=(f.length:Int):=by simp
 have c1:=Se J n;have c2:=R6 J (n:=n) hf hl;unfold bg;by_cases h1:1<=n/\n<=4
 . rw[bu h1] at c1 ⊢;by_cases h2:f.length<=500
   . rw[bu h2];cases h3:f.any (ip n) with
     |true=>
      rw[h3] at c2;repeat (((first|refine SW.RS (by kernel_rfl) ?_|refine qs rfl ?_|refine b8 lf ?_|refine bM c1 rfl rfl rfl ?_|refine yT (by omega) ?_|refine bi rfl ?_);conv=>whnf))
      refine jh c2 [0] 0 rfl ⟨.d rfl,.c rfl,ab⟩ ⟨.c rfl,ab⟩ trivial (ii (.c rfl) iD) (.d rfl) ?_;conv=>whnf
      repeat (((first|refine SW.ret ?_|refine qs rfl ?_|refine jB rfl ?_);conv=>whnf))
      rfl
     |false=>
      rw[h3] at c2;repeat (((first|refine SW.RS (by kernel_rfl) ?_|refine qs rfl ?_|refine b8 lf ?_|refine bM c1 rfl rfl rfl ?_|refine yT (by omega) ?_|refine bi rfl ?_);conv=>whnf))
      refine jh c2 [0] 0 rfl ⟨.d rfl,.c rfl,ab⟩ ⟨.c rfl,ab⟩ trivial (ii (.c rfl) iD) (.d rfl) ?_;conv=>whnf
      repeat (((first|refine SW.ret ?_|refine qs rfl ?_|refine jB rfl ?_);conv=>whnf))
      rfl
   . rw[bz h2];repeat (((first|refine SW.RS (by kernel_rfl) ?_|refine SW.ret ?_|refine qs rfl ?_|refine sF rfl ?_|refine b8 lf ?_|refine bM c1 rfl rfl rfl ?_|refine yF (by omega) ?_|refine bi rfl ?_);conv=>whnf))
     rfl
 . rw[bz h1] at c1 ⊢;repeat (((first|refine SW.RS (by kernel_rfl) ?_|refine SW.ret ?_|refine sF rfl ?_|refine bM c1 rfl rfl rfl ?_|refine bi rfl ?_);conv=>whnf))
   rfl
end Go.Proofs.En
namespace Go.Proofs.Fl
open Go.RowKit Go.Proofs.Dig
attribute [local irreducible] IntKind.wrap aY be bm bt
open Go.Proofs.En (aR bg ip gG n3 BJ xh)
open Go.Proofs.Reg (Tm aN bk)
def m4(f:List Tm):Prop:=(∀t∈f,az t.2<2^36)/\∀i,i<=f.length->∀o∈bk (f.take i),az o.2<2^36
theorem fj{n:Int}{f:List Tm}(h:bg n f=true):1<=n/\n<=4/\f.length<=500/\∀t∈f,(t.1.length:Int)=n/\t.1.any gV=false/\sumI t.1<=24/\bq t.1<=96:=by
 unfold bg at h;simp only[aC,d9,eF] at h;obtain⟨h1,h2,h3⟩:=h;refine⟨h1.1,h1.2,h2,fun t ht=>?_⟩;rw[zr] at h3;have h4:=h3 t ht;unfold ip gG at h4;simp only[fO,eF,MV,d9,s9,Decidable.not_not,DW] at h4;obtain⟨⟨h5,h6⟩,h7⟩:=h4;have h8:=xh h6;exact⟨h5,h6,by omega,by omega⟩
theorem wX{J:Keep}(B:Base J){n:Int}{f:List Tm}(h:bg n f=true)(hq:m4 f):C J 31 [aR f] (aR (aN f)):=by
 obtain⟨h1,h2,h3,h4⟩:=fj h;exact BJ B (n:=n.toNat) (by omega) (by omega) (fun t ht=>by have:=(h4 t ht).1;omega) (fun t ht=>by have:=(h4 t ht).2.2.2;omega) hq.1 hq.2 (by omega)
noncomputable def yO(n:Int)(f:List Tm):IV×Int:=if bg n f=true then(aR (aN f),0) else(.sl [],2)
theorem Us{J:Keep}(B:Base J){n:Int}{f:List Tm}(hf:f.length<2^40)(hl:∀t∈f,t.1.length<2^50)(hq:bg n f=true->m4 f):C J 9 [.int .i64 n,aR f] (.tup [(yO n f).1,.int .i64 (yO n f).2]):=by
 refine aI Tryz.func9 rfl rfl rfl ?_;have c1:=n3 J (n:=n) hf hl;unfold yO;cases h:bg n f with
 |true=>
  rw[h] at c1;rw[ar rfl];have c2:=wX B h (hq h);repeat (((first|refine W.R (by kernel_rfl) ?_|refine W.c rfl ?_|refine⟨_,c1,?_⟩|refine⟨_,c2,?_⟩|refine⟨_,rfl,?_⟩);conv=>whnf))
  rfl
 |false=>
  rw[h] at c1;rw[al (by simp)];repeat (((first|refine W.R (by kernel_rfl) ?_|refine W.c rfl ?_|refine⟨_,c1,?_⟩|refine⟨_,rfl,?_⟩);conv=>whnf))
  rfl
def cY(f:List Tm):Int:=match(aN f).getLast? with
 |some t=>sumI t.1
 |none => -1
theorem BK{J:Keep}(B:Base J){n:Int}{f:List Tm}(h:bg n f=true)(hq:m4 f):C J 32 [aR f] (.int .i64 (cY f)):=by
 obtain⟨h1,h2,h3,h4⟩:=fj h;have c1:=wX B h hq;have hp:=(Reg.nN (n:=n.toNat) (f:=f) fun t ht=>by have:=(h4 t ht).1;omega).1;have hcl:(aN f).length<=f.length:=by
  rw[hp.length_eq];exact aP (oV _ _) (Reg.pv f)
 have hkeys:∀t∈aN f,∃y∈f,t.1=y.1:=fun t ht=>by
  have:=Reg.pj (f:=f) f.length (ak _);rw[cU] at this;exact this t (List.mem_filter.1 (hp.mem_iff.1 ht)).1
 refine aI Tryz.func32 rfl rfl rfl ?_;unfold cY;obtain⟨g,hg⟩:∃g,aN f=g:=⟨_,rfl⟩;rw[hg] at c1 hkeys hcl;rw[hg];have lg:(((g.map fun t=>tq t.1 t.2).length:Nat):Int)=(g.length:Int):=by simp
 cases g with
 |nil=>
  repeat (((first|refine W.R (by kernel_rfl) ?_|refine W.c rfl ?_|refine⟨_,c1,?_⟩|refine⟨_,rfl,?_⟩|refine xr ?_);conv=>whnf))
  rfl
 |cons o os=>
  have hl1:os.length<(o::os).length:=by simp
  obtain⟨x,hx⟩:∃x,(o::os)[os.length]?=some x:=⟨_,aQ hl1⟩;have e:(o::os).getLast?=some x:=by
   rw[XG,bf,vG,hx]
  rw[e];have gv:(((o::os).map fun t=>tq t.1 t.2):List IV)[os.length]?=some (tq x.1 x.2):=by rw[dw,hx];rfl
  obtain⟨y,hy,ey⟩:=hkeys x (cd hx);have c2:=ue J (l:=x.1) (by rw[ey];have:=(h4 y hy).1;omega) (by rw[ey];have:=(h4 y hy).2.2.2;omega);have hos:os.length<2^40:=by simp only[bf] at hcl;omega
  have hw:IntKind.i64.wrap ((((os.map fun t=>tq t.1 t.2).length+1:Nat):Int)-1)=((os.length:Nat):Int):=by
   rw[cT,show((os.length+1:Nat):Int)-1=((os.length:Nat):Int) by omega];exact b7 (by omega)
  repeat (((first|refine W.R (by kernel_rfl) ?_|refine W.c rfl ?_|refine⟨_,c1,?_⟩|refine⟨_,c2,?_⟩|refine⟨os.length,_,hw,gv,rfl,?_⟩|refine⟨_,jr _,?_⟩|refine xT (by omega) ?_|refine⟨_,rfl,?_⟩|refine xr ?_);conv=>whnf))
  rfl
theorem Ur{J:Keep}(B:Base J){n:Int}{f:List Tm}(hf:f.length<2^40)(hl:∀t∈f,t.1.length<2^50)(hq:bg n f=true->m4 f):C J 10 [.int .i64 n,aR f] (.tup [.int .i64 (if bg n f=true then cY f else 0),.int .i64 (if bg n f=true then 0 else 2)]):=by
 refine aI Tryz.func10 rfl rfl rfl ?_;have c1:=n3 J (n:=n) hf hl;cases h:bg n f with
 |true=>
  rw[h] at c1;rw[ar rfl,ar rfl];have c2:=BK B h (hq h);repeat (((first|refine W.R (by kernel_rfl) ?_|refine W.c rfl ?_|refine⟨_,c1,?_⟩|refine⟨_,c2,?_⟩|refine⟨_,rfl,?_⟩);conv=>whnf))
  rfl
 |false=>
  rw[h] at c1;rw[al (by simp),al (by simp)];repeat (((first|refine W.R (by kernel_rfl) ?_|refine W.c rfl ?_|refine⟨_,c1,?_⟩|refine⟨_,rfl,?_⟩);conv=>whnf))
  rfl
end Go.Proofs.Fl
namespace Go.Proofs.En
open Go.RowKit Go.Proofs.Fl Go.Proofs.Dig
attribute [local irreducible] IntKind.wrap aY be bm bt SW SWr CallOk To Tr eX
open Go.Proofs.Reg
noncomputable def dF(c:Rat)(xs:List Rat)(p:List Int):Nat->Rat
 |0=>c
 |i+1=>dF c xs p i*(xs.getD i 0)^(p.getD i 0).toNat
noncomputable def evS(f:List Tm)(xs:List Rat):Nat->Rat
 |0=>0
 |t+1=>evS f xs t+(match f[t]? with
  |some x=>dF x.2 xs x.1 x.1.length
  |none=>0)
def uM(f:List Tm)(xs:List Rat):Prop :=
 (∀x∈xs,az x<2^28)/\(∀t∈f,∀i,i<=t.1.length->az (dF t.2 xs t.1 i)<2^36/\az ((xs.getD i 0)^(t.1.getD i 0).toNat)<2^36)/\∀t,t<=f.length->az (evS f xs t)<2^36
theorem GM:(qr 0).cells.map EV.iv=[.iv (.sl []),.iv (.bool false),.iv (.sl [])]:=by rw[rq];rfl
noncomputable def kj(q:Rat):EO:=.mem 48 ((qr q).cells.map .iv) false [(0,3)] 1
theorem Sc{J:Keep}(B:Base J){f:List Tm}{xs:List Rat}(hx:∀t∈f,t.1.length=xs.length/\∀k∈t.1,0<=k/\k<=24)(hf:f.length<2^16)(hxl:xs.length<2^16)(hv:uM f xs):Go.Proofs.Fl.C J 33 [aR f,.sl (xs.map qr)] (qr (evS f xs f.length)):=by
 obtain⟨v1,v2,v3⟩:=hv;refine pS Tryz.func33 rfl rfl rfl rfl rfl ?_;have lf:(((f.map fun t=>tq t.1 t.2).length:Nat):Int)=(f.length:Int):=by simp
 repeat (((first|refine SW.R (by kernel_rfl) ?_|refine SW.c rfl ?_|refine b8 lf ?_);conv=>whnf))
 refine gu (G:={ t:Nat // t<=f.length }) (fun t=>ba [(1,ac (.sl (xs.map qr))),(4,.w (.one (.ptr 0 0 0))),(5,.w (.one (.ptr 1 0 0))),(11,ac (aR f)),(12,ac (di (f.length:Int))),(13,ac (di (t.1:Int)))] [(0,kj 0),(1,kj (evS f xs t.1))] 2) (fun t=>f.length-t.1) ⟨0,bb _⟩
  (Tr.tab [] [] ⟨.same rfl rfl,.rn rfl rfl,.rn rfl rfl,.same rfl rfl,.same rfl rfl,.same rfl rfl,ab⟩ ⟨.same rfl (by unfold kj;rw[GM];rfl) rfl,.same rfl (by unfold kj;rw[evS,GM];rfl) rfl,ab⟩ rfl) ?_
 rintro⟨t,ht⟩;show SW (XS J) _ _ _ _ (ba [(1,ac (.sl (xs.map qr))),(4,.w (.one (.ptr 0 0 0))),(5,.w (.one (.ptr 1 0 0))),(11,ac (aR f)),(12,ac (di (f.length:Int))),(13,ac (di (t:Int)))] [(0,kj 0),(1,kj (evS f xs t))] 2) _;by_cases h:t<f.length
 . obtain⟨⟨p,q⟩,hpq⟩:∃x,f[t]?=some x:=⟨_,aQ h⟩;have hm:=cd hpq;have gv:(f.map fun t=>tq t.1 t.2)[t]?=some (tq p q):=by rw[dw,hpq];rfl
   have lp:(((p.map di).length:Nat):Int)=(p.length:Int):=by simp
   obtain⟨hpl,hpk⟩:=hx _ hm;have v2':=v2 _ hm;repeat (((first|refine SW.R (by kernel_rfl) ?_|refine SW.c rfl ?_|refine cX rfl gv rfl ?_|refine b8 lp ?_|refine yT (by omega) ?_|refine jp rfl ?_|refine bN rfl ?_|refine bi rfl ?_);conv=>whnf))
   refine gu (G:={ i:Nat // i<=p.length }) (fun i=>ba [(1,ac (.sl (xs.map qr))),(4,.w (.one (.ptr 0 0 0))),(5,.w (.one (.ptr 1 0 0))),(8,.w (.one (.ptr 2 0 0))),(11,ac (aR f)),(12,ac (di (f.length:Int))),(13,ac (di (t:Int))),(20,ac (.sl (p.map di))),(21,ac (di (p.length:Int))),(22,ac (di (i.1:Int)))] [(0,kj 0),(1,kj (evS f xs t)),(2,kj (dF q xs p i.1))] 3) (fun i=>p.length-i.1) ⟨0,bb _⟩
    (Tr.tab [(2,3)] [] ⟨.same rfl rfl,.rn rfl rfl,.rn rfl rfl,.rn rfl rfl,.same rfl rfl,.same rfl rfl,.same rfl rfl,.same rfl rfl,.same rfl rfl,.same rfl rfl,ab⟩ ⟨.same rfl rfl rfl,.same rfl rfl rfl,.same rfl (by rw[dF];rfl) rfl,ab⟩ rfl) ?_
   rintro⟨i,hi⟩;show SW (XS J) _ _ _ _ (ba [(1,ac (.sl (xs.map qr))),(4,.w (.one (.ptr 0 0 0))),(5,.w (.one (.ptr 1 0 0))),(8,.w (.one (.ptr 2 0 0))),(11,ac (aR f)),(12,ac (di (f.length:Int))),(13,ac (di (t:Int))),(20,ac (.sl (p.map di))),(21,ac (di (p.length:Int))),(22,ac (di (i:Int)))] [(0,kj 0),(1,kj (evS f xs t)),(2,kj (dF q xs p i))] 3) _;by_cases h2:i<p.length
   . have hix:i<xs.length:=by have e:p.length=xs.length:=hpl;omega
     have gk:=fY h2;have gx:(xs.map qr)[i]?=some (qr (xs.getD i 0)):=by
      rw[dw,aV,aQ hix];rfl
     have hk:=hpk (p.getD i 0) (by rw[aV,aQ h2];exact bV h2);have hxm:=v1 (xs.getD i 0) (by rw[aV,aQ hix];exact bV hix);have ei:dF q xs p (i+1)=dF q xs p i*(xs.getD i 0)^(p.getD i 0).toNat:=rfl;obtain⟨k,ek⟩:∃k,p.getD i 0=k:=⟨_,rfl⟩;obtain⟨x,ex⟩:∃x,xs.getD i 0=x:=⟨_,rfl⟩;obtain⟨w1,w2⟩:=v2' i hi;have w1:az (dF q xs p i)<2^36:=w1;have w2:az ((xs.getD i 0)^(p.getD i 0).toNat)<2^36:=w2;rw[ek,ex] at ei w2;rw[ek] at gk hk;rw[ex] at gx hxm;have c1:=Km (J:=J) hxm k;have einto:l5 k 1000=k.toNat:=by unfold l5;omega
     rw[einto] at c1;have c2:=mT B (a:=dF q xs p i) (b:=x^k.toNat) (by omega) (by omega);repeat (((first|refine SW.R (by kernel_rfl) ?_|refine SW.c rfl ?_|refine cX rfl gk rfl ?_|refine cX rfl gx rfl ?_|refine bM c1 rfl rfl rfl ?_|refine bM c2 rfl rfl rfl ?_|refine ap (by omega) ?_|refine yT (by omega) ?_|refine bN rfl ?_|refine bi rfl ?_);conv=>whnf))
     exact⟨⟨i+1,h2⟩,Tr.tab [] [] ⟨.same rfl rfl,.rn rfl rfl,.rn rfl rfl,.rn rfl rfl,.same rfl rfl,.same rfl rfl,.same rfl rfl,.same rfl rfl,.same rfl rfl,.same rfl rfl,ab⟩ ⟨.same rfl rfl rfl,.same rfl rfl rfl,.same rfl (by dsimp only;rw[ei];rfl) rfl,ab⟩ rfl,by dsimp only;omega⟩
   . have ei:i=p.length:=by omega
     subst ei;have es:evS f xs (t+1)=evS f xs t+dF q xs p p.length:=by
      show evS f xs t+(match f[t]? with
       |some x=>dF x.2 xs x.1 x.1.length
       |none=>0)=_
      rw[hpq]
     have w1:az (dF q xs p p.length)<2^36:=(v2' p.length hi).1;have w3:=v3 t ht;have c1:=r5 B (a:=evS f xs t) (b:=dF q xs p p.length) (by omega) (by omega);repeat (((first|refine SW.R (by kernel_rfl) ?_|refine SW.c rfl ?_|refine bM c1 rfl rfl rfl ?_|refine ap (by omega) ?_|refine yF (by omega) ?_|refine bN rfl ?_|refine bi rfl ?_);conv=>whnf))
     exact⟨⟨t+1,h⟩,Tr.tab [] [] ⟨.same rfl rfl,.rn rfl rfl,.rn rfl rfl,.same rfl rfl,.same rfl rfl,.same rfl rfl,ab⟩ ⟨.same rfl rfl rfl,.same rfl (by dsimp only;rw[es];rfl) rfl,ab⟩ rfl,by dsimp only;omega⟩
 . have e:t=f.length:=by omega
   subst e;repeat (((first|refine SW.R (by kernel_rfl) ?_|refine SW.c rfl ?_|refine yF (by omega) ?_|refine bN rfl ?_|refine bi rfl ?_);conv=>whnf))
   rfl
theorem tQ{n:Int}{f:List Tm}(h:bg n f=true):∀t∈f,∀k∈t.1,0<=k/\k<=24:=fun t ht k hk=>by
 have h2:=(fj h).2.2.2 t ht;have h3:=h2.2.1;rw[zr] at h3;have h4:=h3 k hk;unfold gV at h4;simp only[d9] at h4;omega
theorem Cw{J:Keep}(B:Base J){f:List Tm}{xs:List Rat}(hf:f.length<2^40)(hl:∀t∈f,t.1.length<2^50)(hxl:xs.length<2^16)(hv:bg (xs.length:Int) f=true->uM f xs) :
 Go.Proofs.Fl.C J 11 [aR f,.sl (xs.map qr)] (.tup [qr (if bg (xs.length:Int) f=true then evS f xs f.length else 0),.int .i64 (if bg (xs.length:Int) f=true then 0 else 2)]):=by
 refine pS Tryz.func11 rfl rfl rfl rfl rfl ?_;have lx:(((xs.map qr).length:Nat):Int)=(xs.length:Int):=by simp
 have c1:=n3 J (n:=(xs.length:Int)) hf hl;cases h:bg (xs.length:Int) f with
 |true=>
  rw[h] at c1;rw[ar rfl,ar rfl];obtain⟨h1,h2,h3,h4⟩:=fj h;have c2:=Sc B (f:=f) (xs:=xs) (fun t ht=>⟨by have:=(h4 t ht).1;omega,tQ h t ht⟩) (by omega) hxl (hv h);repeat (((first|refine SW.R (by kernel_rfl) ?_|refine SW.c rfl ?_|refine b8 lx ?_|refine bM c1 rfl rfl rfl ?_|refine bM c2 rfl rfl rfl ?_|refine jB rfl ?_|refine bN rfl ?_);conv=>whnf))
  rfl
 |false=>
  rw[h] at c1;rw[al (by simp),al (by simp)];repeat (((first|refine SW.R (by kernel_rfl) ?_|refine SW.c rfl ?_|refine b8 lx ?_|refine bM c1 rfl rfl rfl ?_|refine jB rfl ?_|refine bN rfl ?_);conv=>whnf))
  rw[rq];rfl
end Go.Proofs.En
namespace Go.Proofs.Reg
abbrev Tz:=Pw×Int
def dB(t:Tz):Bool->List Tz->List Tz
 |d,[]=>if d then [] else [t]
 |d,o::os=>(if !d&&decide (bp t.1 o.1<0) then [t] else [])++(if bp t.1 o.1=0 then(o.1,o.2+t.2) else o)::dB t (d||decide (bp t.1 o.1<0)||decide (bp t.1 o.1=0)) os
def dl(f:List Tz):List Tz:=f.foldl (fun out t=>dB t false out) []
def yN(f:List Tz):List Tz:=(dl f).filter fun t=>decide (t.2≠0)
def gH(D:Nat)(t:Tz):Tm:=(t.1,mkRat t.2 D)
theorem Hh{a b:Int}{d:Nat}(hd:0<d):mkRat a d+mkRat b d=mkRat (a+b) d:=by
 rw[EA _ _ (by omega) (by omega),<-MS,ED (by omega)]
theorem Hv{D:Nat}(hD:0<D){t:Tz}:∀{d:Bool} {os:List Tz},cW (gH D t) d (os.map (gH D))=(dB t d os).map (gH D)
 |d,[]=>by cases d<;>rfl
 |d,o::os=>by
  rw[aS,cW,dB,Hv hD,ch,aS];congr 1
  . show(if(!d&&decide (bp t.1 o.1<0))=true then [gH D t] else [])=_;split<;>rfl
  . congr 1;show(if bp t.1 o.1=0 then(o.1,mkRat o.2 D+mkRat t.2 D) else gH D o)=_;split
    . rw[Hh hD];rfl
    . rfl
theorem Hw{D:Nat}(hD:0<D)(f:List Tz):qp (f.map (gH D))=(dl f).map (gH D):=by
 have:∀(f out:List Tz),(f.map (gH D)).foldl (fun out t=>cW t false out) (out.map (gH D))=(f.foldl (fun out t=>dB t false out) out).map (gH D):=by
  intro f;induction f with
  |nil=>intro out;rfl
  |cons t f ih=>
   intro out;rw[aS,iw,iw,Hv hD,ih]
 exact this f []
theorem QI{D:Nat}(hD:0<D)(z:Int):(mkRat z D≠0)=(z≠0):=by
 have h:mkRat z D=0↔z=0:=Rat.mkRat_eq_zero (by omega);simp only[oP,h]
theorem Re{D:Nat}(hD:0<D)(f:List Tz):aN (f.map (gH D))=(yN f).map (gH D):=by
 unfold aN yN;rw[Hw hD,List.filter_map];congr 1;refine List.filter_congr fun t _=>?_;show decide (mkRat t.2 D≠0)=decide (t.2≠0);simp only[QI hD]
theorem Be(t:Tz):∀(os:List Tz),(dB t true os).length=os.length/\(dB t false os).length<=os.length+1/\os.length<=(dB t false os).length
 | []=>⟨rfl,ak _,bb _⟩
 |o::os=>by
  obtain⟨h1,h2,h3⟩:=Be t os;refine⟨?_,?_,?_⟩
  . rw[dB];simp[h1]
  . rw[dB];by_cases h:bp t.1 o.1<0
    . simp[h,h1]
    . by_cases h0:bp t.1 o.1=0
      . simp[h0,h1]
      . simp[h,h0,h2]
  . rw[dB];by_cases h:bp t.1 o.1<0
    . simp[h,h1]
    . by_cases h0:bp t.1 o.1=0
      . simp[h0,h1]
      . simp[h,h0,h3]
theorem Ht{t:Tz}:∀{d:Bool} {os:List Tz},∀x∈dB t d os,x=t\/(∃o∈os,x=o)\/∃o∈os,x=(o.1,o.2+t.2)
 |d,[],x,hx=>by
  cases d with
  |true=>cases hx
  |false=>rw[dB] at hx;simp at hx;exact .inl hx
 |d,o::os,x,hx=>by
  rw[dB] at hx;rcases List.mem_append.1 hx with hx|hx
  . split at hx
    . rw[fQ] at hx;exact .inl hx
    . cases hx
  . rcases List.mem_cons.1 hx with hx|hx
    . split at hx
      . exact .inr (.inr ⟨o,by simp,hx⟩)
      . exact .inr (.inl ⟨o,by simp,hx⟩)
    . rcases Ht x hx with h|⟨o',h1,h2⟩|⟨o',h1,h2⟩
      . exact .inl h
      . exact .inr (.inl ⟨o',by simp[h1],h2⟩)
      . exact .inr (.inr ⟨o',by simp[h1],h2⟩)
def wZ:List Tz->Nat
 | []=>0
 |t::l=>t.2.natAbs+wZ l
theorem Rr(l:List Tz)(t:Tz):wZ (l ++ [t])=wZ l+t.2.natAbs:=by
 induction l with
 |nil=>simp[wZ]
 |cons a l ih=>simp only[g8,wZ,ih];omega
def bC(φ:Pw->Rat):List Tm->Rat
 | []=>0
 |t::f=>t.2*φ t.1+bC φ f
theorem Fi{φ:Pw->Rat}:∀{f g:List Tm},bC φ (f++g)=bC φ f+bC φ g
 | [],g=>by simp only[ku,bC];grind
 |t::f,g=>by rw[g8,bC,bC,Fi];grind
theorem FF{φ:Pw->Rat}{t:Tm}:∀{os:List Tm},bC φ (bX t os)=bC φ os+t.2*φ t.1
 | []=>by simp only[bX,bC];grind
 |o::os=>by
  unfold bX;split
  . rename_i h;simp only[bC,h];grind
  . simp only[bC,FF (os:=os)];grind
theorem PA{φ:Pw->Rat}(f:List Tm):bC φ (bk f)=bC φ f:=by
 have:∀(f out:List Tm),bC φ (f.foldl (fun out t=>bX t out) out)=bC φ out+bC φ f:=by
  intro f;induction f with
  |nil=>intro out;simp only[qP,bC];grind
  |cons t f ih=>intro out;rw[iw,ih,FF,bC];grind
 have:=this f [];simp only[bC] at this;unfold bk;rw[this];grind
theorem Ad{φ:Pw->Rat}:∀f:List Tm,bC φ (f.filter fun t=>decide (t.2≠0))=bC φ f
 | []=>rfl
 |t::f=>by
  by_cases h:t.2=0
  . rw[Xz (by simp[h]),Ad f,bC,h];grind
  . rw[XA (by simp[h]),bC,bC,Ad f]
theorem Pz{φ:Pw->Rat}{f g:List Tm}(h:f.Perm g):bC φ f=bC φ g:=by
 induction h with
 |nil=>rfl
 |cons x _ ih=>rw[bC,bC,ih]
 |swap x y l=>simp only[bC];grind
 |trans _ _ a b=>rw[a,b]
theorem Gp{φ:Pw->Rat}{n:Nat}{f:List Tm}(hn:∀t∈f,t.1.length=n):bC φ (aN f)=bC φ f:=by
 rw[Pz (nN hn).1,Ad,PA]
theorem FG{φ ψ:Pw->Rat}:∀{f:List Tm},(∀t∈f,φ t.1=ψ t.1)->bC φ f=bC ψ f
 | [],_=>rfl
 |t::f,h=>by rw[bC,bC,h t kp,FG fun x hx=>h x (dx _ hx)]
theorem HV(f:List Tm)(p:Pw):bl f p=bC (fun q=>if q=p then 1 else 0) f:=by
 induction f with
 |nil=>rfl
 |cons t f ih=>
  simp only[bl,bC,ih];split<;>grind
def jv(a b:Tm):Tm:=(List.zipWith (· + ·) a.1 b.1,a.2*b.2)
def bw(A B:List Tm):List Tm:=A.flatMap fun a=>B.map (jv a)
theorem Hl{φ:Pw->Rat}{a:Tm}:∀B:List Tm,bC φ (B.map (jv a))=a.2*bC (fun q=>φ (List.zipWith (· + ·) a.1 q)) B
 | []=>by simp only[dO,bC];grind
 |b::B=>by rw[aS,bC,bC,Hl B];simp only[jv];grind
theorem AG{φ:Pw->Rat}{B:List Tm}:∀A:List Tm,bC φ (bw A B)=bC (fun p=>bC (fun q=>φ (List.zipWith (· + ·) p q)) B) A
 | []=>rfl
 |a::A=>by
  have:=AG (φ:=φ) (B:=B) A;unfold bw at this ⊢;rw[dz,Fi,Hl,this,bC]
theorem pf{A B:List Tm}{t:Tm}(h:t∈bw A B):∃a∈A,∃b∈B,t=jv a b:=by
 unfold bw at h;obtain⟨a,ha,h⟩:=List.mem_flatMap.1 h;obtain⟨b,hb,rfl⟩:=List.mem_map.1 h;exact⟨a,ha,b,hb,rfl⟩
theorem BN{n:Nat}{A B:List Tm}(hA:∀t∈A,t.1.length=n)(hB:∀t∈B,t.1.length=n):∀t∈bw A B,t.1.length=n:=fun t ht=>by
 obtain⟨a,ha,b,hb,rfl⟩:=pf ht;show(List.zipWith _ a.1 b.1).length=n;rw[zU,hA a ha,hB b hb];omega
theorem PX{n:Nat}{f g:List Tm}(hf:∀t∈f,t.1.length=n)(hg:∀t∈g,t.1.length=n):aN (bw (aN f) (aN g))=aN (bw f g):=by
 have hf':=(ug hf).2.1;have hg':=(ug hg).2.1;obtain⟨a1,a2,a3,a4⟩:=ug (BN hf' hg');refine JB (n:=n) (BN hf hg) a2 a1 a3 fun p=>?_;rw[a4,HV,HV,AG,AG,Gp hf];exact FG fun t _=>Gp hg
def Hb(k:Nat)(q:Rat):Prop:=q.num.natAbs<=2^k/\q.den<=2^k
theorem Hb.mono{i j:Nat}{q:Rat}(h:Hb i q)(hij:i<=j):Hb j q :=
 ⟨aP h.1 (cB (by omega) hij),aP h.2 (cB (by omega) hij)⟩
theorem Hb.zero(k:Nat):Hb k 0:=⟨bb _,MW⟩
theorem Hb.mk{k:Nat}{z:Int}{d:Nat}(hd:d≠0)(h1:z.natAbs<=2^k)(h2:d<=2^k):Hb k (mkRat z d):=by
 obtain⟨m,hm,e1,e2⟩:=Rat.mkRat_num_den (n:=z) (d:=d) (n':=(mkRat z d).num) (d':=(mkRat z d).den) (z':=(mkRat z d).den_nz) (c:=(mkRat z d).reduced) hd rfl;have hm:1<=m:=zF hm;refine⟨aP ?_ h1,aP ?_ h2⟩
 . conv=>rhs;rw[e1,fg,ef]
   exact zy _ hm
 . conv=>rhs;rw[e2]
   exact zy _ hm
theorem Hb.mul{i j:Nat}{a b:Rat}(ha:Hb i a)(hb:Hb j b):Hb (i+j) (a*b):=by
 rw[vL];refine Hb.mk (qY a.den_nz b.den_nz) ?_ ?_
 . rw[fg,hG];exact ff ha.1 hb.1
 . rw[hG];exact ff ha.2 hb.2
theorem Hb.add{i j:Nat}{a b:Rat}(ha:Hb i a)(hb:Hb j b):Hb (i+j+1) (a+b):=by
 rw[Es];have h1:(a.num*(b.den:Int)).natAbs<=2^(i+j):=by
  rw[fg,hG];exact ff ha.1 hb.2
 have h2:(b.num*(a.den:Int)).natAbs<=2^(i+j):=by
  rw[fg,hG,cz (2^i)];exact ff hb.1 ha.2
 refine Hb.mk (qY a.den_nz b.den_nz) ?_ ?_
 . have:=zG (a.num*(b.den:Int)) (b.num*(a.den:Int));rw[bQ];omega
 . have:a.den*b.den<=2^(i+j):=by rw[hG];exact ff ha.2 hb.2
   rw[bQ];omega
theorem Hb.pow{i:Nat}{a:Rat}(ha:Hb i a):∀k:Nat,Hb (i*k) (a^k)
 |0=>by rw[zV];exact⟨by show 1<=2^(i*0);exact MW,MW⟩
 |k+1=>by rw[tw,Nat.mul_succ];exact(Hb.pow ha k).mul ha
theorem HG{i j:Nat}{t:Tm}(ht:Hb j t.2):∀{os:List Tm},(∀o∈os,Hb i o.2)->∀o∈bX t os,Hb (i+(j+1)) o.2
 | [],_,o,ho=>by
  simp only[bX,fQ] at ho;rw[ho];exact ht.mono (by omega)
 |x::os,h,o,ho=>by
  unfold bX at ho;split at ho
  . rcases List.mem_cons.1 ho with rfl|ho
    . exact(h x kp).add ht
    . exact(h o (dx _ ho)).mono (by omega)
  . rcases List.mem_cons.1 ho with rfl|ho
    . exact(h _ kp).mono (by omega)
    . exact HG ht (fun y hy=>h y (dx _ hy)) o ho
theorem I8{i j:Nat}{t:Tm}(ht:Hb j t.2):∀{d:Bool} {os:List Tm},(∀o∈os,Hb i o.2)->∀o∈cW t d os,Hb (i+(j+1)) o.2
 |d,[],_,o,ho=>by
  cases d with
  |true=>cases ho
  |false=>simp only[cW,cM,bE,fQ] at ho;rw[ho];exact ht.mono (by omega)
 |d,x::os,h,o,ho=>by
  rw[cW] at ho;rcases List.mem_append.1 ho with ho|ho
  . split at ho
    . rw[List.mem_singleton.1 ho];exact ht.mono (by omega)
    . cases ho
  . rcases List.mem_cons.1 ho with ho|ho
    . rw[ho];split
      . exact(h x kp).add ht
      . exact(h x kp).mono (by omega)
    . exact I8 ht (fun y hy=>h y (dx _ hy)) o ho
theorem B4{j:Nat}{F:Tm->List Tm->List Tm}(hF:∀{i:Nat} {t:Tm},Hb j t.2->∀{os:List Tm},(∀o∈os,Hb i o.2)->∀o∈F t os,Hb (i+(j+1)) o.2):∀{f:List Tm} {i:Nat} {out:List Tm},(∀t∈f,Hb j t.2)->(∀o∈out,Hb i o.2)->∀o∈f.foldl (fun out t=>F t out) out,Hb (i+f.length*(j+1)) o.2
 | [],i,out,_,h,o,ho=>(h o ho).mono (by simp)
 |t::f,i,out,h1,h2,o,ho=>by
  rw[iw] at ho;have:=B4 hF (fun x hx=>h1 x (dx _ hx)) (hF (h1 t kp) h2) o ho;refine this.mono ?_;rw[bf,bP];omega
theorem S8{j:Nat}{f:List Tm}(h:∀t∈f,Hb j t.2):∀o∈bk f,Hb (f.length*(j+1)) o.2:=fun o ho=>by
 have:=B4 (F:=bX) (fun ht _ h=>HG ht h) (i:=0) (out:=[]) h (fun _ h=>by cases h) o ho;exact this.mono (by omega)
theorem I9{j:Nat}{f:List Tm}(h:∀t∈f,Hb j t.2):∀o∈qp f,Hb (f.length*(j+1)) o.2:=fun o ho=>by
 have:=B4 (F:=fun t os=>cW t false os) (fun ht _ h=>I8 ht h) (i:=0) (out:=[]) h (fun _ h=>by cases h) o ho;exact this.mono (by omega)
theorem JA{j:Nat}{f:List Tm}(h:∀t∈f,Hb j t.2):∀o∈aN f,Hb (f.length*(j+1)) o.2:=fun o ho=>
 I9 h o (List.mem_filter.1 ho).1
theorem Ly:∀f:List Tm,∃(D:Nat) (zs:List Tz),0<D/\f=zs.map (gH D)
 | []=>⟨1,[],Nat.one_pos,rfl⟩
 |t::f=>by
  obtain⟨D,zs,hD,e⟩:=Ly f;have ht:0<t.2.den:=zF t.2.den_nz;refine⟨t.2.den*D,(t.1,t.2.num*(D:Int))::zs.map fun z=>(z.1,z.2*(t.2.den:Int)),ld ht hD,?_⟩;rw[aS,jF,e];congr 1
  . show t=(t.1,mkRat (t.2.num*(D:Int)) (t.2.den*D));rw[ED (by omega),Rat.mkRat_self]
  . refine qO fun z _=>?_;show(z.1,mkRat z.2 D)=(z.1,mkRat (z.2*(t.2.den:Int)) (t.2.den*D));rw[cz,ED (by omega)]
end Go.Proofs.Reg
namespace Go.Proofs.Fl
open Go.RowKit
theorem UV{J:Keep}{f:FuncId}{xs:List IV}{r:IV}(h:C J f (.sl []::xs) r):C J f (.nil 3::xs) r:=by
 refine And.intro h.1 fun H w args hI hH hv=>h.2 H w args hI hH ?_;cases hv with
 |cons v x vs xs h t=>
  cases h;exact .cons _ _ _ _ (.sl0 none 0) t
end Go.Proofs.Fl
namespace Go.Proofs.Reg
def kS(p r:List Int)(j:Nat):List Int:=(List.zipWith (· + ·) p r).take j++p.drop j
theorem By{p r:List Int}{j:Nat}(h:p.length=r.length):(kS p r j).length=p.length:=by
 unfold kS;simp only[ce,b9,zU,k8];omega
theorem Rk{p r:List Int}(h:p.length=r.length):kS p r p.length=List.zipWith (· + ·) p r:=by
 unfold kS;rw[kW (ak _),jb,aH (by simp;omega)]
theorem Rj{p r:List Int}{j:Nat}(h:p.length=r.length)(hj:j<p.length):(kS p r j)[j]?=some (p.getD j 0):=by
 unfold kS;rw[Mp (by simp;omega)];rw[oR,b9,zU,show min j (min p.length r.length)=j by omega,kZ,eG,aV,aQ hj];rfl
theorem Ri{p r:List Int}{j:Nat}(h:p.length=r.length)(hj:j<p.length):(kS p r j).set j (p.getD j 0+r.getD j 0)=kS p r (j+1):=by
 have e1:((List.zipWith (· + ·) p r).take j).length=j:=by simp;omega
 unfold kS;rw[XC _ _ (by omega),e1,kZ,dY hj,EC,je (by simp;omega),dj,XF,XH,aV,aV,aQ hj,aQ (by omega:j<r.length)];rfl
noncomputable def cN(A B:List Tm)(i k:Nat):List Tm:=bw (A.take i) B++match A[i]? with
 |some a=>(B.take k).map (jv a)
 |none=>[]
theorem IL{A B:List Tm}{i k:Nat}{a b:Tm}(ha:A[i]?=some a)(hb:B[k]?=some b):cN A B i (k+1)=cN A B i k ++ [jv a b]:=by
 unfold cN;rw[ha];simp only;obtain⟨hk,e⟩:=List.getElem?_eq_some_iff.1 hb;rw[je hk,e,ch,dj];rfl
theorem IN{A B:List Tm}{i:Nat}:cN A B i 0=bw (A.take i) B:=by
 unfold cN;cases A[i]?<;>simp
theorem IM{A B:List Tm}{i:Nat}{a:Tm}(ha:A[i]?=some a):cN A B i B.length=bw (A.take (i+1)) B:=by
 unfold cN bw;rw[ha];obtain⟨hk,e⟩:=List.getElem?_eq_some_iff.1 ha;rw[je hk,e,mG,cU];simp
theorem ru{A B:List Tm}:(bw A B).length=A.length*B.length:=by
 unfold bw;induction A with
 |nil=>simp
 |cons a A ih=>rw[dz,ce,ih,cT,bf,bP];omega
theorem Gh{A B:List Tm}{i k:Nat}(ha:A.length<=500)(hb:B.length<=500):(cN A B i k).length<=251000:=by
 have h1:(bw (A.take i) B).length<=500*500:=by
  rw[ru];exact ff (aP (by simp;omega) ha) hb
 unfold cN;rw[ce];cases A[i]? with
 |none=>simp;omega
 |some a=>simp;omega
theorem BA:∀{p r:List Int},(∀k∈p,0<=k/\k<=24)->(∀k∈r,0<=k/\k<=24)->Go.Proofs.Fl.bq (List.zipWith (· + ·) p r)<=48*p.length
 | [],r,_,_=>by simp[Go.Proofs.Fl.bq]
 |x::p,[],_,_=>by simp[Go.Proofs.Fl.bq]
 |x::p,y::r,h1,h2=>by
  have ih:=BA (p:=p) (r:=r) (fun k hk=>h1 k (dx _ hk)) (fun k hk=>h2 k (dx _ hk));have:=h1 x kp;have:=h2 y kp;rw[List.zipWith_cons_cons,Go.Proofs.Fl.bq,bf];omega
end Go.Proofs.Reg
namespace Go.Proofs.En
open Go.RowKit Go.Proofs.Fl Go.Proofs.Dig
attribute [local irreducible] IntKind.wrap aY be bm bt SW SWr CallOk To Tr eX
open Go.Proofs.Reg
theorem W8(J:Keep){l:List Int}(h1:1<=l.length)(h2:l.length<=1000):LocC (XS J) 34 [ac (.sl (l.map di))] [] (.w (.one (.slc 0 0 0 l.length (.fin 1)))) [.mem 3 (iL l) false [(0,l.length)] 1]:=by
 cases l with
 |nil=>simp at h1
 |cons a l=>
  refine lT Tryz.func34 rfl rfl rfl ⟨.c rfl,ab⟩ trivial (.inr rfl) ⟨.d rz,ab⟩ ?_;repeat (((first|refine SW.R (by kernel_rfl) ?_|refine SW.c rfl ?_);conv=>whnf))
  refine yr (g:=1) (b:=1) (K0 (te:=u7) (ty:=Dh) (e:=3) (sz:=1) rfl rfl rfl (Iu (l:=a::l)) h1 (by omega) (by show _*8<=_;omega) rfl rfl rfl rfl rfl) (by show 1<1+1;decide) ?_;conv=>whnf
  repeat ((refine SW.ret ?_;conv=>whnf))
  exact Tr.tab [(0,1)] [] ⟨.rn rfl rfl,ab⟩ ⟨.same rfl (by rw[rX];rfl) rz,ab⟩ rfl
theorem Vy{e j P c:Nat}{l:List Int}{x:Int}{fz:Bool}(h:l[j]?=some x)(hP:P=l.length):gf (some (.mem e (iL l) fz [(0,P)] c)) 0 j 1=some [.iv (di x)]:=by
 obtain⟨hl,he⟩:=List.getElem?_eq_some_iff.1 h;have hl2:j<(iL l).length:=by rw[rX];exact hl
 unfold gf;simp only[jN,fh (show j+1<=P by omega),ai];rw[dY hl2,LZ,th,show(iL l)[j]=.iv (di l[j]) from List.getElem_map _,he]
theorem Vp{e j P c:Nat}{l:List Int}{x:Int}(h:j<l.length)(hP:P=l.length):ge (some (.mem e (iL l) false [(0,P)] c)) 0 j [.iv (di x)]=some (.mem e (iL (l.set j x)) false [(0,P)] c):=by
 have hl2:j<(iL l).length:=by rw[rX];exact h
 have e2:splice (iL l) j [.iv (di x)]=iL (l.set j x):=by
  unfold splice iL;rw[nG,Mn,Xa,ar (by simpa using h)];simp;rfl
 unfold ge;simp only[jN,nG,fh (show j+1<=P by omega),ai,cC,e2];rfl
theorem ul{V:Rv}(h:∀u,V 1 u=(1,u)){os:List Tm}:su V (.w (.one (nn os)))=.w (.one (nn os)):=by
 cases os with
 |nil=>rfl
 |cons x l=>show ES.w (.one (.slc (V 1 0).1 (V 1 0).2 0 (l.length+1) (.fin 4)))=_;rw[h];rfl
theorem um{P:Nat->Nat->Bool}(h:∀u,P 1 u=true){os:List Tm}:yX P (.w (.one (nn os)))=true:=by
 cases os with
 |nil=>rfl
 |cons x l=>show P 1 0=true;exact h 0
end Go.Proofs.En
namespace Go.Proofs.En
open Go.RowKit Go.Proofs.Fl Go.Proofs.Dig
attribute [local irreducible] IntKind.wrap aY be bm bt SW SWr CallOk To Tr eX
open Go.Proofs.Reg
noncomputable def va(A C g:List Tm)(p:List Int)(q:Rat)(os:List Tm)(i k:Nat):SS:=ba [(2,ac (aR g)),(8,.w (.one (nn os))),(10,.w (.one (.ptr 0 0 0))),(43,ac (aR A)),(44,ac (di (A.length:Int))),(45,ac (di (i:Int))),(50,ac (aR C)),(51,ac (di (C.length:Int))),(52,ac (di (k:Int)))] [(0,.mem 78 (bd (p,q)) false [(0,4)] 1),(1,nr os)] 2
noncomputable def LE(A C g:List Tm)(p r:List Int)(q s:Rat)(os:List Tm)(i k j:Nat):SS:=ba [(2,ac (aR g)),(8,.w (.one (nn os))),(10,.w (.one (.ptr 0 0 0))),(13,.w (.one (.ptr 2 0 0))),(43,ac (aR A)),(44,ac (di (A.length:Int))),(45,ac (di (i:Int))),(50,ac (aR C)),(51,ac (di (C.length:Int))),(52,ac (di (k:Int))),(66,ac (.sl (r.map di))),(67,ac (di (r.length:Int))),(68,ac (di (j:Int)))] [(0,.mem 78 (bd (p,q)) false [(0,4)] 1),(1,nr os),(2,.mem 78 (.slc 3 0 0 p.length (.fin 1)::(qr (q*s)).cells.map .iv) false [(0,4)] 1),(3,.mem 3 (iL (kS p r j)) false [(0,p.length)] 1)] 4
noncomputable def ti(A C g:List Tm)(p r:List Int)(q s:Rat)(os:List Tm)(i k:Nat):SS:=ba [(2,ac (aR g)),(8,.w (.one (nn os))),(10,.w (.one (.ptr 0 0 0))),(13,.w (.one (.ptr 2 0 0))),(43,ac (aR A)),(44,ac (di (A.length:Int))),(45,ac (di (i:Int))),(50,ac (aR C)),(51,ac (di (C.length:Int))),(52,ac (di (k:Int))),(66,ac (.sl (r.map di))),(67,ac (di (r.length:Int))),(68,ac (di (p.length:Int)))] [(0,.mem 78 (bd (p,q)) false [(0,4)] 1),(1,nr os),(2,.mem 78 (bd (jv (p,q) (r,s))) false [(0,4)] 1)] 3
noncomputable def DI(A B g:List Tm)(os:List Tm)(i:Nat):SS:=ba [(2,ac (aR g)),(8,.w (.one (nn os))),(43,ac (aR A)),(44,ac (di (A.length:Int))),(45,ac (di (i:Int)))] [(1,nr os)] 2
structure TimOk(n:Int)(f g:List Tm):Prop where
 vf:bg n f=true
 vg:bg n g=true
 nf:m4 f
 ng:m4 g
 df:cY f<=24
 dg:cY g<=24
 np:m4 (bw (aN f) (aN g))
 ma:∀a∈aN f,az a.2<2^36
 mb:∀b∈aN g,az b.2<2^36
theorem tO{n:Int}{f:List Tm}(h:bg n f=true):(aN f).length<=f.length/\∀t∈aN f,(t.1.length:Int)=n/\∀k∈t.1,0<=k/\k<=24:=by
 have h4:=(fj h).2.2.2;have hp:=(Reg.nN (n:=n.toNat) (f:=f) fun t ht=>by have:=(h4 t ht).1;omega).1;refine⟨by rw[hp.length_eq];exact aP (oV _ _) (Reg.pv f),fun t ht=>?_⟩;have:=Reg.pj (f:=f) f.length (ak _);rw[cU] at this;obtain⟨y,hy,e⟩:=this t (List.mem_filter.1 (hp.mem_iff.1 ht)).1;rw[e];exact⟨(h4 y hy).1,tQ h y hy⟩
def gI(a:Int):Int:=if 0>a then 0 else a
theorem Cv{J:Keep}(B:Base J){n:Int}{f g:List Tm}(T:TimOk n f g)(hd:gI (cY f)+gI (cY g)<=24)(hlt:f.length*g.length<=500):Go.Proofs.Fl.C J 12 [.int .i64 n,aR f,aR g] (.tup [aR (aN (bw (aN f) (aN g))),.int .i64 0]):=by
 have c1:=n3 J (n:=n) (f:=f) (by have:=(fj T.vf).2.2.1;omega) (fun t ht=>by have:=((fj T.vf).2.2.2 t ht).1;have:=(fj T.vf).2.1;omega);have c2:=n3 J (n:=n) (f:=g) (by have:=(fj T.vg).2.2.1;omega) (fun t ht=>by have:=((fj T.vg).2.2.2 t ht).1;have:=(fj T.vg).2.1;omega);have c3:=BK B T.vf T.nf;have c4:=BK B T.vg T.ng;have c5:=wX B T.vf T.nf;have c6:=wX B T.vg T.ng;rw[T.vf] at c1;rw[T.vg] at c2;have m1:(if 0>cY f then 0 else cY f)=gI (cY f):=rfl;have m2:(if 0>cY g then 0 else cY g)=gI (cY g):=rfl;have p1:0<=gI (cY f):=by unfold gI;split<;>omega
 have p2:0<=gI (cY g):=by unfold gI;split<;>omega
 have w1:IntKind.i64.wrap (gI (cY f)+gI (cY g))=gI (cY f)+gI (cY g):=b7 (by omega);have d1:decide (gI (cY f)+gI (cY g)>24)=false:=bz (by omega);have lf:(((f.map fun t=>tq t.1 t.2).length:Nat):Int)=(f.length:Int):=by simp
 have lg:(((g.map fun t=>tq t.1 t.2).length:Nat):Int)=(g.length:Int):=by simp
 have hpi:(f.length:Int)*(g.length:Int)<=500:=by
  rw[<-iZ];omega
 have hpn:0<=(f.length:Int)*(g.length:Int):=by rw[<-iZ];omega
 have w2:IntKind.i64.wrap ((f.length:Int)*(g.length:Int))=(f.length:Int)*(g.length:Int):=b7 (by omega);have d2:decide ((f.length:Int)*(g.length:Int)>500)=false:=bz (by omega);obtain⟨A,hA⟩:∃A,aN f=A:=⟨_,rfl⟩;obtain⟨C,hC⟩:∃C,aN g=C:=⟨_,rfl⟩;have lA:(((A.map fun t=>tq t.1 t.2).length:Nat):Int)=(A.length:Int):=by simp
 have lC:(((C.map fun t=>tq t.1 t.2).length:Nat):Int)=(C.length:Int):=by simp
 obtain⟨hAl,hAk⟩:=tO T.vf;obtain⟨hCl,hCk⟩:=tO T.vg;rw[hA] at c5 hAl hAk ⊢;rw[hC] at c6 hCl hCk ⊢;have hA5:A.length<=500:=aP hAl (fj T.vf).2.2.1;have hC5:C.length<=500:=aP hCl (fj T.vg).2.2.1;have c8:Go.Proofs.Fl.C J 31 [aR (bw A C)] (aR (aN (bw A C))):=by
  have h1:=(fj T.vf).1;have h2:=(fj T.vf).2.1;have hnp:=T.np;rw[hA,hC] at hnp;refine BJ B (n:=n.toNat) (by omega) (by omega) (fun t ht=>?_) (fun t ht=>?_) hnp.1 hnp.2 ?_
  . obtain⟨a,ha,b,hb,rfl⟩:=pf ht;have:=(hAk a ha).1;have:=(hCk b hb).1;show(List.zipWith _ a.1 b.1).length=_;rw[zU];omega
  . obtain⟨a,ha,b,hb,rfl⟩:=pf ht;have:=(hAk a ha).1;have:=BA (hAk a ha).2 (hCk b hb).2;show bq (List.zipWith _ a.1 b.1)<_;omega
  . rw[ru];have:=ff hAl hCl;omega
 refine pS Tryz.func12 rfl rfl rfl rfl rfl ?_;repeat (((first|refine SW.R (by kernel_rfl) ?_|refine SW.c rfl ?_|refine sF rfl ?_|refine bM c1 rfl rfl rfl ?_|refine bM c2 rfl rfl rfl ?_|refine bM c3 rfl rfl rfl ?_|refine bM c4 rfl rfl rfl ?_|refine b8 m1 ?_|refine b8 m2 ?_|refine b8 lf ?_|refine b8 lg ?_|refine bM c5 rfl rfl rfl ?_|refine b8 lA ?_|refine ap (by omega) ?_|refine yF (by omega) ?_|refine jB rfl ?_);conv=>whnf))
 refine gu (G:={ i:Nat // i<=A.length }) (fun i=>DI A C g (bw (A.take i.1) C) i.1) (fun i=>A.length-i.1) ⟨0,bb _⟩
  (Tr.tab [(1,1000)] [] ⟨.same rfl rfl,.same rfl rfl,.same rfl rfl,.same rfl rfl,.same rfl rfl,ab⟩ ⟨.ph rfl,ab⟩ rfl) ?_
 rintro⟨i,hi⟩;show SW (XS J) _ _ _ _ (DI A C g (bw (A.take i) C) i) _;by_cases h:i<A.length
 . obtain⟨⟨p,q⟩,hpq⟩:∃x,A[i]?=some x:=⟨_,aQ h⟩;have gv:(A.map fun t=>tq t.1 t.2)[i]?=some (tq p q):=by rw[dw,hpq];rfl
   obtain⟨hp1,hp2⟩:=hAk _ (cd hpq);have hqa:=T.ma _ (by rw[hA];exact cd hpq);obtain⟨os,eos⟩:∃os,bw (A.take i) C=os:=⟨_,rfl⟩;rw[eos];show SW (XS J) _ _ _ _ (ba [(2,ac (aR g)),(8,.w (.one (nn os))),(43,ac (aR A)),(44,ac (di (A.length:Int))),(45,ac (di (i:Int)))] [(1,nr os)] 2) _;repeat (((first|refine SW.R (by kernel_rfl) ?_|refine SW.c rfl ?_|refine cX rfl gv rfl ?_|refine bM c6 rfl rfl rfl ?_|refine b8 lC ?_|refine yT (by omega) ?_|refine bN rfl ?_);conv=>whnf))
   refine gu (G:={ k:Nat // k<=C.length }) (fun k=>va A C g p q (cN A C i k.1) i k.1) (fun k=>C.length-k.1) ⟨0,bb _⟩
    (by
      show Tr _ _ (va A C g p q (cN A C i 0) i 0);rw[IN,eos];exact Tr.tab [(0,2)] [] ⟨.same rfl rfl,.rn (ul (V:=jt [(0,2)] []) fun _=>rfl) (um fun _=>rfl),.rn rfl rfl,.same rfl rfl,.same rfl rfl,.same rfl rfl,.same rfl rfl,.same rfl rfl,.same rfl rfl,ab⟩ ⟨.same rfl rfl rfl,.same rfl rfl tH,ab⟩ rfl) ?_
   rintro⟨k,hk⟩;clear eos os;obtain⟨os,eos⟩:∃os,cN A C i k=os:=⟨_,rfl⟩;show SW (XS J) _ _ _ _ (va A C g p q (cN A C i k) i k) _;rw[eos];by_cases h2:k<C.length
   . obtain⟨⟨r,s⟩,hrs⟩:∃x,C[k]?=some x:=⟨_,aQ h2⟩;have gw:(C.map fun t=>tq t.1 t.2)[k]?=some (tq r s):=by rw[dw,hrs];rfl
     obtain⟨hr1,hr2⟩:=hCk _ (cd hrs);have hqb:=T.mb _ (by rw[hC];exact cd hrs);have hpr:p.length=r.length:=by have h1:(p.length:Int)=n:=hp1;have h2:(r.length:Int)=n:=hr1;omega
     have hpl:1<=p.length/\p.length<=4:=by have h1:(p.length:Int)=n:=hp1;have:=(fj T.vf).1;have:=(fj T.vf).2.1;omega
     have c7:=mT B (a:=q) (b:=s) (by have:az q<2^36:=hqa;omega) (by have:az s<2^36:=hqb;omega);have lr:(((r.map di).length:Nat):Int)=(r.length:Int):=by simp
     repeat (((first|refine SW.R (by kernel_rfl) ?_|refine SW.c rfl ?_|refine cX rfl gw rfl ?_|refine yT (by omega) ?_|refine jp rfl ?_|refine bN rfl ?_|refine bi rfl ?_);conv=>whnf))
     refine OL (W8 J hpl.1 (by omega)) [3] 1 rfl ⟨.c rfl,ab⟩ trivial ⟨rfl,ab⟩ (ii (.d rz) iD) (.c rfl) ?_;conv=>whnf
     repeat (((first|refine SW.R (by kernel_rfl) ?_|refine SW.c rfl ?_|refine bM c7 rfl rfl rfl ?_|refine b8 lr ?_|refine jp rfl ?_|refine bN rfl ?_|refine bi rfl ?_|refine And.intro (WU rfl) ?_);conv=>whnf))
     refine gu (G:={ j:Nat // j<=p.length }) (fun j=>LE A C g p r q s os i k j.1) (fun j=>p.length-j.1) ⟨0,bb _⟩
      (Tr.tab [(2,4)] [] ⟨.same rfl rfl,.rn (ul (V:=jt [(2,4)] []) fun _=>rfl) (um fun _=>rfl),.rn rfl rfl,.rn rfl rfl,.same rfl rfl,.same rfl rfl,.same rfl rfl,.same rfl rfl,.same rfl rfl,.same rfl rfl,.same rfl rfl,.same rfl rfl,.same rfl rfl,ab⟩ ⟨.same rfl rfl rfl,.same rfl rfl tH,.rn rfl rfl rfl rfl,.same rfl rfl rz,ab⟩ rfl) ?_
     rintro⟨j,hj⟩;show SW (XS J) _ _ _ _ (ba [(2,ac (aR g)),(8,.w (.one (nn os))),(10,.w (.one (.ptr 0 0 0))),(13,.w (.one (.ptr 2 0 0))),(43,ac (aR A)),(44,ac (di (A.length:Int))),(45,ac (di (i:Int))),(50,ac (aR C)),(51,ac (di (C.length:Int))),(52,ac (di (k:Int))),(66,ac (.sl (r.map di))),(67,ac (di (r.length:Int))),(68,ac (di (j:Int)))] [(0,.mem 78 (bd (p,q)) false [(0,4)] 1),(1,nr os),(2,.mem 78 (.slc 3 0 0 p.length (.fin 1)::(qr (q*s)).cells.map .iv) false [(0,4)] 1),(3,.mem 3 (iL (kS p r j)) false [(0,p.length)] 1)] 4) _;by_cases h3:j<p.length
     . have gr:=fY (l:=r) (i:=j) (by omega);have gp:=Rj hpr h3;have hpb:=hp2 (p.getD j 0) (by rw[aV,aQ h3];exact bV h3);have hrb:=hr2 (r.getD j 0) (by rw[aV,aQ (by omega:j<r.length)];exact bV _);have es:=Ri hpr h3;obtain⟨x,ex⟩:∃x,p.getD j 0=x:=⟨_,rfl⟩;obtain⟨y,ey⟩:∃y,r.getD j 0=y:=⟨_,rfl⟩;rw[ex] at gp hpb es;rw[ey] at gr hrb es;have hw:IntKind.i64.wrap (x+y)=x+y:=b7 (by omega);repeat (first|((first|refine SW.R (by kernel_rfl) ?_|refine SW.c rfl ?_|refine cX rfl gr rfl ?_);conv=>whnf)|(refine iN (j:=j) (o:=j) rfl h3 (by show 0+j*1=j;omega) ?_;conv=>whnf)|((first|refine bi (Vy gp (By hpr).symm) ?_|refine ap (by omega) ?_|refine yT (by omega) ?_|refine jp rfl ?_|refine bi rfl ?_);conv=>whnf))
       refine bN (Vp (by rw[By hpr];exact h3) (By hpr).symm) ?_;conv=>whnf
       repeat (((first|refine SW.R (by kernel_rfl) ?_|refine ap (by omega) ?_);conv=>whnf))
       refine⟨⟨j+1,h3⟩,?_,by dsimp only;omega⟩;show Tr _ _ (LE A C g p r q s os i k (j+1));exact Tr.tab [] [] ⟨.same rfl rfl,.rn (ul (V:=jt [] []) fun _=>rfl) (um fun _=>rfl),.rn rfl rfl,.rn rfl rfl,.same rfl rfl,.same rfl rfl,.same rfl rfl,.same rfl rfl,.same rfl rfl,.same rfl rfl,.same rfl rfl,.same rfl rfl,.same rfl rfl,ab⟩ ⟨.same rfl rfl rfl,.same rfl rfl tH,.rn rfl rfl rfl rfl,.same rfl (by rw[<-es];rfl) rz,ab⟩ rfl
     . have ej:j=p.length:=by omega
       have ezl:(List.zipWith (· + ·) p r).length=p.length:=by simp;omega
       subst ej;have ea:=Rk hpr;refine SW.tr ((KC (g:=3) (u:=0) (n:=p.length) (es:=(List.zipWith (· + ·) p r).map di) [] [(2,.mem 78 (bd (jv (p,q) (r,s))) false [(0,4)] 1)] (JL 1 rfl rfl (by rw[cT,ezl]) (Bw _) (by omega) (by rw[ea,aH (by rw[rX,ezl];omega)];exact(Bq _).symm)) trivial ⟨⟨by decide,FzO.mk rfl (.cons (.fz _) (.same _))⟩,ab⟩).trans
        (Tr.tab [] [] ⟨.same rfl rfl,.rn (ul (V:=jt [] []) fun _=>rfl) (um fun _=>rfl),.rn rfl rfl,.rn rfl rfl,.same rfl rfl,.same rfl rfl,.same rfl rfl,.same rfl rfl,.same rfl rfl,.same rfl rfl,.same rfl rfl,.same rfl rfl,.same rfl rfl,ab⟩ ⟨.same rfl rfl rfl,.same rfl rfl tH,.same rfl rfl rfl,ab⟩ rfl:Tr _ _ (ti A C g p r q s os i k))) ?_
       have esn:=IL hpq hrs;have hol:=Gh (A:=A) (B:=C) (i:=i) (k:=k) hA5 hC5;rw[eos] at esn hol;cases os with
       |nil=>
        repeat (((first|refine SW.R (by kernel_rfl) ?_|refine SW.c rfl ?_|refine ap (by omega) ?_|refine yF (by omega) ?_|refine bi rfl ?_|refine ov rfl ?_);conv=>whnf))
        refine⟨⟨k+1,h2⟩,?_,by dsimp only;omega⟩;show Tr _ _ (va A C g p q (cN A C i (k+1)) i (k+1));rw[esn];exact Tr.tab [(1,4)] [] ⟨.same rfl rfl,.rn rfl rfl,.rn rfl rfl,.same rfl rfl,.same rfl rfl,.same rfl rfl,.same rfl rfl,.same rfl rfl,.same rfl rfl,ab⟩ ⟨.same rfl rfl rfl,.rn rfl rfl rfl rfl,ab⟩ rfl
       |cons o os=>
        simp only[bf] at hol;show SW (XS J) _ _ _ _ (ba [(2,ac (aR g)),(8,.w (.one (.slc 1 0 0 (os.length+1) (.fin 4)))),(10,.w (.one (.ptr 0 0 0))),(13,.w (.one (.ptr 2 0 0))),(43,ac (aR A)),(44,ac (di (A.length:Int))),(45,ac (di (i:Int))),(50,ac (aR C)),(51,ac (di (C.length:Int))),(52,ac (di (k:Int))),(66,ac (.sl (r.map di))),(67,ac (di (r.length:Int))),(68,ac (di (p.length:Int)))] [(0,.mem 78 (bd (p,q)) false [(0,4)] 1),(1,.mem 78 ((o::os).flatMap bd) false [(0,(os.length+1)*4)] 1),(2,.mem 78 (bd (jv (p,q) (r,s))) false [(0,4)] 1)] 3) _;repeat (((first|refine SW.R (by kernel_rfl) ?_|refine SW.c rfl ?_|refine yF (by omega) ?_|refine bi rfl ?_);conv=>whnf))
        refine yr (g:=4) (b:=1) (KZ (p:=(os.length+1)*4) (sz:=4) rfl rfl (jN _ _) rfl (by omega) (by omega) (by omega) (by show _*80<=_;omega) rfl rfl rfl rfl rfl rfl) (by show 4<3+1+1;decide) ?_;conv=>whnf
        repeat (((first|refine SW.R (by kernel_rfl) ?_|refine ap (by omega) ?_);conv=>whnf))
        refine⟨⟨k+1,h2⟩,?_,by dsimp only;omega⟩;show Tr _ _ (va A C g p q (cN A C i (k+1)) i (k+1));rw[esn];show Tr _ _ (ba [(2,ac (aR g)),(8,.w (.one (.slc 1 0 0 ((os ++ [jv (p,q) (r,s)]).length+1) (.fin 4)))),(10,.w (.one (.ptr 0 0 0))),(43,ac (aR A)),(44,ac (di (A.length:Int))),(45,ac (di (i:Int))),(50,ac (aR C)),(51,ac (di (C.length:Int))),(52,ac (di ((k+1:Nat):Int)))] [(0,.mem 78 (bd (p,q)) false [(0,4)] 1),(1,gc (o::(os ++ [jv (p,q) (r,s)])) 1)] 2);have el:(os ++ [jv (p,q) (r,s)]).length=os.length+1:=by simp
        rw[gc,bf,el];refine Tr.tab [] [(1,.one 1)] ⟨.same rfl rfl,.rn rfl rfl,.rn rfl rfl,.same rfl rfl,.same rfl rfl,.same rfl rfl,.same rfl rfl,.same rfl rfl,.same rfl rfl,ab⟩ ⟨.same rfl rfl rfl,.ver rfl rfl (In _ _ _) (iY (by simp)) ?_ ?_ (gj _),ab⟩ rfl
        . rw[gN fun a _=>ia a];simp
        . rw[aH (iY (gN fun a _=>ia a):((o::os).flatMap bd).length<=(os.length+1)*4),<-g8,mG];rfl
   . have ek:k=C.length:=by omega
     subst ek;rw[IM hpq] at eos;repeat (((first|refine SW.R (by kernel_rfl) ?_|refine SW.c rfl ?_|refine ap (by omega) ?_|refine yF (by omega) ?_);conv=>whnf))
     refine⟨⟨i+1,h⟩,?_,by dsimp only;omega⟩;show Tr _ _ (DI A C g (bw (A.take (i+1)) C) (i+1));rw[eos];exact Tr.tab [] [] ⟨.same rfl rfl,.rn (ul (V:=jt [] []) fun _=>rfl) (um fun _=>rfl),.same rfl rfl,.same rfl rfl,.same rfl rfl,ab⟩ ⟨.same rfl rfl tH,ab⟩ rfl
 . have ei:i=A.length:=by omega
   subst ei;rw[cU];have hpl:=ru (A:=A) (B:=C);obtain⟨os,eos⟩:∃os,bw A C=os:=⟨_,rfl⟩;rw[eos] at c8 hpl ⊢;cases os with
   |nil=>
    show SW (XS J) _ _ _ _ (ba [(2,ac (aR g)),(8,.w (.one (.iv (.nil 3)))),(43,ac (aR A)),(44,ac (di (A.length:Int))),(45,ac (di (A.length:Int)))] [(1,nr [])] 2) _;repeat (((first|refine SW.R (by kernel_rfl) ?_|refine SW.c rfl ?_|refine bM (Go.Proofs.Fl.UV (J2 J)) rfl rfl rfl ?_|refine yF (by omega) ?_);conv=>whnf))
    rfl
   |cons o os=>
    refine SW.tr ((KC (g:=1) (u:=0) (n:=os.length+1) (es:=(o::os).map fun t=>tq t.1 t.2) [8] [] (JL 4 rfl rfl (by simp) (C2 _) (ak _) (by rw[aH (by rw[gN fun a _=>ia a];simp),Bp,MQ])) ⟨⟨_,rfl⟩,ab⟩ trivial).trans
     (Tr.tab [] [] ⟨.same rfl rfl,.same rfl rfl,.same rfl rfl,ab⟩ trivial rfl:Tr _ _ (ba [(8,ac (aR (o::os))),(44,ac (di (A.length:Int))),(45,ac (di (A.length:Int)))] [] 2))) ?_
    repeat (((first|refine SW.R (by kernel_rfl) ?_|refine SW.c rfl ?_|refine bM c8 rfl rfl rfl ?_|refine yF (by omega) ?_);conv=>whnf))
    rfl
end Go.Proofs.En
namespace Go.Proofs.Fl
open Go.RowKit Go.Proofs.Dig
attribute [local irreducible] IntKind.wrap aY be bm bt
theorem Iw{x:UInt8}:∀{a c b d:List UInt8},a++x::b=c++x::d->¬x∈a->¬x∈c->a=c/\b=d
 | [],[],b,d,h,_,_=>by simp at h;exact⟨rfl,h⟩
 | [],y::c,b,d,h,_,hc=>by simp at h;exact absurd (by rw[h.1];simp) hc
 |y::a,[],b,d,h,ha,_=>by simp at h;exact absurd (by rw[h.1];simp) ha
 |y::a,z::c,b,d,h,ha,hc=>by
  simp at h;obtain⟨h1,h2⟩:=Iw h.2 (fun e=>ha (by simp[e])) (fun e=>hc (by simp[e]));exact⟨by rw[h.1,h1],h2⟩
theorem xu{n:Nat}{x:UInt8}(h:x.toNat<48):¬x∈a6 n:=fun e=>by have:=Oa n x e;omega
theorem F7{z w:Int}(h:eV z=eV w):z=w:=by
 unfold eV at h;by_cases hz:z<0
 . rw[ar hz] at h;by_cases hw:w<0
   . rw[ar hw] at h;have:=wS (List.append_cancel_left h);omega
   . rw[al hw] at h;have h1:(45:UInt8)∈a6 w.natAbs:=by rw[ku] at h;rw[<-h];simp
     exact absurd h1 (xu (by decide))
 . rw[al hz] at h;by_cases hw:w<0
   . rw[ar hw] at h;have h1:(45:UInt8)∈a6 z.natAbs:=by rw[ku] at h;rw[h];simp
     exact absurd h1 (xu (by decide))
   . rw[al hw] at h;have:=wS h;omega
theorem wF(z:Int):¬(47:UInt8)∈eV z:=by
 unfold eV;split
 . simp;exact xu (by decide)
 . simp;exact xu (by decide)
theorem Pg{p q:Rat}(h:kL p=kL q):p=q:=by
 unfold kL at h;by_cases hp:p.den=1
 . rw[ar hp] at h;by_cases hq:q.den=1
   . rw[ar hq] at h;exact Rat.ext (F7 h) (by rw[hp,hq])
   . rw[al hq] at h;exact absurd (by rw[h];simp) (wF p.num)
 . rw[al hp] at h;by_cases hq:q.den=1
   . rw[ar hq] at h;exact absurd (by rw[<-h];simp) (wF q.num)
   . rw[al hq,dj,dj] at h;obtain⟨h1,h2⟩:=Iw h (wF _) (wF _);exact Rat.ext (F7 h1) (wS h2)
theorem Ph(p q:Rat):(kL p==kL q)=decide (p=q):=by
 by_cases h:p=q
 . rw[h,bu rfl,beq_self_eq_true]
 . rw[bz h,vP];exact fun e=>h (Pg e)
theorem U5{J:Keep}(L:LibI J){p q:Rat}{d1 d2:IV}(hd:DOk q d1 d2)(hp:az p<2^36)(hq:rl q<2^34):C J 14 [qr p,g4 q d1 d2] (.bool (decide (p=q))):=by
 refine aI Tryz.func14 rfl rfl rfl ?_;have c1:=Kn L (q:=p) (by omega);have c2:=TH J hd (by omega);have e:=Ph p q;repeat (((first|refine W.RS (by kernel_rfl) ?_|refine W.ret ?_|refine⟨_,c1,?_⟩|refine⟨_,c2,?_⟩|refine⟨_,e,?_⟩|refine xr ?_);conv=>whnf))
 rfl
def oi(n d:Int):Rat:=(n:Rat)/((if d=0 then 1 else d:Int):Rat)
def mZ(n d:Int)(p:Nat):Rat:=oi n d^(p%4+1)
theorem LD{a:Int}(h:0<=a/\a<=255):IntKind.wrap .u8 a=a:=by
 have e:IntKind.wrap .u8 a=(let m:=a%(256:Int);if false&&decide (m>=(128:Int)) then m-(256:Int) else m):=by with_unfolding_all rfl
 rw[e];simp;omega
theorem RO{n d:Int}(h1 : -9223372036854775808<=n)(h2:n<=9223372036854775807)(h3 : -9223372036854775808<=d)(h4:d<=9223372036854775807):rl (oi n d)<=13:=by
 unfold oi;have e1:=JZ n;have e2:=JZ (if d=0 then 1 else d:Int);have l1:lh n.natAbs<=5:=jO (g9 (show n.natAbs<=9223372036854775808 by omega) (by decide));have l2:lh (if d=0 then 1 else d:Int).natAbs<=5:=jO (g9 (show(if d=0 then 1 else d:Int).natAbs<=9223372036854775808 by split<;>omega) (by decide));have:=Uk (n:Rat) ((if d=0 then 1 else d:Int):Rat);omega
theorem IB{q:Rat}{N:Nat}(h:rl q<=N):∀k,rl (q^(k+1))<=(k+1)*N
 |0=>by rw[aX,tw,zV,MX];omega
 |k+1=>by
  rw[tw];have h1:=JY (q^(k+1)) q;have h2:=IB h k;rw[qX];omega
theorem uC{x y:IV}(h:x=y):some (Bx.var x)=some (Bx.var y):=by rw[h]
theorem A5(q:Rat):q^(0+1)=q:=by rw[tw,zV,MX]
abbrev nc(n d:Int)(p:Nat):IV:=.agg [.int .i64 n,.int .i64 d,.int .u8 p]
theorem Ko(J:Keep){n d:Int}{p:Nat}(h1 : -9223372036854775808<=n)(h2:n<=9223372036854775807)(h3 : -9223372036854775808<=d)(h4:d<=9223372036854775807):C J 29 [nc n d p] (.tup [qr (mZ n d p),rr (mZ n d p)]):=by
 refine aI Tryz.func29 rfl rfl rfl ?_;have hb:=RO h1 h2 h3 h4;unfold mZ;obtain⟨D,hD⟩:∃D:Int,(if d=0 then 1 else d:Int)=D:=⟨_,rfl⟩;have hD0:D≠0:=by rw[<-hD];split<;>omega
 have hD1 : -9223372036854775808<=D/\D<=9223372036854775807:=by rw[<-hD];split<;>omega
 have c57:=Kk (base J) (n:=n) (d:=D) h1 h2 hD1.1 hD1.2 hD0;have c29:=U4 J (n:=n) (d:=D) h1 h2 hD1.1 hD1.2 hD0;have hQ:oi n d=(n:Rat)/(D:Rat):=by unfold oi;rw[hD]
 rw[<-hQ] at c57 c29;obtain⟨Q,hQe⟩:∃Q,oi n d=Q:=⟨_,rfl⟩;rw[hQe] at c57 c29 hb ⊢;obtain⟨m,hm⟩:∃m,p%4=m:=⟨_,rfl⟩;have hm4:m<4:=by omega
 have hmod:((p:Nat):Int).tmod 4=((m:Nat):Int):=by rw[<-hm];exact kK p 4
 rw[hm];clear hQ hQe;iterate 1 ((refine W.RS (by kernel_rfl) ?_;conv=>whnf))
 refine W.join (G:=Unit) (fun _=>am [(1,.ptr 0 0),(2,.ptr 1 0),(3,.ptr 2 0)] [(0,.var (nc n D p)),(1,.var (.agg [.sl [],.bool false,.sl []])),(2,.var (.agg [.int .i64 0,.sl [],.int .i64 0,.sl []]))] 10) ?_ (fun _=>?_)
 . by_cases h0:d=0
   . rw[ar h0] at hD;subst hD;iterate 5 (first|((first|refine W.RS (by kernel_rfl) ?_|refine W.R (by kernel_rfl) ?_|refine xT (by omega) ?_|refine xr ?_);conv=>whnf)|(refine W.condT rfl ?_))
     exact⟨(),Wk.tab [] ⟨aa,aa,aa,ab⟩ ⟨rfl,rfl,rfl,ab⟩ rfl⟩
   . rw[al h0] at hD;subst hD;iterate 5 (first|((first|refine W.RS (by kernel_rfl) ?_|refine W.skip ?_|refine xF (by omega) ?_|refine xr ?_);conv=>whnf)|(refine W.condF rfl ?_))
     exact⟨(),Wk.tab [] ⟨aa,aa,aa,ab⟩ ⟨rfl,rfl,rfl,ab⟩ rfl⟩
 . show W J _ _ (am [(1,.ptr 0 0),(2,.ptr 1 0),(3,.ptr 2 0)] [(0,.var (nc n D p)),(1,.var (.agg [.sl [],.bool false,.sl []])),(2,.var (.agg [.int .i64 0,.sl [],.int .i64 0,.sl []]))] 10) _;repeat (((first|refine W.R (by kernel_rfl) ?_|refine W.c rfl ?_|refine⟨_,c57,?_⟩|refine⟨_,c29,?_⟩|refine xr ?_);conv=>whnf))
   refine W.loop (G:={ k:Nat // k<=m }) (fun k=>am [(1,.ptr 0 0),(2,.ptr 1 0),(3,.ptr 2 0),(4,.ptr 3 0),(6,.ptr 4 0),(7,.ptr 5 0),(8,.ptr 6 0),(9,.iv (.int .u8 (k.1:Nat)))]
    [(0,.var (nc n D p)),(1,.var (.agg [.sl [],.bool false,.sl []])),(2,.var (.agg [.int .i64 0,.sl [],.int .i64 0,.sl []])),(3,.var (qr Q)),(4,.var (rr Q)),(5,.var (qr (Q^(k.1+1)))),(6,.var (rr (Q^(k.1+1))))] 40) (fun k=>m-k.1)
    ⟨0,bb _⟩ (Wk.tab [(3,18),(4,26),(5,30),(6,31)] ⟨aa,aa,aa,aa,aa,aa,aa,aa,ab⟩ ⟨rfl,rfl,rfl,rfl,rfl,uC (by rw[A5]),uC (by rw[A5]),ab⟩ rfl) ?_
   rintro⟨k,hk⟩;show W J _ _ (am [(1,.ptr 0 0),(2,.ptr 1 0),(3,.ptr 2 0),(4,.ptr 3 0),(6,.ptr 4 0),(7,.ptr 5 0),(8,.ptr 6 0),(9,.iv (.int .u8 (k:Nat)))]
    [(0,.var (nc n D p)),(1,.var (.agg [.sl [],.bool false,.sl []])),(2,.var (.agg [.int .i64 0,.sl [],.int .i64 0,.sl []])),(3,.var (qr Q)),(4,.var (rr Q)),(5,.var (qr (Q^(k+1)))),(6,.var (rr (Q^(k+1))))] 40) _
   have lp:=IB hb k;have lp2:=bW 13 (show k+1<=4 by omega);have lq:=xJ Q;have lq2:=xJ (Q^(k+1));have c49:=mT (base J) (a:=Q^(k+1)) (b:=Q) (by omega) (by omega);have c65:=CO J (kJ (Q^(k+1))) (kJ Q) (by omega) (by omega);rw[<-tw] at c49 c65;have hw:IntKind.wrap .u8 (((k:Nat):Int)+1)=((k+1:Nat):Int):=LD (by omega);by_cases hk2:k=m
   . subst hk2;repeat (((first|refine W.R (by kernel_rfl) ?_|refine W.c rfl ?_|refine⟨by omega,_,hmod,?_⟩|refine xF (by omega) ?_|refine xr ?_);conv=>whnf))
     rfl
   . repeat (((first|refine W.R (by kernel_rfl) ?_|refine W.c rfl ?_|refine⟨by omega,_,hmod,?_⟩|refine⟨_,c49,?_⟩|refine⟨_,c65,?_⟩|refine⟨_,hw,?_⟩|refine xT (by omega) ?_|refine xr ?_);conv=>whnf))
     exact⟨⟨k+1,by omega⟩,Wk.tab [] ⟨aa,aa,aa,aa,aa,aa,aa,aa,ab⟩ ⟨rfl,rfl,rfl,rfl,rfl,rfl,rfl,ab⟩ rfl,by dsimp only;omega⟩
theorem Pa{q:Rat}{N:Nat}(h:rl q<N):az q<N:=g9 (xJ q) h
theorem KU{J:Keep}(L:LibI J){p:Rat}(hp:rl p<2^34):C J 14 [qr p,rr p] (.bool true):=by
 have:=U5 L (kJ p) (Pa (N:=2^36) (q:=p) (by omega)) hp;rw[bu rfl] at this;exact this
section
variable {J:Keep}{a b c:Rat}
end
structure Num3 where
 n:Int
 d:Int
 p:Nat
def Num3.iv(x:Num3):IV:=nc x.n x.d x.p
def Num3.q(x:Num3):Rat:=mZ x.n x.d x.p
def Num3.ok(x:Num3):Prop:=(-9223372036854775808<=x.n/\x.n<=9223372036854775807)/\(-9223372036854775808<=x.d/\x.d<=9223372036854775807)/\x.p<256
theorem VO(J:Keep){x:Num3}(h:x.ok):C J 29 [x.iv] (.tup [qr x.q,rr x.q]):=Ko J h.1.1 h.1.2 h.2.1.1 h.2.1.2
theorem vi(v:Bool):(v==v)=true:=by cases v<;>rfl
def Wd(p:Prop):Prop:=p
attribute [irreducible] Wd
noncomputable def WW(l:List Num3)(k:Nat):AS :=
 match k with
 |0=>am [(0,.iv (.sl (l.map Num3.iv))),(4,.nilS),(5,.nilS),(6,.iv (.int .i64 0))] [] 10
 |k+1=>am [(0,.iv (.sl (l.map Num3.iv))),(4,.ref 0 0 (k+1) true),(5,.ref 1 0 (k+1) true),(6,.iv (.int .i64 ((k+1:Nat):Int)))]
  [(0,.arr 48 3 ((l.take (k+1)).map fun x=>qr x.q) false),(1,.arr 58 4 ((l.take (k+1)).map fun x=>rr x.q) false)] 10
theorem BU{z v:IV}{n:Nat}(h:v.cells.length=n/\v.isTup=false):∀y∈List.take 1 (List.drop 0 ((List.replicate 1 z).set 0 v)),y.cells.length=n/\y.isTup=false:=by
 intro y hy;simp at hy;subst hy;exact h
theorem gd{e sz:Nat}{a b:List IV}{f:Bool}(h:a=b):some (Bx.arr e sz a f)=some (Bx.arr e sz b f):=by rw[h]
theorem JS{l:List Num3}{k:Nat}(h:k<l.length):l.take (k+1)=l.take k ++ [l[k]]:=by
 rw[k9,aQ h];rfl
theorem U0(J:Keep){l:List Num3}(hl:l.length<2^30)(hok:∀x∈l,x.ok):C J 8 [.sl (l.map Num3.iv)] (.tup [.sl (l.map fun x=>qr x.q),.sl (l.map fun x=>rr x.q)]):=by
 refine aI Tryz.func8 rfl rfl rfl ?_;have la:(l.map Num3.iv).length=l.length:=by simp
 repeat (((first|refine W.R (by kernel_rfl) ?_|refine W.c rfl ?_);conv=>whnf))
 refine W.loop (G:={ k:Nat // k<=l.length }) (fun k=>WW l k.1) (fun k=>l.length-k.1) ⟨0,bb _⟩ (Wk.tab [] ⟨aa,aa,aa,aa,ab⟩ trivial rfl) ?_;rintro⟨k,hk⟩;by_cases hke:k<l.length
 . have c1:=VO J (hok l[k] (bV hke));have g:(l.map Num3.iv)[k]?=some (Num3.iv l[k]):=by simp[hke]
   have tk:=JS hke;obtain⟨x,hx⟩:∃x,l[k]=x:=⟨_,rfl⟩;rw[hx] at c1 g tk;have gx:(Num3.iv x).cells.length=3:=rfl;cases k with
   |zero=>
    show W J _ _ (am [(0,.iv (.sl (l.map Num3.iv))),(4,.nilS),(5,.nilS),(6,.iv (.int .i64 0))] [] 10) _;repeat (((first|refine W.R (by kernel_rfl) ?_|refine W.c rfl ?_|refine⟨_,c1,?_⟩|refine⟨0,_,rfl,g,rfl,?_⟩|refine⟨BU ⟨rfl,rfl⟩,aB rfl,aB rfl,?_⟩|refine ap (by omega) ?_|refine xT (by omega) ?_|refine⟨_,rfl,?_⟩|refine xr ?_);conv=>whnf))
    exact⟨⟨0+1,by omega⟩,Wk.tab [(0,29),(1,33)] ⟨aa,aa,aa,aa,ab⟩ ⟨gd (by rw[tk];rfl),gd (by rw[tk];rfl),ab⟩ rfl,by dsimp only;omega⟩
   |succ k=>
    show W J _ _ (am [(0,.iv (.sl (l.map Num3.iv))),(4,.ref 0 0 (k+1) true),(5,.ref 1 0 (k+1) true),(6,.iv (.int .i64 ((k+1:Nat):Int)))]
     [(0,.arr 48 3 ((l.take (k+1)).map fun x=>qr x.q) false),(1,.arr 58 4 ((l.take (k+1)).map fun x=>rr x.q) false)] 10) _
    have l1:k+1=((l.take (k+1)).map fun x=>qr x.q).length:=by simp;omega
    have l2:k+1=((l.take (k+1)).map fun x=>rr x.q).length:=by simp;omega
    repeat (first|((first|refine W.R (by kernel_rfl) ?_|refine W.c rfl ?_|refine⟨_,c1,?_⟩|refine⟨k+1,_,rfl,g,rfl,?_⟩);conv=>whnf)|(refine⟨im rfl,rfl,rfl,l1,BU ⟨rfl,rfl⟩,by show(k+1+1)*56<=(140737488355328:Nat);omega,by show k+1+1<=maxLen;unfold maxLen;omega,?_⟩;conv=>whnf)|(refine⟨im rfl,rfl,rfl,l2,BU ⟨rfl,rfl⟩,by show(k+1+1)*64<=(140737488355328:Nat);omega,by show k+1+1<=maxLen;unfold maxLen;omega,?_⟩;conv=>whnf)|((first|refine ap (by omega) ?_|refine xT (by omega) ?_|refine⟨_,rfl,?_⟩|refine xr ?_);conv=>whnf))
    exact⟨⟨k+1+1,by omega⟩,Wk.tab [(0,29),(1,33)] ⟨aa,aa,aa,aa,ab⟩ ⟨gd (by rw[tk,ch];rfl),gd (by rw[tk,ch];rfl),ab⟩ rfl,by dsimp only;omega⟩
 . have e:k=l.length:=by omega
   cases l with
   |nil=>
    subst e;show W J _ _ (am [(0,.iv (.sl [])),(4,.nilS),(5,.nilS),(6,.iv (.int .i64 0))] [] 10) _;repeat (((first|refine W.R (by kernel_rfl) ?_|refine W.c rfl ?_|refine⟨_,rfl,?_⟩|refine xr ?_);conv=>whnf))
    rfl
   |cons y l=>
    subst e;show W J _ _ (am [(0,.iv (.sl ((y::l).map Num3.iv))),(4,.ref 0 0 (l.length+1) true),(5,.ref 1 0 (l.length+1) true),(6,.iv (.int .i64 ((l.length+1:Nat):Int)))]
     [(0,.arr 48 3 (((y::l).take (l.length+1)).map fun x=>qr x.q) false),(1,.arr 58 4 (((y::l).take (l.length+1)).map fun x=>rr x.q) false)] 10) _
    have la2:(l.map Num3.iv).length=l.length:=by simp
    have la':((y::l).map Num3.iv).length=l.length+1:=by simp
    have e1:(y::l).take (l.length+1)=y::l:=aH (by simp);rw[e1];repeat (((first|refine W.R (by kernel_rfl) ?_|refine W.c rfl ?_|refine⟨_,jr _,?_⟩|refine xF (by omega) ?_|refine xr ?_);conv=>whnf))
    show IV.tup [.sl (List.take (l.length+1) (List.drop 0 ((y::l).map fun x=>qr x.q))),.sl (List.take (l.length+1) (List.drop 0 ((y::l).map fun x=>rr x.q)))]=_;rw[bJ,bJ,aH (by simp),aH (by simp)]
end Go.Proofs.Fl
