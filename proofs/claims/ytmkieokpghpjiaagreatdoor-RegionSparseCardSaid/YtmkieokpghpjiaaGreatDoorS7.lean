/-
  The statement RegionSparse holds for every input.
-/
import Derived.Test.YtmkieokpghpjiaaGreatDoorS6
import Derived.Shelf.SlSortCmp.WholeK
import Derived.Ground.SlsfProg
import Derived.Test.YtmkieokpghpjiaaGreatDoorProg
set_option maxHeartbeats 16000000
set_option linter.all false
namespace Go.Proofs
open Go
abbrev Gf:=@Rat.natCast_mul
abbrev xO:=@List.filter_append
end Go.Proofs
namespace Go.Proofs.En.Ep
open Go.Proofs.En
open Go.RowKit Go.Proofs.Fl Go.Proofs.Dig
attribute [local irreducible] IntKind.wrap aW bc bj bm SW c7 CallOk To Tr ct
open Go.Proofs.Pt
noncomputable def tp(a:List Rat)(x:Rat):IV:=.agg (.sl (a.map qr)::(qr x).cells)
noncomputable def b8(t:Tm):List EV:=(.iv (.sl (t.1.map qr))::(qr t.2).cells.map .iv)
noncomputable def iO(ts:List Tm)(cnt:Nat):EO:=.mem 140 (ts.flatMap b8) false [(0,ts.length*4)] cnt
def jS(t:Tm):(b8 t).length=4:=rfl
structure okG(n:Nat)(p:List Rat):Prop where
 l:p.length=n
 n60:p.length<2^60
 q:∀x∈p,aU x<2^36
 t:(b9 p).length<2^40
 s:(b9 p).length<=1000000
noncomputable def k8(p:List Rat):EW:=.one (.iv (.str (b9 p)))
def s6(p:List Rat):iK (k8 p)=some (.str (b9 p)):=rfl
def uu{n:Nat}{p:List Rat}(h:okG n p):nr (.str (b9 p))=true:=fh h.s
def KB{p q:List Rat}(h:p≠q):decide (KV.str (b9 p)=.str (b9 q))=false :=
 bE fun e=>h (IS (by simpa using e))
noncomputable def lw:List (List Rat)->Nat->List (EW×EW×Nat)
 | [],_=>[]
 |p::l,i=>(k8 p,.one (.iv (di (i:Int))),i)::lw l (i+1)
def ye{n:Nat}{p:List Rat}:∀{ps:List (List Rat)} {i j:Nat},(∀q∈ps,okG n q)->p∉ps->fN nr (.str (b9 p)) (lw ps i) j=some []
 | [],_,_,_,_=>rfl
 |q::ps,i,j,ho,hm=>by
  have ih:=ye (p:=p) (ps:=ps) (i:=i+1) (j:=j+1) (fun x hx=>ho x (by simp[hx])) fun e=>hm (by simp[e]);have h2:=KB (p:=q) (q:=p) fun e=>hm (by simp[e]);unfold lw fN;rw[s6,ih];simp only[uu (ho q (by simp)),h2,al,bh]
def H5{n:Nat}{p:List Rat}:∀{ps:List (List Rat)} {m i j:Nat},(∀q∈ps,okG n q)->ps.Nodup->ps[m]?=some p->fN nr (.str (b9 p)) (lw ps i) j=some [(j+m,EW.one (.iv (di ((i+m:Nat):Int))),i+m)]
 | [],_,_,_,_,_,h=>by simp at h
 |q::ps,0,i,j,ho,hd,h=>by
  simp at h;subst h;have hd':=List.nodup_cons.1 hd;unfold lw fN;rw[s6,ye (fun x hx=>ho x (by simp[hx])) hd'.1];simp only[uu (ho q (by simp)),decide_true,al,fF]
 |q::ps,m+1,i,j,ho,hd,h=>by
  simp at h;have hd':=List.nodup_cons.1 hd;have hpm:p∈ps:=bN h;have ih:=H5 (ps:=ps) (m:=m) (i:=i+1) (j:=j+1) (fun x hx=>ho x (by simp[hx])) hd'.2 h;have h2:=KB (p:=q) (q:=p) fun e=>hd'.1 (by rw[e];exact hpm);unfold lw fN;rw[s6,ih];simp only[uu (ho q (by simp)),h2,al,bh];rw[show j+1+m=j+(m+1) by omega,show i+1+m=i+(m+1) by omega]
def I6(p:List Rat):∀(ps:List (List Rat)) (i:Nat),lw (ps ++ [p]) i=lw ps i ++ [(k8 p,EW.one (.iv (di ((i+ps.length:Nat):Int))),i+ps.length)]
 | [],i=>rfl
 |q::ps,i=>by
  rw[lC,lw,I6 p ps,lw,lC,aY,show i+1+ps.length=i+(ps.length+1) by omega]
noncomputable def jD(ps:List (List Rat)):EO:=.map (lw ps 0) ps.length
def GH{zw:TypeId->Option EW}(hz:zw 3=some (EW.one (.iv (di 0)))){h:Hp}{g n:Nat}{ps:List (List Rat)}{p:List Rat}(hg:h g=some (jD ps))(ho:∀q∈ps,okG n q)(hp:okG n p)(hm:p∉ps){kw:EW}(hkw:k8 p=kw) :
 m9 oo zw h 208 (.w (.one (.mp g))) (.w kw) true=some (.tup [.one (.iv (di 0)),.one (.iv (.bool false))],[]):=by
 subst hkw;show(match h g,iK (k8 p) with
  |some (.map es _),some k=>bif nr k then(match fN nr k es 0,zw 3 with
   |some [],some z=>some (bif true then ES.tup [z,EW.one (.iv (.bool false))] else .w z,([]:Wr))
   |some [(_,y,_)],some _=>some (bif true then ES.tup [y,EW.one (.iv (.bool true))] else .w y,[])
   |_,_=>none) else none
  |_,_=>none)=_
 rw[hg,s6];simp only[jD,uu hp,al,hz,ye ho hm]
def O9{zw:TypeId->Option EW}(hz:zw 3=some (EW.one (.iv (di 0)))){h:Hp}{g n m:Nat}{ps:List (List Rat)}{p:List Rat}(hg:h g=some (jD ps))(ho:∀q∈ps,okG n q)(hd:ps.Nodup)(hm:ps[m]?=some p){kw:EW}(hkw:k8 p=kw) :
 m9 oo zw h 208 (.w (.one (.mp g))) (.w kw) true=some (.tup [.one (.iv (di (m:Int))),.one (.iv (.bool true))],[]):=by
 subst hkw;show(match h g,iK (k8 p) with
  |some (.map es _),some k=>bif nr k then(match fN nr k es 0,zw 3 with
   |some [],some z=>some (bif true then ES.tup [z,EW.one (.iv (.bool false))] else .w z,([]:Wr))
   |some [(_,y,_)],some _=>some (bif true then ES.tup [y,EW.one (.iv (.bool true))] else .w y,[])
   |_,_=>none) else none
  |_,_=>none)=_
 rw[hg,s6];have:=H5 (i:=0) (j:=0) ho hd hm;simp only[a8] at this;simp only[jD,uu (ho p (bN hm)),al,hz,this]
def Lv{h:Hp}{g n:Nat}{ps:List (List Rat)}{p:List Rat}(hg:h g=some (jD ps))(ho:∀q∈ps,okG n q)(hp:okG n p)(hm:p∉ps){kw:EW}(hkw:k8 p=kw){v:Int}(hv:v=(ps.length:Int)) :
 jR oo h 208 (.w (.one (.mp g))) (.w kw) (.w (.one (.iv (di v))))=some (.und,[(g,jD (ps ++ [p]))]):=by
 subst hv;subst hkw;show(match h g,iK (k8 p) with
  |some (.map es ck),some kk=>bif nr kk then(match fN nr kk es 0 with
   |some []=>bJ (ck+1) fun ck'=>gE (es ++ [(k8 p,EW.one (.iv (di (ps.length:Int))),ck)]) fun es'=>some (ES.und,[(g,EO.map es' ck')])
   |some [(i,_,b)]=>gE (es.set i (k8 p,EW.one (.iv (di (ps.length:Int))),b)) fun es'=>some (.und,[(g,.map es' ck)])
   |_=>none) else none
  |_,_=>none)=_
 rw[hg,s6];simp only[jD,uu hp,al,ye ho hm,dE,bz];rw[I6,a8,bg];rfl
def W8(J:Keep){a:List Rat}{x:Rat}:Go.Proofs.Fl.C J 76 [tp a x] (.bool (decide (x=0))):=Kh J (p:=(a,x))
end Go.Proofs.En.Ep
namespace Go.Proofs.Pt
def Hv{t:Tm}:∀{os:List Tm},t.1∉os.map Prod.fst->cQ t os=os ++ [t]
 | [],_=>rfl
 |o::os,h=>by
  simp only[aZ,fD,not_or] at h;rw[cQ,aq fun e=>h.1 e.symm,Hv h.2];rfl
def Hu{t o:Tm}:∀{os:List Tm} {m:Nat},KeysNd os->os[m]?=some o->o.1=t.1->cQ t os=os.set m (o.1,o.2+t.2)
 | [],m,_,h,_=>by simp at h
 |x::os,0,_,h,e=>by
  simp at h;subst h;rw[cQ,au e];rfl
 |x::os,m+1,hn,h,e=>by
  simp at h;have hx:=(List.pairwise_cons.1 hn).1 o (bN h);rw[cQ,aq (by rw[<-e];exact hx),Hu (List.pairwise_cons.1 hn).2 h e];rfl
def Cc{f:List Tm}{i:Nat}(h:i<f.length):bO (f.take (i+1))=cQ f[i] (bO (f.take i)):=by
 rw[N3 h];unfold bO;rw[su];rfl
def Q6{os:List Tm}{m:Nat}{o:Tm}{q:Rat}(h:os[m]?=some o):(os.set m (o.1,q)).map Prod.fst=os.map Prod.fst:=by
 apply qE;intro i;simp only[bI,AU];by_cases e:m=i
 . subst e;obtain⟨hl,he⟩:=List.getElem?_eq_some_iff.1 h;simp[hl,he]
 simp[e]
def Hw(t:Tm):∀(os:List Tm),∀x∈cQ t os,x.1=t.1\/∃o∈os,x.1=o.1
 | [],x,hx=>by simp[cQ] at hx;exact .inl (by rw[hx])
 |o::os,x,hx=>by
  unfold cQ at hx;split at hx
  . rename_i e;rcases List.mem_cons.1 hx with rfl|hx
    . exact .inl e
    exact .inr ⟨x,by simp[hx],rfl⟩
  rcases List.mem_cons.1 hx with rfl|hx
  . exact .inr ⟨x,by simp,rfl⟩
  rcases Hw t os x hx with h|⟨y,hy,h⟩
  . exact .inl h
  exact .inr ⟨y,by simp[hy],h⟩
def Cd{f:List Tm}:∀i,i<=f.length->∀x∈bO (f.take i),∃t∈f,x.1=t.1
 |0,_,x,hx=>by simp[bO] at hx
 |i+1,h,x,hx=>by
  have hi:i<f.length:=h;rw[Cc hi] at hx;rcases Hw _ _ x hx with e|⟨y,hy,e⟩
  . exact⟨f[i],iw hi,e⟩
  obtain⟨z,hz,e'⟩:=Cd i (by omega) y hy;exact⟨z,hz,e.trans e'⟩
def Il(t:Tm):∀os:List Tm,(cQ t os).length<=os.length+1
 | []=>by simp[cQ]
 |o::os=>by
  have:=Il t os;unfold cQ;split<;>simp<;>omega
def CO(f:List Tm):(bO f).length<=f.length:=by
 have key:∀(f out:List Tm),(f.foldl (fun out t=>cQ t out) out).length<=out.length+f.length:=by
  intro f;induction f with
  |nil=>intro out;simp
  |cons t f ih=>intro out;have h1:=ih (cQ t out);have h2:=Il t out;simp only[iV,aY];omega
 have:=key f [];rw[oF,a8] at this;exact this
end Go.Proofs.Pt
namespace Go.Proofs.En.Ep
open Go.Proofs.En
open Go.RowKit Go.Proofs.Fl Go.Proofs.Dig
attribute [local irreducible] IntKind.wrap aW bc bj bm SW c7 CallOk To Tr ct
open Go.Proofs.Pt
def rq{e m P cnt:Nat}{os:List Tm}{x:Tm}{fz:Bool}(h:os[m]?=some x)(hP:P=os.length*4):ji (some (.mem e (os.flatMap b8) fz [(0,P)] cnt)) 0 (m*4) 4=some (b8 x):=by
 have hm:=(List.getElem?_eq_some_iff.1 h).1;unfold ji;simp only[bn,fh (show m*4+4<=P by omega),al];rw[flat_get (fun a _=>jS a) h]
def Lt{e m P cnt:Nat}{os:List Tm}{x:Tm}{new:List EV}(hm:m<os.length)(hP:P=os.length*4)(hn:new=b8 x):iQ (some (.mem e (os.flatMap b8) false [(0,P)] cnt)) 0 (m*4) new=some (.mem e ((os.set m x).flatMap b8) false [(0,P)] cnt):=by
 subst hn;unfold iQ;simp only[bn,jS,fh (show m*4+4<=P by omega),al,dE];rw[flat_set jS hm];rfl
def X8:List Tm->EV
 | []=>.iv (.nil 3)
 |_::l=>.slc 1 0 0 (l.length+1) (.fin 4)
noncomputable def Fm:List Tm->EO
 | []=>.mem 140 [] false [] 0
 |x::l=>iO (x::l) 1
def gU:∀os:List Tm,(os.flatMap b8).flatMap bv=[]
 | []=>rfl
 |x::l=>by rw[cO,eV,gU l];rfl
noncomputable def ij(os:List Tm):List (List Rat):=os.map Prod.fst
noncomputable def t8(f:List Tm):IV:=.sl (f.map fun t=>tp t.1 t.2)
def qP{ps:List (List Rat)}:fR (jD ps):=by
 have key:∀(ps:List (List Rat)) (i:Nat),∀e∈lw ps i,eM e.1=[]/\eM e.2.1=[]:=by
  intro ps;induction ps with
  |nil=>intro i e he;cases he
  |cons p ps ih=>
   intro i e he;rcases List.mem_cons.1 he with rfl|he
   . refine⟨?_,rfl⟩;rfl
   exact ih _ _ he
 exact key ps 0
noncomputable def uB(f os:List Tm)(t:Nat):SS:=aR [(1,ae (.fn 75)),(2,ae (.fn 72)),(3,ae (.fn 76)),(9,.w (.one (.mp 0))),(10,.w (.one (X8 os))),(17,ae (t8 f)),(18,ae (di (f.length:Int))),(19,ae (di (t:Int)))] [(0,jD (ij os)),(1,Fm os)] 2
noncomputable def YI(f os:List Tm)(L t:Nat):SS:=aR [(1,ae (.fn 75)),(2,ae (.fn 72)),(3,ae (.fn 76)),(9,.w (.one (.mp 0))),(10,.w (.one (.slc 1 0 0 L (.fin 4)))),(17,ae (t8 f)),(18,ae (di (f.length:Int))),(19,ae (di (t:Int)))] [(0,jD (ij os)),(1,.mem 140 (os.flatMap b8) false [(0,L*4)] 1)] 2
def Ei{f os:List Tm}{L t:Nat}(h0:os≠[]:=by simp)(hL:os.length=L:=by simp):uB f os t=YI f os L t:=by
 cases os with
 |nil=>exact absurd rfl h0
 |cons x l=>subst hL;rfl
end Go.Proofs.En.Ep
namespace Go.Proofs.En.Ep
open Go.Proofs.En
open Go.RowKit Go.Proofs.Fl Go.Proofs.Dig
attribute [local irreducible] IntKind.wrap aW bc bj bm SW c7 CallOk To Tr ct
open Go.Proofs.Pt
def uA(ts:List Tm):Int:=match ts.findIdx? (fun t=>decide (t.2=0)) with
 |some i=>(i:Int)
 |none => -1
def KC{ts:List Tm}{t:Nat}{x:Tm}(h:∀y∈ts.take t,y.2≠0)(hx:ts[t]?=some x)(h0:x.2=0):uA ts=(t:Int):=by
 have hl:=(List.getElem?_eq_some_iff.1 hx);obtain⟨hlt,he⟩:=hl;have:ts.findIdx? (fun t=>decide (t.2=0))=some t:=by
  rw[YY];refine⟨hlt,by rw[he];exact bB h0,fun j hj=>?_⟩;have:=h ts[j] (by rw[Ou];exact⟨j,by omega,rfl⟩);simpa using this
 unfold uA;rw[this]
def I9{ts:List Tm}(h:∀y∈ts,y.2≠0):uA ts = -1:=by
 have:ts.findIdx? (fun t=>decide (t.2=0))=none:=by
  rw[List.findIdx?_eq_none_iff];intro x hx;exact bE (h x hx)
 unfold uA;rw[this]
def ic{ts:List Tm}{c:Nat}:fR (iO ts c):=gU ts
def Kf(J:Keep){ts:List Tm}{c:Nat}(hl:ts.length<2^20):LocC (XS J) 190 [.w (.one (.slc 0 0 0 ts.length (.fin 4))),ae (.fn 76)] [iO ts c] (ae (di (uA ts))) [iO ts c]:=by
 obtain⟨r,hr⟩:∃r,uA ts=r:=⟨_,rfl⟩;rw[hr];refine lT Tryz.func190 rfl rfl rfl ⟨.c rfl,.c rfl,aa⟩ ⟨.d ic,aa⟩ (.inr rfl) ⟨.d ic,aa⟩ ?_;refine be ?_;refine cq (G:={ t:Nat // t<=ts.length/\∀y∈ts.take t,y.2≠0 }) (fun t=>aR [(0,.w (.one (.slc 0 0 0 ts.length (.fin 4)))),(1,ae (.fn 76)),(6,.w (.one (.slc 0 0 0 ts.length (.fin 4)))),(7,ae (di (ts.length:Int))),(8,ae (di (t.1:Int)))] [(0,iO ts c)] 1) (fun t=>ts.length-t.1) ⟨0,ba _,by simp⟩
  (Tr.tab [] [] ⟨.rn,.sm,.rn,.sm,.sm,aa⟩ ⟨.sm rfl rfl ic,aa⟩ rfl) ?_
 rintro⟨t,ht,hz⟩;show SW (XS J) _ _ _ _ (aR [(0,.w (.one (.slc 0 0 0 ts.length (.fin 4)))),(1,ae (.fn 76)),(6,.w (.one (.slc 0 0 0 ts.length (.fin 4)))),(7,ae (di (ts.length:Int))),(8,ae (di (t:Int)))] [(0,.mem 140 (ts.flatMap b8) false [(0,ts.length*4)] c)] 1) _;by_cases h:t<ts.length
 .
  obtain⟨⟨p,q⟩,hx⟩:∃x,ts[t]?=some x:=⟨_,bi h⟩;have c237:Go.Proofs.Fl.C J 76 [tp p q] (.bool (decide (q=0))):=Kh J (p:=(p,q));by_cases h0:q=0
  . rw[bB h0] at c237;have e:=KC hz hx h0;rw[hr] at e;subst e;repeat (first|(refine aG ?_)|((first|refine jh (j:=t) ?_ rfl h (a8 _)|refine cz ?_ (rq hx rfl)|refine aD c237 ?_|refine yT ?_);conv=>whnf))
    exact Tr.tab [] [] ⟨.sm,aa⟩ ⟨.sm rfl rfl ic,aa⟩ rfl
  rw[bE h0] at c237;repeat (first|(refine aG ?_)|((first|refine jh (j:=t) ?_ rfl h (a8 _)|refine cz ?_ (rq hx rfl)|refine aD c237 ?_);conv=>whnf)|(refine aJ ?_))
  refine⟨⟨t+1,by omega,fun y hy=>?_⟩,Tr.tab [] [] ⟨.rn,.sm,.rn,.sm,.sm,aa⟩ ⟨.sm rfl rfl ic,aa⟩ rfl,by dsimp only;omega⟩;rw[dO,hx] at hy;rcases List.mem_append.1 hy with hy|hy
  . exact hz y hy
  rw[List.mem_singleton.1 hy];exact h0
 have e:t=ts.length:=by omega
 subst e;rw[cN] at hz;have e:=I9 hz;rw[hr] at e;subst e;refine be ?_;exact Tr.tab [] [] ⟨.sm,aa⟩ ⟨.sm rfl rfl ic,aa⟩ rfl
def KA{u L e c:Nat}{cs:List EV}{fz:Bool}:uz (some (.mem e cs fz [(u,L*4)] c)) u 0 L 4=L:=by
 unfold uz;simp only[bn,a8,fh (ah _),qK,uS,Nat.mul_div_cancel _ (by omega:0<4)];rfl
def RI{T:TypeId->Option TY}{h:Hp}{g t e e1 L i c:Nat}{ty te:TY}{cs:List EV}{fz:Bool}(hg:h g=some (.mem e1 cs fz [(0,L*4)] c))(hi:i<L)(ht:T t=some ty)(hsh:ty.sh=.slice e)(hte:T e=some te)(hsz:te.size=4) :
 jd T h t (.w (.one (.slc g 0 0 L (.fin 4)))) (some (ae (di (i:Int)))) none none=some (.w (.one (.slc g 0 (i*4) (L-i) (.fin 4))),[]):=by
 unfold jd;rw[ht];simp only[hsh,hte];rw[show ky (some (ae (di (i:Int)))) 0=some i from rfl,show ky none L=some L from rfl,hg,KA];have e1:(Nat.ble i L&&Nat.ble L L&&Nat.blt i L&&Nat.beq 4 4)=true:=by
  rw[fh (by omega),fh (ah _),(by rw[dN];exact hi:Nat.blt i L=true)];rfl
 rw[hsz];simp only[bz,e1,al,a8]
def RK{T:TypeId->Option TY}{h:Hp}{g t e e1 L i c:Nat}{ty te:TY}{cs:List EV}{fz:Bool}(hg:h g=some (.mem e1 cs fz [(0,L*4)] c))(hi:i<L)(ht:T t=some ty)(hsh:ty.sh=.slice e)(hte:T e=some te)(hsz:te.size=4) :
 jd T h t (.w (.one (.slc g 0 0 L (.fin 4)))) none (some (ae (di (i:Int)))) none=some (.w (.one (.slc g 0 0 i (.fin 4))),[]):=by
 unfold jd;rw[ht];simp only[hsh,hte];rw[show ky none 0=some 0 from rfl,show ky (some (ae (di (i:Int)))) L=some i from rfl,hg,KA];have e1:(Nat.ble 0 i&&Nat.ble i L&&Nat.blt 0 L&&Nat.beq 4 4)=true:=by
  rw[fh (ba _),fh (by omega),(by rw[dN];omega:Nat.blt 0 L=true)];rfl
 rw[hsz];simp only[bz,e1,al,nN,a8,uS]
def bU(x:Tm):Bool:=decide (x.2≠0)
def KM{ts:List Tm}{i j:Nat}{x:Tm}(hx:ts[i]?=some x)(h0:x.2=0)(hij:i<j):((ts.take j).filter bU).length<j:=by
 have hm:x∈ts.take j:=by
  obtain⟨hl,he⟩:=List.getElem?_eq_some_iff.1 hx;rw[Ou];exact⟨i,by omega,he⟩
 have h1:((ts.take j).filter bU).length<(ts.take j).length:=by
  apply List.length_filter_lt_length_iff_exists.2;exact⟨x,hm,by unfold bU;simp[h0]⟩
 have:=List.length_take_le j ts;omega
def fY(ts:List Tm)(j:Nat):List Tm:=(ts.take j).filter bU++ts.drop ((ts.take j).filter bU).length
def Tk{ts:List Tm}{j:Nat}(h:((ts.take j).filter bU).length<=ts.length):(fY ts j).length=ts.length:=by
 unfold fY;rw[bg,nO];omega
def Tl{ts:List Tm}{j:Nat}(h:((ts.take j).filter bU).length<=j):(fY ts j)[j]?=ts[j]?:=by
 unfold fY;rw[N6 h,sk];congr 1;omega
def Tj{ts:List Tm}{j:Nat}{x:Tm}(hx:ts[j]?=some x)(hz:x.2≠0)(h:((ts.take j).filter bU).length<ts.length) :
 (ts.take (j+1)).filter bU=(ts.take j).filter bU ++ [x]/\(fY ts j).set ((ts.take j).filter bU).length x=fY ts (j+1):=by
 have e1:(ts.take (j+1)).filter bU=(ts.take j).filter bU ++ [x]:=by
  rw[dO,hx,xO];have:bU x=true:=by unfold bU;simpa using hz
  simp[this]
 refine⟨e1,?_⟩;unfold fY;rw[e1,gS h,bg,xv,List.set_append_right _ _ (ah _),mM,Gc,dI];rfl
def IL{ts:List Tm}{j:Nat}{x:Tm}(hx:ts[j]?=some x)(hz:x.2=0):(ts.take (j+1)).filter bU=(ts.take j).filter bU:=by
 rw[dO,hx,xO];have:bU x=false:=by unfold bU;simp[hz]
 simp[this]
def Cz{zs:List EV}:∀m,(g8 zs m).length=m*zs.length
 |0=>by simp[g8]
 |m+1=>by rw[g8,bg,Cz m,xL];omega
def Rn{T:TypeId->Option TY}{ze:TypeId->Option (List EV)}{h:Hp}{g t e e1 L i m c:Nat}{ty te:TY}{cs zs:List EV}(hg:h g=some (.mem e1 cs false [(0,L*4)] c))(hl:cs.length=L*4)(him:i+m=L)(ht:T t=some ty)(hsh:ty.sh=.slice e)(hte:T e=some te)(hze:ze e=some zs)(hsz:te.size=4)(hzs:zs.length=4) :
 l6 T ze h t (.w (.one (.slc g 0 (i*4) m (.fin 4))))=some (.tup [],[(g,.mem e1 (cs.take (i*4)++g8 zs m) false [(0,L*4)] c)]):=by
 unfold l6;rw[ht];simp only[hsh,hte,hze];rw[hzs,hsz,bD,al,hg];unfold iQ;have e2:(g8 zs m).length=m*4:=by rw[Cz,hzs]
 simp only[bn,e2,fh (show i*4+m*4<=L*4 by omega),al,dE];unfold splice;rw[e2,oE (by omega),eS];rfl
def RP(J:Keep){ts:List Tm}{c:Nat}(hl:ts.length<2^20)(hz:∀y∈ts,y.2≠0):LocC (XS J) 141 [.w (.one (.slc 0 0 0 ts.length (.fin 4))),ae (.fn 76)] [iO ts c] (.w (.one (.slc 0 0 0 ts.length (.fin 4)))) [iO ts c]:=by
 refine lT Tryz.func141 rfl rfl rfl ⟨.c rfl,.c rfl,aa⟩ ⟨.d ic,aa⟩ (.inr rfl) ⟨.d ic,aa⟩ ?_;have c1:=Kf J (ts:=ts) (c:=c) hl;rw[I9 hz] at c1;repeat ((refine SW.RS ?_;conv=>whnf))
 refine iB c1 [0] 0 rfl ⟨.c rfl,.d rfl,aa⟩ ⟨.d rfl ic,aa⟩ trivial (bp (.d ic) fS) (.d rfl) ?_;conv=>whnf
 refine be ?_;exact Tr.tab [] [] ⟨.rn,aa⟩ ⟨.sm rfl rfl ic,aa⟩ rfl
def QF(J:Keep){ts:List Tm}{c i:Nat}{x:Tm}(hl:ts.length<2^20)(hi:∀y∈ts.take i,y.2≠0)(hx:ts[i]?=some x)(h0:x.2=0):∃zs:List EV,zs.flatMap bv=[]/\zs.length=(ts.length-(ts.filter bU).length)*4/\
 LocC (XS J) 141 [.w (.one (.slc 0 0 0 ts.length (.fin 4))),ae (.fn 76)] [iO ts c] (.w (.one (.slc 0 0 0 (ts.filter bU).length (.fin 4)))) [.mem 140 ((ts.filter bU).flatMap b8++zs) false [(0,ts.length*4)] c]:=by
 obtain⟨zc,hzc,hz4,hzi⟩:∃zc,(XS J).ze 140=some zc/\zc.length=4/\zc.flatMap bv=[]:=⟨_,rfl,rfl,rfl⟩;have hzr:∀m,(g8 zc m).flatMap bv=[]:=fun m=>by
  induction m with
  |zero=>rfl
  |succ m ih=>rw[g8,eV,hzi,ih];rfl
 have hil:i<ts.length:=(List.getElem?_eq_some_iff.1 hx).1;obtain⟨K,hK⟩:∃K,ts.filter bU=K:=⟨_,rfl⟩;have hKl:K.length<ts.length:=by
  have:=KM (j:=ts.length) hx h0 hil;rwa[cN,hK] at this
 rw[hK];refine⟨g8 zc (ts.length-K.length),hzr _,by rw[Cz,hz4],?_⟩;refine lT Tryz.func141 rfl rfl rfl ⟨.c rfl,.c rfl,aa⟩ ⟨.d ic,aa⟩ (.inr rfl) ⟨.d (by show(K.flatMap b8++_).flatMap bv=[];rw[eV,gU,hzr];rfl),aa⟩ ?_;have c1:=Kf J (ts:=ts) (c:=c) hl;rw[KC hi hx h0] at c1;repeat ((refine SW.RS ?_;conv=>whnf))
 refine iB c1 [0] 0 rfl ⟨.c rfl,.d rfl,aa⟩ ⟨.d rfl ic,aa⟩ trivial (bp (.d ic) fS) (.d rfl) ?_;conv=>whnf
 refine be ?_;have e0:(ts.take (i+1)).filter bU=ts.take i:=by
  rw[IL hx h0,List.filter_eq_self];intro y hy;unfold bU;simpa using hi y hy
 have e1:(ts.take i).length=i:=by rw[bG];omega
 have e2:fY ts (i+1)=ts:=by unfold fY;rw[e0,e1,kC]
 refine cq (G:={ j:Nat // i<j/\j<=ts.length }) (fun j=>aR [(0,.w (.one (.slc 0 0 0 ts.length (.fin 4)))),(1,ae (.fn 76)),(5,ae (di (((ts.take j.1).filter bU).length:Int))),(6,ae (di (j.1:Int)))] [(0,.mem 140 ((fY ts j.1).flatMap b8) false [(0,ts.length*4)] c)] 1) (fun j=>ts.length-j.1) ⟨i+1,by omega,by omega⟩
  (Tr.tab [] [] ⟨.rn,.sm,.sm (by rw[e0,e1];rfl),.sm,aa⟩ ⟨.sm rfl (by rw[e2];rfl) (gU _),aa⟩ rfl) ?_
 rintro⟨j,hj1,hj2⟩;have hjl:=KM (j:=j) hx h0 hj1;have hRl:=Tk (ts:=ts) (j:=j) (by omega);have hRg:=Tl (ts:=ts) (j:=j) (by omega);show SW (XS J) _ _ _ _ (aR [(0,.w (.one (.slc 0 0 0 ts.length (.fin 4)))),(1,ae (.fn 76)),(5,ae (di (((ts.take j).filter bU).length:Int))),(6,ae (di (j:Int)))] [(0,.mem 140 ((fY ts j).flatMap b8) false [(0,ts.length*4)] c)] 1) _;by_cases h:j<ts.length
 .
  obtain⟨⟨p,q⟩,hxj⟩:∃x,ts[j]?=some x:=⟨_,bi h⟩;have c237:=W8 J (a:=p) (x:=q);have hgj:=hRg.trans hxj;by_cases hq0:q=0
  . rw[bB hq0] at c237;have e3:=IL hxj hq0;obtain⟨R,hR⟩:∃R,fY ts j=R:=⟨_,rfl⟩;obtain⟨I,hI⟩:∃I,((ts.take j).filter bU).length=I:=⟨_,rfl⟩;rw[hR] at hgj hRl;rw[hR,hI];repeat (first|(refine aG ?_)|((first|refine jh (j:=j) ?_ rfl h (a8 _)|refine cz ?_ (rq hgj (by rw[hRl]))|refine aD c237 ?_);conv=>whnf)|(refine aJ ?_))
    refine⟨⟨j+1,by omega,by omega⟩,?_,by dsimp only;omega⟩;have e4:fY ts (j+1)=R:=by unfold fY;rw[e3];exact hR
    show Tr _ _ (aR [(0,.w (.one (.slc 0 0 0 ts.length (.fin 4)))),(1,ae (.fn 76)),(5,ae (di (((ts.take (j+1)).filter bU).length:Int))),(6,ae (di ((j+1:Nat):Int)))] [(0,.mem 140 ((fY ts (j+1)).flatMap b8) false [(0,ts.length*4)] c)] 1);rw[e3,hI,e4];exact Tr.tab [] [] ⟨.rn,.sm,.sm,.sm,aa⟩ ⟨.sm rfl rfl (gU _),aa⟩ rfl
  rw[bE hq0] at c237;obtain⟨e3,e4⟩:=Tj hxj hq0 (by omega);obtain⟨R,hR⟩:∃R,fY ts j=R:=⟨_,rfl⟩;obtain⟨I,hI⟩:∃I,((ts.take j).filter bU).length=I:=⟨_,rfl⟩;have e5:((ts.take (j+1)).filter bU).length=I+1:=by rw[e3,bg,hI];rfl
  rw[hR] at hgj hRl;rw[hR,hI] at e4;rw[hI] at hjl;rw[hR,hI];have hIL:I<ts.length:=by omega
  have hIR:I<R.length:=by omega
  repeat (first|(refine aG ?_)|((first|refine jh (j:=j) ?_ rfl h (a8 _)|refine cz ?_ (rq hgj (by rw[hRl]))|refine aD c237 ?_|refine jh (j:=I) ?_ rfl hIL (a8 _));conv=>whnf)|(refine aJ ?_))
  refine dH ?_ (Lt (x:=(p,q)) (m:=I) (os:=R) hIR (by rw[hRl]) rfl);conv=>whnf
  refine be ?_;refine⟨⟨j+1,by omega,by omega⟩,?_,by dsimp only;omega⟩;show Tr _ _ (aR [(0,.w (.one (.slc 0 0 0 ts.length (.fin 4)))),(1,ae (.fn 76)),(5,ae (di (((ts.take (j+1)).filter bU).length:Int))),(6,ae (di ((j+1:Nat):Int)))] [(0,.mem 140 ((fY ts (j+1)).flatMap b8) false [(0,ts.length*4)] c)] 1);rw[e5,<-e4];exact Tr.tab [] [] ⟨.rn,.sm,.sm,.sm,aa⟩ ⟨.sm rfl rfl (gU _),aa⟩ rfl
 have ej:j=ts.length:=by omega
 subst ej;have eK:(ts.take ts.length).filter bU=K:=by rw[cN];exact hK
 have eR:((fY ts ts.length).flatMap b8).take (K.length*4)=K.flatMap b8:=by
  unfold fY;rw[eK,eV,jJ (by rw[iZ fun a _=>jS a];exact ah _),ay (by rw[iZ fun a _=>jS a];exact ah _)]
 have eL:((fY ts ts.length).flatMap b8).length=ts.length*4:=by rw[iZ fun a _=>jS a,hRl]
 rw[eK];obtain⟨R,hR⟩:∃R,(fY ts ts.length).flatMap b8=R:=⟨_,rfl⟩;rw[hR] at eR eL;rw[hR];repeat (first|(refine aG ?_)|(refine lA (RI (L:=ts.length) (i:=K.length) rfl hKl rfl rfl rfl rfl) ?_;conv=>whnf)|(refine aJ ?_))
 refine YJ (Rn (L:=ts.length) (i:=K.length) (m:=ts.length-K.length) rfl eL (by omega) rfl rfl rfl hzc rfl hz4) ?_;conv=>whnf
 repeat (first|(refine aG ?_)|(refine lA (RK (L:=ts.length) (i:=K.length) rfl hKl rfl rfl rfl rfl) ?_;conv=>whnf))
 refine Tr.tab [] [] ⟨.rn,aa⟩ ⟨.sm rfl ?_ (by show(K.flatMap b8++_).flatMap bv=[];rw[eV,gU,hzr];rfl),aa⟩ rfl;rw[<-eR];rfl
end Go.Proofs.En.Ep
namespace Go.Proofs.Pt
def Sr(t:Tm):∀os:List Tm,cQ t os≠[]
 | []=>by simp[cQ]
 |o::os=>by unfold cQ;split<;>simp
def UC{f:List Tm}(h:f≠[]):bO f≠[]:=by
 have hl:f.length-1<f.length:=by have:=List.length_pos_iff.2 h;omega
 have e:=Cc hl;rw[show f.length-1+1=f.length by omega,cN] at e;rw[e];exact Sr _ _
end Go.Proofs.Pt
namespace Go.Proofs.En.Ep
open Go.Proofs.En
open Go.RowKit Go.Proofs.Fl Go.Proofs.Dig
attribute [local irreducible] IntKind.wrap aW bc bj bm SW c7 CallOk To Tr ct
open Go.Proofs.Pt
def TE(J:Keep){ts:List Tm}{c:Nat}(hl:ts.length<2^20):∃zs:List EV,zs.flatMap bv=[]/\zs.length=(ts.length-(ts.filter bU).length)*4/\
 LocC (XS J) 141 [.w (.one (.slc 0 0 0 ts.length (.fin 4))),ae (.fn 76)] [iO ts c] (.w (.one (.slc 0 0 0 (ts.filter bU).length (.fin 4)))) [.mem 140 ((ts.filter bU).flatMap b8++zs) false [(0,ts.length*4)] c]:=by
 by_cases h:∀y∈ts,y.2≠0
 . have e:ts.filter bU=ts:=by
    rw[List.filter_eq_self];intro y hy;unfold bU;simpa using h y hy
   rw[e];refine⟨[],rfl,by simp,?_⟩;rw[eS];exact RP J hl h
 obtain⟨n,hn⟩:∃n,n=ts.findIdx (fun t=>decide (t.2=0)):=⟨_,rfl⟩;have hex:∃y∈ts,decide (y.2=0)=true:=by
  apply ia;intro hc;refine h fun y hy e=>hc ⟨y,hy,bB e⟩
 have hlt:=List.findIdx_lt_length_of_exists hex;refine QF J hl (i:=ts.findIdx (fun t=>decide (t.2=0))) (x:=ts[ts.findIdx (fun t=>decide (t.2=0))]) (fun y hy e=>?_) (bi hlt) (mP (List.findIdx_getElem (w:=hlt)));obtain⟨j,hj,rfl⟩:=List.mem_take_iff_getElem.1 hy;have:=List.not_of_lt_findIdx (xs:=ts) (p:=fun t=>decide (t.2=0)) (i:=j) (by omega);rw[bB e] at this;exact absurd this (by simp)
def hz3:pe 3=some (EW.one (.iv (di 0))):=by unfold pe;rfl
def RQ{J:Keep}(B:Base J)(L:LibI J){n:Nat}{f:List Tm}(hn:∀t∈f,t.1.length=n)(hs:∀t∈f,okG n t.1)(hq:∀t∈f,aU t.2<2^36)(hg:∀i,i<=f.length->∀o∈bO (f.take i),aU o.2<2^36)(hl:f.length<2^16)(h0:f≠[]) :
 ∃zs:List EV,zs.flatMap bv=[]/\zs.length=((bO f).length-((bO f).filter bU).length)*4/\
 LocC (XS J) 74 [ae (t8 f),ae (.fn 75),ae (.fn 72),ae (.fn 76)] [] (.w (.one (.slc 1 0 0 ((bO f).filter bU).length (.fin 4)))) [jD (ij (bO f)),.mem 140 (((bO f).filter bU).flatMap b8++zs) false [(0,(bO f).length*4)] 1]:=by
 have hGl:(bO f).length<2^20:=by have:=CO f;omega
 have hG0:bO f≠[]:=UC h0;obtain⟨zs,hz1,hz2,cD⟩:=TE J (ts:=bO f) (c:=1) hGl;refine⟨zs,hz1,hz2,?_⟩;have hcl:fR (.mem 140 (((bO f).filter bU).flatMap b8++zs) false [(0,(bO f).length*4)] 1):=by
  show(((bO f).filter bU).flatMap b8++zs).flatMap bv=[];rw[eV,gU,hz1];rfl
 refine lT Tryz.func74 rfl rfl rfl ⟨.c rfl,.c rfl,.c rfl,.c rfl,aa⟩ trivial (.inr ?_) ⟨.d qP,.d hcl,aa⟩ ?_
 . rfl
 have lf:(((f.map fun t=>tp t.1 t.2).length:Nat):Int)=(f.length:Int):=by simp
 repeat (first|(refine aG ?_)|(refine aM lf ?_;conv=>whnf))
 refine cq (G:={ t:Nat // t<=f.length }) (fun t=>uB f (bO (f.take t.1)) t.1) (fun t=>f.length-t.1) ⟨0,ba _⟩
  (Tr.tab [(1,1000)] [] ⟨.sm,.sm,.sm,.rn,.sm,.sm,.sm,.sm,aa⟩ ⟨.sm rfl rfl qP,.ph rfl,aa⟩ rfl) ?_
 rintro⟨t,ht⟩;obtain⟨os,eos⟩:∃os,bO (f.take t)=os:=⟨_,rfl⟩;show SW (XS J) _ _ _ _ (uB f (bO (f.take t)) t) _;have hgt:=hg t ht;have hkt:=Cd t ht;have hnd:=(Dq (f:=f.take t) (n:=n) fun x hx=>hn x (dY hx)).1;rw[eos] at hgt hkt hnd ⊢;by_cases h:t<f.length
 .
  have hsn:=Cc h;obtain⟨⟨p,q⟩,etm⟩:∃x,f[t]=x:=⟨_,rfl⟩;have hmem:(p,q)∈f:=by rw[<-etm];exact iw h
  rw[etm,eos] at hsn;have gv:(f.map fun t=>tp t.1 t.2)[t]?=some (tp p q):=by rw[bI,bi h,etm];rfl
  have hp:okG n p:=hs _ hmem;have hko:∀k∈ij os,okG n k:=fun k hk=>by
   obtain⟨x,hx,rfl⟩:=List.mem_map.1 hk;obtain⟨y,hy,e⟩:=hkt x hx;rw[e];exact hs y hy
  have c234:Go.Proofs.Fl.C J 75 [tp p q] (.str (b9 p)):=TI L (p:=(p,q)) hp.n60 hp.q hp.t;have ek':k8 p=.one (.iv (.str (b9 p))):=rfl;cases os with
  |nil=>
   have e5:bO (f.take (t+1))=[(p,q)]:=hsn;show SW (XS J) _ _ _ _ (aR [(1,ae (.fn 75)),(2,ae (.fn 72)),(3,ae (.fn 76)),(9,.w (.one (.mp 0))),(10,.w (.one (.iv (.nil 3)))),(17,ae (t8 f)),(18,ae (di (f.length:Int))),(19,ae (di (t:Int)))] [(0,jD []),(1,Fm [])] 2) _;repeat (first|(refine aG ?_)|((first|refine aO ?_ rfl gv|refine aD c234 ?_|refine lA (GH (n:=n) (ps:=[]) (p:=p) hz3 rfl (fun _ h=>by cases h) hp (by simp) ek') ?_|refine qy (Lv (n:=n) (ps:=[]) (p:=p) rfl (fun _ h=>by cases h) hp (by simp) ek' rfl) ?_);conv=>whnf)|(refine aJ ?_))
   refine⟨⟨t+1,by omega⟩,?_,by dsimp only;omega⟩;show Tr _ _ (uB f (bO (f.take (t+1))) (t+1));rw[e5];exact Tr.tab [(1,4)] [] ⟨.sm,.sm,.sm,.rn,.rn,.sm,.sm,.sm,aa⟩ ⟨.sm rfl rfl qP,.rn,aa⟩ rfl
  |cons o os=>
   have hol:(o::os).length<=t:=by rw[<-eos];exact bf (CO (f.take t)) (by simp;omega)
   simp only[aY] at hol;show SW (XS J) _ _ _ _ (aR [(1,ae (.fn 75)),(2,ae (.fn 72)),(3,ae (.fn 76)),(9,.w (.one (.mp 0))),(10,.w (.one (.slc 1 0 0 (os.length+1) (.fin 4)))),(17,ae (t8 f)),(18,ae (di (f.length:Int))),(19,ae (di (t:Int)))] [(0,jD (ij (o::os))),(1,.mem 140 ((o::os).flatMap b8) false [(0,(os.length+1)*4)] 1)] 2) _;by_cases hin:p∈ij (o::os)
   .
    obtain⟨m,hm⟩:=List.mem_iff_getElem?.1 hin;obtain⟨⟨p',q0⟩,hx,ex⟩:∃x,(o::os)[m]?=some x/\x.1=p:=by
     unfold ij at hm;rw[bI] at hm;cases hx:(o::os)[m]? with
     |none=>rw[hx] at hm;cases hm
     |some x=>rw[hx] at hm;exact⟨x,rfl,by simpa using hm⟩
    have ex:p'=p:=ex;subst ex;have hml:m<os.length+1:=(List.getElem?_eq_some_iff.1 hx).1;have e5:bO (f.take (t+1))=(o::os).set m (p',q0+q):=by rw[hsn];exact Hu hnd hx rfl
    have hndk:(ij (o::os)).Nodup:=by
     unfold ij List.Nodup;rw[Ot];exact hnd
    have c235:Go.Proofs.Fl.C J 72 [tp p' q0,tp p' q] (tp p' (q0+q)):=TJ B (p:=(p',q0)) (q:=(p',q)) (hgt _ (bN hx)) (hq _ hmem);repeat (first|(refine aG ?_)|((first|refine aO ?_ rfl gv|refine aD c234 ?_|refine lA (O9 (n:=n) (m:=m) hz3 rfl hko hndk hm ek') ?_|refine aD c235 ?_|refine jh (j:=m) ?_ rfl hml (a8 _)|refine cz ?_ (rq hx rfl));conv=>whnf)|(refine aJ ?_))
    refine dH ?_ (Lt (x:=(p',q0+q)) (m:=m) (os:=o::os) hml rfl rfl);conv=>whnf
    repeat((first|refine SW.R ?_|refine SW.exit ?_|refine cy ?_);conv=>whnf)
    refine⟨⟨t+1,by omega⟩,?_,by dsimp only;omega⟩;show Tr _ _ (uB f (bO (f.take (t+1))) (t+1));have e8:ij ((o::os).set m (p',q0+q))=ij (o::os):=Q6 hx;rw[e5,Ei (L:=os.length+1) (fun e=>by have:=aL List.length e;simp at this)];exact Tr.tab [] [] ⟨.sm,.sm,.sm,.rn,.rn,.sm,.sm,.sm,aa⟩ ⟨.sm rfl (by rw[e8];rfl) qP,.sm rfl rfl (gU _),aa⟩ rfl
   have e5:bO (f.take (t+1))=(o::os) ++ [(p,q)]:=by rw[hsn];exact Hv hin
   have e6:ij (o::(os ++ [(p,q)]))=ij (o::os) ++ [p]:=by unfold ij;rw[<-lC,dD];rfl
   have ekl:(((ij (o::os)).length:Nat):Int)=((os.length+1:Nat):Int):=by unfold ij;simp
   repeat (first|(refine aG ?_)|((first|refine aO ?_ rfl gv|refine aD c234 ?_|refine lA (GH (n:=n) (p:=p) hz3 rfl hko hp hin ek') ?_|refine qy (Lv (n:=n) (p:=p) rfl hko hp hin ek' ekl.symm) ?_);conv=>whnf)|(refine aJ ?_))
   refine bK (g:=4) (b:=1) (ch (p:=(os.length+1)*4) (sz:=4) rfl rfl (bn _ _) rfl (by omega) (by omega) (by omega) (by show _*80<=_;omega) rfl rfl rfl rfl rfl rfl) (by show 4<4+1;decide) ?_;conv=>whnf
   refine be ?_;refine⟨⟨t+1,by omega⟩,?_,by dsimp only;omega⟩;show Tr _ _ (uB f (bO (f.take (t+1))) (t+1));rw[e5,Ei (L:=os.length+1+1)];refine Tr.tab [] [(1,.one 1)] ⟨.sm,.sm,.sm,.rn,.rn,.sm,.sm,.sm,aa⟩ ⟨.sm rfl ?_ qP,.ver rfl rfl (gD _ _ _) (ah _) ?_ ?_ (gU _),aa⟩ rfl
   . rw[lC,e6];rfl
   . rw[iZ fun a _=>jS a];simp
   rw[ay (jL (iZ fun a _=>jS a):((o::os).flatMap b8).length<=(os.length+1)*4),eV];rfl
 have et:t=f.length:=by omega
 subst et;rw[cN] at eos;subst eos;rw[Ei hG0 rfl];show SW (XS J) _ _ _ _ (aR [(1,ae (.fn 75)),(2,ae (.fn 72)),(3,ae (.fn 76)),(9,.w (.one (.mp 0))),(10,.w (.one (.slc 1 0 0 (bO f).length (.fin 4)))),(17,ae (t8 f)),(18,ae (di (f.length:Int))),(19,ae (di (f.length:Int)))] [(0,jD (ij (bO f))),(1,iO (bO f) 1)] 2) _;refine be ?_;refine iB cD [1] 0 rfl ⟨.c rfl,.d rfl,aa⟩ ⟨.d rfl ic,aa⟩ trivial (bp (.d hcl) fS) (.c rfl) ?_;conv=>whnf
 repeat ((refine SW.ret ?_;conv=>whnf))
 exact Tr.tab [] [] ⟨.rn,aa⟩ ⟨.sm rfl rfl qP,.sm rfl rfl hcl,aa⟩ rfl
end Go.Proofs.En.Ep
namespace Go.Proofs
open Go.Shelf
def Tryz.sortPair_ren:Go.Shelf.Ren:=⟨fun|6=>77|15=>143|14=>142|28=>199|29=>200|20=>191|21=>192|22=>193|23=>194|24=>195|25=>196|26=>197|27=>198|46=>233|47=>234|48=>235|49=>236|50=>237|57=>267|n=>n,fun|22=>138|24=>140|25=>147|3=>3|39=>213|0=>0|53=>193|55=>202|4=>4|46=>259|45=>258|50=>209|5=>5|9=>9|66=>294|70=>297|76=>319|77=>320|n=>n,fun|n=>n⟩
def Tryz.sortPair:Go.Proofs.SlLaysF0.n6 Tryz.prog Tryz.sortPair_ren:={
 mixed:=by kernel_rfl
 f6:=⟨Tryz.f77.name,by decide,Tryz.func77.trans (aL some (by kernel_rfl))⟩
 f14:=⟨Tryz.f142.name,by decide,Tryz.func142.trans (aL some (by kernel_rfl))⟩
 f15:=Tryz.func143.trans (aL some (by kernel_rfl))
 f20:=⟨Tryz.f191.name,by decide,Tryz.func191.trans (aL some (by kernel_rfl))⟩
 f21:=⟨Tryz.f192.name,by decide,Tryz.func192.trans (aL some (by kernel_rfl))⟩
 f22:=⟨Tryz.f193.name,by decide,Tryz.func193.trans (aL some (by kernel_rfl))⟩
 f23:=⟨Tryz.f194.name,by decide,Tryz.func194.trans (aL some (by kernel_rfl))⟩
 f24:=⟨Tryz.f195.name,by decide,Tryz.func195.trans (aL some (by kernel_rfl))⟩
 f25:=⟨Tryz.f196.name,by decide,Tryz.func196.trans (aL some (by kernel_rfl))⟩
 f26:=⟨Tryz.f197.name,by decide,Tryz.func197.trans (aL some (by kernel_rfl))⟩
 f27:=⟨Tryz.f198.name,by decide,Tryz.func198.trans (aL some (by kernel_rfl))⟩
 f28:=Tryz.func199.trans (aL some (by kernel_rfl))
 f29:=Tryz.func200.trans (aL some (by kernel_rfl))
 f46:=⟨Tryz.f233.name,by decide,Tryz.func233.trans (aL some (by kernel_rfl))⟩
 f47:=Tryz.func234.trans (aL some (by kernel_rfl))
 f48:=Tryz.func235.trans (aL some (by kernel_rfl))
 f49:=⟨Tryz.f236.name,by decide,Tryz.func236.trans (aL some (by kernel_rfl))⟩
 f50:=⟨Tryz.f237.name,by decide,Tryz.func237.trans (aL some (by kernel_rfl))⟩
 f57:=⟨Tryz.f267.name,by decide,Tryz.func267.trans (aL some (by kernel_rfl))⟩
 t0:=Tryz.underlying0
 a0:=Tryz.isAgg0
 z0:=Tryz.sizeOf0
 v0:=Tryz.zeroValue0
 t3:=Tryz.underlying3
 a3:=Tryz.isAgg3
 z3:=Tryz.sizeOf3
 v3:=Tryz.zeroValue3
 t4:=Tryz.underlying4
 a4:=Tryz.isAgg4
 z4:=Tryz.sizeOf4
 v4:=Tryz.zeroValue4
 t5:=Tryz.underlying5
 a5:=Tryz.isAgg5
 z5:=Tryz.sizeOf5
 v5:=Tryz.zeroValue5
 t9:=Tryz.underlying9
 a9:=Tryz.isAgg9
 z9:=Tryz.sizeOf9
 v9:=Tryz.zeroValue9
 t22:=Tryz.underlying138
 a22:=Tryz.isAgg138
 z22:=Tryz.sizeOf138
 v22:=Tryz.zeroValue138
 t25:=Tryz.underlying147
 a25:=Tryz.isAgg147
 z25:=Tryz.sizeOf147
 v25:=Tryz.zeroValue147
 t39:=Tryz.underlying213
 a39:=Tryz.isAgg213
 z39:=Tryz.sizeOf213
 v39:=Tryz.zeroValue213
 t45:=Tryz.underlying258
 a45:=Tryz.isAgg258
 z45:=Tryz.sizeOf258
 v45:=Tryz.zeroValue258
 t46:=Tryz.underlying259
 a46:=Tryz.isAgg259
 z46:=Tryz.sizeOf259
 v46:=Tryz.zeroValue259
 t50:=Tryz.underlying209
 a50:=Tryz.isAgg209
 z50:=Tryz.sizeOf209
 v50:=Tryz.zeroValue209
 t53:=Tryz.underlying193
 a53:=Tryz.isAgg193
 z53:=Tryz.sizeOf193
 v53:=Tryz.zeroValue193
 t55:=Tryz.underlying202
 a55:=Tryz.isAgg202
 z55:=Tryz.sizeOf202
 v55:=Tryz.zeroValue202
 t66:=Tryz.underlying294
 a66:=Tryz.isAgg294
 z66:=Tryz.sizeOf294
 v66:=Tryz.zeroValue294
 t70:=Tryz.underlying297
 a70:=Tryz.isAgg297
 z70:=Tryz.sizeOf297
 v70:=Tryz.zeroValue297
 t76:=Tryz.underlying319
 a76:=Tryz.isAgg319
 z76:=Tryz.sizeOf319
 v76:=Tryz.zeroValue319
 t77:=Tryz.underlying320
 a77:=Tryz.isAgg320
 z77:=Tryz.sizeOf320
 v77:=Tryz.zeroValue320 }
end Go.Proofs
namespace Go.Proofs.En.Ep
open Go.RowKit Go.Proofs.Fl Go.Proofs.Dig
attribute [local irreducible] IntKind.wrap aW bc bj bm SW c7 CallOk To Tr ct
open Go.Proofs.Pt
open Go.Sort
def OW(J:Keep){n:Nat}{ts g:List Pt.Tm}(hs:∀t∈ts,okG n t.1)(h0:ts≠[])(hl:ts.length<2^60)(hp:g.Perm ts)(hg:Pt.Srt g){cap:Cap}{cnt:Nat} :
 CallOk (XS J) 77 [.w (.one (.slc 0 0 0 ts.length cap)),ae (.fn 78)] (gt [iO ts cnt]) (.tup []) (gt [iO g cnt]):=by
 have hn:∀t∈ts,t.1.length=n:=fun t ht=>(hs t ht).l;have e1:(List.finRange ts.length).map (fun i=>ts.get i)=ts:=by
  apply List.ext_getElem<;>simp
 obtain⟨ord,h1,h2⟩:=RW (f:=fun i=>ts.get i) hp.symm (l:=List.finRange ts.length) e1.symm;have hget:∀i:Fin ts.length,ts.get i∈ts:=fun i=>List.get_mem _ _;have hgl:g.length=ts.length:=hp.length_eq;have key:=Qt (X:=XS J) (f:=77) (g:=78) (k:=4) (n:=ts.length) (e:=140) (by omega) (List.length_pos_iff.2 h0) (by omega) Tryz.sortPair rfl ⟨_,Tryz.func77,rfl,rfl⟩ Tryz.isAgg140 Tryz.sizeOf140
  (enters_of Tryz.func78 (by kernel_rfl) rfl) (rows:=fun i=>b8 (ts.get i)) (fun i=>rfl) (xs:=fun i=>lj (ts.get i))
  (fun H U vs i h=>by
    obtain⟨a,b⟩:=vU (cs:=.sl ((ts.get i).1.map qr)::(qr (ts.get i).2).cells) h;exact .agg vs _ a b)
  (cf:=fun i j=>befI (ts.get i).1 (ts.get j).1) (fun i j=>TH J ((hn _ (hget i)).trans (hn _ (hget j)).symm) (hs _ (hget i)).n60 (fun x hx=>by have:=(hs _ (hget i)).q x hx;omega) (fun x hx=>by have:=(hs _ (hget j)).q x hx;omega))
  ?_ h1 ?_ ?_ (cap:=cap) (cnt:=cnt)
 .
  have e2:(List.finRange ts.length).flatMap (fun i=>b8 (ts.get i))=ts.flatMap b8:=by
   conv=>rhs;rw[<-e1,Bi]
  have e3:ord.flatMap (fun i=>b8 (ts.get i))=g.flatMap b8:=by rw[<-h2,Bi]
  rw[e2,e3] at key;unfold iO;rw[hgl];exact key
 .
  have lt:∀x y:Fin ts.length,ltOf (fun i j=>befI (ts.get i).1 (ts.get j).1) x y=decide (Pt.befI (ts.get x).1 (ts.get y).1 = -1):=fun x y=>by
   show decide (befI (ts.get x).1 (ts.get y).1<0)=_
   skip
   rcases Pt.befI_vals (ts.get x).1 (ts.get y).1 with h|h|h<;>rw[h]<;>rfl
  have len:∀x y:Fin ts.length,(ts.get x).1.length=(ts.get y).1.length:=fun x y=>(hn _ (hget x)).trans (hn _ (hget y)).symm;refine⟨fun x=>?_,fun x y z h k=>?_,fun x y z h k=>?_⟩
  . rw[lt,Pt.befI_self];rfl
  . rw[lt] at h k ⊢;exact bB (Pt.befI_trans (len x y) (len y z) (mP h) (mP k))
  rw[lt] at h k ⊢;refine bE fun hxz=>?_;have h:=sw h;have k:=sw k;rcases Pt.befI_vals (ts.get x).1 (ts.get y).1 with e|e|e
  . exact h e
  . rw[Pt.befI_zero (len x y) e] at hxz;exact k hxz
  have e4:=Pt.befI_swap (ts.get x).1 (ts.get y).1;rw[e] at e4;exact k (Pt.befI_trans (len y x) (len x z) e4 hxz)
 . have h3:(ord.map fun i=>ts.get i).Pairwise fun a b=>Pt.befI a.1 b.1 = -1:=by rw[h2];exact hg
   rw[Ot] at h3;refine h3.imp fun{i j} h=>?_;rw[h];decide
 intro i j hij;have hnd:Pt.KeysNd ts:=(hp.pairwise_iff (R:=fun a b:Pt.Tm=>a.1≠b.1) (fun h=>lE h)).1 (hg.imp fun{a b} h e=>by rw[e,Pt.befI_self] at h;cases h);have hne:(ts.get i).1≠(ts.get j).1:=by
  have:=List.pairwise_iff_getElem.1 hnd;rcases Nat.lt_trichotomy i.1 j.1 with h|h|h
  . exact this i.1 j.1 i.2 j.2 h
  . exact absurd (Fin.ext h) hij
  exact lE (this j.1 i.1 j.2 i.2 h)
 rw[Pt.befI_swap (ts.get i).1 (ts.get j).1];rcases Pt.befI_vals (ts.get i).1 (ts.get j).1 with e|e|e
 . left;omega
 . exact absurd (Pt.befI_zero ((hn _ (hget i)).trans (hn _ (hget j)).symm) e) hne
 right;omega
def Pn(J:Keep){n:Nat}{ts g:List Tm}(hs:∀t∈ts,okG n t.1)(h0:ts≠[])(hl:ts.length<2^60)(hp:g.Perm ts)(hg:Srt g){cap:Cap}{cnt:Nat} :
 LocC (XS J) 77 [.w (.one (.slc 0 0 0 ts.length cap)),ae (.fn 78)] [iO ts cnt] (.tup []) [iO g cnt] where
 call:=OW J hs h0 hl hp hg
 le:=ah _
 a i hi:=by
  have:i=0:=by simpa[fP,eM,bv,ae] using hi
  subst this;exact Nat.one_pos
 z o ho:=by
  rw[fg] at ho;subst ho;exact⟨(fun e=>by cases e),rfl,x5 ic⟩
 r i hi:=by cases hi
 z' o ho:=by
  rw[fg] at ho;subst ho;exact⟨rfl,x5 ic⟩
def VU(J:Keep){cs:List EV}{vs:List (Nat×Nat)}{c:Nat}{cap:Cap}(hc:cs.flatMap bv=[]):LocC (XS J) 191 [.w (.one (.slc 0 0 0 0 cap)),ae (di 0),ae (di 0),ae (.fn 78)] [.mem 140 cs false vs c] (.tup []) [.mem 140 cs false vs c]:=by
 refine lT Tryz.func191 rfl rfl rfl ⟨.c rfl,.c rfl,.c rfl,.c rfl,aa⟩ ⟨.d hc,aa⟩ (.inr rfl) ⟨.d hc,aa⟩ ?_;repeat (first|((first|refine SW.RS ?_|refine cy ?_);conv=>whnf)|(refine SW.block ?_))
 refine cq (G:=Unit) (fun _=>aR [(2,ae (di 0)),(8,ae (di 1))] [(0,.mem 140 cs false vs c)] 1) (fun _=>0) ()
  (Tr.tab [] [] ⟨.sm,.sm,aa⟩ ⟨.sm rfl rfl hc,aa⟩ rfl) ?_
 rintro⟨⟩;refine be ?_;exact Tr.tab [] [] ⟨.sm,aa⟩ ⟨.sm rfl rfl hc,aa⟩ rfl
def VY(J:Keep){cs:List EV}{vs:List (Nat×Nat)}{c:Nat}{cap:Cap}(hc:cs.flatMap bv=[]):LocC (XS J) 142 [.w (.one (.slc 0 0 0 0 cap)),ae (di 0),ae (di 0),ae (di 0),ae (.fn 78)] [.mem 140 cs false vs c] (.tup []) [.mem 140 cs false vs c]:=by
 refine lT Tryz.func142 rfl rfl rfl ⟨.c rfl,.c rfl,.c rfl,.c rfl,.c rfl,aa⟩ ⟨.d hc,aa⟩ (.inr rfl) ⟨.d hc,aa⟩ ?_;have c1:=VU J (cap:=cap) (vs:=vs) (c:=c) hc;repeat (first|(refine SW.RS ?_;conv=>whnf)|(refine SW.block ?_))
 refine cq (G:=Unit) (fun _=>aR [(0,.w (.one (.slc 0 0 0 0 cap))),(1,ae (di 0)),(2,ae (di 0)),(4,ae (.fn 78))] [(0,.mem 140 cs false vs c)] 1) (fun _=>0) ()
  (Tr.tab [] [] ⟨.rn,.sm,.sm,.sm,aa⟩ ⟨.sm rfl rfl hc,aa⟩ rfl) ?_
 rintro⟨⟩;refine be ?_;refine iB c1 [0] 0 rfl ⟨.c rfl,.d rfl,.d rfl,.d rfl,aa⟩ ⟨.d rfl hc,aa⟩ trivial (bp (.d hc) fS) (.d rfl) ?_;conv=>whnf
 repeat ((refine SW.ret ?_;conv=>whnf))
 exact Tr.tab [] [] ⟨.sm,aa⟩ ⟨.sm rfl rfl hc,aa⟩ rfl
def V3(J:Keep){cs:List EV}{vs:List (Nat×Nat)}{c:Nat}{cap:Cap}(hc:cs.flatMap bv=[]):LocC (XS J) 77 [.w (.one (.slc 0 0 0 0 cap)),ae (.fn 78)] [.mem 140 cs false vs c] (.tup []) [.mem 140 cs false vs c]:=by
 refine lT Tryz.func77 rfl rfl rfl ⟨.c rfl,.c rfl,aa⟩ ⟨.d hc,aa⟩ (.inr rfl) ⟨.d hc,aa⟩ ?_;have c1:=VY J (cap:=cap) (vs:=vs) (c:=c) hc;have c2:Go.Proofs.Fl.C J 143 [.int .u64 ((0:Nat):Int)] (.int .i64 0):=Mc J;repeat (first|(refine aG ?_)|((first|refine aD c2 ?_|refine aM (fa) ?_|refine aM rfl ?_);conv=>whnf))
 refine iB c1 [0] 0 rfl ⟨.c rfl,.d rfl,.d rfl,.d rfl,.d rfl,aa⟩ ⟨.d rfl hc,aa⟩ trivial (bp (.d hc) fS) (.d rfl) ?_;conv=>whnf
 skip
 exact Tr.tab [] [] ⟨.sm,aa⟩ ⟨.sm rfl rfl hc,aa⟩ rfl
def VV(J:Keep):Go.Proofs.Fl.C J 190 [.nil 3,.fn 76] (.int .i64 (-1)):=by
 refine pS Tryz.func190 rfl rfl rfl rfl rfl ?_;refine be ?_;refine cq (G:=Unit) (fun _=>aR [(7,ae (di 0)),(8,ae (di 0))] [] 0) (fun _=>0) () (Tr.tab [] [] ⟨.sm,.sm,aa⟩ trivial rfl) ?_;rintro⟨⟩;refine be ?_;rfl
def VZ(J:Keep):Go.Proofs.Fl.C J 141 [.nil 3,.fn 76] (.nil 3):=by
 refine pS Tryz.func141 rfl rfl rfl rfl rfl ?_;repeat (first|(refine aG ?_)|((first|refine aD (VV J) ?_|refine yT ?_);conv=>whnf))
 rfl
def V4(J:Keep):Go.Proofs.Fl.C J 74 [.nil 3,.fn 75,.fn 72,.fn 76] (.nil 3):=by
 refine pS Tryz.func74 rfl rfl rfl rfl rfl ?_;refine be ?_;refine cq (G:=Unit) (fun _=>aR [(3,ae (.fn 76)),(10,.w (.one (.iv (.nil 3)))),(18,ae (di 0)),(19,ae (di 0))] [] 0) (fun _=>0) () (Tr.tab [] [] ⟨.sm,.sm,.sm,.sm,aa⟩ trivial rfl) ?_;rintro⟨⟩;repeat (first|(refine aG ?_)|((first|refine aD (VZ J) ?_|refine yF ?_);conv=>whnf))
 rfl
def VT(J:Keep):Go.Proofs.Fl.C J 191 [.nil 3,.int .i64 0,.int .i64 0,.fn 78] (.tup []):=by
 refine pS Tryz.func191 rfl rfl rfl rfl rfl ?_;repeat (first|((first|refine SW.RS ?_|refine cy ?_);conv=>whnf)|(refine SW.block ?_))
 refine cq (G:=Unit) (fun _=>aR [(2,ae (di 0)),(8,ae (di 1))] [] 0) (fun _=>0) () (Tr.tab [] [] ⟨.sm,.sm,aa⟩ trivial rfl) ?_;rintro⟨⟩;refine be ?_;rfl
def VX(J:Keep):Go.Proofs.Fl.C J 142 [.nil 3,.int .i64 0,.int .i64 0,.int .i64 0,.fn 78] (.tup []):=by
 refine pS Tryz.func142 rfl rfl rfl rfl rfl ?_;repeat (first|(refine SW.RS ?_;conv=>whnf)|(refine SW.block ?_))
 refine cq (G:=Unit) (fun _=>aR [(0,.w (.one (.iv (.nil 3)))),(1,ae (di 0)),(2,ae (di 0)),(4,ae (.fn 78))] [] 0) (fun _=>0) () (Tr.tab [] [] ⟨.sm,.sm,.sm,.sm,aa⟩ trivial rfl) ?_;rintro⟨⟩;repeat (first|(refine aG ?_)|(refine aD (VT J) ?_;conv=>whnf)|(refine aJ ?_))
 rfl
def V0(J:Keep):Go.Proofs.Fl.C J 77 [.nil 3,.fn 78] (.tup []):=by
 refine pS Tryz.func77 rfl rfl rfl rfl rfl ?_;have c2:Go.Proofs.Fl.C J 143 [.int .u64 0] (.int .i64 0):=Mc J;repeat (first|(refine aG ?_)|((first|refine aD c2 ?_|refine aD (VX J) ?_|refine aM (fa) ?_);conv=>whnf))
 rfl
end Go.Proofs.En.Ep
namespace Go.Proofs.En.Ep
open Go.RowKit Go.Proofs.Fl Go.Proofs.Dig
attribute [local irreducible] IntKind.wrap aW bc bj bm SW c7 CallOk To Tr ct
open Go.Proofs.Pt
open Go.Proofs.Reg (Cl)
def JG:∀ts:List Tm,ts.flatMap b8=((ts.map fun t=>tp t.1 t.2).flatMap IV.cells).map .iv
 | []=>rfl
 |x::l=>by rw[cO,aZ,cO,dD,JG l];rfl
def Ms:∀ts:List Tm,b7 4 (ts.map fun t=>tp t.1 t.2)=true
 | []=>rfl
 |x::l=>by
  have:=Ms l;unfold b7 at this ⊢;rw[aZ,dl,this];rfl
def YC:List Tm->EV
 | []=>.iv (.nil 3)
 |_::l=>.slc 2 0 0 (l.length+1) (.fin 4)
noncomputable def sa(n:Int)(c os:List Tm)(t:Nat):SS:=aR [(1,.w (.one (.ptr 0 0 0))),(2,.w (.one (.ptr 1 0 0))),(3,.w (.one (YC os))),(11,ae (.sl ((c.map fun x=>x.1.map qr).map IV.sl))),(12,ae (di (c.length:Int))),(13,ae (di (t:Int)))]
 [(0,ug n c),(1,ks),(2,Fm os)] 3
noncomputable def uw(n:Int)(K acc:List Tm)(L t:Nat):SS:=aR [(2,.w (.one (.ptr 1 0 0))),(7,.w (.one (.ptr 3 0 0))),(37,.w (.one (.slc 2 0 0 L (.fin 4)))),(38,ae (di (L:Int))),(39,ae (di (t:Int)))]
 [(1,ks),(2,.mem 140 (K.flatMap b8) false [(0,L*4)] 1),(3,wZ n acc),(4,uq acc),(5,uo acc)] 6
structure MgOk(N:Nat)(c:List Tm):Prop where
 s:∀x∈c,okG N x.1
 n1:1<=N
 n2:N<2^16
 q:∀x∈c,aU x.2<2^36
 g:∀i,i<=c.length->∀o∈bO (c.take i),aU o.2<2^36
 l:c.length<2^16
def r35_ok{J:Keep}(B:Base J)(L:LibI J){N:Nat}{n:Int}{c:List Tm}(hc:MgOk N c):Go.Proofs.Fl.C J 35 [eO n c] (eO n (fw c)):=by
 obtain⟨hs,hN,hN2,hq,hg,hl⟩:=hc;have hn:∀t∈c,t.1.length=N:=fun t ht=>(hs t ht).l;refine lk Tryz.func35 rfl rfl rfl rfl 3 ?_;have la:((((c.map fun x=>x.1.map qr).map IV.sl).length:Nat):Int)=(c.length:Int):=by simp
 unfold eO jl;repeat (first|(refine aG ?_)|(refine aM la ?_;conv=>whnf)|(refine aJ ?_))
 refine cq (G:={ t:Nat // t<=c.length }) (fun t=>sa n c (c.take t.1) t.1) (fun t=>c.length-t.1) ⟨0,ba _⟩
  (Tr.tab [(2,1000)] [] ⟨.rn,.rn,.sm,.sm,.sm,.sm,aa⟩ ⟨.sm,.sm,.ph rfl,aa⟩ rfl) ?_
 rintro⟨t,ht⟩;obtain⟨os,hos⟩:∃c',c.take t=c':=⟨_,rfl⟩;show SW (XS J) _ _ _ _ (sa n c (c.take t) t) _;rw[hos];have hol:os.length=t:=by rw[<-hos,bG];omega
 by_cases h:t<c.length
 .
  obtain⟨⟨p,q⟩,hx⟩:∃x,c[t]?=some x:=⟨_,bi h⟩;have gp:((c.map fun x=>x.1.map qr).map IV.sl)[t]?=some (.sl (p.map qr)):=by rw[bI,bI,hx];rfl
  have gv:(c.map fun x=>qr x.2)[t]?=some (qr q):=by rw[bI,hx];rfl
  have hnew:c.take (t+1)=os ++ [(p,q)]:=by rw[dO,hx,hos];rfl
  unfold sa;cases os with
  |nil=>
   repeat (first|(refine aG ?_)|((first|refine aO (j:=t) ?_ rfl gp|refine aO (j:=t) ?_ rfl gv);conv=>whnf)|(refine aJ ?_))
   refine⟨⟨t+1,h⟩,?_,by dsimp only;omega⟩;show Tr _ _ (sa n c (c.take (t+1)) (t+1));rw[hnew];exact Tr.tab [(2,4)] [] ⟨.rn,.rn,.rn,.sm,.sm,.sm,aa⟩ ⟨.sm,.sm,.sm,aa⟩ rfl
  |cons o os=>
   simp only[aY] at hol;repeat (first|(refine aG ?_)|((first|refine aO (j:=t) ?_ rfl gp|refine aO (j:=t) ?_ rfl gv);conv=>whnf)|(refine aJ ?_))
   refine bK (g:=4) (b:=1) (ch (p:=(os.length+1)*4) (sz:=4) rfl rfl (bn _ _) rfl (by omega) (by omega) (by omega) (by show _*80<=_;omega) rfl rfl rfl rfl rfl rfl) (by show 4<4+1;decide) ?_;conv=>whnf
   refine be ?_;refine⟨⟨t+1,h⟩,?_,by dsimp only;omega⟩;show Tr _ _ (sa n c (c.take (t+1)) (t+1));have el:(os ++ [(p,q)]).length=os.length+1:=by simp
   rw[hnew];refine Tr.tab [] [(2,.one 1)] ⟨.rn,.rn,.rn ?_ rfl,.sm,.sm,.sm,aa⟩ ⟨.sm,.sm,?_,aa⟩ rfl
   . show ES.w (.one (.slc 2 0 0 (os.length+1+1) (.fin 4)))=.w (.one (.slc 2 0 0 ((os ++ [(p,q)]).length+1) (.fin 4)));rw[el]
   have e3:(o::(os ++ [(p,q)])).length=os.length+1+1:=by rw[aY,el]
   show BoxT _ _ _ 2 _ (.mem 140 ((o::(os ++ [(p,q)])).flatMap b8) false [(0,(o::(os ++ [(p,q)])).length*4)] 1);rw[e3];refine .ver rfl rfl (gD _ _ _) (ah _) ?_ ?_ (gU _)
   . rw[iZ fun a _=>jS a,e3];exact ah _
   rw[ay (jL (iZ fun a _=>jS a):((o::os).flatMap b8).length<=(os.length+1)*4),<-lC,eV];rfl
 have et:t=c.length:=by omega
 subst et;rw[cN] at hos;by_cases h0:c=[]
 . subst h0;subst hos;unfold sa;repeat (first|(refine aG ?_)|((first|refine aD (V4 J) ?_|refine aD (V0 J) ?_);conv=>whnf)|(refine aJ ?_))
   refine cq (G:=Unit) (fun _=>aR [(2,.w (.one (.ptr 1 0 0))),(7,.w (.one (.ptr 3 0 0))),(38,ae (di 0)),(39,ae (di 0))] [(1,ks),(3,wZ n [])] 4) (fun _=>0) () (Tr.tab [] [] ⟨.rn,.rn,.sm,.sm,aa⟩ ⟨.sm,.sm,aa⟩ rfl) ?_;rintro⟨⟩;refine be ?_;rfl
 obtain⟨hpm,hsr⟩:=Ro hn;obtain⟨zs,hz1,hz2,cG⟩:=RQ B L hn hs hq hg hl h0;have hkeys:=Cd (f:=c) c.length (ah _);rw[cN] at hkeys;obtain⟨K,hK⟩:∃K,(bO c).filter bU=K:=⟨_,rfl⟩;have hpm:(fw c).Perm K:=by rw[<-hK];exact hpm
 have hKg:K.length<=(bO c).length:=by rw[<-hK];exact xo _ _
 have hKm:∀t∈K,∃y∈c,t.1=y.1:=fun t ht=>hkeys t (List.mem_filter.1 (by rw[hK];exact ht:t∈(bO c).filter bU)).1;have hGl:=CO c;rw[hK] at cG hz2;have hcl:fR (.mem 140 (K.flatMap b8++zs) false [(0,(bO c).length*4)] 1):=by
  show(K.flatMap b8++zs).flatMap bv=[];rw[eV,gU,hz1];rfl
 cases c with
 |nil=>exact absurd rfl h0
 |cons x0 c0=>
  subst hos;unfold sa;refine be ?_;refine BJ cG (g:=2) (u:=0) (n:=c0.length+1) (es:=(x0::c0).map fun t=>tp t.1 t.2) (fq 4 rfl (bn _ _) (by simp) (Ms _) (ah _) (by rw[<-JG];exact ay (jL (iZ fun a _=>jS a)))) (.fz _ (.sm _ (.sm _ (.sm _ .nil)))) [3,4] 2 rfl ⟨.d rfl,.d rfl,.d rfl,.d rfl,aa⟩ trivial ⟨rfl,rfl,aa⟩ (bp (.d qP) (bp (.d hcl) fS)) (.c rfl) ?_;conv=>whnf
  obtain⟨G,hG⟩:∃G,fw (x0::c0)=G:=⟨_,rfl⟩;obtain⟨M,hM⟩:∃M,K.length=M:=⟨_,rfl⟩;rw[hG] at hpm hsr ⊢;have hGM:G.length=M:=hpm.length_eq.trans hM;have hcG:∀t∈G,okG N t.1:=fun t ht=>by
   obtain⟨y,hy,e⟩:=hKm t (hpm.mem_iff.1 ht);rw[e];exact hs y hy
  have hMl:M<2^16:=by omega
  have cS:LocC (XS J) 77 [.w (.one (.slc 0 0 0 M (.fin 4))),ae (.fn 78)] [.mem 140 (K.flatMap b8) false [(0,M*4)] 1] (.tup []) [.mem 140 (G.flatMap b8) false [(0,M*4)] 1]:=by
   by_cases hK0:K=[]
   . subst hK0;have hM0:M=0:=hM.symm;subst hM0;have:G=[]:=List.length_eq_zero_iff.1 hGM;subst this;exact V3 J (cs:=[]) (vs:=[(0,0)]) (c:=1) (cap:=.fin 4) rfl
   have:=Pn J (n:=N) (ts:=K) (g:=G) (cap:=.fin 4) (cnt:=1) (fun t ht=>hcG t (hpm.mem_iff.2 ht)) hK0 (by omega) hpm hsr;unfold iO at this;rw[hM,hGM] at this;exact this
  rw[hM];refine SW.tr (s':=aR [(1,.w (.one (.ptr 0 0 0))),(2,.w (.one (.ptr 1 0 0))),(3,.w (.one (.slc 2 0 0 M (.fin 4))))] [(0,ug n (x0::c0)),(1,ks),(2,.mem 140 (K.flatMap b8) false [(0,M*4)] 1)] 3)
   (Tr.tab [(2,4)] [] ⟨.rn,.rn,.rn,aa⟩ ⟨.sm,.sm,.drop (pm:=M*4) rfl rfl (fun q hq=>by
     rw[fg] at hq;subst hq;exact⟨ah _,_,qH ..,cL 4 (by omega)⟩) (by rw[iZ fun a _=>jS a,hM];exact ah _) (by rw[jJ (by rw[iZ fun a _=>jS a,hM];exact ah _)]) (gU K),aa⟩ rfl) ?_
  repeat ((refine SW.RS ?_;conv=>whnf))
  refine iB cS [2] 0 rfl ⟨.c rfl,.d rfl,aa⟩ ⟨.d rfl (gU K),aa⟩ trivial (bp (.d (gU G)) fS) (.d rfl) ?_;conv=>whnf
  refine be ?_;refine cq (G:={ t:Nat // t<=M }) (fun t=>uw n G (G.take t.1) M t.1) (fun t=>M-t.1) ⟨0,ba _⟩
   (Tr.tab [(4,1000),(5,1001)] [] ⟨.rn,.rn,.rn,.sm,.sm,aa⟩ ⟨.sm,.sm rfl rfl (gU G),.sm,.ph rfl,.ph rfl,aa⟩ rfl) ?_
  rintro⟨t,ht⟩;obtain⟨acc,hacc⟩:∃c',G.take t=c':=⟨_,rfl⟩;show SW (XS J) _ _ _ _ (uw n G (G.take t) M t) _;rw[hacc];have hal:acc.length=t:=by rw[<-hacc,bG];omega
  by_cases h:t<M
  .
   obtain⟨⟨p,q⟩,hx⟩:∃x,G[t]?=some x:=⟨_,bi (by omega)⟩;have hp:=hcG _ (bN hx);have hpl:p.length=N:=hp.l;have c1:=VG J (p:=p) (by omega) (by omega);have hnew:G.take (t+1)=acc ++ [(p,q)]:=by rw[dO,hx,hacc];rfl
   unfold uw;cases acc with
   |nil=>
    repeat (first|(refine aG ?_)|((first|refine aD c1 ?_|refine jh (j:=t) ?_ rfl h (a8 _)|refine cz ?_ (rq hx (by rw[hGM])));conv=>whnf)|(refine aJ ?_))
    refine⟨⟨t+1,h⟩,?_,by dsimp only;omega⟩;show Tr _ _ (uw n G (G.take (t+1)) M (t+1));rw[hnew];exact Tr.tab [(4,8),(5,10)] [] ⟨.rn,.rn,.rn,.sm,.sm,aa⟩ ⟨.sm,.sm rfl rfl (gU G),.rn,.sm,.sm,aa⟩ rfl
   |cons z l=>
    simp only[aY] at hal;have el:(l ++ [(p,q)]).length=l.length+1:=by simp
    have qlen:(qC (bt (z::l))).length=(l.length+1)*3:=by rw[gW,aV];rfl
    repeat (first|(refine aG ?_)|((first|refine aD c1 ?_|refine jh (j:=t) ?_ rfl h (a8 _)|refine cz ?_ (rq hx (by rw[hGM])));conv=>whnf)|(refine aJ ?_))
    refine bK (g:=8) (b:=1) (ch (p:=l.length+1) (sz:=1) rfl rfl (bn _ _) rfl (by omega) (by omega) (by omega) (by show _*24<=_;omega) rfl rfl rfl rfl rfl rfl) (by show 8<8+1;decide) ?_;conv=>whnf
    refine be ?_;refine bK (g:=10) (b:=1) (ch (p:=(l.length+1)*3) (sz:=3) rfl rfl (bn _ _) rfl (by omega) (by omega) (by omega) (by show _*56<=_;omega) rfl rfl rfl rfl rfl rfl) (by show 10<10+1;decide) ?_;conv=>whnf
    refine be ?_;refine⟨⟨t+1,h⟩,?_,by dsimp only;omega⟩;show Tr _ _ (uw n G (G.take (t+1)) M (t+1));rw[hnew];refine Tr.tab [] [(4,.one 1),(5,.one 1)] ⟨.rn,.rn,.rn,.sm,.sm,aa⟩ ⟨.sm,.sm rfl rfl (gU G),.rn rfl rfl ?_ rfl,.ver rfl rfl (gD _ _ _) ?_ ?_ ?_ ?_,.ver rfl rfl (gD _ _ _) ?_ ?_ ?_ ?_,aa⟩ rfl
    . show EO.mem 29 [.iv (di n),.slc 4 0 0 (l.length+1+1) (.fin 1),.slc 5 0 0 (l.length+1+1) (.fin 3)] false [(0,3)] 1=.mem 29 [.iv (di n),.slc 4 0 0 ((l ++ [(p,q)]).length+1) (.fin 1),.slc 5 0 0 ((l ++ [(p,q)]).length+1) (.fin 3)] false [(0,3)] 1;rw[el]
    . show(l ++ [(p,q)]).length+1<=_;rw[el];omega
    . show(l ++ [(p,q)]).length+1<=(eJ ((z::l) ++ [(p,q)])).length;rw[n0];simp
    . show((eJ (z::l)).take ((l.length+1)*1) ++ [EV.iv (IV.sl (p.map qr))]).take _=(eJ ((z::l) ++ [(p,q)])).take _;rw[ay (i:=(l.length+1)*1) (by rw[n0,eB];exact ah _),Dj];rfl
    . exact ve _
    . show((l ++ [(p,q)]).length+1)*3<=_;rw[el];omega
    . show((l ++ [(p,q)]).length+1)*3<=(qC (bt ((z::l) ++ [(p,q)]))).length;rw[gW];simp
    . show((qC (bt (z::l))).take ((l.length+1)*3)++(qr q).cells.map EV.iv).take _=(qC (bt ((z::l) ++ [(p,q)]))).take _;rw[ay (i:=(l.length+1)*3) (by rw[qlen];exact ah _),show bt ((z::l) ++ [(p,q)])=bt (z::l) ++ [q] by simp[bt],tD];congr 1
    exact kG _
  have e:t=M:=by omega
  subst e;have e2:acc=G:=by rw[<-hacc];exact ay (by omega)
  subst e2;unfold uw;cases acc with
  |nil=>
   refine be ?_;rfl
  |cons z l=>
   refine be ?_;exact K9 rfl rfl
end Go.Proofs.En.Ep
namespace Go.Proofs.En
open Go.RowKit Go.Proofs.Fl Go.Proofs.Dig
attribute [local irreducible] IntKind.wrap aW bc bj bm SW c7 CallOk To Tr ct
open Go.Proofs.Reg
open Go.Proofs.Pt
noncomputable def qi:IV:=.agg [.int .i64 0,.sl [],.sl []]
def VK(J:Keep){l:List Cg}{n q:Int}(hl:l.length<2^50)(hf:∀c∈l,c.2.1.length<2^60)(hb:l=[]\/l.any iP=true):Go.Proofs.Fl.C J 7 [.sl (l.map iu),.int .i64 n,.int .i64 q] (.tup [qi,.int .i64 2]):=by
 have c1:=Fl.D5 J hl hf;have la:(((l.map iu).length:Nat):Int)=(l.length:Int):=by simp
 refine lk Tryz.func7 rfl rfl rfl rfl 3 ?_;by_cases h0:l=[]
 . subst h0;repeat (first|(refine aG ?_)|(refine cY ?_;conv=>whnf)|(refine aJ ?_))
   rfl
 have h1:=hb.resolve_left h0;have hpos:=List.length_pos_iff.2 h0;rw[h1] at c1;repeat (first|(refine aG ?_)|((first|refine dX ?_|refine aM la ?_|refine aD c1 ?_);conv=>whnf)|(refine aJ ?_))
 rfl
def VI(J:Keep){l:List Cg}{n q:Int}(hl:l.length<2^50)(hf:∀c∈l,c.2.1.length<2^60)(h0:l≠[])(hb:l.any iP=false)(hq : -9223372036854775808<=q/\q<=9223372036854775807)(hr:¬(1<=n/\n<=4/\n<=q/\q+1<=n+l.length)):Go.Proofs.Fl.C J 7 [.sl (l.map iu),.int .i64 n,.int .i64 q] (.tup [qi,.int .i64 3]):=by
 have c1:=Fl.D5 J hl hf;have c2:=Fl.De J n;have la:(((l.map iu).length:Nat):Int)=(l.length:Int):=by simp
 have hpos:=List.length_pos_iff.2 h0;rw[hb] at c1;refine lk Tryz.func7 rfl rfl rfl rfl 3 ?_;by_cases h1:1<=n/\n<=4
 .
  rw[bB h1] at c2;by_cases h2:q<n
  . repeat (first|(refine aG ?_)|((first|refine cY ?_|refine dX ?_|refine aM la ?_|refine aD c1 ?_|refine aD c2 ?_);conv=>whnf)|(refine aJ ?_))
    rfl
  have h3:q-n>=l.length:=by omega
  repeat (first|(refine aG ?_)|((first|refine cY ?_|refine dX ?_|refine aM la ?_|refine aD c1 ?_|refine aD c2 ?_);conv=>whnf)|(refine aJ ?_))
  rfl
 rw[bE h1] at c2;repeat (first|(refine aG ?_)|((first|refine cY ?_|refine dX ?_|refine aM la ?_|refine aD c1 ?_|refine aD c2 ?_);conv=>whnf)|(refine aJ ?_))
 rfl
end Go.Proofs.En
namespace Go.Proofs.En
open Go.RowKit Go.Proofs.Fl Go.Proofs.Dig
attribute [local irreducible] IntKind.wrap aW bc bj bm SW c7 CallOk To Tr ct
open Go.Proofs.Reg
open Go.Proofs.Pt
open Go.Proofs.Fl (fO)
def gN(n k:Nat):Rat:=if k%2=1 then -((fO ((n:Int)-1) k:Int):Rat) else((fO ((n:Int)-1) k:Int):Rat)
def jy(n q lo t:Nat):List Lf:=(List.range t).flatMap fun i=>lf (gN n (q-(lo+i))) (jq n (lo+i))
def Cr(n q lo t:Nat):jy n q lo (t+1)=jy n q lo t++lf (gN n (q-(lo+t))) (jq n (lo+t)):=by
 unfold jy;rw[sG,eV];simp
def Ir:∀n≤4,∀e≤3,(cR n e).length<=20:=by decide +kernel
def Qd:∀n≤4,1<=n->∀e≤3,1<=(cR n e).length:=by decide +kernel
def PQ{n s:Nat}(hn:n<=4)(hs:s<=n+3):(jq n s).length<=20:=by
 unfold jq;split
 . rw[aV];exact Ir n hn _ (by omega)
 exact ba _
def C2{n q lo:Nat}(hn:n<=4):∀{t:Nat},lo+t<=n+4->(jy n q lo t).length<=20*t
 |0,_=>ba _
 |t+1,h=>by
  rw[Cr,bg,zM];have h1:=C2 (q:=q) (lo:=lo) hn (t:=t) (by omega);have h2:=PQ hn (s:=lo+t) (by omega);omega
def vN{n q lo t:Nat}{x:Lf}(h:x∈jy n q lo t):∃s,lo<=s/\s<lo+t/\x.2=gN n (q-s)/\x.1∈jq n s:=by
 unfold jy at h;obtain⟨i,hi,h⟩:=List.mem_flatMap.1 h;obtain⟨y,hy,rfl⟩:=List.mem_map.1 h;have:=List.mem_range.1 hi;exact⟨lo+i,by omega,by omega,rfl,hy⟩
def WQ{n q lo t:Nat}(hn:n<=4):∀x∈jy n q lo t,x.1.length<=4:=fun x hx=>by
 obtain⟨s,_,_,_,h⟩:=vN hx;have:=(mU.1 h).1;omega
def Li:∀n:Nat,n<=4->∀k≤4,-100<=fO ((n:Int)-1) k/\fO ((n:Int)-1) k<=100:=by decide +kernel
def Dw{n k:Nat}(hn:n<=4)(hk:k<=4:=by omega):Hb 7 (gN n k):=by
 have hb:=Li n hn k hk;have h1:Hb 7 ((fO ((n:Int)-1) k:Int):Rat):=⟨(by show(fO ((n:Int)-1) k).natAbs<=128;omega),Nat.one_le_two_pow⟩;unfold gN;split
 . exact h1.neg
 exact h1
noncomputable def wU(R:List Cl)(n q lo t:Nat)(acc:List Lf):SS:=aR [(1,ae (di (n:Int))),(2,ae (di (q:Int))),(3,.w (.one (.ptr 0 0 0))),(6,.w (.one (.ptr 1 0 0))),(9,.w (.one (.ptr 2 0 0))),(10,.w (.one (.ptr 3 0 0))),(11,ae (di ((lo+t:Nat):Int)))]
 [(0,mA 24 (iR R)),(1,ks),(2,r9 (eZ R acc)),(3,ku acc),(4,ol R acc)] 5
noncomputable def Nt(R:List Cl)(n q s:Nat)(f:Rat)(acc:List Lf):SS:=aR [(1,ae (di (n:Int))),(2,ae (di (q:Int))),(3,.w (.one (.ptr 0 0 0))),(6,.w (.one (.ptr 1 0 0))),(9,.w (.one (.ptr 2 0 0))),(10,.w (.one (.ptr 3 0 0))),(11,ae (di (s:Int))),(12,.w (.one (.ptr 5 0 0)))]
 [(0,mA 24 (iR R)),(1,ks),(2,r9 (eZ R acc)),(3,ku acc),(4,ol R acc),(5,mA 55 (qr f))] 6
noncomputable def AG(c:Cl):Cg:=(1,c.map fun x=>x.1.map qr,c.map fun x=>qr x.2)
def VE(R:List Cl):iR R=.sl ((R.map AG).map iu):=by
 unfold iR;rw[cC];rfl
def RN{R:List Cl}{j:Nat}(hR:jH R j):(R.map AG).any iP=false:=by
 rw[AY];intro c hc;obtain⟨x,hx,rfl⟩:=List.mem_map.1 hc;obtain⟨h1,h2⟩:=hR x hx;have h3:(x.map fun y=>y.1.map qr).any (jg 1)=false:=by
  rw[AY];intro r hr;obtain⟨y,hy,rfl⟩:=List.mem_map.1 hr;unfold jg;rw[aV,(h2 y hy).1];decide
 unfold iP rF AG;dsimp only;rw[h3,aV,aV,bB (show x.length<=2000 by omega)];simp
def cV(R:List Cl)(A:List Lf):Cl:=A.flatMap fun x=>ft x.2 (fK R x.1)
def g9(n q:Nat):List Lf:=jy n q (max n (q+1-n)) (q+1-max n (q+1-n))
def Ci{R:List Cl}:∀{A:List Lf},(∀x∈A,x.1≠[])->(cV R A).length=eZ R A
 | [],_=>rfl
 | ([],f)::A,h=>absurd rfl (h ([],f) (by simp))
 | (i::l,f)::A,h=>by
   have ih:=Ci (R:=R) (A:=A) fun x hx=>h x (by simp[hx]);show(ft f (fK R (i::l))++cV R A).length=ld R (i::l)+eZ R A;rw[bg,ih,ft,aV,QL]
def P7{R:List Cl}{A:List Lf}{t:Nat}{x:Lf}(h:A[t]?=some x):cV R (A.take (t+1))=cV R (A.take t)++ft x.2 (fK R x.1):=by
 unfold cV;rw[dO,h,eV];simp
def HA{R:List Cl}{A:List Lf}(t:Nat):(cV R (A.take t)).length<=(cV R A).length:=by
 conv=>rhs;rw[<-kC t A]
 unfold cV;rw[eV,bg];omega
def tU{T:TypeId->Option TY}{h:Hp}{g t e m sz:Nat}{ty te:TY}{s x:ES}{news:List EV}(hs:s=.w (.one (.iv (.nil 3))))(hn:h g=none)
 (hx:fU h sz x=some (news,m)) (hm:1<=m) (h3:m<=1000000) (h4:m*te.bytes<=140737488355328)
 (ht:T t=some ty) (hsh:ty.sh=.slice e) (hte:T e=some te) (hsz:te.size=sz) (h0:(Nat.blt 0 te.size&&Nat.beq te.zero.cells.length te.size)=true) :
 jc T h g t s x=some (.w (.one (.slc g 0 0 m (.fin sz))),[(g,.mem e news false [(0,news.length)] 1)]):=by
 subst hs;subst hsz;have hm0:Nat.beq m 0=false:=dU;unfold jc;simp only[ht,hsh,hte,h0,al,hx,hm0,bh,fh h3,fh h4,mT,vn hn]
noncomputable def gL(c:Cl):List IV:=(c.map fun x=>x.1.map qr).map IV.sl
def BZ:∀c:Cl,eJ c=((gL c).flatMap IV.cells).map .iv
 | []=>rfl
 |x::c=>by
  have:=BZ c;show EV.iv (.sl (x.1.map qr))::eJ c=_;rw[this];rfl
def DS:∀c:Cl,b7 1 (gL c)=true
 | []=>rfl
 |x::c=>by
  have:=DS c;unfold b7 gL at this ⊢;rw[aZ,aZ,dl,this];rfl
def II{h:Hp}{c:Cl}:fU h 1 (.w (.one (.iv (.sl (gL c)))))=some (eJ c,c.length):=by
 show(bif b7 1 (gL c) then some (((gL c).flatMap IV.cells).map EV.iv,(gL c).length) else none)=_;rw[DS,al,<-BZ];unfold gL;rw[aV,aV]
def IH{h:Hp}{c:Cl}:fU h 3 (.w (.one (.iv (.sl (c.map fun x=>qr x.2)))))=some (qC (bt c),c.length):=by
 have:=vP (h:=h) (l:=bt c);unfold bt at this ⊢;rw[cC,aV] at this;exact this
def DG(n:Int)(c:Cl):eO n c=.agg [.int .i64 n,.sl (gL c),.sl ((bt c).map qr)]:=by
 unfold eO jl gL bt;rw[cC (g:=qr)];rfl
def W4{R:List Cl}{A:List Lf}{x:Lf}{t u:Nat}(hu:u+1=A.length)(hx:A[t]?=some x):ji (some (.mem 91 (A.map (mC R)) false [(u,u+1)] A.length)) u (t*1) 1=some [mC R x]:=by
 have hm:=(List.getElem?_eq_some_iff.1 hx).1;unfold ji;simp only[bn,fh (show t*1+1<=u+1 by omega),al];have h2:(A.map (mC R))[t*1]?=some (mC R x):=by rw[eB,bI,hx];rfl
 obtain⟨hl,he⟩:=List.getElem?_eq_some_iff.1 h2;rw[gS hl,List.take_succ_cons,xm,he]
noncomputable def ql(R:List Cl)(n:Nat)(A:List Lf)(u t:Nat)(acc:Cl):SS:=aR [(6,.w (.one (.ptr 1 0 0))),(13,.w (.one (.ptr 3 0 0))),(85,.w (.one (.slc 2 u 0 (u+1) (.fin 1)))),(86,ae (di ((u+1:Nat):Int))),(87,ae (di (t:Int)))]
 [(1,ks),(2,.mem 91 (A.map (mC R)) false [(u,u+1)] A.length),(3,wZ n acc),(4,uq acc),(5,uo acc)] 6
def kV(p:Prop):Prop:=p
def rb{X:EX}{nP:Nat}{rd:Bool}{nt:Nat}{s:SS}{K:Exit->SS->Prop}{G:Type _}(inv:G->SS){x y:Code}(h1:kV (SW X nP rd nt x s (Nv nP inv K)))(h2:∀g,SW X nP rd nt y (inv g) K):SW X nP rd nt (.seq x y) s K:=SO inv h1 h2
attribute [local irreducible] kV
structure SpOk(R:List Cl)(j n q:Nat):Prop where
 hR:jH R j
 hj:j<2^20
 n1:1<=n
 n4:n<=4
 nq:n<=q
 qm:q+1<=n+R.length
 R4:R.length<=4
def W6{J:Keep}(B:Base J)(L:LibI J){R:List Cl}{j n q:Nat}(hp:SpOk R j n q)(hM:(cV R (g9 n q)).length<=2000->Ep.MgOk n (cV R (g9 n q))):Go.Proofs.Fl.C J 7 [iR R,.int .i64 n,.int .i64 q] (bif decide ((cV R (g9 n q)).length<=2000) then .tup [eO n (fw (cV R (g9 n q))),.int .i64 0] else .tup [qi,.int .i64 5]):=by
 obtain⟨hR,hj,n1,n4,nq,qm,R4⟩:=hp;have c1:=Fl.D5 J (l:=R.map AG) (by rw[aV];omega) (fun c hc=>by
  obtain⟨x,hx,rfl⟩:=List.mem_map.1 hc;have:=(hR x hx).1;show(x.map _).length<_;rw[aV];omega)
 rw[RN hR,<-VE] at c1;have c2:=Fl.De J (n:Int);rw[bB (show 1<=(n:Int)/\(n:Int)<=4 by omega)] at c2;have la:(((R.map (eO 1)).length:Nat):Int)=(R.length:Int):=by simp
 obtain⟨lo,hlo⟩:∃m,max n (q+1-n)=m:=⟨_,rfl⟩;have hlo1:(if(q:Int)-n+1>n then(q:Int)-n+1 else(n:Int))=((lo+0:Nat):Int):=by
  split<;>omega
 refine lk Tryz.func7 rfl rfl rfl rfl 3 ?_;unfold iR at c1 ⊢;repeat((first|refine SW.R ?_|refine SW.c ?_|refine dX ?_|refine aM la ?_|refine aD c1 ?_|refine aD c2 ?_|refine aM hlo1 ?_|refine cy ?_|refine yF ?_|refine lB ?_|refine dH ?_|refine cz ?_);conv=>whnf)
 refine cq (G:={ t:Nat // lo+t<=q+1 }) (fun t=>wU R n q lo t.1 (jy n q lo t.1)) (fun t=>q+1-lo-t.1) ⟨0,by omega⟩
  ((wt (g:=0) (e:=24) (iR R) rfl).trans (Tr.tab [(4,1000)] [] ⟨.sm,.sm,.rn,.rn,.rn,.rn,.sm,aa⟩ ⟨.sm,.sm,.sm,.sm,.ph rfl,aa⟩ rfl)) ?_
 rintro⟨t,ht⟩;obtain⟨acc,hacc⟩:∃a,jy n q lo t=a:=⟨_,rfl⟩;show SW (XS J) _ _ _ _ (wU R n q lo t (jy n q lo t)) _;have hal:=C2 (q:=q) (lo:=lo) n4 (t:=t) (by omega);have ha4:=WQ (q:=q) (lo:=lo) (t:=t) n4;rw[hacc] at hal ha4 ⊢;by_cases h:lo+t<=q
 . as_aux_lemma=>
  obtain⟨s,hs⟩:∃s,lo+t=s:=⟨_,rfl⟩;obtain⟨k,hk⟩:∃k,q-s=k:=⟨_,rfl⟩;have hk4:k<=4:=by omega
  have hqs:IntKind.i64.wrap ((q:Int)-(s:Int))=(k:Int):=by rw[cZ];omega
  have c3:=Fl.TU J (n:=(n:Int)-1) (k:=k) hk4 (by omega) (by omega);have hb:=Li n n4 k hk4;obtain⟨b,hbv⟩:∃b,fO ((n:Int)-1) k=b:=⟨_,rfl⟩;rw[hbv] at c3 hb;have c4:=Fl.yR J (n:=b) (by omega) (by omega);have c5:=Fl.Ek J (b:Rat);have hm1:=vH hR ha4;unfold wU;rw[hs];obtain⟨f,hf⟩:∃f,gN n k=f:=⟨_,rfl⟩;obtain⟨m,hm⟩:∃m,n=m+1:=⟨n-1,by omega⟩;obtain⟨e,he⟩:∃e,s=e+(m+1):=⟨s-(m+1),by omega⟩;have hfew:=Ir n n4 e (by omega);rw[hm] at hfew;have cS:=VW J hR (f:=f) (acc:=acc) (m:=m) (e:=e) ⟨by omega,by omega,by omega,by omega,ha4⟩;rw[<-hm,show e+n=s by omega] at cS;repeat (first|(refine rb (G:=Unit) (x:=.seq (.region 12 _ _) _) (fun _=>Nt R n q s f acc) ?_ (fun _=>?_))|((first|refine SW.R ?_|refine SW.c ?_|refine aD c3 ?_|refine aD c4 ?_|refine And.intro rfl (aM hqs ?_)|refine cy ?_|refine yT ?_|refine dH ?_);conv=>whnf))
  . as_aux_lemma=>
   unfold kV;by_cases hodd:k%2=1
   . as_aux_lemma=>
    have htm:(k:Int).tmod 2=1:=by rw[xu (by omega)];omega
    have hf:f = -(b:Rat):=by rw[<-hf];unfold gN;rw[au hodd,hbv]
    subst hf;repeat (first|((first|refine SW.RS ?_|refine SW.R ?_|refine aD c5 ?_|refine And.intro rfl (aM hqs ?_)|refine aM htm ?_|refine yT ?_|refine dH ?_|refine cz ?_|refine And.intro (by decide) ?_);conv=>whnf)|(refine SW.condT rfl ?_))
    exact⟨(),(wt (g:=5) (e:=55) (qr (-(b:Rat))) rfl).trans (Tr.tab [] [] ⟨.sm,.sm,.rn,.rn,.rn,.rn,.sm,.rn,aa⟩ ⟨.sm,.sm,.sm,.rn rfl rfl (jr fun _=>rfl) (jp fun _=>rfl),.sm rfl rfl bS,.sm,aa⟩ rfl)⟩
   have htm:(k:Int).tmod 2=0:=by rw[xu (by omega)];omega
   have hf:f=(b:Rat):=by rw[<-hf];unfold gN;rw[aq hodd,hbv]
   subst hf;repeat (first|((first|refine SW.RS ?_|refine SW.skip ?_|refine And.intro rfl (aM hqs ?_)|refine aM htm ?_|refine yF ?_|refine And.intro (by decide) ?_);conv=>whnf)|(refine SW.condF rfl ?_))
   exact⟨(),(wt (g:=5) (e:=55) (qr (b:Rat)) rfl).trans (Tr.tab [] [] ⟨.sm,.sm,.rn,.rn,.rn,.rn,.sm,.rn,aa⟩ ⟨.sm,.sm,.sm,.rn rfl rfl (jr fun _=>rfl) (jp fun _=>rfl),.sm rfl rfl bS,.sm,aa⟩ rfl)⟩
  unfold Nt;repeat ((refine SW.R ?_;conv=>whnf))
  refine iB cS [0,2,3,5,4] 0 rfl ⟨.d rfl,.d rfl,.d rfl,.c rfl,aa⟩ ⟨.d rfl rfl,.d rfl rfl,.c (aL some (kM).symm),.d rfl rfl,.d rfl bS,aa⟩ trivial (bp (.d rfl) (bp (.d rfl) (bp (.c (kM)) (bp (.d rfl) (bp (.d bS) fS))))) (.d rfl) ?_;conv=>whnf
  repeat((first|refine SW.R ?_|refine cy ?_);conv=>whnf)
  refine⟨⟨t+1,by omega⟩,?_,by dsimp only;omega⟩;show Tr _ _ (wU R n q lo (t+1) (jy n q lo (t+1)));rw[Cr,hacc,hs,hk,hf];exact Tr.tab [] [] ⟨.sm,.sm,.rn,.rn,.rn,.rn,.sm (iq),aa⟩ ⟨.sm,.sm,.sm,.rn rfl rfl (jr fun _=>rfl) (jp fun _=>rfl),.sm rfl rfl bS,aa⟩ rfl
 have et:t=q+1-lo:=by omega
 have hA:acc=g9 n q:=by rw[<-hacc,et,<-hlo];rfl
 have hne:∀x∈acc,x.1≠[]:=fun x hx=>by
  rw[<-hacc] at hx;obtain⟨s,_,_,_,h⟩:=vN hx;have:=(mU.1 h).1;intro e;rw[e] at this;simp at this;omega
 have hlen:=Ci (R:=R) hne;rw[<-hA] at hM ⊢;obtain⟨mm,hmm⟩:∃m,eZ R acc=m:=⟨_,rfl⟩;rw[hmm] at hlen;rw[hlen] at hM ⊢;have hmb:=vH hR ha4;rw[hmm] at hmb;unfold wU;rw[hmm];by_cases h2:mm<=2000
 . as_aux_lemma=>
  rw[bB h2];have hMg:=hM h2;have hacc0:acc≠[]:=fun e=>by
   obtain⟨t',ht'⟩:∃t',t=t'+1:=⟨t-1,by omega⟩;have h4:=Cr n q lo t';rw[<-ht',hacc,e] at h4;have h5:=aL List.length h4;rw[bg,zM] at h5;unfold jq at h5;rw[au (by omega),aV] at h5;have:=Qd n n4 n1 (lo+t'-n) (by omega);simp at h5;omega
  cases acc with
  |nil=>exact absurd rfl hacc0
  |cons y a=> as_aux_lemma=>
   obtain⟨P,hP⟩:∃P,cV R (y::a)=P:=⟨_,rfl⟩;have hal':a.length+1<=20*t:=hal;rw[hP] at hlen hMg ⊢;have c9:=Ep.r35_ok B L (n:=(n:Int)) hMg;repeat((first|refine SW.R ?_|refine SW.c ?_|refine yF ?_|refine aM rfl ?_|refine dH ?_|refine cz ?_);conv=>whnf)
   refine cq (G:={ t:Nat // t<=a.length+1 }) (fun t=>ql R n (y::a) a.length t.1 (cV R ((y::a).take t.1))) (fun t=>a.length+1-t.1) ⟨0,ba _⟩
    (Tr.tab [(2,4),(3,5),(4,1000),(5,1001)] [] ⟨.rn,.rn,.rn,.sm,.sm,aa⟩ ⟨.sm,.sm rfl rfl bS,.sm,.ph rfl,.ph rfl,aa⟩ rfl) ?_
   rintro⟨t3,ht3⟩;obtain⟨c,hc⟩:∃c,cV R ((y::a).take t3)=c:=⟨_,rfl⟩;show SW (XS J) _ _ _ _ (ql R n (y::a) a.length t3 (cV R ((y::a).take t3))) _;have hcl:=HA (R:=R) (A:=y::a) t3;rw[hc,hP,hlen] at hcl;rw[hc];by_cases h3:t3<a.length+1
   . as_aux_lemma=>
    obtain⟨⟨l3,f3⟩,hx⟩:∃x,(y::a)[t3]?=some x:=⟨_,bi h3⟩;have hsn:=P7 (R:=R) hx;have hcl2:=HA (R:=R) (A:=y::a) (t3+1);rw[hsn,hc,hP,hlen,bg] at hcl2;obtain⟨s,hs1,hs2,hs3,hs4⟩:=vN (by rw[hacc];exact bN hx:(l3,f3)∈jy n q lo t);obtain⟨q1,q2,q3⟩:=mU.1 hs4;have hs3:f3=gN n (q-s):=hs3;have hix:∀x∈l3,nz R x:=fun x hx=>by
     have:=IE q2 x hx;rw[q3,q1] at this;exact⟨q2 x hx,by omega⟩
    cases l3 with
    |nil=>exact absurd rfl (hne _ (bN hx))
    |cons i l=> as_aux_lemma=>
     have q1:l.length+1=n:=q1;have hf3:aU f3<2^36:=by have:=wz (Dw (n:=n) (k:=q-s) n4);have e:f3=gN n (q-s):=hs3;rw[e];omega
     have cP:=VS B hR hj (i:=i) (l:=l) (by omega) (hix i (by simp)) (fun x hx=>hix x (by simp[hx])) (by omega) hf3;rw[q1] at cP;obtain⟨pt,hpt⟩:∃pt,ft f3 (fK R (i::l))=pt:=⟨_,rfl⟩;rw[hpt] at cP hcl2 hsn;unfold ql;repeat((first|refine SW.R ?_|refine SW.c ?_|refine jh (j:=t3) ?_ rfl h3 (a8 _)|refine cz ?_ (W4 rfl hx)|refine yT ?_);conv=>whnf)
     refine iB cP [] 0 rfl ⟨.d rfl,.d rfl,.d rfl,aa⟩ trivial trivial fS (.d rfl) ?_;conv=>whnf
     have hsn':cV R ((y::a).take (t3+1))=c++pt:=by rw[hsn,hc]
     cases c with
     |nil=> as_aux_lemma=>
      cases pt with
      |nil=> as_aux_lemma=>
       repeat((first|refine SW.R ?_|refine cy ?_|refine iH ?_|refine dH ?_|refine cz ?_|refine pW ?_);conv=>whnf)
       refine⟨⟨t3+1,h3⟩,?_,by dsimp only;omega⟩;show Tr _ _ (ql R n (y::a) a.length (t3+1) (cV R ((y::a).take (t3+1))));rw[hsn'];exact Tr.tab [] [] ⟨.rn,.rn,.rn,.sm,.sm,aa⟩ ⟨.sm,.sm rfl rfl bS,.rn,.sm rfl rfl qO,.sm rfl rfl qN,aa⟩ rfl
      |cons z l=> as_aux_lemma=>
       simp only[aY] at hcl2;repeat((first|refine SW.R ?_|refine iH ?_|refine dH ?_|refine cz ?_);conv=>whnf)
       refine bK (g:=7) (b:=1) (tU rfl rfl (II (c:=z::l)) (by simp) (by simp only[aY];omega) (by show(l.length+1)*24<=_;omega) rfl rfl rfl rfl rfl) (by show 7<7+1;decide) ?_;conv=>whnf
       repeat((first|refine iH ?_|refine cz ?_);conv=>whnf)
       refine bK (g:=8) (b:=1) (tU rfl rfl (IH (c:=z::l)) (by simp) (by simp only[aY];omega) (by show(l.length+1)*56<=_;omega) rfl rfl rfl rfl rfl) (by show 8<8+1;decide) ?_;conv=>whnf
       repeat((first|refine SW.R ?_|refine cy ?_|refine iH ?_|refine dH ?_|refine And.intro (uv) ?_);conv=>whnf)
       refine⟨⟨t3+1,h3⟩,?_,by dsimp only;omega⟩;show Tr _ _ (ql R n (y::a) a.length (t3+1) (cV R ((y::a).take (t3+1))));rw[hsn',lF];refine Tr.tab [(4,7),(5,8)] [] ⟨.rn,.rn,.rn,.sm,.sm,aa⟩ ⟨.sm,.sm rfl rfl bS,.rn,.sm rfl ?_ qO,.sm rfl ?_ qN,aa⟩ rfl
       . show some (EO.mem 27 (eJ (z::l)) false [(0,(eJ (z::l)).length)] 1)=_;rw[n0];rfl
       show some (EO.mem 55 (qC (bt (z::l))) false [(0,(qC (bt (z::l))).length)] 1)=_;rw[gW,aV];rfl
     |cons z1 l1=> as_aux_lemma=>
      cases pt with
      |nil=> as_aux_lemma=>
       repeat((first|refine SW.R ?_|refine cy ?_|refine iH ?_|refine dH ?_|refine cz ?_|refine pW ?_);conv=>whnf)
       refine⟨⟨t3+1,h3⟩,?_,by dsimp only;omega⟩;show Tr _ _ (ql R n (y::a) a.length (t3+1) (cV R ((y::a).take (t3+1))));rw[hsn',eS];exact Tr.tab [] [] ⟨.rn,.rn,.rn,.sm,.sm,aa⟩ ⟨.sm,.sm rfl rfl bS,.rn,.sm rfl rfl qO,.sm rfl rfl qN,aa⟩ rfl
      |cons z l=> as_aux_lemma=>
       simp only[aY] at hcl2;have el:(l1++z::l).length=l1.length+(l.length+1):=by simp
       have qlen:(qC (bt (z1::l1))).length=(l1.length+1)*3:=by rw[gW,aV];rfl
       repeat((first|refine SW.R ?_|refine iH ?_|refine dH ?_|refine cz ?_);conv=>whnf)
       refine bK (g:=7) (b:=1) (ch (m:=l.length+1) (p:=l1.length+1) (sz:=1) rfl rfl (bn _ _) (II (c:=z::l)) (by omega) (by omega) (by omega) (by show _*24<=_;omega) rfl rfl rfl rfl rfl rfl) (by show 7<7+1;decide) ?_;conv=>whnf
       repeat((first|refine iH ?_|refine cz ?_);conv=>whnf)
       refine bK (g:=8) (b:=1) (ch (m:=l.length+1) (p:=(l1.length+1)*3) (sz:=3) rfl rfl (bn _ _) (IH (c:=z::l)) (by omega) (by omega) (by omega) (by show _*56<=_;omega) rfl rfl rfl rfl rfl rfl) (by show 8<8+1;decide) ?_;conv=>whnf
       repeat((first|refine SW.R ?_|refine cy ?_|refine iH ?_|refine dH ?_|refine And.intro (uv) ?_);conv=>whnf)
       refine⟨⟨t3+1,h3⟩,?_,by dsimp only;omega⟩;show Tr _ _ (ql R n (y::a) a.length (t3+1) (cV R ((y::a).take (t3+1))));rw[hsn'];refine Tr.tab [] [(4,.one 1),(5,.one 1)] ⟨.rn,.rn,.rn,.sm,.sm,aa⟩ ⟨.sm,.sm rfl rfl bS,.rn rfl rfl ?_ rfl,.ver rfl rfl (gD _ _ _) ?_ ?_ ?_ ?_,.ver rfl rfl (gD _ _ _) ?_ ?_ ?_ ?_,aa⟩ rfl
       . show EO.mem 29 [.iv (di n),.slc 4 0 0 (l1.length+1+(l.length+1)) (.fin 1),.slc 5 0 0 (l1.length+1+(l.length+1)) (.fin 3)] false [(0,3)] 1=.mem 29 [.iv (di n),.slc 4 0 0 ((l1++z::l).length+1) (.fin 1),.slc 5 0 0 ((l1++z::l).length+1) (.fin 3)] false [(0,3)] 1;rw[el,show l1.length+(l.length+1)+1=l1.length+1+(l.length+1) by omega]
       . show(l1++z::l).length+1<=_;rw[el];omega
       . show(l1++z::l).length+1<=(eJ ((z1::l1)++z::l)).length;rw[n0];simp
       . show((eJ (z1::l1)).take ((l1.length+1)*1)++eJ (z::l)).take _=(eJ ((z1::l1)++z::l)).take _;rw[ay (i:=(l1.length+1)*1) (by rw[n0,eB];exact ah _),Dj]
       . exact ve _
       . show((l1++z::l).length+1)*3<=_;rw[el];omega
       . show((l1++z::l).length+1)*3<=(qC (bt ((z1::l1)++z::l))).length;rw[gW];simp
       . show((qC (bt (z1::l1))).take ((l1.length+1)*3)++qC (bt (z::l))).take _=(qC (bt ((z1::l1)++z::l))).take _;rw[ay (i:=(l1.length+1)*3) (by rw[qlen];exact ah _),show bt ((z1::l1)++z::l)=bt (z1::l1)++bt (z::l) by simp[bt],tD]
       exact kG _
   have e3:t3=a.length+1:=by omega
   subst e3;have e4:c=P:=by rw[<-hc,<-hP];congr 1;exact ay (by simp)
   subst e4;rw[DG] at c9;unfold ql;cases c with
   |nil=> as_aux_lemma=>
    refine SW.tr (Tr.cd (g:=3) rfl (.cons (.sm _) (.cons .nl (.cons .nl (.sm []))))) ?_;repeat((first|refine SW.R ?_|refine SW.c ?_|refine aD c9 ?_|refine yF ?_|refine dH ?_|refine cz ?_);conv=>whnf)
    rfl
   |cons z l=> as_aux_lemma=>
    refine SW.tr (s':=aR [(6,.w (.one (.ptr 1 0 0))),(13,.w (.one (.ptr 3 0 0))),(86,ae (di ((a.length+1:Nat):Int))),(87,ae (di ((a.length+1:Nat):Int)))] [(1,ks),(3,.mem 29 [.iv (di n),.iv (.sl (gL (z::l))),.iv (.sl ((bt (z::l)).map qr))] false [(0,3)] 1)] 6)
     ((ge (g:=4) (u:=0) (n:=l.length+1) (es:=gL (z::l)) [] [(3,_)] (fq (p:=l.length+1) 1 rfl (bn _ _) (by simp[gL]) (DS _) (by omega) (by rw[<-BZ];exact ay (by rw[n0,eB];exact ah _))) trivial ⟨⟨by decide,FzO.mk rfl (.cons (.sm _) (.cons (.fz _) (.sm _)))⟩,aa⟩).trans
       ((ge (g:=5) (u:=0) (n:=l.length+1) (es:=(bt (z::l)).map qr) [] [(3,_)] (fq 3 rfl (bn _ _) (by simp) (Aa _) (ah _) (ay (by show(qC (bt (z::l))).length<=_;rw[gW,aV];exact ah _))) trivial ⟨⟨by decide,FzO.mk rfl (.cons (.sm _) (.cons (.sm _) (.cons (.fz _) (.sm _))))⟩,aa⟩).trans
         (Tr.tab [] [] ⟨.rn,.rn,.sm,.sm,aa⟩ ⟨.sm,.sm,aa⟩ rfl))) ?_
    repeat((first|refine SW.R ?_|refine SW.c ?_|refine aD c9 ?_|refine yF ?_|refine dH ?_|refine cz ?_);conv=>whnf)
    rfl
 rw[bE h2];repeat((first|refine SW.R ?_|refine SW.c ?_|refine yT ?_|refine yF ?_|refine dH ?_|refine cz ?_);conv=>whnf)
 rfl
end Go.Proofs.En
namespace Go.Proofs.Fl
open Go.RowKit Go.Proofs.Dig
attribute [local irreducible] IntKind.wrap aW bc bj bm
open Go.Proofs.Pt (befI)
def VH(J:Keep){a b:List Rat}(hl:a.length=b.length)(h60:a.length<2^60)(ha:∀x∈a,rl x<2^34)(hb:∀x∈b,rl x<2^34):C J 85 [.sl (a.map rr),.sl (b.map rr)] (.int .i64 (befI a b)):=by
 have la:(a.map rr).length=a.length:=by simp
 obtain⟨r,hr⟩:∃r,befI a b=r:=⟨_,rfl⟩;rw[hr];refine aN Tryz.func85 rfl rfl rfl ?_;refine aK ?_;refine W.loop (G:={ t:Nat // t<=a.length/\befI (a.drop t) (b.drop t)=r }) (fun t=>aF [(0,.iv (.sl (a.map rr))),(1,.iv (.sl (b.map rr))),(5,.iv (.int .i64 (t.1:Int)))] [] 20) (fun t=>a.length-t.1) ⟨0,ba _,hr⟩
  (Wk.tab [] ⟨ab,ab,ab,aa⟩ trivial rfl) ?_
 rintro⟨t,ht,hz⟩;show W J _ _ (aF [(0,.iv (.sl (a.map rr))),(1,.iv (.sl (b.map rr))),(5,.iv (.int .i64 (t:Int)))] [] 20) _;by_cases h:t<a.length
 .
  obtain⟨x,hx⟩:∃x,a[t]?=some x:=⟨_,bi h⟩;obtain⟨y,hy⟩:∃y,b[t]?=some y:=⟨_,bi (by omega)⟩;have gx:(a.map rr)[t]?=some (rr x):=by rw[bI,hx];rfl
  have gy:(b.map rr)[t]?=some (rr y):=by rw[bI,hy];rfl
  have c1:=Wx J (g5 x) (g5 y) (ha x (bN hx)) (hb y (bN hy));have ex:a.drop t=x::a.drop (t+1):=by
   obtain⟨h1,h2⟩:=List.getElem?_eq_some_iff.1 hx;rw[<-h2];exact gS h1
  have ey:b.drop t=y::b.drop (t+1):=by
   obtain⟨h1,h2⟩:=List.getElem?_eq_some_iff.1 hy;rw[<-h2];exact gS h1
  have hv:=Ma x y;rw[ex,ey] at hz;unfold befI at hz;obtain⟨v,ev⟩:∃v,cw x y=v:=⟨_,rfl⟩;rw[ev] at c1 hv;by_cases h0:v=0
  .
   have hz':befI (a.drop (t+1)) (b.drop (t+1))=r:=by
    split at hz
    . rename_i hlt;rw[au hlt] at hv;omega
    split at hz
    . rename_i h1 h2;rw[aq h1,au h2] at hv;omega
    exact hz
   subst h0;repeat (first|(refine af ?_)|((first|refine⟨_,c1,?_⟩|refine⟨t,_,rfl,gx,rfl,?_⟩|refine⟨t,_,rfl,gy,rfl,?_⟩);conv=>whnf)|(refine ap ?_))
   exact⟨⟨t+1,h,hz'⟩,Wk.tab [] ⟨ab,ab,ab,aa⟩ trivial rfl,by dsimp only;omega⟩
  have hz':v=r:=by
   split at hz
   . rename_i hlt;rw[au hlt] at hv;omega
   split at hz
   . rename_i h1 h2;rw[aq h1,au h2] at hv;omega
   rename_i h1 h2;rw[aq h1,aq h2] at hv;exact absurd hv h0
  subst hz';repeat (first|(refine af ?_)|((first|refine⟨_,c1,?_⟩|refine⟨t,_,rfl,gx,rfl,?_⟩|refine⟨t,_,rfl,gy,rfl,?_⟩);conv=>whnf)|(refine ap ?_))
  rfl
 have e:t=a.length:=by omega
 subst e;rw[xN,hl,xN] at hz;have hz:(0:Int)=r:=hz;subst hz;refine aK ?_;rfl
def cH:Nat->Nat
 |0=>1
 |n+1=>(n+1)*cH n
def y5:∀n≤4,cH n<=24/\1<=cH n:=by decide
def tB{n:Nat}(hn:n<2^20:=by omega):rl (n:Rat)<2^10:=by
 have h:Reg.Hb 20 (n:Rat):=⟨by show n<=2^20;omega,Nat.one_le_two_pow⟩;have:=ob h;omega
def D4(J:Keep){n:Nat}(hn:n<=4):C J 38 [.int .i64 n] (rr (cH n:Rat)):=by
 have c0:=LY J (z:=1) (by decide) (by decide);have e0:((1:Int):Rat)=((cH 1:Nat):Rat):=rfl;rw[e0] at c0;refine aN Tryz.func38 rfl rfl rfl ?_;repeat (first|(refine af ?_)|(refine⟨_,c0,?_⟩;conv=>whnf))
 refine W.loop (G:={ t:Nat // 1<=t/\t<=max n 1 }) (fun t=>aF [(0,.iv (.int .i64 n)),(2,.ptr 0 0),(3,.ptr 1 0),(4,.iv (.int .i64 ((t.1+1:Nat):Int)))] [(0,.var (.agg [.int .i64 0,.sl [],.int .i64 0,.sl []])),(1,.var (rr (cH t.1:Rat)))] 20) (fun t=>max n 1-t.1) ⟨1,by omega⟩
  (Wk.tab [(1,2)] ⟨ab,ab,ab,ab,aa⟩ ⟨rfl,rfl,aa⟩ rfl) ?_
 rintro⟨t,ht1,ht⟩;show W J _ _ (aF [(0,.iv (.int .i64 n)),(2,.ptr 0 0),(3,.ptr 1 0),(4,.iv (.int .i64 ((t+1:Nat):Int)))] [(0,.var (.agg [.int .i64 0,.sl [],.int .i64 0,.sl []])),(1,.var (rr (cH t:Rat)))] 20) _;by_cases h:t+1<=n
 .
  have hf:=y5 t (by omega);have c1:=LY J (z:=((t+1:Nat):Int)) (by omega) (by omega);have l1:=tB (n:=cH t);have l2:=tB (n:=t+1);rw[show(((t+1:Nat):Int):Rat)=((t+1:Nat):Rat) from rfl] at c1;have c2:=wj J (g5 (cH t:Rat)) (g5 ((t+1:Nat):Rat));have e:((cH t:Nat):Rat)*((t+1:Nat):Rat)=((cH (t+1):Nat):Rat):=by
   rw[cH,dw,Gf]
  rw[e] at c2;repeat (first|(refine af ?_)|((first|refine⟨_,c1,?_⟩|refine⟨_,c2,?_⟩);conv=>whnf)|(refine ap ?_))
  exact⟨⟨t+1,by omega,by omega⟩,Wk.tab [] ⟨ab,ab,ab,ab,aa⟩ ⟨rfl,rfl,aa⟩ rfl,by dsimp only;omega⟩
 have e:cH n=cH t:=by
  by_cases h0:n=0
  . subst h0;have:t=1:=by omega
    subst this;rfl
  have:t=n:=by omega
  rw[this]
 rw[e];refine aK ?_;rfl
def IN{J:Keep}(L:LibI J){a:List Rat}(h60:a.length<2^60)(ha:∀x∈a,rl x<2^34):C J 43 [.sl (a.map qr),.sl (a.map rr)] (.bool true):=by
 have la:(((a.map qr).length:Nat):Int)=(a.length:Int):=by simp
 have lb:(((a.map rr).length:Nat):Int)=(a.length:Int):=by simp
 have lq:(a.map qr).length=a.length:=by simp
 have lr:(a.map rr).length=a.length:=by simp
 refine aN Tryz.func43 rfl rfl rfl ?_;refine aK ?_;refine W.loop (G:={ t:Nat // t<=a.length }) (fun t=>aF [(0,.iv (.sl (a.map qr))),(1,.iv (.sl (a.map rr))),(5,.iv (.int .i64 (t.1:Int)))] [] 20) (fun t=>a.length-t.1) ⟨0,ba _⟩
  (Wk.tab [] ⟨ab,ab,ab,aa⟩ trivial rfl) ?_
 rintro⟨t,ht⟩;show W J _ _ (aF [(0,.iv (.sl (a.map qr))),(1,.iv (.sl (a.map rr))),(5,.iv (.int .i64 (t:Int)))] [] 20) _;by_cases h:t<a.length
 .
  obtain⟨x,hx⟩:∃x,a[t]?=some x:=⟨_,bi h⟩;have gx:(a.map qr)[t]?=some (qr x):=by rw[bI,hx];rfl
  have gy:(a.map rr)[t]?=some (rr x):=by rw[bI,hx];rfl
  have c1:=Xm L (ha x (bN hx));repeat (first|(refine af ?_)|((first|refine⟨_,c1,?_⟩|refine⟨t,_,rfl,gx,rfl,?_⟩|refine⟨t,_,rfl,gy,rfl,?_⟩);conv=>whnf)|(refine ap ?_))
  exact⟨⟨t+1,h⟩,Wk.tab [] ⟨ab,ab,ab,aa⟩ trivial rfl,by dsimp only;omega⟩
 have e:t=a.length:=by omega
 subst e;refine aK ?_;rfl
def Tz(J:Keep):C J 8 [.agg [.int .i64 0,.sl [],.sl []]] (.bool true):=by
 refine aN Tryz.func8 rfl rfl rfl ?_;refine aK ?_;show IV.bool (IntKind.i64.wrap (0+0)==0)=_;rw[cZ (by decide)];rfl
end Go.Proofs.Fl
namespace Go.Proofs.En
open Go.RowKit Go.Proofs.Fl Go.Proofs.Dig
attribute [local irreducible] IntKind.wrap aW bc bj bm SW c7 CallOk To Tr ct
open Go.Proofs.Reg
open Go.Proofs.Pt
noncomputable def rC(l:List Rat):List EV:=((l.map rr).flatMap IV.cells).map .iv
def zA(a b:List Rat):rC (a++b)=rC a++rC b:=by
 unfold rC;rw[dD,eV,dD]
def lV:∀l:List Rat,(rC l).length=l.length*4
 | []=>rfl
 |x::l=>by
  rw[show x::l=[x]++l from rfl,zA,bg,lV l,bg,bQ];rfl
def BX:∀l:List Rat,(rC l).flatMap bv=[]
 | []=>rfl
 |x::l=>by
  rw[show x::l=[x]++l from rfl,zA,eV,BX l];rfl
def pC:∀l:List Rat,b7 4 (l.map rr)=true
 | []=>rfl
 |x::l=>by
  have:=pC l;unfold b7 at this ⊢;rw[aZ,dl,this];rfl
def yN{h:Hp}{l:List Rat}:fU h 4 (.w (.one (.iv (.sl (l.map rr)))))=some (rC l,l.length):=by
 show(bif b7 4 (l.map rr) then some (((l.map rr).flatMap IV.cells).map EV.iv,(l.map rr).length) else none)=_;rw[pC,al,aV];rfl
noncomputable def dK(c:Cl):List IV:=(c.map fun x=>x.1.map rr).map IV.sl
noncomputable def hU(n:Int)(c:Cl):IV:=.agg [.int .i64 n,.sl (dK c),.sl ((bt c).map rr)]
noncomputable def eI(n:Int)(c:Cl):EO:=.mem 33 [.iv (di n),.iv (.sl (dK c)),.iv (.sl ((bt c).map rr))] false [(0,3)] 1
noncomputable def li(c:Cl):List EV:=c.map fun x=>.iv (.sl (x.1.map rr))
def th(c:Cl):(li c).length=c.length:=by simp[li]
def Tq(a b:Cl):li (a++b)=li a++li b:=by simp[li]
def BB:∀l:Cl,(li l).flatMap bv=[]
 | []=>rfl
 |x::l=>BB l
def vm:∀c:Cl,li c=((dK c).flatMap IV.cells).map .iv
 | []=>rfl
 |x::c=>by
  have:=vm c;show EV.iv (.sl (x.1.map rr))::li c=_;rw[this];rfl
def vW:∀c:Cl,b7 1 (dK c)=true
 | []=>rfl
 |x::c=>by
  have:=vW c;unfold b7 dK at this ⊢;rw[aZ,aZ,dl,this];rfl
def X7:Cl->EV
 | []=>.iv (.nil 3)
 |_::l=>.slc 4 0 0 (l.length+1) (.fin 1)
def X6:Cl->EV
 | []=>.iv (.nil 3)
 |_::l=>.slc 5 0 0 (l.length+1) (.fin 4)
def cJ(n:Int)(acc:Cl):EO:=.mem 33 [.iv (di n),X7 acc,X6 acc] false [(0,3)] 1
noncomputable def rA(acc:Cl):EO:=match acc with
 | []=>.mem 31 [] false [] 0
 |_::l=>.mem 31 (li acc) false [(0,l.length+1)] 1
noncomputable def rW(acc:Cl):EO:=match acc with
 | []=>.mem 98 [] false [] 0
 |_::l=>.mem 98 (rC (bt acc)) false [(0,(l.length+1)*4)] 1
def fk{acc:Cl}:fR (rA acc):=by
 cases acc with
 |nil=>exact(rfl:([]:List EV).flatMap bv=[])
 |cons x l=>exact BB _
def fj{acc:Cl}:fR (rW acc):=by
 cases acc with
 |nil=>exact(rfl:([]:List EV).flatMap bv=[])
 |cons x l=>exact BX _
def ra{α:Type}(l:List α)(x:α):(l ++ [x]).length=l.length+1:=by simp
def tC{n:Int}{z x:List Rat×Rat}{l:Cl}:EO.mem 33 [.iv (di n),.slc 4 0 0 (l.length+1+1) (.fin 1),.slc 5 0 0 (l.length+1+1) (.fin 4)] false [(0,3)] 1=cJ n ((z::l) ++ [x]):=by
 show _=EO.mem 33 [.iv (di n),.slc 4 0 0 ((l ++ [x]).length+1) (.fin 1),.slc 5 0 0 ((l ++ [x]).length+1) (.fin 4)] false [(0,3)] 1;rw[ra]
def uf{r:List (Nat×Nat)}{m:List (Nat×EO)}{X:Option EO}{z x:List Rat×Rat}{l:Cl}{vs:List (Nat×Nat)}{c q:Nat}(h:X=some (.mem 31 ((li (z::l)).take ((l.length+1)*1) ++ [.iv (.sl (x.1.map rr))]) false ((1,q)::vs) c):=by exact rfl)(hq:l.length+2<=q:=by omega) :
 BoxT r [(4,.one 1),(5,.one 1)] m 4 X (rA ((z::l) ++ [x])):=by
 have e:rA ((z::l) ++ [x])=.mem 31 (li ((z::l) ++ [x])) false [(0,l.length+2)] 1:=by
  show EO.mem 31 _ false [(0,(l ++ [x]).length+1)] 1=_;rw[ra]
 rw[e];refine .ver rfl h (gD _ _ _) hq ?_ ?_ (BB _)
 . rw[th];simp
 rw[ay (i:=(l.length+1)*1) (by rw[th,eB];exact ah _),Tq];rfl
def ue{r:List (Nat×Nat)}{m:List (Nat×EO)}{X:Option EO}{z x:List Rat×Rat}{l:Cl}{vs:List (Nat×Nat)}{c q:Nat}(h:X=some (.mem 98 ((rC (bt (z::l))).take ((l.length+1)*4)++(rr x.2).cells.map .iv) false ((1,q)::vs) c):=by exact rfl)(hq:(l.length+2)*4<=q:=by omega) :
 BoxT r [(4,.one 1),(5,.one 1)] m 5 X (rW ((z::l) ++ [x])):=by
 have e:rW ((z::l) ++ [x])=.mem 98 (rC (bt ((z::l) ++ [x]))) false [(0,(l.length+2)*4)] 1:=by
  show EO.mem 98 _ false [(0,((l ++ [x]).length+1)*4)] 1=_;rw[ra]
 have ew:bt ((z::l) ++ [x])=bt (z::l) ++ [x.2]:=by simp[bt]
 rw[e];refine .ver rfl h (gD _ _ _) hq ?_ ?_ (BX _)
 . rw[lV];simp
 rw[ay (i:=(l.length+1)*4) (by rw[lV,aV];exact ah _),ew,zA];rfl
noncomputable def pI(n m:Int)(a b acc:Cl)(t k:Nat):SS:=aR [(2,.w (.one (.ptr 0 0 0))),(3,.w (.one (.ptr 1 0 0))),(4,.w (.one (.ptr 2 0 0))),(5,.w (.one (.ptr 3 0 0))),(6,ae (di (t:Int))),(7,ae (di (k:Int)))]
 [(0,eI n a),(1,eI m b),(2,cJ 0 []),(3,cJ (n+m) acc),(4,rA acc),(5,rW acc)] 6
noncomputable def pO(n m:Int)(a b acc:Cl)(t:Nat):SS:=aR [(2,.w (.one (.ptr 0 0 0))),(3,.w (.one (.ptr 1 0 0))),(4,.w (.one (.ptr 2 0 0))),(5,.w (.one (.ptr 3 0 0))),(6,ae (di (t:Int)))]
 [(0,eI n a),(1,eI m b),(2,cJ 0 []),(3,cJ (n+m) acc),(4,rA acc),(5,rW acc)] 6
structure CR4(c:Cl):Prop where
 p:∀x∈c,0<x.1.length/\x.1.length<=100/\rl x.2<2^34
 l:c.length<=5000
def rt{c:Cl}{t:Nat}{x:List Rat×Rat}(h:c[t]?=some x):(dK c)[t]?=some (.sl (x.1.map rr))/\((bt c).map rr)[t]?=some (rr x.2):=by
 unfold dK bt;constructor
 . rw[bI,bI,h];rfl
 rw[bI,bI,h];rfl
def VQ(J:Keep){n m:Int}{a b:Cl}(hn:0<=n/\n<=100)(hm:0<=m/\m<=100)(ha:CR4 a)(hb:CR4 b)(hab:a.length*b.length<=5000) :
 Go.Proofs.Fl.C J 41 [hU n a,hU m b] (hU (n+m) (cU a b)):=by
 refine lk Tryz.func41 rfl rfl rfl rfl 3 ?_;have la:(((dK a).length:Nat):Int)=(a.length:Int):=by simp[dK]
 have lb:(((dK b).length:Nat):Int)=(b.length:Int):=by simp[dK]
 obtain⟨ha,ha5⟩:=ha;obtain⟨hb,hb5⟩:=hb;unfold hU;refine be ?_;refine cq (G:={ t:Nat // t<=a.length }) (fun t=>pO n m a b (cU (a.take t.1) b) t.1) (fun t=>a.length-t.1) ⟨0,ba _⟩
  (Tr.tab [(4,1000),(5,1001)] [] ⟨.rn,.rn,.rn,.rn,.sm,aa⟩ ⟨.sm,.sm,.sm,.sm,.ph rfl,.ph rfl,aa⟩ rfl) ?_
 rintro⟨t,ht⟩;obtain⟨acc0,hacc0⟩:∃c,cU (a.take t) b=c:=⟨_,rfl⟩;show SW (XS J) _ _ _ _ (pO n m a b (cU (a.take t) b) t) _;rw[hacc0];by_cases h:t<a.length
 . as_aux_lemma=>
  obtain⟨⟨x,v⟩,hx⟩:∃x,a[t]?=some x:=⟨_,bi h⟩;obtain⟨gp,gv⟩:=rt hx;obtain⟨x0,x1,x2⟩:=ha _ (bN hx);unfold pO;repeat (first|(refine aG ?_)|(refine aM la ?_;conv=>whnf)|(refine aJ ?_))
  have e0:acc0++(b.take 0).map (ip x v)=acc0:=by simp
  refine cq (G:={ k:Nat // k<=b.length }) (fun k=>pI n m a b (acc0++(b.take k.1).map (ip x v)) t k.1) (fun k=>b.length-k.1) ⟨0,ba _⟩ ?_ ?_
  . show Tr _ _ (pI n m a b (acc0++(b.take 0).map (ip x v)) t 0);rw[e0];cases acc0 with
    |nil=>exact Tr.tab [] [] ⟨.rn,.rn,.rn,.rn,.sm,.sm,aa⟩ ⟨.sm,.sm,.sm,.rn,.sm rfl rfl fk,.sm rfl rfl fj,aa⟩ rfl
    |cons z l=>exact Tr.tab [] [] ⟨.rn,.rn,.rn,.rn,.sm,.sm,aa⟩ ⟨.sm,.sm,.sm,.rn,.sm rfl rfl fk,.sm rfl rfl fj,aa⟩ rfl
  rintro⟨k,hk⟩;obtain⟨acc,hacc⟩:∃c,acc0++(b.take k).map (ip x v)=c:=⟨_,rfl⟩;show SW (XS J) _ _ _ _ (pI n m a b (acc0++(b.take k).map (ip x v)) t k) _;rw[hacc];have hal:acc.length<=10000:=by
   rw[<-hacc,bg,aV,<-hacc0,bG];have:=G9 a b t;omega
  by_cases h2:k<b.length
  . as_aux_lemma=>
   obtain⟨⟨y,w⟩,hy⟩:∃x,b[k]?=some x:=⟨_,bi h2⟩;obtain⟨gq,gw⟩:=rt hy;obtain⟨y0,y1,y2⟩:=hb _ (bN hy);have x0:0<x.length:=x0;have x1:x.length<=100:=x1;have x2:rl v<2^34:=x2;have y0:0<y.length:=y0;have y1:y.length<=100:=y1;have y2:rl w<2^34:=y2;have c2:=wj J (g5 v) (g5 w) x2 y2;have hnew:acc0++(b.take (k+1)).map (ip x v)=acc ++ [(x++y,v*w)]:=by
    rw[dO,hy,dD,<-dI,hacc];rfl
   have efr:((rC x).take (x.length*4)++rC y).take ((x.length+y.length)*4)=(((x++y).map rr).flatMap IV.cells).map .iv:=by
    rw[ay (i:=x.length*4) (by rw[lV];exact ah _),<-zA];exact ay (by rw[lV,bg];exact ah _)
   unfold pI;cases acc with
   |nil=> as_aux_lemma=>
    repeat (first|(refine aG ?_)|((first|refine aM lb ?_|refine aO (j:=t) ?_ rfl gp);conv=>whnf)|(refine aJ ?_))
    refine bK (g:=6) (b:=1) (tU rfl rfl (yN (l:=x)) x0 (by omega) (by show _*64<=_;omega) rfl rfl rfl rfl rfl) (by show 6<6+1;decide) ?_;conv=>whnf
    repeat (first|(refine aO (j:=k) ?_ rfl gq;conv=>whnf)|(refine aJ ?_))
    refine bK (g:=7) (b:=1) (ch (m:=y.length) (p:=x.length*4) (sz:=4) rfl rfl ?_ (yN (l:=y)) (by omega) (by omega) (by omega) (by show _*64<=_;omega) (dU) rfl rfl rfl rfl rfl) (by show 7<7+1;decide) ?_
    . show cW 0 [(0,(rC x).length)]=_;rw[lV];exact bn _ _
    conv=>whnf
    repeat (first|((first|refine SW.R ?_|refine aO (j:=t) ?_ rfl gv|refine aO (j:=k) ?_ rfl gw|refine aD c2 ?_);conv=>whnf)|(refine aJ ?_))
    refine⟨⟨k+1,h2⟩,?_,by dsimp only;omega⟩;show Tr _ _ (pI n m a b (acc0++(b.take (k+1)).map (ip x v)) t (k+1));rw[hnew];exact(ge (g:=6) (u:=1) (n:=x.length+y.length) (es:=(x++y).map rr) [] [(9,_)] (fq 4 rfl (gD _ _ _) (by simp) (pC _) (ah _) efr) trivial ⟨⟨by decide,FzO.mk rfl (.cons (.fz _) (.sm _))⟩,aa⟩).trans
     (Tr.tab [(4,9),(5,11)] [] ⟨.rn,.rn,.rn,.rn,.sm,.sm,aa⟩ ⟨.sm,.sm,.sm,.rn,.sm rfl rfl fk,.sm rfl rfl fj,aa⟩ rfl)
   |cons z l=> as_aux_lemma=>
    have hl:l.length+1<=10000:=hal;repeat (first|(refine aG ?_)|((first|refine aM lb ?_|refine aO (j:=t) ?_ rfl gp);conv=>whnf)|(refine aJ ?_))
    refine bK (g:=6) (b:=1) (tU rfl rfl (yN (l:=x)) x0 (by omega) (by show _*64<=_;omega) rfl rfl rfl rfl rfl) (by show 6<6+1;decide) ?_;conv=>whnf
    repeat (first|(refine aO (j:=k) ?_ rfl gq;conv=>whnf)|(refine aJ ?_))
    refine bK (g:=7) (b:=1) (ch (m:=y.length) (p:=x.length*4) (sz:=4) rfl rfl ?_ (yN (l:=y)) (by omega) (by omega) (by omega) (by show _*64<=_;omega) (dU) rfl rfl rfl rfl rfl) (by show 7<7+1;decide) ?_
    . show cW 0 [(0,(rC x).length)]=_;rw[lV];exact bn _ _
    conv=>whnf
    skip
    refine bK (g:=9) (b:=1) (ch (p:=l.length+1) (sz:=1) rfl rfl (bn _ _) rfl (by omega) (by omega) (by omega) (by show _*24<=_;omega) rfl rfl rfl rfl rfl rfl) (by show 9<9+1;decide) ?_;conv=>whnf
    repeat (first|((first|refine SW.R ?_|refine aO (j:=t) ?_ rfl gv|refine aO (j:=k) ?_ rfl gw|refine aD c2 ?_);conv=>whnf)|(refine aJ ?_))
    refine bK (g:=11) (b:=1) (ch (p:=(l.length+1)*4) (sz:=4) rfl rfl (bn _ _) rfl (by omega) (by omega) (by omega) (by show _*64<=_;omega) rfl rfl rfl rfl rfl rfl) (by show 11<11+1;decide) ?_;conv=>whnf
    refine be ?_;refine⟨⟨k+1,h2⟩,?_,by dsimp only;omega⟩;show Tr _ _ (pI n m a b (acc0++(b.take (k+1)).map (ip x v)) t (k+1));rw[hnew];exact(ge (g:=6) (u:=1) (n:=x.length+y.length) (es:=(x++y).map rr) [] [(4,_)] (fq 4 rfl (gD _ _ _) (by simp) (pC _) (ah _) efr) trivial ⟨⟨by decide,FzO.mk rfl (.app (.sm _) (.cons (.fz _) (.sm _)))⟩,aa⟩).trans
     (Tr.tab [] [(4,.one 1),(5,.one 1)] ⟨.rn,.rn,.rn,.rn,.sm,.sm,aa⟩ ⟨.sm,.sm,.sm,.rn rfl rfl tC,uf,ue,aa⟩ rfl)
  have e:k=b.length:=by omega
  subst e;rw[cN] at hacc;have e1:cU (a.take (t+1)) b=acc:=by rw[Ha hx,hacc0];exact hacc
  unfold pI;repeat (first|(refine aG ?_)|(refine aM lb ?_;conv=>whnf)|(refine aJ ?_))
  refine⟨⟨t+1,h⟩,?_,by dsimp only;omega⟩;show Tr _ _ (pO n m a b (cU (a.take (t+1)) b) (t+1));rw[e1];cases acc with
  |nil=>exact Tr.tab [] [] ⟨.rn,.rn,.rn,.rn,.sm,aa⟩ ⟨.sm,.sm,.sm,.rn,.sm rfl rfl fk,.sm rfl rfl fj,aa⟩ rfl
  |cons z l=>exact Tr.tab [] [] ⟨.rn,.rn,.rn,.rn,.sm,aa⟩ ⟨.sm,.sm,.sm,.rn,.sm rfl rfl fk,.sm rfl rfl fj,aa⟩ rfl
 have e:t=a.length:=by omega
 subst e;rw[cN] at hacc0;rw[hacc0];unfold pO;cases acc0 with
 |nil=> as_aux_lemma=>
  repeat (first|(refine aG ?_)|(refine aM la ?_;conv=>whnf)|(refine aJ ?_))
  rfl
 |cons z l=> as_aux_lemma=>
  refine SW.tr (s':=aR [(2,.w (.one (.ptr 0 0 0))),(4,.w (.one (.ptr 2 0 0))),(5,.w (.one (.ptr 3 0 0))),(6,ae (di (a.length:Int)))] [(0,eI n a),(2,cJ 0 []),(3,eI (n+m) (z::l))] 6)
   ((ge (g:=4) (u:=0) (n:=l.length+1) (es:=dK (z::l)) [] [(3,_)] (fq (p:=l.length+1) 1 rfl (bn _ _) (by simp[dK]) (vW _) (by omega) (by rw[<-vm];exact ay (by rw[th,eB];exact ah _))) trivial ⟨⟨by decide,FzO.mk rfl (.cons (.sm _) (.cons (.fz _) (.sm _)))⟩,aa⟩).trans
     ((ge (g:=5) (u:=0) (n:=l.length+1) (es:=(bt (z::l)).map rr) [] [(3,_)] (fq (p:=(l.length+1)*4) 4 rfl (bn _ _) (by simp) (pC _) (ah _) (ay (by show(rC (bt (z::l))).length<=_;rw[lV,aV];exact ah _))) trivial ⟨⟨by decide,FzO.mk rfl (.cons (.sm _) (.cons (.sm _) (.cons (.fz _) (.sm _))))⟩,aa⟩).trans
       (Tr.tab [] [] ⟨.rn,.rn,.rn,.sm,aa⟩ ⟨.sm,.sm,.sm,aa⟩ rfl))) ?_
  repeat (first|(refine aG ?_)|(refine aM la ?_;conv=>whnf)|(refine aJ ?_))
  rfl
end Go.Proofs.En
namespace Go.Proofs.Pt
open Go.Proofs.Reg (Hb)
def Jd(t:Tm):∀(os:List Tm) (d:Bool),∀x∈insF t d os,x.1=t.1\/∃o∈os,x.1=o.1
 | [],d,x,hx=>by
  unfold insF at hx;split at hx
  . cases hx
  rw[List.mem_singleton.1 hx];exact .inl rfl
 |o::os,d,x,hx=>by
  unfold insF at hx;rcases List.mem_append.1 hx with hx|hx
  . split at hx
    . rw[List.mem_singleton.1 hx];exact .inl rfl
    cases hx
  rcases List.mem_cons.1 hx with rfl|hx
  . refine .inr ⟨o,by simp,?_⟩;split<;>rfl
  rcases Jd t os _ x hx with h|⟨y,hy,h⟩
  . exact .inl h
  exact .inr ⟨y,by simp[hy],h⟩
def Ca{f:List Tm}{t:Nat}{x:Tm}(h:f[t]?=some x):fV (f.take (t+1))=insF x false (fV (f.take t)):=by
 unfold fV;rw[dO,h,su];rfl
def yk{f:List Tm}:∀t,∀x∈fV (f.take t),∃y∈f,x.1=y.1
 |0,x,hx=>by simp[fV] at hx
 |t+1,x,hx=>by
  cases h:f[t]? with
  |none=>
   have hl:=List.getElem?_eq_none_iff.1 h;have e:f.take (t+1)=f.take t:=by rw[ay (by omega),ay hl]
   rw[e] at hx;exact yk t x hx
  |some y=>
   rw[Ca h] at hx;rcases Jd y _ false x hx with e|⟨o,ho,e⟩
   . exact⟨y,bN h,e⟩
   obtain⟨z,hz,e2⟩:=yk t o ho;exact⟨z,hz,e.trans e2⟩
def Je(t:Tm):∀(os:List Tm) (d:Bool),(insF t d os).length<=os.length+(if d then 0 else 1)
 | [],d=>by unfold insF;split<;>simp
 |o::os,d=>by
  have ih:=Je t os (d||decide (befI t.1 o.1<0)||decide (befI t.1 o.1=0));unfold insF;rw[bg,aY,aY];cases d<;>by_cases h:befI t.1 o.1<0<;>simp[h] at ih ⊢ <;> (try split at ih)<;>omega
def CK{f:List Tm}:∀t,t<=f.length->(fV (f.take t)).length<=t
 |0,_=>by simp[fV]
 |t+1,h=>by
  have hx:f[t]?=some f[t]:=bi (by omega);rw[Ca hx];have h1:=Je f[t] (fV (f.take t)) false;have h2:=CK (f:=f) t (by omega);simp at h1;omega
structure InR(t:Tm)(os:List Tm) where
 k:Nat
 nx:List Tm
 d:Bool
 hk:k<=os.length
 hl:nx.length<=2*k
 eq:nx++insF t d (os.drop k)=insF t false os
def InR.step{t o:Tm}{os nx:List Tm}{k:Nat}{d:Bool}(ho:os[k]?=some o)(eq:nx++insF t d (os.drop k)=insF t false os) :
 (nx++(if !d&&decide (befI t.1 o.1<0) then [t] else []) ++ [if befI t.1 o.1=0 then(o.1,o.2+t.2) else o])++insF t (d||decide (befI t.1 o.1<0)||decide (befI t.1 o.1=0)) (os.drop (k+1))=insF t false os:=by
 obtain⟨hk,he⟩:=List.getElem?_eq_some_iff.1 ho;rw[<-eq,gS hk,he,insF];simp
end Go.Proofs.Pt
namespace Go.Proofs.En
open Go.RowKit Go.Proofs.Fl Go.Proofs.Dig
attribute [local irreducible] IntKind.wrap aW bc bj bm SW c7 CallOk To Tr ct
open Go.Proofs.Reg
open Go.Proofs.Pt
structure MrOk(N j:Nat)(c:Cl):Prop where
 l:c.length<=10000
 n:N<=100
 p:∀x∈c,x.1.length=N/\∀y∈x.1,rl y<2^34
 w:∀x∈c,Hb j x.2
 j:j<2^16
noncomputable def mO(n:Int)(c all:Cl)(t:Nat):SS:=aR [(1,.w (.one (.ptr 0 0 0))),(2,.w (.one (.ptr 1 0 0))),(3,.w (.one (.ptr 2 0 0))),(4,ae (di (t:Int)))]
 [(0,eI n c),(1,cJ 0 []),(2,eI n all)] 3
noncomputable def mI(n:Int)(c all nx:Cl)(t k:Nat)(d:Bool):SS:=aR [(1,.w (.one (.ptr 0 0 0))),(2,.w (.one (.ptr 1 0 0))),(3,.w (.one (.ptr 2 0 0))),(4,ae (di (t:Int))),(5,.w (.one (.ptr 3 0 0))),(6,ae (.bool d)),(7,ae (di (k:Int)))]
 [(0,eI n c),(1,cJ 0 []),(2,eI n all),(3,cJ n nx),(4,rA nx),(5,rW nx)] 6
noncomputable def mJ(n:Int)(c all nx:Cl)(t k:Nat)(d:Bool)(b:Int):SS:=aR [(1,.w (.one (.ptr 0 0 0))),(2,.w (.one (.ptr 1 0 0))),(3,.w (.one (.ptr 2 0 0))),(4,ae (di (t:Int))),(5,.w (.one (.ptr 3 0 0))),(6,ae (.bool d)),(7,ae (di (k:Int))),(8,ae (di b))]
 [(0,eI n c),(1,cJ 0 []),(2,eI n all),(3,cJ n nx),(4,rA nx),(5,rW nx)] 6
noncomputable def mK(n:Int)(c all nx:Cl)(t k:Nat)(d:Bool)(w:Rat):SS:=aR [(1,.w (.one (.ptr 0 0 0))),(2,.w (.one (.ptr 1 0 0))),(3,.w (.one (.ptr 2 0 0))),(4,ae (di (t:Int))),(5,.w (.one (.ptr 3 0 0))),(6,ae (.bool d)),(7,ae (di (k:Int))),(9,.w (.one (.ptr 6 0 0)))]
 [(0,eI n c),(1,cJ 0 []),(2,eI n all),(3,cJ n nx),(4,rA nx),(5,rW nx),(6,.mem 98 ((rr w).cells.map .iv) false [(0,4)] 1)] 7
noncomputable def mE(n:Int)(c all nx:Cl)(t:Nat):SS:=aR [(1,.w (.one (.ptr 0 0 0))),(2,.w (.one (.ptr 1 0 0))),(3,.w (.one (.ptr 2 0 0))),(4,ae (di (t:Int))),(5,.w (.one (.ptr 3 0 0)))]
 [(0,eI n c),(1,cJ 0 []),(2,eI n all),(3,eI n nx)] 6
noncomputable def mF(n:Int)(all acc:Cl)(t:Nat):SS:=aR [(2,.w (.one (.ptr 1 0 0))),(3,.w (.one (.ptr 2 0 0))),(10,.w (.one (.ptr 3 0 0))),(11,ae (di (t:Int)))]
 [(1,cJ 0 []),(2,eI n all),(3,cJ n acc),(4,rA acc),(5,rW acc)] 6
attribute [local irreducible] kV
def jY{V:Rv}(h4:∀u,V 4 u=(4,u))(h5:∀u,V 5 u=(5,u)){n:Int}{acc:Cl}:qo V (cJ n acc)=cJ n acc:=by
 cases acc with
 |nil=>rfl
 |cons x l=>show EO.mem 33 [.iv (di n),.slc (V 4 0).1 (V 4 0).2 0 (l.length+1) (.fin 1),.slc (V 5 0).1 (V 5 0).2 0 (l.length+1) (.fin 4)] false [(0,3)] 1=_;rw[h4,h5];rfl
def jV{P:Nat->Nat->Bool}(h4:∀u,P 4 u=true)(h5:∀u,P 5 u=true){n:Int}{acc:Cl}:w5 P (cJ n acc)=true:=by
 cases acc with
 |nil=>rfl
 |cons x l=>show(true&&(P 4 0&&(P 5 0&&true)))=true;rw[h4,h5];rfl
def Ex{n:Int}{c all nf:Cl}{t k:Nat}{d:Bool}:Tr 0 (mI n c all nf t k d) (mE n c all nf t):=by
 cases nf with
 |nil=>exact(Tr.cd (g:=3) rfl (.cons (.sm _) (.cons .nl (.cons .nl (.sm []))))).trans (Tr.tab [] [] ⟨.rn,.rn,.rn,.sm,.rn,aa⟩ ⟨.sm,.sm,.sm,.sm,aa⟩ rfl)
 |cons z l=>
  exact(ge (g:=4) (u:=0) (n:=l.length+1) (es:=dK (z::l)) [] [(3,_)] (fq (p:=l.length+1) 1 rfl (bn _ _) (by simp[dK]) (vW _) (by omega) (by rw[<-vm];exact ay (by rw[th,eB];exact ah _))) trivial ⟨⟨by decide,FzO.mk rfl (.cons (.sm _) (.cons (.fz _) (.sm _)))⟩,aa⟩).trans
   ((ge (g:=5) (u:=0) (n:=l.length+1) (es:=(bt (z::l)).map rr) [] [(3,_)] (fq (p:=(l.length+1)*4) 4 rfl (bn _ _) (by simp) (pC _) (ah _) (ay (by show(rC (bt (z::l))).length<=_;rw[lV,aV];exact ah _))) trivial ⟨⟨by decide,FzO.mk rfl (.cons (.sm _) (.cons (.sm _) (.cons (.fz _) (.sm _))))⟩,aa⟩).trans
     (Tr.tab [] [] ⟨.rn,.rn,.rn,.sm,.rn,aa⟩ ⟨.sm,.sm,.sm,.sm,aa⟩ rfl))
def TC(J:Keep){N j:Nat}{n:Int}{c:Cl}(hc:MrOk N j c):Go.Proofs.Fl.C J 42 [hU n c] (hU n (fw c)):=by
 refine lk Tryz.func42 rfl rfl rfl rfl 3 ?_;have lc:(((dK c).length:Nat):Int)=(c.length:Int):=by simp[dK]
 obtain⟨hl,hN,hp,hw,hj⟩:=hc;have hins:=fun t (ht:t<=c.length)=>CK (f:=c) t ht;have hkey:=fun t=>yk (f:=c) t;have hrl:∀t,∀x∈fV (c.take t),rl x.2<2^34:=fun t x hx=>by
  have h1:=KI (f:=c.take t) (fun y hy=>hw y (dY hy)) x hx;have h2:=ob h1;have h3:(c.take t).length*(j+1)<=10000*2^16:=eT (by rw[bG];omega) (by omega);omega
 unfold hU;refine be ?_;refine cq (G:={ t:Nat // t<=c.length }) (fun t=>mO n c (fV (c.take t.1)) t.1) (fun t=>c.length-t.1) ⟨0,ba _⟩
  ((Tr.cd (g:=2) rfl (.cons (.sm _) (.cons .nl (.cons .nl (.sm []))))).trans (Tr.tab [] [] ⟨.rn,.rn,.rn,.sm,aa⟩ ⟨.sm,.sm,.sm,aa⟩ rfl)) ?_
 rintro⟨t,ht⟩;obtain⟨all,hall⟩:∃a,fV (c.take t)=a:=⟨_,rfl⟩;show SW (XS J) _ _ _ _ (mO n c (fV (c.take t)) t) _;have hal:=hins t ht;have hak:=hkey t;have hat:=hrl t;rw[hall] at hal hak hat ⊢;have lall:(((dK all).length:Nat):Int)=(all.length:Int):=by simp[dK]
 by_cases h:t<c.length
 . as_aux_lemma=>
  obtain⟨⟨p,w⟩,hx⟩:∃x,c[t]?=some x:=⟨_,bi h⟩;obtain⟨gp,gw⟩:=rt hx;have hxm:=bN hx;have hsn:=Ca hx;rw[hall] at hsn;have hrw:rl w<2^34:=by
   have:=ob (hw _ hxm);have h3:rl w<=2*(j+1):=this;omega
  unfold mO;repeat (first|(refine aG ?_)|(refine aM lc ?_;conv=>whnf)|(refine aJ ?_))
  refine cq (G:=InR (p,w) all) (fun g=>mI n c all g.nx t g.k g.d) (fun g=>all.length-g.k) ⟨0,[],false,ba _,ba _,rfl⟩
   (Tr.tab [(4,1000),(5,1001)] [] ⟨.rn,.rn,.rn,.sm,.rn,.sm,.sm,aa⟩ ⟨.sm,.sm,.sm,.sm,.ph rfl,.ph rfl,aa⟩ rfl) ?_
  rintro⟨k,nx,d,hk,hnl,heq⟩;show SW (XS J) _ _ _ _ (mI n c all nx t k d) _;by_cases h2:k<all.length
  . as_aux_lemma=>
   obtain⟨⟨p',w'⟩,hy⟩:∃x,all[k]?=some x:=⟨_,bi h2⟩;obtain⟨gq,gv⟩:=rt hy;have hym:=bN hy;obtain⟨x',hx',ex'⟩:=hak _ hym;have hst:=InR.step hy heq;obtain⟨b,hb⟩:∃b,befI p p'=b:=⟨_,rfl⟩;have c1:=VH J (a:=p) (b:=p') (by rw[(hp _ hxm).1];have e:p'=x'.1:=ex';rw[e,(hp _ hx').1]) (by rw[(hp _ hxm).1];omega) (hp _ hxm).2 (by have e:p'=x'.1:=ex';rw[e];exact(hp _ hx').2);rw[hb] at c1;have hst:(nx++(if !d&&decide (b<0) then [(p,w)] else []) ++ [if b=0 then(p',w'+w) else(p',w')])++insF (p,w) (d||decide (b<0)||decide (b=0)) (all.drop (k+1))=insF (p,w) false all:=by rw[<-hb];exact hst
   have hbv:=befI_vals p p';rw[hb] at hbv;have hrv:rl w'<2^34:=hat _ hym;have c2:=Wq J (g5 w') (g5 w) hrv hrw;obtain⟨n1,hn1⟩:∃n1,nx++(if !d&&decide (b<0) then [(p,w)] else [])=n1:=⟨_,rfl⟩;obtain⟨d1,hd1⟩:∃d1,(d||decide (b<0))=d1:=⟨_,rfl⟩;obtain⟨d2,hd2⟩:∃d2,(d1||decide (b=0))=d2:=⟨_,rfl⟩;obtain⟨v,hv⟩:∃v,(if b=0 then w'+w else w')=v:=⟨_,rfl⟩;rw[hn1,hd1,hd2,show(if b=0 then(p',w'+w) else(p',w'))=(p',v) by rw[<-hv];split<;>rfl] at hst;unfold mI;repeat (first|(refine rb (G:=Unit) (x:=.seq (.region 11 _ _) _) (fun _=>mJ n c all n1 t k d1 b) ?_ (fun _=>?_))|((first|refine SW.R ?_|refine SW.c ?_|refine aM lall ?_|refine aO (j:=t) ?_ rfl gp|refine aO (j:=k) ?_ rfl gq|refine aD c1 ?_);conv=>whnf)|(refine aJ ?_))
   . as_aux_lemma=>
    unfold kV;cases d with
    |true=> as_aux_lemma=>
     have e1:n1=nx:=by rw[<-hn1];simp
     have e2:d1=true:=by rw[<-hd1];rfl
     subst e1 e2;repeat (first|(refine aG ?_)|(refine SW.condF rfl ?_)|((first|refine dX ?_|refine lB ?_);conv=>whnf))
     exact⟨(),Tr.tab [] [] ⟨.rn,.rn,.rn,.sm,.rn,.sm,.sm,.sm,aa⟩ ⟨.sm,.sm,.sm,.rn rfl rfl (jY (fun _=>rfl) fun _=>rfl) (jV (fun _=>rfl) fun _=>rfl),.sm rfl rfl fk,.sm rfl rfl fj,aa⟩ rfl⟩
    |false=> as_aux_lemma=>
     by_cases hlt:b<0
     . as_aux_lemma=>
      have e1:n1=nx ++ [(p,w)]:=by rw[<-hn1];simp[hlt]
      have e2:d1=true:=by rw[<-hd1];simp[hlt]
      subst e1 e2;cases nx with
      |nil=> as_aux_lemma=>
       repeat (first|(refine aG ?_)|(refine SW.condT rfl ?_)|((first|refine cY ?_|refine aO (j:=t) ?_ rfl gp|refine aO (j:=t) ?_ rfl gw);conv=>whnf)|(refine aJ ?_))
       exact⟨(),Tr.tab [(4,7),(5,9)] [] ⟨.rn,.rn,.rn,.sm,.rn,.sm,.sm,.sm,aa⟩ ⟨.sm,.sm,.sm,.rn,.sm rfl rfl fk,.sm rfl rfl fj,aa⟩ rfl⟩
      |cons z l=> as_aux_lemma=>
       simp only[aY] at hnl;repeat (first|((first|refine SW.RS ?_|refine cY ?_|refine aO (j:=t) ?_ rfl gp);conv=>whnf)|(refine aJ ?_)|(refine SW.condT rfl ?_))
       refine bK (g:=7) (b:=1) (ch (p:=l.length+1) (sz:=1) rfl rfl (bn _ _) rfl (by omega) (by omega) (by omega) (by show _*24<=_;omega) rfl rfl rfl rfl rfl rfl) (by show 7<7+1;decide) ?_;conv=>whnf
       repeat (first|(refine aO (j:=t) ?_ rfl gw;conv=>whnf)|(refine aJ ?_))
       refine bK (g:=9) (b:=1) (ch (p:=(l.length+1)*4) (sz:=4) rfl rfl (bn _ _) rfl (by omega) (by omega) (by omega) (by show _*64<=_;omega) rfl rfl rfl rfl rfl rfl) (by show 9<9+1;decide) ?_;conv=>whnf
       refine be ?_;exact⟨(),Tr.tab [] [(4,.one 1),(5,.one 1)] ⟨.rn,.rn,.rn,.sm,.rn,.sm,.sm,.sm,aa⟩ ⟨.sm,.sm,.sm,.rn rfl rfl tC,uf,ue,aa⟩ rfl⟩
     have e1:n1=nx:=by rw[<-hn1];simp[hlt]
     have e2:d1=false:=by rw[<-hd1];simp[hlt]
     subst e1 e2;repeat (first|(refine aG ?_)|(refine SW.condF rfl ?_)|(refine cY ?_;conv=>whnf)|(refine aJ ?_))
     exact⟨(),Tr.tab [] [] ⟨.rn,.rn,.rn,.sm,.rn,.sm,.sm,.sm,aa⟩ ⟨.sm,.sm,.sm,.rn rfl rfl (jY (fun _=>rfl) fun _=>rfl) (jV (fun _=>rfl) fun _=>rfl),.sm rfl rfl fk,.sm rfl rfl fj,aa⟩ rfl⟩
   have hn1l:n1.length<=2*k+1:=by
    rw[<-hn1,bg];split<;>simp<;>omega
   unfold mJ;repeat (first|(refine rb (G:=Unit) (x:=.seq (.region 15 _ _) _) (fun _=>mK n c all n1 t k d2 v) ?_ (fun _=>?_))|((first|refine SW.RS ?_|refine aO (j:=k) ?_ rfl gv);conv=>whnf)|(refine aJ ?_))
   . as_aux_lemma=>
    unfold kV;by_cases hb0:b=0
    . as_aux_lemma=>
     have e1:v=w'+w:=by rw[<-hv,au hb0]
     have e2:d2=true:=by rw[<-hd2];simp[hb0]
     subst e1 e2;repeat (first|(refine aG ?_)|(refine SW.condT rfl ?_)|((first|refine aO (j:=t) ?_ rfl gw|refine aD c2 ?_);conv=>whnf)|(refine aJ ?_))
     exact⟨(),Tr.tab [] [] ⟨.rn,.rn,.rn,.sm,.rn,.sm,.sm,.rn,aa⟩ ⟨.sm,.sm,.sm,.rn rfl rfl (jY (fun _=>rfl) fun _=>rfl) (jV (fun _=>rfl) fun _=>rfl),.sm rfl rfl fk,.sm rfl rfl fj,.sm,aa⟩ rfl⟩
    have e1:v=w':=by rw[<-hv,aq hb0]
    have e2:d2=d1:=by rw[<-hd2];simp[hb0]
    subst e1 e2;repeat (first|(refine aG ?_)|(refine SW.condF rfl ?_)|(refine yF ?_;conv=>whnf))
    exact⟨(),Tr.tab [] [] ⟨.rn,.rn,.rn,.sm,.rn,.sm,.sm,.rn,aa⟩ ⟨.sm,.sm,.sm,.rn rfl rfl (jY (fun _=>rfl) fun _=>rfl) (jV (fun _=>rfl) fun _=>rfl),.sm rfl rfl fk,.sm rfl rfl fj,.sm,aa⟩ rfl⟩
   unfold mK;cases n1 with
   |nil=> as_aux_lemma=>
    repeat (first|((first|refine SW.R ?_|refine aO (j:=k) ?_ rfl gq);conv=>whnf)|(refine aJ ?_))
    refine⟨⟨k+1,[(p',v)],d2,h2,by simp;omega,hst⟩,?_,by dsimp only;omega⟩;exact Tr.tab [(4,8),(5,10)] [] ⟨.rn,.rn,.rn,.sm,.rn,.sm,.sm,aa⟩ ⟨.sm,.sm,.sm,.rn,.sm rfl rfl fk,.sm rfl rfl fj,aa⟩ rfl
   |cons z l=> as_aux_lemma=>
    simp only[aY] at hn1l;repeat (first|((first|refine SW.R ?_|refine aO (j:=k) ?_ rfl gq);conv=>whnf)|(refine aJ ?_))
    refine bK (g:=8) (b:=1) (ch (p:=l.length+1) (sz:=1) rfl rfl (bn _ _) rfl (by omega) (by omega) (by omega) (by show _*24<=_;omega) rfl rfl rfl rfl rfl rfl) (by show 8<8+1;decide) ?_;conv=>whnf
    refine be ?_;refine bK (g:=10) (b:=1) (ch (p:=(l.length+1)*4) (sz:=4) rfl rfl (bn _ _) rfl (by omega) (by omega) (by omega) (by show _*64<=_;omega) rfl rfl rfl rfl rfl rfl) (by show 10<10+1;decide) ?_;conv=>whnf
    refine be ?_;refine⟨⟨k+1,(z::l) ++ [(p',v)],d2,h2,by simp;omega,hst⟩,?_,by dsimp only;omega⟩;exact Tr.tab [] [(4,.one 1),(5,.one 1)] ⟨.rn,.rn,.rn,.sm,.rn,.sm,.sm,aa⟩ ⟨.sm,.sm,.sm,.rn rfl rfl tC,uf,ue,aa⟩ rfl
  have e:k=all.length:=by omega
  subst e;obtain⟨nf,hnf⟩:∃nf,Pt.insF (p,w) false all=nf:=⟨_,rfl⟩;rw[hnf,xN,Pt.insF] at heq;unfold mI;repeat (first|(refine rb (G:=Unit) (x:=.seq (.region 19 _ _) _) (fun _=>mE n c all nf t) ?_ (fun _=>?_))|((first|refine SW.R ?_|refine SW.c ?_|refine aM lall ?_);conv=>whnf)|(refine aJ ?_))
  . as_aux_lemma=>
   unfold kV;cases d with
   |true=> as_aux_lemma=>
    have e1:nx=nf:=by rw[<-heq];simp
    subst e1;repeat (first|(refine aG ?_)|(refine SW.condF rfl ?_)|(refine lB ?_;conv=>whnf))
    exact⟨(),Tr.trans (b:=(mI n c all nx t all.length true)) (Tr.tab [] [] ⟨.rn,.rn,.rn,.sm,.rn,.sm,.sm,aa⟩ ⟨.sm,.sm,.sm,.rn rfl rfl (jY (fun _=>rfl) fun _=>rfl) (jV (fun _=>rfl) fun _=>rfl),.sm rfl rfl fk,.sm rfl rfl fj,aa⟩ rfl) Ex⟩
   |false=> as_aux_lemma=>
    have e1:nf=nx ++ [(p,w)]:=by rw[<-heq];simp
    subst e1;cases nx with
    |nil=> as_aux_lemma=>
     repeat (first|(refine aG ?_)|(refine SW.condT rfl ?_)|((first|refine aO (j:=t) ?_ rfl gp|refine aO (j:=t) ?_ rfl gw);conv=>whnf)|(refine aJ ?_))
     exact⟨(),Tr.trans (b:=(mI n c all [(p,w)] t all.length false)) (Tr.tab [(4,7),(5,9)] [] ⟨.rn,.rn,.rn,.sm,.rn,.sm,.sm,aa⟩ ⟨.sm,.sm,.sm,.rn,.sm rfl rfl fk,.sm rfl rfl fj,aa⟩ rfl) Ex⟩
    |cons z l=> as_aux_lemma=>
     simp only[aY] at hnl;repeat (first|(refine aG ?_)|(refine SW.condT rfl ?_)|(refine aO (j:=t) ?_ rfl gp;conv=>whnf)|(refine aJ ?_))
     refine bK (g:=7) (b:=1) (ch (p:=l.length+1) (sz:=1) rfl rfl (bn _ _) rfl (by omega) (by omega) (by omega) (by show _*24<=_;omega) rfl rfl rfl rfl rfl rfl) (by show 7<7+1;decide) ?_;conv=>whnf
     repeat (first|(refine aO (j:=t) ?_ rfl gw;conv=>whnf)|(refine aJ ?_))
     refine bK (g:=9) (b:=1) (ch (p:=(l.length+1)*4) (sz:=4) rfl rfl (bn _ _) rfl (by omega) (by omega) (by omega) (by show _*64<=_;omega) rfl rfl rfl rfl rfl rfl) (by show 9<9+1;decide) ?_;conv=>whnf
     refine be ?_;exact⟨(),Tr.trans (b:=(mI n c all ((z::l) ++ [(p,w)]) t all.length false)) (Tr.tab [] [(4,.one 1),(5,.one 1)] ⟨.rn,.rn,.rn,.sm,.rn,.sm,.sm,aa⟩ ⟨.sm,.sm,.sm,.rn rfl rfl tC,uf,ue,aa⟩ rfl) Ex⟩
  unfold mE;refine be ?_;refine⟨⟨t+1,h⟩,?_,by dsimp only;omega⟩;show Tr _ _ (mO n c (fV (c.take (t+1))) (t+1));rw[hsn,hnf];exact Tr.tab [] [] ⟨.rn,.rn,.rn,.sm,aa⟩ ⟨.sm,.sm,.sm,aa⟩ rfl
 have et:t=c.length:=by omega
 subst et;rw[cN] at hall;have hcan:fw c=all.filter fun x=>decide (x.2≠0):=by rw[<-hall];rfl
 rw[hcan];unfold mO;repeat (first|(refine aG ?_)|(refine aM lc ?_;conv=>whnf)|(refine aJ ?_))
 refine cq (G:={ t:Nat // t<=all.length }) (fun t=>mF n all ((all.take t.1).filter fun x=>decide (x.2≠0)) t.1) (fun t=>all.length-t.1) ⟨0,ba _⟩
  (Tr.tab [(4,1000),(5,1001)] [] ⟨.rn,.rn,.rn,.sm,aa⟩ ⟨.sm,.sm,.sm,.ph rfl,.ph rfl,aa⟩ rfl) ?_
 rintro⟨k,hk⟩;obtain⟨acc,hacc⟩:∃a,((all.take k).filter fun x=>decide (x.2≠0))=a:=⟨_,rfl⟩;show SW (XS J) _ _ _ _ (mF n all ((all.take k).filter fun x=>decide (x.2≠0)) k) _;have hacl:acc.length<=k:=by
  rw[<-hacc];refine bf (xo _ _) ?_;rw[bG];omega
 rw[hacc];by_cases h:k<all.length
 . as_aux_lemma=>
  obtain⟨⟨p',w'⟩,hy⟩:∃x,all[k]?=some x:=⟨_,bi h⟩;obtain⟨gq,gv⟩:=rt hy;have c1:=Wt (a:=w') (d1:=.int .i64 1) (d2:=.sl ((dh w'.den).map aj)) J;have hsn:((all.take (k+1)).filter fun x=>decide (x.2≠0))=acc++(if w'≠0 then [(p',w')] else []):=by
   rw[dO,hy,xO,hacc];congr 1;by_cases h0:w'=0<;>simp[h0]
  by_cases h0:w'=0
  . have es:w'.num.sign=0:=by rw[h0];rfl
    rw[es] at c1;rw[aq (by simp[h0]),eS] at hsn;unfold mF;repeat (first|(refine aG ?_)|((first|refine aM lall ?_|refine aO (j:=k) ?_ rfl gv|refine aD c1 ?_);conv=>whnf)|(refine aJ ?_))
    refine⟨⟨k+1,h⟩,?_,by dsimp only;omega⟩;show Tr _ _ (mF n all ((all.take (k+1)).filter fun x=>decide (x.2≠0)) (k+1));rw[hsn];exact Tr.tab [] [] ⟨.rn,.rn,.rn,.sm,aa⟩ ⟨.sm,.sm,.rn rfl rfl (jY (fun _=>rfl) fun _=>rfl) (jV (fun _=>rfl) fun _=>rfl),.sm rfl rfl fk,.sm rfl rfl fj,aa⟩ rfl
  have hs0:w'.num.sign≠0:=fun e=>h0 (Rat.num_eq_zero.1 (Int.sign_eq_zero_iff_zero.1 e));obtain⟨sg,hsg⟩:∃s,w'.num.sign=s:=⟨_,rfl⟩;rw[hsg] at hs0;rw[show(fx w' (.int .i64 1) (.sl ((dh w'.den).map aj)))=rr w' from rfl,hsg] at c1;rw[au h0] at hsn;unfold mF;cases acc with
  |nil=> as_aux_lemma=>
   repeat (first|(refine aG ?_)|((first|refine aM lall ?_|refine aO (j:=k) ?_ rfl gq|refine aO (j:=k) ?_ rfl gv|refine aD c1 ?_);conv=>whnf)|(refine aJ ?_))
   refine⟨⟨k+1,h⟩,?_,by dsimp only;omega⟩;show Tr _ _ (mF n all ((all.take (k+1)).filter fun x=>decide (x.2≠0)) (k+1));rw[hsn];exact Tr.tab [(4,7),(5,9)] [] ⟨.rn,.rn,.rn,.sm,aa⟩ ⟨.sm,.sm,.rn,.sm rfl rfl fk,.sm rfl rfl fj,aa⟩ rfl
  |cons z l=> as_aux_lemma=>
   simp only[aY] at hacl;repeat (first|(refine aG ?_)|((first|refine aM lall ?_|refine aO (j:=k) ?_ rfl gq|refine aO (j:=k) ?_ rfl gv|refine aD c1 ?_);conv=>whnf)|(refine aJ ?_))
   refine bK (g:=7) (b:=1) (ch (p:=l.length+1) (sz:=1) rfl rfl (bn _ _) rfl (by omega) (by omega) (by omega) (by show _*24<=_;omega) rfl rfl rfl rfl rfl rfl) (by show 7<7+1;decide) ?_;conv=>whnf
   repeat (first|(refine aO (j:=k) ?_ rfl gv;conv=>whnf)|(refine aJ ?_))
   refine bK (g:=9) (b:=1) (ch (p:=(l.length+1)*4) (sz:=4) rfl rfl (bn _ _) rfl (by omega) (by omega) (by omega) (by show _*64<=_;omega) rfl rfl rfl rfl rfl rfl) (by show 9<9+1;decide) ?_;conv=>whnf
   refine be ?_;refine⟨⟨k+1,h⟩,?_,by dsimp only;omega⟩;show Tr _ _ (mF n all ((all.take (k+1)).filter fun x=>decide (x.2≠0)) (k+1));rw[hsn];exact Tr.tab [] [(4,.one 1),(5,.one 1)] ⟨.rn,.rn,.rn,.sm,aa⟩ ⟨.sm,.sm,.rn rfl rfl tC,uf,ue,aa⟩ rfl
 have e:k=all.length:=by omega
 subst e;rw[cN] at hacc;rw[hacc];unfold mF;cases acc with
 |nil=> as_aux_lemma=>
  repeat (first|(refine aG ?_)|(refine aM lall ?_;conv=>whnf)|(refine aJ ?_))
  rfl
 |cons z l=> as_aux_lemma=>
  refine SW.tr (s':=aR [(2,.w (.one (.ptr 1 0 0))),(3,.w (.one (.ptr 2 0 0))),(10,.w (.one (.ptr 3 0 0))),(11,ae (di (all.length:Int)))] [(1,cJ 0 []),(2,eI n all),(3,eI n (z::l))] 6)
   ((ge (g:=4) (u:=0) (n:=l.length+1) (es:=dK (z::l)) [] [(3,_)] (fq (p:=l.length+1) 1 rfl (bn _ _) (by simp[dK]) (vW _) (by omega) (by rw[<-vm];exact ay (by rw[th,eB];exact ah _))) trivial ⟨⟨by decide,FzO.mk rfl (.cons (.sm _) (.cons (.fz _) (.sm _)))⟩,aa⟩).trans
     ((ge (g:=5) (u:=0) (n:=l.length+1) (es:=(bt (z::l)).map rr) [] [(3,_)] (fq (p:=(l.length+1)*4) 4 rfl (bn _ _) (by simp) (pC _) (ah _) (ay (by show(rC (bt (z::l))).length<=_;rw[lV,aV];exact ah _))) trivial ⟨⟨by decide,FzO.mk rfl (.cons (.sm _) (.cons (.sm _) (.cons (.fz _) (.sm _))))⟩,aa⟩).trans
       (Tr.tab [] [] ⟨.rn,.rn,.rn,.sm,aa⟩ ⟨.sm,.sm,.sm,aa⟩ rfl))) ?_
  repeat (first|(refine aG ?_)|(refine aM lall ?_;conv=>whnf)|(refine aJ ?_))
  rfl
end Go.Proofs.En
namespace Go.Proofs.Pt
open Go.Proofs.Reg (Cl sumI)
def IM(c:Nat):∀m,(List.range m).filter (fun p=>decide (p<c))=List.range (min m c)
 |0=>by simp
 |m+1=>by
  rw[sG,xO,IM c m];by_cases h:m<c
  . rw[ce (by omega),ce (by omega),sG];simp[h]
  rw[Nat.min_eq_right (by omega),Nat.min_eq_right (by omega)];simp[h]
def ub(m q:Nat)(l:List Int):Nat:=min m ((q:Int)-sumI l).toNat
def gO(l:List Int)(t:Nat):List (List Int):=(List.range t).map fun(p:Nat)=>l ++ [(p:Int)+1]
def Re(l:List Int)(t:Nat):gO l (t+1)=gO l t ++ [l ++ [(t:Int)+1]]:=by
 unfold gO;rw[sG,dD];rfl
def JB(l:List Int)(t:Nat):(gO l t).length=t:=by simp[gO]
def HT(m q:Nat)(l:List Int):(((List.range m).filter fun(p:Nat)=>decide ((p:Int)+1+sumI l<=q)).map fun(p:Nat)=>l ++ [(p:Int)+1])=gO l (ub m q l):=by
 unfold gO ub;rw[<-IM];congr 1;apply List.filter_congr;intro p _;simp only[decide_eq_decide];omega
def PP{m q:Nat}{ls:List (List Int)}{k:Nat}{l:List Int}(h:ls[k]?=some l):gG m q (ls.take (k+1))=gG m q (ls.take k)++gO l (ub m q l):=by
 unfold gG;rw[dO,h,eV];simp only[A0,cO,Ge,eS];rw[HT]
def BT{m q:Nat}:∀ls:List (List Int),(gG m q ls).length<=m*ls.length
 | []=>ba _
 |l::ls=>by
  have ih:=BT (m:=m) (q:=q) ls;have e:gG m q (l::ls)=gO l (ub m q l)++gG m q ls:=by rw[<-HT];rfl
  rw[e,bg,JB,aY,cg];unfold ub;omega
def Ie{m q:Nat}(hm:m<=4):∀n,(dQ m q n).length<=4^n
 |0=>ah _
 |n+1=>by
  have h1:=BT (m:=m) (q:=q) (dQ m q n);have h2:=Ie (q:=q) hm n;show(gG m q (dQ m q n)).length<=_;rw[bX];have:m*(dQ m q n).length<=4*4^n:=eT hm h2;omega
end Go.Proofs.Pt
namespace Go.Proofs.En
open Go.RowKit Go.Proofs.Fl Go.Proofs.Dig
attribute [local irreducible] IntKind.wrap aW bc bj bm SW c7 CallOk To Tr ct
open Go.Proofs.Reg
open Go.Proofs.Pt
open Go.Proofs.Fl (fO cH)
noncomputable def ms(R:List Cl):IV:=.sl (R.map (hU 1))
def gH(ls:List (List Int)):List IV:=ls.map fun l=>.sl (l.map di)
def Qz(ls:List (List Int)):(gH ls).length=ls.length:=by simp[gH]
def HW{ls:List (List Int)}{k:Nat}{l:List Int}(h:ls[k]?=some l):(gH ls)[k]?=some (.sl (l.map di)):=by
 unfold gH;rw[bI,h];rfl
def J5:∀ls,b7 1 (gH ls)=true
 | []=>rfl
 |x::l=>by
  have:=J5 l;unfold b7 gH at this ⊢;rw[aZ,dl,this];rfl
def kP(ls:List (List Int)):List EV:=ls.map fun l=>.iv (.sl (l.map di))
def BW(ls:List (List Int)):(kP ls).length=ls.length:=by simp[kP]
def QA(a b:List (List Int)):kP (a++b)=kP a++kP b:=by simp[kP]
def Bo:∀ls,(kP ls).flatMap bv=[]
 | []=>rfl
 |_::l=>Bo l
def GO:∀ls,kP ls=((gH ls).flatMap IV.cells).map .iv
 | []=>rfl
 |x::l=>by
  have:=GO l;show EV.iv (.sl (x.map di))::kP l=_;rw[this];rfl
def Ft:List (List Int)->EV
 | []=>.iv (.nil 3)
 |_::l=>.slc 2 0 0 (l.length+1) (.fin 1)
def w8(acc:List (List Int)):EO:=match acc with
 | []=>.mem 63 [] false [] 0
 |_::l=>.mem 63 (kP acc) false [(0,l.length+1)] 1
def oR{acc:List (List Int)}:fR (w8 acc):=by
 cases acc with
 |nil=>exact(rfl:([]:List EV).flatMap bv=[])
 |cons x l=>exact Bo _
def MI{r:List (Nat×Nat)}{m:List (Nat×EO)}{X:Option EO}{z x:List Int}{l:List (List Int)}{vs:List (Nat×Nat)}{c q:Nat}(h:X=some (.mem 63 ((kP (z::l)).take ((l.length+1)*1) ++ [.iv (.sl (x.map di))]) false ((1,q)::vs) c))(hq:l.length+2<=q:=by omega) :
 BoxT r [(2,.one 1)] m 2 X (w8 ((z::l) ++ [x])):=by
 have e:w8 ((z::l) ++ [x])=.mem 63 (kP ((z::l) ++ [x])) false [(0,l.length+2)] 1:=by
  show EO.mem 63 _ false [(0,(l ++ [x]).length+1)] 1=_;rw[ra]
 rw[e];refine .ver rfl h (gD _ _ _) hq ?_ ?_ (Bo _)
 . rw[BW];simp
 rw[ay (i:=(l.length+1)*1) (by rw[BW,eB];exact ah _),QA];rfl
def LL{z x:List Int}{l:List (List Int)}:ES.w (.one (.slc 2 0 0 (l.length+1+1) (.fin 1)))=.w (.one (Ft ((z::l) ++ [x]))):=by
 show _=ES.w (.one (.slc 2 0 0 ((l ++ [x]).length+1) (.fin 1)));rw[ra]
def J8{h:Hp}{l:List Int}:fU h 1 (.w (.one (.iv (.sl (l.map di)))))=some (iL l,l.length):=by
 show(bif b7 1 (l.map di) then some (((l.map di).flatMap IV.cells).map EV.iv,(l.map di).length) else none)=_;rw[show b7 1 (l.map di)=true from tb l,al,aV,show((l.map di).flatMap IV.cells).map EV.iv=iL l from yH l]
noncomputable def lO(R:List Cl)(n q i:Nat)(ls:List (List Int)):SS:=aR [(0,ae (ms R)),(1,ae (di (n:Int))),(2,ae (di (q:Int))),(6,.w (.one (.ptr 0 0 0))),(8,.w (.one (.ptr 1 0 0))),(9,ae (di 0)),(10,ae (.sl (gH ls))),(11,ae (di (i:Int)))]
 [(0,cJ 0 []),(1,cJ n [])] 2
noncomputable def lM(R:List Cl)(n q i k:Nat)(ls nxt:List (List Int)):SS:=aR [(0,ae (ms R)),(1,ae (di (n:Int))),(2,ae (di (q:Int))),(6,.w (.one (.ptr 0 0 0))),(8,.w (.one (.ptr 1 0 0))),(9,ae (di 0)),(10,ae (.sl (gH ls))),(11,ae (di (i:Int))),(12,.w (.one (Ft nxt))),(13,ae (di (k:Int)))]
 [(0,cJ 0 []),(1,cJ n []),(2,w8 nxt)] 3
noncomputable def lI(R:List Cl)(n q i k p:Nat)(ls nxt:List (List Int)):SS:=aR [(0,ae (ms R)),(1,ae (di (n:Int))),(2,ae (di (q:Int))),(6,.w (.one (.ptr 0 0 0))),(8,.w (.one (.ptr 1 0 0))),(9,ae (di 0)),(10,ae (.sl (gH ls))),(11,ae (di (i:Int))),(12,.w (.one (Ft nxt))),(13,ae (di (k:Int))),(14,ae (di ((p:Int)+1)))]
 [(0,cJ 0 []),(1,cJ n []),(2,w8 nxt)] 3
def JW{m q n:Nat}(hm:m<=4)(hn:n<=4){l:List Int}(h:l∈dQ m q n):l.length=n/\ed l<2^62/\0<=Reg.sumI l/\Reg.sumI l<=16:=by
 obtain⟨h1,h2,h3⟩:=oU.1 h;have key:∀l:List Int,(∀x∈l,1<=x/\x<=(m:Int))->(ed l:Int)=Reg.sumI l/\0<=Reg.sumI l/\Reg.sumI l<=4*(l.length:Int):=by
  intro l;induction l with
  |nil=>intro _;exact⟨rfl,uM _,uM _⟩
  |cons a l ih=>
   intro h;obtain⟨i1,i2,i3⟩:=ih fun x hx=>h x (dC _ hx);obtain⟨a1,a2⟩:=h a (by simp);have e1:ed (a::l)=a.natAbs+ed l:=rfl;have e2:Reg.sumI (a::l)=a+Reg.sumI l:=rfl;rw[e1,e2,aY];omega
 obtain⟨k1,k2,k3⟩:=key l h2;exact⟨h1,by omega,k2,by omega⟩
def gM(R:List Cl)(n q:Nat)(ls:List (List Int)):Cl:=(ls.filter fun l=>decide ((q:Int)-n+1<=Reg.sumI l)).flatMap fun l=>ft (gN n (q-(Reg.sumI l).toNat)) (fK R l)
def QP{R:List Cl}{n q:Nat}{ls:List (List Int)}{k:Nat}{l:List Int}(h:ls[k]?=some l):gM R n q (ls.take (k+1))=gM R n q (ls.take k)++(if(q:Int)-n+1<=Reg.sumI l then ft (gN n (q-(Reg.sumI l).toNat)) (fK R l) else []):=by
 unfold gM;rw[dO,h,xO,eV];congr 1;by_cases h0:(q:Int)-n+1<=Reg.sumI l<;>simp[h0]
def Ia{R:List Cl}{n q:Nat}{ls:List (List Int)}(k:Nat):(gM R n q (ls.take k)).length<=(gM R n q ls).length:=by
 conv=>rhs;rw[<-kC k ls]
 unfold gM;rw[xO,eV,bg];omega
def Vn:∀n:Nat,n<=4->1<=n->∀k:Nat,k<n->fO ((n:Int)-1) k*(cH k*cH (n-1-k):Nat)=(cH (n-1):Nat):=by decide +kernel
def WE{a b:Int}{c:Nat}(h:b*c=a)(hc:c≠0):(a:Rat)/((c:Nat):Rat)=(b:Rat):=by
 have h1:((c:Nat):Rat)≠0:=fun e=>hc (by exact_mod_cast e);rw[<-h,Rat.intCast_mul,A8,Rat.mul_assoc];rw[show(((c:Nat):Int):Rat)=((c:Nat):Rat) from rfl,Rat.mul_inv_cancel _ h1,Rat.mul_one]
def Kd{R:List Cl}{i:Int}(h:nz R i):(R.map (hU 1))[i.toNat-1]?=some (hU 1 (fJ R i)):=by
 have h1:i.toNat-1<R.length:=by have:=h.1;have:=h.2;omega
 unfold fJ;rw[bI,cn,bi h1];rfl
def Ml{c:Cl}{j k:Nat}(hj:j<2^20)(hk:1<=k)(hk2:k<=4)(h:COk c j k):CR4 c:=by
 refine⟨fun x hx=>?_,?_⟩
 . obtain⟨a,b,_⟩:=h.2 x hx;have:=ob b;have h3:k*j<=4*2^20:=eT hk2 (by omega);omega
 have h1:=h.1;have h2:5^k<=5^4:=co (by omega) hk2;have h3:(5:Nat)^4=625:=rfl;omega
noncomputable def sO(R:List Cl)(n q k:Nat)(ls:List (List Int))(acc:Cl):SS:=aR [(0,ae (ms R)),(1,ae (di (n:Int))),(2,ae (di (q:Int))),(6,.w (.one (.ptr 0 0 0))),(8,.w (.one (.ptr 1 0 0))),(9,ae (di (acc.length:Int))),(10,ae (.sl (gH ls))),(15,ae (di (k:Int)))]
 [(0,cJ 0 []),(1,cJ n acc),(4,rA acc),(5,rW acc)] 6
noncomputable def sF(R:List Cl)(n q k:Nat)(ls:List (List Int))(acc:Cl)(f:Rat):SS:=aR [(0,ae (ms R)),(1,ae (di (n:Int))),(2,ae (di (q:Int))),(6,.w (.one (.ptr 0 0 0))),(8,.w (.one (.ptr 1 0 0))),(9,ae (di (acc.length:Int))),(10,ae (.sl (gH ls))),(15,ae (di (k:Int))),(17,.w (.one (.ptr 6 0 0)))]
 [(0,cJ 0 []),(1,cJ n acc),(4,rA acc),(5,rW acc),(6,.mem 98 ((rr f).cells.map .iv) false [(0,4)] 1)] 7
noncomputable def sP(R:List Cl)(n q k:Nat)(ls:List (List Int))(acc:Cl)(f:Rat)(c:Cl)(t:Nat):SS:=aR [(0,ae (ms R)),(1,ae (di (n:Int))),(2,ae (di (q:Int))),(6,.w (.one (.ptr 0 0 0))),(8,.w (.one (.ptr 1 0 0))),(9,ae (di (acc.length:Int))),(10,ae (.sl (gH ls))),(15,ae (di (k:Int))),(17,.w (.one (.ptr 6 0 0))),(18,.w (.one (.ptr 7 0 0))),(19,ae (di ((t+1:Nat):Int)))]
 [(0,cJ 0 []),(1,cJ n acc),(4,rA acc),(5,rW acc),(6,.mem 98 ((rr f).cells.map .iv) false [(0,4)] 1),(7,eI ((t+1:Nat):Int) c)] 8
noncomputable def sQ(R:List Cl)(n q k:Nat)(ls:List (List Int))(acc:Cl)(f:Rat)(c:Cl)(mn t:Nat):SS:=aR [(0,ae (ms R)),(1,ae (di (n:Int))),(2,ae (di (q:Int))),(6,.w (.one (.ptr 0 0 0))),(8,.w (.one (.ptr 1 0 0))),(9,ae (di (mn:Int))),(10,ae (.sl (gH ls))),(15,ae (di (k:Int))),(17,.w (.one (.ptr 6 0 0))),(18,.w (.one (.ptr 7 0 0))),(20,ae (di (t:Int)))]
 [(0,cJ 0 []),(1,cJ n acc),(4,rA acc),(5,rW acc),(6,.mem 98 ((rr f).cells.map .iv) false [(0,4)] 1),(7,eI (n:Int) c)] 8
attribute [local irreducible] kV
def W5(J:Keep){R:List Cl}{j n q:Nat}{j2:Nat}(hp:SpOk R j n q)(hM:MrOk n j2 (gM R n q (dQ R.length q n))):Go.Proofs.Fl.C J 9 [ms R,.int .i64 n,.int .i64 q] (.tup [hU n (fw (gM R n q (dQ R.length q n))),.int .i64 (gM R n q (dQ R.length q n)).length]):=by
 obtain⟨hR,hj,n1,n4,nq,qm,R4⟩:=hp;refine lk Tryz.func9 rfl rfl rfl rfl 3 ?_;have lR:(((R.map (hU 1)).length:Nat):Int)=(R.length:Int):=by simp
 unfold ms;repeat((first|refine SW.R ?_|refine SW.c ?_|refine dH ?_);conv=>whnf)
 refine cq (G:={ i:Nat // i<=n }) (fun i=>lO R n q i.1 (dQ R.length q i.1)) (fun i=>n-i.1) ⟨0,ba _⟩
  ((Tr.cd (g:=2) rfl (.cons .nl (.sm []))).trans ((ge (g:=2) (u:=0) (n:=1) (es:=gH [[]]) [10] [] (fq 1 rfl rfl rfl rfl (bl rfl) rfl) ⟨⟨_,rfl⟩,aa⟩ trivial).trans (Tr.tab [] [] ⟨.sm,.sm,.sm,.rn,.rn,.sm,.sm,.sm,aa⟩ ⟨.sm,.sm,aa⟩ rfl))) ?_
 rintro⟨i,hi⟩;obtain⟨ls,hls⟩:∃a,dQ R.length q i=a:=⟨_,rfl⟩;show SW (XS J) _ _ _ _ (lO R n q i (dQ R.length q i)) _;have hll:=Ie (q:=q) R4 i;have h44:4^i<=4^4:=co (by omega) (by omega);have h44':(4:Nat)^4=256:=rfl;rw[hls] at hll ⊢;have lls:(((gH ls).length:Nat):Int)=(ls.length:Int):=by rw[Qz]
 by_cases h:i<n
 . as_aux_lemma=>
  unfold lO;repeat((first|refine SW.R ?_|refine SW.c ?_|refine yT ?_);conv=>whnf)
  refine cq (G:={ k:Nat // k<=ls.length }) (fun k=>lM R n q i k.1 ls (gG R.length q (ls.take k.1))) (fun k=>ls.length-k.1) ⟨0,ba _⟩
   (Tr.tab [(2,1000)] [] ⟨.sm,.sm,.sm,.rn,.rn,.sm,.sm,.sm,.sm,.sm,aa⟩ ⟨.sm,.sm,.ph rfl,aa⟩ rfl) ?_
  rintro⟨k,hk⟩;obtain⟨acc0,hacc0⟩:∃a,gG R.length q (ls.take k)=a:=⟨_,rfl⟩;show SW (XS J) _ _ _ _ (lM R n q i k ls (gG R.length q (ls.take k))) _;have hal:=BT (m:=R.length) (q:=q) (ls.take k);rw[bG,ce hk,hacc0] at hal;have hal2:R.length*k<=4*256:=eT R4 (by omega);rw[hacc0];by_cases h2:k<ls.length
  . as_aux_lemma=>
   obtain⟨l,hx⟩:∃x,ls[k]?=some x:=⟨_,bi h2⟩;have gl:=HW hx;obtain⟨f1,f2,f3,f4⟩:=JW R4 (by omega) (by rw[hls];exact bN hx:l∈dQ R.length q i);have c1:=Kj J (l:=l) (by omega) f2;obtain⟨sm,hsm⟩:∃s,Reg.sumI l=s:=⟨_,rfl⟩;rw[Fl.Cu,hsm] at c1;rw[hsm] at f3 f4;have hsn:=PP (m:=R.length) (q:=q) hx;rw[hacc0] at hsn;obtain⟨cnt,hcnt⟩:∃c,ub R.length q l=c:=⟨_,rfl⟩;have hcv:cnt=min R.length ((q:Int)-sm).toNat:=by rw[<-hcnt,<-hsm];rfl
   rw[hcnt] at hsn;unfold lM;repeat((first|refine SW.R ?_|refine SW.c ?_|refine aM lls ?_|refine yT ?_);conv=>whnf)
   refine cq (G:={ t:Nat // t<=cnt }) (fun t=>lI R n q i k t.1 ls (acc0++gO l t.1)) (fun t=>cnt-t.1) ⟨0,ba _⟩ ?_ ?_
   . show Tr _ _ (lI R n q i k 0 ls (acc0++gO l 0));rw[show gO l 0=[] from rfl,eS];cases acc0 with
     |nil=>exact Tr.tab [] [] ⟨.sm,.sm,.sm,.rn,.rn,.sm,.sm,.sm,.sm,.sm,.sm,aa⟩ ⟨.sm,.sm,.sm rfl rfl oR,aa⟩ rfl
     |cons z l=>exact Tr.tab [] [] ⟨.sm,.sm,.sm,.rn,.rn,.sm,.sm,.sm,.rn,.sm,.sm,aa⟩ ⟨.sm,.sm,.sm rfl rfl oR,aa⟩ rfl
   rintro⟨t,ht⟩;obtain⟨acc,hacc⟩:∃a,acc0++gO l t=a:=⟨_,rfl⟩;show SW (XS J) _ _ _ _ (lI R n q i k t ls (acc0++gO l t)) _;have hacl:acc.length<=1024+t:=by rw[<-hacc,bg,JB];omega
   rw[hacc];by_cases h3:t<cnt
   . as_aux_lemma=>
    have hnew:acc0++gO l (t+1)=acc ++ [l ++ [(t:Int)+1]]:=by rw[Re,<-dI,hacc]
    unfold lI;cases l with
    |nil=> as_aux_lemma=>
     cases acc with
     |nil=> as_aux_lemma=>
      repeat((first|refine SW.R ?_|refine SW.c ?_|refine cY ?_|refine aM lR ?_|refine aD c1 ?_|refine aO (j:=k) ?_ rfl gl|refine cy ?_|refine yT ?_|refine pW ?_);conv=>whnf)
      refine⟨⟨t+1,h3⟩,?_,by dsimp only;omega⟩;show Tr _ _ (lI R n q i k (t+1) ls (acc0++gO _ (t+1)));rw[hnew];exact(ge (g:=5) (u:=0) (n:=1) (es:=[di ((t:Int)+1)]) [] [(7,_)] (fq 1 rfl rfl rfl rfl (bl rfl) rfl) trivial ⟨⟨by decide,FzO.mk rfl (.cons (.fz _) (.sm _))⟩,aa⟩).trans
       (Tr.tab [(2,7)] [] ⟨.sm,.sm,.sm,.rn,.rn,.sm,.sm,.sm,.rn,.sm,.sm (iq),aa⟩ ⟨.sm,.sm,.sm rfl rfl oR,aa⟩ rfl)
     |cons z a=> as_aux_lemma=>
      simp only[aY] at hacl;repeat((first|refine SW.R ?_|refine SW.c ?_|refine cY ?_|refine aM lR ?_|refine aD c1 ?_|refine aO (j:=k) ?_ rfl gl|refine cy ?_|refine yT ?_|refine pW ?_);conv=>whnf)
      refine bK (g:=7) (b:=1) (ch (p:=a.length+1) (sz:=1) rfl rfl (bn _ _) rfl (by omega) (by omega) (by omega) (by show _*24<=_;omega) rfl rfl rfl rfl rfl rfl) (by show 7<7+1;decide) ?_;conv=>whnf
      repeat((first|refine SW.R ?_|refine cy ?_);conv=>whnf)
      refine⟨⟨t+1,h3⟩,?_,by dsimp only;omega⟩;show Tr _ _ (lI R n q i k (t+1) ls (acc0++gO _ (t+1)));rw[hnew];exact(ge (g:=5) (u:=0) (n:=1) (es:=[di ((t:Int)+1)]) [] [(2,_)] (fq 1 rfl rfl rfl rfl (bl rfl) rfl) trivial ⟨⟨by decide,FzO.mk rfl (.app (.sm _) (.cons (.fz _) (.sm _)))⟩,aa⟩).trans
       (Tr.tab [] [(2,.one 1)] ⟨.sm,.sm,.sm,.rn,.rn,.sm,.sm,.sm,.rn LL rfl,.sm,.sm (iq),aa⟩ ⟨.sm,.sm,MI rfl,aa⟩ rfl)
    |cons x l=> as_aux_lemma=>
     simp only[aY] at f1;have efr:((iL (x::l)).take ((l.length+1)*1) ++ [EV.iv (di ((t:Int)+1))]).take ((l.length+1+1)*1)=((((x::l) ++ [(t:Int)+1]).map di).flatMap IV.cells).map .iv:=by
      rw[ay (i:=(l.length+1)*1) (by rw[l5];simp)];refine Eq.trans (ay (by rw[bg,l5];simp)) (Eq.trans ?_ (yH ((x::l) ++ [(t:Int)+1])).symm);unfold iL;rw[dD];rfl
     cases acc with
     |nil=> as_aux_lemma=>
      repeat((first|refine SW.R ?_|refine SW.c ?_|refine cY ?_|refine aM lR ?_|refine aD c1 ?_|refine aO (j:=k) ?_ rfl gl|refine cy ?_|refine yT ?_);conv=>whnf)
      refine bK (g:=3) (b:=1) (tU (m:=l.length+1) rfl rfl (J8 (l:=x::l)) (by omega) (by omega) (by show(l.length+1)*8<=_;omega) rfl rfl rfl rfl rfl) (by show 3<3+1;decide) ?_;conv=>whnf
      skip
      refine bK (g:=5) (b:=1) (ch (m:=1) (p:=l.length+1) (sz:=1) rfl rfl ?_ rfl (by omega) (by omega) (by omega) (by show _*8<=_;omega) rfl rfl rfl rfl rfl rfl) (by show 5<5+1;decide) ?_
      . show cW 0 [(0,(iL (x::l)).length)]=_;rw[l5];exact bn _ _
      conv=>whnf
      repeat((first|refine SW.R ?_|refine cy ?_|refine pW ?_);conv=>whnf)
      refine⟨⟨t+1,h3⟩,?_,by dsimp only;omega⟩;show Tr _ _ (lI R n q i k (t+1) ls (acc0++gO _ (t+1)));rw[hnew];exact(ge (g:=3) (u:=1) (n:=l.length+1+1) (es:=((x::l) ++ [(t:Int)+1]).map di) [] [(7,_)] (fq 1 rfl (gD _ _ _) (by simp) (tb _) (ah _) efr) trivial ⟨⟨by decide,FzO.mk rfl (.cons (.fz _) (.sm _))⟩,aa⟩).trans
       (Tr.tab [(2,7)] [] ⟨.sm,.sm,.sm,.rn,.rn,.sm,.sm,.sm,.rn,.sm,.sm (iq),aa⟩ ⟨.sm,.sm,.sm rfl rfl oR,aa⟩ rfl)
     |cons z a=> as_aux_lemma=>
      simp only[aY] at hacl;repeat((first|refine SW.R ?_|refine SW.c ?_|refine cY ?_|refine aM lR ?_|refine aD c1 ?_|refine aO (j:=k) ?_ rfl gl|refine cy ?_|refine yT ?_);conv=>whnf)
      refine bK (g:=3) (b:=1) (tU (m:=l.length+1) rfl rfl (J8 (l:=x::l)) (by omega) (by omega) (by show(l.length+1)*8<=_;omega) rfl rfl rfl rfl rfl) (by show 3<3+1;decide) ?_;conv=>whnf
      skip
      refine bK (g:=5) (b:=1) (ch (m:=1) (p:=l.length+1) (sz:=1) rfl rfl ?_ rfl (by omega) (by omega) (by omega) (by show _*8<=_;omega) rfl rfl rfl rfl rfl rfl) (by show 5<5+1;decide) ?_
      . show cW 0 [(0,(iL (x::l)).length)]=_;rw[l5];exact bn _ _
      conv=>whnf
      skip
      refine bK (g:=7) (b:=1) (ch (p:=a.length+1) (sz:=1) rfl rfl (bn _ _) rfl (by omega) (by omega) (by omega) (by show _*24<=_;omega) rfl rfl rfl rfl rfl rfl) (by show 7<7+1;decide) ?_;conv=>whnf
      repeat((first|refine SW.R ?_|refine cy ?_);conv=>whnf)
      refine⟨⟨t+1,h3⟩,?_,by dsimp only;omega⟩;show Tr _ _ (lI R n q i k (t+1) ls (acc0++gO _ (t+1)));rw[hnew];exact(ge (g:=3) (u:=1) (n:=l.length+1+1) (es:=((x::l) ++ [(t:Int)+1]).map di) [] [(2,_)] (fq 1 rfl (gD _ _ _) (by simp) (tb _) (ah _) efr) trivial ⟨⟨by decide,FzO.mk rfl (.app (.sm _) (.cons (.fz _) (.sm _)))⟩,aa⟩).trans
       (Tr.tab [] [(2,.one 1)] ⟨.sm,.sm,.sm,.rn,.rn,.sm,.sm,.sm,.rn LL rfl,.sm,.sm (iq),aa⟩ ⟨.sm,.sm,MI rfl,aa⟩ rfl)
   have e:t=cnt:=by omega
   subst e;rw[hacc] at hsn;have fin:Tr 0 (lI R n q i k t ls acc) (lI R n q i k t ls acc):=Tr.refl _;have hq:(t:Int)+1+sm<=q\/¬((t:Int)+1+sm<=q):=Classical.em _;unfold lI;rcases hq with hq|hq
   . as_aux_lemma=>
    have hm:¬((t:Int)+1<=R.length):=by omega
    repeat((first|refine SW.R ?_|refine SW.c ?_|refine cY ?_|refine aM lR ?_|refine aD c1 ?_|refine aO (j:=k) ?_ rfl gl|refine cy ?_|refine yT ?_|refine yF ?_);conv=>whnf)
    refine⟨⟨k+1,h2⟩,?_,by dsimp only;omega⟩;show Tr _ _ (lM R n q i (k+1) ls (gG R.length q (ls.take (k+1))));rw[hsn];cases acc with
    |nil=>exact Tr.tab [] [] ⟨.sm,.sm,.sm,.rn,.rn,.sm,.sm,.sm,.sm,.sm,aa⟩ ⟨.sm,.sm,.sm rfl rfl oR,aa⟩ rfl
    |cons z a=>exact Tr.tab [] [] ⟨.sm,.sm,.sm,.rn,.rn,.sm,.sm,.sm,.rn,.sm,aa⟩ ⟨.sm,.sm,.sm rfl rfl oR,aa⟩ rfl
   repeat((first|refine SW.R ?_|refine SW.c ?_|refine dX ?_|refine aD c1 ?_|refine aO (j:=k) ?_ rfl gl|refine cy ?_|refine yF ?_);conv=>whnf)
   refine⟨⟨k+1,h2⟩,?_,by dsimp only;omega⟩;show Tr _ _ (lM R n q i (k+1) ls (gG R.length q (ls.take (k+1))));rw[hsn];cases acc with
   |nil=>exact Tr.tab [] [] ⟨.sm,.sm,.sm,.rn,.rn,.sm,.sm,.sm,.sm,.sm,aa⟩ ⟨.sm,.sm,.sm rfl rfl oR,aa⟩ rfl
   |cons z a=>exact Tr.tab [] [] ⟨.sm,.sm,.sm,.rn,.rn,.sm,.sm,.sm,.rn,.sm,aa⟩ ⟨.sm,.sm,.sm rfl rfl oR,aa⟩ rfl
  have e:k=ls.length:=by omega
  subst e;rw[cN] at hacc0;have hne:acc0≠[]:=fun e=>by
   have hin:List.replicate (i+1) (1:Int)∈dQ R.length q (i+1):=by
    rw[oU];refine⟨by simp,fun x hx=>by rw[(List.mem_replicate.1 hx).2];omega,.inr ?_⟩;have:∀k,Reg.sumI (List.replicate k (1:Int))=k:=fun k=>by
     induction k with
     |zero=>rfl
     |succ k ih=>rw[qA,Reg.sumI,ih];omega
    rw[this];omega
   have e2:dQ R.length q (i+1)=[]:=by
    show gG R.length q (dQ R.length q i)=[];rw[hls,hacc0,e]
   rw[e2] at hin;cases hin
  unfold lM;cases acc0 with
  |nil=>exact absurd rfl hne
  |cons z a=> as_aux_lemma=>
   repeat((first|refine SW.R ?_|refine SW.c ?_|refine aM lls ?_|refine cy ?_|refine yF ?_);conv=>whnf)
   refine⟨⟨i+1,h⟩,?_,by dsimp only;omega⟩;show Tr _ _ (lO R n q (i+1) (gG R.length q (dQ R.length q i)));rw[hls,hacc0];exact(ge (g:=2) (u:=0) (n:=a.length+1) (es:=gH (z::a)) [10] [] (fq (p:=a.length+1) 1 rfl (bn _ _) (by simp[gH]) (J5 _) (by omega) (by rw[<-GO];exact ay (by rw[BW,eB];exact ah _))) ⟨⟨_,rfl⟩,aa⟩ trivial).trans
    (Tr.tab [] [] ⟨.sm,.sm,.sm,.rn,.rn,.sm,.sm,.sm,aa⟩ ⟨.sm,.sm,aa⟩ rfl)
 have ei:i=n:=by omega
 subst ei;have hML:=hM.l;have cM:=TC J (n:=(i:Int)) hM;rw[hls] at hML cM ⊢;unfold lO;repeat((first|refine SW.R ?_|refine SW.c ?_|refine yF ?_);conv=>whnf)
 refine cq (G:={ k:Nat // k<=ls.length }) (fun k=>sO R i q k.1 ls (gM R i q (ls.take k.1))) (fun k=>ls.length-k.1) ⟨0,ba _⟩
  (Tr.tab [(4,1000),(5,1001)] [] ⟨.sm,.sm,.sm,.rn,.rn,.sm,.sm,.sm,aa⟩ ⟨.sm,.sm,.ph rfl,.ph rfl,aa⟩ rfl) ?_
 rintro⟨k,hk⟩;obtain⟨acc,hacc⟩:∃a,gM R i q (ls.take k)=a:=⟨_,rfl⟩;show SW (XS J) _ _ _ _ (sO R i q k ls (gM R i q (ls.take k))) _;have hal:=Ia (R:=R) (n:=i) (q:=q) (ls:=ls) k;rw[hacc] at hal ⊢;by_cases h2:k<ls.length
 . as_aux_lemma=>
  obtain⟨l,hx⟩:∃x,ls[k]?=some x:=⟨_,bi h2⟩;have gl:=HW hx;have hlm:l∈dQ R.length q i:=by rw[hls];exact bN hx
  obtain⟨f1,f2,f3,f4⟩:=JW R4 n4 hlm;have hix:∀x∈l,nz R x:=(oU.1 hlm).2.1;have hsq:Reg.sumI l<=q:=by
   rcases (oU.1 hlm).2.2 with h|h
   . omega
   exact h
  have c1:=Kj J (l:=l) (by omega) f2;have hsn:=QP (R:=R) (n:=i) (q:=q) hx;rw[hacc] at hsn;obtain⟨s,hs⟩:∃s,Reg.sumI l=s:=⟨_,rfl⟩;rw[Fl.Cu,hs] at c1;rw[hs] at f3 f4 hsq hsn;unfold sO;by_cases hc:(q:Int)-i+1<=s
  . as_aux_lemma=>
   rw[au hc] at hsn;obtain⟨kk,hkk⟩:∃kk,q-s.toNat=kk:=⟨_,rfl⟩;have hk4:kk<i:=by omega
   rw[hkk] at hsn;obtain⟨f,hf⟩:∃f,gN i kk=f:=⟨_,rfl⟩;rw[hf] at hsn;have w1:IntKind.i64.wrap ((i:Int)-1)=((i-1:Nat):Int):=by rw[cZ];omega
   have w2:IntKind.i64.wrap ((q:Int)-s)=((kk:Nat):Int):=by rw[cZ];omega
   have w3:IntKind.i64.wrap (((i-1:Nat):Int)-((kk:Nat):Int))=((i-1-kk:Nat):Int):=by rw[cZ];omega
   have d1:=Fl.D4 J (n:=i-1) (by omega);have d2:=Fl.D4 J (n:=kk) (by omega);have d3:=Fl.D4 J (n:=i-1-kk) (by omega);have b1:=Fl.y5 (i-1) (by omega);have b2:=Fl.y5 kk (by omega);have b3:=Fl.y5 (i-1-kk) (by omega);have b4:cH kk*cH (i-1-kk)<=24*24:=eT b2.1 b3.1;have b5:1*1<=cH kk*cH (i-1-kk):=eT b2.2 b3.2;have e1:=Fl.tB (n:=cH (i-1)) (by omega);have e2:=Fl.tB (n:=cH kk) (by omega);have e3:=Fl.tB (n:=cH (i-1-kk)) (by omega);have e4:=Fl.tB (n:=cH kk*cH (i-1-kk)) (by omega);have d4:=wj J (g5 (cH kk:Rat)) (g5 (cH (i-1-kk):Rat));rw[<-Gf] at d4;have d5:=Ws J (g5 (cH (i-1):Rat)) (g5 ((cH kk*cH (i-1-kk):Nat):Rat)) (by omega) (by omega) (fun e=>by have:cH kk*cH (i-1-kk)=0:=(by exact_mod_cast e);omega);obtain⟨b,hbv⟩:∃b,fO ((i:Int)-1) kk=b:=⟨_,rfl⟩;have hdv:=WE (Vn i n4 n1 kk hk4) (by omega);rw[show(((cH (i-1):Nat):Int):Rat)=((cH (i-1):Nat):Rat) from rfl,hbv] at hdv;rw[hdv] at d5;have d6:=Wp J (g5 (b:Rat));obtain⟨i0,l',rfl⟩:∃a b,l=a::b:=by
    cases l with
    |nil=>simp at f1;omega
    |cons a b=>exact⟨a,b,rfl⟩
   simp only[aY] at f1;repeat (first|(refine rb (G:=Unit) (x:=.seq (.region 21 _ _) _) (fun _=>sF R i q k ls acc f) ?_ (fun _=>?_))|((first|refine SW.R ?_|refine SW.c ?_|refine And.intro rfl (aM w1 ?_)|refine And.intro rfl (aM w2 ?_)|refine And.intro rfl (aM w3 ?_)|refine aD c1 ?_|refine aD d1 ?_|refine aD d2 ?_|refine aD d3 ?_|refine aD d4 ?_|refine aD d5 ?_|refine aO (j:=k) ?_ rfl gl|refine aM lls ?_|refine cy ?_|refine yT ?_|refine yF ?_|refine dH ?_);conv=>whnf))
   . as_aux_lemma=>
    unfold kV;by_cases hodd:kk%2=1
    . as_aux_lemma=>
     have htm:(kk:Int).tmod 2=1:=by rw[xu (by omega)];omega
     have hf:f = -(b:Rat):=by rw[<-hf];unfold gN;rw[au hodd,hbv]
     subst hf;repeat (first|((first|refine SW.RS ?_|refine SW.R ?_|refine aD d6 ?_|refine And.intro rfl (aM w2 ?_)|refine aM htm ?_|refine yT ?_|refine dH ?_|refine cz ?_|refine And.intro (by decide) ?_);conv=>whnf)|(refine SW.condT rfl ?_))
     exact⟨(),Tr.tab [] [] ⟨.sm,.sm,.sm,.rn,.rn,.sm,.sm,.sm,.rn,aa⟩ ⟨.sm,.rn rfl rfl (jY (fun _=>rfl) fun _=>rfl) (jV (fun _=>rfl) fun _=>rfl),.sm rfl rfl fk,.sm rfl rfl fj,.sm,aa⟩ rfl⟩
    have htm:(kk:Int).tmod 2=0:=by rw[xu (by omega)];omega
    have hf:f=(b:Rat):=by rw[<-hf];unfold gN;rw[aq hodd,hbv]
    subst hf;repeat (first|((first|refine SW.RS ?_|refine SW.skip ?_|refine And.intro rfl (aM w2 ?_)|refine aM htm ?_|refine yF ?_|refine And.intro (by decide) ?_);conv=>whnf)|(refine SW.condF rfl ?_))
    exact⟨(),Tr.tab [] [] ⟨.sm,.sm,.sm,.rn,.rn,.sm,.sm,.sm,.rn,aa⟩ ⟨.sm,.rn rfl rfl (jY (fun _=>rfl) fun _=>rfl) (jV (fun _=>rfl) fun _=>rfl),.sm rfl rfl fk,.sm rfl rfl fj,.sm,aa⟩ rfl⟩
   have hi0:=hix i0 (by simp);have hi1:=hi0.1;have hi2:=hi0.2;have gR:=Kd hi0;unfold sF;repeat((first|refine SW.R ?_|refine SW.c ?_|refine aO (j:=k) ?_ rfl gl|refine aO (j:=0) ?_ rfl rfl|refine aO (j:=i0.toNat-1) ?_ (by omega) gR|refine cy ?_|refine dH ?_);conv=>whnf)
   refine cq (G:={ t:Nat // t<=l'.length }) (fun t=>sP R i q k ls acc f (fK R (i0::l'.take t.1)) t.1) (fun t=>l'.length-t.1) ⟨0,ba _⟩
    (Tr.tab [] [] ⟨.sm,.sm,.sm,.rn,.rn,.sm,.sm,.sm,.rn,.rn,.sm,aa⟩ ⟨.sm,.rn rfl rfl (jY (fun _=>rfl) fun _=>rfl) (jV (fun _=>rfl) fun _=>rfl),.sm rfl rfl fk,.sm rfl rfl fj,.sm,.sm,aa⟩ rfl) ?_
   rintro⟨t,ht⟩;obtain⟨c,hpc⟩:∃c,fK R (i0::l'.take t)=c:=⟨_,rfl⟩;show SW (XS J) _ _ _ _ (sP R i q k ls acc f (fK R (i0::l'.take t)) t) _;have hok:=CB hR (i:=i0) (l:=l'.take t);rw[bG,ce ht,hpc] at hok;have h5:5^(t+1)<=5^4:=co (by omega) (by omega);have h5':(5:Nat)^4=625:=rfl;have hcl:=hok.1;have hcr:=Ml hj (by omega) (by omega) hok;rw[hpc];by_cases h3:t<l'.length
   . obtain⟨x,hxx⟩:∃x,l'[t]?=some x:=⟨_,bi h3⟩;have gx:((i0::l').map di)[t+1]?=some (di x):=by rw[bI,FH,hxx];rfl
     have hxo:=hix x (dC _ (bN hxx));have hx1:=hxo.1;have hx2:=hxo.2;have gX:=Kd hxo;have hrk:=vE hR x;have hrl:=hrk.1;have hsp:=G8 (R:=R) (i:=i0) hxx;rw[hpc] at hsp;have hmul:c.length*(fJ R x).length<=625*5:=eT (by omega) (by omega);have d7:=VQ J (n:=((t+1:Nat):Int)) (m:=1) (by omega) (by omega) hcr (Ml hj (by omega) (by omega) hrk) (by omega);rw[show((t+1:Nat):Int)+1=((t+1+1:Nat):Int) by omega] at d7;unfold sP;repeat((first|refine SW.R ?_|refine SW.c ?_|refine aD d7 ?_|refine aO (j:=k) ?_ rfl gl|refine aO (j:=t+1) ?_ rfl gx|refine aO (j:=x.toNat-1) ?_ (by omega) gX|refine cy ?_|refine yT ?_|refine dH ?_|refine cz ?_);conv=>whnf)
     refine⟨⟨t+1,h3⟩,?_,by dsimp only;omega⟩;show Tr _ _ (sP R i q k ls acc f (fK R (i0::l'.take (t+1))) (t+1));rw[hsp];exact Tr.tab [] [] ⟨.sm,.sm,.sm,.rn,.rn,.sm,.sm,.sm,.rn,.rn,.sm,aa⟩ ⟨.sm,.rn rfl rfl (jY (fun _=>rfl) fun _=>rfl) (jV (fun _=>rfl) fun _=>rfl),.sm rfl rfl fk,.sm rfl rfl fj,.sm,.sm,aa⟩ rfl
   have e:t=l'.length:=by omega
   subst e;rw[cN] at hpc;rw[hpc] at hsn;have hal2:=Ia (R:=R) (n:=i) (q:=q) (ls:=ls) (k+1);rw[hsn,bg,ft,aV] at hal2;have lpc:(((dK c).length:Nat):Int)=(c.length:Int):=by simp[dK]
   have hmn:IntKind.i64.wrap ((acc.length:Int)+(c.length:Int))=((acc.length+c.length:Nat):Int):=by rw[cZ];omega
   have ein:((l'.length+1:Nat):Int)=(i:Int):=by omega
   unfold sP;rw[ein];repeat((first|refine SW.R ?_|refine SW.c ?_|refine aM lpc ?_|refine And.intro rfl (aM hmn ?_)|refine yF ?_|refine iH ?_|refine cz ?_);conv=>whnf)
   refine cq (G:={ u:Nat // u<=c.length }) (fun u=>sQ R i q k ls (acc++ft f (c.take u.1)) f c (acc.length+c.length) u.1) (fun u=>c.length-u.1) ⟨0,ba _⟩ ?_ ?_
   . show Tr _ _ (sQ R i q k ls (acc ++ []) f c (acc.length+c.length) 0);rw[eS];exact Tr.tab [] [] ⟨.sm,.sm,.sm,.rn,.rn,.sm,.sm,.sm,.rn,.rn,.sm,aa⟩ ⟨.sm,.rn rfl rfl (jY (fun _=>rfl) fun _=>rfl) (jV (fun _=>rfl) fun _=>rfl),.sm rfl rfl fk,.sm rfl rfl fj,.sm,.sm,aa⟩ rfl
   rintro⟨u,hu⟩;obtain⟨ac,hac⟩:∃a,acc++ft f (c.take u)=a:=⟨_,rfl⟩;show SW (XS J) _ _ _ _ (sQ R i q k ls (acc++ft f (c.take u)) f c (acc.length+c.length) u) _;have hacl:ac.length=acc.length+u:=by rw[<-hac,bg,ft,aV,bG];omega
   rw[hac];by_cases h4:u<c.length
   . as_aux_lemma=>
    obtain⟨⟨p,w⟩,hy⟩:∃x,c[u]?=some x:=⟨_,bi h4⟩;obtain⟨gp,gw⟩:=rt hy;have hw:=(hcr.p _ (bN hy)).2.2;have hfr:rl f<2^34:=by
     have:=ob (Dw (n:=i) (k:=kk) n4);rw[hf] at this;omega
    have e6:=wj J (g5 w) (g5 f) hw hfr;have hnew:acc++ft f (c.take (u+1))=ac ++ [(p,w*f)]:=by
     rw[dO,hy,<-hac];unfold ft;rw[dD,<-dI];rfl
    unfold sQ;cases ac with
    |nil=> as_aux_lemma=>
     repeat((first|refine SW.R ?_|refine SW.c ?_|refine aO (j:=u) ?_ rfl gp|refine aO (j:=u) ?_ rfl gw|refine aM lpc ?_|refine aD e6 ?_|refine cy ?_|refine yT ?_|refine iH ?_|refine dH ?_|refine cz ?_|refine pW ?_|refine And.intro (uv) ?_);conv=>whnf)
     refine⟨⟨u+1,h4⟩,?_,by dsimp only;omega⟩;show Tr _ _ (sQ R i q k ls (acc++ft f (c.take (u+1))) f c (acc.length+c.length) (u+1));rw[hnew];exact Tr.tab [(4,9),(5,11)] [] ⟨.sm,.sm,.sm,.rn,.rn,.sm,.sm,.sm,.rn,.rn,.sm,aa⟩ ⟨.sm,.rn,.sm rfl rfl fk,.sm rfl rfl fj,.sm,.sm,aa⟩ rfl
    |cons z l=> as_aux_lemma=>
     simp only[aY] at hacl;repeat((first|refine SW.R ?_|refine SW.c ?_|refine aO (j:=u) ?_ rfl gp|refine aM lpc ?_|refine yT ?_|refine iH ?_|refine cz ?_);conv=>whnf)
     refine bK (g:=9) (b:=1) (ch (p:=l.length+1) (sz:=1) rfl rfl (bn _ _) rfl (by omega) (by omega) (by omega) (by show _*24<=_;omega) rfl rfl rfl rfl rfl rfl) (by show 9<9+1;decide) ?_;conv=>whnf
     repeat((first|refine aO (j:=u) ?_ rfl gw|refine aD e6 ?_|refine iH ?_|refine cz ?_);conv=>whnf)
     refine bK (g:=11) (b:=1) (ch (p:=(l.length+1)*4) (sz:=4) rfl rfl (bn _ _) rfl (by omega) (by omega) (by omega) (by show _*64<=_;omega) rfl rfl rfl rfl rfl rfl) (by show 11<11+1;decide) ?_;conv=>whnf
     repeat((first|refine SW.R ?_|refine cy ?_|refine iH ?_|refine dH ?_|refine And.intro (uv) ?_);conv=>whnf)
     refine⟨⟨u+1,h4⟩,?_,by dsimp only;omega⟩;show Tr _ _ (sQ R i q k ls (acc++ft f (c.take (u+1))) f c (acc.length+c.length) (u+1));rw[hnew];exact Tr.tab [] [(4,.one 1),(5,.one 1)] ⟨.sm,.sm,.sm,.rn,.rn,.sm,.sm,.sm,.rn,.rn,.sm,aa⟩ ⟨.sm,.rn rfl rfl tC,uf,ue,.sm,.sm,aa⟩ rfl
   have e:u=c.length:=by omega
   subst e;rw[cN] at hac;rw[hac] at hsn;unfold sQ;repeat((first|refine SW.R ?_|refine SW.c ?_|refine aM lpc ?_|refine cy ?_|refine yF ?_|refine iH ?_|refine cz ?_);conv=>whnf)
   refine⟨⟨k+1,h2⟩,?_,by dsimp only;omega⟩;show Tr _ _ (sO R i q (k+1) ls (gM R i q (ls.take (k+1))));rw[hsn];unfold sO;rw[hacl];exact Tr.tab [] [] ⟨.sm,.sm,.sm,.rn,.rn,.sm,.sm,.sm,aa⟩ ⟨.sm,.rn rfl rfl (jY (fun _=>rfl) fun _=>rfl) (jV (fun _=>rfl) fun _=>rfl),.sm rfl rfl fk,.sm rfl rfl fj,aa⟩ rfl
  rw[aq hc,eS] at hsn;have w4:IntKind.i64.wrap ((q:Int)-(i:Int))=(q:Int)-i:=cZ;repeat((first|refine SW.R ?_|refine SW.c ?_|refine aD c1 ?_|refine aO (j:=k) ?_ rfl gl|refine aM lls ?_|refine cy ?_|refine yT ?_);conv=>whnf)
  refine⟨⟨k+1,h2⟩,?_,by dsimp only;omega⟩;show Tr _ _ (sO R i q (k+1) ls (gM R i q (ls.take (k+1))));rw[hsn];exact Tr.tab [] [] ⟨.sm,.sm,.sm,.rn,.rn,.sm,.sm,.sm,aa⟩ ⟨.sm,.rn rfl rfl (jY (fun _=>rfl) fun _=>rfl) (jV (fun _=>rfl) fun _=>rfl),.sm rfl rfl fk,.sm rfl rfl fj,aa⟩ rfl
 have e:k=ls.length:=by omega
 subst e;rw[cN] at hacc;rw[hacc] at cM ⊢;unfold sO;cases acc with
 |nil=> as_aux_lemma=>
  refine SW.tr (Tr.cd (g:=1) rfl (.cons (.sm _) (.cons .nl (.cons .nl (.sm []))))) ?_;repeat((first|refine SW.R ?_|refine SW.c ?_|refine aD cM ?_|refine aM lls ?_|refine yF ?_|refine dH ?_|refine cz ?_);conv=>whnf)
  rfl
 |cons z l=> as_aux_lemma=>
  refine SW.tr (s':=aR [(6,.w (.one (.ptr 0 0 0))),(8,.w (.one (.ptr 1 0 0))),(9,ae (di ((z::l).length:Int))),(10,ae (.sl (gH ls))),(15,ae (di (ls.length:Int)))] [(0,cJ 0 []),(1,eI i (z::l))] 6)
   ((ge (g:=4) (u:=0) (n:=l.length+1) (es:=dK (z::l)) [] [(1,_)] (fq (p:=l.length+1) 1 rfl (bn _ _) (by simp[dK]) (vW _) (by omega) (by rw[<-vm];exact ay (by rw[th,eB];exact ah _))) trivial ⟨⟨by decide,FzO.mk rfl (.cons (.sm _) (.cons (.fz _) (.sm _)))⟩,aa⟩).trans
     ((ge (g:=5) (u:=0) (n:=l.length+1) (es:=(bt (z::l)).map rr) [] [(1,_)] (fq (p:=(l.length+1)*4) 4 rfl (bn _ _) (by simp) (pC _) (ah _) (ay (by show(rC (bt (z::l))).length<=_;rw[lV,aV];exact ah _))) trivial ⟨⟨by decide,FzO.mk rfl (.cons (.sm _) (.cons (.sm _) (.cons (.fz _) (.sm _))))⟩,aa⟩).trans
       (Tr.tab [] [] ⟨.rn,.rn,.sm,.sm,.sm,aa⟩ ⟨.sm,.sm,aa⟩ rfl))) ?_
  repeat((first|refine SW.R ?_|refine SW.c ?_|refine aD cM ?_|refine aM lls ?_|refine yF ?_|refine dH ?_|refine cz ?_);conv=>whnf)
  rfl
end Go.Proofs.En
namespace Go.Proofs.Fl
open Go.RowKit Go.Proofs.Dig
attribute [local irreducible] IntKind.wrap aW bc bj bm
def bu:Nat->Nat
 |0=>1
 |n+1=>bu n*(n+1)
def y4:∀n,0<bu n
 |0=>Nat.one_pos
 |n+1=>oI (y4 n) (Nat.succ_pos n)
def yS{m:Nat}(hm:m<2^32):∀n≤m,aU ((bu n:Nat):Rat)<=2+4*n
 |0,_=>by
  have:=Ac 1;rw[show Int.natAbs 1=1 by rfl,rx] at this;exact this
 |n+1,h=>by
  have h1:=yS hm n (by omega);have h2:=Ac ((n:Int)+1);have h3:=zJ (n:=((n:Int)+1).natAbs);have h4:=Kk ((bu n:Nat):Rat) (((n:Int)+1:Int):Rat);have e:((bu (n+1):Nat):Rat)=((bu n:Nat):Rat)*(((n:Int)+1:Int):Rat):=by
   rw[bu,Gf];rfl
  rw[e];omega
def Kg(J:Keep){n:Nat}(hn:n<2^32):C J 167 [.int .i64 n] (qr ((bu n:Nat):Rat)):=by
 refine aN Tryz.func167 rfl rfl rfl ?_;have c0:C J 27 [.int .i64 1] (qr ((1:Int):Rat)):=yR J (n:=1);rw[show((1:Int):Rat)=((bu 0:Nat):Rat) by rfl] at c0;repeat (first|(refine af ?_)|(refine⟨_,c0,?_⟩;conv=>whnf))
 refine W.loop (G:={ t:Nat // t<=n }) (fun t=>aF [(0,.iv (.int .i64 (n:Int))),(2,.ptr 0 0),(3,.ptr 2 0),(6,.iv (.int .i64 (n:Int))),(7,.iv (.int .i64 (t.1:Int)))] [(0,.var (.agg [.sl [],.bool false,.sl []])),(2,.var (qr ((bu t.1:Nat):Rat)))] 20) (fun t=>n-t.1) ⟨0,ba _⟩
  (Wk.tab [] ⟨ab,ab,ab,ab,ab,aa⟩ ⟨rfl,rfl,aa⟩ rfl) ?_
 rintro⟨t,ht⟩;show W J _ _ (aF [(0,.iv (.int .i64 (n:Int))),(2,.ptr 0 0),(3,.ptr 2 0),(6,.iv (.int .i64 (n:Int))),(7,.iv (.int .i64 (t:Int)))] [(0,.var (.agg [.sl [],.bool false,.sl []])),(2,.var (qr ((bu t:Nat):Rat)))] 20) _;by_cases h:t<n
 .
  have c1:=yR J (n:=(t:Int)+1);have h1:=yS hn t (by omega);have h2:=Ac ((t:Int)+1);have h3:=zJ (n:=((t:Int)+1).natAbs);have c2:=px (base J) (a:=((bu t:Nat):Rat)) (b:=(((t:Int)+1:Int):Rat));have e:((bu (t+1):Nat):Rat)=((bu t:Nat):Rat)*(((t:Int)+1:Int):Rat):=by
   rw[bu,Gf];rfl
  rw[<-e] at c2;repeat (first|(refine af ?_)|((first|refine⟨_,c1,?_⟩|refine⟨_,c2,?_⟩);conv=>whnf)|(refine ap ?_))
  exact⟨⟨t+1,by omega⟩,Wk.tab [] ⟨ab,ab,ab,ab,ab,aa⟩ ⟨rfl,rfl,aa⟩ rfl,by dsimp only;omega⟩
 have e:t=n:=by omega
 subst e;refine aK ?_;rfl
end Go.Proofs.Fl
