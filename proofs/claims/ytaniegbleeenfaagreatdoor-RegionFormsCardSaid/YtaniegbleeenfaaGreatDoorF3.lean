/-
  A part of the proof of regionForms_card.
-/
import Derived.Test.YtaniegbleeenfaaGreatDoorF2
import Derived.Shelf.Strings.BuilderK
import Derived.Shelf.Strings.Builder1
import Derived.Shelf.Strings.Builder2
import Derived.Shelf.Small.Bits
import Derived.Shelf.Small.Wraps
import Derived.Shelf.Strings.BuilderF
import Derived.Shelf.Strings.Builder2Cap
import Derived.Shelf.Strconv.Itoa0
import Derived.Shelf.Strconv.Itoa1
import Derived.Shelf.LaysM
import Derived.Shelf.Strconv.Itoa2
import Derived.Shelf.Strconv.Itoa3
import Derived.Shelf.Strings.Prefix
import Derived.Shelf.Bits.Mul64
import Derived.Shelf.Strings.Repeat
import Derived.Shelf.Strings.BuilderCap
import Derived.Ground.Names2Prog
import Derived.Shelf.Slices.Clone
import Derived.Shelf.Slices.SearchI
import Derived.Ground.SlgnProg
import Derived.Shelf.SlicesE.Clone
import Derived.Test.YtaniegbleeenfaaGreatDoorProg
import Derived.Shelf.Strings.SlTrimAscii
import Derived.Calls
import Derived.Sort.Grow
import Derived.Deep.Draws
set_option maxHeartbeats 4000000
set_option maxRecDepth 100000
namespace Go.Proofs
open Go
abbrev Et:=@Int.mul_neg_of_neg_of_pos
abbrev Eu:=@Int.mul_one
abbrev Ev:=@Go.Lib.strCells_length
abbrev Ew:=@Int.pow_mul
abbrev MA:=@List.reverse_append
abbrev MB:=@List.dropWhile_cons
abbrev MC:=@Rat.divInt_ofNat
abbrev MD:=@List.drop_length
abbrev Mv:=@Option.getD_some
abbrev Mw:=@Int.natCast_add
abbrev Mx:=@Int.mul_assoc
abbrev My:=@Int.sign_mul_natAbs
abbrev Mz:=@List.reverse_cons
abbrev Xp:=@List.reverse_replicate
abbrev Xq:=@Option.isNone_iff_eq_none
abbrev cU:=@List.take_length
abbrev hU:=@List.length_reverse
abbrev lj:=@Int.one_mul
abbrev lk:=@Int.pow_succ
abbrev qV:=@Int.zero_mul
abbrev qW:=@Bool.true_and
abbrev tl:=@Int.lt_trichotomy
abbrev tn:=@Nat.sub_zero
abbrev tt:=@Nat.lt_succ_self
abbrev tu:=@Nat.le_succ
abbrev vM:=@Int.mul_pos
abbrev vN:=@Int.mul_add
abbrev vO:=@Nat.div_div_eq_div_mul
abbrev vP:=@beq_eq_false_iff_ne
abbrev zJ:=@List.getElem?_reverse
abbrev zK:=@Option.some.inj
abbrev zL:=@List.map_take
abbrev zM:=@Array.getElem?_modify
abbrev zN:=@Go.Lib.cell_of_heap
abbrev zO:=@Go.Lib.byteCells_length
end Go.Proofs
namespace Go.Proofs.Fl
open Go.RowKit Go.Proofs.Dig
attribute [local irreducible] IntKind.wrap aY be bm bt
def eY(a b:Rat):Int:=aL (a.num*(b.den:Int)) (b.num*(a.den:Int))
theorem Lh(z:Int):(z<0/\aL z 0 = -1)\/(z=0/\aL z 0=0)\/(0<z/\aL z 0=1):=by
 unfold aL;rcases tl z 0 with h|h|h
 . left;exact⟨h,by rw[ar h]⟩
 . right;left;exact⟨h,by rw[al (by omega),al (by omega)]⟩
 . right;right;exact⟨h,by rw[al (by omega),ar h]⟩
theorem tM{x y:Int}(h:x<y):aL x y = -1:=by unfold aL;rw[ar h]
theorem tN{x y:Int}(h:y<x):aL x y=1:=by unfold aL;rw[al (by omega),ar h]
theorem F1{x y:Int}(h:x=y):aL x y=0:=by unfold aL;rw[al (by omega),al (by omega)]
theorem py{J:Keep}{a b:Rat}{x y r:Int}(c1:C J 16 [qr a] (.int .i64 x))(c2:C J 16 [qr b] (.int .i64 y))(hx : -1<=x/\x<=1)(hy : -1<=y/\y<=1)(hxy:x≠y\/x=0)
 (hw:IntKind.wrap .i64 ((x-y).tdiv 2)=r) (hr : -1<=r/\r<=1):C J 110 [qr a,qr b] (.int .i64 (x-y-r)):=by
 refine aI Tryz.func110 rfl rfl rfl ?_;by_cases h:x≠y
 . repeat (((first|refine W.R (by kernel_rfl) ?_|refine W.c rfl ?_|refine⟨_,c1,?_⟩|refine⟨_,c2,?_⟩|refine⟨by omega,_,hw,?_⟩|refine ap (by omega) ?_|refine⟨true,bne_iff_ne.2 (by omega),?_⟩|refine xr ?_|refine xB ?_);conv=>whnf))
   rfl
 . have h0:x=0:=by omega
   have h1:y=0:=by omega
   subst h0;subst h1;repeat (((first|refine W.R (by kernel_rfl) ?_|refine W.c rfl ?_|refine⟨_,c1,?_⟩|refine⟨_,c2,?_⟩|refine⟨by omega,_,hw,?_⟩|refine ap (by omega) ?_|refine xT (by omega) ?_|refine⟨false,bne_eq_false_iff_eq.2 (by omega),?_⟩|refine xr ?_|refine xA ?_);conv=>whnf))
   rfl
theorem HP{J:Keep}{a b:Rat}{x:Int}(c1:C J 16 [qr a] (.int .i64 x))(c2:C J 16 [qr b] (.int .i64 x))(hx:x=1\/x = -1)(ha:az a<2^38)(hb:az b<2^38) :
 C J 110 [qr a,qr b] (.int .i64 (x*aL ((a.num.natAbs*b.den:Nat):Int) ((b.num.natAbs*a.den:Nat):Int))):=by
 refine aI Tryz.func110 rfl rfl rfl ?_;have d1:=lV J (q:=a) (by omega);have d2:=lV J (q:=b) (by omega);unfold az at ha hb;have m1:=lJ J (a:=a.num.natAbs) (b:=b.den) (by omega);have m2:=lJ J (a:=b.num.natAbs) (b:=a.den) (by omega);have l1:=hX a.num.natAbs b.den;have c3:=HS J (a:=a.num.natAbs*b.den) (b:=b.num.natAbs*a.den) (by omega);obtain⟨k,hk⟩:∃k,aL ((a.num.natAbs*b.den:Nat):Int) ((b.num.natAbs*a.den:Nat):Int)=k:=⟨_,rfl⟩;have hk1 : -1<=k/\k<=1:=by rw[<-hk];unfold aL;split<;>(try split)<;>omega
 rw[hk] at c3 ⊢;have hm:IntKind.wrap .i64 (x*k)=x*k:=b7 (by rcases hx with rfl|rfl<;>omega);rcases hx with rfl|rfl
 . repeat (((first|refine W.R (by kernel_rfl) ?_|refine W.c rfl ?_|refine⟨_,c1,?_⟩|refine⟨_,c2,?_⟩|refine⟨_,d1,?_⟩|refine⟨_,d2,?_⟩|refine⟨_,m1,?_⟩|refine⟨_,m2,?_⟩|refine⟨_,c3,?_⟩|refine ap (by omega) ?_|refine xF (by omega) ?_|refine⟨false,bne_eq_false_iff_eq.2 (by omega),?_⟩|refine xr ?_|refine xA ?_);conv=>whnf))
   rfl
 . repeat (((first|refine W.R (by kernel_rfl) ?_|refine W.c rfl ?_|refine⟨_,c1,?_⟩|refine⟨_,c2,?_⟩|refine⟨_,d1,?_⟩|refine⟨_,d2,?_⟩|refine⟨_,m1,?_⟩|refine⟨_,m2,?_⟩|refine⟨_,c3,?_⟩|refine ap (by omega) ?_|refine xF (by omega) ?_|refine⟨false,bne_eq_false_iff_eq.2 (by omega),?_⟩|refine xr ?_|refine xA ?_);conv=>whnf))
   rfl
theorem U3{J:Keep}{a b:Rat}(ha:az a<2^38)(hb:az b<2^38):C J 110 [qr a,qr b] (.int .i64 (eY a b)):=by
 have c1:=n8 J a;have c2:=n8 J b;have da:(0:Int)<(a.den:Int):=by have:=dP a;omega
 have db:(0:Int)<(b.den:Int):=by have:=dP b;omega
 rcases Lh a.num with⟨ha1,e1⟩|⟨ha1,e1⟩|⟨ha1,e1⟩<;>rcases Lh b.num with⟨hb1,e2⟩|⟨hb1,e2⟩|⟨hb1,e2⟩<;>rw[e1] at c1<;>rw[e2] at c2
 . have e:eY a b=(-1)*aL ((a.num.natAbs*b.den:Nat):Int) ((b.num.natAbs*a.den:Nat):Int):=by
    unfold eY;have x1:((a.num.natAbs*b.den:Nat):Int) = -(a.num*(b.den:Int)):=by
     rw[iZ,show((a.num.natAbs:Nat):Int) = -a.num by omega,ky]
    have x2:((b.num.natAbs*a.den:Nat):Int) = -(b.num*(a.den:Int)):=by
     rw[iZ,show((b.num.natAbs:Nat):Int) = -b.num by omega,ky]
    rw[x1,x2];unfold aL;split<;>(try split)<;>(try split)<;>(try split)<;>omega
   rw[e];exact HP c1 c2 (by omega) ha hb
 . have e:eY a b=(-1)-0-0:=by
    unfold eY;have p1:=Et ha1 db;rw[hb1,qV];rw[tM (by omega)];rfl
   rw[e];exact py c1 c2 (by omega) (by omega) (by omega) (by kernel_rfl) (by omega)
 . have e:eY a b=(-1)-1-(-1):=by
    unfold eY;have p1:=Et ha1 db;have p2:=vM hb1 da;rw[tM (by omega)];rfl
   rw[e];exact py c1 c2 (by omega) (by omega) (by omega) (by kernel_rfl) (by omega)
 . have e:eY a b=0-(-1)-0:=by
    unfold eY;rw[ha1,qV];have p2:=Et hb1 da;rw[tN (by omega)];rfl
   rw[e];exact py c1 c2 (by omega) (by omega) (by omega) (by kernel_rfl) (by omega)
 . have e:eY a b=0-0-0:=by
    unfold eY;rw[ha1,qV];rw[hb1,qV];rw[F1 (by omega)];rfl
   rw[e];exact py c1 c2 (by omega) (by omega) (by omega) (by kernel_rfl) (by omega)
 . have e:eY a b=0-1-0:=by
    unfold eY;rw[ha1,qV];have p2:=vM hb1 da;rw[tM (by omega)];rfl
   rw[e];exact py c1 c2 (by omega) (by omega) (by omega) (by kernel_rfl) (by omega)
 . have e:eY a b=1-(-1)-1:=by
    unfold eY;have p1:=vM ha1 db;have p2:=Et hb1 da;rw[tN (by omega)];rfl
   rw[e];exact py c1 c2 (by omega) (by omega) (by omega) (by kernel_rfl) (by omega)
 . have e:eY a b=1-0-0:=by
    unfold eY;have p1:=vM ha1 db;rw[hb1,qV];rw[tN (by omega)];rfl
   rw[e];exact py c1 c2 (by omega) (by omega) (by omega) (by kernel_rfl) (by omega)
 . have e:eY a b=1*aL ((a.num.natAbs*b.den:Nat):Int) ((b.num.natAbs*a.den:Nat):Int):=by
    unfold eY;have x1:((a.num.natAbs*b.den:Nat):Int)=(a.num*(b.den:Int)):=by
     rw[iZ,show((a.num.natAbs:Nat):Int)=a.num by omega]
    have x2:((b.num.natAbs*a.den:Nat):Int)=(b.num*(a.den:Int)):=by
     rw[iZ,show((b.num.natAbs:Nat):Int)=b.num by omega]
    rw[x1,x2];unfold aL;split<;>(try split)<;>(try split)<;>(try split)<;>omega
   rw[e];exact HP c1 c2 (by omega) ha hb
def l5(n:Int)(most:Nat):Nat:=(min n (most:Int)).toNat
theorem TE(J:Keep)(n:Int)(most:Nat):C J 136 [.int .i64 n,.int .i64 most] (.int .i64 (l5 n most:Nat)):=by
 refine aI Tryz.func136 rfl rfl rfl ?_;have e1:(if(most:Int)<n then(most:Int) else n)=min n (most:Int):=by split<;>omega
 have e2:(if min n (most:Int)>0 then min n (most:Int) else 0)=((l5 n most:Nat):Int):=by unfold l5;split<;>omega
 repeat (((first|refine W.RS (by kernel_rfl) ?_|refine W.ret ?_|refine⟨_,e1,?_⟩|refine⟨_,e2,?_⟩);conv=>whnf))
 rfl
theorem wu{z:Int}{d:Nat}(hd:0<d):az (mkRat z d)<=ln z.natAbs+ln d:=by
 unfold az;rw[pg hd,rx hd];have h1:(sv (decide (z<0)) (z.natAbs/Nat.gcd z.natAbs d)).natAbs<=z.natAbs:=by
  have h2:=li z.natAbs (Nat.gcd z.natAbs d);generalize z.natAbs/Nat.gcd z.natAbs d=t at h2 ⊢;unfold sv;split<;>omega
 have h2:=jJ h1;have h3:=jJ (li d (Nat.gcd z.natAbs d));omega
theorem xd(a b:Rat):az (a*b)<=az a+az b:=by
 rw[vL];have h:=wu (z:=a.num*b.num) (d:=a.den*b.den) (ld (dP a) (dP b));have h1:=hX a.num.natAbs b.num.natAbs;have h2:=hX a.den b.den;rw[fg] at h;unfold az at *;omega
theorem Si(a b:Rat):az (a+b)<=2*az a+2*az b+1:=by
 rw[Es];have h:=wu (z:=a.num*(b.den:Int)+b.num*(a.den:Int)) (d:=a.den*b.den) (ld (dP a) (dP b));have h1:=hX a.num.natAbs b.den;have h1':=hX b.num.natAbs a.den;have h2:=hX a.den b.den;have e1:(a.num*(b.den:Int)).natAbs=a.num.natAbs*b.den:=by rw[fg,ef]
 have e1':(b.num*(a.den:Int)).natAbs=b.num.natAbs*a.den:=by rw[fg,ef]
 have h3:=Gq (a.num.natAbs*b.den) (b.num.natAbs*a.den);have h4:(a.num*(b.den:Int)+b.num*(a.den:Int)).natAbs<=a.num.natAbs*b.den+b.num.natAbs*a.den:=by
  rw[<-e1,<-e1'];exact zG _ _
 have h5:=jJ h4;unfold az at *;omega
def af(d:Nat):IV:=.int .i64 d
theorem jy{l:List Nat}{j:Nat}(h:j<l.length):(l.map af)[j]?=some (af (l.getD j 0)):=by simp[h]
theorem VQ{l:List Nat}:∀y∈l.map af,y.cells.length=1:=by
 intro y hy;obtain⟨d,_,rfl⟩:=List.mem_map.1 hy;rfl
theorem Dl{a b:List IV}(h:a=b):SV.iv (.sl a)=SV.iv (.sl b):=by rw[h]
theorem B6(J:Keep){l:List Nat}(hl:l.length<2^60):C J 199 [.sl (l.map af)] (.sl ((l.dropWhile (· == 0)).map af)):=by
 refine aI Tryz.func199 rfl rfl rfl ?_;repeat (((first|refine W.R (by kernel_rfl) ?_|refine W.c rfl ?_);conv=>whnf))
 refine W.loop (G:={ m:List Nat // m.dropWhile (· == 0)=l.dropWhile (· == 0)/\m.length<=l.length }) (fun m=>am [(0,.iv (.sl (m.1.map af)))] [] 10) (fun m=>m.1.length) ⟨l,rfl,ak _⟩
  (Wk.tab [] ⟨aa,ab⟩ trivial rfl) ?_
 rintro⟨m,hm,hml⟩;show W J _ _ (am [(0,.iv (.sl (m.map af)))] [] 10) _;have lm:(m.map af).length=m.length:=by simp
 cases m with
 |nil=>
  repeat (((first|refine W.R (by kernel_rfl) ?_|refine W.c rfl ?_|refine⟨_,rfl,?_⟩|refine xr ?_|refine xA ?_);conv=>whnf))
  rw[<-hm];rfl
 |cons x m=>
  have hl2:(x::m).length=m.length+1:=rfl;by_cases h0:x=0
  . subst h0;repeat (((first|refine W.R (by kernel_rfl) ?_|refine W.c rfl ?_|refine⟨0,af 0,rfl,rfl,rfl,?_⟩|refine⟨.inl rfl,.inr VQ,?_⟩|refine⟨_,jr _,?_⟩|refine xT (by omega) ?_|refine xr ?_|refine And.intro (by omega) ?_|refine xB ?_);conv=>whnf))
    refine⟨⟨m,by rw[<-hm];simp,by omega⟩,Wk.tab [] ⟨⟨Dl ?_,rfl⟩,ab⟩ trivial rfl,?_⟩
    . rw[aH (by simp)];rfl
    . show m.length<(0::m).length;omega
  . repeat (((first|refine W.R (by kernel_rfl) ?_|refine W.c rfl ?_|refine⟨0,af x,rfl,rfl,rfl,?_⟩|refine⟨_,jr _,?_⟩|refine xT (by omega) ?_|refine xF (by omega) ?_|refine xr ?_|refine xB ?_);conv=>whnf))
    have e:(x::m).dropWhile (· == 0)=x::m:=by simp[h0]
    rw[<-hm,e];rfl
theorem Te(J:Keep)(l m:List Nat):C J 201 [.sl (l.map af),.sl (m.map af)] (.int .i64 (max l.length m.length:Nat)):=by
 have la:(l.map af).length=l.length:=by simp
 have lb:(m.map af).length=m.length:=by simp
 refine aI Tryz.func201 rfl rfl rfl ?_;by_cases h:m.length<l.length
 . repeat (((first|refine W.R (by kernel_rfl) ?_|refine W.c rfl ?_|refine xT (by omega) ?_|refine⟨_,rfl,?_⟩|refine xr ?_);conv=>whnf))
   rw[show max l.length m.length=(l.map af).length by omega];rfl
 . repeat (((first|refine W.R (by kernel_rfl) ?_|refine W.c rfl ?_|refine xF (by omega) ?_|refine⟨_,rfl,?_⟩|refine xr ?_);conv=>whnf))
   rw[show max l.length m.length=(m.map af).length by omega];rfl
theorem jk(J:Keep){l:List Nat}{i:Nat}(hl:l.length<2^60)(hi:i<2^60):C J 202 [.sl (l.map af),.int .i64 i] (.int .i64 (l.reverse.getD i 0:Nat)):=by
 have la:(l.map af).length=l.length:=by simp
 refine aI Tryz.func202 rfl rfl rfl ?_;by_cases h:l.length<=i
 . repeat (((first|refine W.R (by kernel_rfl) ?_|refine W.c rfl ?_|refine xT (by omega) ?_|refine⟨_,rfl,?_⟩|refine xr ?_);conv=>whnf))
   have e:l.reverse.getD i 0=0:=by simp[h]
   rw[e];rfl
 . repeat (((first|refine W.R (by kernel_rfl) ?_|refine W.c rfl ?_|refine⟨l.length-1-i,_,by omega,jy (by omega),rfl,?_⟩|refine ap (by omega) ?_|refine xF (by omega) ?_|refine⟨_,rfl,?_⟩|refine xr ?_);conv=>whnf))
   have e:l.reverse.getD i 0=l.getD (l.length-1-i) 0:=by
    rw[aV,aV,zJ (by omega)]
   rw[e];rfl
abbrev aq:Nat:=32768
def hv(l:List Nat):Nat:=nv aq l.reverse
def Hk(l:List Nat):Prop:=Ok aq l.reverse
theorem Aa{l m:List Nat}(hl:Hk l)(hm:Hk m)(h:l.length<m.length):hv l<hv m :=
 z7 (by decide) hl.dg hm.nm (by simpa using h)
theorem Kg{l m:List Nat}{i:Nat}(hl:Hk l)(he:l.length=m.length)(hi:i<l.length)(ht:l.take i=m.take i)(hd:l.getD i 0<m.getD i 0):hv l<hv m:=by
 have e1:l.reverse=(l.drop (i+1)).reverse++l.getD i 0::(l.take i).reverse:=by
  have:l=l.take i++l.getD i 0::l.drop (i+1):=by
   rw[aV,aQ hi];simp
  rw[show l.reverse=(l.take i++l.getD i 0::l.drop (i+1)).reverse by rw[<-this]];simp
 have e2:m.reverse=(m.drop (i+1)).reverse++m.getD i 0::(l.take i).reverse:=by
  have:m=m.take i++m.getD i 0::m.drop (i+1):=by
   rw[aV,aQ (show i<m.length by omega)];simp
  rw[ht,show m.reverse=(m.take i++m.getD i 0::m.drop (i+1)).reverse by rw[<-this]];simp
 unfold hv;rw[e1,e2];refine AC ?_ (by simp;omega) hd;have:=hl.dg;rw[e1] at this;exact this.left
theorem Tl(J:Keep){l m:List Nat}(hl:Hk l)(hm:Hk m)(hs:l.length<2^60):C J 150 [.sl (l.map af),.sl (m.map af)] (.int .i64 (aL (hv l:Nat) (hv m:Nat))):=by
 have la:(l.map af).length=l.length:=by simp
 have lb:(m.map af).length=m.length:=by simp
 refine aI Tryz.func150 rfl rfl rfl ?_;by_cases h:l.length=m.length
 . repeat (((first|refine W.R (by kernel_rfl) ?_|refine W.c rfl ?_|refine⟨false,bne_eq_false_iff_eq.2 (by omega),?_⟩|refine⟨_,rfl,?_⟩|refine xr ?_);conv=>whnf))
   refine W.loop (G:={ i:Nat // i<=l.length/\l.take i=m.take i }) (fun i=>am [(0,.iv (.sl (l.map af))),(1,.iv (.sl (m.map af))),(5,.iv (.int .i64 (i.1:Int)))] [] 10) (fun i=>l.length-i.1) ⟨0,by omega,by simp⟩
    (Wk.tab [] ⟨aa,aa,aa,ab⟩ trivial rfl) ?_
   rintro⟨i,hi,he⟩;show W J _ _ (am [(0,.iv (.sl (l.map af))),(1,.iv (.sl (m.map af))),(5,.iv (.int .i64 (i:Int)))] [] 10) _;by_cases h2:i<l.length
   . rcases Nat.lt_trichotomy (l.getD i 0) (m.getD i 0) with h3|h3|h3
     . have hlt:=Kg hl h h2 he h3;repeat (((first|refine W.R (by kernel_rfl) ?_|refine W.c rfl ?_|refine⟨i,_,rfl,jy (by omega),rfl,?_⟩|refine xT (by omega) ?_|refine⟨_,rfl,?_⟩|refine xr ?_);conv=>whnf))
       rw[tM (by omega)];rfl
     . repeat (((first|refine W.R (by kernel_rfl) ?_|refine W.c rfl ?_|refine⟨i,_,rfl,jy (by omega),rfl,?_⟩|refine ap (by omega) ?_|refine xT (by omega) ?_|refine xF (by omega) ?_|refine⟨_,rfl,?_⟩|refine xr ?_);conv=>whnf))
       refine⟨⟨i+1,by omega,?_⟩,Wk.tab [] ⟨aa,aa,aa,ab⟩ trivial rfl,?_⟩
       . rw[k9,k9,he];rw[aV,aV,aQ h2,aQ (show i<m.length by omega)] at h3;rw[aQ h2,aQ (show i<m.length by omega)];simp only[Mv] at h3;rw[h3]
       . show l.length-(i+1)<l.length-i;omega
     . have hlt:=Kg hm h.symm (by omega) he.symm h3;repeat (((first|refine W.R (by kernel_rfl) ?_|refine W.c rfl ?_|refine⟨i,_,rfl,jy (by omega),rfl,?_⟩|refine xT (by omega) ?_|refine xF (by omega) ?_|refine⟨_,rfl,?_⟩|refine xr ?_);conv=>whnf))
       rw[tN (by omega)];rfl
   . have e:l=m:=by
      have hil:i=l.length:=by omega
      rw[hil,aH (ak _),aH (by omega)] at he;exact he
     repeat (((first|refine W.R (by kernel_rfl) ?_|refine W.c rfl ?_|refine xF (by omega) ?_|refine⟨_,rfl,?_⟩|refine xr ?_);conv=>whnf))
     rw[e,F1 rfl];rfl
 . by_cases h2:l.length<m.length
   . have:=Aa hl hm h2;repeat (((first|refine W.R (by kernel_rfl) ?_|refine W.c rfl ?_|refine xT (by omega) ?_|refine⟨true,bne_iff_ne.2 (by omega),?_⟩|refine⟨_,rfl,?_⟩|refine xr ?_);conv=>whnf))
     rw[tM (by omega)];rfl
   . have:=Aa hm hl (by omega);repeat (((first|refine W.R (by kernel_rfl) ?_|refine W.c rfl ?_|refine xF (by omega) ?_|refine⟨true,bne_iff_ne.2 (by omega),?_⟩|refine⟨_,rfl,?_⟩|refine xr ?_);conv=>whnf))
     rw[tN (by omega)];rfl
theorem Dc(n:Nat):∃l,Ok aq l/\nv aq l=n:=by
 induction n using Nat.strongRecOn with
 |_ n ih=>
  by_cases h:n=0
  . exact⟨[],Ok.nil _,by rw[h];rfl⟩
  . obtain⟨l,h1,h2⟩:=ih (n/aq) (Eg (by omega) (by decide));refine⟨n%aq::l,⟨?_,?_⟩,?_⟩
    . intro d hd;rcases List.mem_cons.1 hd with rfl|hd
      . exact gh _ (by decide)
      . exact h1.dg d hd
    . intro d hd;cases l with
      |nil=>
       simp at hd;subst hd;have:n/aq=0:=h2.symm;have h5:=nF n aq;rw[this] at h5;omega
      |cons x l=>exact h1.nm d (by rwa[Mk] at hd)
    . rw[ic,h2,Nat.mod_add_div]
noncomputable def dh(n:Nat):List Nat:=(Dc n).choose.reverse
theorem eM(n:Nat):Hk (dh n):=by unfold Hk dh;rw[oU];exact(Dc n).choose_spec.1
theorem dJ(n:Nat):hv (dh n)=n:=by unfold hv dh;rw[oU];exact(Dc n).choose_spec.2
theorem yt{l:List Nat}(h:Hk l){n:Nat}(e:hv l=n):l=dh n:=by
 have:=CE (by decide) h (eM n) (by show hv l=hv (dh n);rw[e,dJ]);exact List.reverse_inj.1 this
theorem Gb(l:List Nat):(l.dropWhile (· == 0)).reverse=strip l.reverse:=by
 unfold strip;rw[oU]
theorem Bk{l:List Nat}(h:Dg aq l.reverse){n:Nat}(e:hv l=n):l.dropWhile (· == 0)=dh n:=by
 refine yt ?_ ?_
 . unfold Hk;rw[Gb];exact Ok.strip h
 . unfold hv at *;rw[Gb,Hd];exact e
theorem lM:dh 0=[]:=(yt (l:=[]) (Ok.nil _) rfl).symm
theorem ya{n:Nat}(h:dh n=[]):n=0:=by have:=dJ n;rw[h] at this;exact this.symm
noncomputable abbrev zh(z:Int):IV:=.agg [.int .i64 z.sign,.sl ((dh z.natAbs).map af)]
theorem rL(J:Keep){l:List Nat}{s:Int}(hs:s=1\/s = -1\/hv l=0)(hd:Dg aq l.reverse)(hl:l.length<2^60):C J 146 [.int .i64 s,.sl (l.map af)] (zh (s*(hv l:Nat))):=by
 refine aI Tryz.func146 rfl rfl rfl ?_;have c1:=B6 J hl;rw[Bk hd rfl] at c1;have le:((dh (hv l)).map af).length=(dh (hv l)).length:=by simp
 by_cases h0:hv l=0
 . rw[h0,lM] at c1;repeat (((first|refine W.R (by kernel_rfl) ?_|refine W.c rfl ?_|refine⟨_,c1,?_⟩|refine⟨_,rfl,?_⟩|refine xr ?_);conv=>whnf))
   rw[h0,show s*((0:Nat):Int)=0 by simp,show zh 0=.agg [.int .i64 0,.sl ((dh 0).map af)] from rfl,lM];rfl
 . have h1:(dh (hv l)).length≠0:=fun e=>h0 (ya (vv e));repeat (((first|refine W.R (by kernel_rfl) ?_|refine W.c rfl ?_|refine⟨_,c1,?_⟩|refine xF (by omega) ?_|refine⟨_,rfl,?_⟩|refine xr ?_);conv=>whnf))
   have e1:(s*(hv l:Nat)).sign=s:=by
    rcases hs with rfl|rfl|h
    . rw[lj,mE (by omega)]
    . rw[ky,lj,mD (by omega)]
    . exact absurd h h0
   have e2:(s*(hv l:Nat)).natAbs=hv l:=by
    rcases hs with rfl|rfl|h
    . omega
    . omega
    . exact absurd h h0
   rw[zh,e1,e2];rfl
theorem od(z:Int):z.sign = -1\/z.sign=0\/z.sign=1:=by
 rcases tl z 0 with h|h|h
 . exact .inl (mD h)
 . right;left;rw[h];rfl
 . exact .inr (.inr (mE h))
theorem Jn(J:Keep)(z:Int):C J 147 [zh z] (zh (-z)):=by
 refine aI Tryz.func147 rfl rfl rfl ?_;have h:=od z;have hw:IntKind.wrap .i64 (0-z.sign) = -z.sign:=by rw[b7 (by omega)];omega
 repeat (((first|refine W.RS (by kernel_rfl) ?_|refine W.ret ?_|refine⟨_,hw,?_⟩);conv=>whnf))
 rw[zh,Int.sign_neg,zH];rfl
theorem RE{O:List Nat}{i x:Nat}(h:i<O.length):O.reverse.set (O.length-1-i) x=(O.set i x).reverse:=by
 apply oQ;intro j;simp only[zj,hU];by_cases hj:j<O.length
 . rw[zJ (by simpa using hj),zJ (by simpa using hj)];simp only[cy,zj];by_cases e:i=O.length-1-j
   . have e2:O.length-1-i=j:=by omega
     rw[ar e2,ar e,ar (show O.length-1-i<O.length by omega),ar h]
   . have e2:¬O.length-1-i=j:=by omega
     rw[al e2,al e]
 . rw[qQ (by simp;omega),qQ (by simp;omega)];have:¬O.length-1-i=j:=by omega
   simp[this]
theorem r7{A M O:List Nat}{i x:Nat}{k c c':Int}(hi:i<O.length)(hs:(nv aq (O.take i):Int)+(aq:Int)^i*c=(nv aq (A.take i):Int)+k*(nv aq (M.take i):Int))
 (hx:(A.getD i 0:Int)+k*(M.getD i 0:Int)+c=(x:Int)+32768*c') :
 (nv aq ((O.set i x).take (i+1)):Int)+(aq:Int)^(i+1)*c'=(nv aq (A.take (i+1)):Int)+k*(nv aq (M.take (i+1)):Int):=by
 have g:∀l:List Nat,nv aq (l.take (i+1))=nv aq (l.take i)+aq^i*l.getD i 0:=fun l=>by
  by_cases h:i<l.length
  . rw[z6 aq l i h,aV,aQ h];rfl
  . have e:l.getD i 0=0:=by simp[Nat.not_lt.1 h]
    rw[e,aH (show l.length<=i+1 by omega),aH (Nat.not_lt.1 h)];exact(eG _).symm
 have hl:(O.take i).length=i:=by rw[b9];omega
 rw[oZ hi,lH,hl,g A,g M];simp only[Mw,iZ,Int.natCast_pow];rw[lk];have e1:((aq:Nat):Int)^i*((A.getD i 0:Int)+k*(M.getD i 0:Int)+c)=((aq:Nat):Int)^i*((x:Int)+32768*c'):=by rw[hx]
 have e2:((aq:Nat):Int)=32768:=rfl;rw[e2] at *;generalize ((32768:Int)^i)=p at *;rw[vN,vN,vN] at e1;rw[vN,Int.mul_left_comm k,Mx];omega
theorem oA{O:List Nat}{i j x:Nat}{y:Int}(h:i<O.length)(hj:j=O.length-1-i)(hy:y=(x:Int)):some (Bx.arr 3 1 ((O.reverse.map af).set j (.int .i64 y)) false)=some (Bx.arr 3 1 ((O.set i x).reverse.map af) false):=by
 rw[hj,hy,<-RE h,Mn];rfl
theorem VP{a b:List IV}(h:a=b):some (Bx.arr 3 1 a false)=some (Bx.arr 3 1 b false):=by rw[h]
theorem Jf(J:Keep){l m:List Nat}{k:Int}(hk:k=1\/k = -1)(hl:Dg aq l.reverse)(hm:Dg aq m.reverse)(hs:l.length<2^40)(hs2:m.length<2^40)(hle:0<=(hv l:Int)+k*(hv m:Int)) :
 C J 149 [.sl (l.map af),.sl (m.map af),.int .i64 k] (.sl ((dh ((hv l:Int)+k*(hv m:Int)).toNat).map af)):=by
 obtain⟨N,hN⟩:∃N,N=max l.length m.length+1:=⟨_,rfl⟩;have c1:=Te J l m;obtain⟨N',hN'⟩:∃N',max l.length m.length=N':=⟨_,rfl⟩;rw[hN'] at c1;refine aI Tryz.func149 rfl rfl rfl ?_;repeat (first|((first|refine W.R (by kernel_rfl) ?_|refine W.c rfl ?_|refine⟨_,c1,?_⟩|refine⟨rfl,N,by omega,?_⟩);conv=>whnf)|(refine⟨by show 8*_<=(281474976710656:Nat);omega,by unfold maxLen;omega,?_⟩;conv=>whnf)|(refine ap (by omega) ?_;conv=>whnf))
 refine W.loop (G:={ p:Nat×Int×List Nat // p.1<=N/\ -1<=p.2.1/\p.2.1<=1/\p.2.2.length=N/\Dg aq p.2.2/\(nv aq (p.2.2.take p.1):Int)+(aq:Int)^p.1*p.2.1=(nv aq (l.reverse.take p.1):Int)+k*(nv aq (m.reverse.take p.1):Int) })
  (fun p=>am [(0,.iv (.sl (l.map af))),(1,.iv (.sl (m.map af))),(2,.iv (.int .i64 (k))),(7,.iv (.int .i64 (N:Int))),(8,.ref 0 0 N true),(9,.iv (.int .i64 p.1.2.1)),(10,.iv (.int .i64 (p.1.1:Int)))]
    [(0,.arr 3 1 ((p.1.2.2).reverse.map af) false)] 30) (fun p=>N-p.1.1)
  ⟨(0,0,List.replicate N 0),by simp,by simp,by simp,by simp,Dg.replicate (by decide) _,by simp[nv]⟩
  (Wk.tab [(0,7)] ⟨aa,aa,aa,⟨cu (by omega),rfl⟩,⟨pW (by omega),rfl⟩,aa,aa,ab⟩ ⟨VP ?_,ab⟩ rfl) ?_
 . rw[Xp,vH];rfl
 rintro⟨⟨i,c,O⟩,hi,hc1,hc2,hO,hd,hs⟩;dsimp only at hi hc1 hc2 hO hd hs;show W J _ _ (am [(0,.iv (.sl (l.map af))),(1,.iv (.sl (m.map af))),(2,.iv (.int .i64 (k))),(7,.iv (.int .i64 (N:Int))),(8,.ref 0 0 N true),(9,.iv (.int .i64 c)),(10,.iv (.int .i64 (i:Int)))]
  [(0,.arr 3 1 ((O).reverse.map af) false)] 30) _
 have lO:(O.reverse.map af).length=O.length:=by simp
 have hs1:l.length<2^60:=by omega
 have hs3:m.length<2^60:=by omega
 have hx:l.reverse.getD i 0<32768:=hl.getD (by decide) i;have hy:m.reverse.getD i 0<32768:=hm.getD (by decide) i;by_cases h:i<N
 . rcases hk with rfl|rfl
   . by_cases h1:32768<=(l.reverse.getD i 0:Int)+m.reverse.getD i 0+c
     . have hp:=r7 (x:=((l.reverse.getD i 0:Int)+m.reverse.getD i 0+c-32768).toNat) (c':=1) (k:=1) (show i<O.length by omega) hs (by omega);repeat (first|((first|refine W.R (by kernel_rfl) ?_|refine W.c rfl ?_|refine⟨_,jk J (l:=l) (i:=i) hs1 (by omega),?_⟩|refine⟨_,jk J (l:=m) (i:=i) hs3 (by omega),?_⟩|refine⟨(rfl:(_:Nat)=_),N-1-i,by omega,by omega,?_⟩);conv=>whnf)|(refine⟨bv,_,jy (by rw[hU];omega),?_⟩;conv=>whnf)|((first|refine ap (by omega) ?_|refine xT (by omega) ?_|refine xF (by omega) ?_|refine xr ?_);conv=>whnf))
       exact⟨⟨(i+1,1,O.set i ((l.reverse.getD i 0:Int)+m.reverse.getD i 0+c-32768).toNat),by dsimp only;omega,by dsimp only;omega,by dsimp only;omega,by dsimp only;rw[cy];exact hO,hd.set (by simp only[aq];omega),hp⟩,
        Wk.tab [] ⟨aa,aa,aa,aa,aa,aa,aa,ab⟩ ⟨oA (by omega) (by omega) (by omega),ab⟩ rfl,by dsimp only;omega⟩
     . by_cases h2:(l.reverse.getD i 0:Int)+m.reverse.getD i 0+c<0
       . have hp:=r7 (x:=((l.reverse.getD i 0:Int)+m.reverse.getD i 0+c+32768).toNat) (c':=(-1)) (k:=1) (show i<O.length by omega) hs (by omega);repeat (first|((first|refine W.R (by kernel_rfl) ?_|refine W.c rfl ?_|refine⟨_,jk J (l:=l) (i:=i) hs1 (by omega),?_⟩|refine⟨_,jk J (l:=m) (i:=i) hs3 (by omega),?_⟩|refine⟨(rfl:(_:Nat)=_),N-1-i,by omega,by omega,?_⟩);conv=>whnf)|(refine⟨bv,_,jy (by rw[hU];omega),?_⟩;conv=>whnf)|((first|refine ap (by omega) ?_|refine xT (by omega) ?_|refine xF (by omega) ?_|refine xr ?_);conv=>whnf))
         exact⟨⟨(i+1,(-1),O.set i ((l.reverse.getD i 0:Int)+m.reverse.getD i 0+c+32768).toNat),by dsimp only;omega,by dsimp only;omega,by dsimp only;omega,by dsimp only;rw[cy];exact hO,hd.set (by simp only[aq];omega),hp⟩,
          Wk.tab [] ⟨aa,aa,aa,aa,aa,aa,aa,ab⟩ ⟨oA (by omega) (by omega) (by omega),ab⟩ rfl,by dsimp only;omega⟩
       . have hp:=r7 (x:=((l.reverse.getD i 0:Int)+m.reverse.getD i 0+c).toNat) (c':=0) (k:=1) (show i<O.length by omega) hs (by omega);repeat (first|((first|refine W.R (by kernel_rfl) ?_|refine W.c rfl ?_|refine⟨_,jk J (l:=l) (i:=i) hs1 (by omega),?_⟩|refine⟨_,jk J (l:=m) (i:=i) hs3 (by omega),?_⟩|refine⟨(rfl:(_:Nat)=_),N-1-i,by omega,by omega,?_⟩);conv=>whnf)|(refine⟨bv,_,jy (by rw[hU];omega),?_⟩;conv=>whnf)|((first|refine ap (by omega) ?_|refine xT (by omega) ?_|refine xF (by omega) ?_|refine xr ?_);conv=>whnf))
         exact⟨⟨(i+1,0,O.set i ((l.reverse.getD i 0:Int)+m.reverse.getD i 0+c).toNat),by dsimp only;omega,by dsimp only;omega,by dsimp only;omega,by dsimp only;rw[cy];exact hO,hd.set (by simp only[aq];omega),hp⟩,
          Wk.tab [] ⟨aa,aa,aa,aa,aa,aa,aa,ab⟩ ⟨oA (by omega) (by omega) (by omega),ab⟩ rfl,by dsimp only;omega⟩
   . by_cases h1:32768<=(l.reverse.getD i 0:Int)-m.reverse.getD i 0+c
     . have hp:=r7 (x:=((l.reverse.getD i 0:Int)-m.reverse.getD i 0+c-32768).toNat) (c':=1) (k:=(-1)) (show i<O.length by omega) hs (by omega);repeat (first|((first|refine W.R (by kernel_rfl) ?_|refine W.c rfl ?_|refine⟨_,jk J (l:=l) (i:=i) hs1 (by omega),?_⟩|refine⟨_,jk J (l:=m) (i:=i) hs3 (by omega),?_⟩|refine⟨(rfl:(_:Nat)=_),N-1-i,by omega,by omega,?_⟩);conv=>whnf)|(refine⟨bv,_,jy (by rw[hU];omega),?_⟩;conv=>whnf)|((first|refine ap (by omega) ?_|refine xT (by omega) ?_|refine xF (by omega) ?_|refine xr ?_);conv=>whnf))
       exact⟨⟨(i+1,1,O.set i ((l.reverse.getD i 0:Int)-m.reverse.getD i 0+c-32768).toNat),by dsimp only;omega,by dsimp only;omega,by dsimp only;omega,by dsimp only;rw[cy];exact hO,hd.set (by simp only[aq];omega),hp⟩,
        Wk.tab [] ⟨aa,aa,aa,aa,aa,aa,aa,ab⟩ ⟨oA (by omega) (by omega) (by omega),ab⟩ rfl,by dsimp only;omega⟩
     . by_cases h2:(l.reverse.getD i 0:Int)-m.reverse.getD i 0+c<0
       . have hp:=r7 (x:=((l.reverse.getD i 0:Int)-m.reverse.getD i 0+c+32768).toNat) (c':=(-1)) (k:=(-1)) (show i<O.length by omega) hs (by omega);repeat (first|((first|refine W.R (by kernel_rfl) ?_|refine W.c rfl ?_|refine⟨_,jk J (l:=l) (i:=i) hs1 (by omega),?_⟩|refine⟨_,jk J (l:=m) (i:=i) hs3 (by omega),?_⟩|refine⟨(rfl:(_:Nat)=_),N-1-i,by omega,by omega,?_⟩);conv=>whnf)|(refine⟨bv,_,jy (by rw[hU];omega),?_⟩;conv=>whnf)|((first|refine ap (by omega) ?_|refine xT (by omega) ?_|refine xF (by omega) ?_|refine xr ?_);conv=>whnf))
         exact⟨⟨(i+1,(-1),O.set i ((l.reverse.getD i 0:Int)-m.reverse.getD i 0+c+32768).toNat),by dsimp only;omega,by dsimp only;omega,by dsimp only;omega,by dsimp only;rw[cy];exact hO,hd.set (by simp only[aq];omega),hp⟩,
          Wk.tab [] ⟨aa,aa,aa,aa,aa,aa,aa,ab⟩ ⟨oA (by omega) (by omega) (by omega),ab⟩ rfl,by dsimp only;omega⟩
       . have hp:=r7 (x:=((l.reverse.getD i 0:Int)-m.reverse.getD i 0+c).toNat) (c':=0) (k:=(-1)) (show i<O.length by omega) hs (by omega);repeat (first|((first|refine W.R (by kernel_rfl) ?_|refine W.c rfl ?_|refine⟨_,jk J (l:=l) (i:=i) hs1 (by omega),?_⟩|refine⟨_,jk J (l:=m) (i:=i) hs3 (by omega),?_⟩|refine⟨(rfl:(_:Nat)=_),N-1-i,by omega,by omega,?_⟩);conv=>whnf)|(refine⟨bv,_,jy (by rw[hU];omega),?_⟩;conv=>whnf)|((first|refine ap (by omega) ?_|refine xT (by omega) ?_|refine xF (by omega) ?_|refine xr ?_);conv=>whnf))
         exact⟨⟨(i+1,0,O.set i ((l.reverse.getD i 0:Int)-m.reverse.getD i 0+c).toNat),by dsimp only;omega,by dsimp only;omega,by dsimp only;omega,by dsimp only;rw[cy];exact hO,hd.set (by simp only[aq];omega),hp⟩,
          Wk.tab [] ⟨aa,aa,aa,aa,aa,aa,aa,ab⟩ ⟨oA (by omega) (by omega) (by omega),ab⟩ rfl,by dsimp only;omega⟩
 . have g7:i=N:=by omega
   have hlt:=eJ hd;rw[hO] at hlt;rw[g7,aH (by omega),aH (by rw[hU];omega),aH (by rw[hU];omega)] at hs;have v1:hv l<aq^N':=gK (eJ hl) (cB (by decide) (by rw[hU];omega));have v2:hv m<aq^N':=gK (eJ hm) (cB (by decide) (by rw[hU];omega));have v3:aq^N'*2<=aq^N:=by
    rw[show N=N'+1 by omega,bQ];exact fG _ (by decide)
   have hp:((aq:Nat):Int)^N=((aq^N:Nat):Int):=(Int.natCast_pow _ _).symm;rw[hp] at hs;have hs':(nv aq O:Int)+((aq^N:Nat):Int)*c=(hv l:Int)+k*(hv m:Int):=hs;have hkm:k*(hv m:Int)<=(hv m:Int):=by rcases hk with rfl|rfl<;>omega
   have hc0:c=0:=by
    rcases (show c = -1\/c=0\/c=1 by omega) with rfl|rfl|rfl
    . omega
    . rfl
    . omega
   rw[hc0,Int.mul_zero,Int.add_zero] at hs';have hfin:hv O.reverse=((hv l:Int)+k*(hv m:Int)).toNat:=by
    unfold hv at *;rw[oU];omega
   have c9:=B6 J (l:=O.reverse) (by rw[hU];omega);rw[Bk (by rw[oU];exact hd) hfin] at c9;have e9:List.take N (List.drop 0 (O.reverse.map af))=O.reverse.map af:=by rw[bJ,aH (by omega)]
   rw[<-e9] at c9;repeat (((first|refine W.R (by kernel_rfl) ?_|refine W.c rfl ?_|refine⟨_,c9,?_⟩|refine xF (by omega) ?_|refine xr ?_);conv=>whnf))
   rfl
end Go.Proofs.Fl
namespace Go.Proofs.Fl
open Go.RowKit
def Dx(rs:List ResultVar)(f':FuncId)(zs:List IV):Exit->AS->Prop
 | .ret,Y=>match rs with
  | [.tmp t]=>match Y.tm t with
   | .clo f gs=>f=f'/\sH Y.bx gs zs/\gs.Pairwise (· ≠ ·)
   |_=>False
  |_=>False
 |_,_=>False
theorem SQ{X:Cx}{f f':FuncId}{fn:Func}{c:Code}(hf:X.P.funcs[f]?=some fn)(hb:fn.body=some c)(hn:(fn.name == "runtime.NumGoroutine")=false){xs zs:List IV}(hx:xs.length<=fn.ntmps)
 (h:CW X fn.ntmps c ⟨argS xs,fun _=>none,0⟩ (Dx fn.results.toList f' zs)):bm X.P X.I f xs f' zs:=by
 refine⟨⟨fn,hf,hn,by rw[hb];rfl⟩,fun H w args hI hH hargs=>?_⟩;have hlen:=hargs.length;refine(vw (n:=0)).1 (vB hf hb trivial ?_);refine h ⟨none,X.r0⟩ ⟨fun k=>w.heap.size<=k,w,H,fun _=>none,[]⟩ _ (fun w' hw'=>X.bel _ _ _ hI (ak _) hw'.below) (fun e Y' M H' U a0 w0 k hS0=>?_) [] H (fun _=>(0,0)) _ w ⟨⟨hH,BelowO.refl _ _,fun _ hk=>hk,HExtO.refl _ _,fun t=>?_,fun g b hg=>(by cases hg),fun g g' b b' hg=>(by cases hg),fun p k hk=>(by cases hk),MarksOk.nil _ _,fun g s g' b R hg=>(by cases hg)⟩,rfl,?_⟩
 . cases e with
   |ret=>
    simp only[Dx] at k;split at k
    . rename_i t hrs;split at k
      . rename_i f1 gs ht;obtain⟨rfl,hc,hp⟩:=k;show LeavesInM (FW none) 0 X.P fn a0.tmps (fun e w'=>∃(bs:List Nat) (H':ah),e=.returned (yK f1 bs)/\HeapHas w' H'/\HExt w.heap.size H H'/\Below w.heap.size w w'/\bs.Pairwise (· ≠ ·)/\mq (fun k=>w.heap.size<=k) w' H' bs zs) a0.defers .returning w0;rw[hS0.defers];refine rJ M hS0 fun a' w' hS _=>?_;have hv:=hS.sim.slot t;rw[ht] at hv;obtain⟨_,hv⟩:=hv;have hr:fn.results = #[.tmp t]:=dZ hrs;refine⟨_,results_tmp hr a'.tmps X.P w',gs.map fun g=>(U g).1,H',?_,hS.sim.has,hS.sim.ext,hS.sim.below.below,?_,?_⟩
        . rw[hv,yK,jF];rfl
        . refine List.pairwise_map.2 (hp.imp_of_mem fun{x y} hx hy hne e=>hne ?_);obtain⟨z1,hz1⟩:=lF hc x hx;obtain⟨z2,hz2⟩:=lF hc y hy;exact hS.sim.inj x y _ _ hz1 hz2 rfl rfl e
        . exact Bo hS.sim hc (fun g hg=>by obtain⟨z,hz⟩:=lF hc g hg;exact(hS.sim.box g _ hz).lo rfl)
      . exact k.elim
    . exact k.elim
   |_=>exact k.elim
 . show SR _ _ _ _ (argS xs t);rw[w5];cases hx':xs[t]? with
   |some x=>
    have hlt:t<args.length:=by rw[hlen];exact(List.getElem?_eq_some_iff.1 hx').1
    obtain⟨v,h1,h2⟩:=hargs.get t x hx';have:(args.toArray++Array.replicate (fn.ntmps-args.toArray.size) undef).getD t undef=v:=by
     simp[jd,hlt];exact(List.getElem?_eq_some_iff.1 h1).2
    rw[this];exact h2
   |none=>
    have hge:¬t<args.length:=by
     intro hlt;rw[hlen] at hlt;simp[hlt] at hx'
    show _=undef;simp[jd,hge,vE];split<;>rfl
 . show(args.toArray++Array.replicate (fn.ntmps-args.toArray.size) undef).size=fn.ntmps;simp;omega
section
variable (X:Cx)(nt l:Nat)(J:(Nat->Prop)->Nat->ah->World->Prop)
def YS(own:Nat->Prop)(H:ah)(U:Nat->Nat×Nat)(a:Act)(w:World)(Y:AS)(k:Nat):Prop :=
 (∃M,St ⟨own,w,H,fun _=>none,M⟩ nt H U Y.tm Y.bx a w)/\J own k H w
def WY(c:Code)(Y:AS)(k:Nat)(K:Exit->AS->Nat->Prop):Prop :=
 ∀Q:Exit->Act->World->Prop,(∀e Y' k' own H U a w,K e Y' k'->YS nt J own H U a w Y' k'->Q e a w)->∀own H U a w,YS nt J own H U a w Y k->c.wpIn (FW none) 0 X.P Q a w
def Vt(y:Code)(K:Exit->AS->Nat->Prop):Exit->AS->Nat->Prop
 | .normal,Y,k=>WY X nt J y Y k K
 |e,Y,k=>K e Y k
def Kw(id:Nat)(K:Exit->AS->Nat->Prop):Exit->AS->Nat->Prop
 | .exit i,Y,k=>bif Nat.beq i id then K .normal Y k else K (.exit i) Y k
 |e,Y,k=>K e Y k
def VE{G:Type}(inv:G->AS)(κ:G->Nat)(μ:G->Nat)(g:G)(K:Exit->AS->Nat->Prop):Exit->AS->Nat->Prop
 | .normal,Y,k=>∃g',Wk Y (inv g')/\k=κ g'/\μ g'<μ g
 |e,Y,k=>K e Y k
end
section
variable {X:Cx}{nt l:Nat}{ys:List (List IV)}{J:(Nat->Prop)->Nat->ah->World->Prop}{Y:AS}{k:Nat}{K:Exit->AS->Nat->Prop}
theorem T5(hJ:IterJ X l ys J){c:Code}(h:CW X nt c Y (fun e Y'=>K e Y' k)):WY X nt J c Y k K:=by
 rintro Q hQ own H U a w ⟨⟨M,hS⟩,hj⟩;refine h ⟨none,X.r0⟩ ⟨own,w,H,fun _=>none,[]⟩ Q (fun w' hb=>hJ.inv _ _ _ _ _ hj hb) (fun e Y' M' H' U' a' w' hk hS'=>hQ e Y' k own H' U' a' w' hk ⟨⟨M',?_,hS'.defers,hS'.size⟩,hJ.step own k H H' w w' hj hS'.sim.below hS'.sim.has hS'.sim.ext⟩) M H U a w hS;exact hS'.sim.rebase (fun g b hg ha=>(hS'.sim.box g b hg).lo ha) (fun g s R hg hR=>((hS'.sim.box g _ hg).2.2.2 R hR).1) hS'.sim.lo hS'.sim.pin hS'.sim.marks
theorem WY.skip(h:K .normal Y k):WY X nt J .skip Y k K:=fun _ hQ own H U a w hS=>D9 (hQ _ _ _ own H U a w h hS)
theorem WY.exit{id:Nat}(h:K (.exit id) Y k):WY X nt J (.exit id) Y k K:=fun _ hQ own H U a w hS=>Ea (hQ _ _ _ own H U a w h hS)
theorem WY.S{x y:Code}(h:WY X nt J x Y k (Vt X nt J y K)):WY X nt J (.seq x y) Y k K:=fun Q hQ own H U a w hS=>
 zt (h _ (fun e Y' k' own H U a w hk hS=>by
  cases e with
  |normal=>exact hk Q hQ own H U a w hS
  |_=>exact hQ _ _ _ own H U a w hk hS) own H U a w hS)
theorem WY.cond{c:Operand}{x y:Code}{t:Bool}(hc:evS Y.tm c=.iv (.bool t))(h1:t=true->WY X nt J x Y k K)(h2:t=false->WY X nt J y Y k K):WY X nt J (.cond c x y) Y k K:=fun Q hQ own H U a w hS=>by
 obtain⟨⟨M,hs⟩,hj⟩:=hS;have hv:=aU hs.sim rfl c;rw[hc] at hv;exact Eb (nQ hv) (fun e=>h1 e Q hQ own H U a w ⟨⟨M,hs⟩,hj⟩) (fun e=>h2 e Q hQ own H U a w ⟨⟨M,hs⟩,hj⟩)
theorem WY.block{id:Nat}{c:Code}(h:WY X nt J c Y k (Kw id K)):WY X nt J (.block id c) Y k K:=fun Q hQ own H U a w hS=>
 Ec (h _ (fun e Y' k' own H U a w hk hS=>by
  cases e with
  |exit i=>
   simp only[Kw] at hk;simp only[Exit.inBlock];by_cases hi:i=id
   . subst hi;rw[bj] at hk;simp only[bD];exact hQ _ _ _ own H U a w hk hS
   . have hb:Nat.beq i id=false:=by
      cases hb:Nat.beq i id
      . rfl
      . exact absurd (aw hb) hi
     rw[hb] at hk;simp only[hi,bE];exact hQ _ _ _ own H U a w hk hS
  |_=>exact hQ _ _ _ own H U a w hk hS) own H U a w hS)
theorem YS.weak{own:Nat->Prop}{H:ah}{U:Nat->Nat×Nat}{a:Act}{w:World}{Y':AS}(h:YS nt J own H U a w Y k)(hw:Wk Y Y'):∃ U',YS nt J own H U' a w Y' k:=by
 obtain⟨⟨M,hs⟩,hj⟩:=h;obtain⟨U',hs'⟩:=hs.weak hw;exact⟨U',⟨M,hs'⟩,hj⟩
theorem WY.loop{G:Type}(inv:G->AS)(κ:G->Nat)(μ:G->Nat){c:Code}(g0:G)(h0:Wk Y (inv g0))(hk0:k=κ g0)(h:∀g,WY X nt J c (inv g) (κ g) (VE inv κ μ g K)):WY X nt J (.loop c) Y k K:=fun Q hQ own H U a w hS=>by
 let I:G->Act->World->Prop:=fun g a w=>∃own H U,YS nt J own H U a w (inv g) (κ g)
 let M:Act->World->Nat:=fun a w=>mQ fun n=>∃g,μ g=n/\I g a w
 obtain⟨β0,hS0⟩:=hS.weak h0;refine wpIn_loop (fun a w=>∃g,I g a w) M ⟨g0,own,H,β0,hk0▸hS0⟩ fun a w ⟨g1,hJ1⟩=>?_;obtain⟨⟨g,e,hJ⟩,_⟩:=wc (p:=fun n=>∃g,μ g=n/\I g a w) ⟨g1,rfl,hJ1⟩;obtain⟨own1,H1,β1,hS1⟩:=hJ;refine h g _ (fun e' Y' k' own H U a' w' hk hS=>?_) own1 H1 β1 a w hS1;cases e' with
 |normal=>
  obtain⟨g',hw,rfl,hlt⟩:=hk;obtain⟨U',hS'⟩:=hS.weak hw;have hJ':I g' a' w':=⟨own,H,U',hS'⟩;have:=(wc (p:=fun n=>∃g,μ g=n/\I g a' w') ⟨g',rfl,hJ'⟩).2;refine⟨⟨g',hJ'⟩,?_⟩;show mQ _<mQ _;rw[<-e];exact g9 this hlt
 |_=>exact hQ _ _ _ own H U a' w' hk hS
theorem xi{P:Program}{I:World->Prop}{T:TypeId->Option TY}{Φ:Ctr}{E:Env}{Q:Exit->Act->World->Prop}{ro:Option Nat}(hT:bZ P T)(hΦ:CtrOk P I Φ)(hIE:∀w,BelowO E.own E.w0 w->I w){all:Array Oper}{rest:List Oper}{K:(Nat->SV)->(Nat->Option Bx)->List Lg->Prop}(hK:∀H U tm bx log a w,K tm bx log->St E nt H U tm bx a w->wpListIn (FW ro) 0 P all Q rest a w) :
 ∀{os:List Oper} {g:Nat} {tm:Nat->SV} {bx:Nat->Option Bx} {log:List Lg} {H:ah} {U:Nat->Nat×Nat} {a:Act} {w:World},cn nt os=true->St E nt H U tm bx a w->fx T Φ all os g tm bx log K->wpListIn (FW ro) 0 P all Q (os++rest) a w:=by
 intro os;induction os with
 |nil=>intro g tm bx log H U a w _ h ho;exact hK _ _ _ _ _ _ _ ho h
 |cons o os ih=>
  intro g tm bx log H U a w hd h ho;have hd':cn nt os=true:=by
   simp only[cn,ed,aC] at hd;exact hd.2
  have key:∃l:Lg,Fact T Φ all o g tm bx l/\fx T Φ all os (g+1) (dX tm o.dst l.r) (fV (bG bx l.e.fz) l.e.wr) (l::log) K:=by
   unfold fx at ho;split at ho
   . rename_i hy;obtain⟨r,e,h1,h2⟩:=A7 ho;exact⟨⟨r,e⟩,.inl ⟨hy,h1⟩,h2⟩
   . rename_i hy;exact⟨⟨.und,{}⟩,.inr ⟨hy,rfl,rfl⟩,ho⟩
   . exact ho.elim
  obtain⟨l,hf,h'⟩:=key;show wpListIn (FW ro) 0 P all Q (o::(os++rest)) a w;unfold wpListIn;exact AR hT hΦ hIE (nJ hd (by simp)) h hf fun H U a w hS=>ih hd' hS h'
theorem Sim.rounded{own:Nat->Prop}{M:List Deferred}{H H':ah}{U:Nat->Nat×Nat}{tm:Nat->SV}{bx:Nat->Option Bx}{tmps:Array Value}{w w' w0:World}{H0:ah}{pin:Nat->Option (Nat×Nat)}(h:Sim ⟨own,w0,H0,pin,M⟩ H U tm bx tmps w)(hh:HeapHas w' H')(hle:HLe H H')(hs:w.heap.size<=w'.heap.size)
 (ho:∀b,own b->b<w.heap.size->w'.heap[b]?=w.heap[b]?/\(H b=none->H' b=none)):Sim ⟨fun b=>own b/\(b<w.heap.size\/w'.heap.size<=b),w',H',fun _=>none,M⟩ H' U tm bx tmps w' where
 has:=hh
 below:=BelowO.refl _ _
 lo k hk:=⟨h.lo k (aP hs hk),.inr hk⟩
 ext:=HExtO.refl _ _
 slot t:=(h.slot t).mono hle (fun g b hg=>⟨b,hg,shape.refl b,rfl⟩)
 box g b hg:=by
  by_cases ha:b.alive=true
  . have hb:=h.box g b hg;have hlt:=hb.lt ha;have hl:=hb.lo ha;obtain⟨e1,e2⟩:=ho _ hl hlt;have hk:=hb.keep e1 hle e2 (fun s R eb hR=>by
     subst eb;exact ho R (hb.2.2.2 R hR).1 (jL hb.2.2.1 hR).1)
    cases b with
    |var x=>exact⟨⟨hl,.inl hlt⟩,hk.2⟩
    |arr=>exact⟨⟨hl,.inl hlt⟩,hk.2⟩
    |bld s=>
     refine⟨⟨hl,.inl hlt⟩,hk.2.1,hk.2.2.1,fun R hR=>?_⟩;have hR':=hR.same e1;exact⟨⟨(hb.2.2.2 R hR').1,.inl (jL hb.2.2.1 hR').1⟩,(hk.2.2.2 R hR).2⟩
    |arrN=>exact⟨hk.1,⟨hl,.inl hlt⟩,hk.2.2⟩
    |dead=>trivial
  . cases b<;>first|trivial|simp[Bx.alive] at ha
 inj:=h.inj
 pin g k hk:=by cases hk
 marks:=⟨h.marks.1,fun d hd=>by
  obtain⟨D,e,h1,h2⟩:=h.marks.2 d hd;have hlt:=(Array.getElem?_eq_some_iff.1 h2).1;exact⟨D,e,⟨h1,.inl hlt⟩,(ho D h1 hlt).1.trans h2⟩⟩
 hid g s g' b R h1 h2 ha hR:=h.hid g s g' b R h1 h2 ha (hR.same (ho _ ((h.box g _ h1).lo rfl) ((h.box g _ h1).lt rfl)).1)
theorem WY.yield(hJ:IterJ X l ys J)(n:Nat){id:Nat}{all:Array Oper}{o:Oper}{fo:Operand}{args:Array Operand}{ats:Array TypeId}(ho:all.toList[n]?=some o)(hd:cn nt all.toList=true)(hg:o.guard=none)(hop:o.op=.call { callee:=.value fo,args:=args,argTypes:=ats })
 (h:fx X.T X.C all (all.toList.take n) Y.nx Y.tm Y.bx [] fun tm bx _=>match evS tm fo,fM bx (evS tm) args.toList with
   | .yld l',some (y,fs)=>l'=l/\ys[k]?=some y/\fx X.T X.C all (all.toList.drop (n+1)) (Y.nx+n+1) (dX tm o.dst (.iv (.bool true))) (bG bx fs) [] fun tm bx _=>K .normal ⟨tm,bx,Y.nx+all.size⟩ (k+1)
   |_,_=>False):WY X nt J (.region id all false) Y k K:=by
 rintro Q hQ own H U a w ⟨⟨M,hS⟩,hj⟩;refine vA ?_;have hsplit:all.toList=all.toList.take n++o::all.toList.drop (n+1):=by
  have hlt:=(List.getElem?_eq_some_iff.1 ho).1;have he:=(List.getElem?_eq_some_iff.1 ho).2;have h1:=ks n all.toList;rw[dY hlt,he] at h1;exact h1.symm
 have hd1:cn nt (all.toList.take n)=true:=by
  unfold cn at hd ⊢;rw[kq] at hd ⊢;exact fun x hx=>hd x (dH hx)
 have hd2:cn nt (all.toList.drop (n+1))=true:=by
  unfold cn at hd ⊢;rw[kq] at hd ⊢;exact fun x hx=>hd x (iu hx)
 have hdo:∀d,o.dst=some d->d<nt:=nJ hd (cd ho);rw[hsplit];refine xi (E:=⟨own,w,H,fun _=>none,M⟩) X.hT X.ok (fun w' hb=>hJ.inv _ _ _ _ _ hj hb) (fun H1 β1 tm bx log a1 w1 hk hS1=>?_) hd1 hS h;split at hk
 . rename_i l' y fs hfo hargs;obtain⟨rfl,hy,hk⟩:=hk;have hkl:=(List.getElem?_eq_some_iff.1 hy).1;have hv:=aU hS1.sim rfl fo;rw[hfo] at hv;have hfv:a1.eval fo=.func (.yield l') #[] #[]:=hv;obtain⟨H2,hle,S2,V2⟩:=rH (a:=a1) rfl hS1.sim hargs;have hj2:=hJ.step own k H H2 w w1 hj S2.below S2.has S2.ext;obtain⟨fn,tmps,assign,body,hyr,hR⟩:=hJ.round own k H2 w1 (args.toList.map a1.eval) hkl hj2 S2.has S2.lo (by rw[(List.getElem?_eq_some_iff.1 hy).2];exact V2);have hrun:(execOp a1.eval o).run X.P w1=.ok (.round l' fn tmps assign body) w1:=by
    have ea:(args.toList.map a1.eval).toArray=args.map a1.eval:=by apply dZ;simp
    rw[ea] at hyr;simp only[execOp,hop,resolve,hfv,Deferred.ofValue,av,ay,au,invoke];simpa using hyr
   unfold wpListIn;simp only[Region.wanted,hg,bD];refine⟨fun _ _=>trivial,?_⟩;rw[show(FW none).round=none from rfl,Oper.semAt_none,hrun];refine⟨fun e=>(by cases e),hR.mono ?_⟩;rintro e w2 ⟨rfl,H3,h1,h2,h3,h4,h5,h6,h7,hj3⟩;have T:St ⟨fun b=>own b/\(b<w1.heap.size\/w2.heap.size<=b),w2,H3,fun _=>none,M⟩ nt H3 β1 (dX tm o.dst (.iv (.bool true))) (bG bx fs) (a1.put o.dst (.bool true)) w2 :=
    St.put ⟨S2.rounded h1 h2 h3 h7,hS1.defers,hS1.size⟩ hdo (r:=.iv (.bool true)) (.bool true)
   have:=xi (rest:=[]) (Q:=Q) (ro:=none) (E:=⟨fun b=>own b/\(b<w1.heap.size\/w2.heap.size<=b),w2,H3,fun _=>none,M⟩) X.hT X.ok (fun w' hb=>hJ.inv _ _ _ _ _ hj3 hb) (all:=all) (K:=fun tm bx _=>K .normal ⟨tm,bx,Y.nx+all.size⟩ (k+1)) (fun H4 β4 tm bx log a4 w4 hk4 hS4=>?_) hd2 T hk
   . rw[jb] at this;exact this
   . refine hQ .normal _ (k+1) (fun b=>own b/\(b<w1.heap.size\/w2.heap.size<=b)) H4 β4 a4 w4 hk4 ⟨⟨M,?_,hS4.defers,hS4.size⟩,hJ.step _ _ _ _ _ _ hj3 hS4.sim.below hS4.sim.has hS4.sim.ext⟩;exact hS4.sim.rebase (fun g b hg ha=>(hS4.sim.box g b hg).lo ha) (fun g s R hg hR=>((hS4.sim.box g _ hg).2.2.2 R hR).1) hS4.sim.lo hS4.sim.pin hS4.sim.marks
 . exact hk.elim
end
def qy:Nat->List IV->Nat->SV
 |_,[],_=>.und
 |i,_::_,0=>.ptr i 0
 |i,_::zs,t+1=>qy (i+1) zs t
def DG(l:Nat)(zs:List IV):Nat->SV
 |0=>.yld l
 |t+1=>qy 0 zs t
def nB:Nat->List IV->List (Nat×Bx)
 |_,[]=>[]
 |i,z::zs=>(i,.var z)::nB (i+1) zs
def Lu(n:Nat):Exit->AS->Nat->Prop
 | .normal,_,k=>k=n
 | .ret,_,k=>k=n
 |_,_,_=>False
theorem JM{own:Nat->Prop}{w:World}{H:ah}:∀{bs:List Nat} {zs:List IV},mq own w H bs zs->bs.length=zs.length
 | [],[],_=>rfl
 | [],_::_,h=>h.elim
 |_::_,[],h=>h.elim
 |_::_,_::_,h=>by simp[JM h.2]
theorem xz{own:Nat->Prop}{w:World}{H:ah}:∀{bs:List Nat} {zs:List IV},mq own w H bs zs->∀(i:Nat) (z:IV),zs[i]?=some z->∃b,bs[i]?=some b/\BR own w H (b,0) (.var z)
 | [],[],_,i,z,h=>by simp at h
 | [],_::_,h,_,_,_=>h.elim
 |_::_,[],h,_,_,_=>h.elim
 |b::bs,z'::zs,h,0,z,hz=>by simp at hz;subst hz;exact⟨b,rfl,h.1⟩
 |b::bs,z'::zs,h,i+1,z,hz=>by simp at hz;simpa using xz h.2 i z hz
theorem uh:∀{i:Nat} {zs:List IV} {g:Nat} {b:Bx},(g,b)∈nB i zs->∃j z,g=i+j/\zs[j]?=some z/\b=.var z
 |_,[],_,_,h=>by simp[nB] at h
 |i,z::zs,g,b,h=>by
  simp only[nB,eT,aA] at h;rcases h with⟨rfl,rfl⟩|h
  . exact⟨0,z,rfl,rfl,rfl⟩
  . obtain⟨j,z',e,h1,h2⟩:=uh h;exact⟨j+1,z',by omega,by simpa using h1,h2⟩
theorem H6:∀{i:Nat} {zs:List IV} {j:Nat},j<zs.length->cP (nB i zs) (i+j)≠none
 |_,[],_,h=>by simp at h
 |i,z::zs,0,_=>by simp[nB,cP,bj]
 |i,z::zs,j+1,h=>by
  have h':=H6 (i:=i+1) (zs:=zs) (j:=j) (by simpa using h);have hb:Nat.beq (i+(j+1)) i=false:=by
   cases hb:Nat.beq (i+(j+1)) i
   . rfl
   . have:=aw hb;omega
  simp only[nB,cP,hb,aW];rw[show i+(j+1)=i+1+j by omega];exact h'
theorem Ic:∀{i:Nat} {zs:List IV} {t:Nat},qy i zs t=if t<zs.length then .ptr (i+t) 0 else .und
 |i,[],t=>by simp[qy]
 |i,z::zs,0=>by simp[qy]
 |i,z::zs,t+1=>by rw[qy,Ic];simp[vm,Nat.add_left_comm]
theorem S3{X:Cx}{f:FuncId}{fn:Func}{c:Code}(hf:X.P.funcs[f]?=some fn)(hb:fn.body=some c)(hn:(fn.name == "runtime.NumGoroutine")=false)(hres:fn.results = #[]){zs:List IV}{ys:List (List IV)}(hx:zs.length+1<=fn.ntmps)
 (h:∀l J,IterJ X l ys J->WY X fn.ntmps J c ⟨DG l zs,cP (nB 0 zs),10⟩ 0 (Lu ys.length)):bt X f zs ys:=by
 refine⟨⟨fn,hf,hn,by rw[hb];rfl⟩,fun l J own H w bs hJ hj hH hlo hbs hp=>?_⟩;have hlen:=JM hbs;refine vB hf hb trivial ?_;refine h l J hJ _ (fun e Y' k' own' H' U' a' w' hk hY=>?_) own H (fun g=>(bs.getD g 0,0)) _ w ⟨⟨[],⟨hH,BelowO.refl _ _,hlo,HExtO.refl _ _,fun t=>?_,fun g b hg=>?_,fun g g' b b' hg hg' _ _ e=>?_,fun p k hk=>(by cases hk),MarksOk.nil _ _,fun g s g' b R hg=>(by obtain⟨j,z,_,_,e⟩:=uh (iC hg);cases e)⟩,rfl,?_⟩,hj⟩
 . obtain⟨⟨M,hS⟩,hj'⟩:=hY;have hfin:k'=ys.length->LeavesInM (FW none) 0 X.P fn a'.tmps (fun e w'=>∃v own' H',e=.returned v/\HeapHas w' H'/\J own' ys.length H' w') a'.defers .returning w':=fun hk=>by
    subst hk;rw[hS.defers];have goM:∀(M:List Deferred) (w':World),MarksOk own' M w'->HeapHas w' H'->J own' ys.length H' w'->LeavesInM (FW none) 0 X.P fn a'.tmps (fun e w'=>∃v own' H',e=.returned v/\HeapHas w' H'/\J own' ys.length H' w') M .returning w':=by
     intro M;induction M with
     |nil=>
      intro w' _ hh hj;exact⟨_,results_none hres _ _ _,_,own',H',rfl,hh,hj⟩
     |cons d M ih=>
      intro w' hm hh hj;obtain⟨D,e,ho,hb⟩:=hm.2 d (by simp);obtain⟨hp1,hp2⟩:=List.pairwise_cons.1 hm.1;refine⟨by simp,.inl ⟨D,w'.putObj D (.deferred none),by rw[e],Mh hb,ih _ ⟨hp2,fun d' hd'=>?_⟩ ?_ ?_⟩⟩
      . obtain⟨D',e',ho',hb'⟩:=hm.2 d' (dx _ hd');exact⟨D',e',ho',(cl (fun e2=>hp1 d' hd' (by rw[e,e',e2]))).trans hb'⟩
      . intro b arr hba;obtain⟨t,fr,ht⟩:=hh b arr hba;exact⟨t,fr,(cl (fun e2=>by rw[e2,hb] at ht;cases ht)).trans ht⟩
      . refine hJ.step own' _ H' H' w' _ hj ⟨rfl,rfl,rfl,by simp,fun k hk=>cl (fun e2=>hk (by rw[e2];exact ho))⟩ ?_ (HExtO.refl _ _);intro b arr hba;obtain⟨t,fr,ht⟩:=hh b arr hba;exact⟨t,fr,(cl (fun e2=>by rw[e2,hb] at ht;cases ht)).trans ht⟩
    exact goM M w' hS.sim.marks hS.sim.has hj'
   cases e with
   |normal=>exact hfin hk
   |ret=>exact hfin hk
   |_=>exact hk.elim
 . cases t with
   |zero=>simp[DG,SR,jM,jd]
   |succ t=>
    show SR _ _ _ _ (qy 0 zs t);rw[Ic];by_cases ht:t<zs.length
    . rw[ar ht];have htb:t<bs.length:=by omega
      refine⟨H6 ht,?_⟩;simp[jd,htb]
    . rw[al ht];have htb:¬t<bs.length:=by omega
      show _=undef;simp[jd,htb,vE];split<;>rfl
 . obtain⟨j,z,rfl,hz,rfl⟩:=uh (iC hg);obtain⟨b,e1,e2⟩:=xz hbs j z hz;simp only[aX];rw[show(bs.getD j 0,0)=(b,0) by simp[e1]];exact e2
 . obtain⟨j,z,rfl,hz,rfl⟩:=uh (iC hg);obtain⟨j',z',rfl,hz',rfl⟩:=uh (iC hg');obtain⟨b1,e1,_⟩:=xz hbs j z hz;obtain⟨b2,e2,_⟩:=xz hbs j' z' hz';simp[e1,e2] at e;simp only[aX];apply fP;intro hne;have l1:=(List.getElem?_eq_some_iff.1 e1).1;have l2:=(List.getElem?_eq_some_iff.1 e2).1;have v1:=(List.getElem?_eq_some_iff.1 e1).2;have v2:=(List.getElem?_eq_some_iff.1 e2).2;have hpg:=List.pairwise_iff_getElem.1 hp;rcases Mm hne with hlt|hlt
   . exact hpg j j' l1 l2 hlt (by rw[v1,v2,e])
   . exact hpg j' j l2 l1 hlt (by rw[v1,v2,e])
 . show((jM l::bs.map fun b=>Value.pointer (some ⟨b,0,none⟩)).toArray++Array.replicate (fn.ntmps-(jM l::bs.map fun b=>Value.pointer (some ⟨b,0,none⟩)).toArray.size) undef).size=fn.ntmps;simp;omega
attribute [irreducible] WY
abbrev MK(J:Keep):FuncId->List IV->FuncId->List IV->Prop:=bm Tryz.prog J.I
abbrev IT(J:Keep):FuncId->List IV->List (List IV)->Prop:=bt (cx J.top)
def Ui(J:Keep)(nt:Nat)(body:Code)(m:List (Nat×Bx)):Exit->AS->Prop
 | .normal,Y=>W J.any nt body Y fun e Y'=>e=.normal/\uB Y'.bx [] m
 |_,_=>False
def Cs(tm:Nat->SV):List (Nat×SV)->Prop
 | []=>True
 |p::l=>tm p.1=p.2/\Cs tm l
theorem Fw{tm:Nat->SV}:∀{l:List (Nat×SV)},Cs tm l->∀p∈l,tm p.1=p.2
 | [],_,p,h=>by simp at h
 |q::l,hs,p,h=>by
  rcases List.mem_cons.1 h with rfl|h
  . exact hs.1
  . exact Fw hs.2 p h
def LG(ids:List Nat):SV->Bool
 | .unk | .und | .iv _ | .nilS=>true
 | .ptr g _=>ids.any (Nat.beq g)
 | .cv _ _ gs=>gs.all fun g=>ids.any (Nat.beq g)
 |_=>false
theorem Rz{m:List (Nat×Bx)}{g:Nat}:cP m g≠none↔g∈m.map (·.1):=by
 induction m with
 |nil=>simp[cP]
 |cons p m ih=>
  simp only[cP,aS,eT];cases hb:Nat.beq g p.1 with
  |true=>simp[aw hb]
  |false=>
   have hne:=zq hb;simp only[aW,ih];exact⟨.inr,fun h=>h.resolve_left hne⟩
def l6(bx:Nat->Option Bx)(ids:List Nat)(i:Nat):Bool:=(bx (aJ+i)).isNone||ids.any (Nat.beq (aJ+i))
def B3(bx:Nat->Option Bx)(ids:List Nat):Bool:=l6 bx ids 0&&(l6 bx ids 1&&(l6 bx ids 2&&(l6 bx ids 3&&(l6 bx ids 4&&(l6 bx ids 5&&(l6 bx ids 6&&l6 bx ids 7))))))
theorem N3{bx:Nat->Option Bx}{ids:List Nat}(h:B3 bx ids=true):∀i,i<8->l6 bx ids i=true:=by
 simp only[B3,aC] at h;obtain⟨h0,h1,h2,h3,h4,h5,h6,h7⟩:=h;intro i hi
 match i,hi with
 |0,_=>exact h0
 |1,_=>exact h1
 |2,_=>exact h2
 |3,_=>exact h3
 |4,_=>exact h4
 |5,_=>exact h5
 |6,_=>exact h6
 |7,_=>exact h7
 |n+8,hn=>exact absurd hn (by omega)
section
variable {J:Keep}{nt:Nat}{Y:AS}{K:Exit->AS->Prop}
theorem VC{f f':FuncId}{fn:Func}{c:Code}(hf:Tryz.prog.funcs[f]?=some fn)(hb:fn.body=some c)(hn:(fn.name == "runtime.NumGoroutine")=false){xs zs:List IV}(hx:Nat.ble xs.length fn.ntmps=true)
 (h:W J fn.ntmps c ⟨argS xs,fun _=>none,0⟩ (Dx fn.results.toList f' zs)):MK J f xs f' zs:=by
 unfold W at h;exact SQ (X:=cx J) hf hb hn (aB hx) h
theorem VH{f:FuncId}{fn:Func}{c:Code}(hf:Tryz.prog.funcs[f]?=some fn)(hb:fn.body=some c)(hn:(fn.name == "runtime.NumGoroutine")=false)(hres:fn.results = #[]){zs:List IV}{ys:List (List IV)}(hx:Nat.ble (zs.length+1) fn.ntmps=true)
 (h:∀l F,IterJ (cx J.top) l ys F->WY (cx J.top) fn.ntmps F c ⟨DG l zs,cP (nB 0 zs),10⟩ 0 (Lu ys.length)):IT J f zs ys :=
 S3 (X:=cx J.top) hf hb hn hres (aB hx) h
theorem W.range{g:Operand}{ps:Array Tmp}{assign body:Code}{f:FuncId}{gs:List Nat}{zs:List IV}{ys:List (List IV)}(hit:IT J f zs ys)(ids:List Nat)(l:List (Nat×SV))(m:Nat->List (Nat×Bx))(nx:Nat)(hg:evS Y.tm g=.clo f gs)(hz:sH Y.bx gs zs)(hgs:gs.Pairwise (· ≠ ·))
 (hps:ps.toList.all (fun p=>Nat.blt p nt)=true) (hys:∀y∈ys,y.length=ps.size) (hids:∀k,(m k).map (·.1)=ids) (hal:∀k,∀p∈m k,p.2.alive=true) (hpin:ids.all (fun g=>Nat.ble aJ g&&Nat.blt g (aJ+8))=true)
 (hl:Cs Y.tm l) (hlo:l.all (fun p=>LG ids p.2)=true) (hb:uB Y.bx [] (m 0)) (hdj:gs.all (fun g=>!ids.any (Nat.beq g))=true) (hfree:B3 Y.bx ids=true)
 (hround:∀k (hk:k<ys.length),W J.any nt assign ⟨lZ (mh l) ps.toList ys[k],cP (m k),nx⟩ (Ui J nt body (m (k+1)))) (hend:K .normal (am l (m ys.length) nx)):W J.top nt (.rangeFunc g ps assign body) Y K:=by
 unfold W;have hmem:∀{g:Nat},ids.any (Nat.beq g)=true↔g∈ids:=fun{g}=>Ch;have hdom:∀k g,cP (m k) g≠none↔g∈ids:=fun k g=>by rw[Rz,hids k]
 refine CW.range (X:=cx J.top) (fun r h=>h) hg hz hgs hit (mh l) (fun k=>cP (m k)) (nx:=nx) (fun p hp=>?_) hys (fun t=>?_) (fun k t=>?_) (fun g b hgb=>?_) (fun id hid=>?_) (fun k g b hgb=>?_) (fun k g=>?_) (fun i hi hne=>?_) (fun k hk=>?_) hend
 . have:=List.all_eq_true.1 hps p hp;rwa[cR] at this
 . rcases w7 (l:=l) (t:=t) with h|h
   . exact .inl h
   . exact .inr (Fw hl _ h)
 . rcases w7 (l:=l) (t:=t) with h|h
   . rw[h];trivial
   . have:=List.all_eq_true.1 hlo _ h;simp only at this;cases hs:mh l t<;>rw[hs] at this<;>simp only[LG] at this<;>first|trivial|cases this|skip
     . rename_i g off;exact(hdom k g).2 (hmem.1 this)
     . intro g hg;exact(hdom k g).2 (hmem.1 (List.all_eq_true.1 this g hg))
 . have:=wk hb _ (iC hgb);exact this
 . cases hx:cP (m 0) id with
   |none=>rfl
   |some b=>
    have h1:=(hdom 0 id).1 (by rw[hx];simp);have h2:=List.all_eq_true.1 hdj id hid;rw[hmem.2 h1] at h2;cases h2
 . have h1:=(hdom k g).1 (by rw[hgb];simp);have h2:=List.all_eq_true.1 hpin g h1;simp only[aC,Mi,cR] at h2;exact⟨hal k _ (iC hgb),h2.1,h2.2⟩
 . rw[hdom,hdom]
 . have h1:=N3 hfree i hi;simp only[l6,fO,Xq] at h1;exact(hdom 0 _).2 (hmem.1 (h1.resolve_left hne))
 . have hr:=hround k hk;unfold W at hr;refine CW.mono (X:=cx J.any) hr fun e Y' hk=>?_;cases e with
   |normal=>
    have hk':W J.any nt body Y' _:=hk;unfold W at hk';refine CW.mono (X:=cx J.any) hk' fun e Y'' h=>⟨h.1,fun id b hib=>?_⟩;exact wk h.2 _ (iC hib)
   |_=>exact hk
end
section
variable {X:Cx}{nt l:Nat}{ys:List (List IV)}{F:(Nat->Prop)->Nat->ah->World->Prop}{Y:AS}{k:Nat}{K:Exit->AS->Nat->Prop}
theorem WY.R(hJ:IterJ X l ys F){id:Nat}{all:Array Oper}{draw:Bool}(h0:pV nt all draw=true)(h:qj X all draw Y fun Y'=>K .normal Y' k):WY X nt F (.region id all draw) Y k K:=by
 simp only[pV,aC,fO] at h0;exact T5 hJ (CW.region h0.1 (fun e=>h0.2.resolve_left (by subst e;simp)) h)
theorem WY.RS(hJ:IterJ X l ys F){id:Nat}{all:Array Oper}{draw:Bool}{y:Code}(h0:pV nt all draw=true)(h:qj X all draw Y fun Y'=>WY X nt F y Y' k K):WY X nt F (.seq (.region id all draw) y) Y k K :=
 WY.S (WY.R hJ h0 h)
theorem P0(hJ:IterJ X l ys F)(n:Nat){id:Nat}{all:Array Oper}{o:Oper}{fo:Operand}{args:Array Operand}{ats:Array TypeId}{y:Code}(ho:all.toList[n]?=some o)(hd:cn nt all.toList=true)(hg:o.guard=none)(hop:o.op=.call { callee:=.value fo,args:=args,argTypes:=ats })
 (h:fx X.T X.C all (all.toList.take n) Y.nx Y.tm Y.bx [] fun tm bx _=>match evS tm fo,fM bx (evS tm) args.toList with
   | .yld l',some (y',fs)=>l'=l/\ys[k]?=some y'/\fx X.T X.C all (all.toList.drop (n+1)) (Y.nx+n+1) (dX tm o.dst (.iv (.bool true))) (bG bx fs) [] fun tm bx _=>WY X nt F y ⟨tm,bx,Y.nx+all.size⟩ (k+1) K
   |_,_=>False):WY X nt F (.seq (.region id all false) y) Y k K :=
 WY.S (WY.yield hJ n ho hd hg hop h)
theorem WY.condT{c:Operand}{x y:Code}(hc:evS Y.tm c=.iv (.bool true))(h:WY X nt F x Y k K):WY X nt F (.cond c x y) Y k K:=WY.cond hc (fun _=>h) (fun e=>by cases e)
theorem WY.condF{c:Operand}{x y:Code}(hc:evS Y.tm c=.iv (.bool false))(h:WY X nt F y Y k K):WY X nt F (.cond c x y) Y k K:=WY.cond hc (fun e=>by cases e) (fun _=>h)
end
end Go.Proofs.Fl
namespace Go.Proofs.Fl
open Go.RowKit Go.Proofs.Dig
attribute [local irreducible] IntKind.wrap aY be bm bt
theorem Jh(J:Keep)(es:List IV):MK J 119 [.sl es] 176 [.sl es]:=by
 refine VC Tryz.func119 rfl rfl rfl ?_;repeat (((first|refine W.RS (by kernel_rfl) ?_|refine W.ret ?_|refine xr ?_);conv=>whnf))
 exact⟨⟨rfl,ab⟩,by simp⟩
def nj(ds:List Nat):List (List IV):=(List.range ds.length).map fun k=>[.int .i64 ((ds.length-1-k:Nat):Int),u32 (ds.getD (ds.length-1-k) 0)]
theorem Ib{ds:List Nat}{k:Nat}(h:k<ds.length):(nj ds)[k]?=some [.int .i64 ((ds.length-1-k:Nat):Int),u32 (ds.getD (ds.length-1-k) 0)]:=by
 simp[nj,h]
theorem rF(ds:List Nat):(nj ds).length=ds.length:=by simp[nj]
theorem Je(J:Keep){ds:List Nat}(hl:ds.length<2^60):IT J 176 [.sl (ds.map u32)] (nj ds):=by
 refine VH Tryz.func176 rfl rfl rfl rfl fun l F hF=>?_;have lm:(ds.map u32).length=ds.length:=by simp
 repeat (first|((first|refine WY.RS hF (by kernel_rfl) ?_|refine ap (by omega) ?_|refine⟨_,rfl,?_⟩);conv=>whnf)|(refine WY.block ?_))
 refine WY.loop (G:={ k:Nat // k<=ds.length }) (fun k=>am [(0,.yld l),(1,.ptr 0 0),(3,.iv (.int .i64 ((ds.length:Int)-1-(k.1:Int))))] [(0,.var (.sl (ds.map u32)))] 50) (fun k=>k.1) (fun k=>ds.length-k.1) ⟨0,bb _⟩
  (Wk.tab [] ⟨aa,aa,⟨?_,rfl⟩,ab⟩ ⟨rfl,ab⟩ rfl) rfl ?_
 . show SV.iv (.int .i64 _)=SV.iv (.int .i64 ((ds.length:Int)-1-((0:Nat):Int)));congr 2;omega
 rintro⟨k,hk⟩;show WY (cx J.top) _ F _ (am [(0,.yld l),(1,.ptr 0 0),(3,.iv (.int .i64 ((ds.length:Int)-1-(k:Int))))] [(0,.var (.sl (ds.map u32)))] 50) k _;have hbl:=rF ds;by_cases h:k<ds.length
 . refine WY.S ?_;refine WY.RS hF (by kernel_rfl) ?_;conv=>whnf
   refine⟨rfl,true,bu (by omega),?_⟩;conv=>whnf
   refine WY.condT rfl ?_;refine WY.skip ?_;conv=>whnf
   refine WY.S ?_;refine WY.block ?_;refine P0 hF 6 rfl rfl rfl rfl ?_;conv=>whnf
   have hj:((ds.length-1-k:Nat):Int)=(ds.length:Int)-1-(k:Int):=by omega
   refine⟨ds.length-1-k,u32 (ds.getD (ds.length-1-k) 0),hj.symm,bh (by omega),rfl,?_⟩;conv=>whnf
   rw[<-hj];refine⟨rfl,Ib h,?_⟩;conv=>whnf
   repeat (first|((first|refine WY.R hF (by kernel_rfl) ?_|refine WY.skip ?_|refine ap (by omega) ?_|refine⟨_,rfl,?_⟩);conv=>whnf)|(refine WY.condF rfl ?_))
   exact⟨⟨k+1,by omega⟩,Wk.tab [] ⟨aa,aa,⟨cu (by dsimp only;omega),rfl⟩,ab⟩ ⟨rfl,ab⟩ rfl,rfl,by dsimp only;omega⟩
 . refine WY.S ?_;refine WY.RS hF (by kernel_rfl) ?_;conv=>whnf
   refine⟨rfl,false,bz (by omega),?_⟩;conv=>whnf
   refine WY.condF rfl ?_;refine WY.exit ?_;conv=>whnf
   show k=(nj ds).length;rw[hbl];omega
theorem Ia{ds:List Nat}:∀y∈nj ds,y.length=2:=by
 intro y hy;obtain⟨k,_,rfl⟩:=List.mem_map.1 hy;rfl
theorem JD{ds:List Nat}{k:Nat}(hk:k<(nj ds).length):(nj ds)[k]=[.int .i64 ((ds.length-1-k:Nat):Int),u32 (ds.getD (ds.length-1-k) 0)]:=by
 have:=Ib (ds:=ds) (k:=k) (by rw[rF] at hk;exact hk);rw[aQ hk] at this;exact zK this
theorem Po{x:IV}{g:Nat}:∀p∈[(g,Bx.var x)],p.2.alive=true:=by
 intro p hp;simp at hp;subst hp;rfl
theorem VS{x y:Nat}(h:x=y):some (Bx.var (.int .u64 (x:Int)))=some (Bx.var (.int .u64 (y:Int))):=by rw[h]
theorem VT{x:Int}{y:Nat}(h:x=(y:Int)):some (Bx.var (.int .u64 x))=some (Bx.var (.int .u64 (y:Int))):=by rw[h]
def g7(ds:List Nat)(k:Nat):Nat:=nv B9 (ds.drop (ds.length-k))
theorem HA(ds:List Nat):g7 ds 0=0:=by simp[g7,nv]
theorem Jb(ds:List Nat):g7 ds ds.length=nv B9 ds:=by simp[g7]
theorem Bg{ds:List Nat}{k:Nat}(h:k<ds.length):g7 ds (k+1)=g7 ds k*1000000000+ds.getD (ds.length-1-k) 0:=by
 unfold g7;rw[dY (show ds.length-(k+1)<ds.length by omega),ic,show ds.length-(k+1)+1=ds.length-k by omega];have e:ds.getD (ds.length-1-k) 0=ds[ds.length-(k+1)]'(by omega):=by
  rw[aV,aQ (show ds.length-1-k<ds.length by omega)];simp[show ds.length-1-k=ds.length-(k+1) by omega]
 rw[e,cz];exact vm _ _
theorem UZ(ds:List Nat)(k:Nat):g7 ds k<=nv B9 ds:=by
 unfold g7;rw[show nv B9 ds=nv B9 (ds.take (ds.length-k)++ds.drop (ds.length-k)) by rw[ks],mM];have:1*nv B9 (ds.drop (ds.length-k))<=B9^(ds.take (ds.length-k)).length*nv B9 (ds.drop (ds.length-k)):=bW _ (fH (by decide));omega
theorem Ro(J:Keep){ds:List Nat}(hd:Dg B9 ds)(hl:ds.length<2^60)(hn:nv B9 ds<1000000000000000000):C J 195 [bF ds] (.int .u64 (nv B9 ds:Nat)):=by
 refine aI (J:=J.top) Tryz.func195 rfl rfl rfl ?_;repeat (((first|refine W.R (by kernel_rfl) ?_|refine W.c rfl ?_|refine⟨176,[.sl (ds.map u32)],Jh J _,rfl,?_⟩);conv=>whnf))
 refine W.weak (Y':=am [(3,.ptr aJ 0),(8,.clo 176 [6])] [(aJ,.var (.int .u64 0)),(6,.var (.sl (ds.map u32)))] 50) (Wk.tab [(aJ,2)] ⟨aa,aa,ab⟩ ⟨rfl,rfl,ab⟩ rfl) ?_;refine W.range (Je J hl) [aJ] [(3,.ptr aJ 0)] (fun k=>[(aJ,.var (.int .u64 (g7 ds k:Nat)))]) 60 rfl ⟨rfl,ab⟩ (by simp) rfl Ia (fun _=>rfl) (fun _=>Po) rfl ⟨rfl,ab⟩ rfl ⟨VS (HA ds).symm,ab⟩ rfl rfl (fun k hk=>?_) ?_
 . rw[JD hk];rw[rF] at hk;show W J.any _ _ ⟨lZ (mh [(3,.ptr aJ 0)]) [9,10] [.int .i64 ((ds.length-1-k:Nat):Int),u32 (ds.getD (ds.length-1-k) 0)],cP [(aJ,.var (.int .u64 (g7 ds k:Nat)))],60⟩ _;have h1:=Bg hk;have h2:=UZ ds (k+1);have h3:=hd.getD (by decide) (ds.length-1-k);repeat (first|((first|refine W.R (by kernel_rfl) ?_|refine⟨rfl,_,dU (by omega),?_⟩|refine⟨_,dU (by omega),?_⟩|refine xr ?_);conv=>whnf)|(refine W.block ?_))
   exact⟨VT (by omega),ab⟩
 . rw[rF,Jb];repeat (((first|refine W.RS (by kernel_rfl) ?_|refine W.ret ?_);conv=>whnf))
   rfl
theorem TK(J:Keep){n:Nat}(h:ln n<=2):C J 195 [aK n] (.int .u64 n):=by
 have:=Ro J (ds:=dg n) (ct n).dg (by have:(dg n).length<=2:=h;omega) (by rw[dq];exact CI h);rwa[dq] at this
noncomputable def lh(n:Nat):Nat:=(dh n).length
theorem yq(l:List Nat)(h:Dg aq l.reverse):hv l<aq^l.length:=by
 have:=eJ h;rwa[hU] at this
theorem gQ(n:Nat):n<aq^lh n:=by have:=yq (dh n) (eM n).dg;rwa[dJ] at this
theorem jO{n k:Nat}(h:n<aq^k):lh n<=k:=by
 have:=tA (B:=aq) (k:=k) (by decide) (eM n) (by have e:=dJ n;unfold hv at e;rw[e];exact h);rwa[hU] at this
theorem jK{a b:Nat}(h:a<=b):lh a<=lh b:=jO (g9 h (gQ b))
theorem Ke(a b:Nat):lh (a+b)<=max (lh a) (lh b)+1:=jO (by
 have h1:=gQ a;have h2:=gQ b;have h3:aq^lh a<=aq^max (lh a) (lh b):=cB (by decide) (by omega);have h4:aq^lh b<=aq^max (lh a) (lh b):=cB (by decide) (by omega);have h5:aq^max (lh a) (lh b)*2<=aq^max (lh a) (lh b)*aq:=fG _ (by decide);rw[bQ];omega)
theorem pN(a b:Nat):lh (a*b)<=lh a+lh b:=jO (by
 have h1:=gQ a;have h2:=gQ b;rw[hG];exact Nat.mul_lt_mul'' h1 h2)
theorem SX{n:Nat}(h:lh n=0):n=0:=by have:=gQ n;rw[h] at this;simp at this;exact this
theorem xQ{n:Nat}(h:0<n):0<lh n:=by
 apply fP;intro hh;have:=SX (n:=n) (by omega);omega
theorem rM(J:Keep){n:Nat}{s:Int}(hs:s=1\/s = -1\/n=0)(hl:lh n<2^60):C J 146 [.int .i64 s,.sl ((dh n).map af)] (zh (s*(n:Int))):=by
 have:=rL J (l:=dh n) (s:=s) (by rw[dJ];exact hs) (eM n).dg hl;rwa[dJ] at this
theorem QX(J:Keep){a b:Nat}(ha:lh a<2^40)(hb:lh b<2^40):C J 149 [.sl ((dh a).map af),.sl ((dh b).map af),.int .i64 1] (.sl ((dh (a+b)).map af)):=by
 have:=Jf J (l:=dh a) (m:=dh b) (k:=1) (.inl rfl) (eM a).dg (eM b).dg ha hb (by omega);rw[dJ,dJ,show((a:Int)+1*(b:Int)).toNat=a+b by omega] at this;exact this
theorem wQ(J:Keep){a b:Nat}(h:b<=a)(ha:lh a<2^40):C J 149 [.sl ((dh a).map af),.sl ((dh b).map af),.int .i64 (-1)] (.sl ((dh (a-b)).map af)):=by
 have hb:lh b<2^40:=g9 (jK h) ha;have:=Jf J (l:=dh a) (m:=dh b) (k := -1) (.inr rfl) (eM a).dg (eM b).dg ha hb (by rw[dJ,dJ];omega);rw[dJ,dJ,show((a:Int) + -1*(b:Int)).toNat=a-b by omega] at this;exact this
theorem xo(J:Keep){a b:Nat}(ha:lh a<2^60):C J 150 [.sl ((dh a).map af),.sl ((dh b).map af)] (.int .i64 (aL (a:Nat) (b:Nat))):=by
 have:=Tl J (l:=dh a) (m:=dh b) (eM a) (eM b) ha;rwa[dJ,dJ] at this
theorem oC{x y:Int}(h:x=y):zh x=zh y:=by rw[h]
theorem Tv(J:Keep){x y:Int}(hx:lh x.natAbs<2^40)(hy:lh y.natAbs<2^40):C J 85 [zh x,zh y] (zh (x+y)):=by
 refine aI Tryz.func85 rfl rfl rfl ?_;have sx:=od x;have sy:=od y;by_cases x0:x.sign=0
 . repeat (((first|refine W.R (by kernel_rfl) ?_|refine W.c rfl ?_|refine xT (by omega) ?_|refine xr ?_);conv=>whnf))
   have:x=0:=Int.sign_eq_zero_iff_zero.1 x0;exact oC (by omega)
 . by_cases y0:y.sign=0
   . repeat (((first|refine W.R (by kernel_rfl) ?_|refine W.c rfl ?_|refine xT (by omega) ?_|refine xF (by omega) ?_|refine xr ?_);conv=>whnf))
     have:y=0:=Int.sign_eq_zero_iff_zero.1 y0;exact oC (by omega)
   . have ex:=My x;have ey:=My y;by_cases h:x.sign=y.sign
     . have l1:=Ke x.natAbs y.natAbs;have c1:=QX J hx hy;have c2:=rM J (n:=x.natAbs+y.natAbs) (s:=x.sign) (by omega) (by omega);repeat (((first|refine W.R (by kernel_rfl) ?_|refine W.c rfl ?_|refine⟨_,c1,?_⟩|refine⟨_,c2,?_⟩|refine xT (by omega) ?_|refine xF (by omega) ?_|refine xr ?_);conv=>whnf))
       refine oC ?_;rw[Mw,vN,ex,h,ey]
     . by_cases hl:y.natAbs<=x.natAbs
       . have hc:0<=aL (x.natAbs:Nat) (y.natAbs:Nat):=by unfold aL;split<;>(try split)<;>omega
         have l1:=jK (Ms x.natAbs y.natAbs);have c1:=wQ J hl hx;have c2:=rM J (n:=x.natAbs-y.natAbs) (s:=x.sign) (by omega) (by omega);repeat (((first|refine W.R (by kernel_rfl) ?_|refine W.c rfl ?_|refine⟨_,xo J (a:=x.natAbs) (b:=y.natAbs) (by omega),?_⟩|refine⟨_,c1,?_⟩|refine⟨_,c2,?_⟩|refine xT (by omega) ?_|refine xF (by omega) ?_|refine xr ?_);conv=>whnf))
         refine oC ?_;have e:x.sign = -y.sign:=by omega
         have e2:x.sign*(y.natAbs:Int) = -y:=by rw[e,ky,ey]
         rw[Int.natCast_sub hl,Int.mul_sub,ex,e2];omega
       . have hc:aL (x.natAbs:Nat) (y.natAbs:Nat)<0:=by unfold aL;split<;>(try split)<;>omega
         have hl':x.natAbs<=y.natAbs:=by omega
         have l1:=jK (Ms y.natAbs x.natAbs);have c1:=wQ J hl' hy;have c2:=rM J (n:=y.natAbs-x.natAbs) (s:=y.sign) (by omega) (by omega);repeat (((first|refine W.R (by kernel_rfl) ?_|refine W.c rfl ?_|refine⟨_,xo J (a:=x.natAbs) (b:=y.natAbs) (by omega),?_⟩|refine⟨_,c1,?_⟩|refine⟨_,c2,?_⟩|refine xF (by omega) ?_|refine xr ?_);conv=>whnf))
         refine oC ?_;have e:y.sign = -x.sign:=by omega
         have e2:y.sign*(x.natAbs:Int) = -x:=by rw[e,ky,ex]
         rw[Int.natCast_sub hl',Int.mul_sub,ey,e2];omega
def KE(s:Int)(a:Nat)(o:List Nat)(t:Int):AS :=
 match o with
 | []=>am [(0,.iv (.int .i64 (s*(a:Int)))),(2,.ptr 0 0),(3,.iv (.int .i64 t)),(4,.nilS)] [(0,.var (.agg [.int .i64 0,.sl []]))] 20
 |x::o=>am [(0,.iv (.int .i64 (s*(a:Int)))),(2,.ptr 0 0),(3,.iv (.int .i64 t)),(4,.ref 1 0 (x::o).length true)] [(0,.var (.agg [.int .i64 0,.sl []])),(1,.arr 3 1 ((x::o).map af) false)] 20
theorem JN{a:Nat}{o:List Nat}{n:Nat}(h:hv o+aq^o.length*a=n):hv (a%32768::o)+aq^(a%32768::o).length*(a/32768)=n:=by
 unfold hv at *;rw[Mz,lH,hU,bf,bQ,kX,dI,<-bR];rw[<-h];congr 2;simp only[aq];omega
theorem KD{a:Nat}{o:List Nat}{n:Nat}(h:hv o+aq^o.length*a=n)(ha:a≠0)(hn:n<2^64):o.length<=4:=by
 apply fP;intro hc;have h1:aq^5<=aq^o.length:=cB (by decide) (by omega);have h2:aq^o.length*1<=aq^o.length*a:=fG _ (by omega);have h3:aq^5=37778931862957161709568:=by decide
 omega
theorem js{a b:List IV}(h:a=b):some (Bx.arr 3 1 a false)=some (Bx.arr 3 1 b false):=by rw[h]
theorem xg{x:Int}{r:Nat}(h:x=(r:Int)):[IV.int .i64 x]++([]:List IV)=[r].map af:=by rw[h];rfl
theorem wT{x:Int}{r:Nat}{o:List Nat}{k:Nat}(hx:x=(r:Int))(hk:k=o.length):[IV.int .i64 x]++List.take k (List.drop 0 (o.map af))=(r::o).map af:=by
 rw[bJ,aH (by simp[hk]),hx];rfl
theorem xH{g n m:Nat}(h:n=m):SV.ref g 0 n true=SV.ref g 0 m true:=by rw[h]
theorem yk:∀y∈([]:List IV),y.cells.length=1/\y.isTup=false:=by intro y hy;cases hy
theorem yf{l:List Nat}{k:Nat}:∀y∈List.take k (List.drop 0 (l.map af)),y.cells.length=1/\y.isTup=false:=by
 intro y hy;obtain⟨d,_,rfl⟩:=List.mem_map.1 (iu (dH hy));exact⟨rfl,rfl⟩
theorem Q0(J:Keep){n:Nat}(hn:n<=9223372036854775807):C J 82 [.int .i64 (1*(n:Int))] (zh (1*(n:Int))):=by
 refine aI Tryz.func82 rfl rfl rfl ?_;repeat (((first|refine W.R (by kernel_rfl) ?_|refine W.c rfl ?_|refine xF (by omega) ?_|refine xr ?_);conv=>whnf))
 refine W.loop (G:={ p:List Nat×Nat // Dg aq p.1.reverse/\hv p.1+aq^p.1.length*p.2=n/\p.2<=n/\p.1.length<=5 }) (fun p=>KE 1 p.1.2 p.1.1 (1)) (fun p=>p.1.2) ⟨([],n),Dg.nil _,by simp[hv,nv],ak _,by simp⟩
  (Wk.tab [] ⟨aa,aa,aa,aa,ab⟩ ⟨rfl,ab⟩ rfl) ?_
 rintro⟨⟨o,a⟩,hd,hv',han,hl⟩;dsimp only at hd hv' han hl;have hm:(1*(a:Int)).tmod 32768=1*((a%32768:Nat):Int):=by
  rw[lj,lj];exact kK a 32768
 have hq:IntKind.wrap .i64 ((1*(a:Int)).tdiv 32768)=1*((a/32768:Nat):Int):=by
  rw[lj,lj,show(32768:Int)=((32768:Nat):Int) from rfl,lX];exact b7 (by omega)
 have hst:=JN hv';have hdg:Dg aq (a%32768::o).reverse:=by
  rw[Mz];exact hd.append (nR (gh _ (by decide)))
 have hle:a/32768<=n:=aP (li _ _) han;obtain⟨q,hqe⟩:∃q,a/32768=q:=⟨_,rfl⟩;obtain⟨r,hre⟩:∃r,a%32768=r:=⟨_,rfl⟩;have hqa:a≠0->q<a:=fun h=>by omega
 rw[hqe] at hq hst hle;rw[hre] at hm hst hdg;cases o with
 |nil=>
  show W J _ _ (am [(0,.iv (.int .i64 (1*(a:Int)))),(2,.ptr 0 0),(3,.iv (.int .i64 (1))),(4,.nilS)] [(0,.var (.agg [.int .i64 0,.sl []]))] 20) _;by_cases h:a=0
  . have hn0:n=0:=by rw[<-hv',h];simp[hv,nv]
    have c1:=rL J (l:=[]) (s:=1) (by simp) (Dg.nil _) (by simp);repeat (((first|refine W.R (by kernel_rfl) ?_|refine W.c rfl ?_|refine⟨_,c1,?_⟩|refine⟨false,bne_eq_false_iff_eq.2 (by omega),?_⟩|refine xr ?_);conv=>whnf))
    first|(exfalso;omega)|(rw[hn0];rfl)
  . by_cases h0:r=0
    . repeat (first|((first|refine W.R (by kernel_rfl) ?_|refine W.c rfl ?_|refine⟨by omega,_,hm,?_⟩|refine⟨by omega,_,hq,?_⟩);conv=>whnf)|(refine⟨bv,rfl,rfl,rfl,yk,by show(1+0)*8<=140737488355328;omega,by show 1+0<=maxLen;unfold maxLen;omega,?_⟩;conv=>whnf)|((first|refine xF (by omega) ?_|refine⟨true,bne_iff_ne.2 (by omega),?_⟩|refine xr ?_);conv=>whnf))
      exact⟨⟨([r],q),hdg,hst,hle,by simp⟩,Wk.tab [(1,30)] ⟨aa,aa,aa,aa,ab⟩ ⟨rfl,js (xg (by omega)),ab⟩ rfl,by dsimp only;omega⟩
    . repeat (first|((first|refine W.R (by kernel_rfl) ?_|refine W.c rfl ?_|refine⟨by omega,_,hm,?_⟩|refine⟨by omega,_,hq,?_⟩);conv=>whnf)|(refine⟨bv,rfl,rfl,rfl,yk,by show(1+0)*8<=140737488355328;omega,by show 1+0<=maxLen;unfold maxLen;omega,?_⟩;conv=>whnf)|((first|refine xF (by omega) ?_|refine⟨true,bne_iff_ne.2 (by omega),?_⟩|refine xr ?_);conv=>whnf))
      exact⟨⟨([r],q),hdg,hst,hle,by simp⟩,Wk.tab [(1,30)] ⟨aa,aa,aa,aa,ab⟩ ⟨rfl,js (xg (by omega)),ab⟩ rfl,by dsimp only;omega⟩
 |cons x o=>
  show W J _ _ (am [(0,.iv (.int .i64 (1*(a:Int)))),(2,.ptr 0 0),(3,.iv (.int .i64 (1))),(4,.ref 1 0 (x::o).length true)] [(0,.var (.agg [.int .i64 0,.sl []])),(1,.arr 3 1 ((x::o).map af) false)] 20) _;have e9:List.take (x::o).length (List.drop 0 ((x::o).map af))=(x::o).map af:=by rw[bJ,aH (by simp)]
  by_cases h:a=0
  . have hn0:n=hv (x::o):=by rw[<-hv',h];simp
    have c1:=rL J (l:=x::o) (s:=1) (by omega) hd (by omega);rw[<-e9] at c1;repeat (((first|refine W.R (by kernel_rfl) ?_|refine W.c rfl ?_|refine⟨_,c1,?_⟩|refine⟨false,bne_eq_false_iff_eq.2 (by omega),?_⟩|refine xr ?_);conv=>whnf))
    rw[hn0];rfl
  . have hl4:=KD hv' h (by omega);have l8:(List.take (x::o).length (List.drop 0 ((x::o).map af))).length=(x::o).length:=by rw[e9];simp
    by_cases h0:r=0
    . repeat (first|((first|refine W.R (by kernel_rfl) ?_|refine W.c rfl ?_|refine⟨by omega,_,hm,?_⟩|refine⟨by omega,_,hq,?_⟩);conv=>whnf)|(refine⟨im rfl,rfl,rfl,rfl,yf,by show(1+(List.take (x::o).length (List.drop 0 ((x::o).map af))).length)*8<=140737488355328;omega,by show 1+(List.take (x::o).length (List.drop 0 ((x::o).map af))).length<=maxLen;unfold maxLen;omega,?_⟩;conv=>whnf)|((first|refine xF (by omega) ?_|refine⟨true,bne_iff_ne.2 (by omega),?_⟩|refine xr ?_);conv=>whnf))
      exact⟨⟨(r::x::o,q),hdg,hst,hle,by simp only[bf] at hl4 ⊢;omega⟩,Wk.tab [(1,30)] ⟨aa,aa,aa,⟨xH (by rw[l8];simp only[bf];omega),rfl⟩,ab⟩ ⟨rfl,js (wT (by omega) rfl),ab⟩ rfl,by dsimp only;omega⟩
    . repeat (first|((first|refine W.R (by kernel_rfl) ?_|refine W.c rfl ?_|refine⟨by omega,_,hm,?_⟩|refine⟨by omega,_,hq,?_⟩);conv=>whnf)|(refine⟨im rfl,rfl,rfl,rfl,yf,by show(1+(List.take (x::o).length (List.drop 0 ((x::o).map af))).length)*8<=140737488355328;omega,by show 1+(List.take (x::o).length (List.drop 0 ((x::o).map af))).length<=maxLen;unfold maxLen;omega,?_⟩;conv=>whnf)|((first|refine xF (by omega) ?_|refine⟨true,bne_iff_ne.2 (by omega),?_⟩|refine xr ?_);conv=>whnf))
      exact⟨⟨(r::x::o,q),hdg,hst,hle,by simp only[bf] at hl4 ⊢;omega⟩,Wk.tab [(1,30)] ⟨aa,aa,aa,⟨xH (by rw[l8];simp only[bf];omega),rfl⟩,ab⟩ ⟨rfl,js (wT (by omega) rfl),ab⟩ rfl,by dsimp only;omega⟩
theorem Q1(J:Keep){n:Nat}(hn:0<n/\n<=9223372036854775808):C J 82 [.int .i64 ((-1)*(n:Int))] (zh ((-1)*(n:Int))):=by
 refine aI Tryz.func82 rfl rfl rfl ?_;repeat (((first|refine W.R (by kernel_rfl) ?_|refine W.c rfl ?_|refine xT (by omega) ?_|refine xr ?_);conv=>whnf))
 refine W.loop (G:={ p:List Nat×Nat // Dg aq p.1.reverse/\hv p.1+aq^p.1.length*p.2=n/\p.2<=n/\p.1.length<=5 }) (fun p=>KE (-1) p.1.2 p.1.1 ((-1))) (fun p=>p.1.2) ⟨([],n),Dg.nil _,by simp[hv,nv],ak _,by simp⟩
  (Wk.tab [] ⟨aa,aa,aa,aa,ab⟩ ⟨rfl,ab⟩ rfl) ?_
 rintro⟨⟨o,a⟩,hd,hv',han,hl⟩;dsimp only at hd hv' han hl;have hm:((-1)*(a:Int)).tmod 32768=(-1)*((a%32768:Nat):Int):=by
  rw[ky,ky,lj,lj,Int.neg_tmod];exact congrArg _ (kK a 32768)
 have hq:IntKind.wrap .i64 (((-1)*(a:Int)).tdiv 32768)=(-1)*((a/32768:Nat):Int):=by
  rw[ky,ky,lj,lj,Int.neg_tdiv,show(32768:Int)=((32768:Nat):Int) from rfl,lX];exact b7 (by omega)
 have hst:=JN hv';have hdg:Dg aq (a%32768::o).reverse:=by
  rw[Mz];exact hd.append (nR (gh _ (by decide)))
 have hle:a/32768<=n:=aP (li _ _) han;obtain⟨q,hqe⟩:∃q,a/32768=q:=⟨_,rfl⟩;obtain⟨r,hre⟩:∃r,a%32768=r:=⟨_,rfl⟩;have hqa:a≠0->q<a:=fun h=>by omega
 rw[hqe] at hq hst hle;rw[hre] at hm hst hdg;cases o with
 |nil=>
  show W J _ _ (am [(0,.iv (.int .i64 ((-1)*(a:Int)))),(2,.ptr 0 0),(3,.iv (.int .i64 ((-1)))),(4,.nilS)] [(0,.var (.agg [.int .i64 0,.sl []]))] 20) _;by_cases h:a=0
  . have hn0:n=0:=by rw[<-hv',h];simp[hv,nv]
    have c1:=rL J (l:=[]) (s:=(-1)) (by simp) (Dg.nil _) (by simp);repeat (((first|refine W.R (by kernel_rfl) ?_|refine W.c rfl ?_|refine⟨_,b7 (by omega),?_⟩|refine xT (by omega) ?_|refine⟨true,bne_iff_ne.2 (by omega),?_⟩|refine⟨_,rfl,?_⟩|refine xr ?_|refine And.intro (by omega) ?_);conv=>whnf))
    first|(exfalso;omega)|(rw[hn0];rfl)
  . by_cases h0:r=0
    . repeat (first|((first|refine W.R (by kernel_rfl) ?_|refine W.c rfl ?_|refine⟨by omega,_,hm,?_⟩|refine⟨by omega,_,hq,?_⟩);conv=>whnf)|(refine⟨bv,rfl,rfl,rfl,yk,by show(1+0)*8<=140737488355328;omega,by show 1+0<=maxLen;unfold maxLen;omega,?_⟩;conv=>whnf)|((first|refine xF (by omega) ?_|refine⟨true,bne_iff_ne.2 (by omega),?_⟩|refine xr ?_);conv=>whnf))
      exact⟨⟨([r],q),hdg,hst,hle,by simp⟩,Wk.tab [(1,30)] ⟨aa,aa,aa,aa,ab⟩ ⟨rfl,js (xg (by omega)),ab⟩ rfl,by dsimp only;omega⟩
    . repeat (first|((first|refine W.R (by kernel_rfl) ?_|refine W.c rfl ?_|refine⟨by omega,_,hm,?_⟩|refine⟨by omega,_,hq,?_⟩);conv=>whnf)|(refine⟨bv,rfl,rfl,rfl,yk,by show(1+0)*8<=140737488355328;omega,by show 1+0<=maxLen;unfold maxLen;omega,?_⟩;conv=>whnf)|((first|refine⟨_,b7 (by omega),?_⟩|refine xT (by omega) ?_|refine⟨true,bne_iff_ne.2 (by omega),?_⟩|refine xr ?_);conv=>whnf))
      exact⟨⟨([r],q),hdg,hst,hle,by simp⟩,Wk.tab [(1,33)] ⟨aa,aa,aa,aa,ab⟩ ⟨rfl,js (xg (by omega)),ab⟩ rfl,by dsimp only;omega⟩
 |cons x o=>
  show W J _ _ (am [(0,.iv (.int .i64 ((-1)*(a:Int)))),(2,.ptr 0 0),(3,.iv (.int .i64 ((-1)))),(4,.ref 1 0 (x::o).length true)] [(0,.var (.agg [.int .i64 0,.sl []])),(1,.arr 3 1 ((x::o).map af) false)] 20) _;have e9:List.take (x::o).length (List.drop 0 ((x::o).map af))=(x::o).map af:=by rw[bJ,aH (by simp)]
  by_cases h:a=0
  . have hn0:n=hv (x::o):=by rw[<-hv',h];simp
    have c1:=rL J (l:=x::o) (s:=(-1)) (by omega) hd (by omega);rw[<-e9] at c1;repeat (((first|refine W.R (by kernel_rfl) ?_|refine W.c rfl ?_|refine⟨_,c1,?_⟩|refine⟨false,bne_eq_false_iff_eq.2 (by omega),?_⟩|refine xr ?_);conv=>whnf))
    rw[hn0];rfl
  . have hl4:=KD hv' h (by omega);have l8:(List.take (x::o).length (List.drop 0 ((x::o).map af))).length=(x::o).length:=by rw[e9];simp
    by_cases h0:r=0
    . repeat (first|((first|refine W.R (by kernel_rfl) ?_|refine W.c rfl ?_|refine⟨by omega,_,hm,?_⟩|refine⟨by omega,_,hq,?_⟩);conv=>whnf)|(refine⟨im rfl,rfl,rfl,rfl,yf,by show(1+(List.take (x::o).length (List.drop 0 ((x::o).map af))).length)*8<=140737488355328;omega,by show 1+(List.take (x::o).length (List.drop 0 ((x::o).map af))).length<=maxLen;unfold maxLen;omega,?_⟩;conv=>whnf)|((first|refine xF (by omega) ?_|refine⟨true,bne_iff_ne.2 (by omega),?_⟩|refine xr ?_);conv=>whnf))
      exact⟨⟨(r::x::o,q),hdg,hst,hle,by simp only[bf] at hl4 ⊢;omega⟩,Wk.tab [(1,30)] ⟨aa,aa,aa,⟨xH (by rw[l8];simp only[bf];omega),rfl⟩,ab⟩ ⟨rfl,js (wT (by omega) rfl),ab⟩ rfl,by dsimp only;omega⟩
    . repeat (first|((first|refine W.R (by kernel_rfl) ?_|refine W.c rfl ?_|refine⟨by omega,_,hm,?_⟩|refine⟨by omega,_,hq,?_⟩);conv=>whnf)|(refine⟨im rfl,rfl,rfl,rfl,yf,by show(1+(List.take (x::o).length (List.drop 0 ((x::o).map af))).length)*8<=140737488355328;omega,by show 1+(List.take (x::o).length (List.drop 0 ((x::o).map af))).length<=maxLen;unfold maxLen;omega,?_⟩;conv=>whnf)|((first|refine⟨_,b7 (by omega),?_⟩|refine xT (by omega) ?_|refine⟨true,bne_iff_ne.2 (by omega),?_⟩|refine xr ?_);conv=>whnf))
      exact⟨⟨(r::x::o,q),hdg,hst,hle,by simp only[bf] at hl4 ⊢;omega⟩,Wk.tab [(1,33)] ⟨aa,aa,aa,⟨xH (by rw[l8];simp only[bf];omega),rfl⟩,ab⟩ ⟨rfl,js (wT (by omega) rfl),ab⟩ rfl,by dsimp only;omega⟩
theorem pH(J:Keep){z:Int}(h1 : -9223372036854775808<=z)(h2:z<=9223372036854775807):C J 82 [.int .i64 z] (zh z):=by
 by_cases h:z<0
 . have:=Q1 J (n:=z.natAbs) (by omega);rwa[show(-1:Int)*(z.natAbs:Int)=z by omega] at this
 . have:=Q0 J (n:=z.natAbs) (by omega);rwa[show(1:Int)*(z.natAbs:Int)=z by omega] at this
theorem Hc(B:Nat)(l:List Nat)(i:Nat):nv B (l.take (i+1))=nv B (l.take i)+B^i*l.getD i 0:=by
 by_cases h:i<l.length
 . rw[z6 B l i h,aV,aQ h];rfl
 . have e:l.getD i 0=0:=by simp[Nat.not_lt.1 h]
   rw[e,aH (show l.length<=i+1 by omega),aH (Nat.not_lt.1 h)];rfl
theorem SJ{B:Nat}{l:List Nat}{j d:Nat}(h:j<l.length):nv B (l.set j d)+B^j*l.getD j 0=nv B l+B^j*d:=by
 induction l generalizing j with
 |nil=>simp at h
 |cons x l ih=>
  cases j with
  |zero=>simp[nv];omega
  |succ j=>
   have:=ih (j:=j) (by simpa using h);simp only[Ei,ic,vI,bQ];have e1:B*(nv B (l.set j d)+B^j*l.getD j 0)=B*(nv B l+B^j*d):=by rw[this]
   rw[bR,bR] at e1;rw[cz (B^j) B,dI,dI];omega
theorem Rx{B:Nat}{o m:List Nat}{i k n x c r c' P:Nat}(hj:i+k<n)(hn:n<=o.length)(hs:nv B (o.take n)+B^(i+k)*c=P+B^i*(x*nv B (m.take k)))(he:c+(x*m.getD k 0+o.getD (i+k) 0)=r+B*c') :
 nv B ((o.set (i+k) r).take n)+B^(i+(k+1))*c'=P+B^i*(x*nv B (m.take (k+1))):=by
 have e0:(o.set (i+k) r).take n=(o.take n).set (i+k) r:=by rw[Ml]
 have e1:=SJ (B:=B) (l:=o.take n) (d:=r) (show i+k<(o.take n).length by rw[b9];omega);have e2:(o.take n).getD (i+k) 0=o.getD (i+k) 0:=by
  rw[aV,aV,cL,ar hj]
 rw[e2] at e1;rw[e0,Hc,<-kX,bQ,dI];have e3:B^(i+k)*(c+(x*m.getD k 0+o.getD (i+k) 0))=B^(i+k)*(r+B*c'):=by rw[he]
 rw[bR,bR,bR] at e3;have e4:B^i*(x*(nv B (m.take k)+B^k*m.getD k 0))=B^i*(x*nv B (m.take k))+B^(i+k)*(x*m.getD k 0):=by
  rw[bR,bR,hG];congr 1;rw[dI,vJ x]
 rw[e4];omega
theorem NZ{x y:Nat}(hx:x<32768)(hy:y<32768):x*y<=1073676289 :=
 aP (ff (Ej hx) (Ej hy)) (by decide)
theorem Ct{l:List Nat}{i j:Nat}(hi:i<l.length)(hj:j=l.length-1-i):(l.map af)[j]?=some (af (l.reverse.getD i 0)):=by
 rw[jy (by omega)];have e:l.reverse.getD i 0=l.getD j 0:=by
  rw[aV,aV,zJ hi,hj]
 rw[e]
theorem BH{o:List Nat}{i j:Nat}(hi:i<o.length)(hj:j=o.length-1-i):(o.reverse.map af)[j]?=some (af (o.getD i 0)):=by
 have:=Ct (l:=o.reverse) (i:=i) (j:=j) (by simpa using hi) (by simpa using hj);rwa[oU] at this
theorem iK{g n m:Nat}(h:n=m):SV.ref g 0 n true=SV.ref g 0 m true:=by rw[h]
theorem rR(J:Keep){x y:Int}(hx:lh x.natAbs<2^40)(hy:lh y.natAbs<2^40):C J 84 [zh x,zh y] (zh (x*y)):=by
 unfold lh at hx hy;obtain⟨l,hl0⟩:∃l,l=dh x.natAbs:=⟨_,rfl⟩;obtain⟨m,hm0⟩:∃m,m=dh y.natAbs:=⟨_,rfl⟩;have hol:Dg aq l.reverse:=by rw[hl0];exact(eM _).dg
 have hom:Dg aq m.reverse:=by rw[hm0];exact(eM _).dg
 have hvl:nv aq l.reverse=x.natAbs:=by rw[hl0];exact dJ _
 have hvm:nv aq m.reverse=y.natAbs:=by rw[hm0];exact dJ _
 show C J 84 [.agg [.int .i64 x.sign,.sl ((dh x.natAbs).map af)],.agg [.int .i64 y.sign,.sl ((dh y.natAbs).map af)]] _;rw[<-hl0,<-hm0];rw[<-hl0] at hx;rw[<-hm0] at hy;have la:(l.map af).length=l.length:=by simp
 have lb:(m.map af).length=m.length:=by simp
 obtain⟨N,hN⟩:∃N,N=l.length+m.length:=⟨_,rfl⟩;refine aI Tryz.func84 rfl rfl rfl ?_;repeat (first|((first|refine W.R (by kernel_rfl) ?_|refine W.c rfl ?_|refine⟨rfl,N,by omega,?_⟩);conv=>whnf)|(refine⟨by show 8*_<=(281474976710656:Nat);omega,by unfold maxLen;omega,?_⟩;conv=>whnf)|((first|refine ap (by omega) ?_|refine⟨_,rfl,?_⟩);conv=>whnf))
 refine W.loop (G:={ p:Nat×List Nat // p.1<=l.length/\p.2.length=N/\Dg aq p.2/\nv aq (p.2.take (p.1+m.length))=nv aq (l.reverse.take p.1)*nv aq m.reverse })
  (fun p=>am [(2,.ptr 0 0),(3,.ptr 1 0),(4,.ptr 2 0),(5,.ref 3 0 N true),(6,.iv (.int .i64 ((l.length:Int)-1-(p.1.1:Int))))]
    [(0,.var (.agg [.int .i64 x.sign,.sl (l.map af)])),(1,.var (.agg [.int .i64 y.sign,.sl (m.map af)])),(2,.var (.agg [.int .i64 0,.sl []])),(3,.arr 3 1 (p.1.2.reverse.map af) false)] 30) (fun p=>l.length-p.1.1)
  ⟨(0,List.replicate N 0),by simp,by simp,Dg.replicate (by decide) _,by simp[nv,vW]⟩
  (Wk.tab [(3,10)] ⟨aa,aa,aa,⟨iK (by omega),rfl⟩,⟨cu (by dsimp only;omega),rfl⟩,ab⟩ ⟨rfl,rfl,rfl,js ?_,ab⟩ rfl) ?_
 . rw[Xp,vH];rfl
 rintro⟨⟨i,o⟩,hi,ho,hd,hs⟩;dsimp only at hi ho hd hs;show W J _ _ (am [(2,.ptr 0 0),(3,.ptr 1 0),(4,.ptr 2 0),(5,.ref 3 0 N true),(6,.iv (.int .i64 ((l.length:Int)-1-(i:Int))))]
  [(0,.var (.agg [.int .i64 x.sign,.sl (l.map af)])),(1,.var (.agg [.int .i64 y.sign,.sl (m.map af)])),(2,.var (.agg [.int .i64 0,.sl []])),(3,.arr 3 1 (o.reverse.map af) false)] 30) _
 have lo:(o.reverse.map af).length=o.length:=by simp
 by_cases h:i<l.length
 . have hx2:l.reverse.getD i 0<32768:=hol.getD (by decide) i;repeat (((first|refine W.R (by kernel_rfl) ?_|refine W.c rfl ?_|refine ap (by omega) ?_|refine xT (by omega) ?_|refine⟨_,rfl,?_⟩|refine xr ?_);conv=>whnf))
   refine W.loop (G:={ p:Nat×Nat×List Nat // p.1<=m.length/\p.2.1<32768/\p.2.2.length=N/\Dg aq p.2.2/\nv aq (p.2.2.take (i+m.length))+aq^(i+p.1)*p.2.1=nv aq (l.reverse.take i)*nv aq m.reverse+aq^i*(l.reverse.getD i 0*nv aq (m.reverse.take p.1)) })
    (fun p=>am [(2,.ptr 0 0),(3,.ptr 1 0),(4,.ptr 2 0),(5,.ref 3 0 N true),(6,.iv (.int .i64 ((l.length:Int)-1-(i:Int)))),(7,.iv (.int .i64 (p.1.2.1:Int))),(8,.iv (.int .i64 ((m.length:Int)-1-(p.1.1:Int))))]
      [(0,.var (.agg [.int .i64 x.sign,.sl (l.map af)])),(1,.var (.agg [.int .i64 y.sign,.sl (m.map af)])),(2,.var (.agg [.int .i64 0,.sl []])),(3,.arr 3 1 (p.1.2.2.reverse.map af) false)] 60) (fun p=>m.length-p.1.1)
    ⟨(0,0,o),by simp,by simp,ho,hd,by simp[nv,hs]⟩
    (Wk.tab [] ⟨aa,aa,aa,aa,aa,aa,⟨cu (by dsimp only;omega),rfl⟩,ab⟩ ⟨rfl,rfl,rfl,rfl,ab⟩ rfl) ?_
   clear lo;rintro⟨⟨k,c,o2⟩,hk,hc,ho2,hd2,hs2⟩;dsimp only at hk hc ho2 hd2 hs2;show W J _ _ (am [(2,.ptr 0 0),(3,.ptr 1 0),(4,.ptr 2 0),(5,.ref 3 0 N true),(6,.iv (.int .i64 ((l.length:Int)-1-(i:Int)))),(7,.iv (.int .i64 (c:Int))),(8,.iv (.int .i64 ((m.length:Int)-1-(k:Int))))]
    [(0,.var (.agg [.int .i64 x.sign,.sl (l.map af)])),(1,.var (.agg [.int .i64 y.sign,.sl (m.map af)])),(2,.var (.agg [.int .i64 0,.sl []])),(3,.arr 3 1 (o2.reverse.map af) false)] 60) _
   have lo:(o2.reverse.map af).length=o2.length:=by simp
   by_cases h2:k<m.length
   . have hy2:m.reverse.getD k 0<32768:=hom.getD (by decide) k;have hov:o2.getD (i+k) 0<32768:=hd2.getD (by decide) (i+k);have hxy:=NZ hx2 hy2;have hxyi:(l.reverse.getD i 0:Int)*(m.reverse.getD k 0:Int)=((l.reverse.getD i 0*m.reverse.getD k 0:Nat):Int):=rfl;obtain⟨q,hQ⟩:∃q,(c+(l.reverse.getD i 0*m.reverse.getD k 0+o2.getD (i+k) 0))/32768=q:=⟨_,rfl⟩;obtain⟨r,hR⟩:∃q,(c+(l.reverse.getD i 0*m.reverse.getD k 0+o2.getD (i+k) 0))%32768=q:=⟨_,rfl⟩;have hsum:(o2.getD (i+k) 0:Int)+(l.reverse.getD i 0:Int)*(m.reverse.getD k 0:Int)+(c:Int)=((c+(l.reverse.getD i 0*m.reverse.getD k 0+o2.getD (i+k) 0):Nat):Int):=by
      rw[hxyi];omega
     have hq:IntKind.wrap .i64 (((o2.getD (i+k) 0:Int)+(l.reverse.getD i 0:Int)*(m.reverse.getD k 0:Int)+(c:Int)).tdiv 32768)=((q:Nat):Int):=by
      rw[hsum,show(32768:Int)=((32768:Nat):Int) from rfl,lX,hQ];exact b7 (by omega)
     have hm:((o2.getD (i+k) 0:Int)+(l.reverse.getD i 0:Int)*(m.reverse.getD k 0:Int)+(c:Int)).tmod 32768=((r:Nat):Int):=by
      rw[hsum,show(32768:Int)=((32768:Nat):Int) from rfl,kK,hR]
     have hw1:IntKind.wrap .i64 ((l.reverse.getD i 0:Int)*(m.reverse.getD k 0:Int))=(l.reverse.getD i 0:Int)*(m.reverse.getD k 0:Int):=by rw[hxyi];exact b7 (by omega)
     have hw2:IntKind.wrap .i64 ((o2.getD (i+k) 0:Int)+(l.reverse.getD i 0:Int)*(m.reverse.getD k 0:Int))=(o2.getD (i+k) 0:Int)+(l.reverse.getD i 0:Int)*(m.reverse.getD k 0:Int):=by rw[hxyi];exact b7 (by omega)
     have hw3:IntKind.wrap .i64 ((o2.getD (i+k) 0:Int)+(l.reverse.getD i 0:Int)*(m.reverse.getD k 0:Int)+(c:Int))=(o2.getD (i+k) 0:Int)+(l.reverse.getD i 0:Int)*(m.reverse.getD k 0:Int)+(c:Int):=by rw[hxyi];exact b7 (by omega)
     have hp:=Rx (B:=aq) (n:=i+m.length) (r:=r) (c':=q) (show i+k<i+m.length by omega) (by omega) hs2 (by simp only[aq];omega);repeat (((first|refine W.R (by kernel_rfl) ?_|refine W.c rfl ?_|refine⟨by omega,_,hq,?_⟩|refine⟨by omega,_,hm,?_⟩|refine⟨(rfl:(_:Nat)=_),N-1-(i+k),by omega,by omega,?_⟩|refine⟨_,BH (i:=i+k) (by omega) (by omega),?_⟩|refine⟨l.length-1-i,_,by omega,Ct (i:=i) (by omega) rfl,rfl,?_⟩|refine⟨m.length-1-k,_,by omega,Ct (i:=k) (by omega) rfl,rfl,?_⟩|refine⟨bv,_,BH (i:=i+k) (by omega) (by omega),?_⟩|refine ap (by omega) ?_|refine xT (by omega) ?_|refine xr ?_);conv=>whnf))
     exact⟨⟨(k+1,q,o2.set (i+k) r),by dsimp only;omega,by dsimp only;omega,by dsimp only;rw[cy];exact ho2,hd2.set (by simp only[aq];omega),hp⟩,
      Wk.tab [] ⟨aa,aa,aa,aa,aa,aa,⟨cu (by dsimp only;omega),rfl⟩,ab⟩ ⟨rfl,rfl,rfl,oA (by omega) (by omega) (by omega),ab⟩ rfl,by dsimp only;omega⟩
   . have hkm:k=m.length:=by omega
     have hp:nv aq ((o2.set (i+m.length) c).take (i+1+m.length))=nv aq (l.reverse.take (i+1))*nv aq m.reverse:=by
      rw[show i+1+m.length=(i+m.length)+1 by omega,oZ (by omega),lH];have e:(o2.take (i+m.length)).length=i+m.length:=by rw[b9];omega
      rw[e];rw[hkm,aH (show m.reverse.length<=m.length by simp)] at hs2;rw[hs2,Hc aq l.reverse i,bP,dI]
     repeat (((first|refine W.R (by kernel_rfl) ?_|refine W.c rfl ?_|refine⟨(rfl:(_:Nat)=_),N-1-(i+m.length),by omega,by omega,?_⟩|refine⟨bv,_,BH (i:=i+m.length) (by omega) (by omega),?_⟩|refine ap (by omega) ?_|refine xF (by omega) ?_|refine xr ?_);conv=>whnf))
     exact⟨⟨(i+1,o2.set (i+m.length) c),by dsimp only;omega,by dsimp only;rw[cy];exact ho2,hd2.set (by simp only[aq];omega),hp⟩,
      Wk.tab [] ⟨aa,aa,aa,aa,⟨cu (by dsimp only;omega),rfl⟩,ab⟩ ⟨rfl,rfl,rfl,oA (by omega) (by omega) (by omega),ab⟩ rfl,by dsimp only;omega⟩
 . have hil:i=l.length:=by omega
   have hfin:hv o.reverse=x.natAbs*y.natAbs:=by
    unfold hv;rw[oU];rw[hil,aH (by omega),aH (show l.reverse.length<=l.length by simp),hvl,hvm] at hs;exact hs
   have sx:=od x;have sy:=od y;have hsg:x.sign*y.sign=(x*y).sign:=(Int.sign_mul x y).symm;have s3:=od (x*y);have hw:IntKind.wrap .i64 (x.sign*y.sign)=(x*y).sign:=by rw[hsg];exact b7 (by omega)
   have c9:=rL J (l:=o.reverse) (s:=(x*y).sign) (by
    rcases s3 with h|h|h
    . exact .inr (.inl h)
    . right;right;rw[hfin,<-fg,Int.sign_eq_zero_iff_zero.1 h];rfl
    . exact .inl h) (by rw[oU];exact hd) (by rw[hU];omega)
   have e9:List.take N (List.drop 0 (o.reverse.map af))=o.reverse.map af:=by rw[bJ,aH (by omega)]
   rw[<-e9] at c9;repeat (((first|refine W.R (by kernel_rfl) ?_|refine W.c rfl ?_|refine⟨rfl,_,hw,?_⟩|refine⟨_,c9,?_⟩|refine xF (by omega) ?_|refine xr ?_);conv=>whnf))
   refine oC ?_;rw[hfin,<-fg];exact My (x*y)
theorem He{B:Nat}(hB:0<B):∀{l:List Nat} (m:Nat),Dg B l->nv B l/B^m%B=l.getD m 0
 | [],m,_=>by simp[nv]
 |x::l,0,h=>by
  have hx:=h x (by simp);rw[oX,nH,ic,zx,fF hx];rfl
 |x::l,m+1,h=>by
  have hx:=h x (by simp);rw[ic,bQ,cz (B^m) B,<-vO,Mr _ _ hB,lc hx,aX];exact He hB m (fun d hd=>h d (by simp[hd]))
theorem OB{v m x:Nat}(hx:v/aq^m%aq=x):v/aq^(m+1)*32768+x=v/aq^m:=by
 rw[<-hx,bQ,<-vO,cz];exact nF (v/aq^m) aq
theorem xn(J:Keep){l:List Nat}{long k:Nat}(hd:Dg aq l.reverse)(hl:l.length<=long)(hk:k<=long)(hk4:k<=4)(hlo:long<2^59):C J 228 [.sl (l.map af),.int .i64 long,.int .i64 k] (.int .i64 (hv l/aq^(long-k):Nat)):=by
 refine aI Tryz.func228 rfl rfl rfl ?_;have hvl:hv l<aq^long:=gK (yq l hd) (cB (by decide) hl);repeat (((first|refine W.R (by kernel_rfl) ?_|refine W.c rfl ?_);conv=>whnf))
 refine W.loop (G:={ t:Nat // t<=k }) (fun t=>am [(0,.iv (.sl (l.map af))),(1,.iv (.int .i64 (long:Int))),(2,.iv (.int .i64 (k:Int))),(7,.iv (.int .i64 (hv l/aq^(long-t.1):Nat))),(8,.iv (.int .i64 (t.1:Int)))] [] 30) (fun t=>k-t.1) ⟨0,bb _⟩
  (Wk.tab [] ⟨aa,aa,aa,⟨cu ?_,rfl⟩,aa,ab⟩ trivial rfl) ?_
 . dsimp only;rw[tn,lc hvl];rfl
 rintro⟨t,ht⟩;show W J _ _ (am [(0,.iv (.sl (l.map af))),(1,.iv (.int .i64 (long:Int))),(2,.iv (.int .i64 (k:Int))),(7,.iv (.int .i64 (hv l/aq^(long-t):Nat))),(8,.iv (.int .i64 (t:Int)))] [] 30) _;by_cases h:t<k
 . have hx:hv l/aq^(long-(t+1))%aq=l.reverse.getD (long-(t+1)) 0:=He (by decide) _ hd;have hs:=OB hx;rw[show long-(t+1)+1=long-t by omega] at hs;have hx2:l.reverse.getD (long-(t+1)) 0<32768:=hd.getD (by decide) _;have hb:hv l/aq^(long-(t+1))<aq^4:=by
    rw[mC (fH (by decide)),<-hG];exact gK hvl (cB (by decide) (by omega))
   have hb4:aq^4=1152921504606846976:=by decide
   have c1:=jk J (l:=l) (i:=long-(t+1)) (by omega) (by omega);rw[show((long-(t+1):Nat):Int)=(long:Int)-1-(t:Int) by omega] at c1;obtain⟨xx,hxx⟩:∃xx,l.reverse.getD (long-(t+1)) 0=xx:=⟨_,rfl⟩;obtain⟨v1,hv1⟩:∃xx,hv l/aq^(long-t)=xx:=⟨_,rfl⟩;obtain⟨v2,hv2⟩:∃xx,hv l/aq^(long-(t+1))=xx:=⟨_,rfl⟩;rw[hxx] at c1 hs hx2;rw[hv1,hv2] at hs;rw[hv2] at hb;rw[hv1];repeat (((first|refine W.R (by kernel_rfl) ?_|refine W.c rfl ?_|refine⟨_,c1,?_⟩|refine ap (by omega) ?_|refine xT (by omega) ?_|refine xr ?_);conv=>whnf))
   exact⟨⟨t+1,by omega⟩,Wk.tab [] ⟨aa,aa,aa,⟨cu (by rw[hv2];omega),rfl⟩,aa,ab⟩ trivial rfl,by dsimp only;omega⟩
 . have e:t=k:=by omega
   subst e;repeat (((first|refine W.R (by kernel_rfl) ?_|refine W.c rfl ?_|refine xF (by omega) ?_|refine xr ?_);conv=>whnf))
   rfl
theorem O5{R D M:Nat}(hD:0<D)(hM:0<M):R/M/(D/M+1)<=R/D:=by
 rw[zA hD];have h1:R/M/(D/M+1)*(D/M+1)<=R/M:=tj _ _;have h2:D<=(D/M+1)*M:=kt (Nat.lt_mul_of_div_lt (tt _) hM);have h3:R/M/(D/M+1)*D<=R/M/(D/M+1)*((D/M+1)*M):=fG _ h2;rw[<-dI] at h3;have h4:R/M/(D/M+1)*(D/M+1)*M<=R/M*M:=bW _ h1;have h5:R/M*M<=R:=tj _ _;omega
theorem VG{n:Nat}(h:0<n):aq^(lh n-1)<=n:=by
 have:=pY (B:=aq) (ds:=(dh n).reverse) (eM n).nm (by
  intro e;have:dh n=[]:=by simpa using e
  exact absurd (ya this) (by omega))
 rw[hU] at this;have e:=dJ n;unfold hv at e;rw[e] at this;exact this
noncomputable def pP(r d:Nat):Nat:=if lh r<lh d then 0 else if lh d<=3 then r/d else r/aq^(lh d-3)/(d/aq^(lh d-3)+1)
theorem QR{r d:Nat}(hd:0<d):pP r d<=r/d:=by
 unfold pP;split
 . exact bb _
 . split
   . exact ak _
   . exact O5 hd (fH (by decide))
theorem oc{n:Nat}(h:0<n):zh (n:Int)=.agg [.int .i64 1,.sl ((dh n).map af)]:=by
 show IV.agg [.int .i64 ((n:Int).sign),.sl ((dh (n:Int).natAbs).map af)]=_;rw[mE (by omega),ef]
theorem Tf(J:Keep){r d:Nat}(hd:0<d)(hr:r<32768*d)(hl:lh d<2^38):C J 200 [.sl ((dh r).map af),.sl ((dh d).map af)] (.tup [.int .i64 (r/d:Nat),.sl ((dh (r%d)).map af)]):=by
 refine aI Tryz.func200 rfl rfl rfl ?_;have la:((dh r).map af).length=lh r:=by simp[lh]
 have lb:((dh d).map af).length=lh d:=by simp[lh]
 have hlp:=xQ hd;have hlr:lh r<=lh d+1:=jO (by
  have h1:=gQ d;rw[bQ];have:d*32768<aq^lh d*aq:=Mq h1 (by decide);omega)
 have hqd:r/d<32768:=by rw[mC hd];exact hr
 have hgl:=QR (r:=r) hd;have hgd:pP r d*d<=r:=aP (bW _ hgl) (tj _ _);obtain⟨g,hg⟩:∃g,g=pP r d:=⟨_,rfl⟩;rw[<-hg] at hgl hgd;refine W.RS (by kernel_rfl) ?_;conv=>whnf
 refine W.RS (by kernel_rfl) ?_;conv=>whnf
 refine W.RS (by kernel_rfl) ?_;conv=>whnf
 refine⟨_,rfl,?_⟩;conv=>whnf
 refine W.join (G:=Unit) (fun _=>am [(0,.iv (.sl ((dh r).map af))),(1,.iv (.sl ((dh d).map af))),(6,.iv (.int .i64 (g:Nat)))] [] 60) ?_ ?_
 . by_cases h1:lh d<=lh r
   . by_cases h2:lh d<=3
     . have e:g=r/d:=by rw[hg];unfold pP;rw[al (by omega),ar h2]
       have c1:=xn J (l:=dh r) (long:=lh d+1) (k:=lh d+1) (eM r).dg hlr (ak _) (by omega) (by omega);have c2:=xn J (l:=dh d) (long:=lh d) (k:=lh d) (eM d).dg (ak _) (ak _) (by omega) (by omega);rw[kZ,oX,nH,dJ] at c1 c2;have hr64:r<1152921504606846976:=by
        have h1:=gQ r;have h2:aq^lh r<=aq^4:=cB (by decide) (by omega);have h3:aq^4=1152921504606846976:=by decide
        omega
       have hq:IntKind.wrap .i64 ((r:Int).tdiv (d:Int))=(g:Int):=by rw[lX,<-e];exact b7 (by omega)
       rw[<-lb] at c1 c2;repeat (first|((first|refine W.RS (by kernel_rfl) ?_|refine W.R (by kernel_rfl) ?_|refine⟨_,c1,?_⟩|refine⟨_,c2,?_⟩|refine⟨by omega,_,hq,?_⟩|refine ap (by omega) ?_|refine xT (by omega) ?_|refine⟨_,rfl,?_⟩|refine xr ?_);conv=>whnf)|(refine W.condT rfl ?_))
       exact⟨(),Wk.tab [] ⟨aa,aa,aa,ab⟩ trivial rfl⟩
     . have e:g=r/aq^(lh d-3)/(d/aq^(lh d-3)+1):=by rw[hg];unfold pP;rw[al (by omega),al h2]
       have c1:=xn J (l:=dh r) (long:=lh d+1) (k:=4) (eM r).dg hlr (by omega) (by omega) (by omega);have c2:=xn J (l:=dh d) (long:=lh d) (k:=3) (eM d).dg (ak _) (by omega) (by omega) (by omega);rw[dJ] at c1 c2;rw[show lh d+1-4=lh d-3 by omega] at c1;have hb1:r/aq^(lh d-3)<aq^4:=by
        rw[mC (fH (by decide)),<-hG];exact gK (gQ r) (cB (by decide) (by omega))
       have hb2:d/aq^(lh d-3)<aq^3:=by
        rw[mC (fH (by decide)),<-hG];exact gK (gQ d) (cB (by decide) (by omega))
       have hb3:aq^4=1152921504606846976:=by decide
       have hb4:aq^3=35184372088832:=by decide
       obtain⟨u,hu⟩:∃u,r/aq^(lh d-3)=u:=⟨_,rfl⟩;obtain⟨v,hv'⟩:∃u,d/aq^(lh d-3)=u:=⟨_,rfl⟩;rw[hu] at c1 e hb1;rw[hv'] at c2 e hb2;have hq:IntKind.wrap .i64 ((u:Int).tdiv ((v:Int)+1))=(g:Int):=by
        rw[show(v:Int)+1=((v+1:Nat):Int) from rfl,lX,<-e];exact b7 (by omega)
       rw[<-lb] at c1 c2;repeat (first|((first|refine W.RS (by kernel_rfl) ?_|refine W.R (by kernel_rfl) ?_|refine⟨_,c1,?_⟩|refine⟨_,c2,?_⟩|refine⟨by omega,_,hq,?_⟩|refine ap (by omega) ?_|refine xT (by omega) ?_|refine xF (by omega) ?_|refine⟨_,rfl,?_⟩|refine xr ?_);conv=>whnf)|(refine W.condF rfl ?_)|(refine W.condT rfl ?_))
       exact⟨(),Wk.tab [] ⟨aa,aa,aa,ab⟩ trivial rfl⟩
   . have e:g=0:=by rw[hg];unfold pP;rw[ar (by omega)]
     repeat (first|((first|refine W.RS (by kernel_rfl) ?_|refine W.skip ?_|refine xF (by omega) ?_|refine⟨_,rfl,?_⟩|refine xr ?_);conv=>whnf)|(refine W.condF rfl ?_))
     exact⟨(),Wk.tab [] ⟨aa,aa,⟨cu (by omega),rfl⟩,ab⟩ trivial rfl⟩
 rintro⟨⟩
 try dsimp only
 refine W.join (G:=Unit) (fun _=>am [(0,.iv (.sl ((dh (r-g*d)).map af))),(1,.iv (.sl ((dh d).map af))),(6,.iv (.int .i64 (g:Nat)))] [] 60) ?_ ?_
 . by_cases h0:g=0
   . repeat (first|((first|refine W.RS (by kernel_rfl) ?_|refine W.skip ?_|refine xF (by omega) ?_|refine xr ?_);conv=>whnf)|(refine W.condF rfl ?_))
     refine⟨(),Wk.tab [] ⟨⟨?_,rfl⟩,aa,aa,ab⟩ trivial rfl⟩;rw[h0,mA,tn];rfl
   . have c1:=pH J (z:=(g:Int)) (by omega) (by omega);have hlg:lh g<=1:=jO (by rw[qT];simp only[aq];omega);have c2:=rR J (x:=(g:Int)) (y:=(d:Int)) (by rw[ef];omega) (by rw[ef];omega);rw[oc hd,<-iZ,oc (n:=g*d) (ld (by omega) hd)] at c2;have c3:=wQ J hgd (by omega);repeat (first|((first|refine W.RS (by kernel_rfl) ?_|refine W.R (by kernel_rfl) ?_|refine⟨_,c1,?_⟩|refine⟨_,c2,?_⟩|refine⟨_,c3,?_⟩|refine xT (by omega) ?_|refine xr ?_);conv=>whnf)|(refine W.condT rfl ?_))
     exact⟨(),Wk.tab [] ⟨aa,aa,aa,ab⟩ trivial rfl⟩
 rintro⟨⟩
 try dsimp only
 repeat ((refine W.c rfl ?_;conv=>whnf))
 refine W.loop (G:={ p:Nat×Nat // p.2*d+p.1=r/\p.2<=r/d }) (fun p=>am [(0,.iv (.sl ((dh p.1.1).map af))),(1,.iv (.sl ((dh d).map af))),(6,.iv (.int .i64 (p.1.2:Nat)))] [] 60) (fun p=>p.1.1) ⟨(r-g*d,g),by dsimp only;omega,hgl⟩
  (Wk.tab [] ⟨aa,aa,aa,ab⟩ trivial rfl) ?_
 rintro⟨⟨u,q⟩,hu,hq⟩;dsimp only at hu hq;show W J _ _ (am [(0,.iv (.sl ((dh u).map af))),(1,.iv (.sl ((dh d).map af))),(6,.iv (.int .i64 (q:Nat)))] [] 60) _;have hur:lh u<=lh r:=jK (by omega);by_cases h:d<=u
 . have hc:0<=aL (u:Nat) (d:Nat):=by unfold aL;split<;>(try split)<;>omega
   have c1:=wQ J h (by omega);have hq2:q+1<=r/d:=by
    rw[zA hd,bP,oM];omega
   repeat (((first|refine W.R (by kernel_rfl) ?_|refine W.c rfl ?_|refine⟨_,xo J (a:=u) (b:=d) (by omega),?_⟩|refine⟨_,c1,?_⟩|refine ap (by omega) ?_|refine xT (by omega) ?_|refine xr ?_);conv=>whnf))
   exact⟨⟨(u-d,q+1),by dsimp only;rw[bP,oM];omega,hq2⟩,Wk.tab [] ⟨aa,aa,aa,ab⟩ trivial rfl,by dsimp only;omega⟩
 . have hc:aL (u:Nat) (d:Nat)<0:=by unfold aL;split<;>(try split)<;>omega
   have e1:q=r/d:=by
    rw[<-hu,cz,Eh hd,lc (by omega),eG]
   have e2:u=r%d:=by
    rw[<-hu,cz,Mo,fF (by omega)]
   repeat (((first|refine W.R (by kernel_rfl) ?_|refine W.c rfl ?_|refine⟨_,xo J (a:=u) (b:=d) (by omega),?_⟩|refine xF (by omega) ?_|refine xr ?_);conv=>whnf))
   rw[<-e1,<-e2];rfl
theorem BY(l:List Nat)(x:Nat):hv (l ++ [x])=hv l*32768+x:=by
 unfold hv;rw[MA];show nv aq (x::l.reverse)=_;show x+32768*nv aq l.reverse=_;omega
theorem nX(J:Keep){l:List Nat}{es:List IV}(he:es=l.map af)(hl:l.length<2^60){n:Nat}(hd:Dg aq l.reverse)(hn:hv l=n):C J 199 [.sl es] (.sl ((dh n).map af)):=by
 have:=B6 J hl;rwa[Bk hd hn,<-he] at this
theorem Ir{l:List Nat}{i:Nat}(h:i<l.length):hv (l.take (i+1))=hv (l.take i)*32768+l.getD i 0:=by
 rw[tx h,BY,aV,aQ h];rfl
theorem Sl{N r d x q:Nat}(hd:0<d)(h1:N/d=q)(h2:N%d=r):(N*32768+x)/d=q*32768+(r*32768+x)/d/\(N*32768+x)%d=(r*32768+x)%d:=by
 have e:N*32768+x=d*(q*32768)+(r*32768+x):=by
  have:=nF N d;rw[h1,h2] at this;rw[<-this,bP,dI,kX]
 rw[e,Eh hd,Mo];exact⟨rfl,rfl⟩
noncomputable def se(l m:List Nat)(u i:Nat)(Q:List Nat):AS :=
 match Q with
 | []=>am [(0,.iv (.sl (l.map af))),(1,.iv (.sl (m.map af))),(6,.nilS),(7,.iv (.sl ((dh u).map af))),(8,.iv (.int .i64 (i:Nat)))] [] 60
 |x::Q=>am [(0,.iv (.sl (l.map af))),(1,.iv (.sl (m.map af))),(6,.ref 1 0 (x::Q).length true),(7,.iv (.sl ((dh u).map af))),(8,.iv (.int .i64 (i:Nat)))] [(1,.arr 3 1 ((x::Q).map af) false)] 60
theorem KB{l:List Nat}:∀y∈l.map af,y.cells.length=1/\y.isTup=false:=by
 intro y hy;obtain⟨d,_,rfl⟩:=List.mem_map.1 hy;exact⟨rfl,rfl⟩
theorem Vk{l:List Nat}{i j:Nat}:∀y∈List.drop j (List.take i (l.map af)),y.cells.length=1/\y.isTup=false:=by
 intro y hy;obtain⟨d,_,rfl⟩:=List.mem_map.1 (dH (iu hy));exact⟨rfl,rfl⟩
theorem DS{l:List Nat}(h:l≠[]):(l.map af).isEmpty=false:=by cases l with|nil=>exact absurd rfl h|cons=>rfl
theorem DR{l:List Nat}(h:l=[]):(l.map af).isEmpty=true:=by rw[h];rfl
theorem xp(J:Keep){a d:Nat}(hd:0<d)(ha:lh a<2^38):C J 144 [.sl ((dh a).map af),.sl ((dh d).map af)] (.tup [.sl ((dh (a/d)).map af),.sl ((dh (a%d)).map af)]):=by
 refine aI Tryz.func144 rfl rfl rfl ?_;have la:((dh a).map af).length=lh a:=by simp[lh]
 have lb:((dh d).map af).length=lh d:=by simp[lh]
 have hlp:=xQ hd;by_cases h1:lh a<lh d
 . have hlt:=Aa (l:=dh a) (m:=dh d) (eM a) (eM d) h1;rw[dJ,dJ] at hlt;repeat (((first|refine W.R (by kernel_rfl) ?_|refine W.c rfl ?_|refine xT (by omega) ?_|refine⟨_,rfl,?_⟩|refine xr ?_);conv=>whnf))
   rw[lc hlt,fF hlt,lM];rfl
 . have hld:lh d<2^38:=by omega
   obtain⟨l,hl⟩:∃l,l=dh a:=⟨_,rfl⟩;obtain⟨m,hm⟩:∃m,m=dh d:=⟨_,rfl⟩;have hol:Dg aq l.reverse:=by rw[hl];exact(eM a).dg
   have hvl:hv l=a:=by rw[hl];exact dJ a
   have hvm:hv m=d:=by rw[hm];exact dJ d
   have hll:l.length=lh a:=by rw[hl];rfl
   have hml:m.length=lh d:=by rw[hm];rfl
   rw[<-hl,<-hm];rw[<-hl] at la;rw[<-hm] at lb;have hdt:∀i,Dg aq (l.take i).reverse:=fun i=>by
    intro x hx;exact hol x (by simp only[List.mem_reverse] at hx ⊢;exact dH hx)
   have hu0:hv (l.take (lh d-1))<d:=by
    have h3:=yq (l.take (lh d-1)) (hdt _);have h4:=VG hd;have h5:(l.take (lh d-1)).length=lh d-1:=by rw[b9];omega
    rw[h5] at h3;omega
   refine W.RS (by kernel_rfl) ?_;conv=>whnf
   iterate 9 (first|((first|refine W.RS (by kernel_rfl) ?_|refine W.skip ?_|refine xF (by omega) ?_|refine⟨_,rfl,?_⟩|refine xr ?_);conv=>whnf)|(refine W.S ?_)|(refine W.condF rfl ?_))
   refine W.join (G:=Unit) (fun _=>am [(0,.iv (.sl (l.map af))),(1,.iv (.sl (m.map af))),(6,.nilS),(7,.iv (.sl ((dh (hv (l.take (lh d-1)))).map af)))] [] 40) ?_ ?_
   . have lt:((l.map af).take (lh d-1)).drop 0=(l.take (lh d-1)).map af:=by rw[bJ,zL]
     have ltl:(l.take (lh d-1)).length=lh d-1:=by rw[b9];omega
     by_cases h2:lh d=1
     . have c1:=nX J (l:=[]) (es:=[]) (n:=hv (l.take (lh d-1))) rfl (by simp) (Dg.nil _) (by rw[h2];rfl);have hT:(((l.map af).take (lh d-1)).drop 0).isEmpty=true:=by rw[lt];exact DR (by rw[h2];rfl)
       repeat (((first|refine W.R (by kernel_rfl) ?_|refine⟨lh d-1,by omega,?_⟩|refine⟨true,hT,?_⟩|refine⟨_,c1,?_⟩|refine ap (by omega) ?_|refine⟨_,rfl,?_⟩|refine⟨by omega,by omega,by omega,.inr (by simp),.inl rfl,?_⟩);conv=>whnf))
       exact⟨(),Wk.tab [] ⟨aa,aa,aa,aa,ab⟩ trivial rfl⟩
     . have hF:(((l.map af).take (lh d-1)).drop 0).isEmpty=false:=by rw[lt];exact DS (by intro e;rw[e] at ltl;simp at ltl;omega)
       have hlen:(((l.map af).take (lh d-1)).drop 0).length=lh d-1:=by rw[lt,cT,ltl]
       repeat (first|((first|refine W.R (by kernel_rfl) ?_|refine⟨lh d-1,by omega,?_⟩|refine⟨false,hF,?_⟩);conv=>whnf)|(refine⟨Vk,by show(((l.map af).take (lh d-1)).drop 0).length*8<=140737488355328;omega,by show(((l.map af).take (lh d-1)).drop 0).length<=maxLen;unfold maxLen;omega,?_⟩;conv=>whnf)|(refine⟨_,nX J (l:=l.take (lh d-1)) (n:=hv (l.take (lh d-1))) (by rw[aH (by simp)];simp[zL]) (by omega) (hdt _) rfl,?_⟩;conv=>whnf)|((first|refine ap (by omega) ?_|refine⟨_,rfl,?_⟩|refine⟨by omega,by omega,by omega,.inr (by simp),.inl rfl,?_⟩);conv=>whnf))
       exact⟨(),Wk.tab [] ⟨aa,aa,aa,aa,ab⟩ trivial rfl⟩
   rintro⟨⟩;repeat (((first|refine W.R (by kernel_rfl) ?_|refine W.c rfl ?_|refine ap (by omega) ?_|refine⟨_,rfl,?_⟩);conv=>whnf))
   refine W.loop (G:={ p:Nat×List Nat // lh d-1<=p.1/\p.1<=l.length/\hv p.2=hv (l.take p.1)/d/\Dg aq p.2.reverse/\p.2.length=p.1-(lh d-1) }) (fun p=>se l m (hv (l.take p.1.1)%d) p.1.1 p.1.2) (fun p=>l.length-p.1.1)
    ⟨(lh d-1,[]),ak _,by dsimp only;omega,by dsimp only;rw[lc hu0];rfl,Dg.nil _,by dsimp only;rw[kZ];rfl⟩
    (Wk.tab [] ⟨aa,aa,aa,⟨?_,rfl⟩,⟨cu (by dsimp only;omega),rfl⟩,ab⟩ trivial rfl) ?_
   . show SV.iv (.sl _)=SV.iv (.sl _);rw[fF hu0]
   rintro⟨⟨i,Q⟩,hi1,hi2,hQ,hQd,hQl⟩;dsimp only at hi1 hi2 hQ hQd hQl;obtain⟨u,hu⟩:∃u,hv (l.take i)%d=u:=⟨_,rfl⟩;have hud:u<d:=by rw[<-hu];exact gh _ hd
   have hlu:lh u<=lh d:=jK (kt hud);have lu:((dh u).map af).length=lh u:=by simp[lh]
   show W J _ _ (se l m (hv (l.take i)%d) i Q) _;rw[hu];by_cases h3:i<l.length
   . have hx:l.getD i 0<32768:=by
      have:=hol.getD (by decide) (l.length-1-i);rw[aV,zJ (by omega),show l.length-1-(l.length-1-i)=i by omega,<-aV] at this;exact this
     obtain⟨x,hxe⟩:∃x,l.getD i 0=x:=⟨_,rfl⟩;have htk:=Ir h3;rw[hxe] at hx htk;obtain⟨s1,s2⟩:=Sl (x:=x) hd hQ.symm hu;have hnr:u*32768+x<32768*d:=by
      have:(u+1)*32768<=d*32768:=bW _ hud;omega
     have hkd:(u*32768+x)/d<32768:=by rw[mC hd];exact hnr
     have c2:C J 200 [.sl ((dh (u*32768+x)).map af),.sl (m.map af)] (.tup [.int .i64 ((u*32768+x)/d:Nat),.sl ((dh ((u*32768+x)%d)).map af)]):=by
      rw[hm];exact Tf J hd hnr hld
     obtain⟨k,hk⟩:∃k,(u*32768+x)/d=k:=⟨_,rfl⟩;obtain⟨u2,hu2⟩:∃k,(u*32768+x)%d=k:=⟨_,rfl⟩;rw[hk,hu2] at c2;rw[hk] at s1 hkd;rw[hu2] at s2;have hgt:(l.map af)[i]?=some (af x):=by rw[jy h3,hxe]
     have hdg2:Dg aq (dh u ++ [x]).reverse:=by
      rw[MA];exact(nR hx).append (eM u).dg
     have hlen2:(dh u ++ [x]).length<2^60:=by
      have:(dh u).length=lh u:=rfl;rw[ce,nG];omega
     have hv2:hv (dh u ++ [x])=u*32768+x:=by rw[BY,dJ]
     have hQ2:hv (Q ++ [k])=hv (l.take (i+1))/d:=by rw[BY,htk];exact s1.symm
     have hQd2:Dg aq (Q ++ [k]).reverse:=by rw[MA];exact(nR hkd).append hQd
     have hQl2:(Q ++ [k]).length=i+1-(lh d-1):=by rw[ce,nG];omega
     have hu3:hv (l.take (i+1))%d=u2:=by rw[htk];exact s2
     cases Q with
     |nil=>
      show W J _ _ (am [(0,.iv (.sl (l.map af))),(1,.iv (.sl (m.map af))),(6,.nilS),(7,.iv (.sl ((dh u).map af))),(8,.iv (.int .i64 (i:Nat)))] [] 60) _;by_cases h0:u=0
      . repeat (first|((first|refine W.R (by kernel_rfl) ?_|refine W.c rfl ?_|refine⟨true,DR (by rw[h0,lM]),?_⟩|refine⟨i,_,rfl,hgt,rfl,?_⟩);conv=>whnf)|(refine⟨_,nX J (l:=dh u ++ [x]) (n:=u*32768+x) (by rw[h0,lM];rfl) hlen2 hdg2 hv2,?_⟩;conv=>whnf)|((first|refine⟨_,c2,?_⟩|refine ap (by omega) ?_|refine⟨mV,aB rfl,aB rfl,?_⟩|refine xT (by omega) ?_|refine⟨_,rfl,?_⟩|refine xr ?_);conv=>whnf))
        exact⟨⟨(i+1,[k]),by dsimp only;omega,by dsimp only;omega,hQ2,hQd2,hQl2⟩,by
         show Wk _ (se l m (hv (l.take (i+1))%d) (i+1) ([k]));rw[hu3];exact Wk.tab [(1,86)] ⟨aa,aa,⟨iK (by simp),rfl⟩,aa,aa,ab⟩ ⟨js (by simp;rfl),ab⟩ rfl,by dsimp only;omega⟩
      . repeat (first|((first|refine W.R (by kernel_rfl) ?_|refine W.c rfl ?_|refine⟨false,DS (fun e=>h0 (ya e)),?_⟩);conv=>whnf)|(refine⟨KB,by show((dh u).map af).length*8<=140737488355328;omega,by show((dh u).map af).length<=maxLen;unfold maxLen;omega,?_⟩;conv=>whnf)|(refine⟨im rfl,rfl,rfl,rfl,mV,by show(((dh u).map af).length+1)*8<=140737488355328;omega,by show((dh u).map af).length+1<=maxLen;unfold maxLen;omega,?_⟩;conv=>whnf)|(refine⟨i,_,rfl,hgt,rfl,?_⟩;conv=>whnf)|(refine⟨_,nX J (l:=dh u ++ [x]) (n:=u*32768+x) (by rw[bJ,aH (by simp),ch];rfl) hlen2 hdg2 hv2,?_⟩;conv=>whnf)|((first|refine⟨_,c2,?_⟩|refine ap (by omega) ?_|refine⟨mV,aB rfl,aB rfl,?_⟩|refine xT (by omega) ?_|refine⟨_,rfl,?_⟩|refine xr ?_);conv=>whnf))
        exact⟨⟨(i+1,[k]),by dsimp only;omega,by dsimp only;omega,hQ2,hQd2,hQl2⟩,by
         show Wk _ (se l m (hv (l.take (i+1))%d) (i+1) ([k]));rw[hu3];exact Wk.tab [(1,86)] ⟨aa,aa,⟨iK (by simp),rfl⟩,aa,aa,ab⟩ ⟨js (by simp;rfl),ab⟩ rfl,by dsimp only;omega⟩
     |cons z Q=>
      show W J _ _ (am [(0,.iv (.sl (l.map af))),(1,.iv (.sl (m.map af))),(6,.ref 1 0 (z::Q).length true),(7,.iv (.sl ((dh u).map af))),(8,.iv (.int .i64 (i:Nat)))] [(1,.arr 3 1 ((z::Q).map af) false)] 60) _;by_cases h0:u=0
      . repeat (first|((first|refine W.R (by kernel_rfl) ?_|refine W.c rfl ?_|refine⟨true,DR (by rw[h0,lM]),?_⟩|refine⟨i,_,rfl,hgt,rfl,?_⟩);conv=>whnf)|(refine⟨_,nX J (l:=dh u ++ [x]) (n:=u*32768+x) (by rw[h0,lM];rfl) hlen2 hdg2 hv2,?_⟩;conv=>whnf)|(refine⟨_,c2,?_⟩;conv=>whnf)|(refine⟨im rfl,rfl,rfl,by simp,mV,by show((z::Q).length+1)*8<=140737488355328;omega,by show(z::Q).length+1<=maxLen;unfold maxLen;omega,?_⟩;conv=>whnf)|((first|refine ap (by omega) ?_|refine⟨mV,aB rfl,aB rfl,?_⟩|refine xT (by omega) ?_|refine⟨_,rfl,?_⟩|refine xr ?_);conv=>whnf))
        exact⟨⟨(i+1,z::Q ++ [k]),by dsimp only;omega,by dsimp only;omega,hQ2,hQd2,hQl2⟩,by
         show Wk _ (se l m (hv (l.take (i+1))%d) (i+1) (z::Q ++ [k]));rw[hu3];exact Wk.tab [(1,86)] ⟨aa,aa,⟨iK (by simp),rfl⟩,aa,aa,ab⟩ ⟨js (by simp;rfl),ab⟩ rfl,by dsimp only;omega⟩
      . repeat (first|((first|refine W.R (by kernel_rfl) ?_|refine W.c rfl ?_|refine⟨false,DS (fun e=>h0 (ya e)),?_⟩);conv=>whnf)|(refine⟨KB,by show((dh u).map af).length*8<=140737488355328;omega,by show((dh u).map af).length<=maxLen;unfold maxLen;omega,?_⟩;conv=>whnf)|(refine⟨im rfl,rfl,rfl,rfl,mV,by show(((dh u).map af).length+1)*8<=140737488355328;omega,by show((dh u).map af).length+1<=maxLen;unfold maxLen;omega,?_⟩;conv=>whnf)|(refine⟨i,_,rfl,hgt,rfl,?_⟩;conv=>whnf)|(refine⟨_,nX J (l:=dh u ++ [x]) (n:=u*32768+x) (by rw[bJ,aH (by simp),ch];rfl) hlen2 hdg2 hv2,?_⟩;conv=>whnf)|(refine⟨_,c2,?_⟩;conv=>whnf)|(refine⟨im rfl,rfl,rfl,by simp,mV,by show((z::Q).length+1)*8<=140737488355328;omega,by show(z::Q).length+1<=maxLen;unfold maxLen;omega,?_⟩;conv=>whnf)|((first|refine ap (by omega) ?_|refine xT (by omega) ?_|refine⟨_,rfl,?_⟩|refine xr ?_);conv=>whnf))
        exact⟨⟨(i+1,z::Q ++ [k]),by dsimp only;omega,by dsimp only;omega,hQ2,hQd2,hQl2⟩,by
         show Wk _ (se l m (hv (l.take (i+1))%d) (i+1) (z::Q ++ [k]));rw[hu3];exact Wk.tab [(1,86)] ⟨aa,aa,⟨iK (by simp),rfl⟩,aa,aa,ab⟩ ⟨js (by simp;rfl),ab⟩ rfl,by dsimp only;omega⟩
   . have hil:i=l.length:=by omega
     have e1:hv Q=a/d:=by rw[hQ,hil,cU,hvl]
     have e2:u=a%d:=by rw[<-hu,hil,cU,hvl]
     cases Q with
     |nil=>
      show W J _ _ (am [(0,.iv (.sl (l.map af))),(1,.iv (.sl (m.map af))),(6,.nilS),(7,.iv (.sl ((dh u).map af))),(8,.iv (.int .i64 (i:Nat)))] [] 60) _;repeat (((first|refine W.R (by kernel_rfl) ?_|refine W.c rfl ?_|refine⟨_,nX J (l:=[]) (n:=a/d) rfl (by simp) (Dg.nil _) e1,?_⟩|refine xF (by omega) ?_|refine⟨_,rfl,?_⟩|refine xr ?_);conv=>whnf))
      rw[e2];rfl
     |cons z Q=>
      show W J _ _ (am [(0,.iv (.sl (l.map af))),(1,.iv (.sl (m.map af))),(6,.ref 1 0 (z::Q).length true),(7,.iv (.sl ((dh u).map af))),(8,.iv (.int .i64 (i:Nat)))] [(1,.arr 3 1 ((z::Q).map af) false)] 60) _;repeat (((first|refine W.R (by kernel_rfl) ?_|refine W.c rfl ?_|refine⟨_,nX J (l:=z::Q) (n:=a/d) (by rw[bJ,aH (by simp)]) (by omega) hQd e1,?_⟩|refine xF (by omega) ?_|refine⟨_,rfl,?_⟩|refine xr ?_);conv=>whnf))
      rw[e2];rfl
theorem CK(a d:Nat):lh (a/d)<=lh a:=jK (li _ _)
theorem TJ(J:Keep){l:List Nat}(hd:Dg aq l.reverse)(hl:l.length<=4):C J 145 [.sl (l.map af)] (.int .i64 (hv l:Nat)):=by
 refine aI Tryz.func145 rfl rfl rfl ?_;have la:(l.map af).length=l.length:=by simp
 have hdt:∀i,Dg aq (l.take i).reverse:=fun i=>by
  intro x hx;exact hd x (by simp only[List.mem_reverse] at hx ⊢;exact dH hx)
 repeat (((first|refine W.R (by kernel_rfl) ?_|refine W.c rfl ?_);conv=>whnf))
 refine W.loop (G:={ i:Nat // i<=l.length }) (fun i=>am [(0,.iv (.sl (l.map af))),(3,.iv (.int .i64 (hv (l.take i.1):Nat))),(4,.iv (.int .i64 (i.1:Nat)))] [] 20) (fun i=>l.length-i.1) ⟨0,bb _⟩
  (Wk.tab [] ⟨aa,aa,aa,ab⟩ trivial rfl) ?_
 rintro⟨i,hi⟩;show W J _ _ (am [(0,.iv (.sl (l.map af))),(3,.iv (.int .i64 (hv (l.take i):Nat))),(4,.iv (.int .i64 (i:Nat)))] [] 20) _;by_cases h:i<l.length
 . have htk:=Ir h;have hb:=yq (l.take (i+1)) (hdt _);have hb2:aq^(l.take (i+1)).length<=aq^4:=cB (by decide) (by rw[b9];omega);have hb3:aq^4=1152921504606846976:=by decide
   repeat (((first|refine W.R (by kernel_rfl) ?_|refine W.c rfl ?_|refine⟨i,_,rfl,jy h,rfl,?_⟩|refine ap (by omega) ?_|refine xT (by omega) ?_|refine⟨_,rfl,?_⟩|refine xr ?_);conv=>whnf))
   exact⟨⟨i+1,by omega⟩,Wk.tab [] ⟨aa,⟨cu (by dsimp only;omega),rfl⟩,aa,ab⟩ trivial rfl,by dsimp only;omega⟩
 . have e:i=l.length:=by omega
   subst e;repeat (((first|refine W.R (by kernel_rfl) ?_|refine W.c rfl ?_|refine xF (by omega) ?_|refine⟨_,rfl,?_⟩|refine xr ?_);conv=>whnf))
   rw[cU];rfl
theorem Cb(J:Keep){n:Nat}(h:lh n<=4):C J 145 [.sl ((dh n).map af)] (.int .i64 (n:Nat)):=by
 have:=TJ J (l:=dh n) (eM n).dg h;rwa[dJ] at this
theorem I1{n:Nat}(h:lh n<=4):n<1152921504606846976:=by
 have h1:=gQ n;have h2:aq^lh n<=aq^4:=cB (by decide) h;have h3:aq^4=1152921504606846976:=by decide
 omega
theorem Tp(J:Keep){x y:Int}(hx:lh x.natAbs<2^37)(hy:lh y.natAbs<2^37):C J 148 [zh x,zh y] (zh (Nat.gcd x.natAbs y.natAbs:Nat)):=by
 refine aI Tryz.func148 rfl rfl rfl ?_;repeat (((first|refine W.R (by kernel_rfl) ?_|refine W.c rfl ?_|refine xr ?_);conv=>whnf))
 refine W.loop (G:={ p:Nat×Nat // Nat.gcd p.1 p.2=Nat.gcd x.natAbs y.natAbs/\lh p.1<2^37/\lh p.2<2^37 }) (fun p=>am [(4,.ptr 2 0),(5,.iv (.sl ((dh p.1.1).map af))),(6,.iv (.sl ((dh p.1.2).map af)))] [(2,.var (.agg [.int .i64 0,.sl []]))] 20) (fun p=>p.1.2)
  ⟨(x.natAbs,y.natAbs),rfl,hx,hy⟩ (Wk.tab [] ⟨aa,aa,aa,ab⟩ ⟨rfl,ab⟩ rfl) ?_
 rintro⟨⟨u,v⟩,hg,hu,hv'⟩;dsimp only at hg hu hv';show W J _ _ (am [(4,.ptr 2 0),(5,.iv (.sl ((dh u).map af))),(6,.iv (.sl ((dh v).map af)))] [(2,.var (.agg [.int .i64 0,.sl []]))] 20) _;have lu:((dh u).map af).length=lh u:=by simp[lh]
 have lv:((dh v).map af).length=lh v:=by simp[lh]
 by_cases h0:v=0
 . have hl0:lh v=0:=by rw[h0];unfold lh;rw[lM];rfl
   have c1:=rM J (n:=u) (s:=1) (.inl rfl) (by omega);rw[lj] at c1;repeat (((first|refine W.R (by kernel_rfl) ?_|refine W.c rfl ?_|refine⟨_,c1,?_⟩|refine xF (by omega) ?_|refine⟨_,rfl,?_⟩|refine xr ?_);conv=>whnf))
   rw[<-hg,h0,Eo];rfl
 . have hlp:=xQ (n:=v) (by omega);have hym:u%v<v:=gh _ (by omega);have hgn:Nat.gcd v (u%v)=Nat.gcd x.natAbs y.natAbs:=by rw[<-hg,qU u v,Ep v u,qU]
   have hlm:lh (u%v)<2^37:=g9 (jK (kt hym)) hv';have hbig:=xp J (a:=u) (d:=v) (by omega) (by omega);by_cases h1:lh u<=4
   . by_cases h2:lh v<=4
     . have b1:=I1 h1;have b2:=I1 h2;repeat (((first|refine W.R (by kernel_rfl) ?_|refine W.c rfl ?_|refine⟨_,Cb J h1,?_⟩|refine⟨_,Cb J h2,?_⟩|refine xT (by omega) ?_|refine⟨_,rfl,?_⟩|refine xr ?_|refine xB ?_);conv=>whnf))
       refine W.loop (G:={ p:Nat×Nat // Nat.gcd p.1 p.2=Nat.gcd x.natAbs y.natAbs/\p.1<1152921504606846976/\p.2<1152921504606846976 }) (fun p=>am [(4,.ptr 2 0),(7,.iv (.int .i64 (p.1.1:Nat))),(8,.iv (.int .i64 (p.1.2:Nat)))] [(2,.var (.agg [.int .i64 0,.sl []]))] 20) (fun p=>p.1.2)
        ⟨(u,v),hg,b1,b2⟩ (Wk.tab [] ⟨aa,aa,aa,ab⟩ ⟨rfl,ab⟩ rfl) ?_
       rintro⟨⟨n,m⟩,hg2,hn,hm⟩;dsimp only at hg2 hn hm;show W J _ _ (am [(4,.ptr 2 0),(7,.iv (.int .i64 (n:Nat))),(8,.iv (.int .i64 (m:Nat)))] [(2,.var (.agg [.int .i64 0,.sl []]))] 20) _;by_cases h3:m=0
       . subst h3;repeat (((first|refine W.R (by kernel_rfl) ?_|refine W.c rfl ?_|refine⟨_,pH J (z:=(n:Int)) (by omega) (by omega),?_⟩|refine⟨false,bne_eq_false_iff_eq.2 (by omega),?_⟩|refine xr ?_);conv=>whnf))
         rw[<-hg2,Eo];rfl
       . have hvm:n%m<m:=gh _ (by omega);have hm2:=kK n m;obtain⟨r,hr⟩:∃r,n%m=r:=⟨_,rfl⟩;rw[hr] at hm2 hvm;repeat (((first|refine W.R (by kernel_rfl) ?_|refine W.c rfl ?_|refine⟨by omega,_,hm2,?_⟩|refine⟨true,bne_iff_ne.2 (by omega),?_⟩|refine xr ?_);conv=>whnf))
         exact⟨⟨(m,r),by rw[<-hg2,<-hr,qU n m,Ep m n,qU],hm,by dsimp only;omega⟩,Wk.tab [] ⟨aa,aa,aa,ab⟩ ⟨rfl,ab⟩ rfl,hvm⟩
     . repeat (((first|refine W.R (by kernel_rfl) ?_|refine W.c rfl ?_|refine⟨_,hbig,?_⟩|refine xT (by omega) ?_|refine xF (by omega) ?_|refine⟨_,rfl,?_⟩|refine xr ?_|refine xB ?_);conv=>whnf))
       exact⟨⟨(v,u%v),hgn,hv',hlm⟩,Wk.tab [] ⟨aa,aa,aa,ab⟩ ⟨rfl,ab⟩ rfl,hym⟩
   . repeat (((first|refine W.R (by kernel_rfl) ?_|refine W.c rfl ?_|refine⟨_,hbig,?_⟩|refine xT (by omega) ?_|refine xF (by omega) ?_|refine⟨_,rfl,?_⟩|refine xr ?_|refine xA ?_);conv=>whnf))
     exact⟨⟨(v,u%v),hgn,hv',hlm⟩,Wk.tab [] ⟨aa,aa,aa,ab⟩ ⟨rfl,ab⟩ rfl,hym⟩
end Go.Proofs.Fl
namespace Go.Proofs.Dig
def dK(k:Nat):UInt8:=UInt8.ofNat (48+k)
theorem rp{k:Nat}(h:k<10):(dK k).toNat=48+k:=by
 unfold dK;rw[UInt8.toNat_ofNat'];omega
theorem Q8{j k:Nat}(hj:j<10)(hk:k<10)(h:dK j=dK k):j=k:=by
 have:=congrArg UInt8.toNat h;rw[rp hj,rp hk] at this;omega
def bS:Nat->Nat->List UInt8
 |0,_=>[]
 |w+1,n=>bS w (n/10) ++ [dK (n%10)]
theorem wb:∀w n,(bS w n).length=w
 |0,_=>rfl
 |w+1,n=>by simp[bS,wb w]
theorem AA:∀w,bS w 0=List.replicate w 48
 |0=>rfl
 |w+1=>by rw[bS,Nat.zero_div,AA w,Xj];rfl
theorem Aj:∀b a n,bS (a+b) n=bS a (n/10^b)++bS b n
 |0,a,n=>by simp[bS]
 |b+1,a,n=>by
  show bS (a+b) (n/10) ++ [dK (n%10)]=bS a (n/10^(b+1))++(bS b (n/10) ++ [dK (n%10)]);rw[Aj b a (n/10),vO,bQ,cz 10,dj]
theorem G9:∀w n,bS w (n%10^w)=bS w n
 |0,_=>rfl
 |w+1,n=>by
  show bS w (n%10^(w+1)/10) ++ [dK (n%10^(w+1)%10)]=bS w (n/10) ++ [dK (n%10)];have e1:n%10^(w+1)/10=(n/10)%10^w:=by
   rw[bQ,cz,Nat.mod_mul_right_div_self]
  have e2:n%10^(w+1)%10=n%10:=by
   rw[bQ];exact Nat.mod_mul_left_mod _ _ _
  rw[e1,e2,G9 w]
def a6(n:Nat):List UInt8:=if n<10 then [dK n] else a6 (n/10) ++ [dK (n%10)]
theorem jH{n:Nat}(h:n<10):a6 n=[dK n]:=by rw[a6,ar h]
theorem pz{n:Nat}(h:10<=n):a6 n=a6 (n/10) ++ [dK (n%10)]:=by rw[a6,al (by omega)]
theorem Cd(n:Nat):a6 n≠[]:=by
 rw[a6];split<;>simp
theorem Oa(n:Nat):∀c∈a6 n,48<=c.toNat/\c.toNat<=57:=by
 induction n using Nat.strongRecOn with
 |_ n ih=>
  intro c hc;by_cases h:n<10
  . rw[jH h] at hc;simp at hc;subst hc;rw[rp h];omega
  . rw[pz (by omega)] at hc;rcases List.mem_append.1 hc with hc|hc
    . exact ih (n/10) (by omega) c hc
    . simp at hc;subst hc;rw[rp (by omega)];omega
theorem Ha:∀w n,0<n->n<10^w->(bS w n).dropWhile (· == 48)=a6 n
 |0,n,h,h'=>by simp at h';omega
 |w+1,n,h,h'=>by
  have hd:∀(l:List UInt8) (x:UInt8),l.dropWhile (· == 48)≠[]->(l ++ [x]).dropWhile (· == 48)=l.dropWhile (· == 48) ++ [x]:=by
   intro l x hl;induction l with
   |nil=>exact absurd rfl hl
   |cons y l ih=>
    rw[g8,MB,MB];rw[MB] at hl;split
    . rename_i hy;rw[ar hy] at hl;exact ih hl
    . rfl
  by_cases hs:n<10
  . have e:n/10=0:=by omega
    have em:n%10=n:=by omega
    rw[jH hs,bS,e,em,AA];have hz:∀w,(List.replicate w (48:UInt8) ++ [dK n]).dropWhile (· == 48)=[dK n]:=by
     intro w;induction w with
     |zero=>
      have:(dK n==48)=false:=by
       rw[vP];intro e;have:=Q8 hs (show 0<10 by omega) e;omega
      simp[this]
     |succ w ih=>rw[qN,g8,List.dropWhile_cons_of_pos rfl];exact ih
    exact hz w
  . have ih:=Ha w (n/10) (by omega) (by rw[bQ] at h';omega);rw[pz (by omega),bS,hd _ _ (by rw[ih];exact Cd _),ih]
theorem OI{q r:Nat}(b:Nat)(hq:0<q)(hr:r<10^b):a6 (q*10^b+r)=a6 q++bS b r:=by
 induction b generalizing r with
 |zero=>simp at hr;subst hr;simp[bS]
 |succ b ih=>
  have h1:10<=q*10^(b+1)+r:=by
   have:1*10^(b+1)<=q*10^(b+1):=bW _ hq;have h2:10<=10^(b+1):=by
    have:10^1<=10^(b+1):=cB (by decide) (by omega);omega
   omega
  have e1:(q*10^(b+1)+r)/10=q*10^b+r/10:=by
   rw[bQ,<-dI];omega
  have e2:(q*10^(b+1)+r)%10=r%10:=by
   rw[bQ,<-dI];omega
  rw[pz h1,e1,e2,ih (by rw[bQ] at hr;omega),bS,dj]
def dv(s:List UInt8):Nat:=s.foldl (fun a c=>a*10+(c.toNat-48)) 0
theorem TP(s:List UInt8)(c:UInt8):dv (s ++ [c])=dv s*10+(c.toNat-48):=by simp[dv]
theorem Jq(n:Nat):dv (a6 n)=n:=by
 induction n using Nat.strongRecOn with
 |_ n ih=>
  by_cases h:n<10
  . rw[jH h];show 0*10+((dK n).toNat-48)=n;rw[rp h];omega
  . rw[pz (by omega),TP,ih (n/10) (by omega),rp (by omega)];omega
theorem wS{n m:Nat}(h:a6 n=a6 m):n=m:=by rw[<-Jq n,<-Jq m,h]
end Go.Proofs.Dig
namespace Go.Proofs.Fl
open Go.RowKit Go.Proofs.Dig
attribute [local irreducible] IntKind.wrap aY be bm bt
theorem Kd:lh 1<=1:=jO (by decide)
def eV(z:Int):List UInt8:=(if z<0 then [45] else [])++a6 z.natAbs
theorem Q9:(dh 10000).map af=[.int .i64 10000]:=by
 rw[<-yt (l:=[10000]) (n:=10000) ⟨by intro d hd;simp at hd;subst hd;decide,by intro d hd;simp at hd;omega⟩ rfl];rfl
theorem TU{k:Nat}(h:k<10):(List.take (k+1) [48,49,50,51,52,53,54,55,56,57]).drop k=[dK k]:=by
 have:∀k:Fin 10,(List.take (k.1+1) [48,49,50,51,52,53,54,55,56,57]).drop k.1=[dK k.1]:=by decide
 exact this ⟨k,h⟩
theorem strE{a b:List UInt8}(h:a=b):SV.iv (.str a)=SV.iv (.str b):=by rw[h]
theorem P5{N t:Nat}(h:0<N/10^(4*t)):t<=2*lh N:=by
 have h1:10^(4*t)<=N:=by
  apply fP;intro hc;rw[lc (by omega)] at h;omega
 have h2:=gQ N;have h3:aq^lh N<=10^(8*lh N):=by
  rw[zC];exact zD (by decide) _
 apply fP;intro hc;have h4:10^(8*lh N)<=10^(4*t):=cB (by decide) (by omega);omega
theorem Jl(J:Keep){z:Int}(hz:lh z.natAbs<2^36):C J 80 [zh z] (.str (eV z)):=by
 refine aI Tryz.func80 rfl rfl rfl ?_;have sz:=od z;by_cases h0:z.sign=0
 . have e:z=0:=Int.sign_eq_zero_iff_zero.1 h0;repeat (((first|refine W.R (by kernel_rfl) ?_|refine W.c rfl ?_|refine xT (by omega) ?_|refine xr ?_);conv=>whnf))
   rw[e];show IV.str [48]=IV.str (eV 0);unfold eV;rw[al (by omega),ku,jH (by decide)];rfl
 . have hz0:z≠0:=fun e=>h0 (by rw[e];rfl);obtain⟨N,hN⟩:∃N,z.natAbs=N:=⟨_,rfl⟩;have hN0:0<N:=by omega
   rw[hN] at hz;show W J _ _ ⟨argS [.agg [.int .i64 z.sign,.sl ((dh z.natAbs).map af)]],fun _=>none,0⟩ _;rw[hN];repeat (((first|refine W.R (by kernel_rfl) ?_|refine W.c rfl ?_|refine xF (by omega) ?_|refine xr ?_);conv=>whnf))
   refine W.loop (G:={ t:Nat // t<=2*lh N+1 }) (fun t=>am [(1,.ptr 0 0),(3,.iv (.str (bS (4*t.1) N))),(4,.iv (.sl ((dh (N/10^(4*t.1))).map af)))] [(0,.var (.agg [.int .i64 z.sign,.sl ((dh N).map af)]))] 30) (fun t=>N/10^(4*t.1)) ⟨0,bb _⟩
    (Wk.tab [] ⟨aa,aa,⟨Dl (by dsimp only;rw[jf,oX,nH]),rfl⟩,ab⟩ ⟨rfl,ab⟩ rfl) ?_
   rintro⟨t,ht⟩;show W J _ _ (am [(1,.ptr 0 0),(3,.iv (.str (bS (4*t) N))),(4,.iv (.sl ((dh (N/10^(4*t))).map af)))] [(0,.var (.agg [.int .i64 z.sign,.sl ((dh N).map af)]))] 30) _;obtain⟨v,hv'⟩:∃v,N/10^(4*t)=v:=⟨_,rfl⟩;rw[hv'];have lv:((dh v).map af).length=lh v:=by simp[lh]
   have hlv:lh v<=lh N:=by rw[<-hv'];exact CK _ _
   by_cases hv0:0<v
   . have hlp:=xQ hv0;have hts:=P5 (N:=N) (t:=t) (by omega);have hl1:lh 10000<=1:=jO (by decide);have c1:=xp J (a:=v) (d:=10000) (by decide) (by omega);rw[Q9] at c1;have hr:v%10000<10000:=gh _ (by decide);have c2:=Cb J (n:=v%10000) (aP (jK (kt hr)) (by omega));obtain⟨r,hre⟩:∃r,v%10000=r:=⟨_,rfl⟩;rw[hre] at hr c1 c2;repeat (((first|refine W.R (by kernel_rfl) ?_|refine W.c rfl ?_|refine⟨_,c1,?_⟩|refine⟨_,c2,?_⟩|refine xT (by omega) ?_|refine⟨_,rfl,?_⟩|refine xr ?_);conv=>whnf))
     refine W.loop (G:={ i:Nat // i<=4 }) (fun i=>am [(1,.ptr 0 0),(3,.iv (.str (bS i.1 r++bS (4*t) N))),(5,.iv (.sl ((dh (v/10000)).map af))),(7,.iv (.int .i64 (r/10^i.1:Nat))),(8,.iv (.int .i64 (i.1:Nat)))] [(0,.var (.agg [.int .i64 z.sign,.sl ((dh N).map af)]))] 60) (fun i=>4-i.1) ⟨0,by omega⟩
      (Wk.tab [] ⟨aa,aa,aa,⟨cu (by dsimp only;rw[oX,nH]),rfl⟩,aa,ab⟩ ⟨rfl,ab⟩ rfl) ?_
     rintro⟨i,hi⟩;show W J _ _ (am [(1,.ptr 0 0),(3,.iv (.str (bS i r++bS (4*t) N))),(5,.iv (.sl ((dh (v/10000)).map af))),(7,.iv (.int .i64 (r/10^i:Nat))),(8,.iv (.int .i64 (i:Nat)))] [(0,.var (.agg [.int .i64 z.sign,.sl ((dh N).map af)]))] 60) _;by_cases hi4:i<4
     . obtain⟨q,hq⟩:∃q,r/10^i=q:=⟨_,rfl⟩;have hqr:q<=r:=by rw[<-hq];exact li _ _
       have hm:(q:Int).tmod 10=((q%10:Nat):Int):=kK q 10;have hq2:IntKind.wrap .i64 ((q:Int).tdiv 10)=((q/10:Nat):Int):=by
        rw[show(10:Int)=((10:Nat):Int) from rfl,lX];exact b7 (by omega)
       have hk:q%10<10:=gh _ (by decide);have hds:=TU hk;have hq3:r/10^(i+1)=q/10:=by rw[bQ,<-vO,hq]
       have hpw:bS (i+1) r=[dK (q%10)]++bS i r:=by
        rw[vm i 1,Aj,hq];rfl
       have l1:=wb i r;have l2:=wb (4*t) N;have hlen:(bS i r++bS (4*t) N).length=i+4*t:=by rw[ce,l1,l2]
       obtain⟨k,hke⟩:∃k,q%10=k:=⟨_,rfl⟩;rw[hke] at hm hk hds hpw;rw[hq];repeat (first|((first|refine W.R (by kernel_rfl) ?_|refine W.c rfl ?_|refine⟨by omega,_,hm,?_⟩|refine⟨by omega,_,hq2,?_⟩|refine⟨k+1,by omega,?_⟩|refine⟨k,rfl,?_⟩);conv=>whnf)|(refine⟨by omega,by show k+1<=10;omega,?_⟩;conv=>whnf)|(refine⟨by show(List.drop k (List.take (k+1) [48,49,50,51,52,53,54,55,56,57])).length+(bS i r++bS (4*t) N).length<=9223372036854775807;rw[hds,hlen];simp only[nG];omega,?_⟩;conv=>whnf)|((first|refine ap (by omega) ?_|refine xT (by omega) ?_|refine xr ?_);conv=>whnf))
       refine⟨⟨i+1,by omega⟩,Wk.tab [] ⟨aa,⟨strE ?_,rfl⟩,aa,⟨cu ?_,rfl⟩,aa,ab⟩ ⟨rfl,ab⟩ rfl,by dsimp only;omega⟩
       . dsimp only;rw[hpw,dj,<-hds]
       . dsimp only;rw[hq3]
     . have e4:i=4:=by omega
       subst e4;repeat (((first|refine W.R (by kernel_rfl) ?_|refine W.c rfl ?_|refine xF (by omega) ?_|refine xr ?_);conv=>whnf))
       refine⟨⟨t+1,by omega⟩,Wk.tab [] ⟨aa,⟨strE ?_,rfl⟩,⟨Dl ?_,rfl⟩,ab⟩ ⟨rfl,ab⟩ rfl,?_⟩
       . dsimp only;rw[show 4*(t+1)=4+4*t by omega,Aj,hv',<-G9 4 v,<-hre]
       . dsimp only;rw[show 4*(t+1)=4*t+4 by omega,hG,<-vO,hv']
       . dsimp only;rw[show 4*(t+1)=4*t+4 by omega,hG,<-vO,hv'];show v/10000<v;exact Eg hv0 (by decide)
   . have hv1:v=0:=by omega
     have hlt:N<10^(4*t):=by
      apply fP;intro hc;have:0<N/10^(4*t):=Nat.div_pos (by omega) (fH (by decide));omega
     have hl0:lh v=0:=by rw[hv1];unfold lh;rw[lM];rfl
     have hdw:=Ha (4*t) N hN0 hlt;have hpl:=wb (4*t) N;repeat (((first|refine W.R (by kernel_rfl) ?_|refine W.c rfl ?_|refine xF (by omega) ?_|refine⟨_,rfl,?_⟩|refine xr ?_);conv=>whnf))
     refine W.loop (G:={ s:List UInt8 // s.dropWhile (· == 48)=a6 N/\s.length<=4*t }) (fun s=>am [(1,.ptr 0 0),(3,.iv (.str s.1))] [(0,.var (.agg [.int .i64 z.sign,.sl ((dh N).map af)]))] 60) (fun s=>s.1.length) ⟨bS (4*t) N,hdw,by rw[hpl];exact ak _⟩
      (Wk.tab [] ⟨aa,aa,ab⟩ ⟨rfl,ab⟩ rfl) ?_
     rintro⟨s,hs,hsl⟩;show W J _ _ (am [(1,.ptr 0 0),(3,.iv (.str s))] [(0,.var (.agg [.int .i64 z.sign,.sl ((dh N).map af)]))] 60) _;cases s with
     |nil=>exact absurd hs.symm (Cd N)
     |cons c s=>
      by_cases hc:c=48
      . subst hc;repeat (((first|refine W.R (by kernel_rfl) ?_|refine W.c rfl ?_|refine⟨0,48,rfl,rfl,?_⟩|refine⟨Nat.succ_le_succ (bb _),ak _,?_⟩|refine⟨_,jr _,?_⟩|refine xT (by omega) ?_|refine xr ?_);conv=>whnf))
        refine⟨⟨s,by rw[<-hs];rfl,by simp at hsl;omega⟩,Wk.tab [] ⟨aa,⟨strE ?_,rfl⟩,ab⟩ ⟨rfl,ab⟩ rfl,?_⟩
        . simp
        . simp
      . have hcn:c.toNat≠48:=fun e=>hc (UInt8.toNat_inj.1 e);have hse:c::s=a6 N:=by
         rw[<-hs,List.dropWhile_cons_of_neg];simpa using hc
        have hct:(c.toNat:Int)≠48:=by exact fun e=>hcn (Int.ofNat.inj e)
        by_cases hneg:z.sign<0
        . have hzn:z<0:=Int.sign_eq_neg_one_iff_neg.1 (by omega);repeat (first|((first|refine W.R (by kernel_rfl) ?_|refine W.c rfl ?_|refine⟨0,c,rfl,rfl,?_⟩);conv=>whnf)|(refine⟨by show 1+(c::s).length<=9223372036854775807;omega,?_⟩;conv=>whnf)|((first|refine xT (by omega) ?_|refine xF (by omega) ?_|refine⟨_,rfl,?_⟩|refine xr ?_);conv=>whnf))
          rw[hse];show IV.str ([45]++a6 N)=_;unfold eV;rw[ar hzn,hN]
        . have hzn:¬z<0:=fun h=>hneg (by rw[mD h];omega);repeat (((first|refine W.R (by kernel_rfl) ?_|refine W.c rfl ?_|refine⟨0,c,rfl,rfl,?_⟩|refine xF (by omega) ?_|refine⟨_,rfl,?_⟩|refine xr ?_);conv=>whnf))
          rw[hse];unfold eV;rw[al hzn,hN];rfl
noncomputable abbrev g4(q:Rat)(d1 d2:IV):IV:=.agg [.int .i64 q.num.sign,.sl ((dh q.num.natAbs).map af),d1,d2]
noncomputable abbrev rr(q:Rat):IV:=g4 q (.int .i64 1) (.sl ((dh q.den).map af))
def DOk(q:Rat)(d1 d2:IV):Prop:=(d1=.int .i64 1/\d2=.sl ((dh q.den).map af))\/(d1=.int .i64 0/\d2=.sl []/\q=0)
theorem kJ(q:Rat):DOk q (.int .i64 1) (.sl ((dh q.den).map af)):=.inl ⟨rfl,rfl⟩
theorem Iy:g4 0 (.int .i64 0) (.sl [])=.agg [.int .i64 0,.sl [],.int .i64 0,.sl []]:=by
 show IV.agg [.int .i64 0,.sl ((dh 0).map af),.int .i64 0,.sl []]=_;rw[lM];rfl
noncomputable def rl(q:Rat):Nat:=lh q.num.natAbs+lh q.den
theorem rQ(J:Keep){q:Rat}{d1 d2:IV}(hd:DOk q d1 d2):C J 81 [g4 q d1 d2] (zh (q.den:Int)):=by
 refine aI Tryz.func81 rfl rfl rfl ?_;rcases hd with⟨rfl,rfl⟩|⟨rfl,rfl,rfl⟩
 . repeat (((first|refine W.R (by kernel_rfl) ?_|refine W.c rfl ?_|refine xF (by omega) ?_|refine xr ?_);conv=>whnf))
   rw[oc (dP q)];rfl
 . repeat (((first|refine W.R (by kernel_rfl) ?_|refine W.c rfl ?_|refine⟨_,pH J (z:=1) (by omega) (by omega),?_⟩|refine xT (by omega) ?_|refine xr ?_);conv=>whnf))
   rfl
theorem wC{g:Nat}(h0:0<g)(h:g<32768):dh g=[g]:=by
 symm;refine yt ⟨by intro d hd;simp at hd;subst hd;exact h,by intro d hd;simp at hd;omega⟩ ?_;simp[hv,nv]
theorem RA{z:Int}{n g:Nat}(h:n=z.natAbs/g)(h0:z=0->n=0):z.sign*(n:Int)=sv (decide (z<0)) n:=by
 unfold sv;rcases tl z 0 with h1|h1|h1
 . rw[mD h1,bu h1];simp
 . rw[h0 h1];simp
 . rw[mE h1,bz (by omega)];simp
theorem Pc(J:Keep){z:Int}{d:Nat}(hd:0<d)(hz:lh z.natAbs<2^36)(hl:lh d<2^36):C J 148 [zh z,zh (d:Int)] (zh (Nat.gcd z.natAbs d:Nat)):=by
 have:=Tp J (x:=z) (y:=(d:Int)) (by omega) (by rw[ef];omega);rwa[ef] at this
theorem Ca(J:Keep){z:Int}{d:Nat}(hd:0<d)(hz:lh z.natAbs<2^36)(hl:lh d<2^36){x y:IV}(c0:(x=zh z/\y=zh (d:Int))\/(x=zh (-z)/\y=zh (-(d:Int)))):C J 83 [x,y] (rr (mkRat z d)):=by
 obtain⟨g,hg⟩:∃g,Nat.gcd z.natAbs d=g:=⟨_,rfl⟩;have hg0:0<g:=by rw[<-hg];exact Xo _ hd
 have hgd:g∣d:=by rw[<-hg];exact Nat.gcd_dvd_right _ _
 have hgn:g<=d:=Nat.le_of_dvd hd hgd;have hlg:lh g<=lh d:=jK hgn;have hdg:1<=d/g:=(Em hg0).2 hgn;have c1:=Pc J hd hz hl;rw[hg] at c1;have hnum:=pg (z:=z) hd;have hden:=rx (z:=z) hd;rw[hg] at hnum hden;have l1:=CK z.natAbs g;have l2:=CK d g;have hsn:=RA (z:=z) (n:=z.natAbs/g) (g:=g) rfl (fun h=>by rw[h];simp);have c2:=xp J (a:=z.natAbs) (d:=g) hg0 (by omega);have c3:=xp J (a:=d) (d:=g) hg0 (by omega);have c4:=rM J (n:=z.natAbs/g) (s:=z.sign) (by
  have:=od z;rcases tl z 0 with h1|h1|h1
  . right;left;exact mD h1
  . right;right;rw[h1];simp
  . left;exact mE h1) (by omega)
 rw[hsn,<-hnum] at c4;have c5:=rM J (n:=d/g) (s:=1) (.inl rfl) (by omega);rw[lj,oc (n:=d/g) (by omega)] at c5;have n1:=Jn J (-z);have n2:=Jn J (-(d:Int));rw[Int.neg_neg] at n1 n2;have hds:(d:Int).sign=1:=mE (by omega);have hds2:(-(d:Int)).sign = -1:=mD (by omega);refine aI Tryz.func83 rfl rfl rfl ?_;rcases c0 with⟨rfl,rfl⟩|⟨rfl,rfl⟩
 . refine W.RS (by kernel_rfl) ?_;conv=>whnf
   refine W.join (G:=Unit) (fun _=>am [(2,.ptr 0 0),(3,.ptr 1 0),(4,.ptr 2 0)] [(0,.var (zh z)),(1,.var (zh (d:Int))),(2,.var (g4 0 (.int .i64 0) (.sl [])))] 30) ?_ ?_
   . repeat (first|((first|refine W.RS (by kernel_rfl) ?_|refine W.skip ?_|refine xF (by omega) ?_|refine xr ?_);conv=>whnf)|(refine W.condF rfl ?_))
     exact⟨(),Wk.tab [] ⟨aa,aa,aa,ab⟩ ⟨rfl,rfl,by rw[Iy];rfl,ab⟩ rfl⟩
   . rintro⟨⟩
     try dsimp only
     by_cases h1:g=1
     . have e1:(dh g).map af=[.int .i64 1]:=by rw[h1,wC (by decide) (by decide)];rfl
       have e2:zh (g:Int)=.agg [.int .i64 1,.sl [.int .i64 1]]:=by rw[oc hg0,e1]
       rw[e2] at c1;have z1:(mkRat z d).num=z:=by rw[hnum,h1,nH,n0]
       have d1:(mkRat z d).den=d:=by rw[hden,h1,nH]
       repeat (((first|refine W.R (by kernel_rfl) ?_|refine W.c rfl ?_|refine⟨_,c1,?_⟩|refine⟨0,_,rfl,rfl,rfl,?_⟩|refine⟨_,jr _,?_⟩|refine xT (by omega) ?_|refine⟨_,rfl,?_⟩|refine xr ?_|refine xB ?_);conv=>whnf))
       show IV.agg [.int .i64 z.sign,.sl ((dh z.natAbs).map af),.int .i64 (d:Int).sign,.sl ((dh (d:Int).natAbs).map af)]=_;rw[rr,g4,z1,d1,hds,ef]
     . rw[oc hg0] at c1;have hfin:IV.agg [.int .i64 (mkRat z d).num.sign,.sl ((dh (mkRat z d).num.natAbs).map af),.int .i64 1,.sl ((dh (d/g)).map af)]=rr (mkRat z d):=by
        rw[rr,g4,hden]
       have lg:((dh g).map af).length=lh g:=by simp[lh]
       by_cases h2:lh g=1
       . have hg2:g<32768:=by
          have:=gQ g;rw[h2,qT] at this;exact this
         have e1:(dh g).map af=[.int .i64 (g:Nat)]:=by rw[wC hg0 hg2];rfl
         rw[e1] at c1 c2 c3;repeat (((first|refine W.R (by kernel_rfl) ?_|refine W.c rfl ?_|refine⟨_,c1,?_⟩|refine⟨_,c2,?_⟩|refine⟨_,c3,?_⟩|refine⟨_,c4,?_⟩|refine⟨_,c5,?_⟩|refine⟨0,_,rfl,rfl,rfl,?_⟩|refine⟨_,jr _,?_⟩|refine xF (by omega) ?_|refine⟨_,rfl,?_⟩|refine xr ?_|refine xB ?_);conv=>whnf))
         exact hfin
       . repeat (((first|refine W.R (by kernel_rfl) ?_|refine W.c rfl ?_|refine⟨_,c1,?_⟩|refine⟨_,c2,?_⟩|refine⟨_,c3,?_⟩|refine⟨_,c4,?_⟩|refine⟨_,c5,?_⟩|refine xF (by omega) ?_|refine⟨_,rfl,?_⟩|refine xr ?_|refine xA ?_);conv=>whnf))
         exact hfin
 . refine W.RS (by kernel_rfl) ?_;conv=>whnf
   refine W.join (G:=Unit) (fun _=>am [(2,.ptr 0 0),(3,.ptr 1 0),(4,.ptr 2 0)] [(0,.var (zh z)),(1,.var (zh (d:Int))),(2,.var (g4 0 (.int .i64 0) (.sl [])))] 30) ?_ ?_
   . repeat (first|((first|refine W.RS (by kernel_rfl) ?_|refine W.R (by kernel_rfl) ?_|refine⟨_,n1,?_⟩|refine⟨_,n2,?_⟩|refine xT (by omega) ?_|refine xr ?_);conv=>whnf)|(refine W.condT rfl ?_))
     exact⟨(),Wk.tab [] ⟨aa,aa,aa,ab⟩ ⟨rfl,rfl,by rw[Iy];rfl,ab⟩ rfl⟩
   . rintro⟨⟩
     try dsimp only
     by_cases h1:g=1
     . have e1:(dh g).map af=[.int .i64 1]:=by rw[h1,wC (by decide) (by decide)];rfl
       have e2:zh (g:Int)=.agg [.int .i64 1,.sl [.int .i64 1]]:=by rw[oc hg0,e1]
       rw[e2] at c1;have z1:(mkRat z d).num=z:=by rw[hnum,h1,nH,n0]
       have d1:(mkRat z d).den=d:=by rw[hden,h1,nH]
       repeat (((first|refine W.R (by kernel_rfl) ?_|refine W.c rfl ?_|refine⟨_,c1,?_⟩|refine⟨0,_,rfl,rfl,rfl,?_⟩|refine⟨_,jr _,?_⟩|refine xT (by omega) ?_|refine⟨_,rfl,?_⟩|refine xr ?_|refine xB ?_);conv=>whnf))
       show IV.agg [.int .i64 z.sign,.sl ((dh z.natAbs).map af),.int .i64 (d:Int).sign,.sl ((dh (d:Int).natAbs).map af)]=_;rw[rr,g4,z1,d1,hds,ef]
     . rw[oc hg0] at c1;have hfin:IV.agg [.int .i64 (mkRat z d).num.sign,.sl ((dh (mkRat z d).num.natAbs).map af),.int .i64 1,.sl ((dh (d/g)).map af)]=rr (mkRat z d):=by
        rw[rr,g4,hden]
       have lg:((dh g).map af).length=lh g:=by simp[lh]
       by_cases h2:lh g=1
       . have hg2:g<32768:=by
          have:=gQ g;rw[h2,qT] at this;exact this
         have e1:(dh g).map af=[.int .i64 (g:Nat)]:=by rw[wC hg0 hg2];rfl
         rw[e1] at c1 c2 c3;repeat (((first|refine W.R (by kernel_rfl) ?_|refine W.c rfl ?_|refine⟨_,c1,?_⟩|refine⟨_,c2,?_⟩|refine⟨_,c3,?_⟩|refine⟨_,c4,?_⟩|refine⟨_,c5,?_⟩|refine⟨0,_,rfl,rfl,rfl,?_⟩|refine⟨_,jr _,?_⟩|refine xF (by omega) ?_|refine⟨_,rfl,?_⟩|refine xr ?_|refine xB ?_);conv=>whnf))
         exact hfin
       . repeat (((first|refine W.R (by kernel_rfl) ?_|refine W.c rfl ?_|refine⟨_,c1,?_⟩|refine⟨_,c2,?_⟩|refine⟨_,c3,?_⟩|refine⟨_,c4,?_⟩|refine⟨_,c5,?_⟩|refine xF (by omega) ?_|refine⟨_,rfl,?_⟩|refine xr ?_|refine xA ?_);conv=>whnf))
         exact hfin
theorem Qo{z:Int}{d:Nat}(hd:0<d):rl (mkRat z d)<=lh z.natAbs+lh d:=by
 unfold rl;rw[pg hd,rx hd];have h1:(sv (decide (z<0)) (z.natAbs/Nat.gcd z.natAbs d)).natAbs<=z.natAbs:=by
  have h2:=li z.natAbs (Nat.gcd z.natAbs d);generalize z.natAbs/Nat.gcd z.natAbs d=t at h2 ⊢;unfold sv;split<;>omega
 have h2:=jK h1;have h3:=jK (li d (Nat.gcd z.natAbs d));omega
theorem JY(a b:Rat):rl (a*b)<=rl a+rl b:=by
 rw[vL];have h:=Qo (z:=a.num*b.num) (d:=a.den*b.den) (ld (dP a) (dP b));have h1:=pN a.num.natAbs b.num.natAbs;have h2:=pN a.den b.den;rw[fg] at h;unfold rl at *;omega
theorem JZ(z:Int):rl (z:Rat)<=lh z.natAbs+1:=by
 show lh z.natAbs+lh 1<=_;have:=Kd;omega
theorem qH(n:Nat):lh (n:Int).natAbs=lh n:=by rw[ef]
theorem U1(J:Keep){z:Int}(h1 : -9223372036854775808<=z)(h2:z<=9223372036854775807):C J 37 [.int .i64 z] (rr (z:Rat)):=by
 refine aI Tryz.func37 rfl rfl rfl ?_;repeat (((first|refine W.RS (by kernel_rfl) ?_|refine W.ret ?_|refine⟨_,pH J h1 h2,?_⟩|refine⟨_,pH J (z:=1) (by omega) (by omega),?_⟩);conv=>whnf))
 show IV.agg [.int .i64 z.sign,.sl ((dh z.natAbs).map af),.int .i64 (1:Int).sign,.sl ((dh (1:Int).natAbs).map af)]=_;rfl
theorem OG{n d:Int}(hd:d≠0):mkRat (n*d.sign) d.natAbs=(n:Rat)/(d:Rat):=by
 rw[<-Rat.divInt_eq_div];rcases tl d 0 with h|h|h
 . obtain⟨k,rfl⟩:∃k:Nat,d = -((k:Nat):Int):=⟨d.natAbs,by omega⟩;rw[mD h,zH,ef,Rat.divInt_neg',MC,Eq,Eu]
 . exact absurd h hd
 . obtain⟨k,rfl⟩:∃k:Nat,d=((k:Nat):Int):=⟨d.natAbs,by omega⟩;rw[mE h,ef,Eu,MC]
theorem QZ(J:Keep){n d:Int}(hd:d≠0)(hz:lh n.natAbs<2^36)(hl:lh d.natAbs<2^36):C J 83 [zh n,zh d] (rr ((n:Rat)/(d:Rat))):=by
 rw[<-OG hd];have hs:(n*d.sign).natAbs=n.natAbs:=by
  rw[fg];rcases tl d 0 with h|h|h
  . rw[mD h];simp
  . exact absurd h hd
  . rw[mE h];simp
 refine Ca J (z:=n*d.sign) (d:=d.natAbs) (by omega) (by rw[hs];exact hz) hl ?_;rcases tl d 0 with h|h|h
 . right;rw[mD h];exact⟨by rw[Eq,Eu,Int.neg_neg],oC (by omega)⟩
 . exact absurd h hd
 . left;rw[mE h];exact⟨by rw[Eu],oC (by omega)⟩
theorem U4(J:Keep){n d:Int}(h1 : -9223372036854775808<=n)(h2:n<=9223372036854775807)(h3 : -9223372036854775808<=d)(h4:d<=9223372036854775807)(hd:d≠0):C J 62 [.int .i64 n,.int .i64 d] (rr ((n:Rat)/(d:Rat))):=by
 refine aI Tryz.func62 rfl rfl rfl ?_;have l:∀z:Int,-9223372036854775808<=z->z<=9223372036854775807->lh z.natAbs<=5:=fun z a b=>jO (by
  have:aq^5=37778931862957161709568:=by decide
  omega)
 have l1:=l n h1 h2;have l2:=l d h3 h4;have c:=QZ J (n:=n) hd (by omega) (by omega);repeat (((first|refine W.RS (by kernel_rfl) ?_|refine W.ret ?_|refine⟨_,pH J h1 h2,?_⟩|refine⟨_,pH J h3 h4,?_⟩|refine⟨_,c,?_⟩);conv=>whnf))
 rfl
section
variable {a b:Rat}{d1 d2 e1 e2:IV}
theorem Kj(J:Keep)(hd:DOk a d1 d2)(he:DOk b e1 e2)(ha:rl a<2^34)(hb:rl b<2^34):C J 39 [g4 a d1 d2,g4 b e1 e2] (rr (a+b)):=by
 refine aI Tryz.func39 rfl rfl rfl ?_;unfold rl at ha hb;have l1:=pN a.num.natAbs b.den;have l2:=pN b.num.natAbs a.den;have l3:=pN a.den b.den;have e1':(a.num*(b.den:Int)).natAbs=a.num.natAbs*b.den:=by rw[fg,ef]
 have e2':(b.num*(a.den:Int)).natAbs=b.num.natAbs*a.den:=by rw[fg,ef]
 have c1:=rR J (x:=a.num) (y:=(b.den:Int)) (by omega) (by rw[qH];omega);have c2:=rR J (x:=b.num) (y:=(a.den:Int)) (by omega) (by rw[qH];omega);have c3:=rR J (x:=(a.den:Int)) (y:=(b.den:Int)) (by rw[qH];omega) (by rw[qH];omega);have c4:=Tv J (x:=a.num*(b.den:Int)) (y:=b.num*(a.den:Int)) (by rw[e1'];omega) (by rw[e2'];omega);have h3:=Ke (a.num.natAbs*b.den) (b.num.natAbs*a.den);have h4:(a.num*(b.den:Int)+b.num*(a.den:Int)).natAbs<=a.num.natAbs*b.den+b.num.natAbs*a.den:=by
  rw[<-e1',<-e2'];exact zG _ _
 have h5:=jK h4;have c5:=Ca J (z:=a.num*(b.den:Int)+b.num*(a.den:Int)) (d:=a.den*b.den) (ld (dP a) (dP b)) (by omega) (by omega) (.inl ⟨rfl,rfl⟩);rw[<-Es,iZ] at c5;repeat (((first|refine W.RS (by kernel_rfl) ?_|refine W.ret ?_|refine⟨_,rQ J hd,?_⟩|refine⟨_,rQ J he,?_⟩|refine⟨_,c1,?_⟩|refine⟨_,c2,?_⟩|refine⟨_,c3,?_⟩|refine⟨_,c4,?_⟩|refine⟨_,c5,?_⟩|refine xr ?_);conv=>whnf))
 rfl
theorem CO(J:Keep)(hd:DOk a d1 d2)(he:DOk b e1 e2)(ha:rl a<2^34)(hb:rl b<2^34):C J 38 [g4 a d1 d2,g4 b e1 e2] (rr (a*b)):=by
 refine aI Tryz.func38 rfl rfl rfl ?_;unfold rl at ha hb;have l1:=pN a.num.natAbs b.num.natAbs;have l3:=pN a.den b.den;have c1:=rR J (x:=a.num) (y:=b.num) (by omega) (by omega);have c3:=rR J (x:=(a.den:Int)) (y:=(b.den:Int)) (by rw[qH];omega) (by rw[qH];omega);have c5:=Ca J (z:=a.num*b.num) (d:=a.den*b.den) (ld (dP a) (dP b)) (by rw[fg];omega) (by omega) (.inl ⟨rfl,rfl⟩);rw[<-vL,iZ] at c5;repeat (((first|refine W.RS (by kernel_rfl) ?_|refine W.ret ?_|refine⟨_,rQ J hd,?_⟩|refine⟨_,rQ J he,?_⟩|refine⟨_,c1,?_⟩|refine⟨_,c3,?_⟩|refine⟨_,c5,?_⟩|refine xr ?_);conv=>whnf))
 rfl
theorem U2(J:Keep):C J 43 [g4 a d1 d2] (.int .i64 a.num.sign):=by
 refine aI Tryz.func43 rfl rfl rfl ?_;repeat (((first|refine W.RS (by kernel_rfl) ?_|refine W.ret ?_);conv=>whnf))
 rfl
end
end Go.Proofs.Fl
namespace Go.Proofs.Fl
open Go.RowKit
def sL(j:Nat)(w:World)(b R:Nat):Prop:=∃arr n cap T fr,w.heap[b]?=some (.cells arr T fr)/\arr[j]?=some (.slice (some ⟨R,0,none⟩) n cap)
structure BldF(j b:Nat)(w w':World):Prop where
 os:w'.os=w.os
 tape:w'.tape=w.tape
 output:w'.output=w.output
 size:w.heap.size<=w'.heap.size
 block:∀k,k<w.heap.size->k≠b->¬sL j w b k->w'.heap[k]?=w.heap[k]?
 row:∀R,sL j w' b R->sL j w b R\/w.heap.size<=R
def uZ(P:Program)(f:FuncId)(s:List UInt8)(xs:List IV)(s':List UInt8)(r:IV):Prop :=
 (∃fn,P.funcs[f]?=some fn/\(fn.name == "runtime.NumGoroutine")=false/\fn.body.isNone=false)/\
 ∀(H:ah) (w:World) (b:Nat) (args:List Value),VRL H args xs->Lib.IsBuilderF jz qh 0 b (Lib.byteCells s) w->
  Calls P f (Value.pointer (some ⟨b,0,none⟩)::args).toArray w fun e w'=>∃v,e=.returned v/\(∀H,VR H v r)/\Lib.IsBuilderF jz qh 0 b (Lib.byteCells s') w'/\BldF 1 b w w'
theorem Sim.build{E:Env}{H:ah}{U:Nat->Nat×Nat}{tm:Nat->SV}{bx:Nat->Option Bx}{tmps:Array Value}{w:World}(h:Sim E H U tm bx tmps w){g:Nat}{s s':Ow}(hj:s'.j=s.j)(hg:bx g=some (.bld s))(hone:∀g' s',bx g'=some (.bld s')->g'=g){w':World}
 (hf:BldF s.j (U g).1 w w') (hb:ss H w' (U g).1 s'):Sim E H U tm (aD bx g (some (.bld s'))) tmps w':=by
 obtain⟨b1,b2,b3,b4⟩:=h.box g _ hg;have hlt:(U g).1<w.heap.size:=(h.box g _ hg).lt rfl;have hother:∀{g' b},aD bx g (some (.bld s')) g'=some b->g'≠g->bx g'=some b:=fun{g' b} e hne=>by rwa[aG _ _ _ hne] at e
 have halive:∀{g' b},aD bx g (some (.bld s')) g'=some b->b.alive=true->∃b0,bx g'=some b0/\b0.alive=true:=fun{g' b} e ha=>by
  by_cases hne:g'=g
  . subst hne;exact⟨_,hg,rfl⟩
  . exact⟨b,hother e hne,ha⟩
 have hkeep:∀{g' b},bx g'=some b->g'≠g->b.alive=true->w'.heap[(U g').1]?=w.heap[(U g').1]?:=fun{g' b} e hne ha=>
  hf.block _ ((h.box g' b e).lt ha) (fun e'=>hne (h.inj g' g b _ e hg ha rfl e')) (fun hR=>h.hid g s g' b _ hg e ha hR rfl)
 refine⟨fun b arr e=>?_,h.below.trans ⟨hf.os,hf.tape,hf.output,hf.size,fun k hk=>?_⟩,fun k hk=>h.lo k (aP hf.size hk),h.ext,fun t=>(h.slot t).mono (HLe.refl _) (fun g' b1 hg'=>?_),fun g' c1 hg'=>?_,fun g1 g2 c1 c2 e1 e2 a1 a2 he=>?_,fun p' k' hk'=>⟨(h.pin p' k' hk').1,vY (h.pin p' k' hk').2.1,(h.pin p' k' hk').2.2⟩,?_,fun g1 s1 g2 c2 R e1 e2 ha2 hR=>?_⟩
 . obtain⟨t,fr,ht⟩:=h.has b arr e;refine⟨t,fr,(hf.block b (h.has.lt e) (fun e'=>?_) (fun hR=>?_)).trans ht⟩
   . rw[e',b2] at e;cases e
   . rw[(b4 b hR).2] at e;cases e
 . rcases eS k w.heap.size with h1|h1
   . exact hf.block k h1 (fun e=>hk (by rw[e];exact b1)) (fun hR=>hk (b4 k hR).1)
   . exact absurd (h.lo k h1) hk
 . by_cases hne:g'=g
   . subst hne;rw[hg] at hg';simp at hg';subst hg';exact⟨.bld s',by show aD bx g' _ g'=_;rw[aT],trivial,rfl⟩
   . exact⟨b1,by show aD bx g _ g'=_;rw[aG _ _ _ hne];exact hg',shape.refl _,rfl⟩
 . by_cases hne:g'=g
   . subst hne;have e':Bx.bld s'=c1:=by
      have:aD bx g' (some (.bld s')) g'=some c1:=hg';rw[aT] at this;simpa using this
     subst e';refine⟨b1,b2,hb,fun R hR=>?_⟩;rcases hf.row R (by rw[<-hj];exact hR) with h1|h1
     . exact b4 R h1
     . refine⟨h.lo R h1,?_⟩;cases hx:H R with
       |none=>rfl
       |some arr=>have:=h.has.lt hx;omega
   . have e':=hother hg' hne;by_cases hal:c1.alive=true
     . exact(h.box g' c1 e').keep (hkeep e' hne hal) (HLe.refl _) id (fun s R eb _=>absurd (hone g' s (by rw[<-eb];exact e')) hne)
     . cases c1<;>first|trivial|simp[Bx.alive] at hal
 . obtain⟨d1,f1,f1'⟩:=halive e1 a1;obtain⟨d2,f2,f2'⟩:=halive e2 a2;exact h.inj g1 g2 d1 d2 f1 f2 f1' f2' he
 . refine h.marks.keep fun D hD=>hf.block D (Array.getElem?_eq_some_iff.1 hD).1 (fun e=>?_) (fun hR=>?_)
   . obtain⟨arr,e',hc⟩:=(h.box g _ hg).cells rfl;rw[<-e,hD] at hc;cases hc
   . obtain⟨_,_,arr,_,fz,hc⟩:=jL b3 hR;rw[hD] at hc;cases hc
 . by_cases hne:g1=g
   . subst hne;obtain⟨d2,f2,f2'⟩:=halive e2 ha2;have e9:s'=s1:=by
      have:aD bx g1 (some (.bld s')) g1=some (.bld s1):=e1;rw[aT] at this;simpa using this
     rcases hf.row R (by rw[<-hj,e9];exact hR) with h1|h1
     . exact h.hid g1 s g2 d2 R hg f2 f2' h1
     . have:=(h.box g2 _ f2).lt f2';omega
   . exact absurd (hone g1 s1 (hother e1 hne)) hne
theorem O8{P:Program}{t:TypeId}{i:TypeInfo}{z:Value}(h:P.info? t=some i)(hz:i.zero=some z)(w:World):(zeroValue t).run P w=.ok z w:=by simp[zeroValue,typeInfo,h,hz]
section
variable {X:Cx}{nt:Nat}{Y:AS}{K:Exit->AS->Prop}
theorem CW.build(n:Nat){id:Nat}{all:Array Oper}{o:Oper}{fo p:Operand}{args:List Operand}{ats:Array TypeId}(ho:all.toList[n]?=some o)(hd:cn nt all.toList=true)(hg:o.guard=none)(hop:o.op=.call { callee:=.value fo,args:=(p::args).toArray,argTypes:=ats })
 (h:fx X.T X.C all (all.toList.take n) Y.nx Y.tm Y.bx [] fun tm bx _=>match evS tm fo,evS tm p,fM bx (evS tm) args with
   | .iv (.fn f),.ptr g 0,some (xs,[])=>∃s s' r,bx g=some (.bld (.str s))/\(∀g' s',bx g'=some (.bld s')->g'=g)/\uZ X.P f s xs s' r/\
    fx X.T X.C all (all.toList.drop (n+1)) (Y.nx+n+1) (dX tm o.dst (.iv r)) (aD bx g (some (.bld (.str s')))) [] fun tm bx _=>K .normal ⟨tm,bx,Y.nx+all.size⟩
   |_,_,_=>False):CW X nt (.region id all false) Y K:=by
 intro ro E Q hI hQ M H U a w hS;refine vA ?_;have hsplit:all.toList=all.toList.take n++o::all.toList.drop (n+1):=by
  have hlt:=(List.getElem?_eq_some_iff.1 ho).1;have he:=(List.getElem?_eq_some_iff.1 ho).2;have h1:=ks n all.toList;rw[dY hlt,he] at h1;exact h1.symm
 have hd1:cn nt (all.toList.take n)=true:=by
  unfold cn at hd ⊢;rw[kq] at hd ⊢;exact fun x hx=>hd x (dH hx)
 have hd2:cn nt (all.toList.drop (n+1))=true:=by
  unfold cn at hd ⊢;rw[kq] at hd ⊢;exact fun x hx=>hd x (iu hx)
 have hdo:∀d,o.dst=some d->d<nt:=nJ hd (cd ho);rw[hsplit];refine xi (E:=E.mks M) X.hT X.ok hI (fun H1 β1 tm bx log a1 w1 hk hS1=>?_) hd1 hS h;split at hk
 . rename_i f g xs hfo hp hargs;obtain⟨s,s',r,hbg,hone,⟨⟨fn,hf1,hf2,hf3⟩,hc⟩,hk⟩:=hk;have hv:=aU hS1.sim rfl fo;rw[hfo] at hv;have e1:=rT hv;have hvp:=aU hS1.sim rfl p;rw[hp] at hvp;obtain⟨_,hpv⟩:=hvp;obtain⟨H2,hle,S2,V2⟩:=rH (a:=a1) rfl hS1.sim hargs;have hcall:=hc H2 w1 (β1 g).1 (args.map a1.eval) V2 (S2.box g _ hbg).2.2.1;rw[<-hpv] at hcall;have hrun:(execOp a1.eval o).run X.P w1=.ok (.enter f (a1.eval p::args.map a1.eval).toArray) w1:=by
    simp only[execOp,hop,resolve,e1,Deferred.ofValue,av,ay,au,invoke,callFunc,tf,hf1,hf2,hf3,cM,bE];congr 2;apply dZ;simp
   unfold wpListIn;simp only[Region.wanted,hg,bD];refine sf (fun c hc=>by rw[hop] at hc;cases hc) ?_;unfold Oper.wp;rw[hrun];refine hcall.mono ?_;rintro e w2 ⟨v,rfl,hvr,hb2,hf2⟩;have T:St (E.mks M) nt H2 β1 (dX tm o.dst (.iv r)) (aD bx g (some (.bld (.str s')))) (a1.put o.dst v) w2:=St.put ⟨S2.build (bx:=bx) (g:=g) (s:=.str s) (s':=.str s') rfl hbg hone hf2 hb2,hS1.defers,hS1.size⟩ hdo (r:=.iv r) (hvr H2);have:=xi (rest:=[]) (Q:=Q) (ro:=ro.1) (E:=E.mks M) X.hT X.ok hI (all:=all) (K:=fun tm bx _=>K .normal ⟨tm,bx,Y.nx+all.size⟩) (fun H4 β4 tm bx log a4 w4 hk4 hS4=>hQ .normal _ M H4 β4 a4 w4 hk4 hS4) hd2 T hk;rw[jb] at this;exact this
 . exact hk.elim
theorem CW.newBld{id:Nat}{o:Oper}{d:Nat}(hd:d<nt)(hdst:o.dst=some d)(hg:o.guard=none)(hop:o.op=.alloc jz){i:TypeInfo}(hinfo:X.P.info? jz=some i)(hz:i.zero=some (.agg #[.pointer none,.slice none 0 0]))
 (hb:Y.bx Y.nx=none) (h:K .normal ⟨aD Y.tm d (.ptr Y.nx 0),aD Y.bx Y.nx (some (.bld (.str []))),Y.nx+1⟩):CW X nt (.region id #[o] false) Y K:=by
 intro ro E Q hI hQ M H U a w hS;refine vA ?_;show wpListIn (FW ro.1) 0 X.P #[o] Q [o] a w;unfold wpListIn;simp only[Region.wanted,hg,bD];refine sf (fun c hc=>by rw[hop] at hc;cases hc) ?_;have hS1:=hS.sim.newBlock hb (b:=.bld (.str [])) (cap:=0) (arr := #[.pointer none,.slice none 0 0]) (e:=jz) (fun w' hw hn hlo=>⟨hlo,hn,.inl ⟨bb _,_,hw,⟨rfl,.inl ⟨rfl,rfl⟩⟩,by simp[Value.ownBlock]⟩,fun R hR=>by
  obtain⟨arr,n,cap,T,fr,e,e'⟩:=hR;rw[hw] at e;simp at e;obtain⟨rfl,_⟩:=e;simp[Ow.j] at e'⟩) (fun s R w' es hw hR=>by
  obtain⟨arr,n,cap,T,fr,e,e'⟩:=hR;cases es;rw[hw] at e;simp at e;obtain⟨rfl,_⟩:=e;simp[Ow.j] at e')
 have hT:=St.put (H:=H) (a:=a) ⟨hS1,hS.defers,hS.size⟩ (dst:=o.dst) (fun d' hd'=>by rw[hdst] at hd';cases hd';exact hd) (r:=.ptr Y.nx 0) (v:=.pointer (some ⟨w.heap.size,0,none⟩)) ⟨by rw[aT];simp,by rw[aT]⟩;have hrun:(execOp a.eval o).run X.P w=.ok (.value (.pointer (some ⟨w.heap.size,0,none⟩))) (w.alloc (.cells #[.pointer none,.slice none 0 0] jz)):=by
  simp only[execOp,hop,Instr.alloc,av,O8 hinfo hz,au,newVar,newRow,ms,ay];rfl
 unfold Oper.wp;rw[hrun];show wpListIn (FW ro.1) 0 X.P #[o] Q [] (a.put o.dst _) _;unfold wpListIn;rw[hdst] at hT ⊢;exact hQ .normal _ M H _ _ _ h hT
end
end Go.Proofs.Fl
namespace Go.Proofs.Fl
open Go.RowKit Go.Shelf
section
variable {P:Program}(w:World)
theorem M8(base:Nat)(t u ty e:TypeId)(i:TypeInfo)(ht:P.underlying t=some (.slice e))(hu:P.underlying u=some .string)(hi:P.info? e=some i)(hz:i.zero=some (.int .u8 0))
 (hsize:i.size=1) (hby:i.bytes=1)
 (v:Value) (n:Nat) (xs:List Value) (hown:w.ownsRowF base e 1 v n xs) (s:ByteArray)
 (h63:n+s.size<=maxLen) (hbytes:n+s.size<=140737488355328) (hbase:base<=w.heap.size) :
 ∃v' w',(Builtin.append_ #[t,u] ty #[v,.string s]).run P w=.ok v' w'/\w'.ownsRowF base e 1 v' (n+s.size) (xs++Lib.strCells s)/\w.grownBy w' v.ownBlock/\(∀R,v'.ownBlock=some R->v.ownBlock=some R\/w.heap.size<=R):=by
 rcases hown.2 with⟨rfl,rfl⟩|⟨g,cap,cur,fz,rfl,hbg,hg,hfz,hnc,hcm,hcs,htake⟩
 . obtain⟨v',w',h1,h2,h3,h4⟩:=Lib.run_append_own_stringF (P:=P) w w.heap.size t u ty e i ht hu hi hz hsize hby (.slice none 0 0) 0 xs ⟨hown.1,.inl ⟨rfl,rfl⟩⟩ s h63 hbytes (ak _);refine⟨v',w',h1,⟨h2.1,?_⟩,h3,fun R hR=>?_⟩
   . rcases h2.2 with h|⟨g,cap,cur,fz,e1,e2,e3⟩
     . exact .inl h
     . exact .inr ⟨g,cap,cur,fz,e1,by omega,e3⟩
   . rcases h2.2 with⟨rfl,_⟩|⟨g,cap,cur,fz,rfl,e2,_⟩
     . cases hR
     . cases hR;exact .inr e2
 . have hxl:xs.length=n:=by simpa using hown.1
   have hlen:(xs++Lib.strCells s).length=(n+s.size)*1:=by rw[ce,hxl,Ev,jc]
   by_cases hroom:n+s.size<=cap
   . have hcs':cur.size=cap:=by simpa using hcs
     have hr:=Lib.run_append_room_stringF (P:=P) w t u ty e i ht hu hi hsize g n cap cur fz hg (by simpa using hfz) s hroom (by omega);refine⟨_,_,hr,⟨hlen,.inr ⟨g,cap,_,fz,rfl,hbg,tc w g cur _ e _ hg,by omega,hroom,hcm,?_,?_⟩⟩,⟨rfl,rfl,rfl,by simp,fun k _ hk=>mv w g k _ (fun e=>hk (by simp[Value.ownBlock,e]))⟩,fun R hR=>.inl hR⟩
     . simp only[ko,ce,b9,k8,eE,Ev];omega
     . have ht':cur.toList.take n=xs:=by simpa using htake
       rw[ht',<-hlen];exact List.take_left
   . have holds:∀j u,xs[j]?=some u->w.cell? ((⟨g,0,none⟩:Addr).add j)=some u:=hown.cells (g:=g) rfl;have hsmall:n+s.size<=9223372036854775807:=by simp only[maxLen] at h63;omega
     have hr:=Lib.run_append_grow_string (P:=P) w t u ty e i (.int .u8 0) ht hu hi hz ⟨g,0,none⟩ n cap xs (by rw[hsize];simpa using hxl) holds s (by omega) (by omega) (by rw[hby];exact Ma (by omega) (by omega));have hge:=zm w (n+s.size) cap e;have hcm2:grownCap w (n+s.size) cap e<=maxLen:=L9 w (n+s.size) cap e h63;refine⟨_,_,hr,⟨hlen,.inr ⟨w.heap.size,_,_,(0,0),rfl,hbase,nD w.drew _,bb _,hge,hcm2,?_,?_⟩⟩,⟨rfl,rfl,rfl,by simp,fun k hk _=>heap_alloc_old w.drew _ hk⟩,fun R hR=>?_⟩
     . have hz1:(Value.int IntKind.u8 0).cells.size=1:=rfl;simp only[zn,ko,size_zeroCells,hz1,hxl,Ev];omega
     . simp only[oT,dj];rw[<-dj,<-hlen];exact List.take_left
     . have hR:some w.heap.size=some R:=hR;cases hR;exact .inr (ak _)
theorem M5{w:World}{ops:Array Oper}{rest:List Oper}{o:Oper}{a:Act}{Q:Exit->Act->World->Prop}(hgd:o.guard=none)(sl x:Operand)(t u:TypeId)
 (ho:o.op=.call { callee:=.builtin .append,args := #[sl,x],argTypes := #[t,u] })
 (base:Nat) (e:TypeId) (i:TypeInfo) (ht:P.underlying t=some (.slice e)) (hu:P.underlying u=some .string) (hi:P.info? e=some i) (hz:i.zero=some (.int .u8 0))
 (hsize:i.size=1) (hby:i.bytes=1)
 (v:Value) (n:Nat) (xs:List Value) (hs:a.eval sl=v) (hown:w.ownsRowF base e 1 v n xs) (s:ByteArray) (hx:a.eval x=.string s)
 (h63:n+s.size<=maxLen) (hbytes:n+s.size<=140737488355328) (hbase:base<=w.heap.size)
 (h:∀v' w',w'.ownsRowF base e 1 v' (n+s.size) (xs++Lib.strCells s)->w.grownBy w' v.ownBlock->(∀R,v'.ownBlock=some R->v.ownBlock=some R\/w.heap.size<=R)->wpList P ops Q rest (a.put o.dst v') w'):wpList P ops Q (o::rest) a w:=by
 refine wpList_plain hgd fun K hK=>?_;obtain⟨v',w',hr,h2,h3,h4⟩:=M8 (P:=P) w base t u o.type e i ht hu hi hz hsize hby v n xs hown s h63 hbytes hbase;unfold Oper.wp execOp;simp only[ho,resolve,invoke,builtin,av,ay,au,ja,aS,dO,hs,hx,hr];exact hK _ _ (h v' w' h2 h3 h4)
end
theorem BldF.refl(j b:Nat)(w:World):BldF j b w w:=⟨rfl,rfl,rfl,ak _,fun _ _ _ _=>rfl,fun _ h=>.inl h⟩
theorem Gf{w:World}{b R:Nat}{p v:Value}{T:TypeId}{fr:Nat×Nat}(hb:w.heap[b]?=some (.cells #[p,v] T fr))(hR:sL 1 w b R):v.ownBlock=some R:=by
 obtain⟨arr,n,cap,T',fr',e,e'⟩:=hR;rw[hb] at e;simp at e;obtain⟨rfl,_⟩:=e;simp at e';rw[e'];rfl
theorem A3{w:World}{b R n cap:Nat}{p:Value}{T:TypeId}{fr:Nat×Nat}(hb:w.heap[b]?=some (.cells #[p,.slice (some ⟨R,0,none⟩) n cap] T fr)):sL 1 w b R:=⟨_,_,_,_,_,hb,rfl⟩
variable {P:Program}{V:Ren}
theorem Ob(L:Lays.n240 P V)(X:Builder.X72 P V)(B b:Nat)(bs:List Value)(w:World)(h:Lib.IsBuilderF (V.t 72) (V.t 5) B b bs w) :
 Calls P (V.f 240) #[.pointer (some ⟨b,0,none⟩)] w fun e w'=>e=.returned (.tuple #[])/\Lib.BuilderAtF (V.t 72) (V.t 5) B b (.pointer (some ⟨b,0,none⟩)) bs w'/\BldF 1 b w w'/\w'.heap.size=w.heap.size:=by
 rcases h with h|h
 . have hh:=h;obtain⟨hB,v,hbk,hown,hne⟩:=hh;refine(Any.Builder_copyCheck_fresh L X b w h.cell0 h.shape h.frozen0).mono ?_;rintro e w' ⟨rfl,rfl⟩;have hb2:(w.setCell ⟨b,0,none⟩ (.pointer (some ⟨b,0,none⟩))).heap[b]?=some (.cells #[.pointer (some ⟨b,0,none⟩),v] (V.t 72) (0,0)):=by simp[World.setCell,zM,hbk]
   refine⟨rfl,h.used _,⟨rfl,rfl,rfl,by simp[World.setCell],fun k _ hk _=>Below.heap_setCell _ _ _ _ hk,fun R hR=>?_⟩,by simp[World.setCell]⟩;have:=Gf hb2 hR;rcases hown.2 with⟨rfl,_⟩|⟨g,cap,cur,fz,rfl,_⟩
   . cases this
   . cases this;exact .inl (A3 hbk)
 . refine(Any.Builder_copyCheck_used L X b w h.cell0).mono ?_;rintro e w' ⟨rfl,rfl⟩;exact⟨rfl,h,BldF.refl _ _ _,rfl⟩
theorem Ns(L:Lays.n166 P V)(X:Builder.Extra P V)(B b:Nat)(bs:List Value)(s:ByteArray)(w:World)(h:Lib.IsBuilderF (V.t 72) (V.t 5) B b bs w)(hlen:bs.length+s.size<=140737488355328)(hBw:B<=w.heap.size) :
 Calls P (V.f 166) #[.pointer (some ⟨b,0,none⟩),.string s] w fun e w'=>e=.returned (.tuple #[.int .i64 s.size,.nilIface])/\Lib.BuilderAtF (V.t 72) (V.t 5) B b (.pointer (some ⟨b,0,none⟩)) (bs++Lib.strCells s) w'/\BldF 1 b w w':=by
 obtain⟨i0,hi,hz0,hz1,hz2⟩:=info_parts X.infoByte;have mixed:=L.mixed;have t72:=L.t72;have a72:=L.a72;have z72:=L.z72;have v72:=L.v72;have u72:=cK L.t72;have t70:=L.t70;have a70:=L.a70;have z70:=L.z70;have v70:=L.v70;have u70:=cK L.t70;have t37:=L.t37;have a37:=L.a37;have z37:=L.z37;have v37:=L.v37;have u37:=cK L.t37;have t3:=L.t3;have a3:=L.a3;have z3:=L.z3;have v3:=L.v3;have u3:=cK L.t3;have t9:=L.t9;have a9:=L.a9;have z9:=L.z9;have v9:=L.v9;have u9:=cK L.t9;have t4:=L.t4;have a4:=L.a4;have z4:=L.z4;have v4:=L.v4;have u4:=cK L.t4;have t164:=L.t164;have a164:=L.a164;have z164:=L.z164;have v164:=L.v164;have u164:=cK L.t164;have t5:=X.t5;have a5:=X.a5;have z5:=X.z5;have v5:=X.v5;have u5:=cK X.t5;have e240:∀args w,(callFunc (V.f 240) args).run P w=.ok (.enter (V.f 240) args) w:=enters_of L.f240 (by kernel_rfl) rfl;obtain⟨p0,v0,hb0,hown0,_⟩:∃p v,w.heap[b]?=some (.cells #[p,v] (V.t 72) (0,0))/\w.ownsRowF B (V.t 5) 1 v bs.length bs/\v.ownBlock≠some b:=by
  rcases h with⟨_,v,h1,h2⟩|⟨_,v,h1,h2⟩
  . exact⟨_,v,h1,h2⟩
  . exact⟨_,v,h1,h2⟩
 go_enter L.f166,Body.n166_ntmps V
 go_wp2_with (go_at_fn (V.f 240);refine(Ob { L with } X.toX72 B b bs _ h).mono ?_)
 rintro e w1 ⟨rfl,h1,hf1,hs1⟩;obtain⟨hB,v,hbk,hown,hne⟩:=h1;have c0:w1.cell? ⟨b,0,none⟩=some (.pointer (some ⟨b,0,none⟩)):=by rw[zN hbk];rfl
 have c1:w1.cell? ⟨b,1,none⟩=some v:=by rw[zN hbk];rfl
 go_wp2_with (at_builtin;refine M5 rfl _ _ (V.t 37) (V.t 9) rfl B (V.t 5) i0 L.t37 L.t9 hi hz0 hz1 hz2 _ _ _ rfl hown s rfl ?c3 ?c4 ?c5 ?_)
 case c3=>unfold maxLen;omega
 case c4=>omega
 case c5=>rw[hs1];exact hBw
 intro v' w2 hown' hgrow hrow';have hlt:b<w1.heap.size:=by
  rcases eS b w1.heap.size with h'|h'
  . exact h'
  . simp[tg h'] at hbk
 have hb2:w2.heap[b]?=some (.cells #[.pointer (some ⟨b,0,none⟩),v] (V.t 72) (0,0)):=by
  rw[hgrow.block b hlt (fun e=>hne e.symm)];exact hbk
 have d0:w2.cell? ⟨b,0,none⟩=some (.pointer (some ⟨b,0,none⟩)):=by rw[zN hb2];rfl
 have d1:w2.cell? ⟨b,1,none⟩=some v:=by rw[zN hb2];rfl
 have f1:w2.frozen? ⟨b,1,none⟩=false:=Lib.frozen_of_heap hb2 1;obtain⟨ao,n',cap,rfl⟩:∃ao n' cap,v'=.slice ao n' cap:=by
  rcases hown'.2 with⟨hv,_⟩|⟨g,cap,cur,fz,hv,_⟩
  . exact⟨_,_,_,hv⟩
  . exact⟨_,_,_,hv⟩
 have hrw:∀R,v.ownBlock=some R->sL 1 w1 b R:=fun R hR=>by
  rcases hown.2 with⟨rfl,_⟩|⟨g,cap,cur,fz,rfl,_⟩
  . cases hR
  . cases hR;exact A3 hbk
 go_wp2
 go_ret2
 refine⟨rfl,Lib.BuilderAtF.put (T:=(V.t 72)) (e:=(V.t 5)) hB hb2 (bs':=bs++Lib.strCells s) (by simpa[Ev] using hown') X.neB5,?_⟩;have hb3:(w2.setCell ⟨b,1,none⟩ (.slice ao n' cap)).heap[b]?=some (.cells #[.pointer (some ⟨b,0,none⟩),.slice ao n' cap] (V.t 72) (0,0)):=by simp[World.setCell,zM,hb2]
 refine⟨?_,?_,?_,?_,fun k hk hkb hkr=>?_,fun R hR=>?_⟩
 . exact hgrow.os.trans hf1.os
 . exact hgrow.tape.trans hf1.tape
 . exact hgrow.output.trans hf1.output
 . have:=hgrow.size;simp[World.setCell];omega
 . refine(Below.heap_setCell _ _ _ _ hkb).trans ((hgrow.block k (by omega) (fun e=>?_)).trans (hf1.block k hk hkb hkr));exact hkr (((hf1.row k (hrw k e.symm))).resolve_right (by omega))
 . rcases hrow' R (Gf hb3 hR) with h2|h2
   . exact hf1.row R (hrw R h2)
   . exact .inr (by omega)
theorem Qd(L:Lays.n169 P V)(X:Builder.Extra P V)(B b:Nat)(l:List UInt8)(w:World)(h:Lib.IsBuilderF (V.t 72) (V.t 5) B b (Lib.byteCells l) w)(h0:l≠[]) :
 Calls P (V.f 169) #[.pointer (some ⟨b,0,none⟩)] w fun e w'=>e=.returned (.string ⟨l.toArray⟩)/\Lib.IsBuilderF (V.t 72) (V.t 5) B b (Lib.byteCells l) w'/\BldF 1 b w w':=by
 obtain⟨p,hp,hAt⟩:∃p,(p=.pointer none\/p=.pointer (some ⟨b,0,none⟩))/\Lib.BuilderAtF (V.t 72) (V.t 5) B b p (Lib.byteCells l) w:=by
  rcases h with h|h
  . exact⟨_,.inl rfl,h⟩
  . exact⟨_,.inr rfl,h⟩
 obtain⟨hB,v,hbk,hown,hne⟩:=hAt;have hl0:l.length≠0:=by simpa using h0
 rw[zO] at hown;obtain⟨g,cap,cur,fz,rfl,hbg,hg,hfz,hnc,hcm,hcs,htake⟩:∃g cap cur fz,v=.slice (some ⟨g,0,none⟩) l.length cap/\B<=g/\w.heap[g]?=some (.cells cur (V.t 5) fz)/\fz.2<=l.length*1/\l.length<=cap/\cap<=maxLen/\cur.size=cap*1/\cur.toList.take (l.length*1)=Lib.byteCells l:=by
  rcases hown.2 with⟨_,hz⟩|⟨g,cap,cur,fz,hv,r⟩
  . exact absurd hz hl0
  . exact⟨g,cap,cur,fz,hv,r⟩
 have c1:w.drew.cell? ⟨b,1,none⟩=some (.slice (some ⟨g,0,none⟩) l.length cap):=by
  have:w.drew.heap[b]?=some (.cells #[p,.slice (some ⟨g,0,none⟩) l.length cap] (V.t 72) (0,0)):=hbk;rw[zN this];rfl
 have hSD:(Builtin.unsafeSliceData_ #[(V.t 37)] (V.t 127) #[.slice (some ⟨g,0,none⟩) l.length cap]).run P w.drew=.ok (.pointer (some ⟨g,0,none⟩)) w.drew :=
  Lib.run_unsafeSliceData_row _ _ _ _ _ _ (by omega)
 have hUS:(Builtin.unsafeString_ #[(V.t 127),(V.t 3)] (V.t 9) #[.pointer (some ⟨g,0,none⟩),.int .i64 l.length]).run P w.drew=.ok (.string ⟨l.toArray⟩) (w.drew.freeze ⟨g,0,none⟩ l.length):=by
  refine Lib.run_unsafeString_row w.drew (V.t 127) (V.t 3) (V.t 9) (V.t 5) L.t127 X.cellsByte g cur.size (by have hg':w.drew.heap[g]?=some (.cells cur (V.t 5) fz):=hg;simp[World.shape?,hg']) l h0 (by omega) (by unfold maxLen at hcm;omega) ?_;intro j x hx;have:=hown.cells (g:=g) rfl j (.int .u8 x.toNat) (by simp[Lib.byteCells,hx]);exact this
 have hkeep:Lib.IsBuilderF (V.t 72) (V.t 5) B b (Lib.byteCells l) (w.drew.freeze ⟨g,0,none⟩ l.length):=by
  have hA:Lib.BuilderAtF (V.t 72) (V.t 5) B b p (Lib.byteCells l) w.drew:=⟨hB,_,hbk,by rw[zO];exact hown,hne⟩;have hF:=hA.froze (g:=g) (cap:=cap) (by rw[zO];exact c1);rw[zO] at hF;rcases hp with rfl|rfl
  . exact .inl hF
  . exact .inr hF
 have hgb:b≠g:=fun e=>hne (by simp[Value.ownBlock,e]);have hother:∀k,k≠g->(w.drew.freeze ⟨g,0,none⟩ l.length).heap[k]?=w.heap[k]?:=fun k hk=>by
  unfold World.freeze;rw[al hl0];simp only[zM];rw[al (fun e=>hk e.symm)];rfl
 have hframe:BldF 1 b w (w.drew.freeze ⟨g,0,none⟩ l.length):=by
  refine⟨?_,?_,?_,?_,fun k _ _ hkr=>hother k (fun e=>hkr (e▸A3 hbk)),fun R ⟨arr,n,cap,T,fr,e,e'⟩=>.inl ⟨arr,n,cap,T,fr,(hother b hgb).symm.trans e,e'⟩⟩
  . unfold World.freeze;rw[al hl0];rfl
  . unfold World.freeze;rw[al hl0];rfl
  . unfold World.freeze;rw[al hl0];rfl
  . unfold World.freeze;rw[al hl0];show w.heap.size<=(Array.modify w.heap g _).size;rw[Array.size_modify];exact ak _
 have mixed:=L.mixed;have t72:=L.t72;have a72:=L.a72;have z72:=L.z72;have v72:=L.v72;have u72:=cK L.t72;have t70:=L.t70;have a70:=L.a70;have z70:=L.z70;have v70:=L.v70;have u70:=cK L.t70;have t37:=L.t37;have a37:=L.a37;have z37:=L.z37;have v37:=L.v37;have u37:=cK L.t37;have t127:=L.t127;have a127:=L.a127;have z127:=L.z127;have v127:=L.v127;have u127:=cK L.t127;have t3:=L.t3;have a3:=L.a3;have z3:=L.z3;have v3:=L.v3;have u3:=cK L.t3;have t9:=L.t9;have a9:=L.a9;have z9:=L.z9;have v9:=L.v9;have u9:=cK L.t9;have t5:=X.t5;have a5:=X.a5;have z5:=X.z5;have v5:=X.v5;have u5:=cK X.t5
 go_enter L.f169,Body.n169_ntmps V
 go_wp2
 go_region_o
 all_goals (go_wp2;go_ret;exact⟨rfl,hkeep,hframe⟩)
end Go.Proofs.Fl
namespace Go.Proofs
open Go.Shelf
def Tryz.lays125_ren:Go.Shelf.Ren:=⟨fun|125=>132|128=>192|129=>193|n=>n,fun|46=>199|3=>3|51=>182|53=>190|4=>4|5=>5|9=>9|n=>n,fun|n=>n⟩
theorem Tryz.lays125:Go.Proofs.Lays.n125 Tryz.prog Tryz.lays125_ren:={
 mixed:=by kernel_rfl
 f125:=Tryz.func132.trans (congrArg some (by kernel_rfl))
 f128:=Tryz.func192.trans (congrArg some (by kernel_rfl))
 f129:=Tryz.func193.trans (congrArg some (by kernel_rfl))
 t3:=Tryz.underlying3
 a3:=Tryz.isAgg3
 z3:=Tryz.sizeOf3
 v3:=Tryz.zeroValue3
 t4:=Tryz.underlying4
 a4:=Tryz.isAgg4
 z4:=Tryz.sizeOf4
 v4:=Tryz.zeroValue4
 t5:=Tryz.underlying5
 a5:=Tryz.isAgg5
 z5:=Tryz.sizeOf5
 v5:=Tryz.zeroValue5
 t9:=Tryz.underlying9
 a9:=Tryz.isAgg9
 z9:=Tryz.sizeOf9
 v9:=Tryz.zeroValue9
 t46:=Tryz.underlying199
 a46:=Tryz.isAgg199
 z46:=Tryz.sizeOf199
 v46:=Tryz.zeroValue199
 t51:=Tryz.underlying182
 a51:=Tryz.isAgg182
 z51:=Tryz.sizeOf182
 v51:=Tryz.zeroValue182
 t53:=Tryz.underlying190
 a53:=Tryz.isAgg190
 z53:=Tryz.sizeOf190
 v53:=Tryz.zeroValue190 }
theorem Tryz.bits_Len(x:Int)(w:World)(h0:0<=x)(h1:x<=18446744073709551615) :
 Calls Tryz.prog 132 #[.int .u64 x] w fun e w'=>e=.returned (.int .i64 (Lib.bitLen x.toNat))/\w'=w:=Any.bits_Len Tryz.lays125 x w h0 h1
def Tryz.laysM246_ren:Go.Shelf.Ren:=⟨fun|246=>217|283=>248|284=>249|285=>250|286=>251|129=>193|317=>260|318=>261|319=>262|320=>263|337=>266|338=>267|n=>n,fun|2=>2|3=>3|9=>9|4=>4|171=>300|0=>0|53=>190|37=>176|5=>5|173=>302|212=>314|51=>182|20=>20|213=>315|46=>199|232=>318|233=>319|n=>n,fun|17=>0|18=>2|19=>3|n=>n⟩
def Tryz.laysM243_ren:Go.Shelf.Ren:=⟨fun|243=>177|246=>217|283=>248|284=>249|285=>250|286=>251|129=>193|317=>260|318=>261|319=>262|320=>263|337=>266|338=>267|n=>n,fun|3=>3|9=>9|2=>2|4=>4|171=>300|0=>0|53=>190|37=>176|5=>5|173=>302|212=>314|51=>182|20=>20|213=>315|46=>199|232=>318|233=>319|n=>n,fun|17=>0|18=>2|19=>3|n=>n⟩
def Tryz.laysM171_ren:Go.Shelf.Ren:=⟨fun|171=>120|243=>177|246=>217|283=>248|284=>249|285=>250|286=>251|129=>193|317=>260|318=>261|319=>262|320=>263|337=>266|338=>267|n=>n,fun|3=>3|9=>9|2=>2|4=>4|171=>300|0=>0|53=>190|37=>176|5=>5|173=>302|212=>314|51=>182|20=>20|213=>315|46=>199|232=>318|233=>319|n=>n,fun|17=>0|18=>2|19=>3|n=>n⟩
theorem Tryz.laysM171:Go.Proofs.LaysM.n171 Tryz.prog Tryz.laysM171_ren:={
 mixed:=by kernel_rfl
 f129:=Tryz.func193.trans (congrArg some (by kernel_rfl))
 f171:=Tryz.func120.trans (congrArg some (by kernel_rfl))
 f243:=Tryz.func177.trans (congrArg some (by kernel_rfl))
 f246:=Tryz.func217.trans (congrArg some (by kernel_rfl))
 f283:=Tryz.func248.trans (congrArg some (by kernel_rfl))
 f284:=Tryz.func249.trans (congrArg some (by kernel_rfl))
 f285:=Tryz.func250.trans (congrArg some (by kernel_rfl))
 f286:=Tryz.func251.trans (congrArg some (by kernel_rfl))
 f317:=Tryz.func260.trans (congrArg some (by kernel_rfl))
 f318:=Tryz.func261.trans (congrArg some (by kernel_rfl))
 f319:=Tryz.func262.trans (congrArg some (by kernel_rfl))
 f320:=Tryz.func263.trans (congrArg some (by kernel_rfl))
 f337:=Tryz.func266.trans (congrArg some (by kernel_rfl))
 f338:=Tryz.func267.trans (congrArg some (by kernel_rfl))
 t0:=Tryz.underlying0
 a0:=Tryz.isAgg0
 z0:=Tryz.sizeOf0
 v0:=Tryz.zeroValue0
 t2:=Tryz.underlying2
 a2:=Tryz.isAgg2
 z2:=Tryz.sizeOf2
 v2:=Tryz.zeroValue2
 t3:=Tryz.underlying3
 a3:=Tryz.isAgg3
 z3:=Tryz.sizeOf3
 v3:=Tryz.zeroValue3
 t4:=Tryz.underlying4
 a4:=Tryz.isAgg4
 z4:=Tryz.sizeOf4
 v4:=Tryz.zeroValue4
 t5:=Tryz.underlying5
 a5:=Tryz.isAgg5
 z5:=Tryz.sizeOf5
 v5:=Tryz.zeroValue5
 t9:=Tryz.underlying9
 a9:=Tryz.isAgg9
 z9:=Tryz.sizeOf9
 v9:=Tryz.zeroValue9
 t20:=Tryz.underlying20
 a20:=Tryz.isAgg20
 z20:=Tryz.sizeOf20
 v20:=Tryz.zeroValue20
 t37:=Tryz.underlying176
 a37:=Tryz.isAgg176
 z37:=Tryz.sizeOf176
 v37:=Tryz.zeroValue176
 t46:=Tryz.underlying199
 a46:=Tryz.isAgg199
 z46:=Tryz.sizeOf199
 v46:=Tryz.zeroValue199
 t51:=Tryz.underlying182
 a51:=Tryz.isAgg182
 z51:=Tryz.sizeOf182
 v51:=Tryz.zeroValue182
 t53:=Tryz.underlying190
 a53:=Tryz.isAgg190
 z53:=Tryz.sizeOf190
 v53:=Tryz.zeroValue190
 t171:=Tryz.underlying300
 a171:=Tryz.isAgg300
 z171:=Tryz.sizeOf300
 v171:=Tryz.zeroValue300
 t173:=Tryz.underlying302
 a173:=Tryz.isAgg302
 z173:=Tryz.sizeOf302
 v173:=Tryz.zeroValue302
 t212:=Tryz.underlying314
 a212:=Tryz.isAgg314
 z212:=Tryz.sizeOf314
 v212:=Tryz.zeroValue314
 t213:=Tryz.underlying315
 a213:=Tryz.isAgg315
 z213:=Tryz.sizeOf315
 t232:=Tryz.underlying318
 a232:=Tryz.isAgg318
 z232:=Tryz.sizeOf318
 v232:=Tryz.zeroValue318
 t233:=Tryz.underlying319
 a233:=Tryz.isAgg319
 z233:=Tryz.sizeOf319
 v233:=Tryz.zeroValue319
 g17:=by kernel_rfl
 g18:=by kernel_rfl
 g19:=by kernel_rfl
 i0:=by kernel_rfl
 i2:=by kernel_rfl
 i3:=by kernel_rfl
 i4:=by kernel_rfl
 i5:=by kernel_rfl
 i9:=by kernel_rfl
 i20:=by kernel_rfl
 i37:=by kernel_rfl
 i46:=by kernel_rfl
 i51:=by kernel_rfl
 i53:=by kernel_rfl
 i171:=by kernel_rfl
 i173:=by kernel_rfl
 i212:=by kernel_rfl
 i232:=by kernel_rfl
 i233:=by kernel_rfl
 m17:=by kernel_rfl
 m18:=by kernel_rfl
 m19:=by kernel_rfl }
open Go.RowKit Go.Sort Go.Lib in
theorem Tryz.strconv_Itoa(n:Int)(h0 : -9223372036854775808<=n)(h1:n<=9223372036854775807)(w:World)(htab:Lib.TabIs Tryz.prog w "internal/strconv.uint64pow10" .u64 Lib.pow10Tab) :
 Calls Tryz.prog 120 #[.int .i64 n] w fun e w'=>e=.returned (.string ⟨(Lib.itoa n).toArray⟩)/\∃k os,w'=grow (w.drewN k) os:=Any.strconv_Itoa Tryz.laysM171 n h0 h1 w htab
def Tryz.lays105_ren:Go.Shelf.Ren:=⟨fun|105=>122|212=>179|99=>180|165=>181|166=>121|170=>182|169=>123|263=>219|264=>220|206=>221|240=>178|241=>222|276=>218|277=>252|n=>n,fun|9=>9|3=>3|4=>4|20=>20|0=>0|46=>199|109=>241|5=>5|72=>178|76=>186|51=>182|146=>277|53=>190|148=>279|70=>175|37=>176|75=>185|127=>245|164=>275|80=>87|n=>n,fun|n=>n⟩
theorem Tryz.lays105:Go.Proofs.Lays.n105 Tryz.prog Tryz.lays105_ren:={
 mixed:=by kernel_rfl
 f99:=Tryz.func180.trans (congrArg some (by kernel_rfl))
 f105:=Tryz.func122.trans (congrArg some (by kernel_rfl))
 f165:=Tryz.func181.trans (congrArg some (by kernel_rfl))
 f166:=Tryz.func121.trans (congrArg some (by kernel_rfl))
 f169:=Tryz.func123.trans (congrArg some (by kernel_rfl))
 f170:=Tryz.func182.trans (congrArg some (by kernel_rfl))
 f206:=Tryz.func221.trans (congrArg some (by kernel_rfl))
 f212:=Tryz.func179.trans (congrArg some (by kernel_rfl))
 f240:=Tryz.func178.trans (congrArg some (by kernel_rfl))
 f241:=Tryz.func222.trans (congrArg some (by kernel_rfl))
 f263:=Tryz.func219.trans (congrArg some (by kernel_rfl))
 f264:=Tryz.func220.trans (congrArg some (by kernel_rfl))
 f276:=Tryz.func218.trans (congrArg some (by kernel_rfl))
 f277:=Tryz.func252.trans (congrArg some (by kernel_rfl))
 t0:=Tryz.underlying0
 a0:=Tryz.isAgg0
 z0:=Tryz.sizeOf0
 v0:=Tryz.zeroValue0
 t3:=Tryz.underlying3
 a3:=Tryz.isAgg3
 z3:=Tryz.sizeOf3
 v3:=Tryz.zeroValue3
 t4:=Tryz.underlying4
 a4:=Tryz.isAgg4
 z4:=Tryz.sizeOf4
 v4:=Tryz.zeroValue4
 t5:=Tryz.underlying5
 a5:=Tryz.isAgg5
 z5:=Tryz.sizeOf5
 v5:=Tryz.zeroValue5
 t9:=Tryz.underlying9
 a9:=Tryz.isAgg9
 z9:=Tryz.sizeOf9
 v9:=Tryz.zeroValue9
 t20:=Tryz.underlying20
 a20:=Tryz.isAgg20
 z20:=Tryz.sizeOf20
 v20:=Tryz.zeroValue20
 t37:=Tryz.underlying176
 a37:=Tryz.isAgg176
 z37:=Tryz.sizeOf176
 v37:=Tryz.zeroValue176
 t46:=Tryz.underlying199
 a46:=Tryz.isAgg199
 z46:=Tryz.sizeOf199
 v46:=Tryz.zeroValue199
 t51:=Tryz.underlying182
 a51:=Tryz.isAgg182
 z51:=Tryz.sizeOf182
 v51:=Tryz.zeroValue182
 t53:=Tryz.underlying190
 a53:=Tryz.isAgg190
 z53:=Tryz.sizeOf190
 v53:=Tryz.zeroValue190
 t70:=Tryz.underlying175
 a70:=Tryz.isAgg175
 z70:=Tryz.sizeOf175
 v70:=Tryz.zeroValue175
 t72:=Tryz.underlying178
 a72:=Tryz.isAgg178
 z72:=Tryz.sizeOf178
 v72:=Tryz.zeroValue178
 t75:=Tryz.underlying185
 a75:=Tryz.isAgg185
 z75:=Tryz.sizeOf185
 v75:=Tryz.zeroValue185
 t76:=Tryz.underlying186
 a76:=Tryz.isAgg186
 z76:=Tryz.sizeOf186
 v76:=Tryz.zeroValue186
 t109:=Tryz.underlying241
 a109:=Tryz.isAgg241
 z109:=Tryz.sizeOf241
 v109:=Tryz.zeroValue241
 t127:=Tryz.underlying245
 a127:=Tryz.isAgg245
 z127:=Tryz.sizeOf245
 v127:=Tryz.zeroValue245
 t146:=Tryz.underlying277
 a146:=Tryz.isAgg277
 z146:=Tryz.sizeOf277
 v146:=Tryz.zeroValue277
 t148:=Tryz.underlying279
 a148:=Tryz.isAgg279
 z148:=Tryz.sizeOf279
 v148:=Tryz.zeroValue279
 t164:=Tryz.underlying275
 a164:=Tryz.isAgg275
 z164:=Tryz.sizeOf275
 v164:=Tryz.zeroValue275 }
theorem Tryz.Builder_Extra_105:Builder.Extra Tryz.prog Tryz.lays105_ren:={
 sizeBuilder:=by kernel_rfl
 liesBuilder:=by kernel_rfl
 t5:=Tryz.underlying5
 a5:=Tryz.isAgg5
 z5:=Tryz.sizeOf5
 v5:=Tryz.zeroValue5
 infoByte:=by kernel_rfl
 cellsByte:=by kernel_rfl
 sizeByte:=by kernel_rfl
 neB5:=by decide }
open Go.RowKit Go.Lib in
theorem Tryz.strings_Repeat(s:ByteArray)(c:Nat)(w:World)(hc:c<=9223372036854775807)(hlen:s.size*c<=140737488355328) :
 Calls Tryz.prog 122 #[.string s,.int .i64 c] w fun e w'=>e=.returned (.string ⟨(Lib.repeatL s.data.toList c).toArray⟩)/\Below w.heap.size w w':=Any.strings_Repeat Tryz.lays105 Tryz.Builder_Extra_105 s c w hc hlen
end Go.Proofs
namespace Go.Proofs.Fl
open Go.RowKit Go.Shelf
theorem VRL.one{H:ah}{args:List Value}{x:IV}(h:VRL H args [x]):∃v,args=[v]/\VR H v x:=by
 cases h with|cons v _ vs _ h t=>cases t;exact⟨v,rfl,h⟩
theorem VRL.two{H:ah}{args:List Value}{x y:IV}(h:VRL H args [x,y]):∃u v,args=[u,v]/\VR H u x/\VR H v y:=by
 cases h with|cons u _ us _ h t=>obtain⟨v,rfl,hv⟩:=t.one;exact⟨u,v,rfl,h,hv⟩
theorem BD(s:ByteArray):s.size=s.data.toList.length:=Lib.size_eq s
theorem wJ{J:Keep}{f:FuncId}{xs:List IV}{r:IV}(hf:∃fn,Tryz.prog.funcs[f]?=some fn/\(fn.name == "runtime.NumGoroutine")=false/\fn.body.isNone=false)
 (h:∀(H:ah) (w:World) (args:List Value),J.I w->VRL H args xs->Calls Tryz.prog f args.toArray w fun e w'=>∃v,e=.returned v/\(∀H,VR H v r)/\Below w.heap.size w w'):C J f xs r:=by
 refine⟨hf,fun H w args hI hH hargs=>(h H w args hI hargs).mono ?_⟩;rintro e w' ⟨v,rfl,hv,hb⟩;refine⟨v,H,rfl,fun b arr hb'=>?_,HExt.refl _ _,hv H,hb⟩;obtain⟨t,fr,ht⟩:=hH b arr hb';exact⟨t,fr,(hb.block b (hH.lt hb')).trans ht⟩
theorem OP(w:World)(k:Nat)(os:Array Obj):Below w.heap.size w (Go.Sort.grow (w.drewN k) os):=by
 refine⟨rfl,rfl,rfl,?_,fun j hj=>?_⟩
 . simp[Go.Sort.grow,World.drewN]
 . simp[Go.Sort.grow,World.drewN,jd,hj]
theorem TB(J:Keep){s:List UInt8}{c:Nat}(hc:s.length*c<=140737488355328)(hc2:c<=9223372036854775807):C J 122 [.str s,.int .i64 (c:Nat)] (.str (Lib.repeatL s c)):=by
 refine wJ ⟨_,Tryz.func122,rfl,rfl⟩ fun H w args hI hargs=>?_;obtain⟨u,v,rfl,hu,hv⟩:=hargs.two;obtain⟨s,rfl,rfl⟩:=jj hu;rw[VR.asInt hv];refine(Tryz.strings_Repeat s c w hc2 (by rw[BD];exact hc)).mono ?_;rintro e w' ⟨rfl,hb⟩;exact⟨_,rfl,fun H=>.str _ _ (by simp),hb⟩
structure LibI(J:Keep):Prop where
 pow10:∀w,J.I w->Lib.TabIs Tryz.prog w "internal/strconv.uint64pow10" .u64 Lib.pow10Tab
theorem Tn{J:Keep}(L:LibI J){n:Int}(h0 : -9223372036854775808<=n)(h1:n<=9223372036854775807):C J 120 [.int .i64 n] (.str (Lib.itoa n)):=by
 refine wJ ⟨_,Tryz.func120,rfl,rfl⟩ fun H w args hI hargs=>?_;obtain⟨u,rfl,hu⟩:=hargs.one;rw[VR.asInt hu];refine(Tryz.strconv_Itoa n h0 h1 w (L.pow10 w hI)).mono ?_;rintro e w' ⟨rfl,k,os,rfl⟩;exact⟨_,rfl,fun H=>.str _ _ (by simp),OP _ _ _⟩
theorem Nb(a b:List UInt8):Lib.byteCells (a++b)=Lib.byteCells a++Lib.byteCells b:=by simp[Lib.byteCells]
theorem NT(s:ByteArray):Lib.strCells s=Lib.byteCells s.data.toList:=by
 simp[Lib.strCells,Lib.byteCells]
theorem CV{s t:List UInt8}(hl:s.length+t.length<=140737488355328):uZ Tryz.prog 121 s [.str t] (s++t) (.tup [.int .i64 (t.length:Nat),.nil 0]):=by
 refine⟨⟨_,Tryz.func121,rfl,rfl⟩,fun H w b args hargs hb=>?_⟩;obtain⟨u,rfl,hu⟩:=hargs.one;obtain⟨t,rfl,rfl⟩:=jj hu;refine(Ns { Tryz.lays105 with } Tryz.Builder_Extra_105 0 b (Lib.byteCells s) t w hb (by rw[zO,BD];exact hl) (bb _)).mono ?_;rintro e w' ⟨rfl,h1,h2⟩;refine⟨_,rfl,fun H=>.tup [_,_] _ (.cons _ _ _ _ ?_ (.cons _ _ _ _ .nilI .nil)),.inr ?_,h2⟩
 . rw[BD];exact .int _ _
 . rw[Nb,<-NT];exact h1
theorem Vg{s:List UInt8}(hs:s≠[]):uZ Tryz.prog 123 s [] s (.str s):=by
 refine⟨⟨_,Tryz.func123,rfl,rfl⟩,fun H w b args hargs hb=>?_⟩;cases hargs;refine(Qd { Tryz.lays105 with } Tryz.Builder_Extra_105 0 b s w hb hs).mono ?_;rintro e w' ⟨rfl,h1,h2⟩;exact⟨_,rfl,fun H=>.str _ _ (by simp),h1,h2⟩
section
variable {J:Keep}{nt:Nat}{Y:AS}{K:Exit->AS->Prop}
theorem W.build(n:Nat){id:Nat}{all:Array Oper}{o:Oper}{fo p:Operand}{args:List Operand}{ats:Array TypeId}(ho:all.toList[n]?=some o)(hd:cn nt all.toList=true)(hg:o.guard=none)(hop:o.op=.call { callee:=.value fo,args:=(p::args).toArray,argTypes:=ats })
 (h:fx TT (cx J).C all (all.toList.take n) Y.nx Y.tm Y.bx [] fun tm bx _=>match evS tm fo,evS tm p,fM bx (evS tm) args with
   | .iv (.fn f),.ptr g 0,some (xs,[])=>∃s s' r,bx g=some (.bld (.str s))/\(∀g' s',bx g'=some (.bld s')->g'=g)/\uZ Tryz.prog f s xs s' r/\
    fx TT (cx J).C all (all.toList.drop (n+1)) (Y.nx+n+1) (dX tm o.dst (.iv r)) (aD bx g (some (.bld (.str s')))) [] fun tm bx _=>K .normal ⟨tm,bx,Y.nx+all.size⟩
   |_,_,_=>False):W J nt (.region id all false) Y K:=by
 unfold W;exact CW.build (X:=cx J) n ho hd hg hop h
theorem W.newBld{id:Nat}{o:Oper}{d:Nat}(hd:Nat.blt d nt=true)(hdst:o.dst=some d)(hg:o.guard=none)(hop:o.op=.alloc jz)
 (hb:Y.bx Y.nx=none) (h:K .normal ⟨aD Y.tm d (.ptr Y.nx 0),aD Y.bx Y.nx (some (.bld (.str []))),Y.nx+1⟩):W J nt (.region id #[o] false) Y K:=by
 unfold W;exact CW.newBld (X:=cx J) ((by simpa[cR] using hd)) hdst hg hop (i:=(Tryz.prog.info? jz).getD default) (by kernel_rfl) (by kernel_rfl) hb h
end
end Go.Proofs.Fl
namespace Go.Proofs.Fl
open Go.RowKit Go.Proofs.Dig
attribute [local irreducible] IntKind.wrap aY be bm bt
theorem BQ:∀(w n:Nat),0<w->n<10^w->bS w n=List.replicate (w-(a6 n).length) 48++a6 n/\(a6 n).length<=w
 |0,_,h,_=>absurd h (by omega)
 |1,n,_,h=>by
  have hn:n<10:=by simpa using h
  rw[jH hn];refine⟨?_,by simp⟩;show bS 0 (n/10) ++ [dK (n%10)]=_;rw[fF hn];rfl
 |w+2,n,_,h=>by
  show bS (w+1) (n/10) ++ [dK (n%10)]=_/\_;by_cases hn:n<10
  . rw[jH hn,fF hn,lc hn,AA];exact⟨by simp,Nat.succ_le_succ (bb _)⟩
  . have hq:n/10<10^(w+1):=by
     rw[bQ] at h;exact Nat.div_lt_of_lt_mul (by omega)
    obtain⟨h1,h2⟩:=BQ (w+1) (n/10) (by omega) hq;rw[pz (by omega),h1];refine⟨?_,by simp;omega⟩;rw[ce,nG,dj,show w+2-((a6 (n/10)).length+1)=w+1-(a6 (n/10)).length by omega]
theorem Bl{n w:Nat}(hw:0<w)(h:n<10^w):(a6 n).length<=w:=(BQ w n hw h).2
theorem QO(n:Nat):Lib.itoa ((n:Nat):Int)=a6 n:=by
 unfold Lib.itoa;rw[al (by omega),mw];induction n using Nat.strongRecOn with
 |_ n ih=>
  rw[Lib.decDigits];split
  . rename_i h;rw[jH h];rfl
  . rename_i h;rw[pz (by omega),ih (n/10) (by omega)];rfl
theorem Ff:∀c,Lib.repeatL [48] c=List.replicate c 48
 |0=>rfl
 |c+1=>by rw[qN,<-Ff c];rfl
def KR:Bx->Bool
 | .bld _=>true
 |_=>false
theorem CD{m:List (Nat×Bx)}{g:Nat}(h:m.all (fun p=>Nat.beq p.1 g || !KR p.2)=true):∀g' s',cP m g'=some (.bld s')->g'=g:=by
 intro g' s' hg;induction m with
 |nil=>cases hg
 |cons p m ih=>
  simp only[ed,aC] at h;simp only[cP] at hg;cases hb:Nat.beq g' p.1 with
  |false=>rw[hb] at hg;exact ih h.2 hg
  |true=>
   rw[hb] at hg;simp only[ai,ae] at hg;rw[hg] at h;simp only[KR,Bool.not_true,D7] at h;rw[aw hb,aw h.1]
theorem Ss{bx:Nat->Option Bx}{g:Nat}{b:Option Bx}(h:∀g' s',bx g'=some (.bld s')->g'=g):∀g' s',aD bx g b g'=some (.bld s')->g'=g:=by
 intro g' s' hg;by_cases e:g'=g
 . exact e
 . rw[aG _ _ _ e] at hg;exact h g' s' hg
theorem LibI.any{J:Keep}(L:LibI J):LibI J.any:=⟨L.pow10⟩
def gT(ds:List Nat)(k:Nat):List UInt8:=if k=0 then [] else a6 (g7 ds k)
theorem Qr{ds:List Nat}(hd:Dg B9 ds){k:Nat}(hk:k<=ds.length):(gT ds k).length<=9*k:=by
 unfold gT;split
 . simp
 . refine Bl (by omega) ?_;have:=eJ (hd.drop (ds.length-k));rw[k8,show ds.length-(ds.length-k)=k by omega] at this;have e:B9^k=10^(9*k):=by rw[zC]
   rw[<-e];exact this
theorem Qq{ds:List Nat}(hk:0<ds.length):gT ds (0+1)=a6 (ds.getD (ds.length-1-0) 0):=by
 unfold gT;rw[al (by omega),Bg hk,HA,mA,aX]
theorem Pj{ds:List Nat}(hd:Ok B9 ds){k:Nat}(h0:0<k)(hk:k<ds.length):gT ds (k+1)=gT ds k++bS 9 (ds.getD (ds.length-1-k) 0):=by
 unfold gT;rw[al (by omega),al (by omega),Bg hk];have h1:0<g7 ds k:=by
  unfold g7;refine J8 (by decide) (hd.nm.drop _) (fun e=>?_);have:=congrArg List.length e;simp at this;omega
 exact OI 9 h1 (hd.dg.getD (by decide) _)
theorem TC{J:Keep}(L:LibI J){ds:List Nat}(hd:Ok B9 ds)(hl:ds.length<2^43):C J 56 [bF ds] (.str (a6 (nv B9 ds))):=by
 refine aI (J:=J.top) Tryz.func56 rfl rfl rfl ?_;have lm:(ds.map u32).length=ds.length:=by simp
 by_cases h0:ds=[]
 . subst h0;repeat (((first|refine W.R (by kernel_rfl) ?_|refine W.c rfl ?_|refine⟨_,rP J [],?_⟩);conv=>whnf))
   show IV.str [48]=IV.str (a6 0);rw[jH (by decide)];rfl
 . have hp:0<ds.length:=List.length_pos_iff.2 h0;have c0:=rP J (ds.map u32);rw[show(((ds.map u32).length:Int)==0)=false by rw[lm];exact beq_eq_false_iff_ne.2 (by omega)] at c0;repeat (first|(refine W.S ?_;refine W.newBld rfl rfl rfl rfl rfl ?_;conv=>whnf)|((first|refine W.R (by kernel_rfl) ?_|refine W.c rfl ?_|refine⟨_,c0,?_⟩|refine⟨176,[.sl (ds.map u32)],Jh J _,rfl,?_⟩);conv=>whnf))
   refine W.weak (Y':=am [(1,.ptr aJ 0),(3,.ptr (aJ+1) 0),(11,.clo 176 [7])] [(aJ,.var (bF ds)),(aJ+1,.bld (.str [])),(7,.var (.sl (ds.map u32)))] 50) (Wk.tab [(aJ,0),(aJ+1,4)] ⟨aa,aa,aa,ab⟩ ⟨rfl,rfl,rfl,ab⟩ rfl) ?_;refine W.range (Je J (show ds.length<2^60 by omega)) [aJ,aJ+1] [(1,.ptr aJ 0),(3,.ptr (aJ+1) 0)] (fun k=>[(aJ,.var (bF ds)),(aJ+1,.bld (.str (gT ds k)))]) 60 rfl ⟨rfl,ab⟩ (by simp) rfl Ia (fun _=>rfl) (fun _=>by intro p hp;simp at hp;rcases hp with rfl|rfl<;>rfl) rfl ⟨rfl,rfl,ab⟩ rfl ⟨rfl,rfl,ab⟩ rfl rfl (fun k hk=>?_) ?_
   . rw[JD hk];rw[rF] at hk;show W J.any _ _ ⟨lZ (mh [(1,.ptr aJ 0),(3,.ptr (aJ+1) 0)]) [12,13] [.int .i64 ((ds.length-1-k:Nat):Int),u32 (ds.getD (ds.length-1-k) 0)],cP [(aJ,.var (bF ds)),(aJ+1,.bld (.str (gT ds k)))],60⟩ _;have hlen:=Qr hd.dg (k:=k) (by omega);have h3:=hd.dg.getD (by decide) (ds.length-1-k);have hpad:=BQ 9 (ds.getD (ds.length-1-k) 0) (by decide) h3;have hone:=Qq hp;have hsucc:=fun h0=>Pj hd (k:=k) h0 hk;obtain⟨x,hx⟩:∃x,ds.getD (ds.length-1-k) 0=x:=⟨_,rfl⟩;rw[hx] at h3 hpad hsucc ⊢;have h3:x<1000000000:=h3;have c1:=Tn (J:=J.any) L.any (n:=((x:Nat):Int)) (by omega) (by omega);rw[QO] at c1;have hdl:=hpad.2;have c2:=TB J (s:=[48]) (c:=9-(a6 x).length) (by simp;omega) (by omega);rw[Ff,show((9-(a6 x).length:Nat):Int)=9-((a6 x).length:Int) by omega] at c2;by_cases hk0:0<k
     . have he:=hsucc hk0;rw[hpad.1,<-dj] at he;have w1:=CV (s:=gT ds k) (t:=List.replicate (9-(a6 x).length) 48) (by simp;omega);have w2:=CV (s:=gT ds k++List.replicate (9-(a6 x).length) 48) (t:=a6 x) (by simp;omega);rw[<-he] at w2;have o1:=CD (m:=[(aJ,.var (bF ds)),(aJ+1,.bld (.str (gT ds k)))]) (g:=aJ+1) rfl;repeat (((first|refine W.build 4 rfl rfl rfl rfl ?_|refine W.build 1 rfl rfl rfl rfl ?_|refine W.R (by kernel_rfl) ?_|refine W.c rfl ?_|refine⟨_,c1,?_⟩|refine⟨_,c2,?_⟩|refine⟨_,_,_,rfl,o1,w1,?_⟩|refine ap (by omega) ?_|refine⟨_,b7 (by omega),?_⟩|refine xT (by omega) ?_|refine⟨_,rfl,?_⟩|refine xr ?_);conv=>whnf))
       repeat (((first|refine⟨_,_,_,rfl,Ss o1,w2,?_⟩|refine xr ?_);conv=>whnf))
       exact trivial
     . have e0:k=0:=by omega
       subst e0;rw[hx] at hone;have hpe:gT ds 0=[]:=rfl;have w2:uZ Tryz.prog 121 [] [.str (a6 x)] (gT ds (0+1)) (.tup [.int .i64 ((a6 x).length:Nat),.nil 0]):=by
        rw[hone];exact CV (s:=[]) (t:=a6 x) (by simp;omega)
       have o1:=CD (m:=[(aJ,.var (bF ds)),(aJ+1,.bld (.str []))]) (g:=aJ+1) rfl;rw[hpe];repeat (((first|refine W.build 1 rfl rfl rfl rfl ?_|refine W.R (by kernel_rfl) ?_|refine W.c rfl ?_|refine⟨_,c1,?_⟩|refine⟨_,_,_,rfl,o1,w2,?_⟩|refine ap (by omega) ?_|refine⟨_,b7 (by omega),?_⟩|refine xF (by omega) ?_|refine⟨_,rfl,?_⟩|refine xr ?_);conv=>whnf))
       exact trivial
   . rw[rF];have hall:gT ds ds.length=a6 (nv B9 ds):=by
      unfold gT;rw[al (by omega),Jb]
     rw[hall];have o1:=CD (m:=[(aJ,.var (bF ds)),(aJ+1,.bld (.str (a6 (nv B9 ds))))]) (g:=aJ+1) rfl;have w3:=Vg (Cd (nv B9 ds));repeat (first|(refine W.S ?_;refine W.build 0 rfl rfl rfl rfl ?_;conv=>whnf)|((first|refine W.ret ?_|refine⟨_,_,_,rfl,o1,w3,?_⟩);conv=>whnf))
     rfl
theorem Jm{J:Keep}(L:LibI J){n:Nat}(h:ln n<2^43):C J 56 [aK n] (.str (a6 n)):=by
 have:=TC L (ct n) h;rwa[dq] at this
def kL(q:Rat):List UInt8:=if q.den=1 then eV q.num else eV q.num ++ [47]++a6 q.den
theorem Jt(n:Nat):(a6 n).length<=9*ln n+1:=by
 refine Bl (by omega) ?_;have h:=mW n;have e:B9^ln n=10^(9*ln n):=by rw[zC]
 have:=cB (n:=10) (by decide) (tu (9*ln n));show n<10^(9*ln n+1);omega
theorem Ju(n:Nat):(a6 n).length<=5*lh n+1:=by
 refine Bl (by omega) ?_;have h:=gQ n;have e:aq^lh n<=10^(5*lh n):=by rw[zC];exact zD (by decide) _
 have:=cB (n:=10) (by decide) (tu (5*lh n));show n<10^(5*lh n+1);omega
theorem OV(n:Nat):eV (n:Int)=a6 n:=by
 unfold eV;rw[al (by omega),ef];rfl
theorem OW(z:Int):(eV z).length<=(a6 z.natAbs).length+1:=by
 unfold eV;split<;>simp<;>omega
theorem Kn{J:Keep}(L:LibI J){q:Rat}(h:az q<2^40):C J 27 [qr q] (.str (kL q)):=by
 refine aI Tryz.func27 rfl rfl rfl ?_;have hq:=h;unfold az at hq;have c1:=Jm L (n:=q.num.natAbs) (by omega);have c2:=Jm L (n:=q.den) (by omega);have c3:=lV J (q:=q) (by omega);have l1:=Jt q.num.natAbs;have l2:=Jt q.den;have c4:=rP J ((dg (q.den-1)).map u32);have hz:(((dg (q.den-1)).map u32).length=0)↔q.den=1:=by
  have:=dP q;rw[cT];have h2:=@OH (q.den-1);rw[<-List.length_eq_zero_iff] at h2;omega
 unfold kL;by_cases hn:q.num<0
 . have e1:eV q.num=[45]++a6 q.num.natAbs:=by unfold eV;rw[ar hn]
   show W J _ _ ⟨argS [.agg [.sl ((dg q.num.natAbs).map u32),.bool (decide (q.num<0)),.sl ((dg (q.den-1)).map u32)]],fun _=>none,0⟩ _;rw[bu hn];unfold qr qd at c3;rw[bu hn] at c3;by_cases hd:q.den=1
   . rw[show(((dg (q.den-1)).map u32).length:Int)==0 by rw[vK];have:=hz.2 hd;omega] at c4;rw[ar hd,e1];repeat (first|((first|refine W.R (by kernel_rfl) ?_|refine W.c rfl ?_|refine⟨_,c1,?_⟩|refine⟨_,c4,?_⟩);conv=>whnf)|(refine⟨by simp;omega,?_⟩;conv=>whnf)|(refine⟨_,rfl,?_⟩;conv=>whnf))
     rfl
   . rw[show((((dg (q.den-1)).map u32).length:Int)==0)=false by rw[vP];intro e;exact hd (hz.1 (by omega))] at c4;rw[al hd,e1];repeat (first|((first|refine W.R (by kernel_rfl) ?_|refine W.c rfl ?_|refine⟨_,c1,?_⟩|refine⟨_,c2,?_⟩|refine⟨_,c3,?_⟩|refine⟨_,c4,?_⟩);conv=>whnf)|(refine⟨by simp;omega,?_⟩;conv=>whnf)|(refine⟨_,rfl,?_⟩;conv=>whnf))
     simp[gP]
 . have e1:eV q.num=a6 q.num.natAbs:=by unfold eV;rw[al hn];rfl
   show W J _ _ ⟨argS [.agg [.sl ((dg q.num.natAbs).map u32),.bool (decide (q.num<0)),.sl ((dg (q.den-1)).map u32)]],fun _=>none,0⟩ _;rw[bz hn];unfold qr qd at c3;rw[bz hn] at c3;by_cases hd:q.den=1
   . rw[show(((dg (q.den-1)).map u32).length:Int)==0 by rw[vK];have:=hz.2 hd;omega] at c4;rw[ar hd,e1];repeat (((first|refine W.R (by kernel_rfl) ?_|refine W.c rfl ?_|refine⟨_,c1,?_⟩|refine⟨_,c4,?_⟩|refine⟨_,rfl,?_⟩);conv=>whnf))
     rfl
   . rw[show((((dg (q.den-1)).map u32).length:Int)==0)=false by rw[vP];intro e;exact hd (hz.1 (by omega))] at c4;rw[al hd,e1];repeat (first|((first|refine W.R (by kernel_rfl) ?_|refine W.c rfl ?_|refine⟨_,c1,?_⟩|refine⟨_,c2,?_⟩|refine⟨_,c3,?_⟩|refine⟨_,c4,?_⟩);conv=>whnf)|(refine⟨by simp;omega,?_⟩;conv=>whnf)|(refine⟨_,rfl,?_⟩;conv=>whnf))
     simp[gP]
theorem TH(J:Keep){a:Rat}{d1 d2:IV}(hd:DOk a d1 d2)(h:rl a<2^36):C J 36 [g4 a d1 d2] (.str (kL a)):=by
 refine aI Tryz.func36 rfl rfl rfl ?_;unfold rl at h;have c1:=Jl J (z:=a.num) (by omega);have c2:=Jl J (z:=(a.den:Int)) (by rw[qH];omega);rw[OV] at c2;have l1:=OW a.num;have l2:=Ju a.num.natAbs;have l3:=Ju a.den;unfold kL;by_cases hd1:a.den=1
 . have e:(a6 a.den == [49])=true:=by rw[hd1,jH (by decide)];rfl
   rw[ar hd1];repeat (((first|refine W.R (by kernel_rfl) ?_|refine W.c rfl ?_|refine⟨_,rQ J hd,?_⟩|refine⟨_,c1,?_⟩|refine⟨_,c2,?_⟩|refine⟨_,e,?_⟩);conv=>whnf))
   rfl
 . have e:(a6 a.den == [49])=false:=by
    rw[vP];intro h';exact hd1 (wS (h'.trans (jH (n:=1) (by decide)).symm))
   rw[al hd1];repeat (first|((first|refine W.R (by kernel_rfl) ?_|refine W.c rfl ?_|refine⟨_,rQ J hd,?_⟩|refine⟨_,c1,?_⟩|refine⟨_,c2,?_⟩|refine⟨_,e,?_⟩);conv=>whnf)|(refine⟨by simp;omega,?_⟩;conv=>whnf)|(refine xr ?_;conv=>whnf))
   rfl
theorem Ue(z:Int)(n:Nat):sv (decide (z<0)&&(((n%2:Nat):Int)==1)) (z.natAbs^n)=z^n:=by
 unfold sv;by_cases hz:z<0
 . obtain⟨m,rfl⟩:∃m:Nat,z = -(m:Int):=⟨z.natAbs,by omega⟩;rw[bu hz,zH,ef,qW];rcases Nat.mod_two_eq_zero_or_one n with h|h
   . rw[h];have:n=2*(n/2):=by omega
     have e:(-(m:Int))^n=(m:Int)^n:=by
      rw[this,Ew,Ew];congr 1;rw[lk,lk,lk,lk];simp;exact Er _ _
     rw[e];simp
   . rw[h];have:n=2*(n/2)+1:=by omega
     have e:(-(m:Int))^n = -((m:Int)^n):=by
      rw[this,lk,lk,Ew,Ew];rw[show(-(m:Int))^2=(m:Int)^2 by rw[lk,lk,lk,lk];simp;exact Er _ _];rw[Eq]
     rw[e];simp
 . obtain⟨m,rfl⟩:∃m:Nat,z=(m:Int):=⟨z.natAbs,by omega⟩;rw[bz hz,ef];simp
theorem Km{J:Keep}{a:Rat}(ha:az a<2^28)(k:Int):C J 76 [qr a,.int .i64 k] (qr (a^(l5 k 1000))):=by
 refine aI Tryz.func76 rfl rfl rfl ?_;obtain⟨n,hn⟩:∃n,l5 k 1000=n:=⟨_,rfl⟩;have hn1:n<=1000:=by rw[<-hn];unfold l5;omega
 have hq:=ha;unfold az at hq;have m1:=bW (ln a.num.natAbs) (show n+1<=1001 by omega);have m2:=bW (ln a.den) (show n+1<=1001 by omega);have c0:=TE J k 1000;have c1:=Jo J (a:=a.num.natAbs) (n:=n) (by omega) (by omega);have c2:=lV J (q:=a) (by omega);have c3:=Jo J (a:=a.den) (n:=n) (by omega) (by omega);have hp:1<=a.den^n:=fH (dP a);have l3:=CJ a.den n;have m3:=bW (ln a.den) (show n<=1000 by omega);have c4:=rO J (a:=a.den^n) (b:=1) hp (by omega);have hm:((n:Nat):Int).tmod 2=((n%2:Nat):Int):=kK n 2;have c5:=gz J (decide (a.num<0)&&(((n%2:Nat):Int)==1)) (a.num.natAbs^n);rw[Ue] at c5;rw[hn] at c0 ⊢;have fin:IV.agg [.sl ((dg (a.num^n).natAbs).map u32),.bool (decide (a.num^n<0)),.sl ((dg (a.den^n-1)).map u32)]=qr (a^n):=by
  rw[qr,qd,Rat.num_pow,Rat.den_pow]
 show W J _ _ ⟨argS [.agg [.sl ((dg a.num.natAbs).map u32),.bool (decide (a.num<0)),.sl ((dg (a.den-1)).map u32)],.int .i64 k],fun _=>none,0⟩ _;unfold qr qd at c2;by_cases h:a.num<0
 . rw[bu h] at c2 c5 ⊢;repeat (((first|refine W.RS (by kernel_rfl) ?_|refine W.ret ?_|refine⟨_,c0,?_⟩|refine⟨_,c1,?_⟩|refine⟨_,c2,?_⟩|refine⟨_,c3,?_⟩|refine⟨_,c4,?_⟩|refine⟨_,c5,?_⟩|refine⟨_,kF J (n:=1) (by omega),?_⟩|refine⟨by omega,_,hm,?_⟩|refine⟨_,rfl,?_⟩|refine xr ?_|refine xB ?_);conv=>whnf))
   exact fin
 . rw[bz h] at c2 c5 ⊢;repeat (((first|refine W.RS (by kernel_rfl) ?_|refine W.ret ?_|refine⟨_,c0,?_⟩|refine⟨_,c1,?_⟩|refine⟨_,c2,?_⟩|refine⟨_,c3,?_⟩|refine⟨_,c4,?_⟩|refine⟨_,c5,?_⟩|refine⟨_,kF J (n:=1) (by omega),?_⟩|refine xr ?_|refine xA ?_);conv=>whnf))
   exact fin
theorem G0:az 0<=1:=by
 show ln 0+ln 1<=1;have h0:ln 0<=0:=kN (by decide);rw[pM];omega
theorem RN:rl 0<=1:=by
 show lh 0+lh 1<=1;have h0:lh 0<=0:=jO (by decide);have:=Kd;omega
theorem KO(n:Nat):ln n<=lh n:=kN (gK (gQ n) (zD (by decide) _))
theorem xJ(q:Rat):az q<=rl q:=by
 unfold az rl;have h1:=KO q.num.natAbs;have h2:=KO q.den;omega
theorem yi(z:Int):az (z:Rat)<=ln z.natAbs+1:=by
 show ln z.natAbs+ln 1<=_;rw[pM];omega
theorem Sf(a b:Rat):az (a/b)<=az a+az b+1:=by
 by_cases hb:b=0
 . rw[hb,zI,Rat.inv_zero,Rat.mul_zero];have:=G0;omega
 . have hi:b⁻¹.num.natAbs=b.den/\b⁻¹.den=b.num.natAbs:=by
    have hn0:b.num≠0:=fun e=>hb (Rat.num_eq_zero.1 e);show(Rat.inv b).num.natAbs=_/\(Rat.inv b).den=_;unfold Rat.inv;split
    . simp
    . split
      . simp
      . omega
   have h:=xd a b⁻¹;rw[<-zI] at h;unfold az at *;rw[hi.1,hi.2] at h;omega
section
variable {J:Keep}{a b c d:Rat}
end
theorem Uk(a b:Rat):rl (a/b)<=rl a+rl b+1:=by
 by_cases hb:b=0
 . rw[hb,zI,Rat.inv_zero,Rat.mul_zero];have:=RN;omega
 . have hi:b⁻¹.num.natAbs=b.den/\b⁻¹.den=b.num.natAbs:=by
    have hn0:b.num≠0:=fun e=>hb (Rat.num_eq_zero.1 e);show(Rat.inv b).num.natAbs=_/\(Rat.inv b).den=_;unfold Rat.inv;split
    . simp
    . split
      . simp
      . omega
   have h:=JY a b⁻¹;rw[<-zI] at h;unfold rl at *;rw[hi.1,hi.2] at h;omega
section
variable {J:Keep}{a b c d:Rat}{e f:Option Rat}
end
def V8(c:UInt8):Bool:=decide (48<=c.toNat/\c.toNat<=57)
def digs(s:List UInt8):Bool:=!s.isEmpty&&s.all V8
theorem base(J:Keep):Base J:=⟨fun _ h=>TK J h⟩
theorem Vm{J:Keep}{nt id:Nat}{Y Y':AS}{K:Exit->AS->Prop}{all:Array Oper}{draw:Bool}{y:Code}(hw:Wk Y Y')(h0:pV nt all draw=true)(h:qj (cx J) all draw Y' fun Y'=>W J nt y Y' K):W J nt (.seq (.region id all draw) y) Y K :=
 W.weak hw (W.RS h0 h)
theorem xc(J:Keep){n:Int}(h1 : -9223372036854775808<=n)(h2:n<=9223372036854775807):C J 154 [.int .i64 n] (qr (n:Rat)):=by
 refine aI Tryz.func154 rfl rfl rfl ?_;have c1:=xW J h1 h2;repeat (((first|refine W.RS (by kernel_rfl) ?_|refine W.ret ?_|refine⟨_,c1,?_⟩);conv=>whnf))
 rfl
theorem IG{J:Keep}(B:Base J){a b:Rat}(ha:az a<2^38)(hb:az b<2^38)(hb0:b≠0):C J 155 [qr a,qr b] (qr (a/b)):=by
 refine aI Tryz.func155 rfl rfl rfl ?_;have c1:=CP B ha hb hb0;repeat (((first|refine W.RS (by kernel_rfl) ?_|refine W.ret ?_|refine⟨_,c1,?_⟩);conv=>whnf))
 rfl
abbrev di(n:Int):IV:=.int .i64 n
def sumI:List Int->Int
 | []=>0
 |x::l=>x+sumI l
theorem NR(a b:List Int):sumI (a++b)=sumI a+sumI b:=by
 induction a with
 |nil=>simp[sumI]
 |cons x a ih=>simp only[g8,sumI,ih];omega
def bq:List Int->Nat
 | []=>0
 |x::l=>x.natAbs+bq l
theorem Oc(a b:List Int):bq (a++b)=bq a+bq b:=by
 induction a with
 |nil=>simp[bq]
 |cons x a ih=>simp only[g8,bq,ih];omega
theorem nT:∀l:List Int,(sumI l).natAbs<=bq l
 | []=>ak _
 |x::l=>by have:=nT l;simp only[sumI,bq];omega
theorem wE(l:List Int)(t:Nat):bq (l.take t)<=bq l:=by
 have e:=Oc (l.take t) (l.drop t);rw[ks] at e;omega
theorem fY{l:List Int}{i:Nat}(h:i<l.length):(l.map di)[i]?=some (di (l.getD i 0)):=by
 rw[dw,aV,aQ h];rfl
theorem Aw{l:List Int}{t:Nat}(h:t<l.length):sumI (l.take (t+1))=sumI (l.take t)+l.getD t 0:=by
 rw[k9,NR,aV,aQ h];simp[sumI]
theorem ue(J:Keep){l:List Int}(hl:l.length<2^60)(hs:bq l<2^62):C J 66 [.sl (l.map di)] (.int .i64 (sumI l)):=by
 have la:(l.map di).length=l.length:=by simp
 refine aI Tryz.func66 rfl rfl rfl ?_;repeat (((first|refine W.R (by kernel_rfl) ?_|refine W.c rfl ?_|refine⟨_,rfl,?_⟩);conv=>whnf))
 refine W.loop (G:={ t:Nat // t<=l.length }) (fun t=>am [(0,.iv (.sl (l.map di))),(3,.iv (.int .i64 (sumI (l.take t.1)))),(6,.iv (.sl (l.map di))),(7,.iv (.int .i64 (l.length:Int))),(8,.iv (.int .i64 (t.1:Int)))] [] 20) (fun t=>l.length-t.1) ⟨0,bb _⟩
  (Wk.tab [] ⟨aa,aa,aa,⟨cu (by rw[la]),rfl⟩,aa,ab⟩ trivial rfl) ?_
 rintro⟨t,ht⟩;show W J _ _ (am [(0,.iv (.sl (l.map di))),(3,.iv (.int .i64 (sumI (l.take t)))),(6,.iv (.sl (l.map di))),(7,.iv (.int .i64 (l.length:Int))),(8,.iv (.int .i64 (t:Int)))] [] 20) _;have b1:=nT (l.take t);have b2:=wE l t;by_cases h:t<l.length
 . have e:=Aw h;have b3:=nT (l.take (t+1));have b4:=wE l (t+1);obtain⟨y,hy⟩:∃y,l.getD t 0=y:=⟨_,rfl⟩;obtain⟨s,hs'⟩:∃s,sumI (l.take t)=s:=⟨_,rfl⟩;obtain⟨s2,hs2⟩:∃s,sumI (l.take (t+1))=s:=⟨_,rfl⟩;rw[hs2] at b3;rw[hs',hy,hs2] at e;rw[hs'] at b1;rw[hs'];have gy:(l.map di)[t]?=some (di y):=by rw[fY h,hy]
   repeat (((first|refine W.R (by kernel_rfl) ?_|refine W.c rfl ?_|refine⟨t,_,rfl,gy,rfl,?_⟩|refine ap (by omega) ?_|refine xT (by omega) ?_|refine xr ?_);conv=>whnf))
   exact⟨⟨t+1,by omega⟩,Wk.tab [] ⟨aa,⟨cu (by dsimp only;rw[hs2];omega),rfl⟩,aa,aa,aa,ab⟩ trivial rfl,by dsimp only;omega⟩
 . have e:t=l.length:=by omega
   subst e;rw[cU];repeat (((first|refine W.R (by kernel_rfl) ?_|refine W.c rfl ?_|refine xF (by omega) ?_|refine xr ?_);conv=>whnf))
   rfl
def jX:List Int->List Int->Int
 |x::a,y::b=>if aL x y=0 then jX a b else aL x y
 |_,_=>0
theorem PU{a b:List Int}{t:Nat}(ha:t<a.length)(hb:t<b.length):jX (a.drop t) (b.drop t)=if aL (a.getD t 0) (b.getD t 0)=0 then jX (a.drop (t+1)) (b.drop (t+1)) else aL (a.getD t 0) (b.getD t 0):=by
 rw[dY ha,dY hb,jX];simp[aV,ha,hb]
theorem RV(J:Keep){a b:List Int}(hab:a.length=b.length)(hl:a.length<2^60):C J 135 [.sl (a.map di),.sl (b.map di)] (.int .i64 (jX a b)):=by
 have la:(a.map di).length=a.length:=by simp
 have lb:(b.map di).length=b.length:=by simp
 obtain⟨r,hr⟩:∃r,jX a b=r:=⟨_,rfl⟩;rw[hr];refine aI Tryz.func135 rfl rfl rfl ?_;repeat (((first|refine W.R (by kernel_rfl) ?_|refine W.c rfl ?_|refine⟨_,rfl,?_⟩);conv=>whnf))
 refine W.loop (G:={ t:Nat // t<=a.length/\jX (a.drop t) (b.drop t)=r }) (fun t=>am [(0,.iv (.sl (a.map di))),(1,.iv (.sl (b.map di))),(9,.iv (.sl (a.map di))),(10,.iv (.int .i64 (a.length:Int))),(11,.iv (.int .i64 (t.1:Int)))] [] 20) (fun t=>a.length-t.1) ⟨0,bb _,hr⟩
  (Wk.tab [] ⟨aa,aa,aa,⟨cu (by rw[la]),rfl⟩,aa,ab⟩ trivial rfl) ?_
 rintro⟨t,ht,hc⟩;show W J _ _ (am [(0,.iv (.sl (a.map di))),(1,.iv (.sl (b.map di))),(9,.iv (.sl (a.map di))),(10,.iv (.int .i64 (a.length:Int))),(11,.iv (.int .i64 (t:Int)))] [] 20) _;by_cases h:t<a.length
 . have hs:=PU h (by omega:t<b.length);have gx:=fY h;have gy:=fY (by omega:t<b.length);obtain⟨x,hx⟩:∃x,a.getD t 0=x:=⟨_,rfl⟩;obtain⟨y,hy⟩:∃y,b.getD t 0=y:=⟨_,rfl⟩;have c1:=B7 J x y;rw[hx,hy] at hs;rw[hx] at gx;rw[hy] at gy;obtain⟨z,hz⟩:∃z,aL x y=z:=⟨_,rfl⟩;rw[hz] at hs c1;by_cases h0:z=0
   . subst h0;rw[ar rfl,hc] at hs;repeat (((first|refine W.R (by kernel_rfl) ?_|refine W.c rfl ?_|refine⟨_,c1,?_⟩|refine⟨t,_,rfl,gx,rfl,?_⟩|refine⟨t,_,rfl,gy,rfl,?_⟩|refine ap (by omega) ?_|refine xT (by omega) ?_|refine xF (by omega) ?_|refine⟨false,bne_eq_false_iff_eq.2 (by omega),?_⟩|refine⟨_,rfl,?_⟩|refine xr ?_);conv=>whnf))
     exact⟨⟨t+1,h,hs.symm⟩,Wk.tab [] ⟨aa,aa,aa,aa,aa,ab⟩ trivial rfl,by dsimp only;omega⟩
   . rw[al h0,hc] at hs;subst hs;repeat (((first|refine W.R (by kernel_rfl) ?_|refine W.c rfl ?_|refine⟨_,c1,?_⟩|refine⟨t,_,rfl,gx,rfl,?_⟩|refine⟨t,_,rfl,gy,rfl,?_⟩|refine xT (by omega) ?_|refine xF (by omega) ?_|refine⟨true,bne_iff_ne.2 (by omega),?_⟩|refine⟨_,rfl,?_⟩|refine xr ?_);conv=>whnf))
     rfl
 . have e:t=a.length:=by omega
   rw[e,MD] at hc;have hc:0=r:=by rw[<-hc];unfold jX;rfl
   subst hc e;repeat (((first|refine W.R (by kernel_rfl) ?_|refine W.c rfl ?_|refine xF (by omega) ?_|refine⟨_,rfl,?_⟩|refine xr ?_);conv=>whnf))
   rfl
def ka:List Int->Int
 | []=>0
 |x::l=>if x=0 then ka l else x
theorem Qv{l:List Int}{t:Nat}(h:t<l.length):ka (l.drop t)=if l.getD t 0=0 then ka (l.drop (t+1)) else l.getD t 0:=by
 rw[dY h,ka];simp[aV,h]
theorem RW(J:Keep){l:List Int}(hl:l.length<2^60):C J 133 [.sl (l.map di)] (.int .i64 (ka l)):=by
 have la:(l.map di).length=l.length:=by simp
 obtain⟨r,hr⟩:∃r,ka l=r:=⟨_,rfl⟩;rw[hr];refine aI Tryz.func133 rfl rfl rfl ?_;repeat (((first|refine W.R (by kernel_rfl) ?_|refine W.c rfl ?_|refine⟨_,rfl,?_⟩);conv=>whnf))
 refine W.loop (G:={ t:Nat // t<=l.length/\ka (l.drop t)=r }) (fun t=>am [(3,.iv (.int .i64 0)),(6,.iv (.sl (l.map di))),(7,.iv (.int .i64 (l.length:Int))),(8,.iv (.int .i64 (t.1:Int)))] [] 20) (fun t=>l.length-t.1) ⟨0,bb _,hr⟩
  (Wk.tab [] ⟨aa,aa,⟨cu (by rw[la]),rfl⟩,aa,ab⟩ trivial rfl) ?_
 rintro⟨t,ht,hc⟩;show W J _ _ (am [(3,.iv (.int .i64 0)),(6,.iv (.sl (l.map di))),(7,.iv (.int .i64 (l.length:Int))),(8,.iv (.int .i64 (t:Int)))] [] 20) _;by_cases h:t<l.length
 . have hs:=Qv h;have gx:=fY h;obtain⟨x,hx⟩:∃x,l.getD t 0=x:=⟨_,rfl⟩;rw[hx] at hs gx;by_cases h0:x=0
   . subst h0;rw[ar rfl,hc] at hs;repeat (((first|refine W.R (by kernel_rfl) ?_|refine W.c rfl ?_|refine⟨t,_,rfl,gx,rfl,?_⟩|refine ap (by omega) ?_|refine xT (by omega) ?_|refine⟨false,bne_eq_false_iff_eq.2 (by omega),?_⟩|refine xr ?_);conv=>whnf))
     exact⟨⟨t+1,h,hs.symm⟩,Wk.tab [] ⟨aa,aa,aa,aa,ab⟩ trivial rfl,by dsimp only;omega⟩
   . rw[al h0,hc] at hs;subst hs;repeat (((first|refine W.R (by kernel_rfl) ?_|refine W.c rfl ?_|refine⟨t,_,rfl,gx,rfl,?_⟩|refine xT (by omega) ?_|refine⟨true,bne_iff_ne.2 (by omega),?_⟩|refine xr ?_);conv=>whnf))
     rfl
 . have e:t=l.length:=by omega
   rw[e,MD] at hc;have hc:0=r:=by rw[<-hc];unfold ka;rfl
   subst hc e;repeat (((first|refine W.R (by kernel_rfl) ?_|refine W.c rfl ?_|refine xF (by omega) ?_|refine xr ?_);conv=>whnf))
   rfl
noncomputable def tq(p:List Int)(q:Rat):IV:=.agg (.sl (p.map di)::(qr q).cells)
def sa(a b:List Int):Int:=ka [aL (sumI a) (sumI b),jX b a]
theorem R1(J:Keep){a b:List Int}{x y:Rat}(hab:a.length=b.length)(hl:a.length<2^50)(ha:bq a<2^62)(hb:bq b<2^62):C J 75 [tq a x,tq b y] (.int .i64 (sa a b)):=by
 refine aI Tryz.func75 rfl rfl rfl ?_;have c1:=ue J (l:=a) (by omega) ha;have c2:=ue J (l:=b) (by omega) hb;have c3:=B7 J (sumI a) (sumI b);have c4:=RV J (a:=b) (b:=a) hab.symm (by omega);have c5:=RW J (l:=[aL (sumI a) (sumI b),jX b a]) (by simp);repeat (((first|refine W.RS (by kernel_rfl) ?_|refine W.ret ?_|refine⟨_,c1,?_⟩|refine⟨_,c2,?_⟩|refine⟨_,c3,?_⟩|refine⟨_,c4,?_⟩|refine⟨_,c5,?_⟩|refine xr ?_);conv=>whnf))
 rfl
end Go.Proofs.Fl
namespace Go.Proofs.Fl
open Go
theorem AV{α:Type}:∀(a:Ask α) (w:World),w.drawn<=(w.ask a).2.drawn
 | .done _,w=>ak _
 | .ask what range k,w=>by
  unfold World.ask;dsimp only;split
  . exact AV (k 0) w
  . exact aP (tu _) (AV _ { w with drawn:=w.drawn+1 })
theorem Av(w:World)(c:Sys):w.drawn<=(w.sys c).2.drawn:=by
 unfold World.sys;have:=AV (Kernel.perform c w.os) w;split
 . exact ak _
 . rename_i h;rw[h] at this;exact this
theorem Nc{p:Program}{w w':World}{a k:Addr}{u:TypeId}{v:Value}{b:Bool}{l:List Addr}(h:w.viewStore p a u k v b=.ok (w',l)):w'.drawn=w.drawn:=by
 unfold World.viewStore at h;simp only[bind,Except.bind,pure,Except.pure] at h;repeat' split at h
 all_goals first|(cases h;rfl)|cases h
theorem EL{p:Program}{w w':World}{a:Addr}{v:Value}{b:Bool}{l:List Addr}(h:w.farStore p a v b=.ok (w',l)):w'.drawn=w.drawn:=by
 unfold World.farStore at h;repeat' split at h
 all_goals first|cases h|skip
 exact Nc (by assumption)
def vb{α:Type}:Result α->World
 | .ok _ w=>w
 | .halt _ w=>w
theorem Ay{α:Type}(p:Program)(s:Sem α):∀w:World,w.drawn<=(vb (s.run p w)).drawn:=by
 induction s with
 |pure a=>exact fun w=>ak _
 |load m a k ih=>
  intro w;unfold Sem.run;split
  . exact ih _ w
  . split
    . exact ih _ w
    . exact ak _
 |store m a v k ih=>
  intro w;have key:∀v:Value,w.drawn<=(vb (match w.cell? a with
   |some _=>if w.frozen? a then Result.halt (.unsupported (.unsafePointer "a write to bytes that a string shares")) w else k.run p (w.setCell a v)
   |none=>match w.farStore p a v (m == .atomic) with
    | .ok (w,_)=>k.run p w
    | .error h=>.halt h w)).drawn:=fun v=>by
   split
   . split
     . exact ak _
     . exact ih (w.setCell a v)
   . split
     . rename_i hf;exact aP (iY (EL hf).symm) (ih _)
     . exact ak _
  cases v<;>first|exact ak _|(rw[Sem.run];exact key _;all_goals (intro _ h;cases h))
 |new o k ih=>intro w;unfold Sem.run;exact ih w.heap.size { w with heap:=w.heap.push o }
 |shape r k ih=>intro w;unfold Sem.run;exact ih _ _
 |freeze a n k ih=>
  intro w;unfold Sem.run;refine aP ?_ (ih _);unfold World.freeze;split<;>exact ak _
 |frozen a k ih=>intro w;unfold Sem.run;exact ih _ _
 |getObj r k ih=>intro w;unfold Sem.run;split<;>first|exact ak _|exact ih _ _
 |setObj r o k ih=>intro w;unfold Sem.run;split<;>first|exact ak _|exact ih { w with heap:=w.heap.setIfInBounds r o }
 |choose q k ih=>
  intro w;unfold Sem.run;split
  . exact ih _ _
  . exact aP (tu _) (ih _ { w with drawn:=w.drawn+1 })
 |sys c k ih=>intro w;unfold Sem.run;exact aP (Av w c) (ih _ _)
 |program k ih=>intro w;unfold Sem.run;exact ih _ _
 |mark m k ih=>intro w;unfold Sem.run;exact ih _
 |halt h=>exact fun w=>ak _
theorem tG{α:Type}(p:Program)(s:Sem α):∀(w:World) (es:Array Event),w.drawn<=(vb (s.runT p w es).1).drawn:=by
 induction s with
 |pure a=>exact fun w _=>ak _
 |load m a k ih=>
  intro w es;unfold Sem.runT;split
  . exact ih _ w _
  . split
    . exact ih _ w _
    . exact ak _
 |store m a v k ih=>
  intro w es;have key:w.drawn<=(vb (match w.cell? a with
   |some _=>if w.frozen? a then((Result.halt (.unsupported (.unsafePointer "a write to bytes that a string shares")) w:Result α),es) else k.runT p (w.setCell a v) (es.push ⟨.cell a,true,m==Mode.atomic⟩)
   |none=>match w.farStore p a v (m==Mode.atomic) with
    | .ok (w,touched)=>k.runT p w (es++touched.toArray.map (fun x=>(⟨.cell x,true,m==Mode.atomic⟩:Event)))
    | .error h=>(.halt h w,es)).1).drawn:=by
   split
   . split
     . exact ak _
     . exact ih (w.setCell a v) _
   . split
     . rename_i hf;exact aP (iY (EL hf).symm) (ih _ _)
     . exact ak _
  cases v<;>first|exact ak _|(rw[Sem.runT];exact key;all_goals (intro _ h;cases h))
 |new o k ih=>intro w es;unfold Sem.runT;exact ih w.heap.size { w with heap:=w.heap.push o } es
 |shape r k ih=>intro w es;unfold Sem.runT;exact ih _ _ _
 |freeze a n k ih=>
  intro w es;unfold Sem.runT;refine aP ?_ (ih _ _);unfold World.freeze;split<;>exact ak _
 |frozen a k ih=>intro w es;unfold Sem.runT;exact ih _ _ _
 |getObj r k ih=>intro w es;unfold Sem.runT;split<;>first|exact ak _|exact ih _ _ _
 |setObj r o k ih=>intro w es;unfold Sem.runT;split<;>first|exact ak _|exact ih { w with heap:=w.heap.setIfInBounds r o } _
 |choose q k ih=>
  intro w es;unfold Sem.runT;split
  . exact ih _ _ _
  . exact aP (tu _) (ih _ { w with drawn:=w.drawn+1 } _)
 |sys c k ih=>intro w es;unfold Sem.runT;exact aP (Av w c) (ih _ _ _)
 |program k ih=>intro w es;unfold Sem.runT;exact ih _ _ _
 |mark m k ih=>intro w es;unfold Sem.runT;exact ih _ _
 |halt h=>exact fun w _=>ak _
section
variable {α:Type}{p:Program}{s:Sem α}{w w':World}{a:α}{h:Halt}{es es':Array Event}
theorem fc(e:s.run p w=.ok a w'):w.drawn<=w'.drawn:=by have:=Ay p s w;rwa[e] at this
theorem s7(e:s.run p w=.halt h w'):w.drawn<=w'.drawn:=by have:=Ay p s w;rwa[e] at this
theorem W7(e:s.runT p w es=(.ok a w',es')):w.drawn<=w'.drawn:=by have:=tG p s w es;rwa[e] at this
theorem W6(e:s.runT p w es=(.halt h w',es')):w.drawn<=w'.drawn:=by have:=tG p s w es;rwa[e] at this
theorem W5{c:Sys}{r:SysRet}(e:w.sys c=(r,w')):w.drawn<=w'.drawn:=by have:=Av w c;rwa[e] at this
theorem qM(e:(s.runT p w es).1=.ok a w'):w.drawn<=w'.drawn:=by have:=tG p s w es;rwa[e] at this
theorem qL(e:(s.runT p w es).1=.halt h w'):w.drawn<=w'.drawn:=by have:=tG p s w es;rwa[e] at this
end
def gJ:GStep->World
 | .go _ w _=>w
 | .comm _ _ _ _ w _=>w
 | .spawn _ _ w _=>w
 | .count _ w _=>w
 | .timer _ _ w _=>w
 | .alone _ _ w _=>w
 | .newcoro _ _ _ w _=>w
 | .coroswitch _ _ _ w _=>w
 | .collect _ w _=>w
 | .watch _ w _=>w
 | .ended _ w _=>w
theorem tU(es:Array Event)(g:GStep):gJ (g.after es)=gJ g:=by cases g<;>rfl
theorem OE(w:World)(fd:Nat)(t:ByteArray)(o:Outcome):w.drawn<=(gJ (endWith w fd t o)).drawn:=by
 unfold endWith;dsimp only;repeat' split
 all_goals exact W5 (by assumption)
theorem EM(p:Program)(fr:Frame)(v:Value)(w:World):w.drawn<=(gJ (endPrinting p fr v w)).drawn:=by
 unfold endPrinting;dsimp only;split<;>exact ak _
theorem Fk(p:Program)(fr:Frame)(cs:List Frame)(d:Option Dying)(m:String)(w:World):w.drawn<=(gJ (endFatal p fr cs d m w)).drawn:=by
 unfold endFatal;dsimp only;repeat' split
 all_goals first|exact ak _|exact fc (by assumption)|exact s7 (by assumption)
theorem Of(p:Program)(fr:Frame)(d:Dying)(f:Fatal)(w:World):w.drawn<=(gJ (writeOn p fr d f w)).drawn:=by
 unfold writeOn;dsimp only;repeat' split
 all_goals first|exact ak _|exact W7 (by assumption)|exact W6 (by assumption)
theorem Vb(p:Program)(fr:Frame)(d:Dying)(w:World):w.drawn<=(gJ (die p fr d w)).drawn:=by
 unfold die;dsimp only;repeat' split
 all_goals first|exact ak _|exact Of .. | exact OE .. | exact fc (by assumption)|exact s7 (by assumption)|skip
 all_goals
  rw[tU];repeat' split
  all_goals first|exact qM (by assumption)|exact qL (by assumption)|exact aP (qL (by assumption)) (EM ..)|skip
theorem Ag(p:Program)(main:Bool)(fr:Frame)(cs:List Frame)(d:Option Dying)(v:Value)(w:World):w.drawn<=(gJ (doReturn p main fr cs d v w)).drawn:=by
 unfold doReturn;dsimp only;repeat' split
 all_goals exact ak _
theorem Q5(p:Program)(fr:Frame)(cs:List Frame)(d:Option Dying)(g:Nat)(w:World):w.drawn<=(gJ (early p fr cs d g w)).drawn:=by
 unfold early;dsimp only;repeat' split
 all_goals first|exact ak _|exact fc (by assumption)|exact s7 (by assumption)|(have h:=fc ‹Sem.run _ _ _=Result.ok 0 _›;exact h)
theorem Nf(p:Program)(fr:Frame)(cs:List Frame)(dy:Option Dying)(d:Deferred)(w:World):w.drawn<=(gJ (callDeferred p fr cs dy d w)).drawn:=by
 unfold callDeferred;dsimp only;repeat' split
 all_goals first|exact ak _|rw[tU]
 all_goals first|exact qM (by assumption)|exact qL (by assumption)|exact aP (qL (by assumption)) (Fk ..)|exact aP (qL (by assumption)) (endThrow_dr ..)|skip
theorem O2(p:Program)(main:Bool)(fr:Frame)(cs:List Frame)(dy:Option Dying)(w:World):w.drawn<=(gJ (unwind p main fr cs dy w)).drawn:=by
 unfold unwind;dsimp only;repeat' split
 all_goals first|exact ak _|exact fc (by assumption)|exact s7 (by assumption)|exact Nf .. | exact Ag .. | exact EM .. | skip
 all_goals
  rw[tU];repeat' split
  all_goals first|exact qM (by assumption)|exact qL (by assumption)|exact aP (qM (by assumption)) (Ag ..)
theorem Bv(p:Program)(l:Bool)(fr:Frame)(cs:List Frame)(dy:Option Dying)(s:Sem Next)(w:World):w.drawn<=(gJ (stepG.apply p l fr cs dy s w)).drawn:=by
 unfold stepG.apply;dsimp only;rw[tU];have key:w.drawn<=(vb (if l=true then s.runT p w #[] else(s.run p w,#[])).1).drawn:=by
  split
  . exact tG ..
  . exact Ay ..
 generalize (if l=true then s.runT p w #[] else(s.run p w,#[]))=R at key ⊢;obtain⟨r,es⟩:=R;dsimp only at key ⊢;cases r with
 |ok a w'=>
  cases a<;>try dsimp only
  all_goals first|exact key|(repeat' split)
  all_goals first|exact key|exact aP key (endThrow_dr ..)
 |halt h w'=>
  cases h;all_goals try (rename_i u;cases u)
  all_goals try dsimp only
  all_goals first|exact key|exact aP key (endThrow_dr ..)|exact aP key (Fk ..)|exact aP key (Q5 ..)|skip
theorem Sr(p:Program)(l:Bool)(fr:Frame)(cs:List Frame)(dy:Option Dying)(w:World):w.drawn<=(gJ (stepG.oper p l fr cs dy w)).drawn:=by
 unfold stepG.oper;repeat' split
 all_goals first|exact ak _|exact Bv ..
theorem TL(p:Program)(main l:Bool)(fr:Frame)(cs:List Frame)(dy:Option Dying)(w:World):w.drawn<=(gJ (stepG.exec p main l fr cs dy w)).drawn:=by
 unfold stepG.exec Option.elim;dsimp only;repeat' split
 all_goals first|exact ak _|exact Bv .. | exact Sr .. | exact fc (by assumption)|exact s7 (by assumption)|rw[tU]|skip
 all_goals first|exact qM (by assumption)|exact qL (by assumption)|exact aP (qM (by assumption)) (Ag ..)|exact aP (qM (by assumption)) (Bv ..)|skip
theorem Qh(p:Program)(main:Bool)(g:Goroutine)(w:World)(l:Bool):w.drawn<=(gJ (stepG p main g w l)).drawn:=by
 unfold stepG;dsimp only;repeat' split
 all_goals first|exact Vb .. | exact TL .. | exact O2 ..
def qC(n:Nat):Stepped->Prop
 | .next m=>n<=m.world.drawn
 | .ended _ _=>True
theorem IY(p:Program)(gs:Array Goroutine)(rest:Rest)(w:World):qC w.drawn (look p gs rest w):=by
 unfold look;dsimp only;repeat' split
 all_goals first|trivial|(have h:=fc ‹Sem.run _ _ _=Result.ok _ _›;exact h)
theorem NA{rest:Rest}{cases_:Array CommCase}{w w':World}(h:waitingAt rest cases_ w=some w'):w'.drawn=w.drawn:=by
 unfold waitingAt at h;repeat' split at h
 all_goals (cases h;try rfl)
theorem Nr(p:Program)(rest:Rest)(gs:Array Goroutine)(i:Nat)(g:Goroutine)(cs:Array CommCase)(b:Bool)(sh:CommShape)(w:World):qC w.drawn (communicate p rest gs i g cs b sh w).1:=by
 unfold communicate;dsimp only;repeat' split
 all_goals first|trivial|exact ak _|exact iY (NA (by assumption)).symm|exact fc (by assumption)|skip
 all_goals first
  | (have h:=fc ‹Sem.run _ _ w=Result.ok _ _›;exact h)
  | (have h:=fc ‹Sem.run _ _ w=Result.ok _ _›;exact aP h (s7 (by assumption)))
  | (have h:=fc ‹Sem.run _ _ w=Result.ok _ _›;have h2:=fc ‹Sem.run _ (choose _) _=Result.ok _ _›;exact aP h h2)
theorem Q6(w:World)(c:Nat):(drain w c).2.drawn=w.drawn:=by
 unfold drain;split<;>rfl
theorem Gg(m:Machine)(k:Nat)(t:Timer)(a b:Nat):(retime m k t a b).2.world.drawn=m.world.drawn:=by
 unfold retime;dsimp only;split
 . rename_i c _;exact Q6 m.world c
 . rfl
theorem Hg{m m0 m':Machine}{var:Addr}{f:Nat->Timer->Value×Machine}{v:Value}(hf:∀k t,(f k t).2.world.drawn=m0.world.drawn)(h:timerOp.named m var f=.ok (v,m')):m'.world.drawn=m0.world.drawn:=by
 unfold timerOp.named at h;split at h
 . rename_i k _;injection h with h;have h2:=hf k (m.rest.timers.getD k default);rw[h] at h2;exact h2
 . cases h
theorem Pn{m m':Machine}{var:Addr}(h:timerOp.opened m var=some m'):m'.world.drawn=m.world.drawn:=by
 unfold timerOp.opened at h;repeat' split at h
 all_goals (cases h;try rfl)
theorem Oh{m m':Machine}{op:TimerOp}{v:Value}(h:timerOp m op=.ok (v,m')):m'.world.drawn=m.world.drawn:=by
 unfold timerOp at h;repeat' split at h
 all_goals first
  | (cases h;rfl)
  | (cases h;done)
  |exact Hg (fun k t=>Gg ..) h
  | (rename_i ho;exact Hg (fun k t=>(Gg ..).trans (Pn ho)) h)
theorem Ql(p:Program)(m:Machine)(k:Nat):qC m.world.drawn (serve p m k):=by
 unfold serve;dsimp only;repeat' split
 all_goals first|trivial|exact ak _
theorem xE{n k:Nat}(h:n<=k):∀{s:Stepped},qC k s->qC n s
 | .next _,hs=>aP h hs
 | .ended _ _,_=>trivial
theorem RI(p:Program)(m:Machine)(i:Nat)(l:Bool):qC m.world.drawn (Go.runT p m i l).1:=by
 unfold Go.runT;dsimp only;have h:=Qh p (i==0) (m.gs.swapAt! i { (default:Goroutine) with status:=.finished }).1 m.world l;generalize stepG p (i==0) (m.gs.swapAt! i { (default:Goroutine) with status:=.finished }).1 m.world l=s at h ⊢;cases s;all_goals (dsimp only [gJ] at h ⊢)
 all_goals first
  |trivial
  |exact h
  |exact xE h (Nr ..)
  |exact xE h (IY ..)
  |skip
 all_goals (repeat' split)
 all_goals first
  |trivial
  |exact h
  |exact xE h (endThrow_dr ..)
  | (exact aP h (iY (Oh (by assumption)).symm))
  | (rename_i e;exact aP h (iY (congrArg (fun s=>(gJ s).drawn) e)))
def vh(n:Nat):Move->Prop
 | .goroutine m _=>n<=m.world.drawn
 | .machine s _=>qC n s
theorem lS{n k:Nat}(h:n<=k):∀{s:Move},vh k s->vh n s
 | .goroutine _ _,hs=>aP h hs
 | .machine _ _,hs=>xE h hs
theorem Bu(p:Program)(m:Machine):vh m.world.drawn (askOn p m):=by
 unfold askOn;dsimp only;repeat' split
 all_goals try trivial
 all_goals refine lS (fc ‹Sem.run _ _ m.world=Result.ok _ _›) ?_
 all_goals try exact ak _
 all_goals try exact Ql ..
 all_goals first|refine lS (fc ‹Sem.run _ _ _=Result.ok _ _›) ?_|(have h:=fc ‹Sem.run _ _ (Machine.advanceTo _ _).world=Result.ok _ _›;refine lS h ?_)
 all_goals try exact ak _
 all_goals first|refine lS (fc ‹Sem.run _ _ _=Result.ok _ _›) ?_|(have h:=fc ‹Sem.run _ _ (Machine.advanceTo _ _).world=Result.ok _ _›;refine lS h ?_)
 all_goals try exact ak _
 all_goals first|refine lS (fc ‹Sem.run _ _ _=Result.ok _ _›) ?_|(have h:=fc ‹Sem.run _ _ (Machine.advanceTo _ _).world=Result.ok _ _›;refine lS h ?_)
 all_goals exact ak _
theorem Kx(p:Program)(m:Machine):vh m.world.drawn (ask p m):=by
 unfold ask;split
 . split
   . trivial
   . rename_i w1 e;refine lS (fc e) ?_;have h:=IY p m.gs m.rest w1;split
     . rename_i m1 e1;rw[e1] at h;exact lS h (Bu p m1)
     . exact h
   . rename_i w1 _ e;exact lS (fc e) (Bu p { m with world:=w1 })
 . exact Bu ..
theorem SL(p:Program)(m:Machine):vh m.world.drawn (move p m):=by
 unfold move;dsimp only;repeat' split
 all_goals first|trivial|exact ak _|exact Kx p m|exact Kx p { m with rest:={ m.rest with slice:=none } }|skip
theorem RB{p:Program}{m m':Machine}(h:step p m=.next m'):m.world.drawn<=m'.world.drawn:=by
 have k:=SL p m;unfold step stepT at h;split at h
 . rename_i m1 i e;rw[e] at k;have:=RI p m1 i true;rw[h] at this;exact aP k this
 . rename_i s ops e;rw[e] at k;dsimp only at h;rw[h] at k;exact k
theorem Qg{p:Program}{m m':Machine}(h:Steps p m m'):m.world.drawn<=m'.world.drawn:=by
 obtain⟨n,h⟩:=h;induction n generalizing m with
 |zero=>unfold runN at h;cases h;exact ak _
 |succ n ih=>
  unfold runN at h;split at h
  . exact aP (RB (by assumption)) (ih h)
  . rename_i e;exact absurd h (by first|exact e _|exact fun h=>e _ h)
theorem Rf{P:Program}{f:FuncId}{args:Array Value}{w:World}{R:Ending->World->Prop}(h:Calls P f args w R):Calls P f args w fun e w'=>R e w'/\∀v,e=.returned v->w.drawn<=w'.drawn:=fun cs=>by
 obtain⟨e,w',fr,h1,h2,h3⟩:=h cs;refine⟨e,w',fr,⟨h1,fun v hv=>?_⟩,h2,h3⟩;subst hv;exact Qg h2
end Go.Proofs.Fl
namespace Go.Proofs.Fl
open Go.RowKit
theorem S6{w w':World}(h:Below w.heap.size w w')(hd:w.drawn<=w'.drawn):∃q os,w'=Go.Sort.grow (w.drewN q) os:=by
 refine⟨w'.drawn-w.drawn,w'.heap.extract w.heap.size w'.heap.size,?_⟩;obtain⟨h1,h2,h3,h4,h5⟩:=h;cases w with
 |mk hp tp dr os out=>
 cases w' with
 |mk hp' tp' dr' os' out'=>
 simp only at h1 h2 h3 h4 h5 hd ⊢;subst h1 h2 h3;unfold Go.Sort.grow World.drewN;simp only;congr 1
 . apply Array.ext_getElem?;intro i;rcases eS i hp.size with hi|hi
   . rw[Array.getElem?_append_left hi,h5 i hi]
   . rw[Array.getElem?_append_right hi,Array.getElem?_extract];split
     . congr 1;omega
     . rename_i hh;exact tg (by omega)
 . omega
theorem Pi{P:Program}{I:World->Prop}{f:FuncId}{xs:List IV}{k:IntKind}{n:Int}(h:aY P I f xs (.int k n)){H:ah}{w:World}{args:List Value}(hI:I w)(hH:HeapHas w H)(ha:VRL H args xs) :
 Calls P f args.toArray w fun e w'=>e=.returned (.int k n)/\∃q os,w'=Go.Sort.grow (w.drewN q) os :=
 (Rf (h.2 H w args hI hH ha)).mono fun e w' ⟨⟨v,H',he,h1,h2,h3,h4⟩,h5⟩=>by
   cases h3;exact⟨he,S6 h4 (h5 _ he)⟩
end Go.Proofs.Fl
