/-
  A part of the proof of regionProducts_card.
-/
import Derived.Test.YtalnhplbnklpoaaGreatDoorP2
import Derived.Shelf.Strings.BuilderK
import Derived.Shelf.Strings.Builder1
import Derived.Shelf.Strings.Builder2
import Derived.Shelf.Small.Bits
import Derived.Shelf.Small.Wraps
import Derived.Shelf.Strings.BuilderF
import Derived.Shelf.Strings.Builder2Cap
import Derived.Shelf.Strconv.Itoa0
import Derived.Shelf.Strconv.Itoa1
import Derived.Shelf.LaysM
import Derived.Shelf.Strconv.Itoa2
import Derived.Shelf.Strconv.Itoa3
import Derived.Shelf.Strings.Prefix
import Derived.Shelf.Bits.Mul64
import Derived.Shelf.Strings.Repeat
import Derived.Shelf.Strings.BuilderCap
import Derived.Ground.Names2Prog
import Derived.Shelf.Slices.Clone
import Derived.Shelf.Slices.SearchI
import Derived.Ground.SlgnProg
import Derived.Shelf.SlicesE.Clone
import Derived.Test.YtalnhplbnklpoaaGreatDoorProg
import Derived.Shelf.Strings.SlTrimAscii
import Derived.Calls
import Derived.Sort.Grow
import Derived.Deep.Draws
import Derived.Maps.Keyed
set_option maxHeartbeats 4000000
set_option maxRecDepth 100000
namespace Go.Proofs
open Go
abbrev AL:=@List.getElem?_reverse
abbrev AM:=@Option.some.inj
abbrev AN:=@Array.getElem?_modify
abbrev AO:=@Go.Lib.cell_of_heap
abbrev AP:=@Go.Lib.byteCells_length
abbrev Fp:=@Int.mul_neg_of_neg_of_pos
abbrev Fq:=@List.map_take
abbrev Fr:=@Int.mul_one
abbrev Fs:=@Go.Lib.strCells_length
abbrev Ft:=@Int.pow_mul
abbrev Nq:=@Option.getD_some
abbrev Nr:=@Int.natCast_add
abbrev Ns:=@Int.sign_mul_natAbs
abbrev Nt:=@List.reverse_cons
abbrev Nu:=@List.reverse_append
abbrev Nv:=@Rat.divInt_ofNat
abbrev Nw:=@beq_eq_false_iff_ne
abbrev Nx:=@List.drop_length
abbrev ch:=@List.flatMap_cons
abbrev dM:=@List.take_length
abbrev iA:=@List.length_reverse
abbrev lP:=@Int.one_mul
abbrev lQ:=@Int.pow_succ
abbrev n3:=@Bool.true_and
abbrev rE:=@Int.zero_mul
abbrev tW:=@Int.lt_trichotomy
abbrev tX:=@Nat.sub_zero
abbrev tY:=@Nat.lt_succ_self
abbrev wx:=@Int.mul_pos
abbrev wy:=@Int.mul_add
abbrev wz:=@Nat.le_succ
end Go.Proofs
namespace Go.Proofs.Fl
open Go.RowKit Go.Proofs.Dig
attribute [local irreducible] IntKind.wrap a7 be bq bw
def bT(a b:Rat):Int:=aN (a.num*(b.den:Int)) (b.num*(a.den:Int))
theorem L9(z:Int):(z<0/\aN z 0 = -1)\/(z=0/\aN z 0=0)\/(0<z/\aN z 0=1):=by
 unfold aN;rcases tW z 0 with h|h|h
 . left;exact⟨h,by rw[ay h]⟩
 . right;left;exact⟨h,by rw[am (by omega),am (by omega)]⟩
 . right;right;exact⟨h,by rw[am (by omega),ay h]⟩
theorem un{x y:Int}(h:x<y):aN x y = -1:=by unfold aN;rw[ay h]
theorem uo{x y:Int}(h:y<x):aN x y=1:=by unfold aN;rw[am (by omega),ay h]
theorem GQ{x y:Int}(h:x=y):aN x y=0:=by unfold aN;rw[am (by omega),am (by omega)]
theorem pU{J:Keep}{a b:Rat}{x y r:Int}(c1:C J 52 [qr a] (.int .i64 x))(c2:C J 52 [qr b] (.int .i64 y))(hx : -1<=x/\x<=1)(hy : -1<=y/\y<=1)(hxy:x≠y\/x=0)
 (hw:IntKind.wrap .i64 ((x-y).tdiv 2)=r) (hr : -1<=r/\r<=1):C J 32 [qr a,qr b] (.int .i64 (x-y-r)):=by
 refine aH Tryz.func32 rfl rfl rfl ?_;by_cases h:x≠y
 . repeat((first|refine W.R ?_|refine W.c ?_|refine⟨_,c1,?_⟩|refine⟨_,c2,?_⟩|refine⟨by omega,_,hw,?_⟩|refine ap (by omega) ?_|refine⟨true,bne_iff_ne.2 (by omega),?_⟩|refine xr ?_|refine xB ?_);conv=>whnf)
   rfl
 . have h0:x=0:=by omega
   have h1:y=0:=by omega
   subst h0;subst h1;repeat((first|refine W.R ?_|refine W.c ?_|refine⟨_,c1,?_⟩|refine⟨_,c2,?_⟩|refine⟨by omega,_,hw,?_⟩|refine ap (by omega) ?_|refine xT (by omega) ?_|refine⟨false,bne_eq_false_iff_eq.2 (by omega),?_⟩|refine xr ?_|refine xA ?_);conv=>whnf)
   rfl
theorem IC{J:Keep}{a b:Rat}{x:Int}(c1:C J 52 [qr a] (.int .i64 x))(c2:C J 52 [qr b] (.int .i64 x))(hx:x=1\/x = -1)(ha:al a<2^38)(hb:al b<2^38) :
 C J 32 [qr a,qr b] (.int .i64 (x*aN ((a.num.natAbs*b.den:Nat):Int) ((b.num.natAbs*a.den:Nat):Int))):=by
 refine aH Tryz.func32 rfl rfl rfl ?_;have d1:=mj J (q:=a) (by omega);have d2:=mj J (q:=b) (by omega);unfold al at ha hb;have m1:=l9 J (a:=a.num.natAbs) (b:=b.den) (by omega);have m2:=l9 J (a:=b.num.natAbs) (b:=a.den) (by omega);have l1:=iC a.num.natAbs b.den;have c3:=IF J (a:=a.num.natAbs*b.den) (b:=b.num.natAbs*a.den) (by omega);obtain⟨k,hk⟩:∃k,aN ((a.num.natAbs*b.den:Nat):Int) ((b.num.natAbs*a.den:Nat):Int)=k:=⟨_,rfl⟩;have hk1 : -1<=k/\k<=1:=by rw[<-hk];unfold aN;split<;>(try split)<;>omega
 rw[hk] at c3 ⊢;have hm:IntKind.wrap .i64 (x*k)=x*k:=dv (by rcases hx with rfl|rfl<;>omega);rcases hx with rfl|rfl
 . repeat((first|refine W.R ?_|refine W.c ?_|refine⟨_,c1,?_⟩|refine⟨_,c2,?_⟩|refine⟨_,d1,?_⟩|refine⟨_,d2,?_⟩|refine⟨_,m1,?_⟩|refine⟨_,m2,?_⟩|refine⟨_,c3,?_⟩|refine ap (by omega) ?_|refine xF (by omega) ?_|refine⟨false,bne_eq_false_iff_eq.2 (by omega),?_⟩|refine xr ?_|refine xA ?_);conv=>whnf)
   rfl
 . repeat((first|refine W.R ?_|refine W.c ?_|refine⟨_,c1,?_⟩|refine⟨_,c2,?_⟩|refine⟨_,d1,?_⟩|refine⟨_,d2,?_⟩|refine⟨_,m1,?_⟩|refine⟨_,m2,?_⟩|refine⟨_,c3,?_⟩|refine ap (by omega) ?_|refine xF (by omega) ?_|refine⟨false,bne_eq_false_iff_eq.2 (by omega),?_⟩|refine xr ?_|refine xA ?_);conv=>whnf)
   rfl
theorem DC{J:Keep}{a b:Rat}(ha:al a<2^38)(hb:al b<2^38):C J 32 [qr a,qr b] (.int .i64 (bT a b)):=by
 have c1:=qq J a;have c2:=qq J b;have da:(0:Int)<(a.den:Int):=by have:=fh a;omega
 have db:(0:Int)<(b.den:Int):=by have:=fh b;omega
 rcases L9 a.num with⟨ha1,e1⟩|⟨ha1,e1⟩|⟨ha1,e1⟩<;>rcases L9 b.num with⟨dK,e2⟩|⟨dK,e2⟩|⟨dK,e2⟩<;>rw[e1] at c1<;>rw[e2] at c2
 . have e:bT a b=(-1)*aN ((a.num.natAbs*b.den:Nat):Int) ((b.num.natAbs*a.den:Nat):Int):=by
    unfold bT;have x1:((a.num.natAbs*b.den:Nat):Int) = -(a.num*(b.den:Int)):=by
     rw[kN,show((a.num.natAbs:Nat):Int) = -a.num by omega,kQ]
    have x2:((b.num.natAbs*a.den:Nat):Int) = -(b.num*(a.den:Int)):=by
     rw[kN,show((b.num.natAbs:Nat):Int) = -b.num by omega,kQ]
    rw[x1,x2];unfold aN;split<;>(try split)<;>(try split)<;>(try split)<;>omega
   rw[e];exact IC c1 c2 (by omega) ha hb
 . have e:bT a b=(-1)-0-0:=by
    unfold bT;have p1:=Fp ha1 db;rw[dK,rE];rw[un (by omega)];rfl
   rw[e];exact pU c1 c2 (by omega) (by omega) (by omega) (by kernel_rfl) (by omega)
 . have e:bT a b=(-1)-1-(-1):=by
    unfold bT;have p1:=Fp ha1 db;have p2:=wx dK da;rw[un (by omega)];rfl
   rw[e];exact pU c1 c2 (by omega) (by omega) (by omega) (by kernel_rfl) (by omega)
 . have e:bT a b=0-(-1)-0:=by
    unfold bT;rw[ha1,rE];have p2:=Fp dK da;rw[uo (by omega)];rfl
   rw[e];exact pU c1 c2 (by omega) (by omega) (by omega) (by kernel_rfl) (by omega)
 . have e:bT a b=0-0-0:=by
    unfold bT;rw[ha1,rE];rw[dK,rE];rw[GQ (by omega)];rfl
   rw[e];exact pU c1 c2 (by omega) (by omega) (by omega) (by kernel_rfl) (by omega)
 . have e:bT a b=0-1-0:=by
    unfold bT;rw[ha1,rE];have p2:=wx dK da;rw[un (by omega)];rfl
   rw[e];exact pU c1 c2 (by omega) (by omega) (by omega) (by kernel_rfl) (by omega)
 . have e:bT a b=1-(-1)-1:=by
    unfold bT;have p1:=wx ha1 db;have p2:=Fp dK da;rw[uo (by omega)];rfl
   rw[e];exact pU c1 c2 (by omega) (by omega) (by omega) (by kernel_rfl) (by omega)
 . have e:bT a b=1-0-0:=by
    unfold bT;have p1:=wx ha1 db;rw[dK,rE];rw[uo (by omega)];rfl
   rw[e];exact pU c1 c2 (by omega) (by omega) (by omega) (by kernel_rfl) (by omega)
 . have e:bT a b=1*aN ((a.num.natAbs*b.den:Nat):Int) ((b.num.natAbs*a.den:Nat):Int):=by
    unfold bT;have x1:((a.num.natAbs*b.den:Nat):Int)=(a.num*(b.den:Int)):=by
     rw[kN,show((a.num.natAbs:Nat):Int)=a.num by omega]
    have x2:((b.num.natAbs*a.den:Nat):Int)=(b.num*(a.den:Int)):=by
     rw[kN,show((b.num.natAbs:Nat):Int)=b.num by omega]
    rw[x1,x2];unfold aN;split<;>(try split)<;>(try split)<;>(try split)<;>omega
   rw[e];exact IC c1 c2 (by omega) ha hb
def kh(n:Int)(most:Nat):Nat:=(min n (most:Int)).toNat
theorem Uo(J:Keep)(n:Int)(most:Nat):C J 164 [.int .i64 n,.int .i64 most] (.int .i64 (kh n most:Nat)):=by
 refine aH Tryz.func164 rfl rfl rfl ?_;have e1:(if(most:Int)<n then(most:Int) else n)=min n (most:Int):=by split<;>omega
 have e2:(if min n (most:Int)>0 then min n (most:Int) else 0)=((kh n most:Nat):Int):=by unfold kh;split<;>omega
 repeat((first|refine W.RS ?_|refine W.ret ?_|refine⟨_,e1,?_⟩|refine⟨_,e2,?_⟩);conv=>whnf)
 rfl
noncomputable abbrev sd(a b:Rat):IV:=.agg [.sl ((dg a.num.natAbs).map u32),.bool (decide (a.num<0)),.sl ((dg (a.den-1)).map u32),.sl ((dg b.num.natAbs).map u32),.bool (decide (b.num<0)),.sl ((dg (b.den-1)).map u32)]
theorem VF{J:Keep}{a b:Rat}(ha:al a<2^38)(hb:al b<2^38):C J 63 [sd a b] (.bool (decide (bT a b<=0))):=by
 refine aH Tryz.func63 rfl rfl rfl ?_;have c1:=DC (J:=J) ha hb;repeat((first|refine W.RS ?_|refine W.ret ?_|refine⟨_,c1,?_⟩|refine⟨_,rfl,?_⟩|refine xr ?_);conv=>whnf)
 rfl
theorem w7{z:Int}{d:Nat}(hd:0<d):al (mkRat z d)<=ln z.natAbs+ln d:=by
 unfold al;rw[pM hd,rT hd];have h1:(sv (decide (z<0)) (z.natAbs/Nat.gcd z.natAbs d)).natAbs<=z.natAbs:=by
  have h2:=m5 z.natAbs (Nat.gcd z.natAbs d);generalize z.natAbs/Nat.gcd z.natAbs d=t at h2 ⊢;unfold sv;split<;>omega
 have h2:=jX h1;have h3:=jX (m5 d (Nat.gcd z.natAbs d));omega
theorem sc(a b:Rat):al (a*b)<=al a+al b:=by
 rw[wv];have h:=w7 (z:=a.num*b.num) (d:=a.den*b.den) (n0 (fh a) (fh b));have h1:=iC a.num.natAbs b.num.natAbs;have h2:=iC a.den b.den;rw[fB] at h;unfold al at *;omega
theorem S5(a b:Rat):al (a+b)<=2*al a+2*al b+1:=by
 rw[Rat.add_def'];have h:=w7 (z:=a.num*(b.den:Int)+b.num*(a.den:Int)) (d:=a.den*b.den) (n0 (fh a) (fh b));have h1:=iC a.num.natAbs b.den;have h1':=iC b.num.natAbs a.den;have h2:=iC a.den b.den;have e1:(a.num*(b.den:Int)).natAbs=a.num.natAbs*b.den:=by rw[fB,fc]
 have e1':(b.num*(a.den:Int)).natAbs=b.num.natAbs*a.den:=by rw[fB,fc]
 have h3:=Hh (a.num.natAbs*b.den) (b.num.natAbs*a.den);have h4:(a.num*(b.den:Int)+b.num*(a.den:Int)).natAbs<=a.num.natAbs*b.den+b.num.natAbs*a.den:=by
  rw[<-e1,<-e1'];exact Np _ _
 have h5:=jX h4;unfold al at *;omega
def ai(d:Nat):IV:=.int .i64 d
theorem jH{l:List Nat}{j:Nat}(h:j<l.length):(l.map ai)[j]?=some (ai (l.getD j 0)):=by simp[h]
theorem Wx{l:List Nat}:∀y∈l.map ai,y.cells.length=1:=by
 intro y hy;obtain⟨d,_,rfl⟩:=List.mem_map.1 hy;rfl
theorem WB{a b:List IV}(h:a=b):SV.iv (.sl a)=SV.iv (.sl b):=by rw[h]
theorem CT(J:Keep){l:List Nat}(hl:l.length<2^60):C J 119 [.sl (l.map ai)] (.sl ((l.dropWhile (· == 0)).map ai)):=by
 refine aH Tryz.func119 rfl rfl rfl ?_;repeat((first|refine W.R ?_|refine W.c ?_);conv=>whnf)
 refine W.loop (G:={ m:List Nat // m.dropWhile (· == 0)=l.dropWhile (· == 0)/\m.length<=l.length }) (fun m=>aF [(0,.iv (.sl (m.1.map ai)))] [] 10) (fun m=>m.1.length) ⟨l,rfl,ak _⟩
  (Wk.tab [] ⟨aa,ab⟩ trivial rfl) ?_
 rintro⟨m,hm,hml⟩;show W J _ _ (aF [(0,.iv (.sl (m.map ai)))] [] 10) _;have lm:(m.map ai).length=m.length:=by simp
 cases m with
 |nil=>
  repeat((first|refine W.R ?_|refine W.c ?_|refine⟨_,rfl,?_⟩|refine xr ?_|refine xA ?_);conv=>whnf)
  rw[<-hm];rfl
 |cons x m=>
  have hl2:(x::m).length=m.length+1:=rfl;by_cases h0:x=0
  . subst h0;repeat((first|refine W.R ?_|refine W.c ?_|refine⟨0,ai 0,rfl,rfl,rfl,?_⟩|refine⟨.inl rfl,.inr Wx,?_⟩|refine⟨_,kr _,?_⟩|refine xT (by omega) ?_|refine xr ?_|refine And.intro (by omega) ?_|refine xB ?_);conv=>whnf)
    refine⟨⟨m,by rw[<-hm];simp,by omega⟩,Wk.tab [] ⟨⟨WB ?_,rfl⟩,ab⟩ trivial rfl,?_⟩
    . rw[aC (by simp)];rfl
    . show m.length<(0::m).length;omega
  . repeat((first|refine W.R ?_|refine W.c ?_|refine⟨0,ai x,rfl,rfl,rfl,?_⟩|refine⟨_,kr _,?_⟩|refine xT (by omega) ?_|refine xF (by omega) ?_|refine xr ?_|refine xB ?_);conv=>whnf)
    have e:(x::m).dropWhile (· == 0)=x::m:=by simp[h0]
    rw[<-hm,e];rfl
theorem TW(J:Keep)(l m:List Nat):C J 205 [.sl (l.map ai),.sl (m.map ai)] (.int .i64 (max l.length m.length:Nat)):=by
 have la:(l.map ai).length=l.length:=by simp
 have lb:(m.map ai).length=m.length:=by simp
 refine aH Tryz.func205 rfl rfl rfl ?_;by_cases h:m.length<l.length
 . repeat((first|refine W.R ?_|refine W.c ?_|refine xT (by omega) ?_|refine⟨_,rfl,?_⟩|refine xr ?_);conv=>whnf)
   rw[show max l.length m.length=(l.map ai).length by omega];rfl
 . repeat((first|refine W.R ?_|refine W.c ?_|refine xF (by omega) ?_|refine⟨_,rfl,?_⟩|refine xr ?_);conv=>whnf)
   rw[show max l.length m.length=(m.map ai).length by omega];rfl
theorem jv(J:Keep){l:List Nat}{i:Nat}(hl:l.length<2^60)(hi:i<2^60):C J 206 [.sl (l.map ai),.int .i64 i] (.int .i64 (l.reverse.getD i 0:Nat)):=by
 have la:(l.map ai).length=l.length:=by simp
 refine aH Tryz.func206 rfl rfl rfl ?_;by_cases h:l.length<=i
 . repeat((first|refine W.R ?_|refine W.c ?_|refine xT (by omega) ?_|refine⟨_,rfl,?_⟩|refine xr ?_);conv=>whnf)
   have e:l.reverse.getD i 0=0:=by simp[h]
   rw[e];rfl
 . repeat((first|refine W.R ?_|refine W.c ?_|refine⟨l.length-1-i,_,by omega,jH (by omega),rfl,?_⟩|refine ap (by omega) ?_|refine xF (by omega) ?_|refine⟨_,rfl,?_⟩|refine xr ?_);conv=>whnf)
   have e:l.reverse.getD i 0=l.getD (l.length-1-i) 0:=by
    rw[br,br,AL (by omega)]
   rw[e];rfl
abbrev aq:Nat:=32768
def hv(l:List Nat):Nat:=nv aq l.reverse
def Hk(l:List Nat):Prop:=Ok aq l.reverse
theorem A2{l m:List Nat}(hl:Hk l)(hm:Hk m)(h:l.length<m.length):hv l<hv m :=
 A0 (by decide) hl.dg hm.nm (by simpa using h)
theorem K0{l m:List Nat}{i:Nat}(hl:Hk l)(he:l.length=m.length)(hi:i<l.length)(ht:l.take i=m.take i)(hd:l.getD i 0<m.getD i 0):hv l<hv m:=by
 have e1:l.reverse=(l.drop (i+1)).reverse++l.getD i 0::(l.take i).reverse:=by
  have:l=l.take i++l.getD i 0::l.drop (i+1):=by
   rw[br,a6 hi];simp
  rw[show l.reverse=(l.take i++l.getD i 0::l.drop (i+1)).reverse by rw[<-this]];simp
 have e2:m.reverse=(m.drop (i+1)).reverse++m.getD i 0::(l.take i).reverse:=by
  have:m=m.take i++m.getD i 0::m.drop (i+1):=by
   rw[br,a6 (show i<m.length by omega)];simp
  rw[ht,show m.reverse=(m.take i++m.getD i 0::m.drop (i+1)).reverse by rw[<-this]];simp
 unfold hv;rw[e1,e2];refine Bw ?_ (by simp;omega) hd;have:=hl.dg;rw[e1] at this;exact this.left
theorem T8(J:Keep){l m:List Nat}(hl:Hk l)(hm:Hk m)(hs:l.length<2^60):C J 173 [.sl (l.map ai),.sl (m.map ai)] (.int .i64 (aN (hv l:Nat) (hv m:Nat))):=by
 have la:(l.map ai).length=l.length:=by simp
 have lb:(m.map ai).length=m.length:=by simp
 refine aH Tryz.func173 rfl rfl rfl ?_;by_cases h:l.length=m.length
 . repeat((first|refine W.R ?_|refine W.c ?_|refine⟨false,bne_eq_false_iff_eq.2 (by omega),?_⟩|refine⟨_,rfl,?_⟩|refine xr ?_);conv=>whnf)
   refine W.loop (G:={ i:Nat // i<=l.length/\l.take i=m.take i }) (fun i=>aF [(0,.iv (.sl (l.map ai))),(1,.iv (.sl (m.map ai))),(5,.iv (.int .i64 (i.1:Int)))] [] 10) (fun i=>l.length-i.1) ⟨0,by omega,by simp⟩
    (Wk.tab [] ⟨aa,aa,aa,ab⟩ trivial rfl) ?_
   rintro⟨i,hi,he⟩;show W J _ _ (aF [(0,.iv (.sl (l.map ai))),(1,.iv (.sl (m.map ai))),(5,.iv (.int .i64 (i:Int)))] [] 10) _;by_cases h2:i<l.length
   . rcases Nat.lt_trichotomy (l.getD i 0) (m.getD i 0) with h3|h3|h3
     . have hlt:=K0 hl h h2 he h3;repeat((first|refine W.R ?_|refine W.c ?_|refine⟨i,_,rfl,jH (by omega),rfl,?_⟩|refine xT (by omega) ?_|refine⟨_,rfl,?_⟩|refine xr ?_);conv=>whnf)
       rw[un (by omega)];rfl
     . repeat((first|refine W.R ?_|refine W.c ?_|refine⟨i,_,rfl,jH (by omega),rfl,?_⟩|refine ap (by omega) ?_|refine xT (by omega) ?_|refine xF (by omega) ?_|refine⟨_,rfl,?_⟩|refine xr ?_);conv=>whnf)
       refine⟨⟨i+1,by omega,?_⟩,Wk.tab [] ⟨aa,aa,aa,ab⟩ trivial rfl,?_⟩
       . rw[gg,gg,he];rw[br,br,a6 h2,a6 (show i<m.length by omega)] at h3;rw[a6 h2,a6 (show i<m.length by omega)];simp only[Nq] at h3;rw[h3]
       . show l.length-(i+1)<l.length-i;omega
     . have hlt:=K0 hm h.symm (by omega) he.symm h3;repeat((first|refine W.R ?_|refine W.c ?_|refine⟨i,_,rfl,jH (by omega),rfl,?_⟩|refine xT (by omega) ?_|refine xF (by omega) ?_|refine⟨_,rfl,?_⟩|refine xr ?_);conv=>whnf)
       rw[uo (by omega)];rfl
   . have e:l=m:=by
      have hil:i=l.length:=by omega
      rw[hil,aC (ak _),aC (by omega)] at he;exact he
     repeat((first|refine W.R ?_|refine W.c ?_|refine xF (by omega) ?_|refine⟨_,rfl,?_⟩|refine xr ?_);conv=>whnf)
     rw[e,GQ rfl];rfl
 . by_cases h2:l.length<m.length
   . have:=A2 hl hm h2;repeat((first|refine W.R ?_|refine W.c ?_|refine xT (by omega) ?_|refine⟨true,bne_iff_ne.2 (by omega),?_⟩|refine⟨_,rfl,?_⟩|refine xr ?_);conv=>whnf)
     rw[un (by omega)];rfl
   . have:=A2 hm hl (by omega);repeat((first|refine W.R ?_|refine W.c ?_|refine xF (by omega) ?_|refine⟨true,bne_iff_ne.2 (by omega),?_⟩|refine⟨_,rfl,?_⟩|refine xr ?_);conv=>whnf)
     rw[uo (by omega)];rfl
theorem D4(n:Nat):∃l,Ok aq l/\nv aq l=n:=by
 induction n using Nat.strongRecOn with
 |_ n ih=>
  by_cases h:n=0
  . exact⟨[],Ok.nil _,by rw[h];rfl⟩
  . obtain⟨l,h1,h2⟩:=ih (n/aq) (Nj (by omega) (by decide));refine⟨n%aq::l,⟨?_,?_⟩,?_⟩
    . intro d hd;rcases List.mem_cons.1 hd with rfl|hd
      . exact iy _ (by decide)
      . exact h1.dg d hd
    . intro d hd;cases l with
      |nil=>
       simp at hd;subst hd;have:n/aq=0:=h2.symm;have h5:=nY n aq;rw[this] at h5;omega
      |cons x l=>exact h1.nm d (by rwa[Nh] at hd)
    . rw[iE,h2,Nat.mod_add_div]
noncomputable def dh(n:Nat):List Nat:=(D4 n).choose.reverse
theorem fm(n:Nat):Hk (dh n):=by unfold Hk dh;rw[pB];exact(D4 n).choose_spec.1
theorem d9(n:Nat):hv (dh n)=n:=by unfold hv dh;rw[pB];exact(D4 n).choose_spec.2
theorem DZ{l:List Nat}(h:Hk l){n:Nat}(e:hv l=n):l=dh n:=by
 have:=Ds (by decide) h (fm n) (by show hv l=hv (dh n);rw[e,d9]);exact List.reverse_inj.1 this
theorem G0(l:List Nat):(l.dropWhile (· == 0)).reverse=strip l.reverse:=by
 unfold strip;rw[pB]
theorem Ce{l:List Nat}(h:Dg aq l.reverse){n:Nat}(e:hv l=n):l.dropWhile (· == 0)=dh n:=by
 refine DZ ?_ ?_
 . unfold Hk;rw[G0];exact Ok.strip h
 . unfold hv at *;rw[G0,H9];exact e
theorem nh:dh 0=[]:=(DZ (l:=[]) (Ok.nil _) rfl).symm
theorem yU{n:Nat}(h:dh n=[]):n=0:=by have:=d9 n;rw[h] at this;exact this.symm
noncomputable abbrev zh(z:Int):IV:=.agg [.int .i64 z.sign,.sl ((dh z.natAbs).map ai)]
theorem sk(J:Keep){l:List Nat}{s:Int}(hs:s=1\/s = -1\/hv l=0)(hd:Dg aq l.reverse)(hl:l.length<2^60):C J 58 [.int .i64 s,.sl (l.map ai)] (zh (s*(hv l:Nat))):=by
 refine aH Tryz.func58 rfl rfl rfl ?_;have c1:=CT J hl;rw[Ce hd rfl] at c1;have le:((dh (hv l)).map ai).length=(dh (hv l)).length:=by simp
 by_cases h0:hv l=0
 . rw[h0,nh] at c1;repeat((first|refine W.R ?_|refine W.c ?_|refine⟨_,c1,?_⟩|refine⟨_,rfl,?_⟩|refine xr ?_);conv=>whnf)
   rw[h0,show s*((0:Nat):Int)=0 by simp,show zh 0=.agg [.int .i64 0,.sl ((dh 0).map ai)] from rfl,nh];rfl
 . have h1:(dh (hv l)).length≠0:=fun e=>h0 (yU (rA e));repeat((first|refine W.R ?_|refine W.c ?_|refine⟨_,c1,?_⟩|refine xF (by omega) ?_|refine⟨_,rfl,?_⟩|refine xr ?_);conv=>whnf)
   have e1:(s*(hv l:Nat)).sign=s:=by
    rcases hs with rfl|rfl|h
    . rw[lP,lN (by omega)]
    . rw[kQ,lP,m6 (by omega)]
    . exact absurd h h0
   have e2:(s*(hv l:Nat)).natAbs=hv l:=by
    rcases hs with rfl|rfl|h
    . omega
    . omega
    . exact absurd h h0
   rw[zh,e1,e2];rfl
theorem qD(z:Int):z.sign = -1\/z.sign=0\/z.sign=1:=by
 rcases tW z 0 with h|h|h
 . exact .inl (m6 h)
 . right;left;rw[h];rfl
 . exact .inr (.inr (lN h))
theorem CY(J:Keep)(z:Int):C J 118 [zh z] (zh (-z)):=by
 refine aH Tryz.func118 rfl rfl rfl ?_;have h:=qD z;have hw:IntKind.wrap .i64 (0-z.sign) = -z.sign:=by rw[dv (by omega)];omega
 repeat((first|refine W.RS ?_|refine W.ret ?_|refine⟨_,hw,?_⟩);conv=>whnf)
 rw[zh,Int.sign_neg,ww];rfl
theorem Sc{O:List Nat}{i x:Nat}(h:i<O.length):O.reverse.set (O.length-1-i) x=(O.set i x).reverse:=by
 apply px;intro j;simp only[AA,iA];by_cases hj:j<O.length
 . rw[AL (by simpa using hj),AL (by simpa using hj)];simp only[cO,AA];by_cases e:i=O.length-1-j
   . have e2:O.length-1-i=j:=by omega
     rw[ay e2,ay e,ay (show O.length-1-i<O.length by omega),ay h]
   . have e2:¬O.length-1-i=j:=by omega
     rw[am e2,am e]
 . rw[ry (by simp;omega),ry (by simp;omega)];have:¬O.length-1-i=j:=by omega
   simp[this]
theorem sI{A M O:List Nat}{i x:Nat}{k c c':Int}(hi:i<O.length)(hs:(nv aq (O.take i):Int)+(aq:Int)^i*c=(nv aq (A.take i):Int)+k*(nv aq (M.take i):Int))
 (hx:(A.getD i 0:Int)+k*(M.getD i 0:Int)+c=(x:Int)+32768*c') :
 (nv aq ((O.set i x).take (i+1)):Int)+(aq:Int)^(i+1)*c'=(nv aq (A.take (i+1)):Int)+k*(nv aq (M.take (i+1)):Int):=by
 have g:∀l:List Nat,nv aq (l.take (i+1))=nv aq (l.take i)+aq^i*l.getD i 0:=fun l=>by
  by_cases h:i<l.length
  . rw[AZ aq l i h,br,a6 h];rfl
  . have e:l.getD i 0=0:=by simp[Nat.not_lt.1 h]
    rw[e,aC (show l.length<=i+1 by omega),aC (Nat.not_lt.1 h)];exact(fA _).symm
 have hl:(O.take i).length=i:=by rw[cy];omega
 rw[pG hi,l5,hl,g A,g M];simp only[Nr,kN,Int.natCast_pow];rw[lQ];have e1:((aq:Nat):Int)^i*((A.getD i 0:Int)+k*(M.getD i 0:Int)+c)=((aq:Nat):Int)^i*((x:Int)+32768*c'):=by rw[hx]
 have e2:((aq:Nat):Int)=32768:=rfl;rw[e2] at *;generalize ((32768:Int)^i)=p at *;rw[wy,wy,wy] at e1;rw[wy,Int.mul_left_comm k,Int.mul_assoc];omega
theorem oZ{O:List Nat}{i j x:Nat}{y:Int}(h:i<O.length)(hj:j=O.length-1-i)(hy:y=(x:Int)):some (Bx.arr 3 1 ((O.reverse.map ai).set j (.int .i64 y)) false)=some (Bx.arr 3 1 ((O.set i x).reverse.map ai) false):=by
 rw[hj,hy,<-Sc h,List.map_set];rfl
theorem Ww{a b:List IV}(h:a=b):some (Bx.arr 3 1 a false)=some (Bx.arr 3 1 b false):=by rw[h]
theorem JX(J:Keep){l m:List Nat}{k:Int}(hk:k=1\/k = -1)(hl:Dg aq l.reverse)(hm:Dg aq m.reverse)(hs:l.length<2^40)(hs2:m.length<2^40)(hle:0<=(hv l:Int)+k*(hv m:Int)) :
 C J 172 [.sl (l.map ai),.sl (m.map ai),.int .i64 k] (.sl ((dh ((hv l:Int)+k*(hv m:Int)).toNat).map ai)):=by
 obtain⟨N,hN⟩:∃N,N=max l.length m.length+1:=⟨_,rfl⟩;have c1:=TW J l m;obtain⟨N',hN'⟩:∃N',max l.length m.length=N':=⟨_,rfl⟩;rw[hN'] at c1;refine aH Tryz.func172 rfl rfl rfl ?_;repeat (first|((first|refine W.R ?_|refine W.c ?_|refine⟨_,c1,?_⟩|refine⟨rfl,N,by omega,?_⟩);conv=>whnf)|(refine⟨by show 8*_<=(281474976710656:Nat);omega,by unfold maxLen;omega,?_⟩;conv=>whnf)|(refine ap (by omega) ?_;conv=>whnf))
 refine W.loop (G:={ p:Nat×Int×List Nat // p.1<=N/\ -1<=p.2.1/\p.2.1<=1/\p.2.2.length=N/\Dg aq p.2.2/\(nv aq (p.2.2.take p.1):Int)+(aq:Int)^p.1*p.2.1=(nv aq (l.reverse.take p.1):Int)+k*(nv aq (m.reverse.take p.1):Int) })
  (fun p=>aF [(0,.iv (.sl (l.map ai))),(1,.iv (.sl (m.map ai))),(2,.iv (.int .i64 (k))),(7,.iv (.int .i64 (N:Int))),(8,.ref 0 0 N true),(9,.iv (.int .i64 p.1.2.1)),(10,.iv (.int .i64 (p.1.1:Int)))]
    [(0,.arr 3 1 ((p.1.2.2).reverse.map ai) false)] 30) (fun p=>N-p.1.1)
  ⟨(0,0,List.replicate N 0),by simp,by simp,by simp,by simp,Dg.replicate (by decide) _,by simp[nv]⟩
  (Wk.tab [(0,7)] ⟨aa,aa,aa,⟨dm (by omega),rfl⟩,⟨qG (by omega),rfl⟩,aa,aa,ab⟩ ⟨Ww ?_,ab⟩ rfl) ?_
 . rw[List.reverse_replicate,wo];rfl
 rintro⟨⟨i,c,O⟩,hi,hc1,hc2,hO,hd,hs⟩;dsimp only at hi hc1 hc2 hO hd hs;show W J _ _ (aF [(0,.iv (.sl (l.map ai))),(1,.iv (.sl (m.map ai))),(2,.iv (.int .i64 (k))),(7,.iv (.int .i64 (N:Int))),(8,.ref 0 0 N true),(9,.iv (.int .i64 c)),(10,.iv (.int .i64 (i:Int)))]
  [(0,.arr 3 1 ((O).reverse.map ai) false)] 30) _
 have lO:(O.reverse.map ai).length=O.length:=by simp
 have hs1:l.length<2^60:=by omega
 have hs3:m.length<2^60:=by omega
 have hx:l.reverse.getD i 0<32768:=hl.getD (by decide) i;have hy:m.reverse.getD i 0<32768:=hm.getD (by decide) i;by_cases h:i<N
 . rcases hk with rfl|rfl
   . by_cases h1:32768<=(l.reverse.getD i 0:Int)+m.reverse.getD i 0+c
     . have hp:=sI (x:=((l.reverse.getD i 0:Int)+m.reverse.getD i 0+c-32768).toNat) (c':=1) (k:=1) (show i<O.length by omega) hs (by omega);repeat (first|((first|refine W.R ?_|refine W.c ?_|refine⟨_,jv J (l:=l) (i:=i) hs1 (by omega),?_⟩|refine⟨_,jv J (l:=m) (i:=i) hs3 (by omega),?_⟩|refine⟨(rfl:(_:Nat)=_),N-1-i,by omega,by omega,?_⟩);conv=>whnf)|(refine⟨bt,_,jH (by rw[iA];omega),?_⟩;conv=>whnf)|((first|refine ap (by omega) ?_|refine xT (by omega) ?_|refine xF (by omega) ?_|refine xr ?_);conv=>whnf))
       exact⟨⟨(i+1,1,O.set i ((l.reverse.getD i 0:Int)+m.reverse.getD i 0+c-32768).toNat),by dsimp only;omega,by dsimp only;omega,by dsimp only;omega,by dsimp only;rw[cO];exact hO,hd.set (by simp only[aq];omega),hp⟩,
        Wk.tab [] ⟨aa,aa,aa,aa,aa,aa,aa,ab⟩ ⟨oZ (by omega) (by omega) (by omega),ab⟩ rfl,by dsimp only;omega⟩
     . by_cases h2:(l.reverse.getD i 0:Int)+m.reverse.getD i 0+c<0
       . have hp:=sI (x:=((l.reverse.getD i 0:Int)+m.reverse.getD i 0+c+32768).toNat) (c':=(-1)) (k:=1) (show i<O.length by omega) hs (by omega);repeat (first|((first|refine W.R ?_|refine W.c ?_|refine⟨_,jv J (l:=l) (i:=i) hs1 (by omega),?_⟩|refine⟨_,jv J (l:=m) (i:=i) hs3 (by omega),?_⟩|refine⟨(rfl:(_:Nat)=_),N-1-i,by omega,by omega,?_⟩);conv=>whnf)|(refine⟨bt,_,jH (by rw[iA];omega),?_⟩;conv=>whnf)|((first|refine ap (by omega) ?_|refine xT (by omega) ?_|refine xF (by omega) ?_|refine xr ?_);conv=>whnf))
         exact⟨⟨(i+1,(-1),O.set i ((l.reverse.getD i 0:Int)+m.reverse.getD i 0+c+32768).toNat),by dsimp only;omega,by dsimp only;omega,by dsimp only;omega,by dsimp only;rw[cO];exact hO,hd.set (by simp only[aq];omega),hp⟩,
          Wk.tab [] ⟨aa,aa,aa,aa,aa,aa,aa,ab⟩ ⟨oZ (by omega) (by omega) (by omega),ab⟩ rfl,by dsimp only;omega⟩
       . have hp:=sI (x:=((l.reverse.getD i 0:Int)+m.reverse.getD i 0+c).toNat) (c':=0) (k:=1) (show i<O.length by omega) hs (by omega);repeat (first|((first|refine W.R ?_|refine W.c ?_|refine⟨_,jv J (l:=l) (i:=i) hs1 (by omega),?_⟩|refine⟨_,jv J (l:=m) (i:=i) hs3 (by omega),?_⟩|refine⟨(rfl:(_:Nat)=_),N-1-i,by omega,by omega,?_⟩);conv=>whnf)|(refine⟨bt,_,jH (by rw[iA];omega),?_⟩;conv=>whnf)|((first|refine ap (by omega) ?_|refine xT (by omega) ?_|refine xF (by omega) ?_|refine xr ?_);conv=>whnf))
         exact⟨⟨(i+1,0,O.set i ((l.reverse.getD i 0:Int)+m.reverse.getD i 0+c).toNat),by dsimp only;omega,by dsimp only;omega,by dsimp only;omega,by dsimp only;rw[cO];exact hO,hd.set (by simp only[aq];omega),hp⟩,
          Wk.tab [] ⟨aa,aa,aa,aa,aa,aa,aa,ab⟩ ⟨oZ (by omega) (by omega) (by omega),ab⟩ rfl,by dsimp only;omega⟩
   . by_cases h1:32768<=(l.reverse.getD i 0:Int)-m.reverse.getD i 0+c
     . have hp:=sI (x:=((l.reverse.getD i 0:Int)-m.reverse.getD i 0+c-32768).toNat) (c':=1) (k:=(-1)) (show i<O.length by omega) hs (by omega);repeat (first|((first|refine W.R ?_|refine W.c ?_|refine⟨_,jv J (l:=l) (i:=i) hs1 (by omega),?_⟩|refine⟨_,jv J (l:=m) (i:=i) hs3 (by omega),?_⟩|refine⟨(rfl:(_:Nat)=_),N-1-i,by omega,by omega,?_⟩);conv=>whnf)|(refine⟨bt,_,jH (by rw[iA];omega),?_⟩;conv=>whnf)|((first|refine ap (by omega) ?_|refine xT (by omega) ?_|refine xF (by omega) ?_|refine xr ?_);conv=>whnf))
       exact⟨⟨(i+1,1,O.set i ((l.reverse.getD i 0:Int)-m.reverse.getD i 0+c-32768).toNat),by dsimp only;omega,by dsimp only;omega,by dsimp only;omega,by dsimp only;rw[cO];exact hO,hd.set (by simp only[aq];omega),hp⟩,
        Wk.tab [] ⟨aa,aa,aa,aa,aa,aa,aa,ab⟩ ⟨oZ (by omega) (by omega) (by omega),ab⟩ rfl,by dsimp only;omega⟩
     . by_cases h2:(l.reverse.getD i 0:Int)-m.reverse.getD i 0+c<0
       . have hp:=sI (x:=((l.reverse.getD i 0:Int)-m.reverse.getD i 0+c+32768).toNat) (c':=(-1)) (k:=(-1)) (show i<O.length by omega) hs (by omega);repeat (first|((first|refine W.R ?_|refine W.c ?_|refine⟨_,jv J (l:=l) (i:=i) hs1 (by omega),?_⟩|refine⟨_,jv J (l:=m) (i:=i) hs3 (by omega),?_⟩|refine⟨(rfl:(_:Nat)=_),N-1-i,by omega,by omega,?_⟩);conv=>whnf)|(refine⟨bt,_,jH (by rw[iA];omega),?_⟩;conv=>whnf)|((first|refine ap (by omega) ?_|refine xT (by omega) ?_|refine xF (by omega) ?_|refine xr ?_);conv=>whnf))
         exact⟨⟨(i+1,(-1),O.set i ((l.reverse.getD i 0:Int)-m.reverse.getD i 0+c+32768).toNat),by dsimp only;omega,by dsimp only;omega,by dsimp only;omega,by dsimp only;rw[cO];exact hO,hd.set (by simp only[aq];omega),hp⟩,
          Wk.tab [] ⟨aa,aa,aa,aa,aa,aa,aa,ab⟩ ⟨oZ (by omega) (by omega) (by omega),ab⟩ rfl,by dsimp only;omega⟩
       . have hp:=sI (x:=((l.reverse.getD i 0:Int)-m.reverse.getD i 0+c).toNat) (c':=0) (k:=(-1)) (show i<O.length by omega) hs (by omega);repeat (first|((first|refine W.R ?_|refine W.c ?_|refine⟨_,jv J (l:=l) (i:=i) hs1 (by omega),?_⟩|refine⟨_,jv J (l:=m) (i:=i) hs3 (by omega),?_⟩|refine⟨(rfl:(_:Nat)=_),N-1-i,by omega,by omega,?_⟩);conv=>whnf)|(refine⟨bt,_,jH (by rw[iA];omega),?_⟩;conv=>whnf)|((first|refine ap (by omega) ?_|refine xT (by omega) ?_|refine xF (by omega) ?_|refine xr ?_);conv=>whnf))
         exact⟨⟨(i+1,0,O.set i ((l.reverse.getD i 0:Int)-m.reverse.getD i 0+c).toNat),by dsimp only;omega,by dsimp only;omega,by dsimp only;omega,by dsimp only;rw[cO];exact hO,hd.set (by simp only[aq];omega),hp⟩,
          Wk.tab [] ⟨aa,aa,aa,aa,aa,aa,aa,ab⟩ ⟨oZ (by omega) (by omega) (by omega),ab⟩ rfl,by dsimp only;omega⟩
 . have ir:i=N:=by omega
   have hlt:=fk hd;rw[hO] at hlt;rw[ir,aC (by omega),aC (by rw[iA];omega),aC (by rw[iA];omega)] at hs;have v1:hv l<aq^N':=g7 (fk hl) (dz (by decide) (by rw[iA];omega));have v2:hv m<aq^N':=g7 (fk hm) (dz (by decide) (by rw[iA];omega));have v3:aq^N'*2<=aq^N:=by
    rw[show N=N'+1 by omega,cr];exact fK _ (by decide)
   have hp:((aq:Nat):Int)^N=((aq^N:Nat):Int):=(Int.natCast_pow _ _).symm;rw[hp] at hs;have hs':(nv aq O:Int)+((aq^N:Nat):Int)*c=(hv l:Int)+k*(hv m:Int):=hs;have hkm:k*(hv m:Int)<=(hv m:Int):=by rcases hk with rfl|rfl<;>omega
   have hc0:c=0:=by
    rcases (show c = -1\/c=0\/c=1 by omega) with rfl|rfl|rfl
    . omega
    . rfl
    . omega
   rw[hc0,Int.mul_zero,Int.add_zero] at hs';have hfin:hv O.reverse=((hv l:Int)+k*(hv m:Int)).toNat:=by
    unfold hv at *;rw[pB];omega
   have c9:=CT J (l:=O.reverse) (by rw[iA];omega);rw[Ce (by rw[pB];exact hd) hfin] at c9;have e9:List.take N (List.drop 0 (O.reverse.map ai))=O.reverse.map ai:=by rw[bL,aC (by omega)]
   rw[<-e9] at c9;repeat((first|refine W.R ?_|refine W.c ?_|refine⟨_,c9,?_⟩|refine xF (by omega) ?_|refine xr ?_);conv=>whnf)
   rfl
end Go.Proofs.Fl
namespace Go.Proofs.Fl
open Go.RowKit
def Ek(rs:List ResultVar)(f':qe)(zs:List IV):X6->AS->Prop
 | .ret,Y=>match rs with
  | [.tmp t]=>match Y.tm t with
   | .clo f gs=>f=f'/\th Y.bx gs zs/\gs.Pairwise (· ≠ ·)
   |_=>False
  |_=>False
 |_,_=>False
theorem TI{X:Cx}{f f':qe}{fn:Func}{c:X5}(hf:X.P.funcs[f]?=some fn)(hb:fn.body=some c)(hn:(fn.name == "runtime.NumGoroutine")=false){xs zs:List IV}(hx:xs.length<=fn.ntmps)
 (h:CW X fn.ntmps c ⟨argS xs,fun _=>none,0⟩ (Ek fn.results.toList f' zs)):bq X.P X.I f xs f' zs:=by
 refine⟨⟨fn,hf,hn,by rw[hb];rfl⟩,fun H w args hI hH hargs=>?_⟩;have hlen:=hargs.length;refine(wc (n:=0)).1 (wj hf hb trivial ?_);refine h ⟨none,X.r0⟩ ⟨fun k=>w.heap.size<=k,w,H,fun _=>none,[]⟩ _ (fun w' hw'=>X.bel _ _ _ hI (ak _) hw'.below) (fun e Y' M H' U a0 w0 k hS0=>?_) [] H (fun _=>(0,0)) _ w ⟨⟨hH,BelowO.refl _ _,fun _ hk=>hk,HExtO.refl _ _,fun t=>?_,fun g b hg=>(by cases hg),fun g g' b b' hg=>(by cases hg),fun p k hk=>(by cases hk),MarksOk.nil _ _,fun g s g' b R hg=>(by cases hg)⟩,rfl,?_⟩
 . cases e with
   |ret=>
    simp only[Ek] at k;split at k
    . rename_i t hrs;split at k
      . rename_i f1 gs ht;obtain⟨rfl,hc,hp⟩:=k;show LeavesInM (FW none) 0 X.P fn a0.tmps (fun e w'=>∃(bs:List Nat) (H':ah),e=.returned (zU f1 bs)/\HeapHas w' H'/\HExt w.heap.size H H'/\Below w.heap.size w w'/\bs.Pairwise (· ≠ ·)/\mR (fun k=>w.heap.size<=k) w' H' bs zs) a0.defers .returning w0;rw[hS0.defers];refine si M hS0 fun a' w' hS _=>?_;have hv:=hS.sim.slot t;rw[ht] at hv;obtain⟨_,hv⟩:=hv;have hr:fn.results = #[.tmp t]:=eO hrs;refine⟨_,results_tmp hr a'.tmps X.P w',gs.map fun g=>(U g).1,H',?_,hS.sim.has,hS.sim.ext,hS.sim.below.below,?_,?_⟩
        . rw[hv,zU,fb];rfl
        . refine List.pairwise_map.2 (hp.imp_of_mem fun{x y} hx hy hne e=>hne ?_);obtain⟨z1,hz1⟩:=lY hc x hx;obtain⟨z2,hz2⟩:=lY hc y hy;exact hS.sim.inj x y _ _ hz1 hz2 rfl rfl e
        . exact Ch hS.sim hc (fun g hg=>by obtain⟨z,hz⟩:=lY hc g hg;exact(hS.sim.box g _ hz).lo rfl)
      . exact k.elim
    . exact k.elim
   |_=>exact k.elim
 . show SR _ _ _ _ (argS xs t);rw[xL];cases hx':xs[t]? with
   |some x=>
    have hlt:t<args.length:=by rw[hlen];exact(List.getElem?_eq_some_iff.1 hx').1
    obtain⟨v,h1,h2⟩:=hargs.get t x hx';have:(args.toArray++Array.replicate (fn.ntmps-args.toArray.size) undef).getD t undef=v:=by
     simp[jp,hlt];exact(List.getElem?_eq_some_iff.1 h1).2
    rw[this];exact h2
   |none=>
    have hge:¬t<args.length:=by
     intro hlt;rw[hlen] at hlt;simp[hlt] at hx'
    show _=undef;simp[jp,hge,wk];split<;>rfl
 . show(args.toArray++Array.replicate (fn.ntmps-args.toArray.size) undef).size=fn.ntmps;simp;omega
section
variable (X:Cx)(nt l:Nat)(J:(Nat->Prop)->Nat->ah->my->Prop)
def YS(own:Nat->Prop)(H:ah)(U:Nat->Nat×Nat)(a:Act)(w:my)(Y:AS)(k:Nat):Prop :=
 (∃M,St ⟨own,w,H,fun _=>none,M⟩ nt H U Y.tm Y.bx a w)/\J own k H w
def WY(c:X5)(Y:AS)(k:Nat)(K:X6->AS->Nat->Prop):Prop :=
 ∀Q:X6->Act->my->Prop,(∀e Y' k' own H U a w,K e Y' k'->YS nt J own H U a w Y' k'->Q e a w)->∀own H U a w,YS nt J own H U a w Y k->c.wpIn (FW none) 0 X.P Q a w
def V9(y:X5)(K:X6->AS->Nat->Prop):X6->AS->Nat->Prop
 | .normal,Y,k=>WY X nt J y Y k K
 |e,Y,k=>K e Y k
def Lk(id:Nat)(K:X6->AS->Nat->Prop):X6->AS->Nat->Prop
 | .exit i,Y,k=>bif Nat.beq i id then K .normal Y k else K (.exit i) Y k
 |e,Y,k=>K e Y k
def Wj{G:Type}(inv:G->AS)(κ:G->Nat)(μ:G->Nat)(g:G)(K:X6->AS->Nat->Prop):X6->AS->Nat->Prop
 | .normal,Y,k=>∃g',Wk Y (inv g')/\k=κ g'/\μ g'<μ g
 |e,Y,k=>K e Y k
end
section
variable {X:Cx}{nt l:Nat}{ys:List (List IV)}{J:(Nat->Prop)->Nat->ah->my->Prop}{Y:AS}{k:Nat}{K:X6->AS->Nat->Prop}
theorem UJ(hJ:IterJ X l ys J){c:X5}(h:CW X nt c Y (fun e Y'=>K e Y' k)):WY X nt J c Y k K:=by
 rintro Q hQ own H U a w ⟨⟨M,hS⟩,hj⟩;refine h ⟨none,X.r0⟩ ⟨own,w,H,fun _=>none,[]⟩ Q (fun w' hb=>hJ.inv _ _ _ _ _ hj hb) (fun e Y' M' H' U' a' w' hk hS'=>hQ e Y' k own H' U' a' w' hk ⟨⟨M',?_,hS'.defers,hS'.size⟩,hJ.step own k H H' w w' hj hS'.sim.below hS'.sim.has hS'.sim.ext⟩) M H U a w hS;exact hS'.sim.rebase (fun g b hg ha=>(hS'.sim.box g b hg).lo ha) (fun g s R hg hR=>((hS'.sim.box g _ hg).2.2.2 R hR).1) hS'.sim.lo hS'.sim.pin hS'.sim.marks
theorem WY.skip(h:K .normal Y k):WY X nt J .skip Y k K:=fun _ hQ own H U a w hS=>wpIn_skip (hQ _ _ _ own H U a w h hS)
theorem WY.exit{id:Nat}(h:K (.exit id) Y k):WY X nt J (.exit id) Y k K:=fun _ hQ own H U a w hS=>wpIn_exit (hQ _ _ _ own H U a w h hS)
theorem WY.S{x y:X5}(h:WY X nt J x Y k (V9 X nt J y K)):WY X nt J (.seq x y) Y k K:=fun Q hQ own H U a w hS=>
 wpIn_seq (h _ (fun e Y' k' own H U a w hk hS=>by
  cases e with
  |normal=>exact hk Q hQ own H U a w hS
  |_=>exact hQ _ _ _ own H U a w hk hS) own H U a w hS)
theorem WY.cond{c:X0}{x y:X5}{t:Bool}(hc:evS Y.tm c=.iv (.bool t))(h1:t=true->WY X nt J x Y k K)(h2:t=false->WY X nt J y Y k K):WY X nt J (.cond c x y) Y k K:=fun Q hQ own H U a w hS=>by
 obtain⟨⟨M,hs⟩,hj⟩:=hS;have hv:=aW hs.sim rfl c;rw[hc] at hv;exact E5 (oe hv) (fun e=>h1 e Q hQ own H U a w ⟨⟨M,hs⟩,hj⟩) (fun e=>h2 e Q hQ own H U a w ⟨⟨M,hs⟩,hj⟩)
theorem WY.block{id:Nat}{c:X5}(h:WY X nt J c Y k (Lk id K)):WY X nt J (.block id c) Y k K:=fun Q hQ own H U a w hS=>
 wpIn_block (h _ (fun e Y' k' own H U a w hk hS=>by
  cases e with
  |exit i=>
   simp only[Lk] at hk;simp only[Exit.inBlock];by_cases hi:i=id
   . subst hi;rw[bh] at hk;simp only[bD];exact hQ _ _ _ own H U a w hk hS
   . have hb:Nat.beq i id=false:=by
      cases hb:Nat.beq i id
      . rfl
      . exact absurd (av hb) hi
     rw[hb] at hk;simp only[hi,bG];exact hQ _ _ _ own H U a w hk hS
  |_=>exact hQ _ _ _ own H U a w hk hS) own H U a w hS)
theorem YS.weak{own:Nat->Prop}{H:ah}{U:Nat->Nat×Nat}{a:Act}{w:my}{Y':AS}(h:YS nt J own H U a w Y k)(hw:Wk Y Y'):∃ U',YS nt J own H U' a w Y' k:=by
 obtain⟨⟨M,hs⟩,hj⟩:=h;obtain⟨U',hs'⟩:=hs.weak hw;exact⟨U',⟨M,hs'⟩,hj⟩
theorem WY.loop{G:Type}(inv:G->AS)(κ:G->Nat)(μ:G->Nat){c:X5}(g0:G)(h0:Wk Y (inv g0))(hk0:k=κ g0)(h:∀g,WY X nt J c (inv g) (κ g) (Wj inv κ μ g K)):WY X nt J (.loop c) Y k K:=fun Q hQ own H U a w hS=>by
 let I:G->Act->my->Prop:=fun g a w=>∃own H U,YS nt J own H U a w (inv g) (κ g)
 let M:Act->my->Nat:=fun a w=>nj fun n=>∃g,μ g=n/\I g a w
 obtain⟨β0,hS0⟩:=hS.weak h0;refine wpIn_loop (fun a w=>∃g,I g a w) M ⟨g0,own,H,β0,hk0▸hS0⟩ fun a w ⟨g1,hJ1⟩=>?_;obtain⟨⟨g,e,hJ⟩,_⟩:=wP (p:=fun n=>∃g,μ g=n/\I g a w) ⟨g1,rfl,hJ1⟩;obtain⟨own1,H1,β1,hS1⟩:=hJ;refine h g _ (fun e' Y' k' own H U a' w' hk hS=>?_) own1 H1 β1 a w hS1;cases e' with
 |normal=>
  obtain⟨g',hw,rfl,hlt⟩:=hk;obtain⟨U',hS'⟩:=hS.weak hw;have hJ':I g' a' w':=⟨own,H,U',hS'⟩;have:=(wP (p:=fun n=>∃g,μ g=n/\I g a' w') ⟨g',rfl,hJ'⟩).2;refine⟨⟨g',hJ'⟩,?_⟩;show nj _<nj _;rw[<-e];exact jP this hlt
 |_=>exact hQ _ _ _ own H U a' w' hk hS
theorem xY{P:Tz}{I:my->Prop}{T:me->Option TY}{Φ:Ctr}{E:Env}{Q:X6->Act->my->Prop}{ro:Option Nat}(hT:b8 P T)(hΦ:CtrOk P I Φ)(hIE:∀w,BelowO E.own E.w0 w->I w){all:Array X4}{rest:List X4}{K:(Nat->SV)->(Nat->Option Bx)->List Lg->Prop}(hK:∀H U tm bx log a w,K tm bx log->St E nt H U tm bx a w->wpListIn (FW ro) 0 P all Q rest a w) :
 ∀{os:List X4} {g:Nat} {tm:Nat->SV} {bx:Nat->Option Bx} {log:List Lg} {H:ah} {U:Nat->Nat×Nat} {a:Act} {w:my},cJ nt os=true->St E nt H U tm bx a w->fR T Φ all os g tm bx log K->wpListIn (FW ro) 0 P all Q (os++rest) a w:=by
 intro os;induction os with
 |nil=>intro g tm bx log H U a w _ h ho;exact hK _ _ _ _ _ _ _ ho h
 |cons o os ih=>
  intro g tm bx log H U a w hd h ho;have hd':cJ nt os=true:=by
   simp only[cJ,cF,az] at hd;exact hd.2
  have key:∃l:Lg,Fact T Φ all o g tm bx l/\fR T Φ all os (g+1) (eI tm o.dst l.r) (gz (bH bx l.e.fz) l.e.wr) (l::log) K:=by
   unfold fR at ho;split at ho
   . rename_i hy;obtain⟨r,e,h1,h2⟩:=B2 ho;exact⟨⟨r,e⟩,.inl ⟨hy,h1⟩,h2⟩
   . rename_i hy;exact⟨⟨.und,{}⟩,.inr ⟨hy,rfl,rfl⟩,ho⟩
   . exact ho.elim
  obtain⟨l,hf,h'⟩:=key;show wpListIn (FW ro) 0 P all Q (o::(os++rest)) a w;unfold wpListIn;exact BK hT hΦ hIE (n9 hd (by simp)) h hf fun H U a w hS=>ih hd' hS h'
theorem Sim.rounded{own:Nat->Prop}{M:List Deferred}{H H':ah}{U:Nat->Nat×Nat}{tm:Nat->SV}{bx:Nat->Option Bx}{tmps:Array X3}{w w' w0:my}{H0:ah}{pin:Nat->Option (Nat×Nat)}(h:Sim ⟨own,w0,H0,pin,M⟩ H U tm bx tmps w)(hh:HeapHas w' H')(hle:HLe H H')(hs:w.heap.size<=w'.heap.size)
 (ho:∀b,own b->b<w.heap.size->w'.heap[b]?=w.heap[b]?/\(H b=none->H' b=none)):Sim ⟨fun b=>own b/\(b<w.heap.size\/w'.heap.size<=b),w',H',fun _=>none,M⟩ H' U tm bx tmps w' where
 has:=hh
 below:=BelowO.refl _ _
 lo k hk:=⟨h.lo k (aY hs hk),.inr hk⟩
 ext:=HExtO.refl _ _
 slot t:=(h.slot t).mono hle (fun g b hg=>⟨b,hg,shape.refl b,rfl⟩)
 box g b hg:=by
  by_cases ha:b.alive=true
  . have hb:=h.box g b hg;have hlt:=hb.lt ha;have hl:=hb.lo ha;obtain⟨e1,e2⟩:=ho _ hl hlt;have hk:=hb.keep e1 hle e2 (fun s R eb hR=>by
     subst eb;exact ho R (hb.2.2.2 R hR).1 (jY hb.2.2.1 hR).1)
    cases b with
    |var x=>exact⟨⟨hl,.inl hlt⟩,hk.2⟩
    |arr=>exact⟨⟨hl,.inl hlt⟩,hk.2⟩
    |bld s=>
     refine⟨⟨hl,.inl hlt⟩,hk.2.1,hk.2.2.1,fun R hR=>?_⟩;have hR':=hR.sm e1;exact⟨⟨(hb.2.2.2 R hR').1,.inl (jY hb.2.2.1 hR').1⟩,(hk.2.2.2 R hR).2⟩
    |arrN=>exact⟨hk.1,⟨hl,.inl hlt⟩,hk.2.2⟩
    |dead=>trivial
  . cases b<;>first|trivial|simp[Bx.alive] at ha
 inj:=h.inj
 pin g k hk:=by cases hk
 marks:=⟨h.marks.1,fun d hd=>by
  obtain⟨D,e,h1,h2⟩:=h.marks.2 d hd;have hlt:=(Array.getElem?_eq_some_iff.1 h2).1;exact⟨D,e,⟨h1,.inl hlt⟩,(ho D h1 hlt).1.trans h2⟩⟩
 hid g s g' b R h1 h2 ha hR:=h.hid g s g' b R h1 h2 ha (hR.sm (ho _ ((h.box g _ h1).lo rfl) ((h.box g _ h1).lt rfl)).1)
theorem WY.yield(hJ:IterJ X l ys J)(n:Nat){id:Nat}{all:Array X4}{o:X4}{fo:X0}{args:Array X0}{ats:Array me}(ho:all.toList[n]?=some o)(hd:cJ nt all.toList=true)(hg:o.guard=none)(hop:o.op=.call { callee:=.value fo,args:=args,argTypes:=ats })
 (h:fR X.T X.C all (all.toList.take n) Y.nx Y.tm Y.bx [] fun tm bx _=>match evS tm fo,gd bx (evS tm) args.toList with
   | .yld l',some (y,fs)=>l'=l/\ys[k]?=some y/\fR X.T X.C all (all.toList.drop (n+1)) (Y.nx+n+1) (eI tm o.dst (.iv (.bool true))) (bH bx fs) [] fun tm bx _=>K .normal ⟨tm,bx,Y.nx+all.size⟩ (k+1)
   |_,_=>False):WY X nt J (.region id all false) Y k K:=by
 rintro Q hQ own H U a w ⟨⟨M,hS⟩,hj⟩;refine wi ?_;have hsplit:all.toList=all.toList.take n++o::all.toList.drop (n+1):=by
  have hlt:=(List.getElem?_eq_some_iff.1 ho).1;have he:=(List.getElem?_eq_some_iff.1 ho).2;have h1:=jQ n all.toList;rw[gJ hlt,he] at h1;exact h1.symm
 have hd1:cJ nt (all.toList.take n)=true:=by
  unfold cJ at hd ⊢;rw[kO] at hd ⊢;exact fun x hx=>hd x (dY hx)
 have hd2:cJ nt (all.toList.drop (n+1))=true:=by
  unfold cJ at hd ⊢;rw[kO] at hd ⊢;exact fun x hx=>hd x (jn hx)
 have hdo:∀d,o.dst=some d->d<nt:=n9 hd (bV ho);rw[hsplit];refine xY (E:=⟨own,w,H,fun _=>none,M⟩) X.hT X.ok (fun w' hb=>hJ.inv _ _ _ _ _ hj hb) (fun H1 β1 tm bx log a1 w1 hk hS1=>?_) hd1 hS h;split at hk
 . rename_i l' y fs hfo hargs;obtain⟨rfl,hy,hk⟩:=hk;have hkl:=(List.getElem?_eq_some_iff.1 hy).1;have hv:=aW hS1.sim rfl fo;rw[hfo] at hv;have hfv:a1.eval fo=.func (.yield l') #[] #[]:=hv;obtain⟨H2,hle,S2,V2⟩:=r8 (a:=a1) rfl hS1.sim hargs;have hj2:=hJ.step own k H H2 w w1 hj S2.below S2.has S2.ext;obtain⟨fn,tmps,assign,body,hyr,hR⟩:=hJ.round own k H2 w1 (args.toList.map a1.eval) hkl hj2 S2.has S2.lo (by rw[(List.getElem?_eq_some_iff.1 hy).2];exact V2);have hrun:(execOp a1.eval o).run X.P w1=.ok (.round l' fn tmps assign body) w1:=by
    have ea:(args.toList.map a1.eval).toArray=args.map a1.eval:=by apply eO;simp
    rw[ea] at hyr;simp only[execOp,hop,resolve,hfv,Deferred.ofValue,au,aw,ar,invoke];simpa using hyr
   unfold wpListIn;simp only[Region.wanted,hg,bD];refine⟨fun _ _=>trivial,?_⟩;rw[show(FW none).round=none from rfl,Oper.semAt_none,hrun];refine⟨fun e=>(by cases e),hR.mono ?_⟩;rintro e w2 ⟨rfl,H3,h1,h2,h3,h4,h5,h6,h7,hj3⟩;have T:St ⟨fun b=>own b/\(b<w1.heap.size\/w2.heap.size<=b),w2,H3,fun _=>none,M⟩ nt H3 β1 (eI tm o.dst (.iv (.bool true))) (bH bx fs) (a1.put o.dst (.bool true)) w2 :=
    St.put ⟨S2.rounded h1 h2 h3 h7,hS1.defers,hS1.size⟩ hdo (r:=.iv (.bool true)) (.bool true)
   have:=xY (rest:=[]) (Q:=Q) (ro:=none) (E:=⟨fun b=>own b/\(b<w1.heap.size\/w2.heap.size<=b),w2,H3,fun _=>none,M⟩) X.hT X.ok (fun w' hb=>hJ.inv _ _ _ _ _ hj3 hb) (all:=all) (K:=fun tm bx _=>K .normal ⟨tm,bx,Y.nx+all.size⟩ (k+1)) (fun H4 β4 tm bx log a4 w4 hk4 hS4=>?_) hd2 T hk
   . rw[iw] at this;exact this
   . refine hQ .normal _ (k+1) (fun b=>own b/\(b<w1.heap.size\/w2.heap.size<=b)) H4 β4 a4 w4 hk4 ⟨⟨M,?_,hS4.defers,hS4.size⟩,hJ.step _ _ _ _ _ _ hj3 hS4.sim.below hS4.sim.has hS4.sim.ext⟩;exact hS4.sim.rebase (fun g b hg ha=>(hS4.sim.box g b hg).lo ha) (fun g s R hg hR=>((hS4.sim.box g _ hg).2.2.2 R hR).1) hS4.sim.lo hS4.sim.pin hS4.sim.marks
 . exact hk.elim
end
def qW:Nat->List IV->Nat->SV
 |_,[],_=>.und
 |i,_::_,0=>.ptr i 0
 |i,_::zs,t+1=>qW (i+1) zs t
def Ev(l:Nat)(zs:List IV):Nat->SV
 |0=>.yld l
 |t+1=>qW 0 zs t
def nT:Nat->List IV->List (Nat×Bx)
 |_,[]=>[]
 |i,z::zs=>(i,.var z)::nT (i+1) zs
def Mn(n:Nat):X6->AS->Nat->Prop
 | .normal,_,k=>k=n
 | .ret,_,k=>k=n
 |_,_,_=>False
theorem Kx{own:Nat->Prop}{w:my}{H:ah}:∀{bs:List Nat} {zs:List IV},mR own w H bs zs->bs.length=zs.length
 | [],[],_=>rfl
 | [],_::_,h=>h.elim
 |_::_,[],h=>h.elim
 |_::_,_::_,h=>by simp[Kx h.2]
theorem yt{own:Nat->Prop}{w:my}{H:ah}:∀{bs:List Nat} {zs:List IV},mR own w H bs zs->∀(i:Nat) (z:IV),zs[i]?=some z->∃b,bs[i]?=some b/\BR own w H (b,0) (.var z)
 | [],[],_,i,z,h=>by simp at h
 | [],_::_,h,_,_,_=>h.elim
 |_::_,[],h,_,_,_=>h.elim
 |b::bs,z'::zs,h,0,z,hz=>by simp at hz;subst hz;exact⟨b,rfl,h.1⟩
 |b::bs,z'::zs,h,i+1,z,hz=>by simp at hz;simpa using yt h.2 i z hz
theorem uP:∀{i:Nat} {zs:List IV} {g:Nat} {b:Bx},(g,b)∈nT i zs->∃j z,g=i+j/\zs[j]?=some z/\b=.var z
 |_,[],_,_,h=>by simp[nT] at h
 |i,z::zs,g,b,h=>by
  simp only[nT,eZ,aA] at h;rcases h with⟨rfl,rfl⟩|h
  . exact⟨0,z,rfl,rfl,rfl⟩
  . obtain⟨j,z',e,h1,h2⟩:=uP h;exact⟨j+1,z',by omega,by simpa using h1,h2⟩
theorem IU:∀{i:Nat} {zs:List IV} {j:Nat},j<zs.length->dw (nT i zs) (i+j)≠none
 |_,[],_,h=>by simp at h
 |i,z::zs,0,_=>by simp[nT,dw,bh]
 |i,z::zs,j+1,h=>by
  have h':=IU (i:=i+1) (zs:=zs) (j:=j) (by simpa using h);have hb:Nat.beq (i+(j+1)) i=false:=by
   cases hb:Nat.beq (i+(j+1)) i
   . rfl
   . have:=av hb;omega
  simp only[nT,dw,hb,aX];rw[show i+(j+1)=i+1+j by omega];exact h'
theorem I0:∀{i:Nat} {zs:List IV} {t:Nat},qW i zs t=if t<zs.length then .ptr (i+t) 0 else .und
 |i,[],t=>by simp[qW]
 |i,z::zs,0=>by simp[qW]
 |i,z::zs,t+1=>by rw[qW,I0];simp[Ay,Nat.add_left_comm]
theorem TN{X:Cx}{f:qe}{fn:Func}{c:X5}(hf:X.P.funcs[f]?=some fn)(hb:fn.body=some c)(hn:(fn.name == "runtime.NumGoroutine")=false)(hres:fn.results = #[]){zs:List IV}{ys:List (List IV)}(hx:zs.length+1<=fn.ntmps)
 (h:∀l J,IterJ X l ys J->WY X fn.ntmps J c ⟨Ev l zs,dw (nT 0 zs),10⟩ 0 (Mn ys.length)):bw X f zs ys:=by
 refine⟨⟨fn,hf,hn,by rw[hb];rfl⟩,fun l J own H w bs hJ hj hH hlo hbs hp=>?_⟩;have hlen:=Kx hbs;refine wj hf hb trivial ?_;refine h l J hJ _ (fun e Y' k' own' H' U' a' w' hk hY=>?_) own H (fun g=>(bs.getD g 0,0)) _ w ⟨⟨[],⟨hH,BelowO.refl _ _,hlo,HExtO.refl _ _,fun t=>?_,fun g b hg=>?_,fun g g' b b' hg hg' _ _ e=>?_,fun p k hk=>(by cases hk),MarksOk.nil _ _,fun g s g' b R hg=>(by obtain⟨j,z,_,_,e⟩:=uP (iS hg);cases e)⟩,rfl,?_⟩,hj⟩
 . obtain⟨⟨M,hS⟩,hj'⟩:=hY;have hfin:k'=ys.length->LeavesInM (FW none) 0 X.P fn a'.tmps (fun e w'=>∃v own' H',e=.returned v/\HeapHas w' H'/\J own' ys.length H' w') a'.defers .returning w':=fun hk=>by
    subst hk;rw[hS.defers];have goM:∀(M:List Deferred) (w':my),MarksOk own' M w'->HeapHas w' H'->J own' ys.length H' w'->LeavesInM (FW none) 0 X.P fn a'.tmps (fun e w'=>∃v own' H',e=.returned v/\HeapHas w' H'/\J own' ys.length H' w') M .returning w':=by
     intro M;induction M with
     |nil=>
      intro w' _ hh hj;exact⟨_,results_none hres _ _ _,_,own',H',rfl,hh,hj⟩
     |cons d M ih=>
      intro w' hm hh hj;obtain⟨D,e,ho,hb⟩:=hm.2 d (by simp);obtain⟨hp1,hp2⟩:=List.pairwise_cons.1 hm.1;refine⟨by simp,.inl ⟨D,w'.putObj D (.deferred none),by rw[e],Nf hb,ih _ ⟨hp2,fun d' hd'=>?_⟩ ?_ ?_⟩⟩
      . obtain⟨D',e',ho',hb'⟩:=hm.2 d' (eB _ hd');exact⟨D',e',ho',(cH (fun e2=>hp1 d' hd' (by rw[e,e',e2]))).trans hb'⟩
      . intro b arr hba;obtain⟨t,fr,ht⟩:=hh b arr hba;exact⟨t,fr,(cH (fun e2=>by rw[e2,hb] at ht;cases ht)).trans ht⟩
      . refine hJ.step own' _ H' H' w' _ hj ⟨rfl,rfl,rfl,by simp,fun k hk=>cH (fun e2=>hk (by rw[e2];exact ho))⟩ ?_ (HExtO.refl _ _);intro b arr hba;obtain⟨t,fr,ht⟩:=hh b arr hba;exact⟨t,fr,(cH (fun e2=>by rw[e2,hb] at ht;cases ht)).trans ht⟩
    exact goM M w' hS.sim.marks hS.sim.has hj'
   cases e with
   |normal=>exact hfin hk
   |ret=>exact hfin hk
   |_=>exact hk.elim
 . cases t with
   |zero=>simp[Ev,SR,jZ,jp]
   |succ t=>
    show SR _ _ _ _ (qW 0 zs t);rw[I0];by_cases ht:t<zs.length
    . rw[ay ht];have htb:t<bs.length:=by omega
      refine⟨IU ht,?_⟩;simp[jp,htb]
    . rw[am ht];have htb:¬t<bs.length:=by omega
      show _=undef;simp[jp,htb,wk];split<;>rfl
 . obtain⟨j,z,rfl,hz,rfl⟩:=uP (iS hg);obtain⟨b,e1,e2⟩:=yt hbs j z hz;simp only[aU];rw[show(bs.getD j 0,0)=(b,0) by simp[e1]];exact e2
 . obtain⟨j,z,rfl,hz,rfl⟩:=uP (iS hg);obtain⟨j',z',rfl,hz',rfl⟩:=uP (iS hg');obtain⟨b1,e1,_⟩:=yt hbs j z hz;obtain⟨b2,e2,_⟩:=yt hbs j' z' hz';simp[e1,e2] at e;simp only[aU];apply iM;intro hne;have l1:=(List.getElem?_eq_some_iff.1 e1).1;have l2:=(List.getElem?_eq_some_iff.1 e2).1;have v1:=(List.getElem?_eq_some_iff.1 e1).2;have v2:=(List.getElem?_eq_some_iff.1 e2).2;have hpg:=List.pairwise_iff_getElem.1 hp;rcases Ni hne with hlt|hlt
   . exact hpg j j' l1 l2 hlt (by rw[v1,v2,e])
   . exact hpg j' j l2 l1 hlt (by rw[v1,v2,e])
 . show((jZ l::bs.map fun b=>Value.pointer (some ⟨b,0,none⟩)).toArray++Array.replicate (fn.ntmps-(jZ l::bs.map fun b=>Value.pointer (some ⟨b,0,none⟩)).toArray.size) undef).size=fn.ntmps;simp;omega
attribute [irreducible] WY
abbrev MK(J:Keep):qe->List IV->qe->List IV->Prop:=bq Tryz.prog J.I
abbrev IT(J:Keep):qe->List IV->List (List IV)->Prop:=bw (cx J.top)
def UX(J:Keep)(nt:Nat)(body:X5)(m:List (Nat×Bx)):X6->AS->Prop
 | .normal,Y=>W J.any nt body Y fun e Y'=>e=.normal/\ve Y'.bx [] m
 |_,_=>False
def Dh(tm:Nat->SV):List (Nat×SV)->Prop
 | []=>True
 |p::l=>tm p.1=p.2/\Dh tm l
theorem Gg{tm:Nat->SV}:∀{l:List (Nat×SV)},Dh tm l->∀p∈l,tm p.1=p.2
 | [],_,p,h=>by simp at h
 |q::l,hs,p,h=>by
  rcases List.mem_cons.1 h with rfl|h
  . exact hs.1
  . exact Gg hs.2 p h
def MC(ids:List Nat):SV->Bool
 | .unk | .und | .iv _ | .nilS=>true
 | .ptr g _=>ids.any (Nat.beq g)
 | .cv _ _ gs=>gs.all fun g=>ids.any (Nat.beq g)
 |_=>false
theorem R4{m:List (Nat×Bx)}{g:Nat}:dw m g≠none↔g∈m.map (·.1):=by
 induction m with
 |nil=>simp[dw]
 |cons p m ih=>
  simp only[dw,aS,eZ];cases hb:Nat.beq g p.1 with
  |true=>simp[av hb]
  |false=>
   have hne:=AD hb;simp only[aX,ih];exact⟨.inr,fun h=>h.resolve_left hne⟩
def ms(bx:Nat->Option Bx)(ids:List Nat)(i:Nat):Bool:=(bx (aK+i)).isNone||ids.any (Nat.beq (aK+i))
def CP(bx:Nat->Option Bx)(ids:List Nat):Bool:=ms bx ids 0&&(ms bx ids 1&&(ms bx ids 2&&(ms bx ids 3&&(ms bx ids 4&&(ms bx ids 5&&(ms bx ids 6&&ms bx ids 7))))))
theorem OL{bx:Nat->Option Bx}{ids:List Nat}(h:CP bx ids=true):∀i,i<8->ms bx ids i=true:=by
 simp only[CP,az] at h;obtain⟨h0,h1,h2,h3,h4,h5,h6,h7⟩:=h;intro i hi
 match i,hi with
 |0,_=>exact h0
 |1,_=>exact h1
 |2,_=>exact h2
 |3,_=>exact h3
 |4,_=>exact h4
 |5,_=>exact h5
 |6,_=>exact h6
 |7,_=>exact h7
 |n+8,hn=>exact absurd hn (by omega)
section
variable {J:Keep}{nt:Nat}{Y:AS}{K:X6->AS->Prop}
theorem Wh{f f':qe}{fn:Func}{c:X5}(hf:Tryz.prog.funcs[f]?=some fn)(hb:fn.body=some c)(hn:(fn.name == "runtime.NumGoroutine")=false){xs zs:List IV}(hx:Nat.ble xs.length fn.ntmps=true)
 (h:W J fn.ntmps c ⟨argS xs,fun _=>none,0⟩ (Ek fn.results.toList f' zs)):MK J f xs f' zs:=by
 unfold W at h;exact TI (X:=cx J) hf hb hn (aG hx) h
theorem Wo{f:qe}{fn:Func}{c:X5}(hf:Tryz.prog.funcs[f]?=some fn)(hb:fn.body=some c)(hn:(fn.name == "runtime.NumGoroutine")=false)(hres:fn.results = #[]){zs:List IV}{ys:List (List IV)}(hx:Nat.ble (zs.length+1) fn.ntmps=true)
 (h:∀l F,IterJ (cx J.top) l ys F->WY (cx J.top) fn.ntmps F c ⟨Ev l zs,dw (nT 0 zs),10⟩ 0 (Mn ys.length)):IT J f zs ys :=
 TN (X:=cx J.top) hf hb hn hres (aG hx) h
theorem W.range{g:X0}{ps:Array Tmp}{assign body:X5}{f:qe}{gs:List Nat}{zs:List IV}{ys:List (List IV)}(hit:IT J f zs ys)(ids:List Nat)(l:List (Nat×SV))(m:Nat->List (Nat×Bx))(nx:Nat)(hg:evS Y.tm g=.clo f gs)(hz:th Y.bx gs zs)(hgs:gs.Pairwise (· ≠ ·))
 (hps:ps.toList.all (fun p=>Nat.blt p nt)=true) (hys:∀y∈ys,y.length=ps.size) (hids:∀k,(m k).map (·.1)=ids) (hal:∀k,∀p∈m k,p.2.alive=true) (hpin:ids.all (fun g=>Nat.ble aK g&&Nat.blt g (aK+8))=true)
 (hl:Dh Y.tm l) (hlo:l.all (fun p=>MC ids p.2)=true) (hb:ve Y.bx [] (m 0)) (hdj:gs.all (fun g=>!ids.any (Nat.beq g))=true) (hfree:CP Y.bx ids=true)
 (hround:∀k (hk:k<ys.length),W J.any nt assign ⟨mr (mK l) ps.toList ys[k],dw (m k),nx⟩ (UX J nt body (m (k+1)))) (hend:K .normal (aF l (m ys.length) nx)):W J.top nt (.rangeFunc g ps assign body) Y K:=by
 unfold W;have hmem:∀{g:Nat},ids.any (Nat.beq g)=true↔g∈ids:=fun{g}=>C5;have hdom:∀k g,dw (m k) g≠none↔g∈ids:=fun k g=>by rw[R4,hids k]
 refine CW.range (X:=cx J.top) (fun r h=>h) hg hz hgs hit (mK l) (fun k=>dw (m k)) (nx:=nx) (fun p hp=>?_) hys (fun t=>?_) (fun k t=>?_) (fun g b hgb=>?_) (fun id hid=>?_) (fun k g b hgb=>?_) (fun k g=>?_) (fun i hi hne=>?_) (fun k hk=>?_) hend
 . have:=List.all_eq_true.1 hps p hp;rwa[cY] at this
 . rcases xN (l:=l) (t:=t) with h|h
   . exact .inl h
   . exact .inr (Gg hl _ h)
 . rcases xN (l:=l) (t:=t) with h|h
   . rw[h];trivial
   . have:=List.all_eq_true.1 hlo _ h;simp only at this;cases hs:mK l t<;>rw[hs] at this<;>simp only[MC] at this<;>first|trivial|cases this|skip
     . rename_i g off;exact(hdom k g).2 (hmem.1 this)
     . intro g hg;exact(hdom k g).2 (hmem.1 (List.all_eq_true.1 this g hg))
 . have:=wX hb _ (iS hgb);exact this
 . cases hx:dw (m 0) id with
   |none=>rfl
   |some b=>
    have h1:=(hdom 0 id).1 (by rw[hx];simp);have h2:=List.all_eq_true.1 hdj id hid;rw[hmem.2 h1] at h2;cases h2
 . have h1:=(hdom k g).1 (by rw[hgb];simp);have h2:=List.all_eq_true.1 hpin g h1;simp only[az,Nat.ble_eq,cY] at h2;exact⟨hal k _ (iS hgb),h2.1,h2.2⟩
 . rw[hdom,hdom]
 . have h1:=OL hfree i hi;simp only[ms,g6,Option.isNone_iff_eq_none] at h1;exact(hdom 0 _).2 (hmem.1 (h1.resolve_left hne))
 . have hr:=hround k hk;unfold W at hr;refine CW.mono (X:=cx J.any) hr fun e Y' hk=>?_;cases e with
   |normal=>
    have hk':W J.any nt body Y' _:=hk;unfold W at hk';refine CW.mono (X:=cx J.any) hk' fun e Y'' h=>⟨h.1,fun id b hib=>?_⟩;exact wX h.2 _ (iS hib)
   |_=>exact hk
end
section
variable {X:Cx}{nt l:Nat}{ys:List (List IV)}{F:(Nat->Prop)->Nat->ah->my->Prop}{Y:AS}{k:Nat}{K:X6->AS->Nat->Prop}
theorem WY.R(hJ:IterJ X l ys F){id:Nat}{all:Array X4}{draw:Bool}(h0:qF nt all draw=true)(h:qP X all draw Y fun Y'=>K .normal Y' k):WY X nt F (.region id all draw) Y k K:=by
 simp only[qF,az,g6] at h0;exact UJ hJ (CW.region h0.1 (fun e=>h0.2.resolve_left (by subst e;simp)) h)
theorem WY.RS(hJ:IterJ X l ys F){id:Nat}{all:Array X4}{draw:Bool}{y:X5}(h0:qF nt all draw=true)(h:qP X all draw Y fun Y'=>WY X nt F y Y' k K):WY X nt F (.seq (.region id all draw) y) Y k K :=
 WY.S (WY.R hJ h0 h)
theorem QG(hJ:IterJ X l ys F)(n:Nat){id:Nat}{all:Array X4}{o:X4}{fo:X0}{args:Array X0}{ats:Array me}{y:X5}(ho:all.toList[n]?=some o)(hd:cJ nt all.toList=true)(hg:o.guard=none)(hop:o.op=.call { callee:=.value fo,args:=args,argTypes:=ats })
 (h:fR X.T X.C all (all.toList.take n) Y.nx Y.tm Y.bx [] fun tm bx _=>match evS tm fo,gd bx (evS tm) args.toList with
   | .yld l',some (y',fs)=>l'=l/\ys[k]?=some y'/\fR X.T X.C all (all.toList.drop (n+1)) (Y.nx+n+1) (eI tm o.dst (.iv (.bool true))) (bH bx fs) [] fun tm bx _=>WY X nt F y ⟨tm,bx,Y.nx+all.size⟩ (k+1) K
   |_,_=>False):WY X nt F (.seq (.region id all false) y) Y k K :=
 WY.S (WY.yield hJ n ho hd hg hop h)
theorem WY.condT{c:X0}{x y:X5}(hc:evS Y.tm c=.iv (.bool true))(h:WY X nt F x Y k K):WY X nt F (.cond c x y) Y k K:=WY.cond hc (fun _=>h) (fun e=>by cases e)
theorem WY.condF{c:X0}{x y:X5}(hc:evS Y.tm c=.iv (.bool false))(h:WY X nt F y Y k K):WY X nt F (.cond c x y) Y k K:=WY.cond hc (fun e=>by cases e) (fun _=>h)
end
end Go.Proofs.Fl
namespace Go.Proofs.Fl
open Go.RowKit Go.Proofs.Dig
attribute [local irreducible] IntKind.wrap a7 be bq bw
theorem JZ(J:Keep)(es:List IV):MK J 104 [.sl es] 157 [.sl es]:=by
 refine Wh Tryz.func104 rfl rfl rfl ?_;repeat((first|refine W.RS ?_|refine W.ret ?_|refine xr ?_);conv=>whnf)
 exact⟨⟨rfl,ab⟩,by simp⟩
def nH(ds:List Nat):List (List IV):=(List.range ds.length).map fun k=>[.int .i64 ((ds.length-1-k:Nat):Int),u32 (ds.getD (ds.length-1-k) 0)]
theorem IZ{ds:List Nat}{k:Nat}(h:k<ds.length):(nH ds)[k]?=some [.int .i64 ((ds.length-1-k:Nat):Int),u32 (ds.getD (ds.length-1-k) 0)]:=by
 simp[nH,h]
theorem r5(ds:List Nat):(nH ds).length=ds.length:=by simp[nH]
theorem JW(J:Keep){ds:List Nat}(hl:ds.length<2^60):IT J 157 [.sl (ds.map u32)] (nH ds):=by
 refine Wo Tryz.func157 rfl rfl rfl rfl fun l F hF=>?_;have lm:(ds.map u32).length=ds.length:=by simp
 repeat (first|((first|refine WY.RS hF (by kernel_rfl) ?_|refine ap (by omega) ?_|refine⟨_,rfl,?_⟩);conv=>whnf)|(refine WY.block ?_))
 refine WY.loop (G:={ k:Nat // k<=ds.length }) (fun k=>aF [(0,.yld l),(1,.ptr 0 0),(3,.iv (.int .i64 ((ds.length:Int)-1-(k.1:Int))))] [(0,.var (.sl (ds.map u32)))] 50) (fun k=>k.1) (fun k=>ds.length-k.1) ⟨0,bk _⟩
  (Wk.tab [] ⟨aa,aa,⟨?_,rfl⟩,ab⟩ ⟨rfl,ab⟩ rfl) rfl ?_
 . show SV.iv (.int .i64 _)=SV.iv (.int .i64 ((ds.length:Int)-1-((0:Nat):Int)));congr 2;omega
 rintro⟨k,hk⟩;show WY (cx J.top) _ F _ (aF [(0,.yld l),(1,.ptr 0 0),(3,.iv (.int .i64 ((ds.length:Int)-1-(k:Int))))] [(0,.var (.sl (ds.map u32)))] 50) k _;have hbl:=r5 ds;by_cases h:k<ds.length
 . refine WY.S ?_;refine WY.RS hF (by kernel_rfl) ?_;conv=>whnf
   refine⟨rfl,true,aZ (by omega),?_⟩;conv=>whnf
   refine WY.condT rfl ?_;refine WY.skip ?_;conv=>whnf
   refine WY.S ?_;refine WY.block ?_;refine QG hF 6 rfl rfl rfl rfl ?_;conv=>whnf
   have hj:((ds.length-1-k:Nat):Int)=(ds.length:Int)-1-(k:Int):=by omega
   refine⟨ds.length-1-k,u32 (ds.getD (ds.length-1-k) 0),hj.symm,bi (by omega),rfl,?_⟩;conv=>whnf
   rw[<-hj];refine⟨rfl,IZ h,?_⟩;conv=>whnf
   repeat (first|((first|refine WY.R hF (by kernel_rfl) ?_|refine WY.skip ?_|refine ap (by omega) ?_|refine⟨_,rfl,?_⟩);conv=>whnf)|(refine WY.condF rfl ?_))
   exact⟨⟨k+1,by omega⟩,Wk.tab [] ⟨aa,aa,⟨dm (by dsimp only;omega),rfl⟩,ab⟩ ⟨rfl,ab⟩ rfl,rfl,by dsimp only;omega⟩
 . refine WY.S ?_;refine WY.RS hF (by kernel_rfl) ?_;conv=>whnf
   refine⟨rfl,false,bl (by omega),?_⟩;conv=>whnf
   refine WY.condF rfl ?_;refine WY.exit ?_;conv=>whnf
   show k=(nH ds).length;rw[hbl];omega
theorem IY{ds:List Nat}:∀y∈nH ds,y.length=2:=by
 intro y hy;obtain⟨k,_,rfl⟩:=List.mem_map.1 hy;rfl
theorem Kn{ds:List Nat}{k:Nat}(hk:k<(nH ds).length):(nH ds)[k]=[.int .i64 ((ds.length-1-k:Nat):Int),u32 (ds.getD (ds.length-1-k) 0)]:=by
 have:=IZ (ds:=ds) (k:=k) (by rw[r5] at hk;exact hk);rw[a6 hk] at this;exact AM this
theorem P6{x:IV}{g:Nat}:∀p∈[(g,Bx.var x)],p.2.alive=true:=by
 intro p hp;simp at hp;subst hp;rfl
theorem Wy{x y:Nat}(h:x=y):some (Bx.var (.int .u64 (x:Int)))=some (Bx.var (.int .u64 (y:Int))):=by rw[h]
theorem Wz{x:Int}{y:Nat}(h:x=(y:Int)):some (Bx.var (.int .u64 x))=some (Bx.var (.int .u64 (y:Int))):=by rw[h]
def ir(ds:List Nat)(k:Nat):Nat:=nv B9 (ds.drop (ds.length-k))
theorem Im(ds:List Nat):ir ds 0=0:=by simp[ir,nv]
theorem JR(ds:List Nat):ir ds ds.length=nv B9 ds:=by simp[ir]
theorem Ca{ds:List Nat}{k:Nat}(h:k<ds.length):ir ds (k+1)=ir ds k*1000000000+ds.getD (ds.length-1-k) 0:=by
 unfold ir;rw[gJ (show ds.length-(k+1)<ds.length by omega),iE,show ds.length-(k+1)+1=ds.length-k by omega];have e:ds.getD (ds.length-1-k) 0=ds[ds.length-(k+1)]'(by omega):=by
  rw[br,a6 (show ds.length-1-k<ds.length by omega)];simp[show ds.length-1-k=ds.length-(k+1) by omega]
 rw[e,dD];exact Ay _ _
theorem VD(ds:List Nat)(k:Nat):ir ds k<=nv B9 ds:=by
 unfold ir;rw[show nv B9 ds=nv B9 (ds.take (ds.length-k)++ds.drop (ds.length-k)) by rw[jQ],nc];have:1*nv B9 (ds.drop (ds.length-k))<=B9^(ds.take (ds.length-k)).length*nv B9 (ds.drop (ds.length-k)):=bU _ (gh (by decide));omega
theorem RU(J:Keep){ds:List Nat}(hd:Dg B9 ds)(hl:ds.length<2^60)(hn:nv B9 ds<1000000000000000000):C J 201 [bE ds] (.int .u64 (nv B9 ds:Nat)):=by
 refine aH (J:=J.top) Tryz.func201 rfl rfl rfl ?_;repeat((first|refine W.R ?_|refine W.c ?_|refine⟨157,[.sl (ds.map u32)],JZ J _,rfl,?_⟩);conv=>whnf)
 refine W.weak (Y':=aF [(3,.ptr aK 0),(8,.clo 157 [6])] [(aK,.var (.int .u64 0)),(6,.var (.sl (ds.map u32)))] 50) (Wk.tab [(aK,2)] ⟨aa,aa,ab⟩ ⟨rfl,rfl,ab⟩ rfl) ?_;refine W.range (JW J hl) [aK] [(3,.ptr aK 0)] (fun k=>[(aK,.var (.int .u64 (ir ds k:Nat)))]) 60 rfl ⟨rfl,ab⟩ (by simp) rfl IY (fun _=>rfl) (fun _=>P6) rfl ⟨rfl,ab⟩ rfl ⟨Wy (Im ds).symm,ab⟩ rfl rfl (fun k hk=>?_) ?_
 . rw[Kn hk];rw[r5] at hk;show W J.any _ _ ⟨mr (mK [(3,.ptr aK 0)]) [9,10] [.int .i64 ((ds.length-1-k:Nat):Int),u32 (ds.getD (ds.length-1-k) 0)],dw [(aK,.var (.int .u64 (ir ds k:Nat)))],60⟩ _;have h1:=Ca hk;have h2:=VD ds (k+1);have h3:=hd.getD (by decide) (ds.length-1-k);repeat (first|((first|refine W.R ?_|refine⟨rfl,_,eH (by omega),?_⟩|refine⟨_,eH (by omega),?_⟩|refine xr ?_);conv=>whnf)|(refine W.block ?_))
   exact⟨Wz (by omega),ab⟩
 . rw[r5,JR];repeat((first|refine W.RS ?_|refine W.ret ?_);conv=>whnf)
   rfl
theorem Ut(J:Keep){n:Nat}(h:ln n<=2):C J 201 [aL n] (.int .u64 n):=by
 have:=RU J (ds:=dg n) (cM n).dg (by have:(dg n).length<=2:=h;omega) (by rw[dH];exact Dv h);rwa[dH] at this
noncomputable def lh(n:Nat):Nat:=(dh n).length
theorem zr(l:List Nat)(h:Dg aq l.reverse):hv l<aq^l.length:=by
 have:=fk h;rwa[iA] at this
theorem iU(n:Nat):n<aq^lh n:=by have:=zr (dh n) (fm n).dg;rwa[d9] at this
theorem lj{n k:Nat}(h:n<aq^k):lh n<=k:=by
 have:=t8 (B:=aq) (k:=k) (by decide) (fm n) (by have e:=d9 n;unfold hv at e;rw[e];exact h);rwa[iA] at this
theorem l6{a b:Nat}(h:a<=b):lh a<=lh b:=lj (jP h (iU b))
theorem VA(a b:Nat):lh (a+b)<=max (lh a) (lh b)+1:=lj (by
 have h1:=iU a;have h2:=iU b;have h3:aq^lh a<=aq^max (lh a) (lh b):=dz (by decide) (by omega);have h4:aq^lh b<=aq^max (lh a) (lh b):=dz (by decide) (by omega);have h5:aq^max (lh a) (lh b)*2<=aq^max (lh a) (lh b)*aq:=fK _ (by decide);rw[cr];omega)
theorem sF(a b:Nat):lh (a*b)<=lh a+lh b:=lj (by
 have h1:=iU a;have h2:=iU b;rw[jq];exact Nat.mul_lt_mul'' h1 h2)
theorem TL{n:Nat}(h:lh n=0):n=0:=by have:=iU n;rw[h] at this;simp at this;exact this
theorem Dx{n:Nat}(h:0<n):0<lh n:=by
 apply iM;intro hh;have:=TL (n:=n) (by omega);omega
theorem sq(J:Keep){n:Nat}{s:Int}(hs:s=1\/s = -1\/n=0)(hl:lh n<2^60):C J 58 [.int .i64 s,.sl ((dh n).map ai)] (zh (s*(n:Int))):=by
 have:=sk J (l:=dh n) (s:=s) (by rw[d9];exact hs) (fm n).dg hl;rwa[d9] at this
theorem RA(J:Keep){a b:Nat}(ha:lh a<2^40)(hb:lh b<2^40):C J 172 [.sl ((dh a).map ai),.sl ((dh b).map ai),.int .i64 1] (.sl ((dh (a+b)).map ai)):=by
 have:=JX J (l:=dh a) (m:=dh b) (k:=1) (.inl rfl) (fm a).dg (fm b).dg ha hb (by omega);rw[d9,d9,show((a:Int)+1*(b:Int)).toNat=a+b by omega] at this;exact this
theorem xC(J:Keep){a b:Nat}(h:b<=a)(ha:lh a<2^40):C J 172 [.sl ((dh a).map ai),.sl ((dh b).map ai),.int .i64 (-1)] (.sl ((dh (a-b)).map ai)):=by
 have hb:lh b<2^40:=jP (l6 h) ha;have:=JX J (l:=dh a) (m:=dh b) (k := -1) (.inr rfl) (fm a).dg (fm b).dg ha hb (by rw[d9,d9];omega);rw[d9,d9,show((a:Int) + -1*(b:Int)).toNat=a-b by omega] at this;exact this
theorem yh(J:Keep){a b:Nat}(ha:lh a<2^60):C J 173 [.sl ((dh a).map ai),.sl ((dh b).map ai)] (.int .i64 (aN (a:Nat) (b:Nat))):=by
 have:=T8 J (l:=dh a) (m:=dh b) (fm a) (fm b) ha;rwa[d9,d9] at this
theorem nJ{x y:Int}(h:x=y):zh x=zh y:=by rw[h]
theorem Ug(J:Keep){x y:Int}(hx:lh x.natAbs<2^40)(hy:lh y.natAbs<2^40):C J 117 [zh x,zh y] (zh (x+y)):=by
 refine aH Tryz.func117 rfl rfl rfl ?_;have sx:=qD x;have sy:=qD y;by_cases x0:x.sign=0
 . repeat((first|refine W.R ?_|refine W.c ?_|refine xT (by omega) ?_|refine xr ?_);conv=>whnf)
   have:x=0:=Int.sign_eq_zero_iff_zero.1 x0;exact nJ (by omega)
 . by_cases y0:y.sign=0
   . repeat((first|refine W.R ?_|refine W.c ?_|refine xT (by omega) ?_|refine xF (by omega) ?_|refine xr ?_);conv=>whnf)
     have:y=0:=Int.sign_eq_zero_iff_zero.1 y0;exact nJ (by omega)
   . have ex:=Ns x;have ey:=Ns y;by_cases h:x.sign=y.sign
     . have l1:=VA x.natAbs y.natAbs;have c1:=RA J hx hy;have c2:=sq J (n:=x.natAbs+y.natAbs) (s:=x.sign) (by omega) (by omega);repeat((first|refine W.R ?_|refine W.c ?_|refine⟨_,c1,?_⟩|refine⟨_,c2,?_⟩|refine xT (by omega) ?_|refine xF (by omega) ?_|refine xr ?_);conv=>whnf)
       refine nJ ?_;rw[Nr,wy,ex,h,ey]
     . by_cases hl:y.natAbs<=x.natAbs
       . have hc:0<=aN (x.natAbs:Nat) (y.natAbs:Nat):=by unfold aN;split<;>(try split)<;>omega
         have l1:=l6 (Nat.sub_le x.natAbs y.natAbs);have c1:=xC J hl hx;have c2:=sq J (n:=x.natAbs-y.natAbs) (s:=x.sign) (by omega) (by omega);repeat((first|refine W.R ?_|refine W.c ?_|refine⟨_,yh J (a:=x.natAbs) (b:=y.natAbs) (by omega),?_⟩|refine⟨_,c1,?_⟩|refine⟨_,c2,?_⟩|refine xT (by omega) ?_|refine xF (by omega) ?_|refine xr ?_);conv=>whnf)
         refine nJ ?_;have e:x.sign = -y.sign:=by omega
         have e2:x.sign*(y.natAbs:Int) = -y:=by rw[e,kQ,ey]
         rw[Int.natCast_sub hl,Int.mul_sub,ex,e2];omega
       . have hc:aN (x.natAbs:Nat) (y.natAbs:Nat)<0:=by unfold aN;split<;>(try split)<;>omega
         have hl':x.natAbs<=y.natAbs:=by omega
         have l1:=l6 (Nat.sub_le y.natAbs x.natAbs);have c1:=xC J hl' hy;have c2:=sq J (n:=y.natAbs-x.natAbs) (s:=y.sign) (by omega) (by omega);repeat((first|refine W.R ?_|refine W.c ?_|refine⟨_,yh J (a:=x.natAbs) (b:=y.natAbs) (by omega),?_⟩|refine⟨_,c1,?_⟩|refine⟨_,c2,?_⟩|refine xF (by omega) ?_|refine xr ?_);conv=>whnf)
         refine nJ ?_;have e:y.sign = -x.sign:=by omega
         have e2:y.sign*(x.natAbs:Int) = -x:=by rw[e,kQ,ex]
         rw[Int.natCast_sub hl',Int.mul_sub,ey,e2];omega
theorem Ub(J:Keep){x y:Int}(hx:lh x.natAbs<2^40)(hy:lh y.natAbs<2^40):C J 57 [zh x,zh y] (zh (x-y)):=by
 refine aH Tryz.func57 rfl rfl rfl ?_;have c1:=CY J y;have c2:=Ug J (x:=x) (y := -y) hx (by rw[ww];exact hy);repeat((first|refine W.RS ?_|refine W.ret ?_|refine⟨_,c1,?_⟩|refine⟨_,c2,?_⟩|refine xr ?_);conv=>whnf)
 exact nJ (by omega)
theorem Us(J:Keep){x y:Int}(hx:lh x.natAbs<2^40)(hy:lh y.natAbs<2^40):C J 24 [zh x,zh y] (.int .i64 (x-y).sign):=by
 refine aH Tryz.func24 rfl rfl rfl ?_;have c2:=Ub J hx hy;repeat((first|refine W.RS ?_|refine W.ret ?_|refine⟨_,c2,?_⟩);conv=>whnf)
 rfl
def Lt(s:Int)(a:Nat)(o:List Nat)(t:Int):AS :=
 match o with
 | []=>aF [(0,.iv (.int .i64 (s*(a:Int)))),(2,.ptr 0 0),(3,.iv (.int .i64 t)),(4,.nilS)] [(0,.var (.agg [.int .i64 0,.sl []]))] 20
 |x::o=>aF [(0,.iv (.int .i64 (s*(a:Int)))),(2,.ptr 0 0),(3,.iv (.int .i64 t)),(4,.ref 1 0 (x::o).length true)] [(0,.var (.agg [.int .i64 0,.sl []])),(1,.arr 3 1 ((x::o).map ai) false)] 20
theorem Ky{a:Nat}{o:List Nat}{n:Nat}(h:hv o+aq^o.length*a=n):hv (a%32768::o)+aq^(a%32768::o).length*(a/32768)=n:=by
 unfold hv at *;rw[Nt,l5,iA,bB,cr,lI,dZ,<-bW];rw[<-h];congr 2;simp only[aq];omega
theorem Ls{a:Nat}{o:List Nat}{n:Nat}(h:hv o+aq^o.length*a=n)(ha:a≠0)(hn:n<2^64):o.length<=4:=by
 apply iM;intro hc;have h1:aq^5<=aq^o.length:=dz (by decide) (by omega);have h2:aq^o.length*1<=aq^o.length*a:=fK _ (by omega);have h3:aq^5=37778931862957161709568:=by decide
 omega
theorem jD{a b:List IV}(h:a=b):some (Bx.arr 3 1 a false)=some (Bx.arr 3 1 b false):=by rw[h]
theorem xW{x:Int}{r:Nat}(h:x=(r:Int)):[IV.int .i64 x]++([]:List IV)=[r].map ai:=by rw[h];rfl
theorem xG{x:Int}{r:Nat}{o:List Nat}{k:Nat}(hx:x=(r:Int))(hk:k=o.length):[IV.int .i64 x]++List.take k (List.drop 0 (o.map ai))=(r::o).map ai:=by
 rw[bL,aC (by simp[hk]),hx];rfl
theorem yA{g n m:Nat}(h:n=m):SV.ref g 0 n true=SV.ref g 0 m true:=by rw[h]
theorem zj:∀y∈([]:List IV),y.cells.length=1/\y.isTup=false:=by intro y hy;cases hy
theorem y6{l:List Nat}{k:Nat}:∀y∈List.take k (List.drop 0 (l.map ai)),y.cells.length=1/\y.isTup=false:=by
 intro y hy;obtain⟨d,_,rfl⟩:=List.mem_map.1 (jn (dY hy));exact⟨rfl,rfl⟩
theorem RD(J:Keep){n:Nat}(hn:n<=9223372036854775807):C J 59 [.int .i64 (1*(n:Int))] (zh (1*(n:Int))):=by
 refine aH Tryz.func59 rfl rfl rfl ?_;repeat((first|refine W.R ?_|refine W.c ?_|refine xF (by omega) ?_|refine xr ?_);conv=>whnf)
 refine W.loop (G:={ p:List Nat×Nat // Dg aq p.1.reverse/\hv p.1+aq^p.1.length*p.2=n/\p.2<=n/\p.1.length<=5 }) (fun p=>Lt 1 p.1.2 p.1.1 (1)) (fun p=>p.1.2) ⟨([],n),Dg.nil _,by simp[hv,nv],ak _,by simp⟩
  (Wk.tab [] ⟨aa,aa,aa,aa,ab⟩ ⟨rfl,ab⟩ rfl) ?_
 rintro⟨⟨o,a⟩,hd,hv',han,hl⟩;dsimp only at hd hv' han hl;have hm:(1*(a:Int)).tmod 32768=1*((a%32768:Nat):Int):=by
  rw[lP,lP];exact mn a 32768
 have hq:IntKind.wrap .i64 ((1*(a:Int)).tdiv 32768)=1*((a/32768:Nat):Int):=by
  rw[lP,lP,show(32768:Int)=((32768:Nat):Int) from rfl,nr];exact dv (by omega)
 have hst:=Ky hv';have hdg:Dg aq (a%32768::o).reverse:=by
  rw[Nt];exact hd.append (og (iy _ (by decide)))
 have hle:a/32768<=n:=aY (m5 _ _) han;obtain⟨q,hqe⟩:∃q,a/32768=q:=⟨_,rfl⟩;obtain⟨r,hre⟩:∃r,a%32768=r:=⟨_,rfl⟩;have hqa:a≠0->q<a:=fun h=>by omega
 rw[hqe] at hq hst hle;rw[hre] at hm hst hdg;cases o with
 |nil=>
  show W J _ _ (aF [(0,.iv (.int .i64 (1*(a:Int)))),(2,.ptr 0 0),(3,.iv (.int .i64 (1))),(4,.nilS)] [(0,.var (.agg [.int .i64 0,.sl []]))] 20) _;by_cases h:a=0
  . have hn0:n=0:=by rw[<-hv',h];simp[hv,nv]
    have c1:=sk J (l:=[]) (s:=1) (by simp) (Dg.nil _) (by simp);repeat((first|refine W.R ?_|refine W.c ?_|refine⟨_,c1,?_⟩|refine⟨false,bne_eq_false_iff_eq.2 (by omega),?_⟩|refine xr ?_);conv=>whnf)
    first|(exfalso;omega)|(rw[hn0];rfl)
  . by_cases h0:r=0
    . repeat (first|((first|refine W.R ?_|refine W.c ?_|refine⟨by omega,_,hm,?_⟩|refine⟨by omega,_,hq,?_⟩);conv=>whnf)|(refine⟨bt,rfl,rfl,rfl,zj,by show(1+0)*8<=140737488355328;omega,by show 1+0<=maxLen;unfold maxLen;omega,?_⟩;conv=>whnf)|((first|refine xF (by omega) ?_|refine⟨true,bne_iff_ne.2 (by omega),?_⟩|refine xr ?_);conv=>whnf))
      exact⟨⟨([r],q),hdg,hst,hle,by simp⟩,Wk.tab [(1,30)] ⟨aa,aa,aa,aa,ab⟩ ⟨rfl,jD (xW (by omega)),ab⟩ rfl,by dsimp only;omega⟩
    . repeat (first|((first|refine W.R ?_|refine W.c ?_|refine⟨by omega,_,hm,?_⟩|refine⟨by omega,_,hq,?_⟩);conv=>whnf)|(refine⟨bt,rfl,rfl,rfl,zj,by show(1+0)*8<=140737488355328;omega,by show 1+0<=maxLen;unfold maxLen;omega,?_⟩;conv=>whnf)|((first|refine xF (by omega) ?_|refine⟨true,bne_iff_ne.2 (by omega),?_⟩|refine xr ?_);conv=>whnf))
      exact⟨⟨([r],q),hdg,hst,hle,by simp⟩,Wk.tab [(1,30)] ⟨aa,aa,aa,aa,ab⟩ ⟨rfl,jD (xW (by omega)),ab⟩ rfl,by dsimp only;omega⟩
 |cons x o=>
  show W J _ _ (aF [(0,.iv (.int .i64 (1*(a:Int)))),(2,.ptr 0 0),(3,.iv (.int .i64 (1))),(4,.ref 1 0 (x::o).length true)] [(0,.var (.agg [.int .i64 0,.sl []])),(1,.arr 3 1 ((x::o).map ai) false)] 20) _;have e9:List.take (x::o).length (List.drop 0 ((x::o).map ai))=(x::o).map ai:=by rw[bL,aC (by simp)]
  by_cases h:a=0
  . have hn0:n=hv (x::o):=by rw[<-hv',h];simp
    have c1:=sk J (l:=x::o) (s:=1) (by omega) hd (by omega);rw[<-e9] at c1;repeat((first|refine W.R ?_|refine W.c ?_|refine⟨_,c1,?_⟩|refine⟨false,bne_eq_false_iff_eq.2 (by omega),?_⟩|refine xr ?_);conv=>whnf)
    rw[hn0];rfl
  . have hl4:=Ls hv' h (by omega);have l8:(List.take (x::o).length (List.drop 0 ((x::o).map ai))).length=(x::o).length:=by rw[e9];simp
    by_cases h0:r=0
    . repeat (first|((first|refine W.R ?_|refine W.c ?_|refine⟨by omega,_,hm,?_⟩|refine⟨by omega,_,hq,?_⟩);conv=>whnf)|(refine⟨gW rfl,rfl,rfl,rfl,y6,by show(1+(List.take (x::o).length (List.drop 0 ((x::o).map ai))).length)*8<=140737488355328;omega,by show 1+(List.take (x::o).length (List.drop 0 ((x::o).map ai))).length<=maxLen;unfold maxLen;omega,?_⟩;conv=>whnf)|((first|refine xF (by omega) ?_|refine⟨true,bne_iff_ne.2 (by omega),?_⟩|refine xr ?_);conv=>whnf))
      exact⟨⟨(r::x::o,q),hdg,hst,hle,by simp only[bB] at hl4 ⊢;omega⟩,Wk.tab [(1,30)] ⟨aa,aa,aa,⟨yA (by rw[l8];simp only[bB];omega),rfl⟩,ab⟩ ⟨rfl,jD (xG (by omega) rfl),ab⟩ rfl,by dsimp only;omega⟩
    . repeat (first|((first|refine W.R ?_|refine W.c ?_|refine⟨by omega,_,hm,?_⟩|refine⟨by omega,_,hq,?_⟩);conv=>whnf)|(refine⟨gW rfl,rfl,rfl,rfl,y6,by show(1+(List.take (x::o).length (List.drop 0 ((x::o).map ai))).length)*8<=140737488355328;omega,by show 1+(List.take (x::o).length (List.drop 0 ((x::o).map ai))).length<=maxLen;unfold maxLen;omega,?_⟩;conv=>whnf)|((first|refine xF (by omega) ?_|refine⟨true,bne_iff_ne.2 (by omega),?_⟩|refine xr ?_);conv=>whnf))
      exact⟨⟨(r::x::o,q),hdg,hst,hle,by simp only[bB] at hl4 ⊢;omega⟩,Wk.tab [(1,30)] ⟨aa,aa,aa,⟨yA (by rw[l8];simp only[bB];omega),rfl⟩,ab⟩ ⟨rfl,jD (xG (by omega) rfl),ab⟩ rfl,by dsimp only;omega⟩
theorem RE(J:Keep){n:Nat}(hn:0<n/\n<=9223372036854775808):C J 59 [.int .i64 ((-1)*(n:Int))] (zh ((-1)*(n:Int))):=by
 refine aH Tryz.func59 rfl rfl rfl ?_;repeat((first|refine W.R ?_|refine W.c ?_|refine xT (by omega) ?_|refine xr ?_);conv=>whnf)
 refine W.loop (G:={ p:List Nat×Nat // Dg aq p.1.reverse/\hv p.1+aq^p.1.length*p.2=n/\p.2<=n/\p.1.length<=5 }) (fun p=>Lt (-1) p.1.2 p.1.1 ((-1))) (fun p=>p.1.2) ⟨([],n),Dg.nil _,by simp[hv,nv],ak _,by simp⟩
  (Wk.tab [] ⟨aa,aa,aa,aa,ab⟩ ⟨rfl,ab⟩ rfl) ?_
 rintro⟨⟨o,a⟩,hd,hv',han,hl⟩;dsimp only at hd hv' han hl;have hm:((-1)*(a:Int)).tmod 32768=(-1)*((a%32768:Nat):Int):=by
  rw[kQ,kQ,lP,lP,Int.neg_tmod];exact aJ _ (mn a 32768)
 have hq:IntKind.wrap .i64 (((-1)*(a:Int)).tdiv 32768)=(-1)*((a/32768:Nat):Int):=by
  rw[kQ,kQ,lP,lP,Int.neg_tdiv,show(32768:Int)=((32768:Nat):Int) from rfl,nr];exact dv (by omega)
 have hst:=Ky hv';have hdg:Dg aq (a%32768::o).reverse:=by
  rw[Nt];exact hd.append (og (iy _ (by decide)))
 have hle:a/32768<=n:=aY (m5 _ _) han;obtain⟨q,hqe⟩:∃q,a/32768=q:=⟨_,rfl⟩;obtain⟨r,hre⟩:∃r,a%32768=r:=⟨_,rfl⟩;have hqa:a≠0->q<a:=fun h=>by omega
 rw[hqe] at hq hst hle;rw[hre] at hm hst hdg;cases o with
 |nil=>
  show W J _ _ (aF [(0,.iv (.int .i64 ((-1)*(a:Int)))),(2,.ptr 0 0),(3,.iv (.int .i64 ((-1)))),(4,.nilS)] [(0,.var (.agg [.int .i64 0,.sl []]))] 20) _;by_cases h:a=0
  . have hn0:n=0:=by rw[<-hv',h];simp[hv,nv]
    have c1:=sk J (l:=[]) (s:=(-1)) (by simp) (Dg.nil _) (by simp);repeat((first|refine W.R ?_|refine W.c ?_|refine⟨_,dv (by omega),?_⟩|refine xT (by omega) ?_|refine⟨true,bne_iff_ne.2 (by omega),?_⟩|refine⟨_,rfl,?_⟩|refine xr ?_|refine And.intro (by omega) ?_);conv=>whnf)
    first|(exfalso;omega)|(rw[hn0];rfl)
  . by_cases h0:r=0
    . repeat (first|((first|refine W.R ?_|refine W.c ?_|refine⟨by omega,_,hm,?_⟩|refine⟨by omega,_,hq,?_⟩);conv=>whnf)|(refine⟨bt,rfl,rfl,rfl,zj,by show(1+0)*8<=140737488355328;omega,by show 1+0<=maxLen;unfold maxLen;omega,?_⟩;conv=>whnf)|((first|refine xF (by omega) ?_|refine⟨true,bne_iff_ne.2 (by omega),?_⟩|refine xr ?_);conv=>whnf))
      exact⟨⟨([r],q),hdg,hst,hle,by simp⟩,Wk.tab [(1,30)] ⟨aa,aa,aa,aa,ab⟩ ⟨rfl,jD (xW (by omega)),ab⟩ rfl,by dsimp only;omega⟩
    . repeat (first|((first|refine W.R ?_|refine W.c ?_|refine⟨by omega,_,hm,?_⟩|refine⟨by omega,_,hq,?_⟩);conv=>whnf)|(refine⟨bt,rfl,rfl,rfl,zj,by show(1+0)*8<=140737488355328;omega,by show 1+0<=maxLen;unfold maxLen;omega,?_⟩;conv=>whnf)|((first|refine⟨_,dv (by omega),?_⟩|refine xT (by omega) ?_|refine⟨true,bne_iff_ne.2 (by omega),?_⟩|refine xr ?_);conv=>whnf))
      exact⟨⟨([r],q),hdg,hst,hle,by simp⟩,Wk.tab [(1,33)] ⟨aa,aa,aa,aa,ab⟩ ⟨rfl,jD (xW (by omega)),ab⟩ rfl,by dsimp only;omega⟩
 |cons x o=>
  show W J _ _ (aF [(0,.iv (.int .i64 ((-1)*(a:Int)))),(2,.ptr 0 0),(3,.iv (.int .i64 ((-1)))),(4,.ref 1 0 (x::o).length true)] [(0,.var (.agg [.int .i64 0,.sl []])),(1,.arr 3 1 ((x::o).map ai) false)] 20) _;have e9:List.take (x::o).length (List.drop 0 ((x::o).map ai))=(x::o).map ai:=by rw[bL,aC (by simp)]
  by_cases h:a=0
  . have hn0:n=hv (x::o):=by rw[<-hv',h];simp
    have c1:=sk J (l:=x::o) (s:=(-1)) (by omega) hd (by omega);rw[<-e9] at c1;repeat((first|refine W.R ?_|refine W.c ?_|refine⟨_,c1,?_⟩|refine⟨false,bne_eq_false_iff_eq.2 (by omega),?_⟩|refine xr ?_);conv=>whnf)
    rw[hn0];rfl
  . have hl4:=Ls hv' h (by omega);have l8:(List.take (x::o).length (List.drop 0 ((x::o).map ai))).length=(x::o).length:=by rw[e9];simp
    by_cases h0:r=0
    . repeat (first|((first|refine W.R ?_|refine W.c ?_|refine⟨by omega,_,hm,?_⟩|refine⟨by omega,_,hq,?_⟩);conv=>whnf)|(refine⟨gW rfl,rfl,rfl,rfl,y6,by show(1+(List.take (x::o).length (List.drop 0 ((x::o).map ai))).length)*8<=140737488355328;omega,by show 1+(List.take (x::o).length (List.drop 0 ((x::o).map ai))).length<=maxLen;unfold maxLen;omega,?_⟩;conv=>whnf)|((first|refine xF (by omega) ?_|refine⟨true,bne_iff_ne.2 (by omega),?_⟩|refine xr ?_);conv=>whnf))
      exact⟨⟨(r::x::o,q),hdg,hst,hle,by simp only[bB] at hl4 ⊢;omega⟩,Wk.tab [(1,30)] ⟨aa,aa,aa,⟨yA (by rw[l8];simp only[bB];omega),rfl⟩,ab⟩ ⟨rfl,jD (xG (by omega) rfl),ab⟩ rfl,by dsimp only;omega⟩
    . repeat (first|((first|refine W.R ?_|refine W.c ?_|refine⟨by omega,_,hm,?_⟩|refine⟨by omega,_,hq,?_⟩);conv=>whnf)|(refine⟨gW rfl,rfl,rfl,rfl,y6,by show(1+(List.take (x::o).length (List.drop 0 ((x::o).map ai))).length)*8<=140737488355328;omega,by show 1+(List.take (x::o).length (List.drop 0 ((x::o).map ai))).length<=maxLen;unfold maxLen;omega,?_⟩;conv=>whnf)|((first|refine⟨_,dv (by omega),?_⟩|refine xT (by omega) ?_|refine⟨true,bne_iff_ne.2 (by omega),?_⟩|refine xr ?_);conv=>whnf))
      exact⟨⟨(r::x::o,q),hdg,hst,hle,by simp only[bB] at hl4 ⊢;omega⟩,Wk.tab [(1,33)] ⟨aa,aa,aa,⟨yA (by rw[l8];simp only[bB];omega),rfl⟩,ab⟩ ⟨rfl,jD (xG (by omega) rfl),ab⟩ rfl,by dsimp only;omega⟩
theorem uO(J:Keep){z:Int}(h1 : -9223372036854775808<=z)(h2:z<=9223372036854775807):C J 59 [.int .i64 z] (zh z):=by
 by_cases h:z<0
 . have:=RE J (n:=z.natAbs) (by omega);rwa[show(-1:Int)*(z.natAbs:Int)=z by omega] at this
 . have:=RD J (n:=z.natAbs) (by omega);rwa[show(1:Int)*(z.natAbs:Int)=z by omega] at this
theorem H8(B:Nat)(l:List Nat)(i:Nat):nv B (l.take (i+1))=nv B (l.take i)+B^i*l.getD i 0:=by
 by_cases h:i<l.length
 . rw[AZ B l i h,br,a6 h];rfl
 . have e:l.getD i 0=0:=by simp[Nat.not_lt.1 h]
   rw[e,aC (show l.length<=i+1 by omega),aC (Nat.not_lt.1 h)];rfl
theorem Ty{B:Nat}{l:List Nat}{j d:Nat}(h:j<l.length):nv B (l.set j d)+B^j*l.getD j 0=nv B l+B^j*d:=by
 induction l generalizing j with
 |nil=>simp at h
 |cons x l ih=>
  cases j with
  |zero=>simp[nv];omega
  |succ j=>
   have:=ih (j:=j) (by simpa using h);simp only[Fa,iE,wq,cr];have e1:B*(nv B (l.set j d)+B^j*l.getD j 0)=B*(nv B l+B^j*d):=by rw[this]
   rw[bW,bW] at e1;rw[dD (B^j) B,dZ,dZ];omega
theorem R2{B:Nat}{o m:List Nat}{i k n x c r c' P:Nat}(hj:i+k<n)(hn:n<=o.length)(hs:nv B (o.take n)+B^(i+k)*c=P+B^i*(x*nv B (m.take k)))(he:c+(x*m.getD k 0+o.getD (i+k) 0)=r+B*c') :
 nv B ((o.set (i+k) r).take n)+B^(i+(k+1))*c'=P+B^i*(x*nv B (m.take (k+1))):=by
 have e0:(o.set (i+k) r).take n=(o.take n).set (i+k) r:=by rw[List.take_set]
 have e1:=Ty (B:=B) (l:=o.take n) (d:=r) (show i+k<(o.take n).length by rw[cy];omega);have e2:(o.take n).getD (i+k) 0=o.getD (i+k) 0:=by
  rw[br,br,cX,ay hj]
 rw[e2] at e1;rw[e0,H8,<-lI,cr,dZ];have e3:B^(i+k)*(c+(x*m.getD k 0+o.getD (i+k) 0))=B^(i+k)*(r+B*c'):=by rw[he]
 rw[bW,bW,bW] at e3;have e4:B^i*(x*(nv B (m.take k)+B^k*m.getD k 0))=B^i*(x*nv B (m.take k))+B^(i+k)*(x*m.getD k 0):=by
  rw[bW,bW,jq];congr 1;rw[dZ,wt x]
 rw[e4];omega
theorem OH{x y:Nat}(hx:x<32768)(hy:y<32768):x*y<=1073676289 :=
 aY (iO (Fb hx) (Fb hy)) (by decide)
theorem Dk{l:List Nat}{i j:Nat}(hi:i<l.length)(hj:j=l.length-1-i):(l.map ai)[j]?=some (ai (l.reverse.getD i 0)):=by
 rw[jH (by omega)];have e:l.reverse.getD i 0=l.getD j 0:=by
  rw[br,br,AL hi,hj]
 rw[e]
theorem Cw{o:List Nat}{i j:Nat}(hi:i<o.length)(hj:j=o.length-1-i):(o.reverse.map ai)[j]?=some (ai (o.getD i 0)):=by
 have:=Dk (l:=o.reverse) (i:=i) (j:=j) (by simpa using hi) (by simpa using hj);rwa[pB] at this
theorem vA{g n m:Nat}(h:n=m):SV.ref g 0 n true=SV.ref g 0 m true:=by rw[h]
theorem uN(J:Keep){x y:Int}(hx:lh x.natAbs<2^40)(hy:lh y.natAbs<2^40):C J 25 [zh x,zh y] (zh (x*y)):=by
 unfold lh at hx hy;obtain⟨l,hl0⟩:∃l,l=dh x.natAbs:=⟨_,rfl⟩;obtain⟨m,hm0⟩:∃m,m=dh y.natAbs:=⟨_,rfl⟩;have hol:Dg aq l.reverse:=by rw[hl0];exact(fm _).dg
 have hom:Dg aq m.reverse:=by rw[hm0];exact(fm _).dg
 have hvl:nv aq l.reverse=x.natAbs:=by rw[hl0];exact d9 _
 have hvm:nv aq m.reverse=y.natAbs:=by rw[hm0];exact d9 _
 show C J 25 [.agg [.int .i64 x.sign,.sl ((dh x.natAbs).map ai)],.agg [.int .i64 y.sign,.sl ((dh y.natAbs).map ai)]] _;rw[<-hl0,<-hm0];rw[<-hl0] at hx;rw[<-hm0] at hy;have la:(l.map ai).length=l.length:=by simp
 have lb:(m.map ai).length=m.length:=by simp
 obtain⟨N,hN⟩:∃N,N=l.length+m.length:=⟨_,rfl⟩;refine aH Tryz.func25 rfl rfl rfl ?_;repeat (first|((first|refine W.R ?_|refine W.c ?_|refine⟨rfl,N,by omega,?_⟩);conv=>whnf)|(refine⟨by show 8*_<=(281474976710656:Nat);omega,by unfold maxLen;omega,?_⟩;conv=>whnf)|((first|refine ap (by omega) ?_|refine⟨_,rfl,?_⟩);conv=>whnf))
 refine W.loop (G:={ p:Nat×List Nat // p.1<=l.length/\p.2.length=N/\Dg aq p.2/\nv aq (p.2.take (p.1+m.length))=nv aq (l.reverse.take p.1)*nv aq m.reverse })
  (fun p=>aF [(2,.ptr 0 0),(3,.ptr 1 0),(4,.ptr 2 0),(5,.ref 3 0 N true),(6,.iv (.int .i64 ((l.length:Int)-1-(p.1.1:Int))))]
    [(0,.var (.agg [.int .i64 x.sign,.sl (l.map ai)])),(1,.var (.agg [.int .i64 y.sign,.sl (m.map ai)])),(2,.var (.agg [.int .i64 0,.sl []])),(3,.arr 3 1 (p.1.2.reverse.map ai) false)] 30) (fun p=>l.length-p.1.1)
  ⟨(0,List.replicate N 0),by simp,by simp,Dg.replicate (by decide) _,by simp[nv,wH]⟩
  (Wk.tab [(3,10)] ⟨aa,aa,aa,⟨vA (by omega),rfl⟩,⟨dm (by dsimp only;omega),rfl⟩,ab⟩ ⟨rfl,rfl,rfl,jD ?_,ab⟩ rfl) ?_
 . rw[List.reverse_replicate,wo];rfl
 rintro⟨⟨i,o⟩,hi,ho,hd,hs⟩;dsimp only at hi ho hd hs;show W J _ _ (aF [(2,.ptr 0 0),(3,.ptr 1 0),(4,.ptr 2 0),(5,.ref 3 0 N true),(6,.iv (.int .i64 ((l.length:Int)-1-(i:Int))))]
  [(0,.var (.agg [.int .i64 x.sign,.sl (l.map ai)])),(1,.var (.agg [.int .i64 y.sign,.sl (m.map ai)])),(2,.var (.agg [.int .i64 0,.sl []])),(3,.arr 3 1 (o.reverse.map ai) false)] 30) _
 have lo:(o.reverse.map ai).length=o.length:=by simp
 by_cases h:i<l.length
 . have hx2:l.reverse.getD i 0<32768:=hol.getD (by decide) i;repeat((first|refine W.R ?_|refine W.c ?_|refine ap (by omega) ?_|refine xT (by omega) ?_|refine⟨_,rfl,?_⟩|refine xr ?_);conv=>whnf)
   refine W.loop (G:={ p:Nat×Nat×List Nat // p.1<=m.length/\p.2.1<32768/\p.2.2.length=N/\Dg aq p.2.2/\nv aq (p.2.2.take (i+m.length))+aq^(i+p.1)*p.2.1=nv aq (l.reverse.take i)*nv aq m.reverse+aq^i*(l.reverse.getD i 0*nv aq (m.reverse.take p.1)) })
    (fun p=>aF [(2,.ptr 0 0),(3,.ptr 1 0),(4,.ptr 2 0),(5,.ref 3 0 N true),(6,.iv (.int .i64 ((l.length:Int)-1-(i:Int)))),(7,.iv (.int .i64 (p.1.2.1:Int))),(8,.iv (.int .i64 ((m.length:Int)-1-(p.1.1:Int))))]
      [(0,.var (.agg [.int .i64 x.sign,.sl (l.map ai)])),(1,.var (.agg [.int .i64 y.sign,.sl (m.map ai)])),(2,.var (.agg [.int .i64 0,.sl []])),(3,.arr 3 1 (p.1.2.2.reverse.map ai) false)] 60) (fun p=>m.length-p.1.1)
    ⟨(0,0,o),by simp,by simp,ho,hd,by simp[nv,hs]⟩
    (Wk.tab [] ⟨aa,aa,aa,aa,aa,aa,⟨dm (by dsimp only;omega),rfl⟩,ab⟩ ⟨rfl,rfl,rfl,rfl,ab⟩ rfl) ?_
   clear lo;rintro⟨⟨k,c,o2⟩,hk,hc,ho2,hd2,hs2⟩;dsimp only at hk hc ho2 hd2 hs2;show W J _ _ (aF [(2,.ptr 0 0),(3,.ptr 1 0),(4,.ptr 2 0),(5,.ref 3 0 N true),(6,.iv (.int .i64 ((l.length:Int)-1-(i:Int)))),(7,.iv (.int .i64 (c:Int))),(8,.iv (.int .i64 ((m.length:Int)-1-(k:Int))))]
    [(0,.var (.agg [.int .i64 x.sign,.sl (l.map ai)])),(1,.var (.agg [.int .i64 y.sign,.sl (m.map ai)])),(2,.var (.agg [.int .i64 0,.sl []])),(3,.arr 3 1 (o2.reverse.map ai) false)] 60) _
   have lo:(o2.reverse.map ai).length=o2.length:=by simp
   by_cases h2:k<m.length
   . have hy2:m.reverse.getD k 0<32768:=hom.getD (by decide) k;have hov:o2.getD (i+k) 0<32768:=hd2.getD (by decide) (i+k);have hxy:=OH hx2 hy2;have hxyi:(l.reverse.getD i 0:Int)*(m.reverse.getD k 0:Int)=((l.reverse.getD i 0*m.reverse.getD k 0:Nat):Int):=rfl;obtain⟨q,hQ⟩:∃q,(c+(l.reverse.getD i 0*m.reverse.getD k 0+o2.getD (i+k) 0))/32768=q:=⟨_,rfl⟩;obtain⟨r,hR⟩:∃q,(c+(l.reverse.getD i 0*m.reverse.getD k 0+o2.getD (i+k) 0))%32768=q:=⟨_,rfl⟩;have hsum:(o2.getD (i+k) 0:Int)+(l.reverse.getD i 0:Int)*(m.reverse.getD k 0:Int)+(c:Int)=((c+(l.reverse.getD i 0*m.reverse.getD k 0+o2.getD (i+k) 0):Nat):Int):=by
      rw[hxyi];omega
     have hq:IntKind.wrap .i64 (((o2.getD (i+k) 0:Int)+(l.reverse.getD i 0:Int)*(m.reverse.getD k 0:Int)+(c:Int)).tdiv 32768)=((q:Nat):Int):=by
      rw[hsum,show(32768:Int)=((32768:Nat):Int) from rfl,nr,hQ];exact dv (by omega)
     have hm:((o2.getD (i+k) 0:Int)+(l.reverse.getD i 0:Int)*(m.reverse.getD k 0:Int)+(c:Int)).tmod 32768=((r:Nat):Int):=by
      rw[hsum,show(32768:Int)=((32768:Nat):Int) from rfl,mn,hR]
     have hw1:IntKind.wrap .i64 ((l.reverse.getD i 0:Int)*(m.reverse.getD k 0:Int))=(l.reverse.getD i 0:Int)*(m.reverse.getD k 0:Int):=by rw[hxyi];exact dv (by omega)
     have hw2:IntKind.wrap .i64 ((o2.getD (i+k) 0:Int)+(l.reverse.getD i 0:Int)*(m.reverse.getD k 0:Int))=(o2.getD (i+k) 0:Int)+(l.reverse.getD i 0:Int)*(m.reverse.getD k 0:Int):=by rw[hxyi];exact dv (by omega)
     have hw3:IntKind.wrap .i64 ((o2.getD (i+k) 0:Int)+(l.reverse.getD i 0:Int)*(m.reverse.getD k 0:Int)+(c:Int))=(o2.getD (i+k) 0:Int)+(l.reverse.getD i 0:Int)*(m.reverse.getD k 0:Int)+(c:Int):=by rw[hxyi];exact dv (by omega)
     have hp:=R2 (B:=aq) (n:=i+m.length) (r:=r) (c':=q) (show i+k<i+m.length by omega) (by omega) hs2 (by simp only[aq];omega);repeat((first|refine W.R ?_|refine W.c ?_|refine⟨by omega,_,hq,?_⟩|refine⟨by omega,_,hm,?_⟩|refine⟨(rfl:(_:Nat)=_),N-1-(i+k),by omega,by omega,?_⟩|refine⟨_,Cw (i:=i+k) (by omega) (by omega),?_⟩|refine⟨l.length-1-i,_,by omega,Dk (i:=i) (by omega) rfl,rfl,?_⟩|refine⟨m.length-1-k,_,by omega,Dk (i:=k) (by omega) rfl,rfl,?_⟩|refine⟨bt,_,Cw (i:=i+k) (by omega) (by omega),?_⟩|refine ap (by omega) ?_|refine xT (by omega) ?_|refine xr ?_);conv=>whnf)
     exact⟨⟨(k+1,q,o2.set (i+k) r),by dsimp only;omega,by dsimp only;omega,by dsimp only;rw[cO];exact ho2,hd2.set (by simp only[aq];omega),hp⟩,
      Wk.tab [] ⟨aa,aa,aa,aa,aa,aa,⟨dm (by dsimp only;omega),rfl⟩,ab⟩ ⟨rfl,rfl,rfl,oZ (by omega) (by omega) (by omega),ab⟩ rfl,by dsimp only;omega⟩
   . have hkm:k=m.length:=by omega
     have hp:nv aq ((o2.set (i+m.length) c).take (i+1+m.length))=nv aq (l.reverse.take (i+1))*nv aq m.reverse:=by
      rw[show i+1+m.length=(i+m.length)+1 by omega,pG (by omega),l5];have e:(o2.take (i+m.length)).length=i+m.length:=by rw[cy];omega
      rw[e];rw[hkm,aC (show m.reverse.length<=m.length by simp)] at hs2;rw[hs2,H8 aq l.reverse i,bP,dZ]
     repeat((first|refine W.R ?_|refine W.c ?_|refine⟨(rfl:(_:Nat)=_),N-1-(i+m.length),by omega,by omega,?_⟩|refine⟨bt,_,Cw (i:=i+m.length) (by omega) (by omega),?_⟩|refine ap (by omega) ?_|refine xF (by omega) ?_|refine xr ?_);conv=>whnf)
     exact⟨⟨(i+1,o2.set (i+m.length) c),by dsimp only;omega,by dsimp only;rw[cO];exact ho2,hd2.set (by simp only[aq];omega),hp⟩,
      Wk.tab [] ⟨aa,aa,aa,aa,⟨dm (by dsimp only;omega),rfl⟩,ab⟩ ⟨rfl,rfl,rfl,oZ (by omega) (by omega) (by omega),ab⟩ rfl,by dsimp only;omega⟩
 . have hil:i=l.length:=by omega
   have hfin:hv o.reverse=x.natAbs*y.natAbs:=by
    unfold hv;rw[pB];rw[hil,aC (by omega),aC (show l.reverse.length<=l.length by simp),hvl,hvm] at hs;exact hs
   have sx:=qD x;have sy:=qD y;have hsg:x.sign*y.sign=(x*y).sign:=(Int.sign_mul x y).symm;have s3:=qD (x*y);have hw:IntKind.wrap .i64 (x.sign*y.sign)=(x*y).sign:=by rw[hsg];exact dv (by omega)
   have c9:=sk J (l:=o.reverse) (s:=(x*y).sign) (by
    rcases s3 with h|h|h
    . exact .inr (.inl h)
    . right;right;rw[hfin,<-fB,Int.sign_eq_zero_iff_zero.1 h];rfl
    . exact .inl h) (by rw[pB];exact hd) (by rw[iA];omega)
   have e9:List.take N (List.drop 0 (o.reverse.map ai))=o.reverse.map ai:=by rw[bL,aC (by omega)]
   rw[<-e9] at c9;repeat((first|refine W.R ?_|refine W.c ?_|refine⟨rfl,_,hw,?_⟩|refine⟨_,c9,?_⟩|refine xF (by omega) ?_|refine xr ?_);conv=>whnf)
   refine nJ ?_;rw[hfin,<-fB];exact Ns (x*y)
theorem Ia{B:Nat}(hB:0<B):∀{l:List Nat} (m:Nat),Dg B l->nv B l/B^m%B=l.getD m 0
 | [],m,_=>by simp[nv]
 |x::l,0,h=>by
  have hx:=h x (by simp);rw[tU,rD,iE,AH,fX hx];rfl
 |x::l,m+1,h=>by
  have hx:=h x (by simp);rw[iE,cr,dD (B^m) B,<-Nat.div_div_eq_div_mul,Nn _ _ hB,m4 hx,aU];exact Ia hB m (fun d hd=>h d (by simp[hd]))
theorem Pm{v m x:Nat}(hx:v/aq^m%aq=x):v/aq^(m+1)*32768+x=v/aq^m:=by
 rw[<-hx,cr,<-Nat.div_div_eq_div_mul,dD];exact nY (v/aq^m) aq
theorem yg(J:Keep){l:List Nat}{long k:Nat}(hd:Dg aq l.reverse)(hl:l.length<=long)(hk:k<=long)(hk4:k<=4)(hlo:long<2^59):C J 241 [.sl (l.map ai),.int .i64 long,.int .i64 k] (.int .i64 (hv l/aq^(long-k):Nat)):=by
 refine aH Tryz.func241 rfl rfl rfl ?_;have hvl:hv l<aq^long:=g7 (zr l hd) (dz (by decide) hl);repeat((first|refine W.R ?_|refine W.c ?_);conv=>whnf)
 refine W.loop (G:={ t:Nat // t<=k }) (fun t=>aF [(0,.iv (.sl (l.map ai))),(1,.iv (.int .i64 (long:Int))),(2,.iv (.int .i64 (k:Int))),(7,.iv (.int .i64 (hv l/aq^(long-t.1):Nat))),(8,.iv (.int .i64 (t.1:Int)))] [] 30) (fun t=>k-t.1) ⟨0,bk _⟩
  (Wk.tab [] ⟨aa,aa,aa,⟨dm ?_,rfl⟩,aa,ab⟩ trivial rfl) ?_
 . dsimp only;rw[tX,m4 hvl];rfl
 rintro⟨t,ht⟩;show W J _ _ (aF [(0,.iv (.sl (l.map ai))),(1,.iv (.int .i64 (long:Int))),(2,.iv (.int .i64 (k:Int))),(7,.iv (.int .i64 (hv l/aq^(long-t):Nat))),(8,.iv (.int .i64 (t:Int)))] [] 30) _;by_cases h:t<k
 . have hx:hv l/aq^(long-(t+1))%aq=l.reverse.getD (long-(t+1)) 0:=Ia (by decide) _ hd;have hs:=Pm hx;rw[show long-(t+1)+1=long-t by omega] at hs;have hx2:l.reverse.getD (long-(t+1)) 0<32768:=hd.getD (by decide) _;have hb:hv l/aq^(long-(t+1))<aq^4:=by
    rw[mZ (gh (by decide)),<-jq];exact g7 hvl (dz (by decide) (by omega))
   have hb4:aq^4=1152921504606846976:=by decide
   have c1:=jv J (l:=l) (i:=long-(t+1)) (by omega) (by omega);rw[show((long-(t+1):Nat):Int)=(long:Int)-1-(t:Int) by omega] at c1;obtain⟨xx,hxx⟩:∃xx,l.reverse.getD (long-(t+1)) 0=xx:=⟨_,rfl⟩;obtain⟨v1,hv1⟩:∃xx,hv l/aq^(long-t)=xx:=⟨_,rfl⟩;obtain⟨v2,hv2⟩:∃xx,hv l/aq^(long-(t+1))=xx:=⟨_,rfl⟩;rw[hxx] at c1 hs hx2;rw[hv1,hv2] at hs;rw[hv2] at hb;rw[hv1];repeat((first|refine W.R ?_|refine W.c ?_|refine⟨_,c1,?_⟩|refine ap (by omega) ?_|refine xT (by omega) ?_|refine xr ?_);conv=>whnf)
   exact⟨⟨t+1,by omega⟩,Wk.tab [] ⟨aa,aa,aa,⟨dm (by rw[hv2];omega),rfl⟩,aa,ab⟩ trivial rfl,by dsimp only;omega⟩
 . have e:t=k:=by omega
   subst e;repeat((first|refine W.R ?_|refine W.c ?_|refine xF (by omega) ?_|refine xr ?_);conv=>whnf)
   rfl
theorem PO{R D M:Nat}(hD:0<D)(hM:0<M):R/M/(D/M+1)<=R/D:=by
 rw[AJ hD];have h1:R/M/(D/M+1)*(D/M+1)<=R/M:=tT _ _;have h2:D<=(D/M+1)*M:=nZ (Nat.lt_mul_of_div_lt (tY _) hM);have h3:R/M/(D/M+1)*D<=R/M/(D/M+1)*((D/M+1)*M):=fK _ h2;rw[<-dZ] at h3;have h4:R/M/(D/M+1)*(D/M+1)*M<=R/M*M:=bU _ h1;have h5:R/M*M<=R:=tT _ _;omega
theorem Wm{n:Nat}(h:0<n):aq^(lh n-1)<=n:=by
 have:=qI (B:=aq) (ds:=(dh n).reverse) (fm n).nm (by
  intro e;have:dh n=[]:=by simpa using e
  exact absurd (yU this) (by omega))
 rw[iA] at this;have e:=d9 n;unfold hv at e;rw[e] at this;exact this
noncomputable def qm(r d:Nat):Nat:=if lh r<lh d then 0 else if lh d<=3 then r/d else r/aq^(lh d-3)/(d/aq^(lh d-3)+1)
theorem Ru{r d:Nat}(hd:0<d):qm r d<=r/d:=by
 unfold qm;split
 . exact bk _
 . split
   . exact ak _
   . exact PO hd (gh (by decide))
theorem oF{n:Nat}(h:0<n):zh (n:Int)=.agg [.int .i64 1,.sl ((dh n).map ai)]:=by
 show IV.agg [.int .i64 ((n:Int).sign),.sl ((dh (n:Int).natAbs).map ai)]=_;rw[lN (by omega),fc]
theorem TX(J:Keep){r d:Nat}(hd:0<d)(hr:r<32768*d)(hl:lh d<2^38):C J 200 [.sl ((dh r).map ai),.sl ((dh d).map ai)] (.tup [.int .i64 (r/d:Nat),.sl ((dh (r%d)).map ai)]):=by
 refine aH Tryz.func200 rfl rfl rfl ?_;have la:((dh r).map ai).length=lh r:=by simp[lh]
 have lb:((dh d).map ai).length=lh d:=by simp[lh]
 have hlp:=Dx hd;have hlr:lh r<=lh d+1:=lj (by
  have h1:=iU d;rw[cr];have:d*32768<aq^lh d*aq:=Nl h1 (by decide);omega)
 have hqd:r/d<32768:=by rw[mZ hd];exact hr
 have hgl:=Ru (r:=r) hd;have hgd:qm r d*d<=r:=aY (bU _ hgl) (tT _ _);obtain⟨g,hg⟩:∃g,g=qm r d:=⟨_,rfl⟩;rw[<-hg] at hgl hgd;refine W.RS ?_;conv=>whnf
 refine W.RS ?_;conv=>whnf
 refine W.RS ?_;conv=>whnf
 refine⟨_,rfl,?_⟩;conv=>whnf
 refine W.join (G:=Unit) (fun _=>aF [(0,.iv (.sl ((dh r).map ai))),(1,.iv (.sl ((dh d).map ai))),(6,.iv (.int .i64 (g:Nat)))] [] 60) ?_ ?_
 . by_cases h1:lh d<=lh r
   . by_cases h2:lh d<=3
     . have e:g=r/d:=by rw[hg];unfold qm;rw[am (by omega),ay h2]
       have c1:=yg J (l:=dh r) (long:=lh d+1) (k:=lh d+1) (fm r).dg hlr (ak _) (by omega) (by omega);have c2:=yg J (l:=dh d) (long:=lh d) (k:=lh d) (fm d).dg (ak _) (ak _) (by omega) (by omega);rw[nW,tU,rD,d9] at c1 c2;have hr64:r<1152921504606846976:=by
        have h1:=iU r;have h2:aq^lh r<=aq^4:=dz (by decide) (by omega);have h3:aq^4=1152921504606846976:=by decide
        omega
       have hq:IntKind.wrap .i64 ((r:Int).tdiv (d:Int))=(g:Int):=by rw[nr,<-e];exact dv (by omega)
       rw[<-lb] at c1 c2;repeat (first|((first|refine W.RS ?_|refine W.R ?_|refine⟨_,c1,?_⟩|refine⟨_,c2,?_⟩|refine⟨by omega,_,hq,?_⟩|refine ap (by omega) ?_|refine xT (by omega) ?_|refine⟨_,rfl,?_⟩|refine xr ?_);conv=>whnf)|(refine W.condT rfl ?_))
       exact⟨(),Wk.tab [] ⟨aa,aa,aa,ab⟩ trivial rfl⟩
     . have e:g=r/aq^(lh d-3)/(d/aq^(lh d-3)+1):=by rw[hg];unfold qm;rw[am (by omega),am h2]
       have c1:=yg J (l:=dh r) (long:=lh d+1) (k:=4) (fm r).dg hlr (by omega) (by omega) (by omega);have c2:=yg J (l:=dh d) (long:=lh d) (k:=3) (fm d).dg (ak _) (by omega) (by omega) (by omega);rw[d9] at c1 c2;rw[show lh d+1-4=lh d-3 by omega] at c1;have dK:r/aq^(lh d-3)<aq^4:=by
        rw[mZ (gh (by decide)),<-jq];exact g7 (iU r) (dz (by decide) (by omega))
       have hb2:d/aq^(lh d-3)<aq^3:=by
        rw[mZ (gh (by decide)),<-jq];exact g7 (iU d) (dz (by decide) (by omega))
       have hb3:aq^4=1152921504606846976:=by decide
       have hb4:aq^3=35184372088832:=by decide
       obtain⟨u,hu⟩:∃u,r/aq^(lh d-3)=u:=⟨_,rfl⟩;obtain⟨v,hv'⟩:∃u,d/aq^(lh d-3)=u:=⟨_,rfl⟩;rw[hu] at c1 e dK;rw[hv'] at c2 e hb2;have hq:IntKind.wrap .i64 ((u:Int).tdiv ((v:Int)+1))=(g:Int):=by
        rw[show(v:Int)+1=((v+1:Nat):Int) from rfl,nr,<-e];exact dv (by omega)
       rw[<-lb] at c1 c2;repeat (first|((first|refine W.RS ?_|refine W.R ?_|refine⟨_,c1,?_⟩|refine⟨_,c2,?_⟩|refine⟨by omega,_,hq,?_⟩|refine ap (by omega) ?_|refine xT (by omega) ?_|refine xF (by omega) ?_|refine⟨_,rfl,?_⟩|refine xr ?_);conv=>whnf)|(refine W.condF rfl ?_)|(refine W.condT rfl ?_))
       exact⟨(),Wk.tab [] ⟨aa,aa,aa,ab⟩ trivial rfl⟩
   . have e:g=0:=by rw[hg];unfold qm;rw[ay (by omega)]
     repeat (first|((first|refine W.RS ?_|refine W.skip ?_|refine xF (by omega) ?_|refine⟨_,rfl,?_⟩|refine xr ?_);conv=>whnf)|(refine W.condF rfl ?_))
     exact⟨(),Wk.tab [] ⟨aa,aa,⟨dm (by omega),rfl⟩,ab⟩ trivial rfl⟩
 rintro⟨⟩
 try dsimp only
 refine W.join (G:=Unit) (fun _=>aF [(0,.iv (.sl ((dh (r-g*d)).map ai))),(1,.iv (.sl ((dh d).map ai))),(6,.iv (.int .i64 (g:Nat)))] [] 60) ?_ ?_
 . by_cases h0:g=0
   . repeat (first|((first|refine W.RS ?_|refine W.skip ?_|refine xF (by omega) ?_|refine xr ?_);conv=>whnf)|(refine W.condF rfl ?_))
     refine⟨(),Wk.tab [] ⟨⟨?_,rfl⟩,aa,aa,ab⟩ trivial rfl⟩;rw[h0,mW,tX];rfl
   . have c1:=uO J (z:=(g:Int)) (by omega) (by omega);have hlg:lh g<=1:=lj (by rw[rB];simp only[aq];omega);have c2:=uN J (x:=(g:Int)) (y:=(d:Int)) (by rw[fc];omega) (by rw[fc];omega);rw[oF hd,<-kN,oF (n:=g*d) (n0 (by omega) hd)] at c2;have c3:=xC J hgd (by omega);repeat (first|((first|refine W.RS ?_|refine W.R ?_|refine⟨_,c1,?_⟩|refine⟨_,c2,?_⟩|refine⟨_,c3,?_⟩|refine xT (by omega) ?_|refine xr ?_);conv=>whnf)|(refine W.condT rfl ?_))
     exact⟨(),Wk.tab [] ⟨aa,aa,aa,ab⟩ trivial rfl⟩
 rintro⟨⟩
 try dsimp only
 repeat ((refine W.c ?_;conv=>whnf))
 refine W.loop (G:={ p:Nat×Nat // p.2*d+p.1=r/\p.2<=r/d }) (fun p=>aF [(0,.iv (.sl ((dh p.1.1).map ai))),(1,.iv (.sl ((dh d).map ai))),(6,.iv (.int .i64 (p.1.2:Nat)))] [] 60) (fun p=>p.1.1) ⟨(r-g*d,g),by dsimp only;omega,hgl⟩
  (Wk.tab [] ⟨aa,aa,aa,ab⟩ trivial rfl) ?_
 rintro⟨⟨u,q⟩,hu,hq⟩;dsimp only at hu hq;show W J _ _ (aF [(0,.iv (.sl ((dh u).map ai))),(1,.iv (.sl ((dh d).map ai))),(6,.iv (.int .i64 (q:Nat)))] [] 60) _;have hur:lh u<=lh r:=l6 (by omega);by_cases h:d<=u
 . have hc:0<=aN (u:Nat) (d:Nat):=by unfold aN;split<;>(try split)<;>omega
   have c1:=xC J h (by omega);have hq2:q+1<=r/d:=by
    rw[AJ hd,bP,pq];omega
   repeat((first|refine W.R ?_|refine W.c ?_|refine⟨_,yh J (a:=u) (b:=d) (by omega),?_⟩|refine⟨_,c1,?_⟩|refine ap (by omega) ?_|refine xT (by omega) ?_|refine xr ?_);conv=>whnf)
   exact⟨⟨(u-d,q+1),by dsimp only;rw[bP,pq];omega,hq2⟩,Wk.tab [] ⟨aa,aa,aa,ab⟩ trivial rfl,by dsimp only;omega⟩
 . have hc:aN (u:Nat) (d:Nat)<0:=by unfold aN;split<;>(try split)<;>omega
   have e1:q=r/d:=by
    rw[<-hu,dD,E9 hd,m4 (by omega),fA]
   have e2:u=r%d:=by
    rw[<-hu,dD,Nk,fX (by omega)]
   repeat((first|refine W.R ?_|refine W.c ?_|refine⟨_,yh J (a:=u) (b:=d) (by omega),?_⟩|refine xF (by omega) ?_|refine xr ?_);conv=>whnf)
   rw[<-e1,<-e2];rfl
theorem CK(l:List Nat)(x:Nat):hv (l ++ [x])=hv l*32768+x:=by
 unfold hv;rw[Nu];show nv aq (x::l.reverse)=_;show x+32768*nv aq l.reverse=_;omega
theorem oo(J:Keep){l:List Nat}{es:List IV}(he:es=l.map ai)(hl:l.length<2^60){n:Nat}(hd:Dg aq l.reverse)(hn:hv l=n):C J 119 [.sl es] (.sl ((dh n).map ai)):=by
 have:=CT J hl;rwa[Ce hd hn,<-he] at this
theorem Jf{l:List Nat}{i:Nat}(h:i<l.length):hv (l.take (i+1))=hv (l.take i)*32768+l.getD i 0:=by
 rw[t7 h,CK,br,a6 h];rfl
theorem S8{N r d x q:Nat}(hd:0<d)(h1:N/d=q)(h2:N%d=r):(N*32768+x)/d=q*32768+(r*32768+x)/d/\(N*32768+x)%d=(r*32768+x)%d:=by
 have e:N*32768+x=d*(q*32768)+(r*32768+x):=by
  have:=nY N d;rw[h1,h2] at this;rw[<-this,bP,dZ,lI]
 rw[e,E9 hd,Nk];exact⟨rfl,rfl⟩
noncomputable def sP(l m:List Nat)(u i:Nat)(Q:List Nat):AS :=
 match Q with
 | []=>aF [(0,.iv (.sl (l.map ai))),(1,.iv (.sl (m.map ai))),(6,.nilS),(7,.iv (.sl ((dh u).map ai))),(8,.iv (.int .i64 (i:Nat)))] [] 60
 |x::Q=>aF [(0,.iv (.sl (l.map ai))),(1,.iv (.sl (m.map ai))),(6,.ref 1 0 (x::Q).length true),(7,.iv (.sl ((dh u).map ai))),(8,.iv (.int .i64 (i:Nat)))] [(1,.arr 3 1 ((x::Q).map ai) false)] 60
theorem Lq{l:List Nat}:∀y∈l.map ai,y.cells.length=1/\y.isTup=false:=by
 intro y hy;obtain⟨d,_,rfl⟩:=List.mem_map.1 hy;exact⟨rfl,rfl⟩
theorem V0{l:List Nat}{i j:Nat}:∀y∈List.drop j (List.take i (l.map ai)),y.cells.length=1/\y.isTup=false:=by
 intro y hy;obtain⟨d,_,rfl⟩:=List.mem_map.1 (dY (jn hy));exact⟨rfl,rfl⟩
theorem EM{l:List Nat}(h:l≠[]):(l.map ai).isEmpty=false:=by cases l with|nil=>exact absurd rfl h|cons=>rfl
theorem EL{l:List Nat}(h:l=[]):(l.map ai).isEmpty=true:=by rw[h];rfl
theorem CU(J:Keep){a d:Nat}(hd:0<d)(ha:lh a<2^38):C J 168 [.sl ((dh a).map ai),.sl ((dh d).map ai)] (.tup [.sl ((dh (a/d)).map ai),.sl ((dh (a%d)).map ai)]):=by
 refine aH Tryz.func168 rfl rfl rfl ?_;have la:((dh a).map ai).length=lh a:=by simp[lh]
 have lb:((dh d).map ai).length=lh d:=by simp[lh]
 have hlp:=Dx hd;by_cases h1:lh a<lh d
 . have hlt:=A2 (l:=dh a) (m:=dh d) (fm a) (fm d) h1;rw[d9,d9] at hlt;repeat((first|refine W.R ?_|refine W.c ?_|refine xT (by omega) ?_|refine⟨_,rfl,?_⟩|refine xr ?_);conv=>whnf)
   rw[m4 hlt,fX hlt,nh];rfl
 . have hld:lh d<2^38:=by omega
   obtain⟨l,hl⟩:∃l,l=dh a:=⟨_,rfl⟩;obtain⟨m,hm⟩:∃m,m=dh d:=⟨_,rfl⟩;have hol:Dg aq l.reverse:=by rw[hl];exact(fm a).dg
   have hvl:hv l=a:=by rw[hl];exact d9 a
   have hvm:hv m=d:=by rw[hm];exact d9 d
   have hll:l.length=lh a:=by rw[hl];rfl
   have hml:m.length=lh d:=by rw[hm];rfl
   rw[<-hl,<-hm];rw[<-hl] at la;rw[<-hm] at lb;have hdt:∀i,Dg aq (l.take i).reverse:=fun i=>by
    intro x hx;exact hol x (by simp only[List.mem_reverse] at hx ⊢;exact dY hx)
   have hu0:hv (l.take (lh d-1))<d:=by
    have h3:=zr (l.take (lh d-1)) (hdt _);have h4:=Wm hd;have h5:(l.take (lh d-1)).length=lh d-1:=by rw[cy];omega
    rw[h5] at h3;omega
   refine W.RS ?_;conv=>whnf
   iterate 9 (first|((first|refine W.RS ?_|refine W.skip ?_|refine xF (by omega) ?_|refine⟨_,rfl,?_⟩|refine xr ?_);conv=>whnf)|(refine W.S ?_)|(refine W.condF rfl ?_))
   refine W.join (G:=Unit) (fun _=>aF [(0,.iv (.sl (l.map ai))),(1,.iv (.sl (m.map ai))),(6,.nilS),(7,.iv (.sl ((dh (hv (l.take (lh d-1)))).map ai)))] [] 40) ?_ ?_
   . have lt:((l.map ai).take (lh d-1)).drop 0=(l.take (lh d-1)).map ai:=by rw[bL,Fq]
     have ltl:(l.take (lh d-1)).length=lh d-1:=by rw[cy];omega
     by_cases h2:lh d=1
     . have c1:=oo J (l:=[]) (es:=[]) (n:=hv (l.take (lh d-1))) rfl (by simp) (Dg.nil _) (by rw[h2];rfl);have hT:(((l.map ai).take (lh d-1)).drop 0).isEmpty=true:=by rw[lt];exact EL (by rw[h2];rfl)
       repeat((first|refine W.R ?_|refine⟨lh d-1,by omega,?_⟩|refine⟨true,hT,?_⟩|refine⟨_,c1,?_⟩|refine ap (by omega) ?_|refine⟨_,rfl,?_⟩|refine⟨by omega,by omega,by omega,.inr (by simp),.inl rfl,?_⟩);conv=>whnf)
       exact⟨(),Wk.tab [] ⟨aa,aa,aa,aa,ab⟩ trivial rfl⟩
     . have hF:(((l.map ai).take (lh d-1)).drop 0).isEmpty=false:=by rw[lt];exact EM (by intro e;rw[e] at ltl;simp at ltl;omega)
       have hlen:(((l.map ai).take (lh d-1)).drop 0).length=lh d-1:=by rw[lt,bR,ltl]
       repeat (first|((first|refine W.R ?_|refine⟨lh d-1,by omega,?_⟩|refine⟨false,hF,?_⟩);conv=>whnf)|(refine⟨V0,by show(((l.map ai).take (lh d-1)).drop 0).length*8<=140737488355328;omega,by show(((l.map ai).take (lh d-1)).drop 0).length<=maxLen;unfold maxLen;omega,?_⟩;conv=>whnf)|(refine⟨_,oo J (l:=l.take (lh d-1)) (n:=hv (l.take (lh d-1))) (by rw[aC (by simp)];simp[Fq]) (by omega) (hdt _) rfl,?_⟩;conv=>whnf)|((first|refine ap (by omega) ?_|refine⟨_,rfl,?_⟩|refine⟨by omega,by omega,by omega,.inr (by simp),.inl rfl,?_⟩);conv=>whnf))
       exact⟨(),Wk.tab [] ⟨aa,aa,aa,aa,ab⟩ trivial rfl⟩
   rintro⟨⟩;repeat((first|refine W.R ?_|refine W.c ?_|refine ap (by omega) ?_|refine⟨_,rfl,?_⟩);conv=>whnf)
   refine W.loop (G:={ p:Nat×List Nat // lh d-1<=p.1/\p.1<=l.length/\hv p.2=hv (l.take p.1)/d/\Dg aq p.2.reverse/\p.2.length=p.1-(lh d-1) }) (fun p=>sP l m (hv (l.take p.1.1)%d) p.1.1 p.1.2) (fun p=>l.length-p.1.1)
    ⟨(lh d-1,[]),ak _,by dsimp only;omega,by dsimp only;rw[m4 hu0];rfl,Dg.nil _,by dsimp only;rw[nW];rfl⟩
    (Wk.tab [] ⟨aa,aa,aa,⟨?_,rfl⟩,⟨dm (by dsimp only;omega),rfl⟩,ab⟩ trivial rfl) ?_
   . show SV.iv (.sl _)=SV.iv (.sl _);rw[fX hu0]
   rintro⟨⟨i,Q⟩,hi1,hi2,hQ,hQd,hQl⟩;dsimp only at hi1 hi2 hQ hQd hQl;obtain⟨u,hu⟩:∃u,hv (l.take i)%d=u:=⟨_,rfl⟩;have hud:u<d:=by rw[<-hu];exact iy _ hd
   have hlu:lh u<=lh d:=l6 (nZ hud);have lu:((dh u).map ai).length=lh u:=by simp[lh]
   show W J _ _ (sP l m (hv (l.take i)%d) i Q) _;rw[hu];by_cases h3:i<l.length
   . have hx:l.getD i 0<32768:=by
      have:=hol.getD (by decide) (l.length-1-i);rw[br,AL (by omega),show l.length-1-(l.length-1-i)=i by omega,<-br] at this;exact this
     obtain⟨x,hxe⟩:∃x,l.getD i 0=x:=⟨_,rfl⟩;have htk:=Jf h3;rw[hxe] at hx htk;obtain⟨s1,s2⟩:=S8 (x:=x) hd hQ.symm hu;have hnr:u*32768+x<32768*d:=by
      have:(u+1)*32768<=d*32768:=bU _ hud;omega
     have hkd:(u*32768+x)/d<32768:=by rw[mZ hd];exact hnr
     have c2:C J 200 [.sl ((dh (u*32768+x)).map ai),.sl (m.map ai)] (.tup [.int .i64 ((u*32768+x)/d:Nat),.sl ((dh ((u*32768+x)%d)).map ai)]):=by
      rw[hm];exact TX J hd hnr hld
     obtain⟨k,hk⟩:∃k,(u*32768+x)/d=k:=⟨_,rfl⟩;obtain⟨u2,hu2⟩:∃k,(u*32768+x)%d=k:=⟨_,rfl⟩;rw[hk,hu2] at c2;rw[hk] at s1 hkd;rw[hu2] at s2;have hgt:(l.map ai)[i]?=some (ai x):=by rw[jH h3,hxe]
     have hdg2:Dg aq (dh u ++ [x]).reverse:=by
      rw[Nu];exact(og hx).append (fm u).dg
     have hlen2:(dh u ++ [x]).length<2^60:=by
      have:(dh u).length=lh u:=rfl;rw[bF,tS];omega
     have hv2:hv (dh u ++ [x])=u*32768+x:=by rw[CK,d9]
     have hQ2:hv (Q ++ [k])=hv (l.take (i+1))/d:=by rw[CK,htk];exact s1.symm
     have hQd2:Dg aq (Q ++ [k]).reverse:=by rw[Nu];exact(og hkd).append hQd
     have hQl2:(Q ++ [k]).length=i+1-(lh d-1):=by rw[bF,tS];omega
     have hu3:hv (l.take (i+1))%d=u2:=by rw[htk];exact s2
     cases Q with
     |nil=>
      show W J _ _ (aF [(0,.iv (.sl (l.map ai))),(1,.iv (.sl (m.map ai))),(6,.nilS),(7,.iv (.sl ((dh u).map ai))),(8,.iv (.int .i64 (i:Nat)))] [] 60) _;by_cases h0:u=0
      . repeat (first|((first|refine W.R ?_|refine W.c ?_|refine⟨true,EL (by rw[h0,nh]),?_⟩|refine⟨i,_,rfl,hgt,rfl,?_⟩);conv=>whnf)|(refine⟨_,oo J (l:=dh u ++ [x]) (n:=u*32768+x) (by rw[h0,nh];rfl) hlen2 hdg2 hv2,?_⟩;conv=>whnf)|((first|refine⟨_,c2,?_⟩|refine ap (by omega) ?_|refine⟨ns,aG rfl,aG rfl,?_⟩|refine xT (by omega) ?_|refine⟨_,rfl,?_⟩|refine xr ?_);conv=>whnf))
        exact⟨⟨(i+1,[k]),by dsimp only;omega,by dsimp only;omega,hQ2,hQd2,hQl2⟩,by
         show Wk _ (sP l m (hv (l.take (i+1))%d) (i+1) ([k]));rw[hu3];exact Wk.tab [(1,86)] ⟨aa,aa,⟨vA (by simp),rfl⟩,aa,aa,ab⟩ ⟨jD (by simp;rfl),ab⟩ rfl,by dsimp only;omega⟩
      . repeat (first|((first|refine W.R ?_|refine W.c ?_|refine⟨false,EM (fun e=>h0 (yU e)),?_⟩);conv=>whnf)|(refine⟨Lq,by show((dh u).map ai).length*8<=140737488355328;omega,by show((dh u).map ai).length<=maxLen;unfold maxLen;omega,?_⟩;conv=>whnf)|(refine⟨gW rfl,rfl,rfl,rfl,ns,by show(((dh u).map ai).length+1)*8<=140737488355328;omega,by show((dh u).map ai).length+1<=maxLen;unfold maxLen;omega,?_⟩;conv=>whnf)|(refine⟨i,_,rfl,hgt,rfl,?_⟩;conv=>whnf)|(refine⟨_,oo J (l:=dh u ++ [x]) (n:=u*32768+x) (by rw[bL,aC (by simp),dE];rfl) hlen2 hdg2 hv2,?_⟩;conv=>whnf)|((first|refine⟨_,c2,?_⟩|refine ap (by omega) ?_|refine⟨ns,aG rfl,aG rfl,?_⟩|refine xT (by omega) ?_|refine⟨_,rfl,?_⟩|refine xr ?_);conv=>whnf))
        exact⟨⟨(i+1,[k]),by dsimp only;omega,by dsimp only;omega,hQ2,hQd2,hQl2⟩,by
         show Wk _ (sP l m (hv (l.take (i+1))%d) (i+1) ([k]));rw[hu3];exact Wk.tab [(1,86)] ⟨aa,aa,⟨vA (by simp),rfl⟩,aa,aa,ab⟩ ⟨jD (by simp;rfl),ab⟩ rfl,by dsimp only;omega⟩
     |cons z Q=>
      show W J _ _ (aF [(0,.iv (.sl (l.map ai))),(1,.iv (.sl (m.map ai))),(6,.ref 1 0 (z::Q).length true),(7,.iv (.sl ((dh u).map ai))),(8,.iv (.int .i64 (i:Nat)))] [(1,.arr 3 1 ((z::Q).map ai) false)] 60) _;by_cases h0:u=0
      . repeat (first|((first|refine W.R ?_|refine W.c ?_|refine⟨true,EL (by rw[h0,nh]),?_⟩|refine⟨i,_,rfl,hgt,rfl,?_⟩);conv=>whnf)|(refine⟨_,oo J (l:=dh u ++ [x]) (n:=u*32768+x) (by rw[h0,nh];rfl) hlen2 hdg2 hv2,?_⟩;conv=>whnf)|(refine⟨_,c2,?_⟩;conv=>whnf)|(refine⟨gW rfl,rfl,rfl,by simp,ns,by show((z::Q).length+1)*8<=140737488355328;omega,by show(z::Q).length+1<=maxLen;unfold maxLen;omega,?_⟩;conv=>whnf)|((first|refine ap (by omega) ?_|refine⟨ns,aG rfl,aG rfl,?_⟩|refine xT (by omega) ?_|refine⟨_,rfl,?_⟩|refine xr ?_);conv=>whnf))
        exact⟨⟨(i+1,z::Q ++ [k]),by dsimp only;omega,by dsimp only;omega,hQ2,hQd2,hQl2⟩,by
         show Wk _ (sP l m (hv (l.take (i+1))%d) (i+1) (z::Q ++ [k]));rw[hu3];exact Wk.tab [(1,86)] ⟨aa,aa,⟨vA (by simp),rfl⟩,aa,aa,ab⟩ ⟨jD (by simp;rfl),ab⟩ rfl,by dsimp only;omega⟩
      . repeat (first|((first|refine W.R ?_|refine W.c ?_|refine⟨false,EM (fun e=>h0 (yU e)),?_⟩);conv=>whnf)|(refine⟨Lq,by show((dh u).map ai).length*8<=140737488355328;omega,by show((dh u).map ai).length<=maxLen;unfold maxLen;omega,?_⟩;conv=>whnf)|(refine⟨gW rfl,rfl,rfl,rfl,ns,by show(((dh u).map ai).length+1)*8<=140737488355328;omega,by show((dh u).map ai).length+1<=maxLen;unfold maxLen;omega,?_⟩;conv=>whnf)|(refine⟨i,_,rfl,hgt,rfl,?_⟩;conv=>whnf)|(refine⟨_,oo J (l:=dh u ++ [x]) (n:=u*32768+x) (by rw[bL,aC (by simp),dE];rfl) hlen2 hdg2 hv2,?_⟩;conv=>whnf)|(refine⟨_,c2,?_⟩;conv=>whnf)|(refine⟨gW rfl,rfl,rfl,by simp,ns,by show((z::Q).length+1)*8<=140737488355328;omega,by show(z::Q).length+1<=maxLen;unfold maxLen;omega,?_⟩;conv=>whnf)|((first|refine ap (by omega) ?_|refine xT (by omega) ?_|refine⟨_,rfl,?_⟩|refine xr ?_);conv=>whnf))
        exact⟨⟨(i+1,z::Q ++ [k]),by dsimp only;omega,by dsimp only;omega,hQ2,hQd2,hQl2⟩,by
         show Wk _ (sP l m (hv (l.take (i+1))%d) (i+1) (z::Q ++ [k]));rw[hu3];exact Wk.tab [(1,86)] ⟨aa,aa,⟨vA (by simp),rfl⟩,aa,aa,ab⟩ ⟨jD (by simp;rfl),ab⟩ rfl,by dsimp only;omega⟩
   . have hil:i=l.length:=by omega
     have e1:hv Q=a/d:=by rw[hQ,hil,dM,hvl]
     have e2:u=a%d:=by rw[<-hu,hil,dM,hvl]
     cases Q with
     |nil=>
      show W J _ _ (aF [(0,.iv (.sl (l.map ai))),(1,.iv (.sl (m.map ai))),(6,.nilS),(7,.iv (.sl ((dh u).map ai))),(8,.iv (.int .i64 (i:Nat)))] [] 60) _;repeat((first|refine W.R ?_|refine W.c ?_|refine⟨_,oo J (l:=[]) (n:=a/d) rfl (by simp) (Dg.nil _) e1,?_⟩|refine xF (by omega) ?_|refine⟨_,rfl,?_⟩|refine xr ?_);conv=>whnf)
      rw[e2];rfl
     |cons z Q=>
      show W J _ _ (aF [(0,.iv (.sl (l.map ai))),(1,.iv (.sl (m.map ai))),(6,.ref 1 0 (z::Q).length true),(7,.iv (.sl ((dh u).map ai))),(8,.iv (.int .i64 (i:Nat)))] [(1,.arr 3 1 ((z::Q).map ai) false)] 60) _;repeat((first|refine W.R ?_|refine W.c ?_|refine⟨_,oo J (l:=z::Q) (n:=a/d) (by rw[bL,aC (by simp)]) (by omega) hQd e1,?_⟩|refine xF (by omega) ?_|refine⟨_,rfl,?_⟩|refine xr ?_);conv=>whnf)
      rw[e2];rfl
theorem KY(a d:Nat):lh (a/d)<=lh a:=l6 (m5 _ _)
theorem Ur(J:Keep){l:List Nat}(hd:Dg aq l.reverse)(hl:l.length<=4):C J 199 [.sl (l.map ai)] (.int .i64 (hv l:Nat)):=by
 refine aH Tryz.func199 rfl rfl rfl ?_;have la:(l.map ai).length=l.length:=by simp
 have hdt:∀i,Dg aq (l.take i).reverse:=fun i=>by
  intro x hx;exact hd x (by simp only[List.mem_reverse] at hx ⊢;exact dY hx)
 repeat((first|refine W.R ?_|refine W.c ?_);conv=>whnf)
 refine W.loop (G:={ i:Nat // i<=l.length }) (fun i=>aF [(0,.iv (.sl (l.map ai))),(3,.iv (.int .i64 (hv (l.take i.1):Nat))),(4,.iv (.int .i64 (i.1:Nat)))] [] 20) (fun i=>l.length-i.1) ⟨0,bk _⟩
  (Wk.tab [] ⟨aa,aa,aa,ab⟩ trivial rfl) ?_
 rintro⟨i,hi⟩;show W J _ _ (aF [(0,.iv (.sl (l.map ai))),(3,.iv (.int .i64 (hv (l.take i):Nat))),(4,.iv (.int .i64 (i:Nat)))] [] 20) _;by_cases h:i<l.length
 . have htk:=Jf h;have hb:=zr (l.take (i+1)) (hdt _);have hb2:aq^(l.take (i+1)).length<=aq^4:=dz (by decide) (by rw[cy];omega);have hb3:aq^4=1152921504606846976:=by decide
   repeat((first|refine W.R ?_|refine W.c ?_|refine⟨i,_,rfl,jH h,rfl,?_⟩|refine ap (by omega) ?_|refine xT (by omega) ?_|refine⟨_,rfl,?_⟩|refine xr ?_);conv=>whnf)
   exact⟨⟨i+1,by omega⟩,Wk.tab [] ⟨aa,⟨dm (by dsimp only;omega),rfl⟩,aa,ab⟩ trivial rfl,by dsimp only;omega⟩
 . have e:i=l.length:=by omega
   subst e;repeat((first|refine W.R ?_|refine W.c ?_|refine xF (by omega) ?_|refine⟨_,rfl,?_⟩|refine xr ?_);conv=>whnf)
   rw[dM];rfl
theorem J6(J:Keep){n:Nat}(h:lh n<=4):C J 199 [.sl ((dh n).map ai)] (.int .i64 (n:Nat)):=by
 have:=Ur J (l:=dh n) (fm n).dg h;rwa[d9] at this
theorem JL{n:Nat}(h:lh n<=4):n<1152921504606846976:=by
 have h1:=iU n;have h2:aq^lh n<=aq^4:=dz (by decide) h;have h3:aq^4=1152921504606846976:=by decide
 omega
theorem Ua(J:Keep){x y:Int}(hx:lh x.natAbs<2^37)(hy:lh y.natAbs<2^37):C J 167 [zh x,zh y] (zh (Nat.gcd x.natAbs y.natAbs:Nat)):=by
 refine aH Tryz.func167 rfl rfl rfl ?_;repeat((first|refine W.R ?_|refine W.c ?_|refine xr ?_);conv=>whnf)
 refine W.loop (G:={ p:Nat×Nat // Nat.gcd p.1 p.2=Nat.gcd x.natAbs y.natAbs/\lh p.1<2^37/\lh p.2<2^37 }) (fun p=>aF [(4,.ptr 2 0),(5,.iv (.sl ((dh p.1.1).map ai))),(6,.iv (.sl ((dh p.1.2).map ai)))] [(2,.var (.agg [.int .i64 0,.sl []]))] 20) (fun p=>p.1.2)
  ⟨(x.natAbs,y.natAbs),rfl,hx,hy⟩ (Wk.tab [] ⟨aa,aa,aa,ab⟩ ⟨rfl,ab⟩ rfl) ?_
 rintro⟨⟨u,v⟩,hg,hu,hv'⟩;dsimp only at hg hu hv';show W J _ _ (aF [(4,.ptr 2 0),(5,.iv (.sl ((dh u).map ai))),(6,.iv (.sl ((dh v).map ai)))] [(2,.var (.agg [.int .i64 0,.sl []]))] 20) _;have lu:((dh u).map ai).length=lh u:=by simp[lh]
 have lv:((dh v).map ai).length=lh v:=by simp[lh]
 by_cases h0:v=0
 . have hl0:lh v=0:=by rw[h0];unfold lh;rw[nh];rfl
   have c1:=sq J (n:=u) (s:=1) (.inl rfl) (by omega);rw[lP] at c1;repeat((first|refine W.R ?_|refine W.c ?_|refine⟨_,c1,?_⟩|refine xF (by omega) ?_|refine⟨_,rfl,?_⟩|refine xr ?_);conv=>whnf)
   rw[<-hg,h0,Fg];rfl
 . have hlp:=Dx (n:=v) (by omega);have hym:u%v<v:=iy _ (by omega);have hgn:Nat.gcd v (u%v)=Nat.gcd x.natAbs y.natAbs:=by rw[<-hg,rC u v,Fh v u,rC]
   have hlm:lh (u%v)<2^37:=jP (l6 (nZ hym)) hv';have hbig:=CU J (a:=u) (d:=v) (by omega) (by omega);by_cases h1:lh u<=4
   . by_cases h2:lh v<=4
     . have b1:=JL h1;have b2:=JL h2;repeat((first|refine W.R ?_|refine W.c ?_|refine⟨_,J6 J h1,?_⟩|refine⟨_,J6 J h2,?_⟩|refine xT (by omega) ?_|refine⟨_,rfl,?_⟩|refine xr ?_|refine xB ?_);conv=>whnf)
       refine W.loop (G:={ p:Nat×Nat // Nat.gcd p.1 p.2=Nat.gcd x.natAbs y.natAbs/\p.1<1152921504606846976/\p.2<1152921504606846976 }) (fun p=>aF [(4,.ptr 2 0),(7,.iv (.int .i64 (p.1.1:Nat))),(8,.iv (.int .i64 (p.1.2:Nat)))] [(2,.var (.agg [.int .i64 0,.sl []]))] 20) (fun p=>p.1.2)
        ⟨(u,v),hg,b1,b2⟩ (Wk.tab [] ⟨aa,aa,aa,ab⟩ ⟨rfl,ab⟩ rfl) ?_
       rintro⟨⟨n,m⟩,hg2,hn,hm⟩;dsimp only at hg2 hn hm;show W J _ _ (aF [(4,.ptr 2 0),(7,.iv (.int .i64 (n:Nat))),(8,.iv (.int .i64 (m:Nat)))] [(2,.var (.agg [.int .i64 0,.sl []]))] 20) _;by_cases h3:m=0
       . subst h3;repeat((first|refine W.R ?_|refine W.c ?_|refine⟨_,uO J (z:=(n:Int)) (by omega) (by omega),?_⟩|refine⟨false,bne_eq_false_iff_eq.2 (by omega),?_⟩|refine xr ?_);conv=>whnf)
         rw[<-hg2,Fg];rfl
       . have hvm:n%m<m:=iy _ (by omega);have hm2:=mn n m;obtain⟨r,hr⟩:∃r,n%m=r:=⟨_,rfl⟩;rw[hr] at hm2 hvm;repeat((first|refine W.R ?_|refine W.c ?_|refine⟨by omega,_,hm2,?_⟩|refine⟨true,bne_iff_ne.2 (by omega),?_⟩|refine xr ?_);conv=>whnf)
         exact⟨⟨(m,r),by rw[<-hg2,<-hr,rC n m,Fh m n,rC],hm,by dsimp only;omega⟩,Wk.tab [] ⟨aa,aa,aa,ab⟩ ⟨rfl,ab⟩ rfl,hvm⟩
     . repeat((first|refine W.R ?_|refine W.c ?_|refine⟨_,hbig,?_⟩|refine xT (by omega) ?_|refine xF (by omega) ?_|refine⟨_,rfl,?_⟩|refine xr ?_|refine xB ?_);conv=>whnf)
       exact⟨⟨(v,u%v),hgn,hv',hlm⟩,Wk.tab [] ⟨aa,aa,aa,ab⟩ ⟨rfl,ab⟩ rfl,hym⟩
   . repeat((first|refine W.R ?_|refine W.c ?_|refine⟨_,hbig,?_⟩|refine xT (by omega) ?_|refine xF (by omega) ?_|refine⟨_,rfl,?_⟩|refine xr ?_|refine xA ?_);conv=>whnf)
     exact⟨⟨(v,u%v),hgn,hv',hlm⟩,Wk.tab [] ⟨aa,aa,aa,ab⟩ ⟨rfl,ab⟩ rfl,hym⟩
end Go.Proofs.Fl
namespace Go.Proofs.Dig
def mH(k:Nat):UInt8:=UInt8.ofNat (48+k)
def mE:Nat->Nat->List UInt8
 |0,_=>[]
 |w+1,n=>mE w (n/10) ++ [mH (n%10)]
theorem He:∀w,mE w 0=List.replicate w 48
 |0=>rfl
 |w+1=>by rw[mE,Nat.zero_div,He w,List.replicate_succ'];rfl
def bK(n:Nat):List UInt8:=if n<10 then [mH n] else bK (n/10) ++ [mH (n%10)]
theorem rR{n:Nat}(h:n<10):bK n=[mH n]:=by rw[bK,ay h]
theorem xE{n:Nat}(h:10<=n):bK n=bK (n/10) ++ [mH (n%10)]:=by rw[bK,am (by omega)]
theorem UA(n:Nat):bK n≠[]:=by
 rw[bK];split<;>simp
theorem Pt{q r:Nat}(b:Nat)(hq:0<q)(hr:r<10^b):bK (q*10^b+r)=bK q++mE b r:=by
 induction b generalizing r with
 |zero=>simp at hr;subst hr;simp[mE]
 |succ b ih=>
  have h1:10<=q*10^(b+1)+r:=by
   have:1*10^(b+1)<=q*10^(b+1):=bU _ hq;have h2:10<=10^(b+1):=by
    have:10^1<=10^(b+1):=dz (by decide) (by omega);omega
   omega
  have e1:(q*10^(b+1)+r)/10=q*10^b+r/10:=by
   rw[cr,<-dZ];omega
  have e2:(q*10^(b+1)+r)%10=r%10:=by
   rw[cr,<-dZ];omega
  rw[xE h1,e1,e2,ih (by rw[cr] at hr;omega),mE,dX]
end Go.Proofs.Dig
namespace Go.Proofs.Fl
open Go.RowKit Go.Proofs.Dig
attribute [local irreducible] IntKind.wrap a7 be bq bw
theorem KX:lh 1<=1:=lj (by decide)
def qB(z:Int):List UInt8:=(if z<0 then [45] else [])++bK z.natAbs
theorem strE{a b:List UInt8}(h:a=b):SV.iv (.str a)=SV.iv (.str b):=by rw[h]
noncomputable abbrev jf(q:Rat)(d1 d2:IV):IV:=.agg [.int .i64 q.num.sign,.sl ((dh q.num.natAbs).map ai),d1,d2]
noncomputable abbrev rr(q:Rat):IV:=jf q (.int .i64 1) (.sl ((dh q.den).map ai))
def DOk(q:Rat)(d1 d2:IV):Prop:=(d1=.int .i64 1/\d2=.sl ((dh q.den).map ai))\/(d1=.int .i64 0/\d2=.sl []/\q=0)
theorem DI(q:Rat):DOk q (.int .i64 1) (.sl ((dh q.den).map ai)):=.inl ⟨rfl,rfl⟩
theorem DOk.zero:DOk 0 (.int .i64 0) (.sl []):=.inr ⟨rfl,rfl,rfl⟩
theorem Jl:jf 0 (.int .i64 0) (.sl [])=.agg [.int .i64 0,.sl [],.int .i64 0,.sl []]:=by
 show IV.agg [.int .i64 0,.sl ((dh 0).map ai),.int .i64 0,.sl []]=_;rw[nh];rfl
noncomputable def rl(q:Rat):Nat:=lh q.num.natAbs+lh q.den
theorem yi(J:Keep){q:Rat}{d1 d2:IV}(hd:DOk q d1 d2):C J 26 [jf q d1 d2] (zh (q.den:Int)):=by
 refine aH Tryz.func26 rfl rfl rfl ?_;rcases hd with⟨rfl,rfl⟩|⟨rfl,rfl,rfl⟩
 . repeat((first|refine W.R ?_|refine W.c ?_|refine xF (by omega) ?_|refine xr ?_);conv=>whnf)
   rw[oF (fh q)];rfl
 . repeat((first|refine W.R ?_|refine W.c ?_|refine⟨_,uO J (z:=1) (by omega) (by omega),?_⟩|refine xT (by omega) ?_|refine xr ?_);conv=>whnf)
   rfl
theorem xj{g:Nat}(h0:0<g)(h:g<32768):dh g=[g]:=by
 symm;refine DZ ⟨by intro d hd;simp at hd;subst hd;exact h,by intro d hd;simp at hd;omega⟩ ?_;simp[hv,nv]
theorem R6{z:Int}{n g:Nat}(h:n=z.natAbs/g)(h0:z=0->n=0):z.sign*(n:Int)=sv (decide (z<0)) n:=by
 unfold sv;rcases tW z 0 with h1|h1|h1
 . rw[m6 h1,aZ h1];simp
 . rw[h0 h1];simp
 . rw[lN h1,bl (by omega)];simp
theorem PV(J:Keep){z:Int}{d:Nat}(hd:0<d)(hz:lh z.natAbs<2^36)(hl:lh d<2^36):C J 167 [zh z,zh (d:Int)] (zh (Nat.gcd z.natAbs d:Nat)):=by
 have:=Ua J (x:=z) (y:=(d:Int)) (by omega) (by rw[fc];omega);rwa[fc] at this
theorem J5(J:Keep){z:Int}{d:Nat}(hd:0<d)(hz:lh z.natAbs<2^36)(hl:lh d<2^36){x y:IV}(c0:(x=zh z/\y=zh (d:Int))\/(x=zh (-z)/\y=zh (-(d:Int)))):C J 114 [x,y] (rr (mkRat z d)):=by
 obtain⟨g,hg⟩:∃g,Nat.gcd z.natAbs d=g:=⟨_,rfl⟩;have hg0:0<g:=by rw[<-hg];exact Nat.gcd_pos_of_pos_right _ hd
 have hgd:g∣d:=by rw[<-hg];exact Nat.gcd_dvd_right _ _
 have hgn:g<=d:=Nat.le_of_dvd hd hgd;have hlg:lh g<=lh d:=l6 hgn;have hdg:1<=d/g:=(Ff hg0).2 hgn;have c1:=PV J hd hz hl;rw[hg] at c1;have hnum:=pM (z:=z) hd;have hden:=rT (z:=z) hd;rw[hg] at hnum hden;have l1:=KY z.natAbs g;have l2:=KY d g;have hsn:=R6 (z:=z) (n:=z.natAbs/g) (g:=g) rfl (fun h=>by rw[h];simp);have c2:=CU J (a:=z.natAbs) (d:=g) hg0 (by omega);have c3:=CU J (a:=d) (d:=g) hg0 (by omega);have c4:=sq J (n:=z.natAbs/g) (s:=z.sign) (by
  have:=qD z;rcases tW z 0 with h1|h1|h1
  . right;left;exact m6 h1
  . right;right;rw[h1];simp
  . left;exact lN h1) (by omega)
 rw[hsn,<-hnum] at c4;have c5:=sq J (n:=d/g) (s:=1) (.inl rfl) (by omega);rw[lP,oF (n:=d/g) (by omega)] at c5;have n1:=CY J (-z);have n2:=CY J (-(d:Int));rw[Int.neg_neg] at n1 n2;have hds:(d:Int).sign=1:=lN (by omega);have hds2:(-(d:Int)).sign = -1:=m6 (by omega);refine aH Tryz.func114 rfl rfl rfl ?_;rcases c0 with⟨rfl,rfl⟩|⟨rfl,rfl⟩
 . refine W.RS ?_;conv=>whnf
   refine W.join (G:=Unit) (fun _=>aF [(2,.ptr 0 0),(3,.ptr 1 0),(4,.ptr 2 0)] [(0,.var (zh z)),(1,.var (zh (d:Int))),(2,.var (jf 0 (.int .i64 0) (.sl [])))] 30) ?_ ?_
   . repeat (first|((first|refine W.RS ?_|refine W.skip ?_|refine xF (by omega) ?_|refine xr ?_);conv=>whnf)|(refine W.condF rfl ?_))
     exact⟨(),Wk.tab [] ⟨aa,aa,aa,ab⟩ ⟨rfl,rfl,by rw[Jl];rfl,ab⟩ rfl⟩
   . rintro⟨⟩
     try dsimp only
     by_cases h1:g=1
     . have e1:(dh g).map ai=[.int .i64 1]:=by rw[h1,xj (by decide) (by decide)];rfl
       have e2:zh (g:Int)=.agg [.int .i64 1,.sl [.int .i64 1]]:=by rw[oF hg0,e1]
       rw[e2] at c1;have z1:(mkRat z d).num=z:=by rw[hnum,h1,rD,ou]
       have d1:(mkRat z d).den=d:=by rw[hden,h1,rD]
       repeat((first|refine W.R ?_|refine W.c ?_|refine⟨_,c1,?_⟩|refine⟨0,_,rfl,rfl,rfl,?_⟩|refine⟨_,kr _,?_⟩|refine xT (by omega) ?_|refine⟨_,rfl,?_⟩|refine xr ?_|refine xB ?_);conv=>whnf)
       show IV.agg [.int .i64 z.sign,.sl ((dh z.natAbs).map ai),.int .i64 (d:Int).sign,.sl ((dh (d:Int).natAbs).map ai)]=_;rw[rr,jf,z1,d1,hds,fc]
     . rw[oF hg0] at c1;have hfin:IV.agg [.int .i64 (mkRat z d).num.sign,.sl ((dh (mkRat z d).num.natAbs).map ai),.int .i64 1,.sl ((dh (d/g)).map ai)]=rr (mkRat z d):=by
        rw[rr,jf,hden]
       have lg:((dh g).map ai).length=lh g:=by simp[lh]
       by_cases h2:lh g=1
       . have hg2:g<32768:=by
          have:=iU g;rw[h2,rB] at this;exact this
         have e1:(dh g).map ai=[.int .i64 (g:Nat)]:=by rw[xj hg0 hg2];rfl
         rw[e1] at c1 c2 c3;repeat((first|refine W.R ?_|refine W.c ?_|refine⟨_,c1,?_⟩|refine⟨_,c2,?_⟩|refine⟨_,c3,?_⟩|refine⟨_,c4,?_⟩|refine⟨_,c5,?_⟩|refine⟨0,_,rfl,rfl,rfl,?_⟩|refine⟨_,kr _,?_⟩|refine xF (by omega) ?_|refine⟨_,rfl,?_⟩|refine xr ?_|refine xB ?_);conv=>whnf)
         exact hfin
       . repeat((first|refine W.R ?_|refine W.c ?_|refine⟨_,c1,?_⟩|refine⟨_,c2,?_⟩|refine⟨_,c3,?_⟩|refine⟨_,c4,?_⟩|refine⟨_,c5,?_⟩|refine xF (by omega) ?_|refine⟨_,rfl,?_⟩|refine xr ?_|refine xA ?_);conv=>whnf)
         exact hfin
 . refine W.RS ?_;conv=>whnf
   refine W.join (G:=Unit) (fun _=>aF [(2,.ptr 0 0),(3,.ptr 1 0),(4,.ptr 2 0)] [(0,.var (zh z)),(1,.var (zh (d:Int))),(2,.var (jf 0 (.int .i64 0) (.sl [])))] 30) ?_ ?_
   . repeat (first|((first|refine W.RS ?_|refine W.R ?_|refine⟨_,n1,?_⟩|refine⟨_,n2,?_⟩|refine xT (by omega) ?_|refine xr ?_);conv=>whnf)|(refine W.condT rfl ?_))
     exact⟨(),Wk.tab [] ⟨aa,aa,aa,ab⟩ ⟨rfl,rfl,by rw[Jl];rfl,ab⟩ rfl⟩
   . rintro⟨⟩
     try dsimp only
     by_cases h1:g=1
     . have e1:(dh g).map ai=[.int .i64 1]:=by rw[h1,xj (by decide) (by decide)];rfl
       have e2:zh (g:Int)=.agg [.int .i64 1,.sl [.int .i64 1]]:=by rw[oF hg0,e1]
       rw[e2] at c1;have z1:(mkRat z d).num=z:=by rw[hnum,h1,rD,ou]
       have d1:(mkRat z d).den=d:=by rw[hden,h1,rD]
       repeat((first|refine W.R ?_|refine W.c ?_|refine⟨_,c1,?_⟩|refine⟨0,_,rfl,rfl,rfl,?_⟩|refine⟨_,kr _,?_⟩|refine xT (by omega) ?_|refine⟨_,rfl,?_⟩|refine xr ?_|refine xB ?_);conv=>whnf)
       show IV.agg [.int .i64 z.sign,.sl ((dh z.natAbs).map ai),.int .i64 (d:Int).sign,.sl ((dh (d:Int).natAbs).map ai)]=_;rw[rr,jf,z1,d1,hds,fc]
     . rw[oF hg0] at c1;have hfin:IV.agg [.int .i64 (mkRat z d).num.sign,.sl ((dh (mkRat z d).num.natAbs).map ai),.int .i64 1,.sl ((dh (d/g)).map ai)]=rr (mkRat z d):=by
        rw[rr,jf,hden]
       have lg:((dh g).map ai).length=lh g:=by simp[lh]
       by_cases h2:lh g=1
       . have hg2:g<32768:=by
          have:=iU g;rw[h2,rB] at this;exact this
         have e1:(dh g).map ai=[.int .i64 (g:Nat)]:=by rw[xj hg0 hg2];rfl
         rw[e1] at c1 c2 c3;repeat((first|refine W.R ?_|refine W.c ?_|refine⟨_,c1,?_⟩|refine⟨_,c2,?_⟩|refine⟨_,c3,?_⟩|refine⟨_,c4,?_⟩|refine⟨_,c5,?_⟩|refine⟨0,_,rfl,rfl,rfl,?_⟩|refine⟨_,kr _,?_⟩|refine xF (by omega) ?_|refine⟨_,rfl,?_⟩|refine xr ?_|refine xB ?_);conv=>whnf)
         exact hfin
       . repeat((first|refine W.R ?_|refine W.c ?_|refine⟨_,c1,?_⟩|refine⟨_,c2,?_⟩|refine⟨_,c3,?_⟩|refine⟨_,c4,?_⟩|refine⟨_,c5,?_⟩|refine xF (by omega) ?_|refine⟨_,rfl,?_⟩|refine xr ?_|refine xA ?_);conv=>whnf)
         exact hfin
theorem Q1{z:Int}{d:Nat}(hd:0<d):rl (mkRat z d)<=lh z.natAbs+lh d:=by
 unfold rl;rw[pM hd,rT hd];have h1:(sv (decide (z<0)) (z.natAbs/Nat.gcd z.natAbs d)).natAbs<=z.natAbs:=by
  have h2:=m5 z.natAbs (Nat.gcd z.natAbs d);generalize z.natAbs/Nat.gcd z.natAbs d=t at h2 ⊢;unfold sv;split<;>omega
 have h2:=l6 h1;have h3:=l6 (m5 d (Nat.gcd z.natAbs d));omega
theorem KJ(a b:Rat):rl (a*b)<=rl a+rl b:=by
 rw[wv];have h:=Q1 (z:=a.num*b.num) (d:=a.den*b.den) (n0 (fh a) (fh b));have h1:=sF a.num.natAbs b.num.natAbs;have h2:=sF a.den b.den;rw[fB] at h;unfold rl at *;omega
theorem KK(z:Int):rl (z:Rat)<=lh z.natAbs+1:=by
 show lh z.natAbs+lh 1<=_;have:=KX;omega
theorem Am(n:Nat):lh (n:Int).natAbs=lh n:=by rw[fc]
theorem Pr{n d:Int}(hd:d≠0):mkRat (n*d.sign) d.natAbs=(n:Rat)/(d:Rat):=by
 rw[<-Rat.divInt_eq_div];rcases tW d 0 with h|h|h
 . obtain⟨k,rfl⟩:∃k:Nat,d = -((k:Nat):Int):=⟨d.natAbs,by omega⟩;rw[m6 h,ww,fc,Rat.divInt_neg',Nv,Fi,Fr]
 . exact absurd h hd
 . obtain⟨k,rfl⟩:∃k:Nat,d=((k:Nat):Int):=⟨d.natAbs,by omega⟩;rw[lN h,fc,Fr,Nv]
theorem RC(J:Keep){n d:Int}(hd:d≠0)(hz:lh n.natAbs<2^36)(hl:lh d.natAbs<2^36):C J 114 [zh n,zh d] (rr ((n:Rat)/(d:Rat))):=by
 rw[<-Pr hd];have hs:(n*d.sign).natAbs=n.natAbs:=by
  rw[fB];rcases tW d 0 with h|h|h
  . rw[m6 h];simp
  . exact absurd h hd
  . rw[lN h];simp
 refine J5 J (z:=n*d.sign) (d:=d.natAbs) (by omega) (by rw[hs];exact hz) hl ?_;rcases tW d 0 with h|h|h
 . right;rw[m6 h];exact⟨by rw[Fi,Fr,Int.neg_neg],nJ (by omega)⟩
 . exact absurd h hd
 . left;rw[lN h];exact⟨by rw[Fr],nJ (by omega)⟩
theorem VI(J:Keep){n d:Int}(h1 : -9223372036854775808<=n)(h2:n<=9223372036854775807)(h3 : -9223372036854775808<=d)(h4:d<=9223372036854775807)(hd:d≠0):C J 54 [.int .i64 n,.int .i64 d] (rr ((n:Rat)/(d:Rat))):=by
 refine aH Tryz.func54 rfl rfl rfl ?_;have l:∀z:Int,-9223372036854775808<=z->z<=9223372036854775807->lh z.natAbs<=5:=fun z a b=>lj (by
  have:aq^5=37778931862957161709568:=by decide
  omega)
 have l1:=l n h1 h2;have l2:=l d h3 h4;have c:=RC J (n:=n) hd (by omega) (by omega);repeat((first|refine W.RS ?_|refine W.ret ?_|refine⟨_,uO J h1 h2,?_⟩|refine⟨_,uO J h3 h4,?_⟩|refine⟨_,c,?_⟩);conv=>whnf)
 rfl
section
variable {a b:Rat}{d1 d2 e1 e2:IV}
theorem VE(J:Keep)(hd:DOk a d1 d2)(he:DOk b e1 e2)(ha:rl a<2^34)(hb:rl b<2^34):C J 56 [jf a d1 d2,jf b e1 e2] (rr (a*b)):=by
 refine aH Tryz.func56 rfl rfl rfl ?_;unfold rl at ha hb;have l1:=sF a.num.natAbs b.num.natAbs;have l3:=sF a.den b.den;have c1:=uN J (x:=a.num) (y:=b.num) (by omega) (by omega);have c3:=uN J (x:=(a.den:Int)) (y:=(b.den:Int)) (by rw[Am];omega) (by rw[Am];omega);have c5:=J5 J (z:=a.num*b.num) (d:=a.den*b.den) (n0 (fh a) (fh b)) (by rw[fB];omega) (by omega) (.inl ⟨rfl,rfl⟩);rw[<-wv,kN] at c5;repeat((first|refine W.RS ?_|refine W.ret ?_|refine⟨_,yi J hd,?_⟩|refine⟨_,yi J he,?_⟩|refine⟨_,c1,?_⟩|refine⟨_,c3,?_⟩|refine⟨_,c5,?_⟩|refine xr ?_);conv=>whnf)
 rfl
theorem QB(x y:Int):aN x y=(x-y).sign:=by
 unfold aN;split
 . rw[m6 (by omega)]
 . split
   . rw[lN (by omega)]
   . rw[show x-y=0 by omega];rfl
theorem VJ(J:Keep)(hd:DOk a d1 d2)(he:DOk b e1 e2)(ha:rl a<2^34)(hb:rl b<2^34):C J 9 [jf a d1 d2,jf b e1 e2] (.int .i64 (bT a b)):=by
 refine aH Tryz.func9 rfl rfl rfl ?_;unfold rl at ha hb;have l1:=sF a.num.natAbs b.den;have l2:=sF b.num.natAbs a.den;have c1:=uN J (x:=a.num) (y:=(b.den:Int)) (by omega) (by rw[Am];omega);have c2:=uN J (x:=b.num) (y:=(a.den:Int)) (by omega) (by rw[Am];omega);have c3:=Us J (x:=a.num*(b.den:Int)) (y:=b.num*(a.den:Int)) (by rw[fB,fc];omega) (by rw[fB,fc];omega);rw[<-QB] at c3;repeat((first|refine W.RS ?_|refine W.ret ?_|refine⟨_,yi J hd,?_⟩|refine⟨_,yi J he,?_⟩|refine⟨_,c1,?_⟩|refine⟨_,c2,?_⟩|refine⟨_,c3,?_⟩|refine xr ?_);conv=>whnf)
 rfl
end
theorem Kh{a b:Rat}:bT a b<=0↔a<=b:=by
 rw[Rat.le_iff];unfold bT aN;split<;>(try split)<;>omega
section
variable {a:Rat}{d1 d2:IV}
end
end Go.Proofs.Fl
namespace Go.Proofs.Fl
open Go.RowKit
def tn(j:Nat)(w:my)(b R:Nat):Prop:=∃arr n cap T fr,w.heap[b]?=some (.cells arr T fr)/\arr[j]?=some (.slice (some ⟨R,0,none⟩) n cap)
structure BldF(j b:Nat)(w w':my):Prop where
 os:w'.os=w.os
 tape:w'.tape=w.tape
 output:w'.output=w.output
 size:w.heap.size<=w'.heap.size
 block:∀k,k<w.heap.size->k≠b->¬tn j w b k->w'.heap[k]?=w.heap[k]?
 row:∀R,tn j w' b R->tn j w b R\/w.heap.size<=R
def vL(P:Tz)(f:qe)(s:List UInt8)(xs:List IV)(s':List UInt8)(r:IV):Prop :=
 (∃fn,P.funcs[f]?=some fn/\(fn.name == "runtime.NumGoroutine")=false/\fn.body.isNone=false)/\
 ∀(H:ah) (w:my) (b:Nat) (args:List X3),VRL H args xs->Lib.IsBuilderF jJ qM 0 b (Lib.byteCells s) w->
  Calls P f (Value.pointer (some ⟨b,0,none⟩)::args).toArray w fun e w'=>∃v,e=.returned v/\(∀H,VR H v r)/\Lib.IsBuilderF jJ qM 0 b (Lib.byteCells s') w'/\BldF 1 b w w'
theorem Sim.build{E:Env}{H:ah}{U:Nat->Nat×Nat}{tm:Nat->SV}{bx:Nat->Option Bx}{tmps:Array X3}{w:my}(h:Sim E H U tm bx tmps w){g:Nat}{s s':Ow}(hj:s'.j=s.j)(hg:bx g=some (.bld s))(hone:∀g' s',bx g'=some (.bld s')->g'=g){w':my}
 (hf:BldF s.j (U g).1 w w') (hb:sZ H w' (U g).1 s'):Sim E H U tm (aB bx g (some (.bld s'))) tmps w':=by
 obtain⟨b1,b2,b3,b4⟩:=h.box g _ hg;have hlt:(U g).1<w.heap.size:=(h.box g _ hg).lt rfl;have hother:∀{g' b},aB bx g (some (.bld s')) g'=some b->g'≠g->bx g'=some b:=fun{g' b} e hne=>by rwa[aD _ _ _ hne] at e
 have halive:∀{g' b},aB bx g (some (.bld s')) g'=some b->b.alive=true->∃b0,bx g'=some b0/\b0.alive=true:=fun{g' b} e ha=>by
  by_cases hne:g'=g
  . subst hne;exact⟨_,hg,rfl⟩
  . exact⟨b,hother e hne,ha⟩
 have hkeep:∀{g' b},bx g'=some b->g'≠g->b.alive=true->w'.heap[(U g').1]?=w.heap[(U g').1]?:=fun{g' b} e hne ha=>
  hf.block _ ((h.box g' b e).lt ha) (fun e'=>hne (h.inj g' g b _ e hg ha rfl e')) (fun hR=>h.hid g s g' b _ hg e ha hR rfl)
 refine⟨fun b arr e=>?_,h.below.trans ⟨hf.os,hf.tape,hf.output,hf.size,fun k hk=>?_⟩,fun k hk=>h.lo k (aY hf.size hk),h.ext,fun t=>(h.slot t).mono (HLe.refl _) (fun g' b1 hg'=>?_),fun g' c1 hg'=>?_,fun g1 g2 c1 c2 e1 e2 a1 a2 he=>?_,fun p' k' hk'=>⟨(h.pin p' k' hk').1,wJ (h.pin p' k' hk').2.1,(h.pin p' k' hk').2.2⟩,?_,fun g1 s1 g2 c2 R e1 e2 ha2 hR=>?_⟩
 . obtain⟨t,fr,ht⟩:=h.has b arr e;refine⟨t,fr,(hf.block b (h.has.lt e) (fun e'=>?_) (fun hR=>?_)).trans ht⟩
   . rw[e',b2] at e;cases e
   . rw[(b4 b hR).2] at e;cases e
 . rcases fx k w.heap.size with h1|h1
   . exact hf.block k h1 (fun e=>hk (by rw[e];exact b1)) (fun hR=>hk (b4 k hR).1)
   . exact absurd (h.lo k h1) hk
 . by_cases hne:g'=g
   . subst hne;rw[hg] at hg';simp at hg';subst hg';exact⟨.bld s',by show aB bx g' _ g'=_;rw[aT],trivial,rfl⟩
   . exact⟨b1,by show aB bx g _ g'=_;rw[aD _ _ _ hne];exact hg',shape.refl _,rfl⟩
 . by_cases hne:g'=g
   . subst hne;have e':Bx.bld s'=c1:=by
      have:aB bx g' (some (.bld s')) g'=some c1:=hg';rw[aT] at this;simpa using this
     subst e';refine⟨b1,b2,hb,fun R hR=>?_⟩;rcases hf.row R (by rw[<-hj];exact hR) with h1|h1
     . exact b4 R h1
     . refine⟨h.lo R h1,?_⟩;cases hx:H R with
       |none=>rfl
       |some arr=>have:=h.has.lt hx;omega
   . have e':=hother hg' hne;by_cases hal:c1.alive=true
     . exact(h.box g' c1 e').keep (hkeep e' hne hal) (HLe.refl _) id (fun s R eb _=>absurd (hone g' s (by rw[<-eb];exact e')) hne)
     . cases c1<;>first|trivial|simp[Bx.alive] at hal
 . obtain⟨d1,f1,f1'⟩:=halive e1 a1;obtain⟨d2,f2,f2'⟩:=halive e2 a2;exact h.inj g1 g2 d1 d2 f1 f2 f1' f2' he
 . refine h.marks.keep fun D hD=>hf.block D (Array.getElem?_eq_some_iff.1 hD).1 (fun e=>?_) (fun hR=>?_)
   . obtain⟨arr,e',hc⟩:=(h.box g _ hg).cells rfl;rw[<-e,hD] at hc;cases hc
   . obtain⟨_,_,arr,_,fz,hc⟩:=jY b3 hR;rw[hD] at hc;cases hc
 . by_cases hne:g1=g
   . subst hne;obtain⟨d2,f2,f2'⟩:=halive e2 ha2;have e9:s'=s1:=by
      have:aB bx g1 (some (.bld s')) g1=some (.bld s1):=e1;rw[aT] at this;simpa using this
     rcases hf.row R (by rw[<-hj,e9];exact hR) with h1|h1
     . exact h.hid g1 s g2 d2 R hg f2 f2' h1
     . have:=(h.box g2 _ f2).lt f2';omega
   . exact absurd (hone g1 s1 (hother e1 hne)) hne
theorem PR{P:Tz}{t:me}{i:TypeInfo}{z:X3}(h:P.info? t=some i)(hz:i.zero=some z)(w:my):(zeroValue t).run P w=.ok z w:=by simp[zeroValue,typeInfo,h,hz]
section
variable {X:Cx}{nt:Nat}{Y:AS}{K:X6->AS->Prop}
theorem CW.build(n:Nat){id:Nat}{all:Array X4}{o:X4}{fo p:X0}{args:List X0}{ats:Array me}(ho:all.toList[n]?=some o)(hd:cJ nt all.toList=true)(hg:o.guard=none)(hop:o.op=.call { callee:=.value fo,args:=(p::args).toArray,argTypes:=ats })
 (h:fR X.T X.C all (all.toList.take n) Y.nx Y.tm Y.bx [] fun tm bx _=>match evS tm fo,evS tm p,gd bx (evS tm) args with
   | .iv (.fn f),.ptr g 0,some (xs,[])=>∃s s' r,bx g=some (.bld (.str s))/\(∀g' s',bx g'=some (.bld s')->g'=g)/\vL X.P f s xs s' r/\
    fR X.T X.C all (all.toList.drop (n+1)) (Y.nx+n+1) (eI tm o.dst (.iv r)) (aB bx g (some (.bld (.str s')))) [] fun tm bx _=>K .normal ⟨tm,bx,Y.nx+all.size⟩
   |_,_,_=>False):CW X nt (.region id all false) Y K:=by
 intro ro E Q hI hQ M H U a w hS;refine wi ?_;have hsplit:all.toList=all.toList.take n++o::all.toList.drop (n+1):=by
  have hlt:=(List.getElem?_eq_some_iff.1 ho).1;have he:=(List.getElem?_eq_some_iff.1 ho).2;have h1:=jQ n all.toList;rw[gJ hlt,he] at h1;exact h1.symm
 have hd1:cJ nt (all.toList.take n)=true:=by
  unfold cJ at hd ⊢;rw[kO] at hd ⊢;exact fun x hx=>hd x (dY hx)
 have hd2:cJ nt (all.toList.drop (n+1))=true:=by
  unfold cJ at hd ⊢;rw[kO] at hd ⊢;exact fun x hx=>hd x (jn hx)
 have hdo:∀d,o.dst=some d->d<nt:=n9 hd (bV ho);rw[hsplit];refine xY (E:=E.mks M) X.hT X.ok hI (fun H1 β1 tm bx log a1 w1 hk hS1=>?_) hd1 hS h;split at hk
 . rename_i f g xs hfo hp hargs;obtain⟨s,s',r,hbg,hone,⟨⟨fn,hf1,hf2,hf3⟩,hc⟩,hk⟩:=hk;have hv:=aW hS1.sim rfl fo;rw[hfo] at hv;have e1:=sC hv;have hvp:=aW hS1.sim rfl p;rw[hp] at hvp;obtain⟨_,hpv⟩:=hvp;obtain⟨H2,hle,S2,V2⟩:=r8 (a:=a1) rfl hS1.sim hargs;have hcall:=hc H2 w1 (β1 g).1 (args.map a1.eval) V2 (S2.box g _ hbg).2.2.1;rw[<-hpv] at hcall;have hrun:(execOp a1.eval o).run X.P w1=.ok (.enter f (a1.eval p::args.map a1.eval).toArray) w1:=by
    simp only[execOp,hop,resolve,e1,Deferred.ofValue,au,aw,ar,invoke,callFunc,tN,hf1,hf2,hf3,dx,bG];congr 2;apply eO;simp
   unfold wpListIn;simp only[Region.wanted,hg,bD];refine sQ (fun c hc=>by rw[hop] at hc;cases hc) ?_;unfold Oper.wp;rw[hrun];refine hcall.mono ?_;rintro e w2 ⟨v,rfl,hvr,hb2,hf2⟩;have T:St (E.mks M) nt H2 β1 (eI tm o.dst (.iv r)) (aB bx g (some (.bld (.str s')))) (a1.put o.dst v) w2:=St.put ⟨S2.build (bx:=bx) (g:=g) (s:=.str s) (s':=.str s') rfl hbg hone hf2 hb2,hS1.defers,hS1.size⟩ hdo (r:=.iv r) (hvr H2);have:=xY (rest:=[]) (Q:=Q) (ro:=ro.1) (E:=E.mks M) X.hT X.ok hI (all:=all) (K:=fun tm bx _=>K .normal ⟨tm,bx,Y.nx+all.size⟩) (fun H4 β4 tm bx log a4 w4 hk4 hS4=>hQ .normal _ M H4 β4 a4 w4 hk4 hS4) hd2 T hk;rw[iw] at this;exact this
 . exact hk.elim
theorem CW.newBld{id:Nat}{o:X4}{d:Nat}(hd:d<nt)(hdst:o.dst=some d)(hg:o.guard=none)(hop:o.op=.alloc jJ){i:TypeInfo}(hinfo:X.P.info? jJ=some i)(hz:i.zero=some (.agg #[.pointer none,.slice none 0 0]))
 (hb:Y.bx Y.nx=none) (h:K .normal ⟨aB Y.tm d (.ptr Y.nx 0),aB Y.bx Y.nx (some (.bld (.str []))),Y.nx+1⟩):CW X nt (.region id #[o] false) Y K:=by
 intro ro E Q hI hQ M H U a w hS;refine wi ?_;show wpListIn (FW ro.1) 0 X.P #[o] Q [o] a w;unfold wpListIn;simp only[Region.wanted,hg,bD];refine sQ (fun c hc=>by rw[hop] at hc;cases hc) ?_;have hS1:=hS.sim.newBlock hb (b:=.bld (.str [])) (cap:=0) (arr := #[.pointer none,.slice none 0 0]) (e:=jJ) (fun w' hw hn hlo=>⟨hlo,hn,.inl ⟨bk _,_,hw,⟨rfl,.inl ⟨rfl,rfl⟩⟩,by simp[Value.ownBlock]⟩,fun R hR=>by
  obtain⟨arr,n,cap,T,fr,e,e'⟩:=hR;rw[hw] at e;simp at e;obtain⟨rfl,_⟩:=e;simp[Ow.j] at e'⟩) (fun s R w' es hw hR=>by
  obtain⟨arr,n,cap,T,fr,e,e'⟩:=hR;cases es;rw[hw] at e;simp at e;obtain⟨rfl,_⟩:=e;simp[Ow.j] at e')
 have hT:=St.put (H:=H) (a:=a) ⟨hS1,hS.defers,hS.size⟩ (dst:=o.dst) (fun d' hd'=>by rw[hdst] at hd';cases hd';exact hd) (r:=.ptr Y.nx 0) (v:=.pointer (some ⟨w.heap.size,0,none⟩)) ⟨by rw[aT];simp,by rw[aT]⟩;have hrun:(execOp a.eval o).run X.P w=.ok (.value (.pointer (some ⟨w.heap.size,0,none⟩))) (w.alloc (.cells #[.pointer none,.slice none 0 0] jJ)):=by
  simp only[execOp,hop,Instr.alloc,au,PR hinfo hz,ar,newVar,newRow,mT,aw];rfl
 unfold Oper.wp;rw[hrun];show wpListIn (FW ro.1) 0 X.P #[o] Q [] (a.put o.dst _) _;unfold wpListIn;rw[hdst] at hT ⊢;exact hQ .normal _ M H _ _ _ h hT
end
end Go.Proofs.Fl
namespace Go.Proofs.Fl
open Go.RowKit Go.Shelf
section
variable {P:Tz}(w:my)
theorem NU(base:Nat)(t u ty e:me)(i:TypeInfo)(ht:P.underlying t=some (.slice e))(hu:P.underlying u=some .string)(hi:P.info? e=some i)(hz:i.zero=some (.int .u8 0))
 (hsize:i.size=1) (hby:i.bytes=1)
 (v:X3) (n:Nat) (xs:List X3) (hown:w.ownsRowF base e 1 v n xs) (s:ByteArray)
 (h63:n+s.size<=maxLen) (hbytes:n+s.size<=140737488355328) (hbase:base<=w.heap.size) :
 ∃v' w',(Builtin.append_ #[t,u] ty #[v,.string s]).run P w=.ok v' w'/\w'.ownsRowF base e 1 v' (n+s.size) (xs++Lib.strCells s)/\w.grownBy w' v.ownBlock/\(∀R,v'.ownBlock=some R->v.ownBlock=some R\/w.heap.size<=R):=by
 rcases hown.2 with⟨rfl,rfl⟩|⟨g,cap,cur,fz,rfl,hbg,hg,hfz,hnc,hcm,hcs,htake⟩
 . obtain⟨v',w',h1,h2,h3,h4⟩:=Lib.run_append_own_stringF (P:=P) w w.heap.size t u ty e i ht hu hi hz hsize hby (.slice none 0 0) 0 xs ⟨hown.1,.inl ⟨rfl,rfl⟩⟩ s h63 hbytes (ak _);refine⟨v',w',h1,⟨h2.1,?_⟩,h3,fun R hR=>?_⟩
   . rcases h2.2 with h|⟨g,cap,cur,fz,e1,e2,e3⟩
     . exact .inl h
     . exact .inr ⟨g,cap,cur,fz,e1,by omega,e3⟩
   . rcases h2.2 with⟨rfl,_⟩|⟨g,cap,cur,fz,rfl,e2,_⟩
     . cases hR
     . cases hR;exact .inr e2
 . have hxl:xs.length=n:=by simpa using hown.1
   have hlen:(xs++Lib.strCells s).length=(n+s.size)*1:=by rw[bF,hxl,Fs,iK]
   by_cases hroom:n+s.size<=cap
   . have hcs':cur.size=cap:=by simpa using hcs
     have hr:=Lib.run_append_room_stringF (P:=P) w t u ty e i ht hu hi hsize g n cap cur fz hg (by simpa using hfz) s hroom (by omega);refine⟨_,_,hr,⟨hlen,.inr ⟨g,cap,_,fz,rfl,hbg,tM w g cur _ e _ hg,by omega,hroom,hcm,?_,?_⟩⟩,⟨rfl,rfl,rfl,by simp,fun k _ hk=>mU w g k _ (fun e=>hk (by simp[Value.ownBlock,e]))⟩,fun R hR=>.inl hR⟩
     . simp only[kK,bF,cy,mX,eY,Fs];omega
     . have ht':cur.toList.take n=xs:=by simpa using htake
       rw[ht',<-hlen];exact List.take_left
   . have holds:∀j u,xs[j]?=some u->w.cell? ((⟨g,0,none⟩:Addr).add j)=some u:=hown.cells (g:=g) rfl;have hsmall:n+s.size<=9223372036854775807:=by simp only[maxLen] at h63;omega
     have hr:=Lib.run_append_grow_string (P:=P) w t u ty e i (.int .u8 0) ht hu hi hz ⟨g,0,none⟩ n cap xs (by rw[hsize];simpa using hxl) holds s (by omega) (by omega) (by rw[hby];exact growslice_fits (by omega) (by omega));have hge:=wa w (n+s.size) cap e;have hcm2:grownCap w (n+s.size) cap e<=maxLen:=M7 w (n+s.size) cap e h63;refine⟨_,_,hr,⟨hlen,.inr ⟨w.heap.size,_,_,(0,0),rfl,hbase,mS w.drew _,bk _,hge,hcm2,?_,?_⟩⟩,⟨rfl,rfl,rfl,by simp,fun k hk _=>heap_alloc_old w.drew _ hk⟩,fun R hR=>?_⟩
     . have hz1:(Value.int IntKind.u8 0).cells.size=1:=rfl;simp only[wb,kK,size_zeroCells,hz1,hxl,Fs];omega
     . simp only[pz,dX];rw[<-dX,<-hlen];exact List.take_left
     . have hR:some w.heap.size=some R:=hR;cases hR;exact .inr (ak _)
theorem NN{w:my}{ops:Array X4}{rest:List X4}{o:X4}{a:Act}{Q:X6->Act->my->Prop}(hgd:o.guard=none)(sl x:X0)(t u:me)
 (ho:o.op=.call { callee:=.builtin .append,args := #[sl,x],argTypes := #[t,u] })
 (base:Nat) (e:me) (i:TypeInfo) (ht:P.underlying t=some (.slice e)) (hu:P.underlying u=some .string) (hi:P.info? e=some i) (hz:i.zero=some (.int .u8 0))
 (hsize:i.size=1) (hby:i.bytes=1)
 (v:X3) (n:Nat) (xs:List X3) (hs:a.eval sl=v) (hown:w.ownsRowF base e 1 v n xs) (s:ByteArray) (hx:a.eval x=.string s)
 (h63:n+s.size<=maxLen) (hbytes:n+s.size<=140737488355328) (hbase:base<=w.heap.size)
 (h:∀v' w',w'.ownsRowF base e 1 v' (n+s.size) (xs++Lib.strCells s)->w.grownBy w' v.ownBlock->(∀R,v'.ownBlock=some R->v.ownBlock=some R\/w.heap.size<=R)->wpList P ops Q rest (a.put o.dst v') w'):wpList P ops Q (o::rest) a w:=by
 refine wpList_plain hgd fun K hK=>?_;obtain⟨v',w',hr,h2,h3,h4⟩:=NU (P:=P) w base t u o.type e i ht hu hi hz hsize hby v n xs hown s h63 hbytes hbase;unfold Oper.wp execOp;simp only[ho,resolve,invoke,builtin,au,aw,ar,jo,aS,eC,hs,hx,hr];exact hK _ _ (h v' w' h2 h3 h4)
end
theorem BldF.refl(j b:Nat)(w:my):BldF j b w w:=⟨rfl,rfl,rfl,ak _,fun _ _ _ _=>rfl,fun _ h=>.inl h⟩
theorem G6{w:my}{b R:Nat}{p v:X3}{T:me}{fr:Nat×Nat}(hb:w.heap[b]?=some (.cells #[p,v] T fr))(hR:tn 1 w b R):v.ownBlock=some R:=by
 obtain⟨arr,n,cap,T',fr',e,e'⟩:=hR;rw[hb] at e;simp at e;obtain⟨rfl,_⟩:=e;simp at e';rw[e'];rfl
theorem BY{w:my}{b R n cap:Nat}{p:X3}{T:me}{fr:Nat×Nat}(hb:w.heap[b]?=some (.cells #[p,.slice (some ⟨R,0,none⟩) n cap] T fr)):tn 1 w b R:=⟨_,_,_,_,_,hb,rfl⟩
variable {P:Tz}{V:Ren}
theorem OU(L:Lays.n240 P V)(X:Builder.X72 P V)(B b:Nat)(bs:List X3)(w:my)(h:Lib.IsBuilderF (V.t 72) (V.t 5) B b bs w) :
 Calls P (V.f 240) #[.pointer (some ⟨b,0,none⟩)] w fun e w'=>e=.returned (.tuple #[])/\Lib.BuilderAtF (V.t 72) (V.t 5) B b (.pointer (some ⟨b,0,none⟩)) bs w'/\BldF 1 b w w'/\w'.heap.size=w.heap.size:=by
 rcases h with h|h
 . have hh:=h;obtain⟨hB,v,hbk,hown,hne⟩:=hh;refine(Any.Builder_copyCheck_fresh L X b w h.cell0 h.shape h.frozen0).mono ?_;rintro e w' ⟨rfl,rfl⟩;have hb2:(w.setCell ⟨b,0,none⟩ (.pointer (some ⟨b,0,none⟩))).heap[b]?=some (.cells #[.pointer (some ⟨b,0,none⟩),v] (V.t 72) (0,0)):=by simp[World.setCell,AN,hbk]
   refine⟨rfl,h.used _,⟨rfl,rfl,rfl,by simp[World.setCell],fun k _ hk _=>Below.heap_setCell _ _ _ _ hk,fun R hR=>?_⟩,by simp[World.setCell]⟩;have:=G6 hb2 hR;rcases hown.2 with⟨rfl,_⟩|⟨g,cap,cur,fz,rfl,_⟩
   . cases this
   . cases this;exact .inl (BY hbk)
 . refine(Any.Builder_copyCheck_used L X b w h.cell0).mono ?_;rintro e w' ⟨rfl,rfl⟩;exact⟨rfl,h,BldF.refl _ _ _,rfl⟩
theorem N6(L:Lays.n166 P V)(X:Builder.Extra P V)(B b:Nat)(bs:List X3)(s:ByteArray)(w:my)(h:Lib.IsBuilderF (V.t 72) (V.t 5) B b bs w)(hlen:bs.length+s.size<=140737488355328)(hBw:B<=w.heap.size) :
 Calls P (V.f 166) #[.pointer (some ⟨b,0,none⟩),.string s] w fun e w'=>e=.returned (.tuple #[.int .i64 s.size,.nilIface])/\Lib.BuilderAtF (V.t 72) (V.t 5) B b (.pointer (some ⟨b,0,none⟩)) (bs++Lib.strCells s) w'/\BldF 1 b w w':=by
 obtain⟨i0,hi,hz0,hz1,hz2⟩:=info_parts X.infoByte;have mixed:=L.mixed;have t72:=L.t72;have a72:=L.a72;have z72:=L.z72;have v72:=L.v72;have u72:=cW L.t72;have t70:=L.t70;have a70:=L.a70;have z70:=L.z70;have v70:=L.v70;have u70:=cW L.t70;have t37:=L.t37;have a37:=L.a37;have z37:=L.z37;have v37:=L.v37;have u37:=cW L.t37;have t3:=L.t3;have a3:=L.a3;have z3:=L.z3;have v3:=L.v3;have u3:=cW L.t3;have t9:=L.t9;have a9:=L.a9;have z9:=L.z9;have v9:=L.v9;have u9:=cW L.t9;have t4:=L.t4;have a4:=L.a4;have z4:=L.z4;have v4:=L.v4;have u4:=cW L.t4;have t164:=L.t164;have a164:=L.a164;have z164:=L.z164;have v164:=L.v164;have u164:=cW L.t164;have t5:=X.t5;have a5:=X.a5;have z5:=X.z5;have v5:=X.v5;have u5:=cW X.t5;have e240:∀args w,(callFunc (V.f 240) args).run P w=.ok (.enter (V.f 240) args) w:=enters_of L.f240 (by kernel_rfl) rfl;obtain⟨p0,v0,hb0,hown0,_⟩:∃p v,w.heap[b]?=some (.cells #[p,v] (V.t 72) (0,0))/\w.ownsRowF B (V.t 5) 1 v bs.length bs/\v.ownBlock≠some b:=by
  rcases h with⟨_,v,h1,h2⟩|⟨_,v,h1,h2⟩
  . exact⟨_,v,h1,h2⟩
  . exact⟨_,v,h1,h2⟩
 go_enter L.f166,Body.n166_ntmps V
 go_wp2_with (go_at_fn (V.f 240);refine(OU { L with } X.toX72 B b bs _ h).mono ?_)
 rintro e w1 ⟨rfl,h1,hf1,hs1⟩;obtain⟨hB,v,hbk,hown,hne⟩:=h1;have c0:w1.cell? ⟨b,0,none⟩=some (.pointer (some ⟨b,0,none⟩)):=by rw[AO hbk];rfl
 have c1:w1.cell? ⟨b,1,none⟩=some v:=by rw[AO hbk];rfl
 go_wp2_with (at_builtin;refine NN rfl _ _ (V.t 37) (V.t 9) rfl B (V.t 5) i0 L.t37 L.t9 hi hz0 hz1 hz2 _ _ _ rfl hown s rfl ?c3 ?c4 ?c5 ?_)
 case c3=>unfold maxLen;omega
 case c4=>omega
 case c5=>rw[hs1];exact hBw
 intro v' w2 hown' hgrow hrow';have hlt:b<w1.heap.size:=by
  rcases fx b w1.heap.size with h'|h'
  . exact h'
  . simp[tP h'] at hbk
 have hb2:w2.heap[b]?=some (.cells #[.pointer (some ⟨b,0,none⟩),v] (V.t 72) (0,0)):=by
  rw[hgrow.block b hlt (fun e=>hne e.symm)];exact hbk
 have d0:w2.cell? ⟨b,0,none⟩=some (.pointer (some ⟨b,0,none⟩)):=by rw[AO hb2];rfl
 have d1:w2.cell? ⟨b,1,none⟩=some v:=by rw[AO hb2];rfl
 have f1:w2.frozen? ⟨b,1,none⟩=false:=Lib.frozen_of_heap hb2 1;obtain⟨ao,n',cap,rfl⟩:∃ao n' cap,v'=.slice ao n' cap:=by
  rcases hown'.2 with⟨hv,_⟩|⟨g,cap,cur,fz,hv,_⟩
  . exact⟨_,_,_,hv⟩
  . exact⟨_,_,_,hv⟩
 have hrw:∀R,v.ownBlock=some R->tn 1 w1 b R:=fun R hR=>by
  rcases hown.2 with⟨rfl,_⟩|⟨g,cap,cur,fz,rfl,_⟩
  . cases hR
  . cases hR;exact BY hbk
 go_wp2
 go_ret2
 refine⟨rfl,Lib.BuilderAtF.put (T:=(V.t 72)) (e:=(V.t 5)) hB hb2 (bs':=bs++Lib.strCells s) (by simpa[Fs] using hown') X.neB5,?_⟩;have hb3:(w2.setCell ⟨b,1,none⟩ (.slice ao n' cap)).heap[b]?=some (.cells #[.pointer (some ⟨b,0,none⟩),.slice ao n' cap] (V.t 72) (0,0)):=by simp[World.setCell,AN,hb2]
 refine⟨?_,?_,?_,?_,fun k hk hkb hkr=>?_,fun R hR=>?_⟩
 . exact hgrow.os.trans hf1.os
 . exact hgrow.tape.trans hf1.tape
 . exact hgrow.output.trans hf1.output
 . have:=hgrow.size;simp[World.setCell];omega
 . refine(Below.heap_setCell _ _ _ _ hkb).trans ((hgrow.block k (by omega) (fun e=>?_)).trans (hf1.block k hk hkb hkr));exact hkr (((hf1.row k (hrw k e.symm))).resolve_right (by omega))
 . rcases hrow' R (G6 hb3 hR) with h2|h2
   . exact hf1.row R (hrw R h2)
   . exact .inr (by omega)
theorem QQ(L:Lays.n169 P V)(X:Builder.Extra P V)(B b:Nat)(l:List UInt8)(w:my)(h:Lib.IsBuilderF (V.t 72) (V.t 5) B b (Lib.byteCells l) w)(h0:l≠[]) :
 Calls P (V.f 169) #[.pointer (some ⟨b,0,none⟩)] w fun e w'=>e=.returned (.string ⟨l.toArray⟩)/\Lib.IsBuilderF (V.t 72) (V.t 5) B b (Lib.byteCells l) w'/\BldF 1 b w w':=by
 obtain⟨p,hp,hAt⟩:∃p,(p=.pointer none\/p=.pointer (some ⟨b,0,none⟩))/\Lib.BuilderAtF (V.t 72) (V.t 5) B b p (Lib.byteCells l) w:=by
  rcases h with h|h
  . exact⟨_,.inl rfl,h⟩
  . exact⟨_,.inr rfl,h⟩
 obtain⟨hB,v,hbk,hown,hne⟩:=hAt;have hl0:l.length≠0:=by simpa using h0
 rw[AP] at hown;obtain⟨g,cap,cur,fz,rfl,hbg,hg,hfz,hnc,hcm,hcs,htake⟩:∃g cap cur fz,v=.slice (some ⟨g,0,none⟩) l.length cap/\B<=g/\w.heap[g]?=some (.cells cur (V.t 5) fz)/\fz.2<=l.length*1/\l.length<=cap/\cap<=maxLen/\cur.size=cap*1/\cur.toList.take (l.length*1)=Lib.byteCells l:=by
  rcases hown.2 with⟨_,hz⟩|⟨g,cap,cur,fz,hv,r⟩
  . exact absurd hz hl0
  . exact⟨g,cap,cur,fz,hv,r⟩
 have c1:w.drew.cell? ⟨b,1,none⟩=some (.slice (some ⟨g,0,none⟩) l.length cap):=by
  have:w.drew.heap[b]?=some (.cells #[p,.slice (some ⟨g,0,none⟩) l.length cap] (V.t 72) (0,0)):=hbk;rw[AO this];rfl
 have hSD:(Builtin.unsafeSliceData_ #[(V.t 37)] (V.t 127) #[.slice (some ⟨g,0,none⟩) l.length cap]).run P w.drew=.ok (.pointer (some ⟨g,0,none⟩)) w.drew :=
  Lib.run_unsafeSliceData_row _ _ _ _ _ _ (by omega)
 have hUS:(Builtin.unsafeString_ #[(V.t 127),(V.t 3)] (V.t 9) #[.pointer (some ⟨g,0,none⟩),.int .i64 l.length]).run P w.drew=.ok (.string ⟨l.toArray⟩) (w.drew.freeze ⟨g,0,none⟩ l.length):=by
  refine Lib.run_unsafeString_row w.drew (V.t 127) (V.t 3) (V.t 9) (V.t 5) L.t127 X.cellsByte g cur.size (by have hg':w.drew.heap[g]?=some (.cells cur (V.t 5) fz):=hg;simp[World.shape?,hg']) l h0 (by omega) (by unfold maxLen at hcm;omega) ?_;intro j x hx;have:=hown.cells (g:=g) rfl j (.int .u8 x.toNat) (by simp[Lib.byteCells,hx]);exact this
 have hkeep:Lib.IsBuilderF (V.t 72) (V.t 5) B b (Lib.byteCells l) (w.drew.freeze ⟨g,0,none⟩ l.length):=by
  have hA:Lib.BuilderAtF (V.t 72) (V.t 5) B b p (Lib.byteCells l) w.drew:=⟨hB,_,hbk,by rw[AP];exact hown,hne⟩;have hF:=hA.froze (g:=g) (cap:=cap) (by rw[AP];exact c1);rw[AP] at hF;rcases hp with rfl|rfl
  . exact .inl hF
  . exact .inr hF
 have hgb:b≠g:=fun e=>hne (by simp[Value.ownBlock,e]);have hother:∀k,k≠g->(w.drew.freeze ⟨g,0,none⟩ l.length).heap[k]?=w.heap[k]?:=fun k hk=>by
  unfold World.freeze;rw[am hl0];simp only[AN];rw[am (fun e=>hk e.symm)];rfl
 have hframe:BldF 1 b w (w.drew.freeze ⟨g,0,none⟩ l.length):=by
  refine⟨?_,?_,?_,?_,fun k _ _ hkr=>hother k (fun e=>hkr (e▸BY hbk)),fun R ⟨arr,n,cap,T,fr,e,e'⟩=>.inl ⟨arr,n,cap,T,fr,(hother b hgb).symm.trans e,e'⟩⟩
  . unfold World.freeze;rw[am hl0];rfl
  . unfold World.freeze;rw[am hl0];rfl
  . unfold World.freeze;rw[am hl0];rfl
  . unfold World.freeze;rw[am hl0];show w.heap.size<=(Array.modify w.heap g _).size;rw[Array.size_modify];exact ak _
 have mixed:=L.mixed;have t72:=L.t72;have a72:=L.a72;have z72:=L.z72;have v72:=L.v72;have u72:=cW L.t72;have t70:=L.t70;have a70:=L.a70;have z70:=L.z70;have v70:=L.v70;have u70:=cW L.t70;have t37:=L.t37;have a37:=L.a37;have z37:=L.z37;have v37:=L.v37;have u37:=cW L.t37;have t127:=L.t127;have a127:=L.a127;have z127:=L.z127;have v127:=L.v127;have u127:=cW L.t127;have t3:=L.t3;have a3:=L.a3;have z3:=L.z3;have v3:=L.v3;have u3:=cW L.t3;have t9:=L.t9;have a9:=L.a9;have z9:=L.z9;have v9:=L.v9;have u9:=cW L.t9;have t5:=X.t5;have a5:=X.a5;have z5:=X.z5;have v5:=X.v5;have u5:=cW X.t5
 go_enter L.f169,Body.n169_ntmps V
 go_wp2
 go_region_o
 all_goals (go_wp2;go_ret;exact⟨rfl,hkeep,hframe⟩)
end Go.Proofs.Fl
namespace Go.Proofs
open Go.Shelf
def Tryz.lays125_ren:Go.Shelf.Ren:=⟨fun|125=>178|128=>216|129=>217|n=>n,fun|46=>229|3=>3|51=>173|53=>181|4=>4|5=>5|9=>9|n=>n,fun|n=>n⟩
theorem Tryz.lays125:Go.Proofs.Lays.n125 Tryz.prog Tryz.lays125_ren:={
 mixed:=by kernel_rfl
 f125:=Tryz.func178.trans (aJ some (by kernel_rfl))
 f128:=Tryz.func216.trans (aJ some (by kernel_rfl))
 f129:=Tryz.func217.trans (aJ some (by kernel_rfl))
 t3:=Tryz.underlying3
 a3:=Tryz.isAgg3
 z3:=Tryz.sizeOf3
 v3:=Tryz.zeroValue3
 t4:=Tryz.underlying4
 a4:=Tryz.isAgg4
 z4:=Tryz.sizeOf4
 v4:=Tryz.zeroValue4
 t5:=Tryz.underlying5
 a5:=Tryz.isAgg5
 z5:=Tryz.sizeOf5
 v5:=Tryz.zeroValue5
 t9:=Tryz.underlying9
 a9:=Tryz.isAgg9
 z9:=Tryz.sizeOf9
 v9:=Tryz.zeroValue9
 t46:=Tryz.underlying229
 a46:=Tryz.isAgg229
 z46:=Tryz.sizeOf229
 v46:=Tryz.zeroValue229
 t51:=Tryz.underlying173
 a51:=Tryz.isAgg173
 z51:=Tryz.sizeOf173
 v51:=Tryz.zeroValue173
 t53:=Tryz.underlying181
 a53:=Tryz.isAgg181
 z53:=Tryz.sizeOf181
 v53:=Tryz.zeroValue181 }
theorem Tryz.bits_Len(x:Int)(w:my)(h0:0<=x)(h1:x<=18446744073709551615) :
 Calls Tryz.prog 178 #[.int .u64 x] w fun e w'=>e=.returned (.int .i64 (Lib.bitLen x.toNat))/\w'=w:=Any.bits_Len Tryz.lays125 x w h0 h1
def Tryz.laysM171_ren:Go.Shelf.Ren:=⟨fun|171=>105|243=>158|246=>193|283=>236|284=>237|285=>238|286=>239|129=>217|317=>253|318=>254|319=>255|320=>256|337=>260|338=>261|n=>n,fun|3=>3|9=>9|2=>2|4=>4|171=>294|0=>0|53=>181|37=>167|5=>5|173=>296|212=>311|51=>173|20=>20|213=>312|46=>229|232=>318|233=>319|n=>n,fun|17=>0|18=>2|19=>3|n=>n⟩
theorem Tryz.laysM171:Go.Proofs.LaysM.n171 Tryz.prog Tryz.laysM171_ren:={
 mixed:=by kernel_rfl
 f129:=Tryz.func217.trans (aJ some (by kernel_rfl))
 f171:=Tryz.func105.trans (aJ some (by kernel_rfl))
 f243:=Tryz.func158.trans (aJ some (by kernel_rfl))
 f246:=Tryz.func193.trans (aJ some (by kernel_rfl))
 f283:=Tryz.func236.trans (aJ some (by kernel_rfl))
 f284:=Tryz.func237.trans (aJ some (by kernel_rfl))
 f285:=Tryz.func238.trans (aJ some (by kernel_rfl))
 f286:=Tryz.func239.trans (aJ some (by kernel_rfl))
 f317:=Tryz.func253.trans (aJ some (by kernel_rfl))
 f318:=Tryz.func254.trans (aJ some (by kernel_rfl))
 f319:=Tryz.func255.trans (aJ some (by kernel_rfl))
 f320:=Tryz.func256.trans (aJ some (by kernel_rfl))
 f337:=Tryz.func260.trans (aJ some (by kernel_rfl))
 f338:=Tryz.func261.trans (aJ some (by kernel_rfl))
 t0:=Tryz.underlying0
 a0:=Tryz.isAgg0
 z0:=Tryz.sizeOf0
 v0:=Tryz.zeroValue0
 t2:=Tryz.underlying2
 a2:=Tryz.isAgg2
 z2:=Tryz.sizeOf2
 v2:=Tryz.zeroValue2
 t3:=Tryz.underlying3
 a3:=Tryz.isAgg3
 z3:=Tryz.sizeOf3
 v3:=Tryz.zeroValue3
 t4:=Tryz.underlying4
 a4:=Tryz.isAgg4
 z4:=Tryz.sizeOf4
 v4:=Tryz.zeroValue4
 t5:=Tryz.underlying5
 a5:=Tryz.isAgg5
 z5:=Tryz.sizeOf5
 v5:=Tryz.zeroValue5
 t9:=Tryz.underlying9
 a9:=Tryz.isAgg9
 z9:=Tryz.sizeOf9
 v9:=Tryz.zeroValue9
 t20:=Tryz.underlying20
 a20:=Tryz.isAgg20
 z20:=Tryz.sizeOf20
 v20:=Tryz.zeroValue20
 t37:=Tryz.underlying167
 a37:=Tryz.isAgg167
 z37:=Tryz.sizeOf167
 v37:=Tryz.zeroValue167
 t46:=Tryz.underlying229
 a46:=Tryz.isAgg229
 z46:=Tryz.sizeOf229
 v46:=Tryz.zeroValue229
 t51:=Tryz.underlying173
 a51:=Tryz.isAgg173
 z51:=Tryz.sizeOf173
 v51:=Tryz.zeroValue173
 t53:=Tryz.underlying181
 a53:=Tryz.isAgg181
 z53:=Tryz.sizeOf181
 v53:=Tryz.zeroValue181
 t171:=Tryz.underlying294
 a171:=Tryz.isAgg294
 z171:=Tryz.sizeOf294
 v171:=Tryz.zeroValue294
 t173:=Tryz.underlying296
 a173:=Tryz.isAgg296
 z173:=Tryz.sizeOf296
 v173:=Tryz.zeroValue296
 t212:=Tryz.underlying311
 a212:=Tryz.isAgg311
 z212:=Tryz.sizeOf311
 v212:=Tryz.zeroValue311
 t213:=Tryz.underlying312
 a213:=Tryz.isAgg312
 z213:=Tryz.sizeOf312
 t232:=Tryz.underlying318
 a232:=Tryz.isAgg318
 z232:=Tryz.sizeOf318
 v232:=Tryz.zeroValue318
 t233:=Tryz.underlying319
 a233:=Tryz.isAgg319
 z233:=Tryz.sizeOf319
 v233:=Tryz.zeroValue319
 g17:=by kernel_rfl
 g18:=by kernel_rfl
 g19:=by kernel_rfl
 i0:=by kernel_rfl
 i2:=by kernel_rfl
 i3:=by kernel_rfl
 i4:=by kernel_rfl
 i5:=by kernel_rfl
 i9:=by kernel_rfl
 i20:=by kernel_rfl
 i37:=by kernel_rfl
 i46:=by kernel_rfl
 i51:=by kernel_rfl
 i53:=by kernel_rfl
 i171:=by kernel_rfl
 i173:=by kernel_rfl
 i212:=by kernel_rfl
 i232:=by kernel_rfl
 i233:=by kernel_rfl
 m17:=by kernel_rfl
 m18:=by kernel_rfl
 m19:=by kernel_rfl }
open Go.RowKit Go.Sort Go.Lib in
theorem Tryz.strconv_Itoa(n:Int)(h0 : -9223372036854775808<=n)(h1:n<=9223372036854775807)(w:my)(htab:Lib.TabIs Tryz.prog w "internal/strconv.uint64pow10" .u64 Lib.pow10Tab) :
 Calls Tryz.prog 105 #[.int .i64 n] w fun e w'=>e=.returned (.string ⟨(Lib.itoa n).toArray⟩)/\∃k os,w'=grow (w.drewN k) os:=Any.strconv_Itoa Tryz.laysM171 n h0 h1 w htab
def Tryz.lays105_ren:Go.Shelf.Ren:=⟨fun|105=>107|212=>160|99=>161|165=>162|166=>106|170=>163|169=>108|263=>195|264=>196|206=>197|240=>159|241=>198|276=>194|277=>240|n=>n,fun|9=>9|3=>3|4=>4|20=>20|0=>0|46=>229|109=>230|5=>5|72=>169|76=>177|51=>173|146=>261|53=>181|148=>263|70=>166|37=>167|75=>176|127=>234|164=>259|80=>92|n=>n,fun|n=>n⟩
theorem Tryz.lays105:Go.Proofs.Lays.n105 Tryz.prog Tryz.lays105_ren:={
 mixed:=by kernel_rfl
 f99:=Tryz.func161.trans (aJ some (by kernel_rfl))
 f105:=Tryz.func107.trans (aJ some (by kernel_rfl))
 f165:=Tryz.func162.trans (aJ some (by kernel_rfl))
 f166:=Tryz.func106.trans (aJ some (by kernel_rfl))
 f169:=Tryz.func108.trans (aJ some (by kernel_rfl))
 f170:=Tryz.func163.trans (aJ some (by kernel_rfl))
 f206:=Tryz.func197.trans (aJ some (by kernel_rfl))
 f212:=Tryz.func160.trans (aJ some (by kernel_rfl))
 f240:=Tryz.func159.trans (aJ some (by kernel_rfl))
 f241:=Tryz.func198.trans (aJ some (by kernel_rfl))
 f263:=Tryz.func195.trans (aJ some (by kernel_rfl))
 f264:=Tryz.func196.trans (aJ some (by kernel_rfl))
 f276:=Tryz.func194.trans (aJ some (by kernel_rfl))
 f277:=Tryz.func240.trans (aJ some (by kernel_rfl))
 t0:=Tryz.underlying0
 a0:=Tryz.isAgg0
 z0:=Tryz.sizeOf0
 v0:=Tryz.zeroValue0
 t3:=Tryz.underlying3
 a3:=Tryz.isAgg3
 z3:=Tryz.sizeOf3
 v3:=Tryz.zeroValue3
 t4:=Tryz.underlying4
 a4:=Tryz.isAgg4
 z4:=Tryz.sizeOf4
 v4:=Tryz.zeroValue4
 t5:=Tryz.underlying5
 a5:=Tryz.isAgg5
 z5:=Tryz.sizeOf5
 v5:=Tryz.zeroValue5
 t9:=Tryz.underlying9
 a9:=Tryz.isAgg9
 z9:=Tryz.sizeOf9
 v9:=Tryz.zeroValue9
 t20:=Tryz.underlying20
 a20:=Tryz.isAgg20
 z20:=Tryz.sizeOf20
 v20:=Tryz.zeroValue20
 t37:=Tryz.underlying167
 a37:=Tryz.isAgg167
 z37:=Tryz.sizeOf167
 v37:=Tryz.zeroValue167
 t46:=Tryz.underlying229
 a46:=Tryz.isAgg229
 z46:=Tryz.sizeOf229
 v46:=Tryz.zeroValue229
 t51:=Tryz.underlying173
 a51:=Tryz.isAgg173
 z51:=Tryz.sizeOf173
 v51:=Tryz.zeroValue173
 t53:=Tryz.underlying181
 a53:=Tryz.isAgg181
 z53:=Tryz.sizeOf181
 v53:=Tryz.zeroValue181
 t70:=Tryz.underlying166
 a70:=Tryz.isAgg166
 z70:=Tryz.sizeOf166
 v70:=Tryz.zeroValue166
 t72:=Tryz.underlying169
 a72:=Tryz.isAgg169
 z72:=Tryz.sizeOf169
 v72:=Tryz.zeroValue169
 t75:=Tryz.underlying176
 a75:=Tryz.isAgg176
 z75:=Tryz.sizeOf176
 v75:=Tryz.zeroValue176
 t76:=Tryz.underlying177
 a76:=Tryz.isAgg177
 z76:=Tryz.sizeOf177
 v76:=Tryz.zeroValue177
 t109:=Tryz.underlying230
 a109:=Tryz.isAgg230
 z109:=Tryz.sizeOf230
 v109:=Tryz.zeroValue230
 t127:=Tryz.underlying234
 a127:=Tryz.isAgg234
 z127:=Tryz.sizeOf234
 v127:=Tryz.zeroValue234
 t146:=Tryz.underlying261
 a146:=Tryz.isAgg261
 z146:=Tryz.sizeOf261
 v146:=Tryz.zeroValue261
 t148:=Tryz.underlying263
 a148:=Tryz.isAgg263
 z148:=Tryz.sizeOf263
 v148:=Tryz.zeroValue263
 t164:=Tryz.underlying259
 a164:=Tryz.isAgg259
 z164:=Tryz.sizeOf259
 v164:=Tryz.zeroValue259 }
theorem Tryz.Builder_Extra_105:Builder.Extra Tryz.prog Tryz.lays105_ren:={
 sizeBuilder:=by kernel_rfl
 liesBuilder:=by kernel_rfl
 t5:=Tryz.underlying5
 a5:=Tryz.isAgg5
 z5:=Tryz.sizeOf5
 v5:=Tryz.zeroValue5
 infoByte:=by kernel_rfl
 cellsByte:=by kernel_rfl
 sizeByte:=by kernel_rfl
 neB5:=by decide }
open Go.RowKit Go.Lib in
theorem Tryz.strings_Repeat(s:ByteArray)(c:Nat)(w:my)(hc:c<=9223372036854775807)(hlen:s.size*c<=140737488355328) :
 Calls Tryz.prog 107 #[.string s,.int .i64 c] w fun e w'=>e=.returned (.string ⟨(Lib.repeatL s.data.toList c).toArray⟩)/\Below w.heap.size w w':=Any.strings_Repeat Tryz.lays105 Tryz.Builder_Extra_105 s c w hc hlen
end Go.Proofs
namespace Go.Proofs.Fl
open Go.RowKit Go.Shelf
theorem VRL.one{H:ah}{args:List X3}{x:IV}(h:VRL H args [x]):∃v,args=[v]/\VR H v x:=by
 cases h with|cons v _ vs _ h t=>cases t;exact⟨v,rfl,h⟩
theorem VRL.two{H:ah}{args:List X3}{x y:IV}(h:VRL H args [x,y]):∃u v,args=[u,v]/\VR H u x/\VR H v y:=by
 cases h with|cons u _ us _ h t=>obtain⟨v,rfl,hv⟩:=t.one;exact⟨u,v,rfl,h,hv⟩
theorem Ct(s:ByteArray):s.size=s.data.toList.length:=Lib.size_eq s
theorem xp{J:Keep}{f:qe}{xs:List IV}{r:IV}(hf:∃fn,Tryz.prog.funcs[f]?=some fn/\(fn.name == "runtime.NumGoroutine")=false/\fn.body.isNone=false)
 (h:∀(H:ah) (w:my) (args:List X3),J.I w->VRL H args xs->Calls Tryz.prog f args.toArray w fun e w'=>∃v,e=.returned v/\(∀H,VR H v r)/\Below w.heap.size w w'):C J f xs r:=by
 refine⟨hf,fun H w args hI hH hargs=>(h H w args hI hargs).mono ?_⟩;rintro e w' ⟨v,rfl,hv,hb⟩;refine⟨v,H,rfl,fun b arr hb'=>?_,HExt.refl _ _,hv H,hb⟩;obtain⟨t,fr,ht⟩:=hH b arr hb';exact⟨t,fr,(hb.block b (hH.lt hb')).trans ht⟩
theorem PC(w:my)(k:Nat)(os:Array Obj):Below w.heap.size w (Go.Sort.grow (w.drewN k) os):=by
 refine⟨rfl,rfl,rfl,?_,fun j hj=>?_⟩
 . simp[Go.Sort.grow,World.drewN]
 . simp[Go.Sort.grow,World.drewN,jp,hj]
theorem Ul(J:Keep){s:List UInt8}{c:Nat}(hc:s.length*c<=140737488355328)(hc2:c<=9223372036854775807):C J 107 [.str s,.int .i64 (c:Nat)] (.str (Lib.repeatL s c)):=by
 refine xp ⟨_,Tryz.func107,rfl,rfl⟩ fun H w args hI hargs=>?_;obtain⟨u,v,rfl,hu,hv⟩:=hargs.two;obtain⟨s,rfl,rfl⟩:=ju hu;rw[VR.asInt hv];refine(Tryz.strings_Repeat s c w hc2 (by rw[Ct];exact hc)).mono ?_;rintro e w' ⟨rfl,hb⟩;exact⟨_,rfl,fun H=>.str _ _ (by simp),hb⟩
structure LibI(J:Keep):Prop where
 pow10:∀w,J.I w->Lib.TabIs Tryz.prog w "internal/strconv.uint64pow10" .u64 Lib.pow10Tab
theorem T9{J:Keep}(L:LibI J){n:Int}(h0 : -9223372036854775808<=n)(h1:n<=9223372036854775807):C J 105 [.int .i64 n] (.str (Lib.itoa n)):=by
 refine xp ⟨_,Tryz.func105,rfl,rfl⟩ fun H w args hI hargs=>?_;obtain⟨u,rfl,hu⟩:=hargs.one;rw[VR.asInt hu];refine(Tryz.strconv_Itoa n h0 h1 w (L.pow10 w hI)).mono ?_;rintro e w' ⟨rfl,k,os,rfl⟩;exact⟨_,rfl,fun H=>.str _ _ (by simp),PC _ _ _⟩
theorem NV(a b:List UInt8):Lib.byteCells (a++b)=Lib.byteCells a++Lib.byteCells b:=by simp[Lib.byteCells]
theorem OB(s:ByteArray):Lib.strCells s=Lib.byteCells s.data.toList:=by
 simp[Lib.strCells,Lib.byteCells]
theorem DH{s t:List UInt8}(hl:s.length+t.length<=140737488355328):vL Tryz.prog 106 s [.str t] (s++t) (.tup [.int .i64 (t.length:Nat),.nil 0]):=by
 refine⟨⟨_,Tryz.func106,rfl,rfl⟩,fun H w b args hargs hb=>?_⟩;obtain⟨u,rfl,hu⟩:=hargs.one;obtain⟨t,rfl,rfl⟩:=ju hu;refine(N6 { Tryz.lays105 with } Tryz.Builder_Extra_105 0 b (Lib.byteCells s) t w hb (by rw[AP,Ct];exact hl) (bk _)).mono ?_;rintro e w' ⟨rfl,h1,h2⟩;refine⟨_,rfl,fun H=>.tup [_,_] _ (.cons _ _ _ _ ?_ (.cons _ _ _ _ .nilI .nil)),.inr ?_,h2⟩
 . rw[Ct];exact .int _ _
 . rw[NV,<-OB];exact h1
theorem VW{s:List UInt8}(hs:s≠[]):vL Tryz.prog 108 s [] s (.str s):=by
 refine⟨⟨_,Tryz.func108,rfl,rfl⟩,fun H w b args hargs hb=>?_⟩;cases hargs;refine(QQ { Tryz.lays105 with } Tryz.Builder_Extra_105 0 b s w hb hs).mono ?_;rintro e w' ⟨rfl,h1,h2⟩;exact⟨_,rfl,fun H=>.str _ _ (by simp),h1,h2⟩
section
variable {J:Keep}{nt:Nat}{Y:AS}{K:X6->AS->Prop}
theorem W.build(n:Nat){id:Nat}{all:Array X4}{o:X4}{fo p:X0}{args:List X0}{ats:Array me}(ho:all.toList[n]?=some o)(hd:cJ nt all.toList=true)(hg:o.guard=none)(hop:o.op=.call { callee:=.value fo,args:=(p::args).toArray,argTypes:=ats })
 (h:fR TT (cx J).C all (all.toList.take n) Y.nx Y.tm Y.bx [] fun tm bx _=>match evS tm fo,evS tm p,gd bx (evS tm) args with
   | .iv (.fn f),.ptr g 0,some (xs,[])=>∃s s' r,bx g=some (.bld (.str s))/\(∀g' s',bx g'=some (.bld s')->g'=g)/\vL Tryz.prog f s xs s' r/\
    fR TT (cx J).C all (all.toList.drop (n+1)) (Y.nx+n+1) (eI tm o.dst (.iv r)) (aB bx g (some (.bld (.str s')))) [] fun tm bx _=>K .normal ⟨tm,bx,Y.nx+all.size⟩
   |_,_,_=>False):W J nt (.region id all false) Y K:=by
 unfold W;exact CW.build (X:=cx J) n ho hd hg hop h
theorem W.newBld{id:Nat}{o:X4}{d:Nat}(hd:Nat.blt d nt=true)(hdst:o.dst=some d)(hg:o.guard=none)(hop:o.op=.alloc jJ)
 (hb:Y.bx Y.nx=none) (h:K .normal ⟨aB Y.tm d (.ptr Y.nx 0),aB Y.bx Y.nx (some (.bld (.str []))),Y.nx+1⟩):W J nt (.region id #[o] false) Y K:=by
 unfold W;exact CW.newBld (X:=cx J) ((by simpa[cY] using hd)) hdst hg hop (i:=(Tryz.prog.info? jJ).getD default) (by kernel_rfl) (by kernel_rfl) hb h
end
end Go.Proofs.Fl
namespace Go.Proofs.Fl
open Go.RowKit Go.Proofs.Dig
attribute [local irreducible] IntKind.wrap a7 be bq bw
theorem CG:∀(w n:Nat),0<w->n<10^w->mE w n=List.replicate (w-(bK n).length) 48++bK n/\(bK n).length<=w
 |0,_,h,_=>absurd h (by omega)
 |1,n,_,h=>by
  have hn:n<10:=by simpa using h
  rw[rR hn];refine⟨?_,by simp⟩;show mE 0 (n/10) ++ [mH (n%10)]=_;rw[fX hn];rfl
 |w+2,n,_,h=>by
  show mE (w+1) (n/10) ++ [mH (n%10)]=_/\_;by_cases hn:n<10
  . rw[rR hn,fX hn,m4 hn,He];exact⟨by simp,Nat.succ_le_succ (bk _)⟩
  . have hq:n/10<10^(w+1):=by
     rw[cr] at h;exact Nat.div_lt_of_lt_mul (by omega)
    obtain⟨h1,h2⟩:=CG (w+1) (n/10) (by omega) hq;rw[xE (by omega),h1];refine⟨?_,by simp;omega⟩;rw[bF,tS,dX,show w+2-((bK (n/10)).length+1)=w+1-(bK (n/10)).length by omega]
theorem IH{n w:Nat}(hw:0<w)(h:n<10^w):(bK n).length<=w:=(CG w n hw h).2
theorem Rq(n:Nat):Lib.itoa ((n:Nat):Int)=bK n:=by
 unfold Lib.itoa;rw[am (by omega),mV];induction n using Nat.strongRecOn with
 |_ n ih=>
  rw[Lib.decDigits];split
  . rename_i h;rw[rR h];rfl
  . rename_i h;rw[xE (by omega),ih (n/10) (by omega)];rfl
theorem F4:∀c,Lib.repeatL [48] c=List.replicate c 48
 |0=>rfl
 |c+1=>by rw[rp,<-F4 c];rfl
def LL:Bx->Bool
 | .bld _=>true
 |_=>false
theorem Dr{m:List (Nat×Bx)}{g:Nat}(h:m.all (fun p=>Nat.beq p.1 g || !LL p.2)=true):∀g' s',dw m g'=some (.bld s')->g'=g:=by
 intro g' s' hg;induction m with
 |nil=>cases hg
 |cons p m ih=>
  simp only[cF,az] at h;simp only[dw] at hg;cases hb:Nat.beq g' p.1 with
  |false=>rw[hb] at hg;exact ih h.2 hg
  |true=>
   rw[hb] at hg;simp only[af,ae] at hg;rw[hg] at h;simp only[LL,Bool.not_true,E3] at h;rw[av hb,av h.1]
theorem Tg{bx:Nat->Option Bx}{g:Nat}{b:Option Bx}(h:∀g' s',bx g'=some (.bld s')->g'=g):∀g' s',aB bx g b g'=some (.bld s')->g'=g:=by
 intro g' s' hg;by_cases e:g'=g
 . exact e
 . rw[aD _ _ _ e] at hg;exact h g' s' hg
theorem LibI.any{J:Keep}(L:LibI J):LibI J.any:=⟨L.pow10⟩
def ia(ds:List Nat)(k:Nat):List UInt8:=if k=0 then [] else bK (ir ds k)
theorem Q4{ds:List Nat}(hd:Dg B9 ds){k:Nat}(hk:k<=ds.length):(ia ds k).length<=9*k:=by
 unfold ia;split
 . simp
 . refine IH (by omega) ?_;have:=fk (hd.drop (ds.length-k));rw[mX,show ds.length-(ds.length-k)=k by omega] at this;have e:B9^k=10^(9*k):=by rw[Nat.pow_mul]
   rw[<-e];exact this
theorem Q3{ds:List Nat}(hk:0<ds.length):ia ds (0+1)=bK (ds.getD (ds.length-1-0) 0):=by
 unfold ia;rw[am (by omega),Ca hk,Im,mW,aU]
theorem P0{ds:List Nat}(hd:Ok B9 ds){k:Nat}(h0:0<k)(hk:k<ds.length):ia ds (k+1)=ia ds k++mE 9 (ds.getD (ds.length-1-k) 0):=by
 unfold ia;rw[am (by omega),am (by omega),Ca hk];have h1:0<ir ds k:=by
  unfold ir;refine KR (by decide) (hd.nm.drop _) (fun e=>?_);have:=aJ List.length e;simp at this;omega
 exact Pt 9 h1 (hd.dg.getD (by decide) _)
theorem Um{J:Keep}(L:LibI J){ds:List Nat}(hd:Ok B9 ds)(hl:ds.length<2^43):C J 46 [bE ds] (.str (bK (nv B9 ds))):=by
 refine aH (J:=J.top) Tryz.func46 rfl rfl rfl ?_;have lm:(ds.map u32).length=ds.length:=by simp
 by_cases h0:ds=[]
 . subst h0;repeat((first|refine W.R ?_|refine W.c ?_|refine⟨_,sw J [],?_⟩);conv=>whnf)
   show IV.str [48]=IV.str (bK 0);rw[rR (by decide)];rfl
 . have hp:0<ds.length:=List.length_pos_iff.2 h0;have c0:=sw J (ds.map u32);rw[show(((ds.map u32).length:Int)==0)=false by rw[lm];exact beq_eq_false_iff_ne.2 (by omega)] at c0;repeat (first|(refine W.S ?_;refine W.newBld rfl rfl rfl rfl rfl ?_;conv=>whnf)|((first|refine W.R ?_|refine W.c ?_|refine⟨_,c0,?_⟩|refine⟨157,[.sl (ds.map u32)],JZ J _,rfl,?_⟩);conv=>whnf))
   refine W.weak (Y':=aF [(1,.ptr aK 0),(3,.ptr (aK+1) 0),(11,.clo 157 [7])] [(aK,.var (bE ds)),(aK+1,.bld (.str [])),(7,.var (.sl (ds.map u32)))] 50) (Wk.tab [(aK,0),(aK+1,4)] ⟨aa,aa,aa,ab⟩ ⟨rfl,rfl,rfl,ab⟩ rfl) ?_;refine W.range (JW J (show ds.length<2^60 by omega)) [aK,aK+1] [(1,.ptr aK 0),(3,.ptr (aK+1) 0)] (fun k=>[(aK,.var (bE ds)),(aK+1,.bld (.str (ia ds k)))]) 60 rfl ⟨rfl,ab⟩ (by simp) rfl IY (fun _=>rfl) (fun _=>by intro p hp;simp at hp;rcases hp with rfl|rfl<;>rfl) rfl ⟨rfl,rfl,ab⟩ rfl ⟨rfl,rfl,ab⟩ rfl rfl (fun k hk=>?_) ?_
   . rw[Kn hk];rw[r5] at hk;show W J.any _ _ ⟨mr (mK [(1,.ptr aK 0),(3,.ptr (aK+1) 0)]) [12,13] [.int .i64 ((ds.length-1-k:Nat):Int),u32 (ds.getD (ds.length-1-k) 0)],dw [(aK,.var (bE ds)),(aK+1,.bld (.str (ia ds k)))],60⟩ _;have hlen:=Q4 hd.dg (k:=k) (by omega);have h3:=hd.dg.getD (by decide) (ds.length-1-k);have hpad:=CG 9 (ds.getD (ds.length-1-k) 0) (by decide) h3;have hone:=Q3 hp;have hsucc:=fun h0=>P0 hd (k:=k) h0 hk;obtain⟨x,hx⟩:∃x,ds.getD (ds.length-1-k) 0=x:=⟨_,rfl⟩;rw[hx] at h3 hpad hsucc ⊢;have h3:x<1000000000:=h3;have c1:=T9 (J:=J.any) L.any (n:=((x:Nat):Int)) (by omega) (by omega);rw[Rq] at c1;have hdl:=hpad.2;have c2:=Ul J (s:=[48]) (c:=9-(bK x).length) (by simp;omega) (by omega);rw[F4,show((9-(bK x).length:Nat):Int)=9-((bK x).length:Int) by omega] at c2;by_cases hk0:0<k
     . have he:=hsucc hk0;rw[hpad.1,<-dX] at he;have w1:=DH (s:=ia ds k) (t:=List.replicate (9-(bK x).length) 48) (by simp;omega);have w2:=DH (s:=ia ds k++List.replicate (9-(bK x).length) 48) (t:=bK x) (by simp;omega);rw[<-he] at w2;have o1:=Dr (m:=[(aK,.var (bE ds)),(aK+1,.bld (.str (ia ds k)))]) (g:=aK+1) rfl;repeat((first|refine W.build 4 rfl rfl rfl rfl ?_|refine W.build 1 rfl rfl rfl rfl ?_|refine W.R ?_|refine W.c ?_|refine⟨_,c1,?_⟩|refine⟨_,c2,?_⟩|refine⟨_,_,_,rfl,o1,w1,?_⟩|refine ap (by omega) ?_|refine⟨_,dv (by omega),?_⟩|refine xT (by omega) ?_|refine⟨_,rfl,?_⟩|refine xr ?_);conv=>whnf)
       repeat((first|refine⟨_,_,_,rfl,Tg o1,w2,?_⟩|refine xr ?_);conv=>whnf)
       exact trivial
     . have e0:k=0:=by omega
       subst e0;rw[hx] at hone;have hpe:ia ds 0=[]:=rfl;have w2:vL Tryz.prog 106 [] [.str (bK x)] (ia ds (0+1)) (.tup [.int .i64 ((bK x).length:Nat),.nil 0]):=by
        rw[hone];exact DH (s:=[]) (t:=bK x) (by simp;omega)
       have o1:=Dr (m:=[(aK,.var (bE ds)),(aK+1,.bld (.str []))]) (g:=aK+1) rfl;rw[hpe];repeat((first|refine W.build 1 rfl rfl rfl rfl ?_|refine W.R ?_|refine W.c ?_|refine⟨_,c1,?_⟩|refine⟨_,_,_,rfl,o1,w2,?_⟩|refine ap (by omega) ?_|refine⟨_,dv (by omega),?_⟩|refine xF (by omega) ?_|refine⟨_,rfl,?_⟩|refine xr ?_);conv=>whnf)
       exact trivial
   . rw[r5];have hall:ia ds ds.length=bK (nv B9 ds):=by
      unfold ia;rw[am (by omega),JR]
     rw[hall];have o1:=Dr (m:=[(aK,.var (bE ds)),(aK+1,.bld (.str (bK (nv B9 ds))))]) (g:=aK+1) rfl;have w3:=VW (UA (nv B9 ds));repeat (first|(refine W.S ?_;refine W.build 0 rfl rfl rfl rfl ?_;conv=>whnf)|((first|refine W.ret ?_|refine⟨_,_,_,rfl,o1,w3,?_⟩);conv=>whnf))
     rfl
theorem J4{J:Keep}(L:LibI J){n:Nat}(h:ln n<2^43):C J 46 [aL n] (.str (bK n)):=by
 have:=Um L (cM n) h;rwa[dH] at this
def y9(q:Rat):List UInt8:=if q.den=1 then qB q.num else qB q.num ++ [47]++bK q.den
theorem Kc(n:Nat):(bK n).length<=9*ln n+1:=by
 refine IH (by omega) ?_;have h:=nu n;have e:B9^ln n=10^(9*ln n):=by rw[Nat.pow_mul]
 have:=dz (n:=10) (by decide) (wz (9*ln n));show n<10^(9*ln n+1);omega
theorem VG{J:Keep}(L:LibI J){q:Rat}(h:al q<2^40):C J 21 [qr q] (.str (y9 q)):=by
 refine aH Tryz.func21 rfl rfl rfl ?_;have hq:=h;unfold al at hq;have c1:=J4 L (n:=q.num.natAbs) (by omega);have c2:=J4 L (n:=q.den) (by omega);have c3:=mj J (q:=q) (by omega);have l1:=Kc q.num.natAbs;have l2:=Kc q.den;have c4:=sw J ((dg (q.den-1)).map u32);have hz:(((dg (q.den-1)).map u32).length=0)↔q.den=1:=by
  have:=fh q;rw[bR];have h2:=@Ps (q.den-1);rw[<-List.length_eq_zero_iff] at h2;omega
 unfold y9;by_cases hn:q.num<0
 . have e1:qB q.num=[45]++bK q.num.natAbs:=by unfold qB;rw[ay hn]
   show W J _ _ ⟨argS [.agg [.sl ((dg q.num.natAbs).map u32),.bool (decide (q.num<0)),.sl ((dg (q.den-1)).map u32)]],fun _=>none,0⟩ _;rw[aZ hn];unfold qr qd at c3;rw[aZ hn] at c3;by_cases hd:q.den=1
   . rw[show(((dg (q.den-1)).map u32).length:Int)==0 by rw[wu];have:=hz.2 hd;omega] at c4;rw[ay hd,e1];repeat (first|((first|refine W.R ?_|refine W.c ?_|refine⟨_,c1,?_⟩|refine⟨_,c4,?_⟩);conv=>whnf)|(refine⟨by simp;omega,?_⟩;conv=>whnf)|(refine⟨_,rfl,?_⟩;conv=>whnf))
     rfl
   . rw[show((((dg (q.den-1)).map u32).length:Int)==0)=false by rw[Nw];intro e;exact hd (hz.1 (by omega))] at c4;rw[am hd,e1];repeat (first|((first|refine W.R ?_|refine W.c ?_|refine⟨_,c1,?_⟩|refine⟨_,c2,?_⟩|refine⟨_,c3,?_⟩|refine⟨_,c4,?_⟩);conv=>whnf)|(refine⟨by simp;omega,?_⟩;conv=>whnf)|(refine⟨_,rfl,?_⟩;conv=>whnf))
     simp[hG]
 . have e1:qB q.num=bK q.num.natAbs:=by unfold qB;rw[am hn];rfl
   show W J _ _ ⟨argS [.agg [.sl ((dg q.num.natAbs).map u32),.bool (decide (q.num<0)),.sl ((dg (q.den-1)).map u32)]],fun _=>none,0⟩ _;rw[bl hn];unfold qr qd at c3;rw[bl hn] at c3;by_cases hd:q.den=1
   . rw[show(((dg (q.den-1)).map u32).length:Int)==0 by rw[wu];have:=hz.2 hd;omega] at c4;rw[ay hd,e1];repeat((first|refine W.R ?_|refine W.c ?_|refine⟨_,c1,?_⟩|refine⟨_,c4,?_⟩|refine⟨_,rfl,?_⟩);conv=>whnf)
     rfl
   . rw[show((((dg (q.den-1)).map u32).length:Int)==0)=false by rw[Nw];intro e;exact hd (hz.1 (by omega))] at c4;rw[am hd,e1];repeat (first|((first|refine W.R ?_|refine W.c ?_|refine⟨_,c1,?_⟩|refine⟨_,c2,?_⟩|refine⟨_,c3,?_⟩|refine⟨_,c4,?_⟩);conv=>whnf)|(refine⟨by simp;omega,?_⟩;conv=>whnf)|(refine⟨_,rfl,?_⟩;conv=>whnf))
     simp[hG]
theorem UT(z:Int)(n:Nat):sv (decide (z<0)&&(((n%2:Nat):Int)==1)) (z.natAbs^n)=z^n:=by
 unfold sv;by_cases hz:z<0
 . obtain⟨m,rfl⟩:∃m:Nat,z = -(m:Int):=⟨z.natAbs,by omega⟩;rw[aZ hz,ww,fc,n3];rcases Nat.mod_two_eq_zero_or_one n with h|h
   . rw[h];have:n=2*(n/2):=by omega
     have e:(-(m:Int))^n=(m:Int)^n:=by
      rw[this,Ft,Ft];congr 1;rw[lQ,lQ,lQ,lQ];simp;exact Fj _ _
     rw[e];simp
   . rw[h];have:n=2*(n/2)+1:=by omega
     have e:(-(m:Int))^n = -((m:Int)^n):=by
      rw[this,lQ,lQ,Ft,Ft];rw[show(-(m:Int))^2=(m:Int)^2 by rw[lQ,lQ,lQ,lQ];simp;exact Fj _ _];rw[Fi]
     rw[e];simp
 . obtain⟨m,rfl⟩:∃m:Nat,z=(m:Int):=⟨z.natAbs,by omega⟩;rw[bl hz,fc];simp
theorem yQ{J:Keep}{a:Rat}(ha:al a<2^28)(k:Int):C J 111 [qr a,.int .i64 k] (qr (a^(kh k 1000))):=by
 refine aH Tryz.func111 rfl rfl rfl ?_;obtain⟨n,hn⟩:∃n,kh k 1000=n:=⟨_,rfl⟩;have hn1:n<=1000:=by rw[<-hn];unfold kh;omega
 have hq:=ha;unfold al at hq;have m1:=bU (ln a.num.natAbs) (show n+1<=1001 by omega);have m2:=bU (ln a.den) (show n+1<=1001 by omega);have c0:=Uo J k 1000;have c1:=J7 J (a:=a.num.natAbs) (n:=n) (by omega) (by omega);have c2:=mj J (q:=a) (by omega);have c3:=J7 J (a:=a.den) (n:=n) (by omega) (by omega);have hp:1<=a.den^n:=gh (fh a);have l3:=Dw a.den n;have m3:=bU (ln a.den) (show n<=1000 by omega);have c4:=su J (a:=a.den^n) (b:=1) hp (by omega);have hm:((n:Nat):Int).tmod 2=((n%2:Nat):Int):=mn n 2;have c5:=gL J (decide (a.num<0)&&(((n%2:Nat):Int)==1)) (a.num.natAbs^n);rw[UT] at c5;rw[hn] at c0 ⊢;have fin:IV.agg [.sl ((dg (a.num^n).natAbs).map u32),.bool (decide (a.num^n<0)),.sl ((dg (a.den^n-1)).map u32)]=qr (a^n):=by
  rw[qr,qd,Rat.num_pow,Rat.den_pow]
 show W J _ _ ⟨argS [.agg [.sl ((dg a.num.natAbs).map u32),.bool (decide (a.num<0)),.sl ((dg (a.den-1)).map u32)],.int .i64 k],fun _=>none,0⟩ _;unfold qr qd at c2;by_cases h:a.num<0
 . rw[aZ h] at c2 c5 ⊢;repeat((first|refine W.RS ?_|refine W.ret ?_|refine⟨_,c0,?_⟩|refine⟨_,c1,?_⟩|refine⟨_,c2,?_⟩|refine⟨_,c3,?_⟩|refine⟨_,c4,?_⟩|refine⟨_,c5,?_⟩|refine⟨_,kV J (n:=1) (by omega),?_⟩|refine⟨by omega,_,hm,?_⟩|refine⟨_,rfl,?_⟩|refine xr ?_|refine xB ?_);conv=>whnf)
   exact fin
 . rw[bl h] at c2 c5 ⊢;repeat((first|refine W.RS ?_|refine W.ret ?_|refine⟨_,c0,?_⟩|refine⟨_,c1,?_⟩|refine⟨_,c2,?_⟩|refine⟨_,c3,?_⟩|refine⟨_,c4,?_⟩|refine⟨_,c5,?_⟩|refine⟨_,kV J (n:=1) (by omega),?_⟩|refine xr ?_|refine xA ?_);conv=>whnf)
   exact fin
theorem HV:al 0<=1:=by
 show ln 0+ln 1<=1;have h0:ln 0<=0:=li (by decide);rw[qk];omega
def vx(e:Option Rat):Rat:=e.getD 0
def Av:Option Rat->IV
 |none=>.int .i64 0
 |some _=>.int .i64 1
noncomputable def Au:Option Rat->IV
 |none=>.sl []
 |some q=>.sl ((dh q.den).map ai)
noncomputable abbrev rx(e:Option Rat):IV:=jf (vx e) (Av e) (Au e)
theorem Lz:∀(e:Option Rat),DOk (vx e) (Av e) (Au e)
 |none=>DOk.zero
 |some q=>DI q
theorem Wt(J:Keep){a b:Option Rat}(ha:rl (vx a)<2^34)(hb:rl (vx b)<2^34):C J 9 [rx a,rx b] (.int .i64 (bT (vx a) (vx b))):=by
 exact VJ J (Lz a) (Lz b) ha hb
theorem Sm:rl 0<=1:=by
 show lh 0+lh 1<=1;have h0:lh 0<=0:=lj (by decide);have:=KX;omega
theorem LI(n:Nat):ln n<=lh n:=li (g7 (iU n) (No (by decide) _))
theorem Dn(q:Rat):al q<=rl q:=by
 unfold al rl;have h1:=LI q.num.natAbs;have h2:=LI q.den;omega
theorem zg(z:Int):al (z:Rat)<=ln z.natAbs+1:=by
 show ln z.natAbs+ln 1<=_;rw[qk];omega
theorem S4(a b:Rat):al (a/b)<=al a+al b+1:=by
 by_cases hb:b=0
 . rw[hb,tV,Rat.inv_zero,Rat.mul_zero];have:=HV;omega
 . have hi:b⁻¹.num.natAbs=b.den/\b⁻¹.den=b.num.natAbs:=by
    have hn0:b.num≠0:=fun e=>hb (Rat.num_eq_zero.1 e);show(Rat.inv b).num.natAbs=_/\(Rat.inv b).den=_;unfold Rat.inv;split
    . simp
    . split
      . simp
      . omega
   have h:=sc a b⁻¹;rw[<-tV] at h;unfold al at *;rw[hi.1,hi.2] at h;omega
section
variable {J:Keep}{a b c d:Rat}
end
noncomputable abbrev sx(e f:Option Rat):IV:=.agg [.int .i64 (vx e).num.sign,.sl ((dh (vx e).num.natAbs).map ai),Av e,Au e,.int .i64 (vx f).num.sign,.sl ((dh (vx f).num.natAbs).map ai),Av f,Au f]
section
variable {J:Keep}{a b c d:Rat}{e f:Option Rat}
end
theorem UZ(a b:Rat):rl (a/b)<=rl a+rl b+1:=by
 by_cases hb:b=0
 . rw[hb,tV,Rat.inv_zero,Rat.mul_zero];have:=Sm;omega
 . have hi:b⁻¹.num.natAbs=b.den/\b⁻¹.den=b.num.natAbs:=by
    have hn0:b.num≠0:=fun e=>hb (Rat.num_eq_zero.1 e);show(Rat.inv b).num.natAbs=_/\(Rat.inv b).den=_;unfold Rat.inv;split
    . simp
    . split
      . simp
      . omega
   have h:=KJ a b⁻¹;rw[<-tV] at h;unfold rl at *;rw[hi.1,hi.2] at h;omega
section
variable {J:Keep}{a b c d:Rat}{e f:Option Rat}
end
def WO(c:UInt8):Bool:=decide (48<=c.toNat/\c.toNat<=57)
def digs(s:List UInt8):Bool:=!s.isEmpty&&s.all WO
theorem base(J:Keep):Base J:=⟨fun _ h=>Ut J h⟩
theorem gN{J:Keep}{nt id:Nat}{Y Y':AS}{K:X6->AS->Prop}{all:Array X4}{draw:Bool}{y:X5}(hw:Wk Y Y')(h0:qF nt all draw=true)(h:qP (cx J) all draw Y' fun Y'=>W J nt y Y' K):W J nt (.seq (.region id all draw) y) Y K :=
 W.weak hw (W.RS h h0)
theorem pZ(J:Keep){n:Int}(h1 : -9223372036854775808<=n)(h2:n<=9223372036854775807):C J 70 [.int .i64 n] (qr (n:Rat)):=by
 refine aH Tryz.func70 rfl rfl rfl ?_;have c1:=yP J h1 h2;repeat((first|refine W.RS ?_|refine W.ret ?_|refine⟨_,c1,?_⟩);conv=>whnf)
 rfl
theorem Cz{J:Keep}(B:Base J){a b:Rat}(ha:al a<2^38)(hb:al b<2^38)(hb0:b≠0):C J 135 [qr a,qr b] (qr (a/b)):=by
 refine aH Tryz.func135 rfl rfl rfl ?_;have c1:=DB B ha hb hb0;repeat((first|refine W.RS ?_|refine W.ret ?_|refine⟨_,c1,?_⟩);conv=>whnf)
 rfl
abbrev di(n:Int):IV:=.int .i64 n
def sumI:List Int->Int
 | []=>0
 |x::l=>x+sumI l
theorem Oz(a b:List Int):sumI (a++b)=sumI a+sumI b:=by
 induction a with
 |nil=>simp[sumI]
 |cons x a ih=>simp only[kJ,sumI,ih];omega
def cu:List Int->Nat
 | []=>0
 |x::l=>x.natAbs+cu l
theorem OW(a b:List Int):cu (a++b)=cu a+cu b:=by
 induction a with
 |nil=>simp[cu]
 |cons x a ih=>simp only[kJ,cu,ih];omega
theorem BV:∀l:List Int,(sumI l).natAbs<=cu l
 | []=>ak _
 |x::l=>by have:=BV l;simp only[sumI,cu];omega
theorem HI(l:List Int)(t:Nat):cu (l.take t)<=cu l:=by
 have e:=OW (l.take t) (l.drop t);rw[jQ] at e;omega
theorem tf{l:List Int}{i:Nat}(h:i<l.length):(l.map di)[i]?=some (di (l.getD i 0)):=by
 rw[bQ,br,a6 h];rfl
theorem GY{l:List Int}{t:Nat}(h:t<l.length):sumI (l.take (t+1))=sumI (l.take t)+l.getD t 0:=by
 rw[gg,Oz,br,a6 h];simp[sumI]
theorem xS(J:Keep){l:List Int}(hl:l.length<2^60)(hs:cu l<2^62):C J 77 [.sl (l.map di)] (.int .i64 (sumI l)):=by
 have la:(l.map di).length=l.length:=by simp
 refine aH Tryz.func77 rfl rfl rfl ?_;repeat((first|refine W.R ?_|refine W.c ?_|refine⟨_,rfl,?_⟩);conv=>whnf)
 refine W.loop (G:={ t:Nat // t<=l.length }) (fun t=>aF [(0,.iv (.sl (l.map di))),(3,.iv (.int .i64 (sumI (l.take t.1)))),(6,.iv (.sl (l.map di))),(7,.iv (.int .i64 (l.length:Int))),(8,.iv (.int .i64 (t.1:Int)))] [] 20) (fun t=>l.length-t.1) ⟨0,bk _⟩
  (Wk.tab [] ⟨aa,aa,aa,⟨dm (by rw[la]),rfl⟩,aa,ab⟩ trivial rfl) ?_
 rintro⟨t,ht⟩;show W J _ _ (aF [(0,.iv (.sl (l.map di))),(3,.iv (.int .i64 (sumI (l.take t)))),(6,.iv (.sl (l.map di))),(7,.iv (.int .i64 (l.length:Int))),(8,.iv (.int .i64 (t:Int)))] [] 20) _;have b1:=BV (l.take t);have b2:=HI l t;by_cases h:t<l.length
 . have e:=GY h;have b3:=BV (l.take (t+1));have b4:=HI l (t+1);obtain⟨y,hy⟩:∃y,l.getD t 0=y:=⟨_,rfl⟩;obtain⟨s,hs'⟩:∃s,sumI (l.take t)=s:=⟨_,rfl⟩;obtain⟨s2,hs2⟩:∃s,sumI (l.take (t+1))=s:=⟨_,rfl⟩;rw[hs2] at b3;rw[hs',hy,hs2] at e;rw[hs'] at b1;rw[hs'];have gy:(l.map di)[t]?=some (di y):=by rw[tf h,hy]
   repeat((first|refine W.R ?_|refine W.c ?_|refine⟨t,_,rfl,gy,rfl,?_⟩|refine ap (by omega) ?_|refine xT (by omega) ?_|refine xr ?_);conv=>whnf)
   exact⟨⟨t+1,by omega⟩,Wk.tab [] ⟨aa,⟨dm (by dsimp only;rw[hs2];omega),rfl⟩,aa,aa,aa,ab⟩ trivial rfl,by dsimp only;omega⟩
 . have e:t=l.length:=by omega
   subst e;rw[dM];repeat((first|refine W.R ?_|refine W.c ?_|refine xF (by omega) ?_|refine xr ?_);conv=>whnf)
   rfl
def kA:List Int->List Int->Int
 |x::a,y::b=>if aN x y=0 then kA a b else aN x y
 |_,_=>0
theorem QA{a b:List Int}{t:Nat}(ha:t<a.length)(hb:t<b.length):kA (a.drop t) (b.drop t)=if aN (a.getD t 0) (b.getD t 0)=0 then kA (a.drop (t+1)) (b.drop (t+1)) else aN (a.getD t 0) (b.getD t 0):=by
 rw[gJ ha,gJ hb,kA];simp[br,ha,hb]
theorem Sr(J:Keep){a b:List Int}(hab:a.length=b.length)(hl:a.length<2^60):C J 180 [.sl (a.map di),.sl (b.map di)] (.int .i64 (kA a b)):=by
 have la:(a.map di).length=a.length:=by simp
 have lb:(b.map di).length=b.length:=by simp
 obtain⟨r,hr⟩:∃r,kA a b=r:=⟨_,rfl⟩;rw[hr];refine aH Tryz.func180 rfl rfl rfl ?_;repeat((first|refine W.R ?_|refine W.c ?_|refine⟨_,rfl,?_⟩);conv=>whnf)
 refine W.loop (G:={ t:Nat // t<=a.length/\kA (a.drop t) (b.drop t)=r }) (fun t=>aF [(0,.iv (.sl (a.map di))),(1,.iv (.sl (b.map di))),(9,.iv (.sl (a.map di))),(10,.iv (.int .i64 (a.length:Int))),(11,.iv (.int .i64 (t.1:Int)))] [] 20) (fun t=>a.length-t.1) ⟨0,bk _,hr⟩
  (Wk.tab [] ⟨aa,aa,aa,⟨dm (by rw[la]),rfl⟩,aa,ab⟩ trivial rfl) ?_
 rintro⟨t,ht,hc⟩;show W J _ _ (aF [(0,.iv (.sl (a.map di))),(1,.iv (.sl (b.map di))),(9,.iv (.sl (a.map di))),(10,.iv (.int .i64 (a.length:Int))),(11,.iv (.int .i64 (t:Int)))] [] 20) _;by_cases h:t<a.length
 . have hs:=QA h (by omega:t<b.length);have gx:=tf h;have gy:=tf (by omega:t<b.length);obtain⟨x,hx⟩:∃x,a.getD t 0=x:=⟨_,rfl⟩;obtain⟨y,hy⟩:∃y,b.getD t 0=y:=⟨_,rfl⟩;have c1:=CV J x y;rw[hx,hy] at hs;rw[hx] at gx;rw[hy] at gy;obtain⟨z,hz⟩:∃z,aN x y=z:=⟨_,rfl⟩;rw[hz] at hs c1;by_cases h0:z=0
   . subst h0;rw[ay rfl,hc] at hs;repeat((first|refine W.R ?_|refine W.c ?_|refine⟨_,c1,?_⟩|refine⟨t,_,rfl,gx,rfl,?_⟩|refine⟨t,_,rfl,gy,rfl,?_⟩|refine ap (by omega) ?_|refine xT (by omega) ?_|refine xF (by omega) ?_|refine⟨false,bne_eq_false_iff_eq.2 (by omega),?_⟩|refine⟨_,rfl,?_⟩|refine xr ?_);conv=>whnf)
     exact⟨⟨t+1,h,hs.symm⟩,Wk.tab [] ⟨aa,aa,aa,aa,aa,ab⟩ trivial rfl,by dsimp only;omega⟩
   . rw[am h0,hc] at hs;subst hs;repeat((first|refine W.R ?_|refine W.c ?_|refine⟨_,c1,?_⟩|refine⟨t,_,rfl,gx,rfl,?_⟩|refine⟨t,_,rfl,gy,rfl,?_⟩|refine xT (by omega) ?_|refine xF (by omega) ?_|refine⟨true,bne_iff_ne.2 (by omega),?_⟩|refine⟨_,rfl,?_⟩|refine xr ?_);conv=>whnf)
     rfl
 . have e:t=a.length:=by omega
   rw[e,Nx] at hc;have hc:0=r:=by rw[<-hc];unfold kA;rfl
   subst hc e;repeat((first|refine W.R ?_|refine W.c ?_|refine xF (by omega) ?_|refine⟨_,rfl,?_⟩|refine xr ?_);conv=>whnf)
   rfl
def kE:List Int->Int
 | []=>0
 |x::l=>if x=0 then kE l else x
theorem Q8{l:List Int}{t:Nat}(h:t<l.length):kE (l.drop t)=if l.getD t 0=0 then kE (l.drop (t+1)) else l.getD t 0:=by
 rw[gJ h,kE];simp[br,h]
theorem Ss(J:Keep){l:List Int}(hl:l.length<2^60):C J 179 [.sl (l.map di)] (.int .i64 (kE l)):=by
 have la:(l.map di).length=l.length:=by simp
 obtain⟨r,hr⟩:∃r,kE l=r:=⟨_,rfl⟩;rw[hr];refine aH Tryz.func179 rfl rfl rfl ?_;repeat((first|refine W.R ?_|refine W.c ?_|refine⟨_,rfl,?_⟩);conv=>whnf)
 refine W.loop (G:={ t:Nat // t<=l.length/\kE (l.drop t)=r }) (fun t=>aF [(3,.iv (.int .i64 0)),(6,.iv (.sl (l.map di))),(7,.iv (.int .i64 (l.length:Int))),(8,.iv (.int .i64 (t.1:Int)))] [] 20) (fun t=>l.length-t.1) ⟨0,bk _,hr⟩
  (Wk.tab [] ⟨aa,aa,⟨dm (by rw[la]),rfl⟩,aa,ab⟩ trivial rfl) ?_
 rintro⟨t,ht,hc⟩;show W J _ _ (aF [(3,.iv (.int .i64 0)),(6,.iv (.sl (l.map di))),(7,.iv (.int .i64 (l.length:Int))),(8,.iv (.int .i64 (t:Int)))] [] 20) _;by_cases h:t<l.length
 . have hs:=Q8 h;have gx:=tf h;obtain⟨x,hx⟩:∃x,l.getD t 0=x:=⟨_,rfl⟩;rw[hx] at hs gx;by_cases h0:x=0
   . subst h0;rw[ay rfl,hc] at hs;repeat((first|refine W.R ?_|refine W.c ?_|refine⟨t,_,rfl,gx,rfl,?_⟩|refine ap (by omega) ?_|refine xT (by omega) ?_|refine⟨false,bne_eq_false_iff_eq.2 (by omega),?_⟩|refine xr ?_);conv=>whnf)
     exact⟨⟨t+1,h,hs.symm⟩,Wk.tab [] ⟨aa,aa,aa,aa,ab⟩ trivial rfl,by dsimp only;omega⟩
   . rw[am h0,hc] at hs;subst hs;repeat((first|refine W.R ?_|refine W.c ?_|refine⟨t,_,rfl,gx,rfl,?_⟩|refine xT (by omega) ?_|refine⟨true,bne_iff_ne.2 (by omega),?_⟩|refine xr ?_);conv=>whnf)
     rfl
 . have e:t=l.length:=by omega
   rw[e,Nx] at hc;have hc:0=r:=by rw[<-hc];unfold kE;rfl
   subst hc e;repeat((first|refine W.R ?_|refine W.c ?_|refine xF (by omega) ?_|refine xr ?_);conv=>whnf)
   rfl
noncomputable def tq(p:List Int)(q:Rat):IV:=.agg (.sl (p.map di)::(qr q).cells)
def sM(a b:List Int):Int:=kE [aN (sumI a) (sumI b),kA b a]
theorem Sy(J:Keep){a b:List Int}{x y:Rat}(hab:a.length=b.length)(hl:a.length<2^50)(ha:cu a<2^62)(hb:cu b<2^62):C J 134 [tq a x,tq b y] (.int .i64 (sM a b)):=by
 refine aH Tryz.func134 rfl rfl rfl ?_;have c1:=xS J (l:=a) (by omega) ha;have c2:=xS J (l:=b) (by omega) hb;have c3:=CV J (sumI a) (sumI b);have c4:=Sr J (a:=b) (b:=a) hab.symm (by omega);have c5:=Ss J (l:=[aN (sumI a) (sumI b),kA b a]) (by simp);repeat((first|refine W.RS ?_|refine W.ret ?_|refine⟨_,c1,?_⟩|refine⟨_,c2,?_⟩|refine⟨_,c3,?_⟩|refine⟨_,c4,?_⟩|refine⟨_,c5,?_⟩|refine xr ?_);conv=>whnf)
 rfl
end Go.Proofs.Fl
namespace Go.Proofs.Fl
open Go
theorem BN{α:Type}:∀(a:Ask α) (w:my),w.drawn<=(w.ask a).2.drawn
 | .done _,w=>ak _
 | .ask what range k,w=>by
  unfold World.ask;dsimp only;split
  . exact BN (k 0) w
  . exact aY (wz _) (BN _ { w with drawn:=w.drawn+1 })
theorem Bq(w:my)(c:Sys):w.drawn<=(w.sys c).2.drawn:=by
 unfold World.sys;have:=BN (Kernel.perform c w.os) w;split
 . exact ak _
 . rename_i h;rw[h] at this;exact this
theorem NW{p:Tz}{w w':my}{a k:Addr}{u:me}{v:X3}{b:Bool}{l:List Addr}(h:w.viewStore p a u k v b=.ok (w',l)):w'.drawn=w.drawn:=by
 unfold World.viewStore at h;simp only[bind,Except.bind,pure,Except.pure] at h;repeat' split at h
 all_goals first|(cases h;rfl)|cases h
theorem FH{p:Tz}{w w':my}{a:Addr}{v:X3}{b:Bool}{l:List Addr}(h:w.farStore p a v b=.ok (w',l)):w'.drawn=w.drawn:=by
 unfold World.farStore at h;repeat' split at h
 all_goals first|cases h|skip
 exact NW (by assumption)
def vM{α:Type}:Result α->my
 | .ok _ w=>w
 | .halt _ w=>w
theorem Bs{α:Type}(p:Tz)(s:Sem α):∀w:my,w.drawn<=(vM (s.run p w)).drawn:=by
 induction s with
 |pure a=>exact fun w=>ak _
 |load m a k ih=>
  intro w;unfold Sem.run;split
  . exact ih _ w
  . split
    . exact ih _ w
    . exact ak _
 |store m a v k ih=>
  intro w;have key:∀v:X3,w.drawn<=(vM (match w.cell? a with
   |some _=>if w.frozen? a then Result.halt (.unsupported (.unsafePointer "a write to bytes that a string shares")) w else k.run p (w.setCell a v)
   |none=>match w.farStore p a v (m == .atomic) with
    | .ok (w,_)=>k.run p w
    | .error h=>.halt h w)).drawn:=fun v=>by
   split
   . split
     . exact ak _
     . exact ih (w.setCell a v)
   . split
     . rename_i hf;exact aY (kM (FH hf).symm) (ih _)
     . exact ak _
  cases v<;>first|exact ak _|(rw[Sem.run];exact key _;all_goals (intro _ h;cases h))
 |new o k ih=>intro w;unfold Sem.run;exact ih w.heap.size { w with heap:=w.heap.push o }
 |shape r k ih=>intro w;unfold Sem.run;exact ih _ _
 |freeze a n k ih=>
  intro w;unfold Sem.run;refine aY ?_ (ih _);unfold World.freeze;split<;>exact ak _
 |frozen a k ih=>intro w;unfold Sem.run;exact ih _ _
 |getObj r k ih=>intro w;unfold Sem.run;split<;>first|exact ak _|exact ih _ _
 |setObj r o k ih=>intro w;unfold Sem.run;split<;>first|exact ak _|exact ih { w with heap:=w.heap.setIfInBounds r o }
 |choose q k ih=>
  intro w;unfold Sem.run;split
  . exact ih _ _
  . exact aY (wz _) (ih _ { w with drawn:=w.drawn+1 })
 |sys c k ih=>intro w;unfold Sem.run;exact aY (Bq w c) (ih _ _)
 |program k ih=>intro w;unfold Sem.run;exact ih _ _
 |mark m k ih=>intro w;unfold Sem.run;exact ih _
 |halt h=>exact fun w=>ak _
theorem ug{α:Type}(p:Tz)(s:Sem α):∀(w:my) (es:Array Event),w.drawn<=(vM (s.runT p w es).1).drawn:=by
 induction s with
 |pure a=>exact fun w _=>ak _
 |load m a k ih=>
  intro w es;unfold Sem.runT;split
  . exact ih _ w _
  . split
    . exact ih _ w _
    . exact ak _
 |store m a v k ih=>
  intro w es;have key:w.drawn<=(vM (match w.cell? a with
   |some _=>if w.frozen? a then((Result.halt (.unsupported (.unsafePointer "a write to bytes that a string shares")) w:Result α),es) else k.runT p (w.setCell a v) (es.push ⟨.cell a,true,m==Mode.atomic⟩)
   |none=>match w.farStore p a v (m==Mode.atomic) with
    | .ok (w,touched)=>k.runT p w (es++touched.toArray.map (fun x=>(⟨.cell x,true,m==Mode.atomic⟩:Event)))
    | .error h=>(.halt h w,es)).1).drawn:=by
   split
   . split
     . exact ak _
     . exact ih (w.setCell a v) _
   . split
     . rename_i hf;exact aY (kM (FH hf).symm) (ih _ _)
     . exact ak _
  cases v<;>first|exact ak _|(rw[Sem.runT];exact key;all_goals (intro _ h;cases h))
 |new o k ih=>intro w es;unfold Sem.runT;exact ih w.heap.size { w with heap:=w.heap.push o } es
 |shape r k ih=>intro w es;unfold Sem.runT;exact ih _ _ _
 |freeze a n k ih=>
  intro w es;unfold Sem.runT;refine aY ?_ (ih _ _);unfold World.freeze;split<;>exact ak _
 |frozen a k ih=>intro w es;unfold Sem.runT;exact ih _ _ _
 |getObj r k ih=>intro w es;unfold Sem.runT;split<;>first|exact ak _|exact ih _ _ _
 |setObj r o k ih=>intro w es;unfold Sem.runT;split<;>first|exact ak _|exact ih { w with heap:=w.heap.setIfInBounds r o } _
 |choose q k ih=>
  intro w es;unfold Sem.runT;split
  . exact ih _ _ _
  . exact aY (wz _) (ih _ { w with drawn:=w.drawn+1 } _)
 |sys c k ih=>intro w es;unfold Sem.runT;exact aY (Bq w c) (ih _ _ _)
 |program k ih=>intro w es;unfold Sem.runT;exact ih _ _ _
 |mark m k ih=>intro w es;unfold Sem.runT;exact ih _ _
 |halt h=>exact fun w _=>ak _
section
variable {α:Type}{p:Tz}{s:Sem α}{w w':my}{a:α}{h:Halt}{es es':Array Event}
theorem fJ(e:s.run p w=.ok a w'):w.drawn<=w'.drawn:=by have:=Bs p s w;rwa[e] at this
theorem tH(e:s.run p w=.halt h w'):w.drawn<=w'.drawn:=by have:=Bs p s w;rwa[e] at this
theorem XQ(e:s.runT p w es=(.ok a w',es')):w.drawn<=w'.drawn:=by have:=ug p s w es;rwa[e] at this
theorem XP(e:s.runT p w es=(.halt h w',es')):w.drawn<=w'.drawn:=by have:=ug p s w es;rwa[e] at this
theorem XO{c:Sys}{r:SysRet}(e:w.sys c=(r,w')):w.drawn<=w'.drawn:=by have:=Bq w c;rwa[e] at this
theorem rm(e:(s.runT p w es).1=.ok a w'):w.drawn<=w'.drawn:=by have:=ug p s w es;rwa[e] at this
theorem rk(e:(s.runT p w es).1=.halt h w'):w.drawn<=w'.drawn:=by have:=ug p s w es;rwa[e] at this
end
def g4:GStep->my
 | .go _ w _=>w
 | .comm _ _ _ _ w _=>w
 | .spawn _ _ w _=>w
 | .count _ w _=>w
 | .timer _ _ w _=>w
 | .alone _ _ w _=>w
 | .newcoro _ _ _ w _=>w
 | .coroswitch _ _ _ w _=>w
 | .collect _ w _=>w
 | .watch _ w _=>w
 | .ended _ w _=>w
theorem ux(es:Array Event)(g:GStep):g4 (g.after es)=g4 g:=by cases g<;>rfl
theorem Pp(w:my)(fd:Nat)(t:ByteArray)(o:Outcome):w.drawn<=(g4 (endWith w fd t o)).drawn:=by
 unfold endWith;dsimp only;repeat' split
 all_goals exact XO (by assumption)
theorem FI(p:Tz)(fr:Frame)(v:X3)(w:my):w.drawn<=(g4 (endPrinting p fr v w)).drawn:=by
 unfold endPrinting;dsimp only;split<;>exact ak _
theorem F8(p:Tz)(fr:Frame)(cs:List Frame)(d:Option Dying)(m:String)(w:my):w.drawn<=(g4 (endFatal p fr cs d m w)).drawn:=by
 unfold endFatal;dsimp only;repeat' split
 all_goals first|exact ak _|exact fJ (by assumption)|exact tH (by assumption)
theorem O3(p:Tz)(fr:Frame)(d:Dying)(f:Fatal)(w:my):w.drawn<=(g4 (writeOn p fr d f w)).drawn:=by
 unfold writeOn;dsimp only;repeat' split
 all_goals first|exact ak _|exact XQ (by assumption)|exact XP (by assumption)
theorem VS(p:Tz)(fr:Frame)(d:Dying)(w:my):w.drawn<=(g4 (die p fr d w)).drawn:=by
 unfold die;dsimp only;repeat' split
 all_goals first|exact ak _|exact O3 .. | exact Pp .. | exact fJ (by assumption)|exact tH (by assumption)|skip
 all_goals
  rw[ux];repeat' split
  all_goals first|exact rm (by assumption)|exact rk (by assumption)|exact aY (rk (by assumption)) (FI ..)|skip
theorem A9(p:Tz)(main:Bool)(fr:Frame)(cs:List Frame)(d:Option Dying)(v:X3)(w:my):w.drawn<=(g4 (doReturn p main fr cs d v w)).drawn:=by
 unfold doReturn;dsimp only;repeat' split
 all_goals exact ak _
theorem RI(p:Tz)(fr:Frame)(cs:List Frame)(d:Option Dying)(g:Nat)(w:my):w.drawn<=(g4 (early p fr cs d g w)).drawn:=by
 unfold early;dsimp only;repeat' split
 all_goals first|exact ak _|exact fJ (by assumption)|exact tH (by assumption)|(have h:=fJ ‹Sem.run _ _ _=Result.ok 0 _›;exact h)
theorem NY(p:Tz)(fr:Frame)(cs:List Frame)(dy:Option Dying)(d:Deferred)(w:my):w.drawn<=(g4 (callDeferred p fr cs dy d w)).drawn:=by
 unfold callDeferred;dsimp only;repeat' split
 all_goals first|exact ak _|rw[ux]
 all_goals first|exact rm (by assumption)|exact rk (by assumption)|exact aY (rk (by assumption)) (F8 ..)|exact aY (rk (by assumption)) (endThrow_dr ..)|skip
theorem PL(p:Tz)(main:Bool)(fr:Frame)(cs:List Frame)(dy:Option Dying)(w:my):w.drawn<=(g4 (unwind p main fr cs dy w)).drawn:=by
 unfold unwind;dsimp only;repeat' split
 all_goals first|exact ak _|exact fJ (by assumption)|exact tH (by assumption)|exact NY .. | exact A9 .. | exact FI .. | skip
 all_goals
  rw[ux];repeat' split
  all_goals first|exact rm (by assumption)|exact rk (by assumption)|exact aY (rm (by assumption)) (A9 ..)
theorem Co(p:Tz)(l:Bool)(fr:Frame)(cs:List Frame)(dy:Option Dying)(s:Sem Next)(w:my):w.drawn<=(g4 (stepG.apply p l fr cs dy s w)).drawn:=by
 unfold stepG.apply;dsimp only;rw[ux];have key:w.drawn<=(vM (if l=true then s.runT p w #[] else(s.run p w,#[])).1).drawn:=by
  split
  . exact ug ..
  . exact Bs ..
 generalize (if l=true then s.runT p w #[] else(s.run p w,#[]))=R at key ⊢;obtain⟨r,es⟩:=R;dsimp only at key ⊢;cases r with
 |ok a w'=>
  cases a<;>try dsimp only
  all_goals first|exact key|(repeat' split)
  all_goals first|exact key|exact aY key (endThrow_dr ..)
 |halt h w'=>
  cases h;all_goals try (rename_i u;cases u)
  all_goals try dsimp only
  all_goals first|exact key|exact aY key (endThrow_dr ..)|exact aY key (F8 ..)|exact aY key (RI ..)|skip
theorem Tf(p:Tz)(l:Bool)(fr:Frame)(cs:List Frame)(dy:Option Dying)(w:my):w.drawn<=(g4 (stepG.oper p l fr cs dy w)).drawn:=by
 unfold stepG.oper;repeat' split
 all_goals first|exact ak _|exact Co ..
theorem Uu(p:Tz)(main l:Bool)(fr:Frame)(cs:List Frame)(dy:Option Dying)(w:my):w.drawn<=(g4 (stepG.exec p main l fr cs dy w)).drawn:=by
 unfold stepG.exec Option.elim;dsimp only;repeat' split
 all_goals first|exact ak _|exact Co .. | exact Tf .. | exact fJ (by assumption)|exact tH (by assumption)|rw[ux]|skip
 all_goals first|exact rm (by assumption)|exact rk (by assumption)|exact aY (rm (by assumption)) (A9 ..)|exact aY (rm (by assumption)) (Co ..)|skip
theorem QV(p:Tz)(main:Bool)(g:Goroutine)(w:my)(l:Bool):w.drawn<=(g4 (stepG p main g w l)).drawn:=by
 unfold stepG;dsimp only;repeat' split
 all_goals first|exact VS .. | exact Uu .. | exact PL ..
def qZ(n:Nat):Stepped->Prop
 | .next m=>n<=m.world.drawn
 | .ended _ _=>True
theorem JI(p:Tz)(gs:Array Goroutine)(rest:Rest)(w:my):qZ w.drawn (look p gs rest w):=by
 unfold look;dsimp only;repeat' split
 all_goals first|trivial|(have h:=fJ ‹Sem.run _ _ _=Result.ok _ _›;exact h)
theorem Oe{rest:Rest}{cases_:Array CommCase}{w w':my}(h:waitingAt rest cases_ w=some w'):w'.drawn=w.drawn:=by
 unfold waitingAt at h;repeat' split at h
 all_goals (cases h;try rfl)
theorem N5(p:Tz)(rest:Rest)(gs:Array Goroutine)(i:Nat)(g:Goroutine)(cs:Array CommCase)(b:Bool)(sh:CommShape)(w:my):qZ w.drawn (communicate p rest gs i g cs b sh w).1:=by
 unfold communicate;dsimp only;repeat' split
 all_goals first|trivial|exact ak _|exact kM (Oe (by assumption)).symm|exact fJ (by assumption)|skip
 all_goals first
  | (have h:=fJ ‹Sem.run _ _ w=Result.ok _ _›;exact h)
  | (have h:=fJ ‹Sem.run _ _ w=Result.ok _ _›;exact aY h (tH (by assumption)))
  | (have h:=fJ ‹Sem.run _ _ w=Result.ok _ _›;have h2:=fJ ‹Sem.run _ (choose _) _=Result.ok _ _›;exact aY h h2)
theorem RK(w:my)(c:Nat):(drain w c).2.drawn=w.drawn:=by
 unfold drain;split<;>rfl
theorem G7(m:Machine)(k:Nat)(t:Timer)(a b:Nat):(retime m k t a b).2.world.drawn=m.world.drawn:=by
 unfold retime;dsimp only;split
 . rename_i c _;exact RK m.world c
 . rfl
theorem Ib{m m0 m':Machine}{var:Addr}{f:Nat->Timer->X3×Machine}{v:X3}(hf:∀k t,(f k t).2.world.drawn=m0.world.drawn)(h:timerOp.named m var f=.ok (v,m')):m'.world.drawn=m0.world.drawn:=by
 unfold timerOp.named at h;split at h
 . rename_i k _;injection h with h;have h2:=hf k (m.rest.timers.getD k default);rw[h] at h2;exact h2
 . cases h
theorem P5{m m':Machine}{var:Addr}(h:timerOp.opened m var=some m'):m'.world.drawn=m.world.drawn:=by
 unfold timerOp.opened at h;repeat' split at h
 all_goals (cases h;try rfl)
theorem O4{m m':Machine}{op:TimerOp}{v:X3}(h:timerOp m op=.ok (v,m')):m'.world.drawn=m.world.drawn:=by
 unfold timerOp at h;repeat' split at h
 all_goals first
  | (cases h;rfl)
  | (cases h;done)
  |exact Ib (fun k t=>G7 ..) h
  | (rename_i ho;exact Ib (fun k t=>(G7 ..).trans (P5 ho)) h)
theorem QZ(p:Tz)(m:Machine)(k:Nat):qZ m.world.drawn (serve p m k):=by
 unfold serve;dsimp only;repeat' split
 all_goals first|trivial|exact ak _
theorem yy{n k:Nat}(h:n<=k):∀{s:Stepped},qZ k s->qZ n s
 | .next _,hs=>aY h hs
 | .ended _ _,_=>trivial
theorem Si(p:Tz)(m:Machine)(i:Nat)(l:Bool):qZ m.world.drawn (Go.runT p m i l).1:=by
 unfold Go.runT;dsimp only;have h:=QV p (i==0) (m.gs.swapAt! i { (default:Goroutine) with status:=.finished }).1 m.world l;generalize stepG p (i==0) (m.gs.swapAt! i { (default:Goroutine) with status:=.finished }).1 m.world l=s at h ⊢;cases s;all_goals (dsimp only [g4] at h ⊢)
 all_goals first
  |trivial
  |exact h
  |exact yy h (N5 ..)
  |exact yy h (JI ..)
  |skip
 all_goals (repeat' split)
 all_goals first
  |trivial
  |exact h
  |exact yy h (endThrow_dr ..)
  | (exact aY h (kM (O4 (by assumption)).symm))
  | (rename_i e;exact aY h (kM (aJ (fun s=>(g4 s).drawn) e)))
def vS(n:Nat):Move->Prop
 | .goroutine m _=>n<=m.world.drawn
 | .machine s _=>qZ n s
theorem mg{n k:Nat}(h:n<=k):∀{s:Move},vS k s->vS n s
 | .goroutine _ _,hs=>aY h hs
 | .machine _ _,hs=>yy h hs
theorem Cn(p:Tz)(m:Machine):vS m.world.drawn (askOn p m):=by
 unfold askOn;dsimp only;repeat' split
 all_goals try trivial
 all_goals refine mg (fJ ‹Sem.run _ _ m.world=Result.ok _ _›) ?_
 all_goals try exact ak _
 all_goals try exact QZ ..
 all_goals first|refine mg (fJ ‹Sem.run _ _ _=Result.ok _ _›) ?_|(have h:=fJ ‹Sem.run _ _ (Machine.advanceTo _ _).world=Result.ok _ _›;refine mg h ?_)
 all_goals try exact ak _
 all_goals first|refine mg (fJ ‹Sem.run _ _ _=Result.ok _ _›) ?_|(have h:=fJ ‹Sem.run _ _ (Machine.advanceTo _ _).world=Result.ok _ _›;refine mg h ?_)
 all_goals try exact ak _
 all_goals first|refine mg (fJ ‹Sem.run _ _ _=Result.ok _ _›) ?_|(have h:=fJ ‹Sem.run _ _ (Machine.advanceTo _ _).world=Result.ok _ _›;refine mg h ?_)
 all_goals exact ak _
theorem Ll(p:Tz)(m:Machine):vS m.world.drawn (ask p m):=by
 unfold ask;split
 . split
   . trivial
   . rename_i w1 e;refine mg (fJ e) ?_;have h:=JI p m.gs m.rest w1;split
     . rename_i m1 e1;rw[e1] at h;exact mg h (Cn p m1)
     . exact h
   . rename_i w1 _ e;exact mg (fJ e) (Cn p { m with world:=w1 })
 . exact Cn ..
theorem TB(p:Tz)(m:Machine):vS m.world.drawn (move p m):=by
 unfold move;dsimp only;repeat' split
 all_goals first|trivial|exact ak _|exact Ll p m|exact Ll p { m with rest:={ m.rest with slice:=none } }|skip
theorem R7{p:Tz}{m m':Machine}(h:step p m=.next m'):m.world.drawn<=m'.world.drawn:=by
 have k:=TB p m;unfold step stepT at h;split at h
 . rename_i m1 i e;rw[e] at k;have:=Si p m1 i true;rw[h] at this;exact aY k this
 . rename_i s ops e;rw[e] at k;dsimp only at h;rw[h] at k;exact k
theorem QU{p:Tz}{m m':Machine}(h:Steps p m m'):m.world.drawn<=m'.world.drawn:=by
 obtain⟨n,h⟩:=h;induction n generalizing m with
 |zero=>unfold runN at h;cases h;exact ak _
 |succ n ih=>
  unfold runN at h;split at h
  . exact aY (R7 (by assumption)) (ih h)
  . rename_i e;exact absurd h (by first|exact e _|exact fun h=>e _ h)
theorem RO{P:Tz}{f:qe}{args:Array X3}{w:my}{R:Ending->my->Prop}(h:Calls P f args w R):Calls P f args w fun e w'=>R e w'/\∀v,e=.returned v->w.drawn<=w'.drawn:=fun cs=>by
 obtain⟨e,w',fr,h1,h2,h3⟩:=h cs;refine⟨e,w',fr,⟨h1,fun v hv=>?_⟩,h2,h3⟩;subst hv;exact QU h2
end Go.Proofs.Fl
namespace Go.Proofs.Fl
open Go.RowKit
theorem TP{w w':my}(h:Below w.heap.size w w')(hd:w.drawn<=w'.drawn):∃q os,w'=Go.Sort.grow (w.drewN q) os:=by
 refine⟨w'.drawn-w.drawn,w'.heap.extract w.heap.size w'.heap.size,?_⟩;obtain⟨h1,h2,h3,h4,h5⟩:=h;cases w with
 |mk hp tp dr os out=>
 cases w' with
 |mk hp' tp' dr' os' out'=>
 simp only at h1 h2 h3 h4 h5 hd ⊢;subst h1 h2 h3;unfold Go.Sort.grow World.drewN;simp only;congr 1
 . apply Array.ext_getElem?;intro i;rcases fx i hp.size with hi|hi
   . rw[Array.getElem?_append_left hi,h5 i hi]
   . rw[Array.getElem?_append_right hi,Array.getElem?_extract];split
     . congr 1;omega
     . rename_i hh;exact tP (by omega)
 . omega
theorem PZ{P:Tz}{I:my->Prop}{f:qe}{xs:List IV}{k:IntKind}{n:Int}(h:a7 P I f xs (.int k n)){H:ah}{w:my}{args:List X3}(hI:I w)(hH:HeapHas w H)(ha:VRL H args xs) :
 Calls P f args.toArray w fun e w'=>e=.returned (.int k n)/\∃q os,w'=Go.Sort.grow (w.drewN q) os :=
 (RO (h.2 H w args hI hH ha)).mono fun e w' ⟨⟨v,H',he,h1,h2,h3,h4⟩,h5⟩=>by
   cases h3;exact⟨he,TP h4 (h5 _ he)⟩
end Go.Proofs.Fl
namespace Go.Proofs.En
open Go.RowKit Go.Proofs.Fl
inductive PT(α:Type) where
 |nil
 |node (l:PT α) (v:Option α) (r:PT α)
 deriving Inhabited
def PT.get{α:Type}:PT α->Nat->Option α
 | .nil,_=>none
 | .node l v r,n=>bif Nat.beq n 0 then v else bif Nat.beq (n%2) 1 then l.get (n/2) else r.get (n/2-1)
def PT.force{α:Type}{U:Sort _}(t:PT α)(k:PT α->U):U:=match t with
 | .nil=>k .nil
 | .node l v r=>k (.node l v r)
theorem oa{α:Type}{U:Sort _}(t:PT α)(k:PT α->U):t.force k=k t:=by cases t<;>rfl
def jx{α:Type}:Nat->PT α->Nat->α->PT α
 |0,t,_,_=>t
 |f+1,.nil,n,a=>bif Nat.beq n 0 then .node .nil (some a) .nil else bif Nat.beq (n%2) 1 then(jx f .nil (n/2) a).force fun x=>.node x none .nil else(jx f .nil (n/2-1) a).force fun x=>.node .nil none x
 |f+1,.node l v r,n,a=>bif Nat.beq n 0 then .node l (some a) r else bif Nat.beq (n%2) 1 then(jx f l (n/2) a).force fun x=>.node x v r else(jx f r (n/2-1) a).force fun x=>.node l v x
def PT.set{α:Type}(t:PT α)(n:Nat)(a:α):PT α:=jx (n+1) t n a
theorem ed{a b:Nat}(h:a≠b):Nat.beq a b=false:=by
 cases hb:Nat.beq a b
 . rfl
 . exact absurd (av hb) h
theorem OY{α:Type}(a:α):∀(f:Nat) (t:PT α) (n m:Nat),n<f->(jx f t n a).get m=if m=n then some a else t.get m:=by
 intro f;induction f with
 |zero=>intro t n m h;omega
 |succ f ih=>
  intro t n m h;have step:∀(l:PT α) (v:Option α) (r:PT α),(bif Nat.beq n 0 then PT.node l (some a) r else bif Nat.beq (n%2) 1 then .node (jx f l (n/2) a) v r else .node l v (jx f r (n/2-1) a)).get m=if m=n then some a else(PT.node l v r).get m:=by
   intro l v r;by_cases hn:n=0
   . subst hn;simp only[bh,af,PT.get];by_cases hm:m=0
     . subst hm;simp
     . rw[ed hm,am hm];rfl
   . rw[ed hn,aX];by_cases ho:n%2=1
     . rw[ho,bh,af];simp only[PT.get];by_cases hm:m=0
       . subst hm;rw[am (by omega)];simp
       . rw[ed hm,aX];by_cases hmo:m%2=1
         . rw[hmo,bh,af,ih _ _ _ (by omega)];by_cases e:m=n
           . rw[ay e,ay (by rw[e])]
           . rw[am e,am (by omega)];simp[ed hm]
         . rw[ed hmo,aX,am (by omega)];simp[ed hm]
     . rw[ed ho,aX];simp only[PT.get];by_cases hm:m=0
       . subst hm;rw[am (by omega)];simp
       . rw[ed hm,aX];by_cases hmo:m%2=1
         . rw[hmo,bh,af,am (by omega)];simp[ed hm]
         . rw[ed hmo,aX,ih _ _ _ (by omega)];by_cases e:m=n
           . rw[ay e,ay (by rw[e])]
           . rw[am e,am (by omega)];simp[ed hm]
  cases t with
  |node l v r=>
   rw[<-step l v r];simp only[jx,oa]
  |nil=>
   have:=step .nil none .nil;rw[show jx (f+1) .nil n a=(bif Nat.beq n 0 then PT.node .nil (some a) .nil else bif Nat.beq (n%2) 1 then .node (jx f .nil (n/2) a) none .nil else .node .nil none (jx f .nil (n/2-1) a)) by simp only[jx,oa],this];have:(PT.node (.nil:PT α) none .nil).get m=none:=by
    unfold PT.get;cases Nat.beq m 0
    . cases Nat.beq (m%2) 1<;>rfl
    . rfl
   rw[this];rfl
theorem na{α:Type}(t:PT α)(n:Nat)(a:α)(m:Nat):(t.set n a).get m=if m=n then some a else t.get m:=OY a _ t n m (by omega)
structure QS where
 qv:Int->Nat->IV
 qn:Nat
 ok:∀n d,∃cs,qv n d=.agg cs/\cs.length=qn
inductive Cap where
 |ex (c:Nat)
 |fin (sz:Nat)
 deriving Inhabited
inductive EV where
 |iv (x:IV)
 |qc (n:Int) (d j:Nat)
 |ptr (g u off:Nat)
 |slc (g u off n:Nat) (cap:Cap)
 |clo (f:qe) (gs:List Nat)
 |yld (g:Nat)
 |mp (g:Nat)
 |dp (x:IV) (off:Nat)
 deriving Inhabited
inductive EW where
 |one (c:EV)
 |agg (cs:List EV)
 |q (n:Int) (d:Nat)
 deriving Inhabited
inductive ES where
 |unk
 |und
 |w (x:EW)
 |tup (xs:List EW)
 deriving Inhabited
inductive EO where
 |mem (e:me) (cs:List EV) (fz:Bool) (vs:List (Nat×Nat)) (cnt:Nat)
 |map (es:List (EW×EW×Nat)) (clock:Nat)
 |loop (busy:Bool) (nt:Nat) (tm:PT ES) (ps:List Nat) (assign body:X5)
 |iter (gm since:Nat) (seen:List Nat) (last:Nat) (cur:Option Nat)
 |hid
 deriving Inhabited
def EO.cnt:EO->Nat
 | .mem _ _ _ _ n=>n
 |_=>1
abbrev Bm:=Nat->Nat->Option (Nat×Nat)
def BLe(U U':Bm):Prop:=∀g u k,U g u=some k->U' g u=some k
theorem BLe.refl(U:Bm):BLe U U:=fun _ _ _ h=>h
theorem BLe.trans{a b c:Bm}(h:BLe a b)(k:BLe b c):BLe a c:=fun g u x e=>k g u x (h g u x e)
def lw(U:Bm)(g u:Nat)(k:Nat×Nat):Bm:=fun g' u'=>if g'=g/\u'=u then some k else U g' u'
theorem fg(U:Bm)(g u:Nat)(k:Nat×Nat):lw U g u k g u=some k:=by simp[lw]
theorem jT(U:Bm)(g u:Nat)(k:Nat×Nat){g' u':Nat}(h:¬(g'=g/\u'=u)):lw U g u k g' u'=U g' u':=by unfold lw;rw[am h]
theorem jV{U:Bm}{g u:Nat}{k:Nat×Nat}(h:U g u=none):BLe U (lw U g u k):=fun g' u' x e=>by
 by_cases e0:g'=g/\u'=u
 . rw[e0.1,e0.2,h] at e;cases e
 . rw[jT _ _ _ _ e0];exact e
def Wu:Cap->Nat->Nat->Nat->Prop
 | .ex c',_,c,_=>c=c'
 | .fin sz,off,c,size=>off+c*sz=size
def ii(U:Bm)(g:Nat):X3:=match U g 0 with
 |some k=>.pointer (some ⟨k.1,0,none⟩)
 |none=>undef
section
variable (Z:QS)(H:ah)(U:Bm)
def CR(v:X3):EV->Prop
 | .iv x=>v.oneCell'=true/\VR H v x
 | .qc n d j=>v.oneCell'=true/\∃x,(Z.qv n d).cells[j]?=some x/\VR H v x
 | .ptr g u off=>∃k,U g u=some k/\v=.pointer (some ⟨k.1,off,none⟩)
 | .slc g u off n cap=>∃k c,U g u=some k/\v=.slice (some ⟨k.1,off,none⟩) n c/\n<=c/\Wu cap off c k.2
 | .clo f gs=>(∀g∈gs,∃k,U g 0=some k)/\v=.func (.func f) #[] (gs.map (ii U)).toArray
 | .yld g=>∃k,U g 0=some k/\v=.func (.yield k.1) #[] #[]
 | .mp g=>∃k,U g 0=some k/\v=.map (some k.1)
 | .dp x off=>∃b base u arr,v=.pointer (some ⟨b,base+off,none⟩)/\H b=some arr/\VR H u x/\(arr.toList.drop base).take u.cells.size=u.cells.toList
def CRL:List X3->List EV->Prop
 | [],[]=>True
 |v::vs,x::xs=>CR Z H U v x/\CRL vs xs
 |_,_=>False
def WR(v:X3):EW->Prop
 | .one c=>CR Z H U v c
 | .agg cs=>∃vs:List X3,v=.agg vs.toArray/\CRL Z H U vs cs
 | .q n d=>VR H v (Z.qv n d)
def WRL:List X3->List EW->Prop
 | [],[]=>True
 |v::vs,x::xs=>WR Z H U v x/\WRL vs xs
 |_,_=>False
def SRe(v:X3):ES->Prop
 | .unk=>True
 | .und=>v=undef
 | .w x=>WR Z H U v x
 | .tup xs=>∃vs:List X3,v=.tuple vs.toArray/\WRL Z H U vs xs
end
section
variable {Z:QS}{H H':ah}{U U':Bm}
theorem Qy(hb:BLe U U'){g:Nat}(h:∃k,U g 0=some k):ii U' g=ii U g:=by
 obtain⟨k,h⟩:=h;unfold ii;rw[h,hb _ _ _ h]
theorem CR.mono(hh:HLe H H')(hb:BLe U U'){v:X3}:∀{x:EV},CR Z H U v x->CR Z H' U' v x
 | .iv _,⟨h1,h2⟩=>⟨h1,h2.mono hh⟩
 | .qc _ _ _,⟨h1,x,h2,h3⟩=>⟨h1,x,h2,h3.mono hh⟩
 | .ptr _ _ _,⟨k,h1,h2⟩=>⟨k,hb _ _ _ h1,h2⟩
 | .slc _ _ _ _ _,⟨k,c,h1,h2,h3,h4⟩=>⟨k,c,hb _ _ _ h1,h2,h3,h4⟩
 | .clo f gs,⟨h1,h2⟩=>⟨fun g hg=>(h1 g hg).imp fun k hk=>hb _ _ _ hk,by
  rw[h2];congr 2;exact rq fun g hg=>(Qy hb (h1 g hg)).symm⟩
 | .yld _,⟨k,h1,h2⟩=>⟨k,hb _ _ _ h1,h2⟩
 | .mp _,⟨k,h1,h2⟩=>⟨k,hb _ _ _ h1,h2⟩
 | .dp _ _,⟨b,base,u,arr,h1,h2,h3,h4⟩=>⟨b,base,u,arr,h1,hh _ _ h2,h3.mono hh,h4⟩
theorem CR.one{v:X3}:∀{x:EV},CR Z H U v x->v.oneCell'=true
 | .iv _,h=>h.1
 | .qc _ _ _,h=>h.1
 | .ptr _ _ _,⟨_,_,h⟩=>by rw[h];rfl
 | .slc _ _ _ _ _,⟨_,_,_,h,_⟩=>by rw[h];rfl
 | .clo _ _,⟨_,h⟩=>by rw[h];rfl
 | .yld _,⟨_,_,h⟩=>by rw[h];rfl
 | .mp _,⟨_,_,h⟩=>by rw[h];rfl
 | .dp _ _,⟨_,_,_,_,h,_⟩=>by rw[h];rfl
theorem CRL.mono(hh:HLe H H')(hb:BLe U U'):∀{vs:List X3} {xs:List EV},CRL Z H U vs xs->CRL Z H' U' vs xs
 | [],[],_=>trivial
 |_::_,_::_,⟨h1,h2⟩=>⟨h1.mono hh hb,CRL.mono hh hb h2⟩
 | [],_::_,h=>h.elim
 |_::_,[],h=>h.elim
theorem CRL.length:∀{vs:List X3} {xs:List EV},CRL Z H U vs xs->vs.length=xs.length
 | [],[],_=>rfl
 |_::_,_::_,⟨_,h2⟩=>by simp[CRL.length h2]
 | [],_::_,h=>h.elim
 |_::_,[],h=>h.elim
theorem CRL.one:∀{vs:List X3} {xs:List EV},CRL Z H U vs xs->∀c∈vs,c.oneCell'=true
 | [],[],_,_,hc=>by simp at hc
 |_::_,_::_,⟨h1,h2⟩,c,hc=>(List.mem_cons.1 hc).elim (fun e=>by rw[e];exact h1.one) (CRL.one h2 c)
 | [],_::_,h,_,_=>h.elim
 |_::_,[],h,_,_=>h.elim
theorem CRL.get:∀{vs:List X3} {xs:List EV},CRL Z H U vs xs->∀(i:Nat) (x:EV),xs[i]?=some x->∃v,vs[i]?=some v/\CR Z H U v x
 | [],[],_,i,x,h=>by simp at h
 |v::_,_::_,⟨h1,_⟩,0,x,h=>by simp at h;subst h;exact⟨v,rfl,h1⟩
 |_::_,_::_,⟨_,h2⟩,i+1,x,h=>by simp at h;simpa using CRL.get h2 i x h
 | [],_::_,h,_,_,_=>h.elim
 |_::_,[],h,_,_,_=>h.elim
theorem CRL.drop:∀{vs:List X3} {xs:List EV} (n:Nat),CRL Z H U vs xs->CRL Z H U (vs.drop n) (xs.drop n)
 |_,_,0,h=>by simpa using h
 | [],[],n+1,_=>by simp[CRL]
 |_::_,_::_,n+1,⟨_,h2⟩=>by simpa using CRL.drop n h2
 | [],_::_,_+1,h=>h.elim
 |_::_,[],_+1,h=>h.elim
theorem CRL.take:∀{vs:List X3} {xs:List EV} (n:Nat),CRL Z H U vs xs->CRL Z H U (vs.take n) (xs.take n)
 |_,_,0,_=>by simp[CRL]
 | [],[],n+1,_=>by simp[CRL]
 |_::_,_::_,n+1,⟨h1,h2⟩=>by simpa using(show CRL Z H U (_::_) (_::_) from⟨h1,CRL.take n h2⟩)
 | [],_::_,_+1,h=>h.elim
 |_::_,[],_+1,h=>h.elim
theorem CRL.append:∀{vs:List X3} {xs:List EV} {us:List X3} {ys:List EV},CRL Z H U vs xs->CRL Z H U us ys->CRL Z H U (vs++us) (xs++ys)
 | [],[],_,_,_,h=>by simpa using h
 |_::_,_::_,_,_,⟨h1,h2⟩,h=>by simpa using(show CRL Z H U (_::_) (_::_) from⟨h1,CRL.append h2 h⟩)
 | [],_::_,_,_,h,_=>h.elim
 |_::_,[],_,_,h,_=>h.elim
theorem CRL.splice{vs us:List X3}{xs ys:List EV}(h:CRL Z H U vs xs)(k:CRL Z H U us ys)(off:Nat):CRL Z H U (splice vs off us) (splice xs off ys):=by
 unfold Fl.splice;rw[k.length];exact((h.take off).append k).append (h.drop _)
theorem PF{vs:List X3}{xs:List EV}(hl:vs.length=xs.length)(h:∀(i:Nat) (v:X3) (x:EV),vs[i]?=some v->xs[i]?=some x->CR Z H U v x):CRL Z H U vs xs:=by
 induction vs generalizing xs with
 |nil=>cases xs with
  |nil=>exact trivial
  |cons=>simp at hl
 |cons v vs ih=>cases xs with
  |nil=>simp at hl
  |cons x xs=>exact⟨h 0 v x rfl rfl,ih (by simpa using hl) (fun i v' x' h1 h2=>h (i+1) v' x' (by simpa using h1) (by simpa using h2))⟩
theorem BT:∀{vs:List X3} {xs:List IV},VRL H vs xs->(∀c∈vs,c.oneCell'=true)->CRL Z H U vs (xs.map .iv)
 |_,_,.nil,_=>trivial
 |_,_,.cons v x vs xs h t,h1=>⟨⟨h1 v (by simp),h⟩,BT t fun c hc=>h1 c (by simp[hc])⟩
theorem CRL.flatMap{α:Type}{f:α->List X3}{g:α->List EV}:∀{l:List α},(∀a∈l,CRL Z H U (f a) (g a))->CRL Z H U (l.flatMap f) (l.flatMap g)
 | [],_=>trivial
 |a::l,h=>by
  simp only[ch];exact(h a (by simp)).append (CRL.flatMap fun b hb=>h b (by simp[hb]))
def rc(r:Int)(d:Nat):Nat->Nat->List EV
 |_,0=>[]
 |j,n+1=>.qc r d j::rc r d (j+1) n
theorem KN{r:Int}{d:Nat}:∀{n j:Nat} {vs:List X3} {cs:List IV},VRL H vs cs->(∀c∈vs,c.oneCell'=true)->cs.length=n->(∀i x,cs[i]?=some x->(Z.qv r d).cells[j+i]?=some x)->CRL Z H U vs (rc r d j n)
 |0,_,_,_,.nil,_,_,_=>trivial
 |0,_,_,_,.cons ..,_,h,_=>by simp at h
 |n+1,_,_,_,.nil,_,h,_=>by simp at h
 |n+1,j,_,_,.cons v x vs xs h t,h1,hl,hx=>by
  refine⟨⟨h1 v (by simp),x,by simpa using hx 0 x rfl,h⟩,KN t (fun c hc=>h1 c (by simp[hc])) (by simpa using hl) fun i y hy=>?_⟩;have:=hx (i+1) y (by simpa using hy);rwa[show j+1+i=j+(i+1) by omega]
theorem RT{r:Int}{d:Nat}{v:X3}(h:VR H v (Z.qv r d)):CRL Z H U v.cells.toList (rc r d 0 Z.qn):=by
 obtain⟨cs,e,hl⟩:=Z.ok r d;rw[e] at h;obtain⟨vs,rfl,h1,h2⟩:=h.asAgg;refine KN (by simpa[Value.cells] using h1) (by simpa[Value.cells] using h2) hl fun i x hx=>?_;rw[e,aU];exact hx
theorem HW{r:Int}{d:Nat}{vs:List X3}(h:CRL Z H U vs (rc r d 0 Z.qn)):VR H (.agg vs.toArray) (Z.qv r d):=by
 obtain⟨cs,e,hl⟩:=Z.ok r d;have key:∀(n j:Nat) (vs:List X3),CRL Z H U vs (rc r d j n)->∀cs:List IV,cs.length=n->(∀i x,cs[i]?=some x->(Z.qv r d).cells[j+i]?=some x)->VRL H vs cs:=by
  intro n;induction n with
  |zero=>intro j vs h cs hl _;cases cs with
   |nil=>cases vs with
    |nil=>exact .nil
    |cons=>exact h.elim
   |cons=>simp at hl
  |succ n ih=>intro j vs h cs hl hx;cases cs with
   |nil=>simp at hl
   |cons x cs=>cases vs with
    |nil=>exact h.elim
    |cons v vs=>
     obtain⟨⟨_,y,hy,hv⟩,ht⟩:=h;have:(Z.qv r d).cells[j]?=some x:=by simpa using hx 0 x rfl
     rw[hy] at this;cases this;refine .cons _ _ _ _ hv (ih (j+1) vs ht cs (by simpa using hl) fun i z hz=>?_);have:=hx (i+1) z (by simpa using hz);rwa[show j+1+i=j+(i+1) by omega]
 rw[e];refine .agg _ _ (key Z.qn 0 vs h cs hl fun i x hx=>?_) h.one;rw[e,aU];exact hx
def EW.cells(Z:QS):EW->List EV
 | .one c=>[c]
 | .agg cs=>cs
 | .q r d=>rc r d 0 Z.qn
theorem CR.cells1{v:X3}{x:EV}(h:CR Z H U v x):v.cells = #[v]:=by
 have:=h.one;cases v<;>first|rfl|simp[Value.oneCell'] at this
theorem WR.cells{v:X3}{x:EW}(h:WR Z H U v x):CRL Z H U v.cells.toList (x.cells Z):=by
 cases x with
 |one c=>have h':CR Z H U v c:=h;rw[h'.cells1];exact⟨h',ab⟩
 |agg cs=>obtain⟨vs,rfl,h⟩:=h;simpa[Value.cells,EW.cells] using h
 |q r d=>exact RT h
theorem WR.size{v:X3}{x:EW}(h:WR Z H U v x):v.cells.size=(x.cells Z).length:=by
 have:=h.cells.length;simpa using this
def mP(r:Int)(d:Nat):Nat->List EV->Nat->Bool
 |_,[],0=>true
 |j,.qc r' d' k::l,n+1=>decide (r'=r)&&Nat.beq d' d&&Nat.beq k j&&mP r d (j+1) l n
 |_,_,_=>false
theorem Ih{r:Int}{d:Nat}:∀{n j:Nat} {l:List EV},mP r d j l n=true->l=rc r d j n
 |0,_,[],_=>rfl
 |0,_,_::_,h=>by simp[mP] at h
 |n+1,j,[],h=>by simp[mP] at h
 |n+1,j,x::l,h=>by
  cases x with
  |qc r' d' k=>
   simp only[mP,az,dL] at h;obtain⟨⟨⟨h1,h0⟩,h2⟩,h3⟩:=h;rw[h1,av h0,av h2,Ih h3];rfl
  |_=>simp[mP] at h
def qJ(Z:QS)(cs:List EV):EW :=
 match cs with
 | .qc r d 0::_=>bif mP r d 0 cs Z.qn then .q r d else .agg cs
 |_=>.agg cs
theorem B6{vs:List X3}{cs:List EV}(h:CRL Z H U vs cs):WR Z H U (.agg vs.toArray) (qJ Z cs):=by
 unfold qJ;split
 . rename_i r d l;cases hq:mP r d 0 (.qc r d 0::l) Z.qn with
   |true=>rw[Ih hq] at h;exact HW h
   |false=>exact⟨vs,rfl,h⟩
 . exact⟨vs,rfl,h⟩
theorem WR.mono(hh:HLe H H')(hb:BLe U U'){v:X3}{x:EW}(h:WR Z H U v x):WR Z H' U' v x:=by
 cases x with
 |one c=>exact CR.mono hh hb h
 |agg cs=>obtain⟨vs,e,h⟩:=h;exact⟨vs,e,h.mono hh hb⟩
 |q r d=>exact VR.mono hh h
theorem WRL.mono(hh:HLe H H')(hb:BLe U U'):∀{vs:List X3} {xs:List EW},WRL Z H U vs xs->WRL Z H' U' vs xs
 | [],[],_=>trivial
 |_::_,_::_,⟨h1,h2⟩=>⟨h1.mono hh hb,WRL.mono hh hb h2⟩
 | [],_::_,h=>h.elim
 |_::_,[],h=>h.elim
theorem WRL.get:∀{vs:List X3} {xs:List EW},WRL Z H U vs xs->∀(i:Nat) (x:EW),xs[i]?=some x->∃v,vs[i]?=some v/\WR Z H U v x
 | [],[],_,i,x,h=>by simp at h
 |v::_,_::_,⟨h1,_⟩,0,x,h=>by simp at h;subst h;exact⟨v,rfl,h1⟩
 |_::_,_::_,⟨_,h2⟩,i+1,x,h=>by simp at h;simpa using WRL.get h2 i x h
 | [],_::_,h,_,_,_=>h.elim
 |_::_,[],h,_,_,_=>h.elim
theorem SRe.mono(hh:HLe H H')(hb:BLe U U'){v:X3}{s:ES}(h:SRe Z H U v s):SRe Z H' U' v s:=by
 cases s with
 |unk=>trivial
 |und=>exact h
 |w x=>exact WR.mono hh hb h
 |tup xs=>obtain⟨vs,e,h⟩:=h;exact⟨vs,e,h.mono hh hb⟩
end
end Go.Proofs.En
