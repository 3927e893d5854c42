/-
  For every list of rules, every number of variables and every level the statement RegionSparse holds: the sparse rule is the reference's, or the error is.
-/
import Derived.Test.YtmkieokpghpjiaaGreatDoorS2
import Derived.Shelf.Strings.BuilderK
import Derived.Shelf.Strings.Builder1
import Derived.Shelf.Strings.Builder2
import Derived.Shelf.Small.Bits
import Derived.Shelf.Small.Wraps
import Derived.Shelf.Strings.BuilderF
import Derived.Shelf.Strings.Builder2Cap
import Derived.Shelf.Strconv.Itoa0
import Derived.Shelf.Strconv.Itoa1
import Derived.Shelf.LaysM
import Derived.Shelf.Strconv.Itoa2
import Derived.Shelf.Strconv.Itoa3
import Derived.Shelf.Strings.Prefix
import Derived.Shelf.Bits.Mul64
import Derived.Shelf.Strings.Repeat
import Derived.Shelf.Strings.BuilderCap
import Derived.Ground.Names2Prog
import Derived.Shelf.Slices.Clone
import Derived.Shelf.Slices.SearchI
import Derived.Ground.SlgnProg
import Derived.Shelf.SlicesE.Clone
import Derived.Test.YtmkieokpghpjiaaGreatDoorProg
import Derived.Shelf.Strings.SlTrimAscii
import Derived.Calls
import Derived.Sort.Grow
import Derived.Deep.Draws
import Derived.Maps.Keyed
set_option maxHeartbeats 4000000
set_option maxRecDepth 100000
set_option linter.all false
namespace Go.Proofs
open Go
abbrev Ba:=@Option.some.inj
abbrev Bb:=@Array.getElem?_modify
abbrev Bc:=@Go.Lib.cell_of_heap
abbrev Be:=@Go.Lib.byteCells_length
abbrev F3:=@Int.mul_assoc
abbrev F4:=@List.map_take
abbrev F5:=@Int.mul_one
abbrev F6:=@Go.Lib.strCells_length
abbrev F7:=@Int.pow_mul
abbrev Ob:=@Int.natCast_add
abbrev Oc:=@Int.sign_mul_natAbs
abbrev Od:=@List.reverse_cons
abbrev Oe:=@List.reverse_append
abbrev Of:=@List.dropWhile_cons
abbrev Og:=@Rat.divInt_ofNat
abbrev cN:=@List.take_length
abbrev cO:=@List.flatMap_cons
abbrev iY:=@List.length_reverse
abbrev lJ:=@Int.one_mul
abbrev mS:=@Int.pow_succ
abbrev qK:=@Bool.true_and
abbrev uS:=@Nat.sub_zero
abbrev uT:=@Nat.lt_succ_self
abbrev uU:=@Nat.le_succ
abbrev xG:=@Int.mul_add
abbrev xH:=@Nat.div_div_eq_div_mul
abbrev xI:=@beq_eq_false_iff_ne
end Go.Proofs
namespace Go.Proofs.Fl
open Go.RowKit Go.Proofs.Dig
attribute [local irreducible] IntKind.wrap aW bc bj bm
abbrev ar:Nat:=32768
def hv(l:List Nat):Nat:=nv ar l.reverse
def Hk(l:List Nat):Prop:=Ok ar l.reverse
def Bs{l m:List Nat}(hl:Hk l)(hm:Hk m)(h:l.length<m.length):hv l<hv m :=
 Bq (by decide) hl.dg hm.nm (by simpa using h)
def LU{l m:List Nat}{i:Nat}(hl:Hk l)(he:l.length=m.length)(hi:i<l.length)(ht:l.take i=m.take i)(hd:l.getD i 0<m.getD i 0):hv l<hv m:=by
 have e1:l.reverse=(l.drop (i+1)).reverse++l.getD i 0::(l.take i).reverse:=by
  have:l=l.take i++l.getD i 0::l.drop (i+1):=by
   rw[cn,bi hi];simp
  rw[show l.reverse=(l.take i++l.getD i 0::l.drop (i+1)).reverse by rw[<-this]];simp
 have e2:m.reverse=(m.drop (i+1)).reverse++m.getD i 0::(l.take i).reverse:=by
  have:m=m.take i++m.getD i 0::m.drop (i+1):=by
   rw[cn,bi (show i<m.length by omega)];simp
  rw[ht,show m.reverse=(m.take i++m.getD i 0::m.drop (i+1)).reverse by rw[<-this]];simp
 unfold hv;rw[e1,e2];refine B3 ?_ (by simp;omega) hd;have:=hl.dg;rw[e1] at this;exact this.left
def UO(J:Keep){l m:List Nat}(hl:Hk l)(hm:Hk m)(hs:l.length<2^60):C J 206 [.sl (l.map aj),.sl (m.map aj)] (.int .i64 (a7 (hv l:Nat) (hv m:Nat))):=by
 have la:(l.map aj).length=l.length:=by simp
 have lb:(m.map aj).length=m.length:=by simp
 refine aN Tryz.func206 rfl rfl rfl ?_;by_cases h:l.length=m.length
 .
  refine aK ?_;refine W.loop (G:={ i:Nat // i<=l.length/\l.take i=m.take i }) (fun i=>aF [(0,.iv (.sl (l.map aj))),(1,.iv (.sl (m.map aj))),(5,.iv (.int .i64 (i.1:Int)))] [] 10) (fun i=>l.length-i.1) ⟨0,by omega,by simp⟩
   (Wk.tab [] ⟨ab,ab,ab,aa⟩ trivial rfl) ?_
  rintro⟨i,hi,he⟩;show W J _ _ (aF [(0,.iv (.sl (l.map aj))),(1,.iv (.sl (m.map aj))),(5,.iv (.int .i64 (i:Int)))] [] 10) _;by_cases h2:i<l.length
  .
   rcases Nat.lt_trichotomy (l.getD i 0) (m.getD i 0) with h3|h3|h3
   . have hlt:=LU hl h h2 he h3;repeat (first|(refine af ?_)|(refine⟨i,_,rfl,kq,rfl,?_⟩;conv=>whnf)|(refine ap ?_))
     rw[vj];rfl
   .
    repeat (first|(refine af ?_)|(refine⟨i,_,rfl,kq,rfl,?_⟩;conv=>whnf)|(refine ap ?_))
    refine⟨⟨i+1,by omega,?_⟩,Wk.tab [] ⟨ab,ab,ab,aa⟩ trivial rfl,?_⟩
    . rw[dO,dO,he];rw[cn,cn,bi h2,bi (show i<m.length by omega)] at h3;rw[bi h2,bi (show i<m.length by omega)];simp only[Option.getD_some] at h3;rw[h3]
    show l.length-(i+1)<l.length-i;omega
   have hlt:=LU hm h.symm (by omega) he.symm h3;repeat (first|(refine af ?_)|(refine⟨i,_,rfl,kq,rfl,?_⟩;conv=>whnf)|(refine ap ?_))
   rw[vk];rfl
  have e:l=m:=by
   have hil:i=l.length:=by omega
   rw[hil,ay (ah _),ay (by omega)] at he;exact he
  refine aK ?_;rw[e,HG rfl];rfl
 by_cases h2:l.length<m.length
 . have:=Bs hl hm h2;refine aK ?_;rw[vj];rfl
 have:=Bs hm hl (by omega);refine aK ?_;rw[vk];rfl
def EK(n:Nat):∃l,Ok ar l/\nv ar l=n:=by
 induction n using Nat.strongRecOn with
 |_ n ih=>
  by_cases h:n=0
  . exact⟨[],Ok.nil _,by rw[h];rfl⟩
  obtain⟨l,h1,h2⟩:=ih (n/ar) (FO (by omega) (by decide));refine⟨n%ar::l,⟨?_,?_⟩,?_⟩
  . intro d hd;rcases List.mem_cons.1 hd with rfl|hd
    . exact ib _ (by decide)
    exact h1.dg d hd
  .
   intro d hd;cases l with
   |nil=>
    simp at hd;subst hd;have:n/ar=0:=h2.symm;have h5:=oH n ar;rw[this] at h5;omega
   |cons x l=>exact h1.nm d (by rwa[N2] at hd)
  rw[jb,h2,Nat.mod_add_div]
noncomputable def dh(n:Nat):List Nat:=(EK n).choose.reverse
def fM(n:Nat):Hk (dh n):=by unfold Hk dh;rw[qI];exact(EK n).choose_spec.1
def eF(n:Nat):hv (dh n)=n:=by unfold hv dh;rw[qI];exact(EK n).choose_spec.2
def Ak{l:List Nat}(h:Hk l){n:Nat}(e:hv l=n):l=dh n:=by
 have:=Ea (by decide) h (fM n) (by show hv l=hv (dh n);rw[e,eF]);exact List.reverse_inj.1 this
def HR(l:List Nat):(l.dropWhile (· == 0)).reverse=strip l.reverse:=by
 unfold strip;rw[qI]
def CT{l:List Nat}(h:Dg ar l.reverse){n:Nat}(e:hv l=n):l.dropWhile (· == 0)=dh n:=by
 refine Ak ?_ ?_
 . unfold Hk;rw[HR];exact Ok.strip h
 unfold hv at *;rw[HR,I3];exact e
def na:dh 0=[]:=(Ak (l:=[]) (Ok.nil _) rfl).symm
def zV{n:Nat}(h:dh n=[]):n=0:=by have:=eF n;rw[h] at this;exact this.symm
noncomputable abbrev zh(z:Int):IV:=.agg [.int .i64 z.sign,.sl ((dh z.natAbs).map aj)]
def tt(J:Keep){l:List Nat}{s:Int}(hs:s=1\/s = -1\/hv l=0)(hd:Dg ar l.reverse)(hl:l.length<2^60:=by simp):C J 147 [.int .i64 s,.sl (l.map aj)] (zh (s*(hv l:Nat))):=by
 refine aN Tryz.func147 rfl rfl rfl ?_;have c1:=Dx J hl;rw[CT hd rfl] at c1;have le:((dh (hv l)).map aj).length=(dh (hv l)).length:=by simp
 by_cases h0:hv l=0
 . rw[h0,na] at c1;repeat (first|(refine af ?_)|(refine⟨_,c1,?_⟩;conv=>whnf)|(refine ap ?_))
   rw[h0,show s*((0:Nat):Int)=0 by simp,show zh 0=.agg [.int .i64 0,.sl ((dh 0).map aj)] from rfl,na];rfl
 have h1:(dh (hv l)).length≠0:=fun e=>h0 (zV (ss e));repeat (first|(refine af ?_)|(refine⟨_,c1,?_⟩;conv=>whnf)|(refine ap ?_))
 have e1:(s*(hv l:Nat)).sign=s:=by
  rcases hs with rfl|rfl|h
  . rw[lJ,jQ (by omega)]
  . rw[lG,lJ,lH (by omega)]
  exact absurd h h0
 have e2:(s*(hv l:Nat)).natAbs=hv l:=by
  rcases hs with rfl|rfl|h
  . omega
  . omega
  exact absurd h h0
 rw[zh,e1,e2];rfl
def pD(z:Int):z.sign = -1\/z.sign=0\/z.sign=1:=by
 rcases uR z 0 with h|h|h
 . exact .inl (lH h)
 . right;left;rw[h];rfl
 exact .inr (.inr (jQ h))
def y9(J:Keep)(z:Int):C J 84 [zh z] (zh (-z)):=by
 refine aN Tryz.func84 rfl rfl rfl ?_;have h:=pD z;have hw:IntKind.wrap .i64 (0-z.sign) = -z.sign:=by rw[cZ];omega
 repeat (first|(refine af ?_)|(refine⟨_,hw,?_⟩;conv=>whnf))
 rw[zh,Int.sign_neg,xD];rfl
def Tf{O:List Nat}{i x:Nat}(h:i<O.length):O.reverse.set (O.length-1-i) x=(O.set i x).reverse:=by
 apply qE;intro j;simp only[AU,iY];by_cases hj:j<O.length
 .
  rw[A9 (by simpa using hj),A9 (by simpa using hj)];simp only[du,AU];by_cases e:i=O.length-1-j
  . have e2:O.length-1-i=j:=by omega
    rw[au e2,au e,au (show O.length-1-i<O.length by omega),au h]
  have e2:¬O.length-1-i=j:=by omega
  rw[aq e2,aq e]
 rw[sq (by simp;omega),sq (by simp;omega)];have:¬O.length-1-i=j:=by omega
 simp[this]
def tI{A M O:List Nat}{i x:Nat}{k c c':Int}(hi:i<O.length)(hs:(nv ar (O.take i):Int)+(ar:Int)^i*c=(nv ar (A.take i):Int)+k*(nv ar (M.take i):Int))
 (hx:(A.getD i 0:Int)+k*(M.getD i 0:Int)+c=(x:Int)+32768*c':=by omega) :
 (nv ar ((O.set i x).take (i+1)):Int)+(ar:Int)^(i+1)*c'=(nv ar (A.take (i+1)):Int)+k*(nv ar (M.take (i+1)):Int):=by
 have g:∀l:List Nat,nv ar (l.take (i+1))=nv ar (l.take i)+ar^i*l.getD i 0:=fun l=>by
  by_cases h:i<l.length
  . rw[Bp ar l i h,cn,bi h];rfl
  have e:l.getD i 0=0:=by simp[Nat.not_lt.1 h]
  rw[e,ay (show l.length<=i+1 by omega),ay (Nat.not_lt.1 h)];exact(fF _).symm
 have hl:(O.take i).length=i:=by rw[bG];omega
 rw[qL hi,m6,hl,g A,g M];simp only[Ob,kB,Int.natCast_pow];rw[mS];have e1:((ar:Nat):Int)^i*((A.getD i 0:Int)+k*(M.getD i 0:Int)+c)=((ar:Nat):Int)^i*((x:Int)+32768*c'):=by rw[hx]
 have e2:((ar:Nat):Int)=32768:=rfl;rw[e2] at *;generalize ((32768:Int)^i)=p at *;rw[xG,xG,xG] at e1;rw[xG,Int.mul_left_comm k,F3];omega
def qg{O:List Nat}{i j x:Nat}{y:Int}(h:i<O.length:=by omega)(hj:j=O.length-1-i:=by omega)(hy:y=(x:Int):=by omega):some (Bx.arr 3 1 ((O.reverse.map aj).set j (.int .i64 y)) false)=some (Bx.arr 3 1 ((O.set i x).reverse.map aj) false):=by
 rw[hj,hy,<-Tf h,List.map_set];rfl
def Xq{a b:List IV}(h:a=b):some (Bx.arr 3 1 a false)=some (Bx.arr 3 1 b false):=by rw[h]
def KP(J:Keep){l m:List Nat}{k:Int}(hk:k=1\/k = -1)(hl:Dg ar l.reverse)(hm:Dg ar m.reverse)(hs:l.length<2^40)(hs2:m.length<2^40)(hle:0<=(hv l:Int)+k*(hv m:Int)) :
 C J 205 [.sl (l.map aj),.sl (m.map aj),.int .i64 k] (.sl ((dh ((hv l:Int)+k*(hv m:Int)).toNat).map aj)):=by
 obtain⟨N,hN⟩:∃N,N=max l.length m.length+1:=⟨_,rfl⟩;have c1:=UH J l m;obtain⟨N',hN'⟩:∃N',max l.length m.length=N':=⟨_,rfl⟩;rw[hN'] at c1;refine aN Tryz.func205 rfl rfl rfl ?_;repeat (first|(refine af ?_)|((first|refine⟨_,c1,?_⟩|refine⟨rfl,N,by omega,?_⟩);conv=>whnf)|(refine⟨by show 8*_<=(281474976710656:Nat);omega,by unfold maxLen;omega,?_⟩;conv=>whnf)|(refine cy ?_;conv=>whnf))
 refine W.loop (G:={ p:Nat×Int×List Nat // p.1<=N/\ -1<=p.2.1/\p.2.1<=1/\p.2.2.length=N/\Dg ar p.2.2/\(nv ar (p.2.2.take p.1):Int)+(ar:Int)^p.1*p.2.1=(nv ar (l.reverse.take p.1):Int)+k*(nv ar (m.reverse.take p.1):Int) })
  (fun p=>aF [(0,.iv (.sl (l.map aj))),(1,.iv (.sl (m.map aj))),(2,.iv (.int .i64 (k))),(7,.iv (.int .i64 (N:Int))),(8,.ref 0 0 N true),(9,.iv (.int .i64 p.1.2.1)),(10,.iv (.int .i64 (p.1.1:Int)))]
    [(0,.arr 3 1 ((p.1.2.2).reverse.map aj) false)] 30) (fun p=>N-p.1.1)
  ⟨(0,0,List.replicate N 0),by simp,by simp,by simp,by simp,Dg.replicate (by decide) _,by simp[nv]⟩
  (Wk.tab [(0,7)] ⟨ab,ab,ab,⟨df,rfl⟩,⟨rK,rfl⟩,ab,ab,aa⟩ ⟨Xq ?_,aa⟩ rfl) ?_
 . rw[List.reverse_replicate,xw];rfl
 rintro⟨⟨i,c,O⟩,hi,hc1,hc2,hO,hd,hs⟩;dsimp only at hi hc1 hc2 hO hd hs;show W J _ _ (aF [(0,.iv (.sl (l.map aj))),(1,.iv (.sl (m.map aj))),(2,.iv (.int .i64 (k))),(7,.iv (.int .i64 (N:Int))),(8,.ref 0 0 N true),(9,.iv (.int .i64 c)),(10,.iv (.int .i64 (i:Int)))]
  [(0,.arr 3 1 ((O).reverse.map aj) false)] 30) _
 have lO:(O.reverse.map aj).length=O.length:=by simp
 have hs1:l.length<2^60:=by omega
 have hs3:m.length<2^60:=by omega
 have hx:l.reverse.getD i 0<32768:=hl.getD (by decide) i;have hy:m.reverse.getD i 0<32768:=hm.getD (by decide) i;by_cases h:i<N
 .
  rcases hk with rfl|rfl
  .
   by_cases h1:32768<=(l.reverse.getD i 0:Int)+m.reverse.getD i 0+c
   . have hp:=tI (x:=((l.reverse.getD i 0:Int)+m.reverse.getD i 0+c-32768).toNat) (c':=1) (k:=1) (show i<O.length by omega) hs;repeat (first|(refine af ?_)|((first|refine⟨_,jW J (l:=l) (i:=i) hs1,?_⟩|refine⟨_,jW J (l:=m) (i:=i) hs3,?_⟩|refine⟨(rfl:(_:Nat)=_),N-1-i,by omega,by omega,?_⟩);conv=>whnf)|(refine⟨bR,_,kq (by rw[iY];omega),?_⟩;conv=>whnf)|(refine ap ?_))
     exact⟨⟨(i+1,1,O.set i ((l.reverse.getD i 0:Int)+m.reverse.getD i 0+c-32768).toNat),by dsimp only;omega,by dsimp only;omega,by dsimp only;omega,by dsimp only;rw[du];exact hO,hd.set (by simp only[ar];omega),hp⟩,
      Wk.tab [] ⟨ab,ab,ab,ab,ab,ab,ab,aa⟩ ⟨qg,aa⟩ rfl,by dsimp only;omega⟩
   by_cases h2:(l.reverse.getD i 0:Int)+m.reverse.getD i 0+c<0
   . have hp:=tI (x:=((l.reverse.getD i 0:Int)+m.reverse.getD i 0+c+32768).toNat) (c':=(-1)) (k:=1) (show i<O.length by omega) hs;repeat (first|(refine af ?_)|((first|refine⟨_,jW J (l:=l) (i:=i) hs1,?_⟩|refine⟨_,jW J (l:=m) (i:=i) hs3,?_⟩|refine⟨(rfl:(_:Nat)=_),N-1-i,by omega,by omega,?_⟩);conv=>whnf)|(refine⟨bR,_,kq (by rw[iY];omega),?_⟩;conv=>whnf)|(refine ap ?_))
     exact⟨⟨(i+1,(-1),O.set i ((l.reverse.getD i 0:Int)+m.reverse.getD i 0+c+32768).toNat),by dsimp only;omega,by dsimp only;omega,by dsimp only;omega,by dsimp only;rw[du];exact hO,hd.set (by simp only[ar];omega),hp⟩,
      Wk.tab [] ⟨ab,ab,ab,ab,ab,ab,ab,aa⟩ ⟨qg,aa⟩ rfl,by dsimp only;omega⟩
   have hp:=tI (x:=((l.reverse.getD i 0:Int)+m.reverse.getD i 0+c).toNat) (c':=0) (k:=1) (show i<O.length by omega) hs;repeat (first|(refine af ?_)|((first|refine⟨_,jW J (l:=l) (i:=i) hs1,?_⟩|refine⟨_,jW J (l:=m) (i:=i) hs3,?_⟩|refine⟨(rfl:(_:Nat)=_),N-1-i,by omega,by omega,?_⟩);conv=>whnf)|(refine⟨bR,_,kq (by rw[iY];omega),?_⟩;conv=>whnf)|(refine ap ?_))
   exact⟨⟨(i+1,0,O.set i ((l.reverse.getD i 0:Int)+m.reverse.getD i 0+c).toNat),by dsimp only;omega,by dsimp only;omega,by dsimp only;omega,by dsimp only;rw[du];exact hO,hd.set (by simp only[ar];omega),hp⟩,
    Wk.tab [] ⟨ab,ab,ab,ab,ab,ab,ab,aa⟩ ⟨qg,aa⟩ rfl,by dsimp only;omega⟩
  by_cases h1:32768<=(l.reverse.getD i 0:Int)-m.reverse.getD i 0+c
  . have hp:=tI (x:=((l.reverse.getD i 0:Int)-m.reverse.getD i 0+c-32768).toNat) (c':=1) (k:=(-1)) (show i<O.length by omega) hs;repeat (first|(refine af ?_)|((first|refine⟨_,jW J (l:=l) (i:=i) hs1,?_⟩|refine⟨_,jW J (l:=m) (i:=i) hs3,?_⟩|refine⟨(rfl:(_:Nat)=_),N-1-i,by omega,by omega,?_⟩);conv=>whnf)|(refine⟨bR,_,kq (by rw[iY];omega),?_⟩;conv=>whnf)|(refine ap ?_))
    exact⟨⟨(i+1,1,O.set i ((l.reverse.getD i 0:Int)-m.reverse.getD i 0+c-32768).toNat),by dsimp only;omega,by dsimp only;omega,by dsimp only;omega,by dsimp only;rw[du];exact hO,hd.set (by simp only[ar];omega),hp⟩,
     Wk.tab [] ⟨ab,ab,ab,ab,ab,ab,ab,aa⟩ ⟨qg,aa⟩ rfl,by dsimp only;omega⟩
  by_cases h2:(l.reverse.getD i 0:Int)-m.reverse.getD i 0+c<0
  . have hp:=tI (x:=((l.reverse.getD i 0:Int)-m.reverse.getD i 0+c+32768).toNat) (c':=(-1)) (k:=(-1)) (show i<O.length by omega) hs;repeat (first|(refine af ?_)|((first|refine⟨_,jW J (l:=l) (i:=i) hs1,?_⟩|refine⟨_,jW J (l:=m) (i:=i) hs3,?_⟩|refine⟨(rfl:(_:Nat)=_),N-1-i,by omega,by omega,?_⟩);conv=>whnf)|(refine⟨bR,_,kq (by rw[iY];omega),?_⟩;conv=>whnf)|(refine ap ?_))
    exact⟨⟨(i+1,(-1),O.set i ((l.reverse.getD i 0:Int)-m.reverse.getD i 0+c+32768).toNat),by dsimp only;omega,by dsimp only;omega,by dsimp only;omega,by dsimp only;rw[du];exact hO,hd.set (by simp only[ar];omega),hp⟩,
     Wk.tab [] ⟨ab,ab,ab,ab,ab,ab,ab,aa⟩ ⟨qg,aa⟩ rfl,by dsimp only;omega⟩
  have hp:=tI (x:=((l.reverse.getD i 0:Int)-m.reverse.getD i 0+c).toNat) (c':=0) (k:=(-1)) (show i<O.length by omega) hs;repeat (first|(refine af ?_)|((first|refine⟨_,jW J (l:=l) (i:=i) hs1,?_⟩|refine⟨_,jW J (l:=m) (i:=i) hs3,?_⟩|refine⟨(rfl:(_:Nat)=_),N-1-i,by omega,by omega,?_⟩);conv=>whnf)|(refine⟨bR,_,kq (by rw[iY];omega),?_⟩;conv=>whnf)|(refine ap ?_))
  exact⟨⟨(i+1,0,O.set i ((l.reverse.getD i 0:Int)-m.reverse.getD i 0+c).toNat),by dsimp only;omega,by dsimp only;omega,by dsimp only;omega,by dsimp only;rw[du];exact hO,hd.set (by simp only[ar];omega),hp⟩,
   Wk.tab [] ⟨ab,ab,ab,ab,ab,ab,ab,aa⟩ ⟨qg,aa⟩ rfl,by dsimp only;omega⟩
 have iU:i=N:=by omega
 have hlt:=fL hd;rw[hO] at hlt;rw[iU,ay (by omega),ay (by rw[iY];omega),ay (by rw[iY];omega)] at hs;have v1:hv l<ar^N':=iy (fL hl) (co (by decide) (by rw[iY];omega));have v2:hv m<ar^N':=iy (fL hm) (co (by decide) (by rw[iY];omega));have v3:ar^N'*2<=ar^N:=by
  rw[show N=N'+1 by omega,bX];exact hX _ (by decide)
 have hp:((ar:Nat):Int)^N=((ar^N:Nat):Int):=(Int.natCast_pow _ _).symm;rw[hp] at hs;have hs':(nv ar O:Int)+((ar^N:Nat):Int)*c=(hv l:Int)+k*(hv m:Int):=hs;have hkm:k*(hv m:Int)<=(hv m:Int):=by rcases hk with rfl|rfl<;>omega
 have hc0:c=0:=by
  rcases (show c = -1\/c=0\/c=1 by omega) with rfl|rfl|rfl
  . omega
  . rfl
  omega
 rw[hc0,Int.mul_zero,Int.add_zero] at hs';have hfin:hv O.reverse=((hv l:Int)+k*(hv m:Int)).toNat:=by
  unfold hv at *;rw[qI];omega
 have c9:=Dx J (l:=O.reverse) (by rw[iY];omega);rw[CT (by rw[qI];exact hd) hfin] at c9;have e9:List.take N (List.drop 0 (O.reverse.map aj))=O.reverse.map aj:=by rw[bW,ay (by omega)]
 rw[<-e9] at c9;repeat (first|(refine af ?_)|(refine⟨_,c9,?_⟩;conv=>whnf)|(refine ap ?_))
 rfl
end Go.Proofs.Fl
namespace Go.Proofs.Fl
open Go.RowKit
def E6(rs:List ResultVar)(f':FuncId)(zs:List IV):Exit->AS->Prop
 | .ret,Y=>match rs with
  | [.tmp t]=>match Y.tm t with
   | .clo f gs=>f=f'/\uc Y.bx gs zs/\gs.Pairwise (· ≠ ·)
   |_=>False
  |_=>False
 |_,_=>False
def Uu{X:Cx}{f f':FuncId}{fn:Func}{c:Code}(hf:X.P.funcs[f]?=some fn)(hb:fn.body=some c)(hn:(fn.name == "runtime.NumGoroutine")=false){xs zs:List IV}(hx:xs.length<=fn.ntmps)
 (h:CW X fn.ntmps c ⟨argS xs,fun _=>none,0⟩ (E6 fn.results.toList f' zs)):bj X.P X.I f xs f' zs:=by
 refine⟨⟨fn,hf,hn,by rw[hb];rfl⟩,fun H w args hI hH hargs=>?_⟩;have hlen:=hargs.length;refine(xk (n:=0)).1 (xp hf hb trivial ?_);refine h ⟨none,X.r0⟩ ⟨fun k=>w.heap.size<=k,w,H,fun _=>none,[]⟩ _ (fun w' hw'=>X.bel _ _ _ hI (ah _) hw'.below) (fun e Y' M H' U a0 w0 k hS0=>?_) [] H (fun _=>(0,0)) _ w ⟨⟨hH,BelowO.refl _ _,fun _ hk=>hk,HExtO.refl _ _,fun t=>?_,fun g b hg=>(by cases hg),fun g g' b b' hg=>(by cases hg),fun p k hk=>(by cases hk),MarksOk.nil _ _,fun g s g' b R hg=>(by cases hg)⟩,rfl,?_⟩
 .
  cases e with
  |ret=>
   simp only[E6] at k;split at k
   .
    rename_i t hrs;split at k
    .
     rename_i f1 gs ht;obtain⟨rfl,hc,hp⟩:=k;show LeavesInM (FW none) 0 X.P fn a0.tmps (fun e w'=>∃(bs:List Nat) (H':ak),e=.returned (AA f1 bs)/\HeapHas w' H'/\HExt w.heap.size H H'/\Below w.heap.size w w'/\bs.Pairwise (· ≠ ·)/\nI (fun k=>w.heap.size<=k) w' H' bs zs) a0.defers .returning w0;rw[hS0.defers];refine tn M hS0 fun a' w' hS _=>?_;have hv:=hS.sim.slot t;rw[ht] at hv;obtain⟨_,hv⟩:=hv;have hr:fn.results = #[.tmp t]:=fc hrs;refine⟨_,results_tmp hr a'.tmps X.P w',gs.map fun g=>(U g).1,H',?_,hS.sim.has,hS.sim.ext,hS.sim.below.below,?_,?_⟩
     . rw[hv,AA,cC];rfl
     . refine List.pairwise_map.2 (hp.imp_of_mem fun{x y} hx hy hne e=>hne ?_);obtain⟨z1,hz1⟩:=m4 hc x hx;obtain⟨z2,hz2⟩:=m4 hc y hy;exact hS.sim.inj x y _ _ hz1 hz2 rfl rfl e
     exact CV hS.sim hc (fun g hg=>by obtain⟨z,hz⟩:=m4 hc g hg;exact(hS.sim.box g _ hz).lo rfl)
    exact k.elim
   exact k.elim
  |_=>exact k.elim
 .
  show SR _ _ _ _ (argS xs t);rw[yJ];cases hx':xs[t]? with
  |some x=>
   have hlt:t<args.length:=by rw[hlen];exact(List.getElem?_eq_some_iff.1 hx').1
   obtain⟨v,h1,h2⟩:=hargs.get t x hx';have:(args.toArray++Array.replicate (fn.ntmps-args.toArray.size) undef).getD t undef=v:=by
    simp[jO,hlt];exact(List.getElem?_eq_some_iff.1 h1).2
   rw[this];exact h2
  |none=>
   have hge:¬t<args.length:=by
    intro hlt;rw[hlen] at hlt;simp[hlt] at hx'
   show _=undef;simp[jO,hge,xq];split<;>rfl
 show(args.toArray++Array.replicate (fn.ntmps-args.toArray.size) undef).size=fn.ntmps;simp;omega
section
variable (X:Cx)(nt l:Nat)(J:(Nat->Prop)->Nat->ak->World->Prop)
def YS(own:Nat->Prop)(H:ak)(U:Nat->Nat×Nat)(a:Act)(w:World)(Y:AS)(k:Nat):Prop :=
 (∃M,St ⟨own,w,H,fun _=>none,M⟩ nt H U Y.tm Y.bx a w)/\J own k H w
def WY(c:Code)(Y:AS)(k:Nat)(K:Exit->AS->Nat->Prop):Prop :=
 ∀Q:Exit->Act->World->Prop,(∀e Y' k' own H U a w,K e Y' k'->YS nt J own H U a w Y' k'->Q e a w)->∀own H U a w,YS nt J own H U a w Y k->c.wpIn (FW none) 0 X.P Q a w
def WX(y:Code)(K:Exit->AS->Nat->Prop):Exit->AS->Nat->Prop
 | .normal,Y,k=>WY X nt J y Y k K
 |e,Y,k=>K e Y k
def Me(id:Nat)(K:Exit->AS->Nat->Prop):Exit->AS->Nat->Prop
 | .exit i,Y,k=>bif Nat.beq i id then K .normal Y k else K (.exit i) Y k
 |e,Y,k=>K e Y k
def Xf{G:Type}(inv:G->AS)(κ:G->Nat)(μ:G->Nat)(g:G)(K:Exit->AS->Nat->Prop):Exit->AS->Nat->Prop
 | .normal,Y,k=>∃g',Wk Y (inv g')/\k=κ g'/\μ g'<μ g
 |e,Y,k=>K e Y k
end
section
variable {X:Cx}{nt l:Nat}{ys:List (List IV)}{J:(Nat->Prop)->Nat->ak->World->Prop}{Y:AS}{k:Nat}{K:Exit->AS->Nat->Prop}
def Vp(hJ:IterJ X l ys J){c:Code}(h:CW X nt c Y (fun e Y'=>K e Y' k)):WY X nt J c Y k K:=by
 rintro Q hQ own H U a w ⟨⟨M,hS⟩,hj⟩;refine h ⟨none,X.r0⟩ ⟨own,w,H,fun _=>none,[]⟩ Q (fun w' hb=>hJ.inv _ _ _ _ _ hj hb) (fun e Y' M' H' U' a' w' hk hS'=>hQ e Y' k own H' U' a' w' hk ⟨⟨M',?_,hS'.defers,hS'.size⟩,hJ.step own k H H' w w' hj hS'.sim.below hS'.sim.has hS'.sim.ext⟩) M H U a w hS;exact hS'.sim.rebase (fun g b hg ha=>(hS'.sim.box g b hg).lo ha) (fun g s R hg hR=>((hS'.sim.box g _ hg).2.2.2 R hR).1) hS'.sim.lo hS'.sim.pin hS'.sim.marks
def WY.skip(h:K .normal Y k):WY X nt J .skip Y k K:=fun _ hQ own H U a w hS=>wpIn_skip (hQ _ _ _ own H U a w h hS)
def WY.exit{id:Nat}(h:K (.exit id) Y k):WY X nt J (.exit id) Y k K:=fun _ hQ own H U a w hS=>wpIn_exit (hQ _ _ _ own H U a w h hS)
def WY.S{x y:Code}(h:WY X nt J x Y k (WX X nt J y K)):WY X nt J (.seq x y) Y k K:=fun Q hQ own H U a w hS=>
 wpIn_seq (h _ (fun e Y' k' own H U a w hk hS=>by
  cases e with
  |normal=>exact hk Q hQ own H U a w hS
  |_=>exact hQ _ _ _ own H U a w hk hS) own H U a w hS)
def WY.cond{c:Operand}{x y:Code}{t:Bool}(hc:aS Y.tm c=.iv (.bool t))(h1:t=true->WY X nt J x Y k K)(h2:t=false->WY X nt J y Y k K):WY X nt J (.cond c x y) Y k K:=fun Q hQ own H U a w hS=>by
 obtain⟨⟨M,hs⟩,hj⟩:=hS;have hv:=bb hs.sim rfl c;rw[hc] at hv;exact FK (oV hv) (fun e=>h1 e Q hQ own H U a w ⟨⟨M,hs⟩,hj⟩) (fun e=>h2 e Q hQ own H U a w ⟨⟨M,hs⟩,hj⟩)
def WY.block{id:Nat}{c:Code}(h:WY X nt J c Y k (Me id K)):WY X nt J (.block id c) Y k K:=fun Q hQ own H U a w hS=>
 wpIn_block (h _ (fun e Y' k' own H U a w hk hS=>by
  cases e with
  |exit i=>
   simp only[Me] at hk;simp only[Exit.inBlock];by_cases hi:i=id
   . subst hi;rw[bD] at hk;simp only[bL];exact hQ _ _ _ own H U a w hk hS
   have hb:Nat.beq i id=false:=by
    cases hb:Nat.beq i id
    . rfl
    exact absurd (aB hb) hi
   rw[hb] at hk;simp only[hi,bM];exact hQ _ _ _ own H U a w hk hS
  |_=>exact hQ _ _ _ own H U a w hk hS) own H U a w hS)
def YS.weak{own:Nat->Prop}{H:ak}{U:Nat->Nat×Nat}{a:Act}{w:World}{Y':AS}(h:YS nt J own H U a w Y k)(hw:Wk Y Y'):∃ U',YS nt J own H U' a w Y' k:=by
 obtain⟨⟨M,hs⟩,hj⟩:=h;obtain⟨U',hs'⟩:=hs.weak hw;exact⟨U',⟨M,hs'⟩,hj⟩
def WY.loop{G:Type}(inv:G->AS)(κ:G->Nat)(μ:G->Nat){c:Code}(g0:G)(h0:Wk Y (inv g0))(hk0:k=κ g0)(h:∀g,WY X nt J c (inv g) (κ g) (Xf inv κ μ g K)):WY X nt J (.loop c) Y k K:=fun Q hQ own H U a w hS=>by
 let I:G->Act->World->Prop:=fun g a w=>∃own H U,YS nt J own H U a w (inv g) (κ g)
 let M:Act->World->Nat:=fun a w=>n5 fun n=>∃g,μ g=n/\I g a w
 obtain⟨β0,hS0⟩:=hS.weak h0;refine wpIn_loop (fun a w=>∃g,I g a w) M ⟨g0,own,H,β0,hk0▸hS0⟩ fun a w ⟨g1,hJ1⟩=>?_;obtain⟨⟨g,e,hJ⟩,_⟩:=x4 (p:=fun n=>∃g,μ g=n/\I g a w) ⟨g1,rfl,hJ1⟩;obtain⟨own1,H1,β1,hS1⟩:=hJ;refine h g _ (fun e' Y' k' own H U a' w' hk hS=>?_) own1 H1 β1 a w hS1;cases e' with
 |normal=>
  obtain⟨g',hw,rfl,hlt⟩:=hk;obtain⟨U',hS'⟩:=hS.weak hw;have hJ':I g' a' w':=⟨own,H,U',hS'⟩;have:=(x4 (p:=fun n=>∃g,μ g=n/\I g a' w') ⟨g',rfl,hJ'⟩).2;refine⟨⟨g',hJ'⟩,?_⟩;show n5 _<n5 _;rw[<-e];exact jN this hlt
 |_=>exact hQ _ _ _ own H U a' w' hk hS
def yX{P:Program}{I:World->Prop}{T:TypeId->Option TY}{Φ:Ctr}{E:Env}{Q:Exit->Act->World->Prop}{ro:Option Nat}(hT:cu P T)(hΦ:CtrOk P I Φ)(hIE:∀w,BelowO E.own E.w0 w->I w){all:Array Oper}{rest:List Oper}{K:(Nat->SV)->(Nat->Option Bx)->List Lg->Prop}(hK:∀H U tm bx log a w,K tm bx log->St E nt H U tm bx a w->wpListIn (FW ro) 0 P all Q rest a w) :
 ∀{os:List Oper} {g:Nat} {tm:Nat->SV} {bx:Nat->Option Bx} {log:List Lg} {H:ak} {U:Nat->Nat×Nat} {a:Act} {w:World},dc nt os=true->St E nt H U tm bx a w->gh T Φ all os g tm bx log K->wpListIn (FW ro) 0 P all Q (os++rest) a w:=by
 intro os;induction os with
 |nil=>intro g tm bx log H U a w _ h ho;exact hK _ _ _ _ _ _ _ ho h
 |cons o os ih=>
  intro g tm bx log H U a w hd h ho;have hd':dc nt os=true:=by
   simp only[dc,dl,aH] at hd;exact hd.2
  have key:∃l:Lg,Fact T Φ all o g tm bx l/\gh T Φ all os (g+1) (fb tm o.dst l.r) (g6 (bT bx l.e.fz) l.e.wr) (l::log) K:=by
   unfold gh at ho;split at ho
   . rename_i hy;obtain⟨r,e,h1,h2⟩:=CE ho;exact⟨⟨r,e⟩,.inl ⟨hy,h1⟩,h2⟩
   . rename_i hy;exact⟨⟨.und,{}⟩,.inr ⟨hy,rfl,rfl⟩,ho⟩
   exact ho.elim
  obtain⟨l,hf,h'⟩:=key;show wpListIn (FW ro) 0 P all Q (o::(os++rest)) a w;unfold wpListIn;exact Cm hT hΦ hIE (oO hd) h hf fun H U a w hS=>ih hd' hS h'
def Sim.rounded{own:Nat->Prop}{M:List Deferred}{H H':ak}{U:Nat->Nat×Nat}{tm:Nat->SV}{bx:Nat->Option Bx}{tmps:Array Value}{w w' w0:World}{H0:ak}{pin:Nat->Option (Nat×Nat)}(h:Sim ⟨own,w0,H0,pin,M⟩ H U tm bx tmps w)(hh:HeapHas w' H')(hle:HLe H H')(hs:w.heap.size<=w'.heap.size)
 (ho:∀b,own b->b<w.heap.size->w'.heap[b]?=w.heap[b]?/\(H b=none->H' b=none)):Sim ⟨fun b=>own b/\(b<w.heap.size\/w'.heap.size<=b),w',H',fun _=>none,M⟩ H' U tm bx tmps w' where
 has:=hh
 below:=BelowO.refl _ _
 lo k hk:=⟨h.lo k (bf hs hk),.inr hk⟩
 ext:=HExtO.refl _ _
 slot t:=(h.slot t).mono hle (fun g b hg=>⟨b,hg,shape.refl b,rfl⟩)
 box g b hg:=by
  by_cases ha:b.alive=true
  .
   have hb:=h.box g b hg;have hlt:=hb.lt ha;have hl:=hb.lo ha;obtain⟨e1,e2⟩:=ho _ hl hlt;have hk:=hb.keep e1 hle e2 (fun s R eb hR=>by
    subst eb;exact ho R (hb.2.2.2 R hR).1 (kK hb.2.2.1 hR).1)
   cases b with
   |var x=>exact⟨⟨hl,.inl hlt⟩,hk.2⟩
   |arr=>exact⟨⟨hl,.inl hlt⟩,hk.2⟩
   |bld s=>
    refine⟨⟨hl,.inl hlt⟩,hk.2.1,hk.2.2.1,fun R hR=>?_⟩;have hR':=hR.sm e1;exact⟨⟨(hb.2.2.2 R hR').1,.inl (kK hb.2.2.1 hR').1⟩,(hk.2.2.2 R hR).2⟩
   |arrN=>exact⟨hk.1,⟨hl,.inl hlt⟩,hk.2.2⟩
   |dead=>trivial
  cases b<;>first|trivial|simp[Bx.alive] at ha
 inj:=h.inj
 pin g k hk:=by cases hk
 marks:=⟨h.marks.1,fun d hd=>by
  obtain⟨D,e,h1,h2⟩:=h.marks.2 d hd;have hlt:=(Array.getElem?_eq_some_iff.1 h2).1;exact⟨D,e,⟨h1,.inl hlt⟩,(ho D h1 hlt).1.trans h2⟩⟩
 hid g s g' b R h1 h2 ha hR:=h.hid g s g' b R h1 h2 ha (hR.sm (ho _ ((h.box g _ h1).lo rfl) ((h.box g _ h1).lt rfl)).1)
def WY.yield(hJ:IterJ X l ys J)(n:Nat){id:Nat}{all:Array Oper}{o:Oper}{fo:Operand}{args:Array Operand}{ats:Array TypeId}(ho:all.toList[n]?=some o)(hd:dc nt all.toList=true)(hg:o.guard=none)(hop:o.op=.call { callee:=.value fo,args:=args,argTypes:=ats })
 (h:gh X.T X.C all (all.toList.take n) Y.nx Y.tm Y.bx [] fun tm bx _=>match aS tm fo,gK bx (aS tm) args.toList with
   | .yld l',some (y,fs)=>l'=l/\ys[k]?=some y/\gh X.T X.C all (all.toList.drop (n+1)) (Y.nx+n+1) (fb tm o.dst (.iv (.bool true))) (bT bx fs) [] fun tm bx _=>K .normal ⟨tm,bx,Y.nx+all.size⟩ (k+1)
   |_,_=>False):WY X nt J (.region id all false) Y k K:=by
 rintro Q hQ own H U a w ⟨⟨M,hS⟩,hj⟩;refine xn ?_;have hsplit:all.toList=all.toList.take n++o::all.toList.drop (n+1):=by
  have hlt:=(List.getElem?_eq_some_iff.1 ho).1;have he:=(List.getElem?_eq_some_iff.1 ho).2;have h1:=kC n all.toList;rw[gS hlt,he] at h1;exact h1.symm
 have hd1:dc nt (all.toList.take n)=true:=by
  unfold dc at hd ⊢;rw[mN] at hd ⊢;exact fun x hx=>hd x (dY hx)
 have hd2:dc nt (all.toList.drop (n+1))=true:=by
  unfold dc at hd ⊢;rw[mN] at hd ⊢;exact fun x hx=>hd x (jK hx)
 have hdo:∀d,o.dst=some d->d<nt:=oO hd (bN ho);rw[hsplit];refine yX (E:=⟨own,w,H,fun _=>none,M⟩) X.hT X.ok (fun w' hb=>hJ.inv _ _ _ _ _ hj hb) (fun H1 β1 tm bx log a1 w1 hk hS1=>?_) hd1 hS h;split at hk
 .
  rename_i l' y fs hfo hargs;obtain⟨rfl,hy,hk⟩:=hk;have hkl:=(List.getElem?_eq_some_iff.1 hy).1;have hv:=bb hS1.sim rfl fo;rw[hfo] at hv;have hfv:a1.eval fo=.func (.yield l') #[] #[]:=hv;obtain⟨H2,hle,S2,V2⟩:=tf (a:=a1) rfl hS1.sim hargs;have hj2:=hJ.step own k H H2 w w1 hj S2.below S2.has S2.ext;obtain⟨fn,tmps,assign,body,hyr,hR⟩:=hJ.round own k H2 w1 (args.toList.map a1.eval) hkl hj2 S2.has S2.lo (by rw[(List.getElem?_eq_some_iff.1 hy).2];exact V2);have hrun:(execOp a1.eval o).run X.P w1=.ok (.round l' fn tmps assign body) w1:=by
   have ea:(args.toList.map a1.eval).toArray=args.map a1.eval:=by apply fc;simp
   rw[ea] at hyr;simp only[execOp,hop,resolve,hfv,Deferred.ofValue,aw,aA,av,invoke];simpa using hyr
  unfold wpListIn;simp only[Region.wanted,hg,bL];refine⟨fun _ _=>trivial,?_⟩;rw[show(FW none).round=none from rfl,Oper.semAt_none,hrun];refine⟨fun e=>(by cases e),hR.mono ?_⟩;rintro e w2 ⟨rfl,H3,h1,h2,h3,h4,h5,h6,h7,hj3⟩;have T:St ⟨fun b=>own b/\(b<w1.heap.size\/w2.heap.size<=b),w2,H3,fun _=>none,M⟩ nt H3 β1 (fb tm o.dst (.iv (.bool true))) (bT bx fs) (a1.put o.dst (.bool true)) w2 :=
   St.put ⟨S2.rounded h1 h2 h3 h7,hS1.defers,hS1.size⟩ hdo (r:=.iv (.bool true)) (.bool true)
  have:=yX (rest:=[]) (Q:=Q) (ro:=none) (E:=⟨fun b=>own b/\(b<w1.heap.size\/w2.heap.size<=b),w2,H3,fun _=>none,M⟩) X.hT X.ok (fun w' hb=>hJ.inv _ _ _ _ _ hj3 hb) (all:=all) (K:=fun tm bx _=>K .normal ⟨tm,bx,Y.nx+all.size⟩ (k+1)) (fun H4 β4 tm bx log a4 w4 hk4 hS4=>?_) hd2 T hk
  . rw[eS] at this;exact this
  refine hQ .normal _ (k+1) (fun b=>own b/\(b<w1.heap.size\/w2.heap.size<=b)) H4 β4 a4 w4 hk4 ⟨⟨M,?_,hS4.defers,hS4.size⟩,hJ.step _ _ _ _ _ _ hj3 hS4.sim.below hS4.sim.has hS4.sim.ext⟩;exact hS4.sim.rebase (fun g b hg ha=>(hS4.sim.box g b hg).lo ha) (fun g s R hg hR=>((hS4.sim.box g _ hg).2.2.2 R hR).1) hS4.sim.lo hS4.sim.pin hS4.sim.marks
 exact hk.elim
end
def rU:Nat->List IV->Nat->SV
 |_,[],_=>.und
 |i,_::_,0=>.ptr i 0
 |i,_::zs,t+1=>rU (i+1) zs t
def Ff(l:Nat)(zs:List IV):Nat->SV
 |0=>.yld l
 |t+1=>rU 0 zs t
def oC:Nat->List IV->List (Nat×Bx)
 |_,[]=>[]
 |i,z::zs=>(i,.var z)::oC (i+1) zs
def Nh(n:Nat):Exit->AS->Nat->Prop
 | .normal,_,k=>k=n
 | .ret,_,k=>k=n
 |_,_,_=>False
def Lq{own:Nat->Prop}{w:World}{H:ak}:∀{bs:List Nat} {zs:List IV},nI own w H bs zs->bs.length=zs.length
 | [],[],_=>rfl
 | [],_::_,h=>h.elim
 |_::_,[],h=>h.elim
 |_::_,_::_,h=>by simp[Lq h.2]
def zl{own:Nat->Prop}{w:World}{H:ak}:∀{bs:List Nat} {zs:List IV},nI own w H bs zs->∀(i:Nat) (z:IV),zs[i]?=some z->∃b,bs[i]?=some b/\BR own w H (b,0) (.var z)
 | [],[],_,i,z,h=>by simp at h
 | [],_::_,h,_,_,_=>h.elim
 |_::_,[],h,_,_,_=>h.elim
 |b::bs,z'::zs,h,0,z,hz=>by simp at hz;subst hz;exact⟨b,rfl,h.1⟩
 |b::bs,z'::zs,h,i+1,z,hz=>by simp at hz;simpa using zl h.2 i z hz
def vS:∀{i:Nat} {zs:List IV} {g:Nat} {b:Bx},(g,b)∈oC i zs->∃j z,g=i+j/\zs[j]?=some z/\b=.var z
 |_,[],_,_,h=>by simp[oC] at h
 |i,z::zs,g,b,h=>by
  simp only[oC,fD,aC] at h;rcases h with⟨rfl,rfl⟩|h
  . exact⟨0,z,rfl,rfl,rfl⟩
  obtain⟨j,z',e,h1,h2⟩:=vS h;exact⟨j+1,z',by omega,by simpa using h1,h2⟩
def JK:∀{i:Nat} {zs:List IV} {j:Nat},j<zs.length->dG (oC i zs) (i+j)≠none
 |_,[],_,h=>by simp at h
 |i,z::zs,0,_=>by simp[oC,dG,bD]
 |i,z::zs,j+1,h=>by
  have h':=JK (i:=i+1) (zs:=zs) (j:=j) (by simpa using h);have hb:Nat.beq (i+(j+1)) i=false:=by
   cases hb:Nat.beq (i+(j+1)) i
   . rfl
   have:=aB hb;omega
  simp only[oC,dG,hb,bh];rw[show i+(j+1)=i+1+j by omega];exact h'
def JP:∀{i:Nat} {zs:List IV} {t:Nat},rU i zs t=if t<zs.length then .ptr (i+t) 0 else .und
 |i,[],t=>by simp[rU]
 |i,z::zs,0=>by simp[rU]
 |i,z::zs,t+1=>by rw[rU,JP];simp[uG,Nat.add_left_comm]
def Uz{X:Cx}{f:FuncId}{fn:Func}{c:Code}(hf:X.P.funcs[f]?=some fn)(hb:fn.body=some c)(hn:(fn.name == "runtime.NumGoroutine")=false)(hres:fn.results = #[]){zs:List IV}{ys:List (List IV)}(hx:zs.length+1<=fn.ntmps)
 (h:∀l J,IterJ X l ys J->WY X fn.ntmps J c ⟨Ff l zs,dG (oC 0 zs),10⟩ 0 (Nh ys.length)):bm X f zs ys:=by
 refine⟨⟨fn,hf,hn,by rw[hb];rfl⟩,fun l J own H w bs hJ hj hH hlo hbs hp=>?_⟩;have hlen:=Lq hbs;refine xp hf hb trivial ?_;refine h l J hJ _ (fun e Y' k' own' H' U' a' w' hk hY=>?_) own H (fun g=>(bs.getD g 0,0)) _ w ⟨⟨[],⟨hH,BelowO.refl _ _,hlo,HExtO.refl _ _,fun t=>?_,fun g b hg=>?_,fun g g' b b' hg hg' _ _ e=>?_,fun p k hk=>(by cases hk),MarksOk.nil _ _,fun g s g' b R hg=>(by obtain⟨j,z,_,_,e⟩:=vS (jo hg);cases e)⟩,rfl,?_⟩,hj⟩
 .
  obtain⟨⟨M,hS⟩,hj'⟩:=hY;have hfin:k'=ys.length->LeavesInM (FW none) 0 X.P fn a'.tmps (fun e w'=>∃v own' H',e=.returned v/\HeapHas w' H'/\J own' ys.length H' w') a'.defers .returning w':=fun hk=>by
   subst hk;rw[hS.defers];have goM:∀(M:List Deferred) (w':World),MarksOk own' M w'->HeapHas w' H'->J own' ys.length H' w'->LeavesInM (FW none) 0 X.P fn a'.tmps (fun e w'=>∃v own' H',e=.returned v/\HeapHas w' H'/\J own' ys.length H' w') M .returning w':=by
    intro M;induction M with
    |nil=>
     intro w' _ hh hj;exact⟨_,results_none hres _ _ _,_,own',H',rfl,hh,hj⟩
    |cons d M ih=>
     intro w' hm hh hj;obtain⟨D,e,ho,hb⟩:=hm.2 d (by simp);obtain⟨hp1,hp2⟩:=List.pairwise_cons.1 hm.1;refine⟨by simp,.inl ⟨D,w'.putObj D (.deferred none),by rw[e],N0 hb,ih _ ⟨hp2,fun d' hd'=>?_⟩ ?_ ?_⟩⟩
     . obtain⟨D',e',ho',hb'⟩:=hm.2 d' (dC _ hd');exact⟨D',e',ho',(c8 (fun e2=>hp1 d' hd' (by rw[e,e',e2]))).trans hb'⟩
     . intro b arr hba;obtain⟨t,fr,ht⟩:=hh b arr hba;exact⟨t,fr,(c8 (fun e2=>by rw[e2,hb] at ht;cases ht)).trans ht⟩
     refine hJ.step own' _ H' H' w' _ hj ⟨rfl,rfl,rfl,by simp,fun k hk=>c8 (fun e2=>hk (by rw[e2];exact ho))⟩ ?_ (HExtO.refl _ _);intro b arr hba;obtain⟨t,fr,ht⟩:=hh b arr hba;exact⟨t,fr,(c8 (fun e2=>by rw[e2,hb] at ht;cases ht)).trans ht⟩
   exact goM M w' hS.sim.marks hS.sim.has hj'
  cases e with
  |normal=>exact hfin hk
  |ret=>exact hfin hk
  |_=>exact hk.elim
 .
  cases t with
  |zero=>simp[Ff,SR,kL,jO]
  |succ t=>
   show SR _ _ _ _ (rU 0 zs t);rw[JP];by_cases ht:t<zs.length
   . rw[au ht];have htb:t<bs.length:=by omega
     refine⟨JK ht,?_⟩;simp[jO,htb]
   rw[aq ht];have htb:¬t<bs.length:=by omega
   show _=undef;simp[jO,htb,xq];split<;>rfl
 . obtain⟨j,z,rfl,hz,rfl⟩:=vS (jo hg);obtain⟨b,e1,e2⟩:=zl hbs j z hz;simp only[a8];rw[show(bs.getD j 0,0)=(b,0) by simp[e1]];exact e2
 . obtain⟨j,z,rfl,hz,rfl⟩:=vS (jo hg);obtain⟨j',z',rfl,hz',rfl⟩:=vS (jo hg');obtain⟨b1,e1,_⟩:=zl hbs j z hz;obtain⟨b2,e2,_⟩:=zl hbs j' z' hz';simp[e1,e2] at e;simp only[a8];apply ia;intro hne;have l1:=(List.getElem?_eq_some_iff.1 e1).1;have l2:=(List.getElem?_eq_some_iff.1 e2).1;have v1:=(List.getElem?_eq_some_iff.1 e1).2;have v2:=(List.getElem?_eq_some_iff.1 e2).2;have hpg:=List.pairwise_iff_getElem.1 hp;rcases N4 hne with hlt|hlt
   . exact hpg j j' l1 l2 hlt (by rw[v1,v2,e])
   exact hpg j' j l2 l1 hlt (by rw[v1,v2,e])
 show((kL l::bs.map fun b=>Value.pointer (some ⟨b,0,none⟩)).toArray++Array.replicate (fn.ntmps-(kL l::bs.map fun b=>Value.pointer (some ⟨b,0,none⟩)).toArray.size) undef).size=fn.ntmps;simp;omega
attribute [irreducible] WY
abbrev MK(J:Keep):FuncId->List IV->FuncId->List IV->Prop:=bj Tryz.prog J.I
abbrev IT(J:Keep):FuncId->List IV->List (List IV)->Prop:=bm (cx J.top)
def VC(J:Keep)(nt:Nat)(body:Code)(m:List (Nat×Bx)):Exit->AS->Prop
 | .normal,Y=>W J.any nt body Y fun e Y'=>e=.normal/\wq Y'.bx [] m
 |_,_=>False
def DX(tm:Nat->SV):List (Nat×SV)->Prop
 | []=>True
 |p::l=>tm p.1=p.2/\DX tm l
def G6{tm:Nat->SV}:∀{l:List (Nat×SV)},DX tm l->∀p∈l,tm p.1=p.2
 | [],_,p,h=>by simp at h
 |q::l,hs,p,h=>by
  rcases List.mem_cons.1 h with rfl|h
  . exact hs.1
  exact G6 hs.2 p h
def Ny(ids:List Nat):SV->Bool
 | .unk | .und | .iv _ | .nilS=>true
 | .ptr g _=>ids.any (Nat.beq g)
 | .cv _ _ gs=>gs.all fun g=>ids.any (Nat.beq g)
 |_=>false
def S7{m:List (Nat×Bx)}{g:Nat}:dG m g≠none↔g∈m.map (·.1):=by
 induction m with
 |nil=>simp[dG]
 |cons p m ih=>
  simp only[dG,aZ,fD];cases hb:Nat.beq g p.1 with
  |true=>simp[aB hb]
  |false=>
   have hne:=AX hb;simp only[bh,ih];exact⟨.inr,fun h=>h.resolve_left hne⟩
def ns(bx:Nat->Option Bx)(ids:List Nat)(i:Nat):Bool:=(bx (aP+i)).isNone||ids.any (Nat.beq (aP+i))
def Dt(bx:Nat->Option Bx)(ids:List Nat):Bool:=ns bx ids 0&&(ns bx ids 1&&(ns bx ids 2&&(ns bx ids 3&&(ns bx ids 4&&(ns bx ids 5&&(ns bx ids 6&&ns bx ids 7))))))
def Pz{bx:Nat->Option Bx}{ids:List Nat}(h:Dt bx ids=true):∀i,i<8->ns bx ids i=true:=by
 simp only[Dt,aH] at h;obtain⟨h0,h1,h2,h3,h4,h5,h6,h7⟩:=h;intro i hi
 match i,hi with
 |0,_=>exact h0
 |1,_=>exact h1
 |2,_=>exact h2
 |3,_=>exact h3
 |4,_=>exact h4
 |5,_=>exact h5
 |6,_=>exact h6
 |7,_=>exact h7
 |n+8,hn=>exact absurd hn (by omega)
section
variable {J:Keep}{nt:Nat}{Y:AS}{K:Exit->AS->Prop}
def Xc{f f':FuncId}{fn:Func}{c:Code}(hf:Tryz.prog.funcs[f]?=some fn)(hb:fn.body=some c)(hn:(fn.name == "runtime.NumGoroutine")=false){xs zs:List IV}(hx:Nat.ble xs.length fn.ntmps=true)
 (h:W J fn.ntmps c ⟨argS xs,fun _=>none,0⟩ (E6 fn.results.toList f' zs)):MK J f xs f' zs:=by
 unfold W at h;exact Uu (X:=cx J) hf hb hn (bl hx) h
def Xj{f:FuncId}{fn:Func}{c:Code}(hf:Tryz.prog.funcs[f]?=some fn)(hb:fn.body=some c)(hn:(fn.name == "runtime.NumGoroutine")=false)(hres:fn.results = #[]){zs:List IV}{ys:List (List IV)}(hx:Nat.ble (zs.length+1) fn.ntmps=true)
 (h:∀l F,IterJ (cx J.top) l ys F->WY (cx J.top) fn.ntmps F c ⟨Ff l zs,dG (oC 0 zs),10⟩ 0 (Nh ys.length)):IT J f zs ys :=
 Uz (X:=cx J.top) hf hb hn hres (bl hx) h
def W.range{g:Operand}{ps:Array Tmp}{assign body:Code}{f:FuncId}{gs:List Nat}{zs:List IV}{ys:List (List IV)}(hit:IT J f zs ys)(ids:List Nat)(l:List (Nat×SV))(m:Nat->List (Nat×Bx))(nx:Nat)(hg:aS Y.tm g=.clo f gs)(hz:uc Y.bx gs zs)(hgs:gs.Pairwise (· ≠ ·))
 (hps:ps.toList.all (fun p=>Nat.blt p nt)=true) (hys:∀y∈ys,y.length=ps.size) (hids:∀k,(m k).map (·.1)=ids) (hal:∀k,∀p∈m k,p.2.alive=true) (hpin:ids.all (fun g=>Nat.ble aP g&&Nat.blt g (aP+8))=true)
 (hl:DX Y.tm l) (hlo:l.all (fun p=>Ny ids p.2)=true) (hb:wq Y.bx [] (m 0)) (hdj:gs.all (fun g=>!ids.any (Nat.beq g))=true) (hfree:Dt Y.bx ids=true)
 (hround:∀k (hk:k<ys.length),W J.any nt assign ⟨np (nC l) ps.toList ys[k],dG (m k),nx⟩ (VC J nt body (m (k+1)))) (hend:K .normal (aF l (m ys.length) nx)):W J.top nt (.rangeFunc g ps assign body) Y K:=by
 unfold W;have hmem:∀{g:Nat},ids.any (Nat.beq g)=true↔g∈ids:=fun{g}=>DI;have hdom:∀k g,dG (m k) g≠none↔g∈ids:=fun k g=>by rw[S7,hids k]
 refine CW.range (X:=cx J.top) (fun r h=>h) hg hz hgs hit (nC l) (fun k=>dG (m k)) (nx:=nx) (fun p hp=>?_) hys (fun t=>?_) (fun k t=>?_) (fun g b hgb=>?_) (fun id hid=>?_) (fun k g b hgb=>?_) (fun k g=>?_) (fun i hi hne=>?_) (fun k hk=>?_) hend
 . have:=List.all_eq_true.1 hps p hp;rwa[dN] at this
 . rcases yL (l:=l) (t:=t) with h|h
   . exact .inl h
   exact .inr (G6 hl _ h)
 .
  rcases yL (l:=l) (t:=t) with h|h
  . rw[h];trivial
  have:=List.all_eq_true.1 hlo _ h;simp only at this;cases hs:nC l t<;>rw[hs] at this<;>simp only[Ny] at this<;>first|trivial|cases this|skip
  . rename_i g off;exact(hdom k g).2 (hmem.1 this)
  intro g hg;exact(hdom k g).2 (hmem.1 (List.all_eq_true.1 this g hg))
 . have:=ya hb _ (jo hgb);exact this
 .
  cases hx:dG (m 0) id with
  |none=>rfl
  |some b=>
   have h1:=(hdom 0 id).1 (by rw[hx];simp);have h2:=List.all_eq_true.1 hdj id hid;rw[hmem.2 h1] at h2;cases h2
 . have h1:=(hdom k g).1 (by rw[hgb];simp);have h2:=List.all_eq_true.1 hpin g h1;simp only[aH,Nat.ble_eq,dN] at h2;exact⟨hal k _ (jo hgb),h2.1,h2.2⟩
 . rw[hdom,hdom]
 . have h1:=Pz hfree i hi;simp only[ns,iW,Option.isNone_iff_eq_none] at h1;exact(hdom 0 _).2 (hmem.1 (h1.resolve_left hne))
 have hr:=hround k hk;unfold W at hr;refine CW.mono (X:=cx J.any) hr fun e Y' hk=>?_;cases e with
 |normal=>
  have hk':W J.any nt body Y' _:=hk;unfold W at hk';refine CW.mono (X:=cx J.any) hk' fun e Y'' h=>⟨h.1,fun id b hib=>?_⟩;exact ya h.2 _ (jo hib)
 |_=>exact hk
end
section
variable {X:Cx}{nt l:Nat}{ys:List (List IV)}{F:(Nat->Prop)->Nat->ak->World->Prop}{Y:AS}{k:Nat}{K:Exit->AS->Nat->Prop}
def WY.R(hJ:IterJ X l ys F){id:Nat}{all:Array Oper}{draw:Bool}(h0:tK nt all draw=true)(h:tW X all draw Y fun Y'=>K .normal Y' k):WY X nt F (.region id all draw) Y k K:=by
 simp only[tK,aH,iW] at h0;exact Vp hJ (CW.region h0.1 (fun e=>h0.2.resolve_left (by subst e;simp)) h)
def WY.RS(hJ:IterJ X l ys F){id:Nat}{all:Array Oper}{draw:Bool}{y:Code}(h0:tK nt all draw=true)(h:tW X all draw Y fun Y'=>WY X nt F y Y' k K):WY X nt F (.seq (.region id all draw) y) Y k K :=
 WY.S (WY.R hJ h0 h)
def Rr(hJ:IterJ X l ys F)(n:Nat){id:Nat}{all:Array Oper}{o:Oper}{fo:Operand}{args:Array Operand}{ats:Array TypeId}{y:Code}(ho:all.toList[n]?=some o)(hd:dc nt all.toList=true)(hg:o.guard=none)(hop:o.op=.call { callee:=.value fo,args:=args,argTypes:=ats })
 (h:gh X.T X.C all (all.toList.take n) Y.nx Y.tm Y.bx [] fun tm bx _=>match aS tm fo,gK bx (aS tm) args.toList with
   | .yld l',some (y',fs)=>l'=l/\ys[k]?=some y'/\gh X.T X.C all (all.toList.drop (n+1)) (Y.nx+n+1) (fb tm o.dst (.iv (.bool true))) (bT bx fs) [] fun tm bx _=>WY X nt F y ⟨tm,bx,Y.nx+all.size⟩ (k+1) K
   |_,_=>False):WY X nt F (.seq (.region id all false) y) Y k K :=
 WY.S (WY.yield hJ n ho hd hg hop h)
def WY.condT{c:Operand}{x y:Code}(hc:aS Y.tm c=.iv (.bool true))(h:WY X nt F x Y k K):WY X nt F (.cond c x y) Y k K:=WY.cond hc (fun _=>h) (fun e=>by cases e)
def WY.condF{c:Operand}{x y:Code}(hc:aS Y.tm c=.iv (.bool false))(h:WY X nt F y Y k K):WY X nt F (.cond c x y) Y k K:=WY.cond hc (fun e=>by cases e) (fun _=>h)
end
end Go.Proofs.Fl
namespace Go.Proofs.Fl
open Go.RowKit Go.Proofs.Dig
attribute [local irreducible] IntKind.wrap aW bc bj bm
def KR(J:Keep)(es:List IV):MK J 125 [.sl es] 176 [.sl es]:=by
 refine Xc Tryz.func125 rfl rfl rfl ?_;refine aK ?_;exact⟨⟨rfl,aa⟩,by simp⟩
def ou(ds:List Nat):List (List IV):=(List.range ds.length).map fun k=>[.int .i64 ((ds.length-1-k:Nat):Int),u32 (ds.getD (ds.length-1-k) 0)]
def JO{ds:List Nat}{k:Nat}(h:k<ds.length):(ou ds)[k]?=some [.int .i64 ((ds.length-1-k:Nat):Int),u32 (ds.getD (ds.length-1-k) 0)]:=by
 simp[ou,h]
def ta(ds:List Nat):(ou ds).length=ds.length:=by simp[ou]
def KO(J:Keep){ds:List Nat}(hl:ds.length<2^60):IT J 176 [.sl (ds.map u32)] (ou ds):=by
 refine Xj Tryz.func176 rfl rfl rfl rfl fun l F hF=>?_;have lm:(ds.map u32).length=ds.length:=by simp
 repeat (first|((first|refine WY.RS hF (by kernel_rfl) ?_|refine cy ?_|refine⟨_,rfl,?_⟩);conv=>whnf)|(refine WY.block ?_))
 refine WY.loop (G:={ k:Nat // k<=ds.length }) (fun k=>aF [(0,.yld l),(1,.ptr 0 0),(3,.iv (.int .i64 ((ds.length:Int)-1-(k.1:Int))))] [(0,.var (.sl (ds.map u32)))] 50) (fun k=>k.1) (fun k=>ds.length-k.1) ⟨0,ba _⟩
  (Wk.tab [] ⟨ab,ab,⟨?_,rfl⟩,aa⟩ ⟨rfl,aa⟩ rfl) rfl ?_
 . show SV.iv (.int .i64 _)=SV.iv (.int .i64 ((ds.length:Int)-1-((0:Nat):Int)));congr 2;omega
 rintro⟨k,hk⟩;show WY (cx J.top) _ F _ (aF [(0,.yld l),(1,.ptr 0 0),(3,.iv (.int .i64 ((ds.length:Int)-1-(k:Int))))] [(0,.var (.sl (ds.map u32)))] 50) k _;have hbl:=ta ds;by_cases h:k<ds.length
 .
  refine WY.S ?_;refine WY.RS hF (by kernel_rfl) ?_;conv=>whnf
  refine⟨rfl,true,bB (by omega),?_⟩;conv=>whnf
  refine WY.condT rfl ?_;refine WY.skip ?_;conv=>whnf
  refine WY.S ?_;refine WY.block ?_;refine Rr hF 6 rfl rfl rfl rfl ?_;conv=>whnf
  have hj:((ds.length-1-k:Nat):Int)=(ds.length:Int)-1-(k:Int):=by omega
  refine⟨ds.length-1-k,u32 (ds.getD (ds.length-1-k) 0),hj.symm,bC,rfl,?_⟩;conv=>whnf
  rw[<-hj];refine⟨rfl,JO h,?_⟩;conv=>whnf
  repeat (first|((first|refine WY.R hF (by kernel_rfl) ?_|refine WY.skip ?_|refine cy ?_|refine⟨_,rfl,?_⟩);conv=>whnf)|(refine WY.condF rfl ?_))
  exact⟨⟨k+1,by omega⟩,Wk.tab [] ⟨ab,ab,⟨df (by dsimp only;omega),rfl⟩,aa⟩ ⟨rfl,aa⟩ rfl,rfl,by dsimp only;omega⟩
 refine WY.S ?_;refine WY.RS hF (by kernel_rfl) ?_;conv=>whnf
 refine⟨rfl,false,bE (by omega),?_⟩;conv=>whnf
 refine WY.condF rfl ?_;refine WY.exit ?_;conv=>whnf
 show k=(ou ds).length;rw[hbl];omega
def JN{ds:List Nat}:∀y∈ou ds,y.length=2:=by
 intro y hy;obtain⟨k,_,rfl⟩:=List.mem_map.1 hy;rfl
def Lj{ds:List Nat}{k:Nat}(hk:k<(ou ds).length):(ou ds)[k]=[.int .i64 ((ds.length-1-k:Nat):Int),u32 (ds.getD (ds.length-1-k) 0)]:=by
 have:=JO (ds:=ds) (k:=k) (by rw[ta] at hk;exact hk);rw[bi hk] at this;exact Ba this
def QR{x:IV}{g:Nat}:∀p∈[(g,Bx.var x)],p.2.alive=true:=by
 intro p hp;simp at hp;subst hp;rfl
def Xt{x y:Nat}(h:x=y):some (Bx.var (.int .u64 (x:Int)))=some (Bx.var (.int .u64 (y:Int))):=by rw[h]
def Xu{x:Int}{y:Nat}(h:x=(y:Int)):some (Bx.var (.int .u64 x))=some (Bx.var (.int .u64 (y:Int))):=by rw[h]
def iU(ds:List Nat)(k:Nat):Nat:=nv B9 (ds.drop (ds.length-k))
def Jh(ds:List Nat):iU ds 0=0:=by simp[iU,nv]
def KK(ds:List Nat):iU ds ds.length=nv B9 ds:=by simp[iU]
def CM{ds:List Nat}{k:Nat}(h:k<ds.length):iU ds (k+1)=iU ds k*1000000000+ds.getD (ds.length-1-k) 0:=by
 unfold iU;rw[gS (show ds.length-(k+1)<ds.length by omega),jb,show ds.length-(k+1)+1=ds.length-k by omega];have e:ds.getD (ds.length-1-k) 0=ds[ds.length-(k+1)]'(by omega):=by
  rw[cn,bi (show ds.length-1-k<ds.length by omega)];simp[show ds.length-1-k=ds.length-(k+1) by omega]
 rw[e,dw];exact uG _ _
def Wo(ds:List Nat)(k:Nat):iU ds k<=nv B9 ds:=by
 unfold iU;rw[show nv B9 ds=nv B9 (ds.take (ds.length-k)++ds.drop (ds.length-k)) by rw[kC],nX];have:1*nv B9 (ds.drop (ds.length-k))<=B9^(ds.take (ds.length-k)).length*nv B9 (ds.drop (ds.length-k)):=cL _ (gB (by decide));omega
def SQ(J:Keep){ds:List Nat}(hd:Dg B9 ds)(hl:ds.length<2^60)(hn:nv B9 ds<1000000000000000000):C J 229 [bP ds] (.int .u64 (nv B9 ds:Nat)):=by
 refine aN (J:=J.top) Tryz.func229 rfl rfl rfl ?_;repeat (first|(refine af ?_)|(refine⟨176,[.sl (ds.map u32)],KR J _,rfl,?_⟩;conv=>whnf))
 refine W.weak (Y':=aF [(3,.ptr aP 0),(8,.clo 176 [6])] [(aP,.var (.int .u64 0)),(6,.var (.sl (ds.map u32)))] 50) (Wk.tab [(aP,2)] ⟨ab,ab,aa⟩ ⟨rfl,rfl,aa⟩ rfl) ?_;refine W.range (KO J hl) [aP] [(3,.ptr aP 0)] (fun k=>[(aP,.var (.int .u64 (iU ds k:Nat)))]) 60 rfl ⟨rfl,aa⟩ (by simp) rfl JN (fun _=>rfl) (fun _=>QR) rfl ⟨rfl,aa⟩ rfl ⟨Xt (Jh ds).symm,aa⟩ rfl rfl (fun k hk=>?_) ?_
 . rw[Lj hk];rw[ta] at hk;show W J.any _ _ ⟨np (nC [(3,.ptr aP 0)]) [9,10] [.int .i64 ((ds.length-1-k:Nat):Int),u32 (ds.getD (ds.length-1-k) 0)],dG [(aP,.var (.int .u64 (iU ds k:Nat)))],60⟩ _;have h1:=CM hk;have h2:=Wo ds (k+1);have h3:=hd.getD (by decide) (ds.length-1-k);repeat (first|((first|refine W.R ?_|refine⟨rfl,_,fa,?_⟩|refine⟨_,fa,?_⟩|refine xr ?_);conv=>whnf)|(refine W.block ?_))
   exact⟨Xu (by omega),aa⟩
 rw[ta,KK];refine aK ?_;rfl
def Va(J:Keep){n:Nat}(h:ln n<=2):C J 229 [aQ n] (.int .u64 n):=by
 have:=SQ J (ds:=dg n) (dm n).dg (by have:(dg n).length<=2:=h;omega) (by rw[dT];exact Ed h);rwa[dT] at this
noncomputable def lh(n:Nat):Nat:=(dh n).length
def Aj(l:List Nat)(h:Dg ar l.reverse):hv l<ar^l.length:=by
 have:=fL h;rwa[iY] at this
def iE(n:Nat):n<ar^lh n:=by have:=Aj (dh n) (fM n).dg;rwa[eF] at this
def kQ{n k:Nat}(h:n<ar^k:=by decide):lh n<=k:=by
 have:=uX (B:=ar) (k:=k) (by decide) (fM n) (by have e:=eF n;unfold hv at e;rw[e];exact h);rwa[iY] at this
def kJ{a b:Nat}(h:a<=b):lh a<=lh b:=kQ (jN h (iE b))
def LR(a b:Nat):lh (a+b)<=max (lh a) (lh b)+1:=kQ (by
 have h1:=iE a;have h2:=iE b;have h3:ar^lh a<=ar^max (lh a) (lh b):=co (by decide) (by omega);have h4:ar^lh b<=ar^max (lh a) (lh b):=co (by decide) (by omega);have h5:ar^max (lh a) (lh b)*2<=ar^max (lh a) (lh b)*ar:=hX _ (by decide);rw[bX];omega)
def lY(a b:Nat):lh (a*b)<=lh a+lh b:=kQ (by
 have h1:=iE a;have h2:=iE b;rw[iX];exact Nat.mul_lt_mul'' h1 h2)
def Ux{n:Nat}(h:lh n=0):n=0:=by have:=iE n;rw[h] at this;simp at this;exact this
def zK{n:Nat}(h:0<n):0<lh n:=by
 apply ia;intro hh;have:=Ux (n:=n) (by omega);omega
def tu(J:Keep){n:Nat}{s:Int}(hs:s=1\/s = -1\/n=0:=by omega)(hl:lh n<2^60:=by omega):C J 147 [.int .i64 s,.sl ((dh n).map aj)] (zh (s*(n:Int))):=by
 have:=tt J (l:=dh n) (s:=s) (by rw[eF];exact hs) (fM n).dg hl;rwa[eF] at this
def Ss(J:Keep){a b:Nat}(ha:lh a<2^40)(hb:lh b<2^40):C J 205 [.sl ((dh a).map aj),.sl ((dh b).map aj),.int .i64 1] (.sl ((dh (a+b)).map aj)):=by
 have:=KP J (l:=dh a) (m:=dh b) (k:=1) (.inl rfl) (fM a).dg (fM b).dg ha hb (by omega);rw[eF,eF,show((a:Int)+1*(b:Int)).toNat=a+b by omega] at this;exact this
def yA(J:Keep){a b:Nat}(h:b<=a)(ha:lh a<2^40:=by omega):C J 205 [.sl ((dh a).map aj),.sl ((dh b).map aj),.int .i64 (-1)] (.sl ((dh (a-b)).map aj)):=by
 have hb:lh b<2^40:=jN (kJ h) ha;have:=KP J (l:=dh a) (m:=dh b) (k := -1) (.inr rfl) (fM a).dg (fM b).dg ha hb (by rw[eF,eF];omega);rw[eF,eF,show((a:Int) + -1*(b:Int)).toNat=a-b by omega] at this;exact this
def y7(J:Keep){a b:Nat}(ha:lh a<2^60:=by omega):C J 206 [.sl ((dh a).map aj),.sl ((dh b).map aj)] (.int .i64 (a7 (a:Nat) (b:Nat))):=by
 have:=UO J (l:=dh a) (m:=dh b) (fM a) (fM b) ha;rwa[eF,eF] at this
def ov{x y:Int}(h:x=y:=by omega):zh x=zh y:=by rw[h]
def KS(J:Keep){x y:Int}(hx:lh x.natAbs<2^40)(hy:lh y.natAbs<2^40):C J 150 [zh x,zh y] (zh (x+y)):=by
 refine aN Tryz.func150 rfl rfl rfl ?_;have sx:=pD x;have sy:=pD y;by_cases x0:x.sign=0
 . refine aK ?_;have:x=0:=Int.sign_eq_zero_iff_zero.1 x0;exact ov
 by_cases y0:y.sign=0
 . refine aK ?_;have:y=0:=Int.sign_eq_zero_iff_zero.1 y0;exact ov
 have ex:=Oc x;have ey:=Oc y;by_cases h:x.sign=y.sign
 . have l1:=LR x.natAbs y.natAbs;have c1:=Ss J hx hy;have c2:=tu J (n:=x.natAbs+y.natAbs) (s:=x.sign);repeat (first|(refine af ?_)|((first|refine⟨_,c1,?_⟩|refine⟨_,c2,?_⟩);conv=>whnf)|(refine ap ?_))
   refine ov ?_;rw[Ob,xG,ex,h,ey]
 by_cases hl:y.natAbs<=x.natAbs
 .
  have hc:0<=a7 (x.natAbs:Nat) (y.natAbs:Nat):=by unfold a7;split<;>(try split)<;>omega
  have l1:=kJ (Nat.sub_le x.natAbs y.natAbs);have c1:=yA J hl hx;have c2:=tu J (n:=x.natAbs-y.natAbs) (s:=x.sign);repeat (first|(refine af ?_)|((first|refine⟨_,y7 J (a:=x.natAbs) (b:=y.natAbs),?_⟩|refine⟨_,c1,?_⟩|refine⟨_,c2,?_⟩);conv=>whnf)|(refine ap ?_))
  refine ov ?_;have e:x.sign = -y.sign:=by omega
  have e2:x.sign*(y.natAbs:Int) = -y:=by rw[e,lG,ey]
  rw[Int.natCast_sub hl,Int.mul_sub,ex,e2];omega
 have hc:a7 (x.natAbs:Nat) (y.natAbs:Nat)<0:=by unfold a7;split<;>(try split)<;>omega
 have hl':x.natAbs<=y.natAbs:=by omega
 have l1:=kJ (Nat.sub_le y.natAbs x.natAbs);have c1:=yA J hl' hy;have c2:=tu J (n:=y.natAbs-x.natAbs) (s:=y.sign);repeat (first|(refine af ?_)|((first|refine⟨_,y7 J (a:=x.natAbs) (b:=y.natAbs),?_⟩|refine⟨_,c1,?_⟩|refine⟨_,c2,?_⟩);conv=>whnf)|(refine ap ?_))
 refine ov ?_;have e:y.sign = -x.sign:=by omega
 have e2:y.sign*(x.natAbs:Int) = -x:=by rw[e,lG,ex]
 rw[Int.natCast_sub hl',Int.mul_sub,ey,e2];omega
def UR(J:Keep){x y:Int}(hx:lh x.natAbs<2^40)(hy:lh y.natAbs<2^40):C J 239 [zh x,zh y] (zh (x-y)):=by
 refine aN Tryz.func239 rfl rfl rfl ?_;have c1:=y9 J y;have c2:=KS J (x:=x) (y := -y) hx (by rw[xD];exact hy);repeat (first|(refine af ?_)|((first|refine⟨_,c1,?_⟩|refine⟨_,c2,?_⟩|refine xr ?_);conv=>whnf))
 exact ov
def U9(J:Keep){x y:Int}(hx:lh x.natAbs<2^40)(hy:lh y.natAbs<2^40):C J 204 [zh x,zh y] (.int .i64 (x-y).sign):=by
 refine aN Tryz.func204 rfl rfl rfl ?_;have c2:=UR J hx hy;repeat (first|(refine af ?_)|(refine⟨_,c2,?_⟩;conv=>whnf))
 rfl
def Mn(s:Int)(a:Nat)(o:List Nat)(t:Int):AS :=
 match o with
 | []=>aF [(0,.iv (.int .i64 (s*(a:Int)))),(2,.ptr 0 0),(3,.iv (.int .i64 t)),(4,.nilS)] [(0,.var (.agg [.int .i64 0,.sl []]))] 20
 |x::o=>aF [(0,.iv (.int .i64 (s*(a:Int)))),(2,.ptr 0 0),(3,.iv (.int .i64 t)),(4,.ref 1 0 (x::o).length true)] [(0,.var (.agg [.int .i64 0,.sl []])),(1,.arr 3 1 ((x::o).map aj) false)] 20
def Lr{a:Nat}{o:List Nat}{n:Nat}(h:hv o+ar^o.length*a=n):hv (a%32768::o)+ar^(a%32768::o).length*(a/32768)=n:=by
 unfold hv at *;rw[Od,m6,iY,aY,bX,mG,eC,<-cg];rw[<-h];congr 2;simp only[ar];omega
def Mm{a:Nat}{o:List Nat}{n:Nat}(h:hv o+ar^o.length*a=n)(ha:a≠0)(hn:n<2^64:=by omega):o.length<=4:=by
 apply ia;intro hc;have h1:ar^5<=ar^o.length:=co (by decide) (by omega);have h2:ar^o.length*1<=ar^o.length*a:=hX _ (by omega);have h3:ar^5=37778931862957161709568:=by decide
 omega
def kg{a b:List IV}(h:a=b):some (Bx.arr 3 1 a false)=some (Bx.arr 3 1 b false):=by rw[h]
def yV{x:Int}{r:Nat}(h:x=(r:Int):=by omega):[IV.int .i64 x]++([]:List IV)=[r].map aj:=by rw[h];rfl
def yD{x:Int}{r:Nat}{o:List Nat}{k:Nat}(hx:x=(r:Int):=by omega)(hk:k=o.length:=by exact rfl):[IV.int .i64 x]++List.take k (List.drop 0 (o.map aj))=(r::o).map aj:=by
 rw[bW,ay (by simp[hk]),hx];rfl
def zx{g n m:Nat}(h:n=m):SV.ref g 0 n true=SV.ref g 0 m true:=by rw[h]
def Ae:∀y∈([]:List IV),y.cells.length=1/\y.isTup=false:=by intro y hy;cases hy
def z6{l:List Nat}{k:Nat}:∀y∈List.take k (List.drop 0 (l.map aj)),y.cells.length=1/\y.isTup=false:=by
 intro y hy;obtain⟨d,_,rfl⟩:=List.mem_map.1 (jK (dY hy));exact⟨rfl,rfl⟩
def Sv(J:Keep){n:Nat}(hn:n<=9223372036854775807):C J 148 [.int .i64 (1*(n:Int))] (zh (1*(n:Int))):=by
 refine aN Tryz.func148 rfl rfl rfl ?_;refine aK ?_;refine W.loop (G:={ p:List Nat×Nat // Dg ar p.1.reverse/\hv p.1+ar^p.1.length*p.2=n/\p.2<=n/\p.1.length<=5 }) (fun p=>Mn 1 p.1.2 p.1.1 (1)) (fun p=>p.1.2) ⟨([],n),Dg.nil _,by simp[hv,nv],ah _,by simp⟩
  (Wk.tab [] ⟨ab,ab,ab,ab,aa⟩ ⟨rfl,aa⟩ rfl) ?_
 rintro⟨⟨o,a⟩,hd,hv',han,hl⟩;dsimp only at hd hv' han hl;have hm:(1*(a:Int)).tmod 32768=1*((a%32768:Nat):Int):=by
  rw[lJ,lJ];exact l9 a 32768
 have hq:IntKind.wrap .i64 ((1*(a:Int)).tdiv 32768)=1*((a/32768:Nat):Int):=by
  rw[lJ,lJ,show(32768:Int)=((32768:Nat):Int) from rfl,nk];exact cZ
 have hst:=Lr hv';have hdg:Dg ar (a%32768::o).reverse:=by
  rw[Od];exact hd.append (oW (ib _ (by decide)))
 have hle:a/32768<=n:=bf (mR _ _) han;obtain⟨q,hqe⟩:∃q,a/32768=q:=⟨_,rfl⟩;obtain⟨r,hre⟩:∃r,a%32768=r:=⟨_,rfl⟩;have hqa:a≠0->q<a:=fun h=>by omega
 rw[hqe] at hq hst hle;rw[hre] at hm hst hdg;cases o with
 |nil=>
  show W J _ _ (aF [(0,.iv (.int .i64 (1*(a:Int)))),(2,.ptr 0 0),(3,.iv (.int .i64 (1))),(4,.nilS)] [(0,.var (.agg [.int .i64 0,.sl []]))] 20) _;by_cases h:a=0
  . have hn0:n=0:=by rw[<-hv',h];simp[hv,nv]
    have c1:=tt J (l:=[]) (s:=1) (by simp) (Dg.nil _);repeat (first|(refine af ?_)|(refine⟨_,c1,?_⟩;conv=>whnf)|(refine ap ?_))
    first|(exfalso;omega)|(rw[hn0];rfl)
  by_cases h0:r=0
  . repeat (first|(refine af ?_)|((first|refine⟨by omega,_,hm,?_⟩|refine⟨by omega,_,hq,?_⟩);conv=>whnf)|(refine⟨bR,rfl,rfl,rfl,Ae,by show(1+0)*8<=140737488355328;omega,by show 1+0<=maxLen;unfold maxLen;omega,?_⟩;conv=>whnf)|(refine ap ?_))
    exact⟨⟨([r],q),hdg,hst,hle,by simp⟩,Wk.tab [(1,30)] ⟨ab,ab,ab,ab,aa⟩ ⟨rfl,kg (yV),aa⟩ rfl,by dsimp only;omega⟩
  repeat (first|(refine af ?_)|((first|refine⟨by omega,_,hm,?_⟩|refine⟨by omega,_,hq,?_⟩);conv=>whnf)|(refine⟨bR,rfl,rfl,rfl,Ae,by show(1+0)*8<=140737488355328;omega,by show 1+0<=maxLen;unfold maxLen;omega,?_⟩;conv=>whnf)|(refine ap ?_))
  exact⟨⟨([r],q),hdg,hst,hle,by simp⟩,Wk.tab [(1,30)] ⟨ab,ab,ab,ab,aa⟩ ⟨rfl,kg (yV),aa⟩ rfl,by dsimp only;omega⟩
 |cons x o=>
  show W J _ _ (aF [(0,.iv (.int .i64 (1*(a:Int)))),(2,.ptr 0 0),(3,.iv (.int .i64 (1))),(4,.ref 1 0 (x::o).length true)] [(0,.var (.agg [.int .i64 0,.sl []])),(1,.arr 3 1 ((x::o).map aj) false)] 20) _;have e9:List.take (x::o).length (List.drop 0 ((x::o).map aj))=(x::o).map aj:=by rw[bW,ay (by simp)]
  by_cases h:a=0
  . have hn0:n=hv (x::o):=by rw[<-hv',h];simp
    have c1:=tt J (l:=x::o) (s:=1) (by omega) hd (by omega);rw[<-e9] at c1;repeat (first|(refine af ?_)|(refine⟨_,c1,?_⟩;conv=>whnf)|(refine ap ?_))
    rw[hn0];rfl
  have hl4:=Mm hv' h;have l8:(List.take (x::o).length (List.drop 0 ((x::o).map aj))).length=(x::o).length:=by rw[e9];simp
  by_cases h0:r=0
  . repeat (first|(refine af ?_)|((first|refine⟨by omega,_,hm,?_⟩|refine⟨by omega,_,hq,?_⟩);conv=>whnf)|(refine⟨ko,rfl,rfl,rfl,z6,by show(1+(List.take (x::o).length (List.drop 0 ((x::o).map aj))).length)*8<=140737488355328;omega,by show 1+(List.take (x::o).length (List.drop 0 ((x::o).map aj))).length<=maxLen;unfold maxLen;omega,?_⟩;conv=>whnf)|(refine ap ?_))
    exact⟨⟨(r::x::o,q),hdg,hst,hle,by simp only[aY] at hl4 ⊢;omega⟩,Wk.tab [(1,30)] ⟨ab,ab,ab,⟨zx (by rw[l8];simp only[aY];omega),rfl⟩,aa⟩ ⟨rfl,kg (yD),aa⟩ rfl,by dsimp only;omega⟩
  repeat (first|(refine af ?_)|((first|refine⟨by omega,_,hm,?_⟩|refine⟨by omega,_,hq,?_⟩);conv=>whnf)|(refine⟨ko,rfl,rfl,rfl,z6,by show(1+(List.take (x::o).length (List.drop 0 ((x::o).map aj))).length)*8<=140737488355328;omega,by show 1+(List.take (x::o).length (List.drop 0 ((x::o).map aj))).length<=maxLen;unfold maxLen;omega,?_⟩;conv=>whnf)|(refine ap ?_))
  exact⟨⟨(r::x::o,q),hdg,hst,hle,by simp only[aY] at hl4 ⊢;omega⟩,Wk.tab [(1,30)] ⟨ab,ab,ab,⟨zx (by rw[l8];simp only[aY];omega),rfl⟩,aa⟩ ⟨rfl,kg (yD),aa⟩ rfl,by dsimp only;omega⟩
def Sw(J:Keep){n:Nat}(hn:0<n/\n<=9223372036854775808):C J 148 [.int .i64 ((-1)*(n:Int))] (zh ((-1)*(n:Int))):=by
 refine aN Tryz.func148 rfl rfl rfl ?_;refine aK ?_;refine W.loop (G:={ p:List Nat×Nat // Dg ar p.1.reverse/\hv p.1+ar^p.1.length*p.2=n/\p.2<=n/\p.1.length<=5 }) (fun p=>Mn (-1) p.1.2 p.1.1 ((-1))) (fun p=>p.1.2) ⟨([],n),Dg.nil _,by simp[hv,nv],ah _,by simp⟩
  (Wk.tab [] ⟨ab,ab,ab,ab,aa⟩ ⟨rfl,aa⟩ rfl) ?_
 rintro⟨⟨o,a⟩,hd,hv',han,hl⟩;dsimp only at hd hv' han hl;have hm:((-1)*(a:Int)).tmod 32768=(-1)*((a%32768:Nat):Int):=by
  rw[lG,lG,lJ,lJ,Int.neg_tmod];exact aL _ (l9 a 32768)
 have hq:IntKind.wrap .i64 (((-1)*(a:Int)).tdiv 32768)=(-1)*((a/32768:Nat):Int):=by
  rw[lG,lG,lJ,lJ,Int.neg_tdiv,show(32768:Int)=((32768:Nat):Int) from rfl,nk];exact cZ
 have hst:=Lr hv';have hdg:Dg ar (a%32768::o).reverse:=by
  rw[Od];exact hd.append (oW (ib _ (by decide)))
 have hle:a/32768<=n:=bf (mR _ _) han;obtain⟨q,hqe⟩:∃q,a/32768=q:=⟨_,rfl⟩;obtain⟨r,hre⟩:∃r,a%32768=r:=⟨_,rfl⟩;have hqa:a≠0->q<a:=fun h=>by omega
 rw[hqe] at hq hst hle;rw[hre] at hm hst hdg;cases o with
 |nil=>
  show W J _ _ (aF [(0,.iv (.int .i64 ((-1)*(a:Int)))),(2,.ptr 0 0),(3,.iv (.int .i64 ((-1)))),(4,.nilS)] [(0,.var (.agg [.int .i64 0,.sl []]))] 20) _;by_cases h:a=0
  . have hn0:n=0:=by rw[<-hv',h];simp[hv,nv]
    have c1:=tt J (l:=[]) (s:=(-1)) (by simp) (Dg.nil _);refine aK ?_
    first|(exfalso;omega)|(rw[hn0];rfl)
  by_cases h0:r=0
  . repeat (first|(refine af ?_)|((first|refine⟨by omega,_,hm,?_⟩|refine⟨by omega,_,hq,?_⟩);conv=>whnf)|(refine⟨bR,rfl,rfl,rfl,Ae,by show(1+0)*8<=140737488355328;omega,by show 1+0<=maxLen;unfold maxLen;omega,?_⟩;conv=>whnf)|(refine ap ?_))
    exact⟨⟨([r],q),hdg,hst,hle,by simp⟩,Wk.tab [(1,30)] ⟨ab,ab,ab,ab,aa⟩ ⟨rfl,kg (yV),aa⟩ rfl,by dsimp only;omega⟩
  repeat (first|(refine af ?_)|((first|refine⟨by omega,_,hm,?_⟩|refine⟨by omega,_,hq,?_⟩);conv=>whnf)|(refine⟨bR,rfl,rfl,rfl,Ae,by show(1+0)*8<=140737488355328;omega,by show 1+0<=maxLen;unfold maxLen;omega,?_⟩;conv=>whnf)|(refine ap ?_))
  exact⟨⟨([r],q),hdg,hst,hle,by simp⟩,Wk.tab [(1,33)] ⟨ab,ab,ab,ab,aa⟩ ⟨rfl,kg (yV),aa⟩ rfl,by dsimp only;omega⟩
 |cons x o=>
  show W J _ _ (aF [(0,.iv (.int .i64 ((-1)*(a:Int)))),(2,.ptr 0 0),(3,.iv (.int .i64 ((-1)))),(4,.ref 1 0 (x::o).length true)] [(0,.var (.agg [.int .i64 0,.sl []])),(1,.arr 3 1 ((x::o).map aj) false)] 20) _;have e9:List.take (x::o).length (List.drop 0 ((x::o).map aj))=(x::o).map aj:=by rw[bW,ay (by simp)]
  by_cases h:a=0
  . have hn0:n=hv (x::o):=by rw[<-hv',h];simp
    have c1:=tt J (l:=x::o) (s:=(-1)) (by omega) hd (by omega);rw[<-e9] at c1;repeat (first|(refine af ?_)|(refine⟨_,c1,?_⟩;conv=>whnf)|(refine ap ?_))
    rw[hn0];rfl
  have hl4:=Mm hv' h;have l8:(List.take (x::o).length (List.drop 0 ((x::o).map aj))).length=(x::o).length:=by rw[e9];simp
  by_cases h0:r=0
  . repeat (first|(refine af ?_)|((first|refine⟨by omega,_,hm,?_⟩|refine⟨by omega,_,hq,?_⟩);conv=>whnf)|(refine⟨ko,rfl,rfl,rfl,z6,by show(1+(List.take (x::o).length (List.drop 0 ((x::o).map aj))).length)*8<=140737488355328;omega,by show 1+(List.take (x::o).length (List.drop 0 ((x::o).map aj))).length<=maxLen;unfold maxLen;omega,?_⟩;conv=>whnf)|(refine ap ?_))
    exact⟨⟨(r::x::o,q),hdg,hst,hle,by simp only[aY] at hl4 ⊢;omega⟩,Wk.tab [(1,30)] ⟨ab,ab,ab,⟨zx (by rw[l8];simp only[aY];omega),rfl⟩,aa⟩ ⟨rfl,kg (yD),aa⟩ rfl,by dsimp only;omega⟩
  repeat (first|(refine af ?_)|((first|refine⟨by omega,_,hm,?_⟩|refine⟨by omega,_,hq,?_⟩);conv=>whnf)|(refine⟨ko,rfl,rfl,rfl,z6,by show(1+(List.take (x::o).length (List.drop 0 ((x::o).map aj))).length)*8<=140737488355328;omega,by show 1+(List.take (x::o).length (List.drop 0 ((x::o).map aj))).length<=maxLen;unfold maxLen;omega,?_⟩;conv=>whnf)|(refine ap ?_))
  exact⟨⟨(r::x::o,q),hdg,hst,hle,by simp only[aY] at hl4 ⊢;omega⟩,Wk.tab [(1,33)] ⟨ab,ab,ab,⟨zx (by rw[l8];simp only[aY];omega),rfl⟩,aa⟩ ⟨rfl,kg (yD),aa⟩ rfl,by dsimp only;omega⟩
def rk(J:Keep){z:Int}(h1 : -9223372036854775808<=z:=by omega)(h2:z<=9223372036854775807:=by omega):C J 148 [.int .i64 z] (zh z):=by
 by_cases h:z<0
 . have:=Sw J (n:=z.natAbs) (by omega);rwa[show(-1:Int)*(z.natAbs:Int)=z by omega] at this
 have:=Sv J (n:=z.natAbs) (by omega);rwa[show(1:Int)*(z.natAbs:Int)=z by omega] at this
def I2(B:Nat)(l:List Nat)(i:Nat):nv B (l.take (i+1))=nv B (l.take i)+B^i*l.getD i 0:=by
 by_cases h:i<l.length
 . rw[Bp B l i h,cn,bi h];rfl
 have e:l.getD i 0=0:=by simp[Nat.not_lt.1 h]
 rw[e,ay (show l.length<=i+1 by omega),ay (Nat.not_lt.1 h)];rfl
def Un{B:Nat}{l:List Nat}{j d:Nat}(h:j<l.length):nv B (l.set j d)+B^j*l.getD j 0=nv B l+B^j*d:=by
 induction l generalizing j with
 |nil=>simp at h
 |cons x l ih=>
  cases j with
  |zero=>simp[nv];omega
  |succ j=>
   have:=ih (j:=j) (by simpa using h);simp only[FQ,jb,xy,bX];have e1:B*(nv B (l.set j d)+B^j*l.getD j 0)=B*(nv B l+B^j*d):=by rw[this]
   rw[cg,cg] at e1;rw[dw (B^j) B,eC,eC];omega
def S5{B:Nat}{o m:List Nat}{i k n x c r c' P:Nat}(hj:i+k<n)(hn:n<=o.length)(hs:nv B (o.take n)+B^(i+k)*c=P+B^i*(x*nv B (m.take k)))(he:c+(x*m.getD k 0+o.getD (i+k) 0)=r+B*c') :
 nv B ((o.set (i+k) r).take n)+B^(i+(k+1))*c'=P+B^i*(x*nv B (m.take (k+1))):=by
 have e0:(o.set (i+k) r).take n=(o.take n).set (i+k) r:=by rw[List.take_set]
 have e1:=Un (B:=B) (l:=o.take n) (d:=r) (show i+k<(o.take n).length by rw[bG];omega);have e2:(o.take n).getD (i+k) 0=o.getD (i+k) 0:=by
  rw[cn,cn,dt,au hj]
 rw[e2] at e1;rw[e0,I2,<-mG,bX,eC];have e3:B^(i+k)*(c+(x*m.getD k 0+o.getD (i+k) 0))=B^(i+k)*(r+B*c'):=by rw[he]
 rw[cg,cg,cg] at e3;have e4:B^i*(x*(nv B (m.take k)+B^k*m.getD k 0))=B^i*(x*nv B (m.take k))+B^(i+k)*(x*m.getD k 0):=by
  rw[cg,cg,iX];congr 1;rw[eC,xz x]
 rw[e4];omega
def Pu{x y:Nat}(hx:x<32768)(hy:y<32768):x*y<=1073676289 :=
 bf (eT (FR hx) (FR hy)) (by decide)
def DZ{l:List Nat}{i j:Nat}(hi:i<l.length)(hj:j=l.length-1-i):(l.map aj)[j]?=some (aj (l.reverse.getD i 0)):=by
 rw[kq];have e:l.reverse.getD i 0=l.getD j 0:=by
  rw[cn,cn,A9 hi,hj]
 rw[e]
def Db{o:List Nat}{i j:Nat}(hi:i<o.length:=by omega)(hj:j=o.length-1-i:=by omega):(o.reverse.map aj)[j]?=some (aj (o.getD i 0)):=by
 have:=DZ (l:=o.reverse) (i:=i) (j:=j) (by simpa using hi) (by simpa using hj);rwa[qI] at this
def wM{g n m:Nat}(h:n=m:=by simp):SV.ref g 0 n true=SV.ref g 0 m true:=by rw[h]
def m7(J:Keep){x y:Int}(hx:lh x.natAbs<2^40:=by omega)(hy:lh y.natAbs<2^40:=by omega):C J 81 [zh x,zh y] (zh (x*y)):=by
 unfold lh at hx hy;obtain⟨l,hl0⟩:∃l,l=dh x.natAbs:=⟨_,rfl⟩;obtain⟨m,hm0⟩:∃m,m=dh y.natAbs:=⟨_,rfl⟩;have hol:Dg ar l.reverse:=by rw[hl0];exact(fM _).dg
 have hom:Dg ar m.reverse:=by rw[hm0];exact(fM _).dg
 have hvl:nv ar l.reverse=x.natAbs:=by rw[hl0];exact eF _
 have hvm:nv ar m.reverse=y.natAbs:=by rw[hm0];exact eF _
 show C J 81 [.agg [.int .i64 x.sign,.sl ((dh x.natAbs).map aj)],.agg [.int .i64 y.sign,.sl ((dh y.natAbs).map aj)]] _;rw[<-hl0,<-hm0];rw[<-hl0] at hx;rw[<-hm0] at hy;have la:(l.map aj).length=l.length:=by simp
 have lb:(m.map aj).length=m.length:=by simp
 obtain⟨N,hN⟩:∃N,N=l.length+m.length:=⟨_,rfl⟩;refine aN Tryz.func81 rfl rfl rfl ?_;repeat (first|(refine af ?_)|(refine⟨rfl,N,by omega,?_⟩;conv=>whnf)|(refine⟨by show 8*_<=(281474976710656:Nat);omega,by unfold maxLen;omega,?_⟩;conv=>whnf)|(refine ap ?_))
 refine W.loop (G:={ p:Nat×List Nat // p.1<=l.length/\p.2.length=N/\Dg ar p.2/\nv ar (p.2.take (p.1+m.length))=nv ar (l.reverse.take p.1)*nv ar m.reverse })
  (fun p=>aF [(2,.ptr 0 0),(3,.ptr 1 0),(4,.ptr 2 0),(5,.ref 3 0 N true),(6,.iv (.int .i64 ((l.length:Int)-1-(p.1.1:Int))))]
    [(0,.var (.agg [.int .i64 x.sign,.sl (l.map aj)])),(1,.var (.agg [.int .i64 y.sign,.sl (m.map aj)])),(2,.var (.agg [.int .i64 0,.sl []])),(3,.arr 3 1 (p.1.2.reverse.map aj) false)] 30) (fun p=>l.length-p.1.1)
  ⟨(0,List.replicate N 0),by simp,by simp,Dg.replicate (by decide) _,by simp[nv,xS]⟩
  (Wk.tab [(3,10)] ⟨ab,ab,ab,⟨wM (by omega),rfl⟩,⟨df (by dsimp only;omega),rfl⟩,aa⟩ ⟨rfl,rfl,rfl,kg ?_,aa⟩ rfl) ?_
 . rw[List.reverse_replicate,xw];rfl
 rintro⟨⟨i,o⟩,hi,ho,hd,hs⟩;dsimp only at hi ho hd hs;show W J _ _ (aF [(2,.ptr 0 0),(3,.ptr 1 0),(4,.ptr 2 0),(5,.ref 3 0 N true),(6,.iv (.int .i64 ((l.length:Int)-1-(i:Int))))]
  [(0,.var (.agg [.int .i64 x.sign,.sl (l.map aj)])),(1,.var (.agg [.int .i64 y.sign,.sl (m.map aj)])),(2,.var (.agg [.int .i64 0,.sl []])),(3,.arr 3 1 (o.reverse.map aj) false)] 30) _
 have lo:(o.reverse.map aj).length=o.length:=by simp
 by_cases h:i<l.length
 .
  have hx2:l.reverse.getD i 0<32768:=hol.getD (by decide) i;refine aK ?_;refine W.loop (G:={ p:Nat×Nat×List Nat // p.1<=m.length/\p.2.1<32768/\p.2.2.length=N/\Dg ar p.2.2/\nv ar (p.2.2.take (i+m.length))+ar^(i+p.1)*p.2.1=nv ar (l.reverse.take i)*nv ar m.reverse+ar^i*(l.reverse.getD i 0*nv ar (m.reverse.take p.1)) })
   (fun p=>aF [(2,.ptr 0 0),(3,.ptr 1 0),(4,.ptr 2 0),(5,.ref 3 0 N true),(6,.iv (.int .i64 ((l.length:Int)-1-(i:Int)))),(7,.iv (.int .i64 (p.1.2.1:Int))),(8,.iv (.int .i64 ((m.length:Int)-1-(p.1.1:Int))))]
     [(0,.var (.agg [.int .i64 x.sign,.sl (l.map aj)])),(1,.var (.agg [.int .i64 y.sign,.sl (m.map aj)])),(2,.var (.agg [.int .i64 0,.sl []])),(3,.arr 3 1 (p.1.2.2.reverse.map aj) false)] 60) (fun p=>m.length-p.1.1)
   ⟨(0,0,o),by simp,by simp,ho,hd,by simp[nv,hs]⟩
   (Wk.tab [] ⟨ab,ab,ab,ab,ab,ab,⟨df (by dsimp only;omega),rfl⟩,aa⟩ ⟨rfl,rfl,rfl,rfl,aa⟩ rfl) ?_
  clear lo;rintro⟨⟨k,c,o2⟩,hk,hc,ho2,hd2,hs2⟩;dsimp only at hk hc ho2 hd2 hs2;show W J _ _ (aF [(2,.ptr 0 0),(3,.ptr 1 0),(4,.ptr 2 0),(5,.ref 3 0 N true),(6,.iv (.int .i64 ((l.length:Int)-1-(i:Int)))),(7,.iv (.int .i64 (c:Int))),(8,.iv (.int .i64 ((m.length:Int)-1-(k:Int))))]
   [(0,.var (.agg [.int .i64 x.sign,.sl (l.map aj)])),(1,.var (.agg [.int .i64 y.sign,.sl (m.map aj)])),(2,.var (.agg [.int .i64 0,.sl []])),(3,.arr 3 1 (o2.reverse.map aj) false)] 60) _
  have lo:(o2.reverse.map aj).length=o2.length:=by simp
  by_cases h2:k<m.length
  .
   have hy2:m.reverse.getD k 0<32768:=hom.getD (by decide) k;have hov:o2.getD (i+k) 0<32768:=hd2.getD (by decide) (i+k);have hxy:=Pu hx2 hy2;have hxyi:(l.reverse.getD i 0:Int)*(m.reverse.getD k 0:Int)=((l.reverse.getD i 0*m.reverse.getD k 0:Nat):Int):=rfl;obtain⟨q,hQ⟩:∃q,(c+(l.reverse.getD i 0*m.reverse.getD k 0+o2.getD (i+k) 0))/32768=q:=⟨_,rfl⟩;obtain⟨r,hR⟩:∃q,(c+(l.reverse.getD i 0*m.reverse.getD k 0+o2.getD (i+k) 0))%32768=q:=⟨_,rfl⟩;have hsum:(o2.getD (i+k) 0:Int)+(l.reverse.getD i 0:Int)*(m.reverse.getD k 0:Int)+(c:Int)=((c+(l.reverse.getD i 0*m.reverse.getD k 0+o2.getD (i+k) 0):Nat):Int):=by
    rw[hxyi];omega
   have hq:IntKind.wrap .i64 (((o2.getD (i+k) 0:Int)+(l.reverse.getD i 0:Int)*(m.reverse.getD k 0:Int)+(c:Int)).tdiv 32768)=((q:Nat):Int):=by
    rw[hsum,show(32768:Int)=((32768:Nat):Int) from rfl,nk,hQ];exact cZ
   have hm:((o2.getD (i+k) 0:Int)+(l.reverse.getD i 0:Int)*(m.reverse.getD k 0:Int)+(c:Int)).tmod 32768=((r:Nat):Int):=by
    rw[hsum,show(32768:Int)=((32768:Nat):Int) from rfl,l9,hR]
   have hw1:IntKind.wrap .i64 ((l.reverse.getD i 0:Int)*(m.reverse.getD k 0:Int))=(l.reverse.getD i 0:Int)*(m.reverse.getD k 0:Int):=by rw[hxyi];exact cZ
   have hw2:IntKind.wrap .i64 ((o2.getD (i+k) 0:Int)+(l.reverse.getD i 0:Int)*(m.reverse.getD k 0:Int))=(o2.getD (i+k) 0:Int)+(l.reverse.getD i 0:Int)*(m.reverse.getD k 0:Int):=by rw[hxyi];exact cZ
   have hw3:IntKind.wrap .i64 ((o2.getD (i+k) 0:Int)+(l.reverse.getD i 0:Int)*(m.reverse.getD k 0:Int)+(c:Int))=(o2.getD (i+k) 0:Int)+(l.reverse.getD i 0:Int)*(m.reverse.getD k 0:Int)+(c:Int):=by rw[hxyi];exact cZ
   have hp:=S5 (B:=ar) (n:=i+m.length) (r:=r) (c':=q) (show i+k<i+m.length by omega) (by omega) hs2 (by simp only[ar];omega);repeat (first|(refine af ?_)|((first|refine⟨by omega,_,hq,?_⟩|refine⟨by omega,_,hm,?_⟩|refine⟨(rfl:(_:Nat)=_),N-1-(i+k),by omega,by omega,?_⟩|refine⟨_,Db (i:=i+k),?_⟩|refine⟨l.length-1-i,_,by omega,DZ (i:=i) (by omega) rfl,rfl,?_⟩|refine⟨m.length-1-k,_,by omega,DZ (i:=k) (by omega) rfl,rfl,?_⟩|refine⟨bR,_,Db (i:=i+k),?_⟩);conv=>whnf)|(refine ap ?_))
   exact⟨⟨(k+1,q,o2.set (i+k) r),by dsimp only;omega,by dsimp only;omega,by dsimp only;rw[du];exact ho2,hd2.set (by simp only[ar];omega),hp⟩,
    Wk.tab [] ⟨ab,ab,ab,ab,ab,ab,⟨df (by dsimp only;omega),rfl⟩,aa⟩ ⟨rfl,rfl,rfl,qg,aa⟩ rfl,by dsimp only;omega⟩
  have hkm:k=m.length:=by omega
  have hp:nv ar ((o2.set (i+m.length) c).take (i+1+m.length))=nv ar (l.reverse.take (i+1))*nv ar m.reverse:=by
   rw[show i+1+m.length=(i+m.length)+1 by omega,qL,m6];have e:(o2.take (i+m.length)).length=i+m.length:=by rw[bG];omega
   rw[e];rw[hkm,ay (show m.reverse.length<=m.length by simp)] at hs2;rw[hs2,I2 ar l.reverse i,bQ,eC]
  repeat (first|(refine af ?_)|((first|refine⟨(rfl:(_:Nat)=_),N-1-(i+m.length),by omega,by omega,?_⟩|refine⟨bR,_,Db (i:=i+m.length),?_⟩);conv=>whnf)|(refine ap ?_))
  exact⟨⟨(i+1,o2.set (i+m.length) c),by dsimp only;omega,by dsimp only;rw[du];exact ho2,hd2.set (by simp only[ar];omega),hp⟩,
   Wk.tab [] ⟨ab,ab,ab,ab,⟨df (by dsimp only;omega),rfl⟩,aa⟩ ⟨rfl,rfl,rfl,qg,aa⟩ rfl,by dsimp only;omega⟩
 have hil:i=l.length:=by omega
 have hfin:hv o.reverse=x.natAbs*y.natAbs:=by
  unfold hv;rw[qI];rw[hil,ay (by omega),ay (show l.reverse.length<=l.length by simp),hvl,hvm] at hs;exact hs
 have sx:=pD x;have sy:=pD y;have hsg:x.sign*y.sign=(x*y).sign:=(Int.sign_mul x y).symm;have s3:=pD (x*y);have hw:IntKind.wrap .i64 (x.sign*y.sign)=(x*y).sign:=by rw[hsg];exact cZ
 have c9:=tt J (l:=o.reverse) (s:=(x*y).sign) (by
  rcases s3 with h|h|h
  . exact .inr (.inl h)
  . right;right;rw[hfin,<-eU,Int.sign_eq_zero_iff_zero.1 h];rfl
  exact .inl h) (by rw[qI];exact hd) (by rw[iY];omega)
 have e9:List.take N (List.drop 0 (o.reverse.map aj))=o.reverse.map aj:=by rw[bW,ay (by omega)]
 rw[<-e9] at c9;repeat (first|(refine af ?_)|((first|refine⟨rfl,_,hw,?_⟩|refine⟨_,c9,?_⟩);conv=>whnf)|(refine ap ?_))
 refine ov ?_;rw[hfin,<-eU];exact Oc (x*y)
def I4{B:Nat}(hB:0<B):∀{l:List Nat} (m:Nat),Dg B l->nv B l/B^m%B=l.getD m 0
 | [],m,_=>by simp[nv]
 |x::l,0,h=>by
  have hx:=h x (by simp);rw[qJ,oJ,jb,A2,gA hx];rfl
 |x::l,m+1,h=>by
  have hx:=h x (by simp);rw[jb,bX,dw (B^m) B,<-xH,N8 _ _ hB,mQ hx,a8];exact I4 hB m (fun d hd=>h d (by simp[hd]))
def P5{v m x:Nat}(hx:v/ar^m%ar=x):v/ar^(m+1)*32768+x=v/ar^m:=by
 rw[<-hx,bX,<-xH,dw];exact oH (v/ar^m) ar
def y6(J:Keep){l:List Nat}{long k:Nat}(hd:Dg ar l.reverse)(hl:l.length<=long)(hk:k<=long:=by omega)(hk4:k<=4:=by omega)(hlo:long<2^59:=by omega):C J 238 [.sl (l.map aj),.int .i64 long,.int .i64 k] (.int .i64 (hv l/ar^(long-k):Nat)):=by
 refine aN Tryz.func238 rfl rfl rfl ?_;have hvl:hv l<ar^long:=iy (Aj l hd) (co (by decide) hl);refine aK ?_;refine W.loop (G:={ t:Nat // t<=k }) (fun t=>aF [(0,.iv (.sl (l.map aj))),(1,.iv (.int .i64 (long:Int))),(2,.iv (.int .i64 (k:Int))),(7,.iv (.int .i64 (hv l/ar^(long-t.1):Nat))),(8,.iv (.int .i64 (t.1:Int)))] [] 30) (fun t=>k-t.1) ⟨0,ba _⟩
  (Wk.tab [] ⟨ab,ab,ab,⟨df ?_,rfl⟩,ab,aa⟩ trivial rfl) ?_
 . dsimp only;rw[uS,mQ hvl];rfl
 rintro⟨t,ht⟩;show W J _ _ (aF [(0,.iv (.sl (l.map aj))),(1,.iv (.int .i64 (long:Int))),(2,.iv (.int .i64 (k:Int))),(7,.iv (.int .i64 (hv l/ar^(long-t):Nat))),(8,.iv (.int .i64 (t:Int)))] [] 30) _;by_cases h:t<k
 .
  have hx:hv l/ar^(long-(t+1))%ar=l.reverse.getD (long-(t+1)) 0:=I4 (by decide) _ hd;have hs:=P5 hx;rw[show long-(t+1)+1=long-t by omega] at hs;have hx2:l.reverse.getD (long-(t+1)) 0<32768:=hd.getD (by decide) _;have hb:hv l/ar^(long-(t+1))<ar^4:=by
   rw[nR (gB (by decide)),<-iX];exact iy hvl (co (by decide) (by omega))
  have hb4:ar^4=1152921504606846976:=by decide
  have c1:=jW J (l:=l) (i:=long-(t+1));rw[show((long-(t+1):Nat):Int)=(long:Int)-1-(t:Int) by omega] at c1;obtain⟨xx,hxx⟩:∃xx,l.reverse.getD (long-(t+1)) 0=xx:=⟨_,rfl⟩;obtain⟨v1,hv1⟩:∃xx,hv l/ar^(long-t)=xx:=⟨_,rfl⟩;obtain⟨v2,hv2⟩:∃xx,hv l/ar^(long-(t+1))=xx:=⟨_,rfl⟩;rw[hxx] at c1 hs hx2;rw[hv1,hv2] at hs;rw[hv2] at hb;rw[hv1];repeat (first|(refine af ?_)|(refine⟨_,c1,?_⟩;conv=>whnf)|(refine ap ?_))
  exact⟨⟨t+1,by omega⟩,Wk.tab [] ⟨ab,ab,ab,⟨df (by rw[hv2];omega),rfl⟩,ab,aa⟩ trivial rfl,by dsimp only;omega⟩
 have e:t=k:=by omega
 subst e;refine aK ?_;rfl
def Qu{R D M:Nat}(hD:0<D)(hM:0<M):R/M/(D/M+1)<=R/D:=by
 rw[A4 hD];have h1:R/M/(D/M+1)*(D/M+1)<=R/M:=uP _ _;have h2:D<=(D/M+1)*M:=nQ (Nat.lt_mul_of_div_lt (uT _) hM);have h3:R/M/(D/M+1)*D<=R/M/(D/M+1)*((D/M+1)*M):=hX _ h2;rw[<-eC] at h3;have h4:R/M/(D/M+1)*(D/M+1)*M<=R/M*M:=cL _ h1;have h5:R/M*M<=R:=uP _ _;omega
def Xh{n:Nat}(h:0<n):ar^(lh n-1)<=n:=by
 have:=rM (B:=ar) (ds:=(dh n).reverse) (fM n).nm (by
  intro e;have:dh n=[]:=by simpa using e
  exact absurd (zV this) (by omega))
 rw[iY] at this;have e:=eF n;unfold hv at e;rw[e] at this;exact this
noncomputable def rz(r d:Nat):Nat:=if lh r<lh d then 0 else if lh d<=3 then r/d else r/ar^(lh d-3)/(d/ar^(lh d-3)+1)
def Sn{r d:Nat}(hd:0<d):rz r d<=r/d:=by
 unfold rz;split
 . exact ba _
 split
 . exact ah _
 exact Qu hd (gB (by decide))
def pB{n:Nat}(h:0<n):zh (n:Int)=.agg [.int .i64 1,.sl ((dh n).map aj)]:=by
 show IV.agg [.int .i64 ((n:Int).sign),.sl ((dh (n:Int).natAbs).map aj)]=_;rw[jQ (by omega),dP]
def UI(J:Keep){r d:Nat}(hd:0<d)(hr:r<32768*d)(hl:lh d<2^38):C J 203 [.sl ((dh r).map aj),.sl ((dh d).map aj)] (.tup [.int .i64 (r/d:Nat),.sl ((dh (r%d)).map aj)]):=by
 refine aN Tryz.func203 rfl rfl rfl ?_;have la:((dh r).map aj).length=lh r:=by simp[lh]
 have lb:((dh d).map aj).length=lh d:=by simp[lh]
 have hlp:=zK hd;have hlr:lh r<=lh d+1:=kQ (by
  have h1:=iE d;rw[bX];have:d*32768<ar^lh d*ar:=N7 h1 (by decide);omega)
 have hqd:r/d<32768:=by rw[nR hd];exact hr
 have hgl:=Sn (r:=r) hd;have hgd:rz r d*d<=r:=bf (cL _ hgl) (uP _ _);obtain⟨g,hg⟩:∃g,g=rz r d:=⟨_,rfl⟩;rw[<-hg] at hgl hgd;refine W.RS ?_;conv=>whnf
 refine W.RS ?_;conv=>whnf
 refine W.RS ?_;conv=>whnf
 refine⟨_,rfl,?_⟩;conv=>whnf
 refine W.join (G:=Unit) (fun _=>aF [(0,.iv (.sl ((dh r).map aj))),(1,.iv (.sl ((dh d).map aj))),(6,.iv (.int .i64 (g:Nat)))] [] 60) ?_ ?_
 .
  by_cases h1:lh d<=lh r
  .
   by_cases h2:lh d<=3
   .
    have e:g=r/d:=by rw[hg];unfold rz;rw[aq (by omega),au h2]
    have c1:=y6 J (l:=dh r) (long:=lh d+1) (k:=lh d+1) (fM r).dg hlr (ah _);have c2:=y6 J (l:=dh d) (long:=lh d) (k:=lh d) (fM d).dg (ah _) (ah _);rw[mM,qJ,oJ,eF] at c1 c2;have hr64:r<1152921504606846976:=by
     have h1:=iE r;have h2:ar^lh r<=ar^4:=co (by decide) (by omega);have h3:ar^4=1152921504606846976:=by decide
     omega
    have hq:IntKind.wrap .i64 ((r:Int).tdiv (d:Int))=(g:Int):=by rw[nk,<-e];exact cZ
    rw[<-lb] at c1 c2;repeat (first|(refine af ?_)|(refine W.condT rfl ?_)|((first|refine⟨_,c1,?_⟩|refine⟨_,c2,?_⟩|refine⟨by omega,_,hq,?_⟩);conv=>whnf)|(refine ap ?_))
    exact⟨(),Wk.tab [] ⟨ab,ab,ab,aa⟩ trivial rfl⟩
   have e:g=r/ar^(lh d-3)/(d/ar^(lh d-3)+1):=by rw[hg];unfold rz;rw[aq (by omega),aq h2]
   have c1:=y6 J (l:=dh r) (long:=lh d+1) (k:=4) (fM r).dg hlr;have c2:=y6 J (l:=dh d) (long:=lh d) (k:=3) (fM d).dg (ah _);rw[eF] at c1 c2;rw[show lh d+1-4=lh d-3 by omega] at c1;have hb1:r/ar^(lh d-3)<ar^4:=by
    rw[nR (gB (by decide)),<-iX];exact iy (iE r) (co (by decide) (by omega))
   have hb2:d/ar^(lh d-3)<ar^3:=by
    rw[nR (gB (by decide)),<-iX];exact iy (iE d) (co (by decide) (by omega))
   have hb3:ar^4=1152921504606846976:=by decide
   have hb4:ar^3=35184372088832:=by decide
   obtain⟨u,hu⟩:∃u,r/ar^(lh d-3)=u:=⟨_,rfl⟩;obtain⟨v,hv'⟩:∃u,d/ar^(lh d-3)=u:=⟨_,rfl⟩;rw[hu] at c1 e hb1;rw[hv'] at c2 e hb2;have hq:IntKind.wrap .i64 ((u:Int).tdiv ((v:Int)+1))=(g:Int):=by
    rw[show(v:Int)+1=((v+1:Nat):Int) from rfl,nk,<-e];exact cZ
   rw[<-lb] at c1 c2;repeat (first|(refine af ?_)|(refine W.condF rfl ?_)|(refine W.condT rfl ?_)|((first|refine⟨_,c1,?_⟩|refine⟨_,c2,?_⟩|refine⟨by omega,_,hq,?_⟩);conv=>whnf)|(refine ap ?_))
   exact⟨(),Wk.tab [] ⟨ab,ab,ab,aa⟩ trivial rfl⟩
  have e:g=0:=by rw[hg];unfold rz;rw[au (by omega)]
  repeat (first|(refine af ?_)|(refine W.condF rfl ?_)|(refine ap ?_))
  exact⟨(),Wk.tab [] ⟨ab,ab,⟨df,rfl⟩,aa⟩ trivial rfl⟩
 rintro⟨⟩
 try dsimp only
 refine W.join (G:=Unit) (fun _=>aF [(0,.iv (.sl ((dh (r-g*d)).map aj))),(1,.iv (.sl ((dh d).map aj))),(6,.iv (.int .i64 (g:Nat)))] [] 60) ?_ ?_
 .
  by_cases h0:g=0
  . repeat (first|(refine af ?_)|(refine W.condF rfl ?_)|(refine ap ?_))
    refine⟨(),Wk.tab [] ⟨⟨?_,rfl⟩,ab,ab,aa⟩ trivial rfl⟩;rw[h0,nN,uS];rfl
  have c1:=rk J (z:=(g:Int));have hlg:lh g<=1:=kQ (by rw[sA];simp only[ar];omega);have c2:=m7 J (x:=(g:Int)) (y:=(d:Int)) (by rw[dP];omega) (by rw[dP];omega);rw[pB hd,<-kB,pB (n:=g*d) (oI (by omega) hd)] at c2;have c3:=yA J hgd;repeat (first|(refine af ?_)|(refine W.condT rfl ?_)|((first|refine⟨_,c1,?_⟩|refine⟨_,c2,?_⟩|refine⟨_,c3,?_⟩);conv=>whnf)|(refine ap ?_))
  exact⟨(),Wk.tab [] ⟨ab,ab,ab,aa⟩ trivial rfl⟩
 rintro⟨⟩
 try dsimp only
 repeat ((refine W.c ?_;conv=>whnf))
 refine W.loop (G:={ p:Nat×Nat // p.2*d+p.1=r/\p.2<=r/d }) (fun p=>aF [(0,.iv (.sl ((dh p.1.1).map aj))),(1,.iv (.sl ((dh d).map aj))),(6,.iv (.int .i64 (p.1.2:Nat)))] [] 60) (fun p=>p.1.1) ⟨(r-g*d,g),by dsimp only;omega,hgl⟩
  (Wk.tab [] ⟨ab,ab,ab,aa⟩ trivial rfl) ?_
 rintro⟨⟨u,q⟩,hu,hq⟩;dsimp only at hu hq;show W J _ _ (aF [(0,.iv (.sl ((dh u).map aj))),(1,.iv (.sl ((dh d).map aj))),(6,.iv (.int .i64 (q:Nat)))] [] 60) _;have hur:lh u<=lh r:=kJ (by omega);by_cases h:d<=u
 .
  have hc:0<=a7 (u:Nat) (d:Nat):=by unfold a7;split<;>(try split)<;>omega
  have c1:=yA J h;have hq2:q+1<=r/d:=by
   rw[A4 hd,bQ,nJ];omega
  repeat (first|(refine af ?_)|((first|refine⟨_,y7 J (a:=u) (b:=d),?_⟩|refine⟨_,c1,?_⟩);conv=>whnf)|(refine ap ?_))
  exact⟨⟨(u-d,q+1),by dsimp only;rw[bQ,nJ];omega,hq2⟩,Wk.tab [] ⟨ab,ab,ab,aa⟩ trivial rfl,by dsimp only;omega⟩
 have hc:a7 (u:Nat) (d:Nat)<0:=by unfold a7;split<;>(try split)<;>omega
 have e1:q=r/d:=by
  rw[<-hu,dw,FP hd,mQ (by omega),fF]
 have e2:u=r%d:=by
  rw[<-hu,dw,N5,gA (by omega)]
 repeat (first|(refine af ?_)|(refine⟨_,y7 J (a:=u) (b:=d),?_⟩;conv=>whnf)|(refine ap ?_))
 rw[<-e1,<-e2];rfl
def Do(l:List Nat)(x:Nat):hv (l ++ [x])=hv l*32768+x:=by
 unfold hv;rw[Oe];show nv ar (x::l.reverse)=_;show x+32768*nv ar l.reverse=_;omega
def pb(J:Keep){l:List Nat}{es:List IV}(he:es=l.map aj)(hl:l.length<2^60){n:Nat}(hd:Dg ar l.reverse)(hn:hv l=n):C J 202 [.sl es] (.sl ((dh n).map aj)):=by
 have:=Dx J hl;rwa[CT hd hn,<-he] at this
def J4{l:List Nat}{i:Nat}(h:i<l.length):hv (l.take (i+1))=hv (l.take i)*32768+l.getD i 0:=by
 rw[uW h,Do,cn,bi h];rfl
def TX{N r d x q:Nat}(hd:0<d)(h1:N/d=q)(h2:N%d=r):(N*32768+x)/d=q*32768+(r*32768+x)/d/\(N*32768+x)%d=(r*32768+x)%d:=by
 have e:N*32768+x=d*(q*32768)+(r*32768+x):=by
  have:=oH N d;rw[h1,h2] at this;rw[<-this,bQ,eC,mG]
 rw[e,FP hd,N5];exact⟨rfl,rfl⟩
noncomputable def tM(l m:List Nat)(u i:Nat)(Q:List Nat):AS :=
 match Q with
 | []=>aF [(0,.iv (.sl (l.map aj))),(1,.iv (.sl (m.map aj))),(6,.nilS),(7,.iv (.sl ((dh u).map aj))),(8,.iv (.int .i64 (i:Nat)))] [] 60
 |x::Q=>aF [(0,.iv (.sl (l.map aj))),(1,.iv (.sl (m.map aj))),(6,.ref 1 0 (x::Q).length true),(7,.iv (.sl ((dh u).map aj))),(8,.iv (.int .i64 (i:Nat)))] [(1,.arr 3 1 ((x::Q).map aj) false)] 60
def Mj{l:List Nat}:∀y∈l.map aj,y.cells.length=1/\y.isTup=false:=by
 intro y hy;obtain⟨d,_,rfl⟩:=List.mem_map.1 hy;exact⟨rfl,rfl⟩
def WP{l:List Nat}{i j:Nat}:∀y∈List.drop j (List.take i (l.map aj)),y.cells.length=1/\y.isTup=false:=by
 intro y hy;obtain⟨d,_,rfl⟩:=List.mem_map.1 (dY (jK hy));exact⟨rfl,rfl⟩
def Fx{l:List Nat}(h:l≠[]):(l.map aj).isEmpty=false:=by cases l with|nil=>exact absurd rfl h|cons=>rfl
def Fw{l:List Nat}(h:l=[]):(l.map aj).isEmpty=true:=by rw[h];rfl
def y8(J:Keep){a d:Nat}(hd:0<d:=by omega)(ha:lh a<2^38:=by omega):C J 146 [.sl ((dh a).map aj),.sl ((dh d).map aj)] (.tup [.sl ((dh (a/d)).map aj),.sl ((dh (a%d)).map aj)]):=by
 refine aN Tryz.func146 rfl rfl rfl ?_;have la:((dh a).map aj).length=lh a:=by simp[lh]
 have lb:((dh d).map aj).length=lh d:=by simp[lh]
 have hlp:=zK hd;by_cases h1:lh a<lh d
 . have hlt:=Bs (l:=dh a) (m:=dh d) (fM a) (fM d) h1;rw[eF,eF] at hlt;refine aK ?_;rw[mQ hlt,gA hlt,na];rfl
 have hld:lh d<2^38:=by omega
 obtain⟨l,hl⟩:∃l,l=dh a:=⟨_,rfl⟩;obtain⟨m,hm⟩:∃m,m=dh d:=⟨_,rfl⟩;have hol:Dg ar l.reverse:=by rw[hl];exact(fM a).dg
 have hvl:hv l=a:=by rw[hl];exact eF a
 have hvm:hv m=d:=by rw[hm];exact eF d
 have hll:l.length=lh a:=by rw[hl];rfl
 have hml:m.length=lh d:=by rw[hm];rfl
 rw[<-hl,<-hm];rw[<-hl] at la;rw[<-hm] at lb;have hdt:∀i,Dg ar (l.take i).reverse:=fun i=>by
  intro x hx;exact hol x (by simp only[List.mem_reverse] at hx ⊢;exact dY hx)
 have hu0:hv (l.take (lh d-1))<d:=by
  have h3:=Aj (l.take (lh d-1)) (hdt _);have h4:=Xh hd;have h5:(l.take (lh d-1)).length=lh d-1:=by rw[bG];omega
  rw[h5] at h3;omega
 refine W.RS ?_;conv=>whnf
 iterate 9 (first|((first|refine W.RS ?_|refine W.skip ?_|refine xF ?_|refine⟨_,rfl,?_⟩|refine xr ?_);conv=>whnf)|(refine W.S ?_)|(refine W.condF rfl ?_))
 refine W.join (G:=Unit) (fun _=>aF [(0,.iv (.sl (l.map aj))),(1,.iv (.sl (m.map aj))),(6,.nilS),(7,.iv (.sl ((dh (hv (l.take (lh d-1)))).map aj)))] [] 40) ?_ ?_
 .
  have lt:((l.map aj).take (lh d-1)).drop 0=(l.take (lh d-1)).map aj:=by rw[bW,F4]
  have ltl:(l.take (lh d-1)).length=lh d-1:=by rw[bG];omega
  by_cases h2:lh d=1
  . have c1:=pb J (l:=[]) (es:=[]) (n:=hv (l.take (lh d-1))) rfl (by simp) (Dg.nil _) (by rw[h2];rfl);have hT:(((l.map aj).take (lh d-1)).drop 0).isEmpty=true:=by rw[lt];exact Fw (by rw[h2];rfl)
    repeat (first|((first|refine W.R ?_|refine⟨lh d-1,by omega,?_⟩|refine⟨true,hT,?_⟩|refine⟨_,c1,?_⟩|refine⟨by omega,by omega,by omega,.inr (by simp),.inl rfl,?_⟩);conv=>whnf)|(refine ap ?_))
    exact⟨(),Wk.tab [] ⟨ab,ab,ab,ab,aa⟩ trivial rfl⟩
  have hF:(((l.map aj).take (lh d-1)).drop 0).isEmpty=false:=by rw[lt];exact Fx (by intro e;rw[e] at ltl;simp at ltl;omega)
  have hlen:(((l.map aj).take (lh d-1)).drop 0).length=lh d-1:=by rw[lt,aV,ltl]
  repeat (first|((first|refine W.R ?_|refine⟨lh d-1,by omega,?_⟩|refine⟨false,hF,?_⟩);conv=>whnf)|(refine⟨WP,by show(((l.map aj).take (lh d-1)).drop 0).length*8<=140737488355328;omega,by show(((l.map aj).take (lh d-1)).drop 0).length<=maxLen;unfold maxLen;omega,?_⟩;conv=>whnf)|(refine⟨_,pb J (l:=l.take (lh d-1)) (n:=hv (l.take (lh d-1))) (by rw[ay (by simp)];simp[F4]) (by omega) (hdt _) rfl,?_⟩;conv=>whnf)|(refine⟨by omega,by omega,by omega,.inr (by simp),.inl rfl,?_⟩;conv=>whnf)|(refine ap ?_))
  exact⟨(),Wk.tab [] ⟨ab,ab,ab,ab,aa⟩ trivial rfl⟩
 rintro⟨⟩;refine aK ?_;refine W.loop (G:={ p:Nat×List Nat // lh d-1<=p.1/\p.1<=l.length/\hv p.2=hv (l.take p.1)/d/\Dg ar p.2.reverse/\p.2.length=p.1-(lh d-1) }) (fun p=>tM l m (hv (l.take p.1.1)%d) p.1.1 p.1.2) (fun p=>l.length-p.1.1)
  ⟨(lh d-1,[]),ah _,by dsimp only;omega,by dsimp only;rw[mQ hu0];rfl,Dg.nil _,by dsimp only;rw[mM];rfl⟩
  (Wk.tab [] ⟨ab,ab,ab,⟨?_,rfl⟩,⟨df (by dsimp only;omega),rfl⟩,aa⟩ trivial rfl) ?_
 . show SV.iv (.sl _)=SV.iv (.sl _);rw[gA hu0]
 rintro⟨⟨i,Q⟩,hi1,hi2,hQ,hQd,hQl⟩;dsimp only at hi1 hi2 hQ hQd hQl;obtain⟨u,hu⟩:∃u,hv (l.take i)%d=u:=⟨_,rfl⟩;have hud:u<d:=by rw[<-hu];exact ib _ hd
 have hlu:lh u<=lh d:=kJ (nQ hud);have lu:((dh u).map aj).length=lh u:=by simp[lh]
 show W J _ _ (tM l m (hv (l.take i)%d) i Q) _;rw[hu];by_cases h3:i<l.length
 .
  have hx:l.getD i 0<32768:=by
   have:=hol.getD (by decide) (l.length-1-i);rw[cn,A9 (by omega),show l.length-1-(l.length-1-i)=i by omega,<-cn] at this;exact this
  obtain⟨x,hxe⟩:∃x,l.getD i 0=x:=⟨_,rfl⟩;have htk:=J4 h3;rw[hxe] at hx htk;obtain⟨s1,s2⟩:=TX (x:=x) hd hQ.symm hu;have hnr:u*32768+x<32768*d:=by
   have:(u+1)*32768<=d*32768:=cL _ hud;omega
  have hkd:(u*32768+x)/d<32768:=by rw[nR hd];exact hnr
  have c2:C J 203 [.sl ((dh (u*32768+x)).map aj),.sl (m.map aj)] (.tup [.int .i64 ((u*32768+x)/d:Nat),.sl ((dh ((u*32768+x)%d)).map aj)]):=by
   rw[hm];exact UI J hd hnr hld
  obtain⟨k,hk⟩:∃k,(u*32768+x)/d=k:=⟨_,rfl⟩;obtain⟨u2,hu2⟩:∃k,(u*32768+x)%d=k:=⟨_,rfl⟩;rw[hk,hu2] at c2;rw[hk] at s1 hkd;rw[hu2] at s2;have hgt:(l.map aj)[i]?=some (aj x):=by rw[kq h3,hxe]
  have hdg2:Dg ar (dh u ++ [x]).reverse:=by
   rw[Oe];exact(oW hx).append (fM u).dg
  have hlen2:(dh u ++ [x]).length<2^60:=by
   have:(dh u).length=lh u:=rfl;rw[bg,xv];omega
  have hv2:hv (dh u ++ [x])=u*32768+x:=by rw[Do,eF]
  have hQ2:hv (Q ++ [k])=hv (l.take (i+1))/d:=by rw[Do,htk];exact s1.symm
  have hQd2:Dg ar (Q ++ [k]).reverse:=by rw[Oe];exact(oW hkd).append hQd
  have hQl2:(Q ++ [k]).length=i+1-(lh d-1):=by rw[bg,xv];omega
  have hu3:hv (l.take (i+1))%d=u2:=by rw[htk];exact s2
  cases Q with
  |nil=>
   show W J _ _ (aF [(0,.iv (.sl (l.map aj))),(1,.iv (.sl (m.map aj))),(6,.nilS),(7,.iv (.sl ((dh u).map aj))),(8,.iv (.int .i64 (i:Nat)))] [] 60) _;by_cases h0:u=0
   . repeat (first|(refine af ?_)|((first|refine⟨true,Fw (by rw[h0,na]),?_⟩|refine⟨i,_,rfl,hgt,rfl,?_⟩);conv=>whnf)|(refine⟨_,pb J (l:=dh u ++ [x]) (n:=u*32768+x) (by rw[h0,na];rfl) hlen2 hdg2 hv2,?_⟩;conv=>whnf)|((first|refine⟨_,c2,?_⟩|refine⟨n8,bl rfl,bl rfl,?_⟩);conv=>whnf)|(refine ap ?_))
     exact⟨⟨(i+1,[k]),by dsimp only;omega,by dsimp only;omega,hQ2,hQd2,hQl2⟩,by
      show Wk _ (tM l m (hv (l.take (i+1))%d) (i+1) ([k]));rw[hu3];exact Wk.tab [(1,86)] ⟨ab,ab,⟨wM,rfl⟩,ab,ab,aa⟩ ⟨kg (by simp;rfl),aa⟩ rfl,by dsimp only;omega⟩
   repeat (first|(refine af ?_)|(refine⟨false,Fx (fun e=>h0 (zV e)),?_⟩;conv=>whnf)|(refine⟨Mj,by show((dh u).map aj).length*8<=140737488355328;omega,by show((dh u).map aj).length<=maxLen;unfold maxLen;omega,?_⟩;conv=>whnf)|(refine⟨ko,rfl,rfl,rfl,n8,by show(((dh u).map aj).length+1)*8<=140737488355328;omega,by show((dh u).map aj).length+1<=maxLen;unfold maxLen;omega,?_⟩;conv=>whnf)|(refine⟨i,_,rfl,hgt,rfl,?_⟩;conv=>whnf)|(refine⟨_,pb J (l:=dh u ++ [x]) (n:=u*32768+x) (by rw[bW,ay (by simp),dD];rfl) hlen2 hdg2 hv2,?_⟩;conv=>whnf)|((first|refine⟨_,c2,?_⟩|refine⟨n8,bl rfl,bl rfl,?_⟩);conv=>whnf)|(refine ap ?_))
   exact⟨⟨(i+1,[k]),by dsimp only;omega,by dsimp only;omega,hQ2,hQd2,hQl2⟩,by
    show Wk _ (tM l m (hv (l.take (i+1))%d) (i+1) ([k]));rw[hu3];exact Wk.tab [(1,86)] ⟨ab,ab,⟨wM,rfl⟩,ab,ab,aa⟩ ⟨kg (by simp;rfl),aa⟩ rfl,by dsimp only;omega⟩
  |cons z Q=>
   show W J _ _ (aF [(0,.iv (.sl (l.map aj))),(1,.iv (.sl (m.map aj))),(6,.ref 1 0 (z::Q).length true),(7,.iv (.sl ((dh u).map aj))),(8,.iv (.int .i64 (i:Nat)))] [(1,.arr 3 1 ((z::Q).map aj) false)] 60) _;by_cases h0:u=0
   . repeat (first|(refine af ?_)|((first|refine⟨true,Fw (by rw[h0,na]),?_⟩|refine⟨i,_,rfl,hgt,rfl,?_⟩);conv=>whnf)|(refine⟨_,pb J (l:=dh u ++ [x]) (n:=u*32768+x) (by rw[h0,na];rfl) hlen2 hdg2 hv2,?_⟩;conv=>whnf)|(refine⟨_,c2,?_⟩;conv=>whnf)|(refine⟨ko,rfl,rfl,by simp,n8,by show((z::Q).length+1)*8<=140737488355328;omega,by show(z::Q).length+1<=maxLen;unfold maxLen;omega,?_⟩;conv=>whnf)|(refine⟨n8,bl rfl,bl rfl,?_⟩;conv=>whnf)|(refine ap ?_))
     exact⟨⟨(i+1,z::Q ++ [k]),by dsimp only;omega,by dsimp only;omega,hQ2,hQd2,hQl2⟩,by
      show Wk _ (tM l m (hv (l.take (i+1))%d) (i+1) (z::Q ++ [k]));rw[hu3];exact Wk.tab [(1,86)] ⟨ab,ab,⟨wM,rfl⟩,ab,ab,aa⟩ ⟨kg (by simp;rfl),aa⟩ rfl,by dsimp only;omega⟩
   repeat (first|(refine af ?_)|(refine⟨false,Fx (fun e=>h0 (zV e)),?_⟩;conv=>whnf)|(refine⟨Mj,by show((dh u).map aj).length*8<=140737488355328;omega,by show((dh u).map aj).length<=maxLen;unfold maxLen;omega,?_⟩;conv=>whnf)|(refine⟨ko,rfl,rfl,rfl,n8,by show(((dh u).map aj).length+1)*8<=140737488355328;omega,by show((dh u).map aj).length+1<=maxLen;unfold maxLen;omega,?_⟩;conv=>whnf)|(refine⟨i,_,rfl,hgt,rfl,?_⟩;conv=>whnf)|(refine⟨_,pb J (l:=dh u ++ [x]) (n:=u*32768+x) (by rw[bW,ay (by simp),dD];rfl) hlen2 hdg2 hv2,?_⟩;conv=>whnf)|(refine⟨_,c2,?_⟩;conv=>whnf)|(refine⟨ko,rfl,rfl,by simp,n8,by show((z::Q).length+1)*8<=140737488355328;omega,by show(z::Q).length+1<=maxLen;unfold maxLen;omega,?_⟩;conv=>whnf)|(refine ap ?_))
   exact⟨⟨(i+1,z::Q ++ [k]),by dsimp only;omega,by dsimp only;omega,hQ2,hQd2,hQl2⟩,by
    show Wk _ (tM l m (hv (l.take (i+1))%d) (i+1) (z::Q ++ [k]));rw[hu3];exact Wk.tab [(1,86)] ⟨ab,ab,⟨wM,rfl⟩,ab,ab,aa⟩ ⟨kg (by simp;rfl),aa⟩ rfl,by dsimp only;omega⟩
 have hil:i=l.length:=by omega
 have e1:hv Q=a/d:=by rw[hQ,hil,cN,hvl]
 have e2:u=a%d:=by rw[<-hu,hil,cN,hvl]
 cases Q with
 |nil=>
  show W J _ _ (aF [(0,.iv (.sl (l.map aj))),(1,.iv (.sl (m.map aj))),(6,.nilS),(7,.iv (.sl ((dh u).map aj))),(8,.iv (.int .i64 (i:Nat)))] [] 60) _;repeat (first|(refine af ?_)|(refine⟨_,pb J (l:=[]) (n:=a/d) rfl (by simp) (Dg.nil _) e1,?_⟩;conv=>whnf)|(refine ap ?_))
  rw[e2];rfl
 |cons z Q=>
  show W J _ _ (aF [(0,.iv (.sl (l.map aj))),(1,.iv (.sl (m.map aj))),(6,.ref 1 0 (z::Q).length true),(7,.iv (.sl ((dh u).map aj))),(8,.iv (.int .i64 (i:Nat)))] [(1,.arr 3 1 ((z::Q).map aj) false)] 60) _;repeat (first|(refine af ?_)|(refine⟨_,pb J (l:=z::Q) (n:=a/d) (by rw[bW,ay (by simp)]) (by omega) hQd e1,?_⟩;conv=>whnf)|(refine ap ?_))
  rw[e2];rfl
def Ef(a d:Nat):lh (a/d)<=lh a:=kJ (mR _ _)
def U8(J:Keep){l:List Nat}(hd:Dg ar l.reverse)(hl:l.length<=4):C J 201 [.sl (l.map aj)] (.int .i64 (hv l:Nat)):=by
 refine aN Tryz.func201 rfl rfl rfl ?_;have la:(l.map aj).length=l.length:=by simp
 have hdt:∀i,Dg ar (l.take i).reverse:=fun i=>by
  intro x hx;exact hd x (by simp only[List.mem_reverse] at hx ⊢;exact dY hx)
 refine aK ?_;refine W.loop (G:={ i:Nat // i<=l.length }) (fun i=>aF [(0,.iv (.sl (l.map aj))),(3,.iv (.int .i64 (hv (l.take i.1):Nat))),(4,.iv (.int .i64 (i.1:Nat)))] [] 20) (fun i=>l.length-i.1) ⟨0,ba _⟩
  (Wk.tab [] ⟨ab,ab,ab,aa⟩ trivial rfl) ?_
 rintro⟨i,hi⟩;show W J _ _ (aF [(0,.iv (.sl (l.map aj))),(3,.iv (.int .i64 (hv (l.take i):Nat))),(4,.iv (.int .i64 (i:Nat)))] [] 20) _;by_cases h:i<l.length
 . have htk:=J4 h;have hb:=Aj (l.take (i+1)) (hdt _);have hb2:ar^(l.take (i+1)).length<=ar^4:=co (by decide) (by rw[bG];omega);have hb3:ar^4=1152921504606846976:=by decide
   repeat (first|(refine af ?_)|(refine⟨i,_,rfl,kq h,rfl,?_⟩;conv=>whnf)|(refine ap ?_))
   exact⟨⟨i+1,by omega⟩,Wk.tab [] ⟨ab,⟨df (by dsimp only;omega),rfl⟩,ab,aa⟩ trivial rfl,by dsimp only;omega⟩
 have e:i=l.length:=by omega
 subst e;refine aK ?_;rw[cN];rfl
def DA(J:Keep){n:Nat}(h:lh n<=4):C J 201 [.sl ((dh n).map aj)] (.int .i64 (n:Nat)):=by
 have:=U8 J (l:=dh n) (fM n).dg h;rwa[eF] at this
def Kz{n:Nat}(h:lh n<=4):n<1152921504606846976:=by
 have h1:=iE n;have h2:ar^lh n<=ar^4:=co (by decide) h;have h3:ar^4=1152921504606846976:=by decide
 omega
def UQ(J:Keep){x y:Int}(hx:lh x.natAbs<2^37)(hy:lh y.natAbs<2^37):C J 145 [zh x,zh y] (zh (Nat.gcd x.natAbs y.natAbs:Nat)):=by
 refine aN Tryz.func145 rfl rfl rfl ?_;refine aK ?_;refine W.loop (G:={ p:Nat×Nat // Nat.gcd p.1 p.2=Nat.gcd x.natAbs y.natAbs/\lh p.1<2^37/\lh p.2<2^37 }) (fun p=>aF [(4,.ptr 2 0),(5,.iv (.sl ((dh p.1.1).map aj))),(6,.iv (.sl ((dh p.1.2).map aj)))] [(2,.var (.agg [.int .i64 0,.sl []]))] 20) (fun p=>p.1.2)
  ⟨(x.natAbs,y.natAbs),rfl,hx,hy⟩ (Wk.tab [] ⟨ab,ab,ab,aa⟩ ⟨rfl,aa⟩ rfl) ?_
 rintro⟨⟨u,v⟩,hg,hu,hv'⟩;dsimp only at hg hu hv';show W J _ _ (aF [(4,.ptr 2 0),(5,.iv (.sl ((dh u).map aj))),(6,.iv (.sl ((dh v).map aj)))] [(2,.var (.agg [.int .i64 0,.sl []]))] 20) _;have lu:((dh u).map aj).length=lh u:=by simp[lh]
 have lv:((dh v).map aj).length=lh v:=by simp[lh]
 by_cases h0:v=0
 . have hl0:lh v=0:=by rw[h0];unfold lh;rw[na];rfl
   have c1:=tu J (n:=u) (s:=1) (.inl rfl);rw[lJ] at c1;repeat (first|(refine af ?_)|(refine⟨_,c1,?_⟩;conv=>whnf)|(refine ap ?_))
   rw[<-hg,h0,FV];rfl
 have hlp:=zK (n:=v) (by omega);have hym:u%v<v:=ib _ (by omega);have hgn:Nat.gcd v (u%v)=Nat.gcd x.natAbs y.natAbs:=by rw[<-hg,sC u v,FX v u,sC]
 have hlm:lh (u%v)<2^37:=jN (kJ (nQ hym)) hv';have hbig:=y8 J (a:=u) (d:=v);by_cases h1:lh u<=4
 .
  by_cases h2:lh v<=4
  .
   have b1:=Kz h1;have b2:=Kz h2;repeat (first|(refine af ?_)|((first|refine⟨_,DA J h1,?_⟩|refine⟨_,DA J h2,?_⟩);conv=>whnf)|(refine ap ?_))
   refine W.loop (G:={ p:Nat×Nat // Nat.gcd p.1 p.2=Nat.gcd x.natAbs y.natAbs/\p.1<1152921504606846976/\p.2<1152921504606846976 }) (fun p=>aF [(4,.ptr 2 0),(7,.iv (.int .i64 (p.1.1:Nat))),(8,.iv (.int .i64 (p.1.2:Nat)))] [(2,.var (.agg [.int .i64 0,.sl []]))] 20) (fun p=>p.1.2)
    ⟨(u,v),hg,b1,b2⟩ (Wk.tab [] ⟨ab,ab,ab,aa⟩ ⟨rfl,aa⟩ rfl) ?_
   rintro⟨⟨n,m⟩,hg2,hn,hm⟩;dsimp only at hg2 hn hm;show W J _ _ (aF [(4,.ptr 2 0),(7,.iv (.int .i64 (n:Nat))),(8,.iv (.int .i64 (m:Nat)))] [(2,.var (.agg [.int .i64 0,.sl []]))] 20) _;by_cases h3:m=0
   . subst h3;repeat (first|(refine af ?_)|(refine⟨_,rk J (z:=(n:Int)),?_⟩;conv=>whnf)|(refine ap ?_))
     rw[<-hg2,FV];rfl
   have hvm:n%m<m:=ib _ (by omega);have hm2:=l9 n m;obtain⟨r,hr⟩:∃r,n%m=r:=⟨_,rfl⟩;rw[hr] at hm2 hvm;repeat (first|(refine af ?_)|(refine⟨by omega,_,hm2,?_⟩;conv=>whnf)|(refine ap ?_))
   exact⟨⟨(m,r),by rw[<-hg2,<-hr,sC n m,FX m n,sC],hm,by dsimp only;omega⟩,Wk.tab [] ⟨ab,ab,ab,aa⟩ ⟨rfl,aa⟩ rfl,hvm⟩
  repeat (first|(refine af ?_)|(refine⟨_,hbig,?_⟩;conv=>whnf)|(refine ap ?_))
  exact⟨⟨(v,u%v),hgn,hv',hlm⟩,Wk.tab [] ⟨ab,ab,ab,aa⟩ ⟨rfl,aa⟩ rfl,hym⟩
 repeat (first|(refine af ?_)|(refine⟨_,hbig,?_⟩;conv=>whnf)|(refine ap ?_))
 exact⟨⟨(v,u%v),hgn,hv',hlm⟩,Wk.tab [] ⟨ab,ab,ab,aa⟩ ⟨rfl,aa⟩ rfl,hym⟩
end Go.Proofs.Fl
namespace Go.Proofs.Dig
def eG(k:Nat):UInt8:=UInt8.ofNat (48+k)
def sX{k:Nat}(h:k<10:=by omega):(eG k).toNat=48+k:=by
 unfold eG;rw[UInt8.toNat_ofNat'];omega
def SD{j k:Nat}(hj:j<10)(hk:k<10)(h:eG j=eG k):j=k:=by
 have:=aL UInt8.toNat h;rw[sX hj,sX hk] at this;omega
def ci:Nat->Nat->List UInt8
 |0,_=>[]
 |w+1,n=>ci w (n/10) ++ [eG (n%10)]
def xZ:∀w n,(ci w n).length=w
 |0,_=>rfl
 |w+1,n=>by simp[ci,xZ w]
def B1:∀w,ci w 0=List.replicate w 48
 |0=>rfl
 |w+1=>by rw[ci,Nat.zero_div,B1 w,List.replicate_succ'];rfl
def BC:∀b a n,ci (a+b) n=ci a (n/10^b)++ci b n
 |0,a,n=>by simp[ci]
 |b+1,a,n=>by
  show ci (a+b) (n/10) ++ [eG (n%10)]=ci a (n/10^(b+1))++(ci b (n/10) ++ [eG (n%10)]);rw[BC b a (n/10),xH,bX,dw 10,dI]
def IZ:∀w n,ci w (n%10^w)=ci w n
 |0,_=>rfl
 |w+1,n=>by
  show ci w (n%10^(w+1)/10) ++ [eG (n%10^(w+1)%10)]=ci w (n/10) ++ [eG (n%10)];have e1:n%10^(w+1)/10=(n/10)%10^w:=by
   rw[bX,dw,Nat.mod_mul_right_div_self]
  have e2:n%10^(w+1)%10=n%10:=by
   rw[bX];exact Nat.mod_mul_left_mod _ _ _
  rw[e1,e2,IZ w]
def br(n:Nat):List UInt8:=if n<10 then [eG n] else br (n/10) ++ [eG (n%10)]
def kF{n:Nat}(h:n<10:=by decide):br n=[eG n]:=by rw[br,au h]
def q8{n:Nat}(h:10<=n:=by omega):br n=br (n/10) ++ [eG (n%10)]:=by rw[br,aq (by omega)]
def DC(n:Nat):br n≠[]:=by
 rw[br];split<;>simp
def PG(n:Nat):∀c∈br n,48<=c.toNat/\c.toNat<=57:=by
 induction n using Nat.strongRecOn with
 |_ n ih=>
  intro c hc;by_cases h:n<10
  . rw[kF h] at hc;simp at hc;subst hc;rw[sX h];omega
  rw[q8] at hc;rcases List.mem_append.1 hc with hc|hc
  . exact ih (n/10) (by omega) c hc
  simp at hc;subst hc;rw[sX];omega
def I0:∀w n,0<n->n<10^w->(ci w n).dropWhile (· == 48)=br n
 |0,n,h,h'=>by simp at h';omega
 |w+1,n,h,h'=>by
  have hd:∀(l:List UInt8) (x:UInt8),l.dropWhile (· == 48)≠[]->(l ++ [x]).dropWhile (· == 48)=l.dropWhile (· == 48) ++ [x]:=by
   intro l x hl;induction l with
   |nil=>exact absurd rfl hl
   |cons y l ih=>
    rw[lC,Of,Of];rw[Of] at hl;split
    . rename_i hy;rw[au hy] at hl;exact ih hl
    rfl
  by_cases hs:n<10
  .
   have e:n/10=0:=by omega
   have em:n%10=n:=by omega
   rw[kF hs,ci,e,em,B1];have hz:∀w,(List.replicate w (48:UInt8) ++ [eG n]).dropWhile (· == 48)=[eG n]:=by
    intro w;induction w with
    |zero=>
     have:(eG n==48)=false:=by
      rw[xI];intro e;have:=SD hs (show 0<10 by omega) e;omega
     simp[this]
    |succ w ih=>rw[qA,lC,List.dropWhile_cons_of_pos rfl];exact ih
   exact hz w
  have ih:=I0 w (n/10) (by omega) (by rw[bX] at h';omega);rw[q8,ci,hd _ _ (by rw[ih];exact DC _),ih]
def Qb{q r:Nat}(b:Nat)(hq:0<q)(hr:r<10^b):br (q*10^b+r)=br q++ci b r:=by
 induction b generalizing r with
 |zero=>simp at hr;subst hr;simp[ci]
 |succ b ih=>
  have h1:10<=q*10^(b+1)+r:=by
   have:1*10^(b+1)<=q*10^(b+1):=cL _ hq;have h2:10<=10^(b+1):=by
    have:10^1<=10^(b+1):=co (by decide) (by omega);omega
   omega
  have e1:(q*10^(b+1)+r)/10=q*10^b+r/10:=by
   rw[bX,<-eC];omega
  have e2:(q*10^(b+1)+r)%10=r%10:=by
   rw[bX,<-eC];omega
  rw[q8 h1,e1,e2,ih (by rw[bX] at hr;omega),ci,dI]
def dv(s:List UInt8):Nat:=s.foldl (fun a c=>a*10+(c.toNat-48)) 0
def Vf(s:List UInt8)(c:UInt8):dv (s ++ [c])=dv s*10+(c.toNat-48):=by simp[dv]
def K1(n:Nat):dv (br n)=n:=by
 induction n using Nat.strongRecOn with
 |_ n ih=>
  by_cases h:n<10
  . rw[kF h];show 0*10+((eG n).toNat-48)=n;rw[sX h];omega
  rw[q8,Vf,ih (n/10) (by omega),sX];omega
def yC{n m:Nat}(h:br n=br m):n=m:=by rw[<-K1 n,<-K1 m,h]
end Go.Proofs.Dig
namespace Go.Proofs.Fl
open Go.RowKit Go.Proofs.Dig
attribute [local irreducible] IntKind.wrap aW bc bj bm
def LQ:lh 1<=1:=kQ
def eE(z:Int):List UInt8:=(if z<0 then [45] else [])++br z.natAbs
def SE:(dh 10000).map aj=[.int .i64 10000]:=by
 rw[<-Ak (l:=[10000]) (n:=10000) ⟨by intro d hd;simp at hd;subst hd;decide,by intro d hd;simp at hd;omega⟩ rfl];rfl
def Vh{k:Nat}(h:k<10):(List.take (k+1) [48,49,50,51,52,53,54,55,56,57]).drop k=[eG k]:=by
 have:∀k:Fin 10,(List.take (k.1+1) [48,49,50,51,52,53,54,55,56,57]).drop k.1=[eG k.1]:=by decide
 exact this ⟨k,h⟩
def strE{a b:List UInt8}(h:a=b):SV.iv (.str a)=SV.iv (.str b):=by rw[h]
def Rt{N t:Nat}(h:0<N/10^(4*t)):t<=2*lh N:=by
 have h1:10^(4*t)<=N:=by
  apply ia;intro hc;rw[mQ (by omega)] at h;omega
 have h2:=iE N;have h3:ar^lh N<=10^(8*lh N):=by
  rw[A5];exact A6 (by decide) _
 apply ia;intro hc;have h4:10^(8*lh N)<=10^(4*t):=co (by decide) (by omega);omega
def KX(J:Keep){z:Int}(hz:lh z.natAbs<2^36):C J 207 [zh z] (.str (eE z)):=by
 refine aN Tryz.func207 rfl rfl rfl ?_;have sz:=pD z;by_cases h0:z.sign=0
 . have e:z=0:=Int.sign_eq_zero_iff_zero.1 h0;refine aK ?_;rw[e];show IV.str [48]=IV.str (eE 0);unfold eE;rw[aq (by omega),lF,kF];rfl
 have hz0:z≠0:=fun e=>h0 (by rw[e];rfl);obtain⟨N,hN⟩:∃N,z.natAbs=N:=⟨_,rfl⟩;have hN0:0<N:=by omega
 rw[hN] at hz;show W J _ _ ⟨argS [.agg [.int .i64 z.sign,.sl ((dh z.natAbs).map aj)]],fun _=>none,0⟩ _;rw[hN];refine aK ?_;refine W.loop (G:={ t:Nat // t<=2*lh N+1 }) (fun t=>aF [(1,.ptr 0 0),(3,.iv (.str (ci (4*t.1) N))),(4,.iv (.sl ((dh (N/10^(4*t.1))).map aj)))] [(0,.var (.agg [.int .i64 z.sign,.sl ((dh N).map aj)]))] 30) (fun t=>N/10^(4*t.1)) ⟨0,ba _⟩
  (Wk.tab [] ⟨ab,ab,⟨ER (by dsimp only;rw[jP,qJ,oJ]),rfl⟩,aa⟩ ⟨rfl,aa⟩ rfl) ?_
 rintro⟨t,ht⟩;show W J _ _ (aF [(1,.ptr 0 0),(3,.iv (.str (ci (4*t) N))),(4,.iv (.sl ((dh (N/10^(4*t))).map aj)))] [(0,.var (.agg [.int .i64 z.sign,.sl ((dh N).map aj)]))] 30) _;obtain⟨v,hv'⟩:∃v,N/10^(4*t)=v:=⟨_,rfl⟩;rw[hv'];have lv:((dh v).map aj).length=lh v:=by simp[lh]
 have hlv:lh v<=lh N:=by rw[<-hv'];exact Ef _ _
 by_cases hv0:0<v
 .
  have hlp:=zK hv0;have hts:=Rt (N:=N) (t:=t) (by omega);have hl1:lh 10000<=1:=kQ;have c1:=y8 J (a:=v) (d:=10000) (by decide);rw[SE] at c1;have hr:v%10000<10000:=ib _ (by decide);have c2:=DA J (n:=v%10000) (bf (kJ (nQ hr)) (by omega));obtain⟨r,hre⟩:∃r,v%10000=r:=⟨_,rfl⟩;rw[hre] at hr c1 c2;repeat (first|(refine af ?_)|((first|refine⟨_,c1,?_⟩|refine⟨_,c2,?_⟩);conv=>whnf)|(refine ap ?_))
  refine W.loop (G:={ i:Nat // i<=4 }) (fun i=>aF [(1,.ptr 0 0),(3,.iv (.str (ci i.1 r++ci (4*t) N))),(5,.iv (.sl ((dh (v/10000)).map aj))),(7,.iv (.int .i64 (r/10^i.1:Nat))),(8,.iv (.int .i64 (i.1:Nat)))] [(0,.var (.agg [.int .i64 z.sign,.sl ((dh N).map aj)]))] 60) (fun i=>4-i.1) ⟨0,by omega⟩
   (Wk.tab [] ⟨ab,ab,ab,⟨df (by dsimp only;rw[qJ,oJ]),rfl⟩,ab,aa⟩ ⟨rfl,aa⟩ rfl) ?_
  rintro⟨i,hi⟩;show W J _ _ (aF [(1,.ptr 0 0),(3,.iv (.str (ci i r++ci (4*t) N))),(5,.iv (.sl ((dh (v/10000)).map aj))),(7,.iv (.int .i64 (r/10^i:Nat))),(8,.iv (.int .i64 (i:Nat)))] [(0,.var (.agg [.int .i64 z.sign,.sl ((dh N).map aj)]))] 60) _;by_cases hi4:i<4
  .
   obtain⟨q,hq⟩:∃q,r/10^i=q:=⟨_,rfl⟩;have hqr:q<=r:=by rw[<-hq];exact mR _ _
   have hm:(q:Int).tmod 10=((q%10:Nat):Int):=l9 q 10;have hq2:IntKind.wrap .i64 ((q:Int).tdiv 10)=((q/10:Nat):Int):=by
    rw[show(10:Int)=((10:Nat):Int) from rfl,nk];exact cZ
   have hk:q%10<10:=ib _ (by decide);have hds:=Vh hk;have hq3:r/10^(i+1)=q/10:=by rw[bX,<-xH,hq]
   have hpw:ci (i+1) r=[eG (q%10)]++ci i r:=by
    rw[uG i 1,BC,hq];rfl
   have l1:=xZ i r;have l2:=xZ (4*t) N;have hlen:(ci i r++ci (4*t) N).length=i+4*t:=by rw[bg,l1,l2]
   obtain⟨k,hke⟩:∃k,q%10=k:=⟨_,rfl⟩;rw[hke] at hm hk hds hpw;rw[hq];repeat (first|(refine af ?_)|((first|refine⟨by omega,_,hm,?_⟩|refine⟨by omega,_,hq2,?_⟩|refine⟨k+1,by omega,?_⟩|refine⟨k,rfl,?_⟩);conv=>whnf)|(refine⟨by omega,by show k+1<=10;omega,?_⟩;conv=>whnf)|(refine⟨by show(List.drop k (List.take (k+1) [48,49,50,51,52,53,54,55,56,57])).length+(ci i r++ci (4*t) N).length<=9223372036854775807;rw[hds,hlen];simp only[xv];omega,?_⟩;conv=>whnf)|(refine ap ?_))
   refine⟨⟨i+1,by omega⟩,Wk.tab [] ⟨ab,⟨strE ?_,rfl⟩,ab,⟨df ?_,rfl⟩,ab,aa⟩ ⟨rfl,aa⟩ rfl,by dsimp only;omega⟩
   . dsimp only;rw[hpw,dI,<-hds]
   dsimp only;rw[hq3]
  have e4:i=4:=by omega
  subst e4;refine aK ?_;refine⟨⟨t+1,by omega⟩,Wk.tab [] ⟨ab,⟨strE ?_,rfl⟩,⟨ER ?_,rfl⟩,aa⟩ ⟨rfl,aa⟩ rfl,?_⟩
  . dsimp only;rw[show 4*(t+1)=4+4*t by omega,BC,hv',<-IZ 4 v,<-hre]
  . dsimp only;rw[show 4*(t+1)=4*t+4 by omega,iX,<-xH,hv']
  dsimp only;rw[show 4*(t+1)=4*t+4 by omega,iX,<-xH,hv'];show v/10000<v;exact FO hv0 (by decide)
 have hv1:v=0:=by omega
 have hlt:N<10^(4*t):=by
  apply ia;intro hc;have:0<N/10^(4*t):=Nat.div_pos (by omega) (gB (by decide));omega
 have hl0:lh v=0:=by rw[hv1];unfold lh;rw[na];rfl
 have hdw:=I0 (4*t) N hN0 hlt;have hpl:=xZ (4*t) N;refine aK ?_;refine W.loop (G:={ s:List UInt8 // s.dropWhile (· == 48)=br N/\s.length<=4*t }) (fun s=>aF [(1,.ptr 0 0),(3,.iv (.str s.1))] [(0,.var (.agg [.int .i64 z.sign,.sl ((dh N).map aj)]))] 60) (fun s=>s.1.length) ⟨ci (4*t) N,hdw,by rw[hpl];exact ah _⟩
  (Wk.tab [] ⟨ab,ab,aa⟩ ⟨rfl,aa⟩ rfl) ?_
 rintro⟨s,hs,hsl⟩;show W J _ _ (aF [(1,.ptr 0 0),(3,.iv (.str s))] [(0,.var (.agg [.int .i64 z.sign,.sl ((dh N).map aj)]))] 60) _;cases s with
 |nil=>exact absurd hs.symm (DC N)
 |cons c s=>
  by_cases hc:c=48
  .
   subst hc;repeat (first|(refine af ?_)|((first|refine⟨0,48,rfl,rfl,?_⟩|refine⟨Nat.succ_le_succ (ba _),ah _,?_⟩|refine⟨_,kU _,?_⟩);conv=>whnf)|(refine ap ?_))
   refine⟨⟨s,by rw[<-hs];rfl,by simp at hsl;omega⟩,Wk.tab [] ⟨ab,⟨strE ?_,rfl⟩,aa⟩ ⟨rfl,aa⟩ rfl,?_⟩
   . simp
   simp
  have hcn:c.toNat≠48:=fun e=>hc (UInt8.toNat_inj.1 e);have hse:c::s=br N:=by
   rw[<-hs,List.dropWhile_cons_of_neg];simpa using hc
  have hct:(c.toNat:Int)≠48:=by exact fun e=>hcn (Int.ofNat.inj e)
  by_cases hneg:z.sign<0
  . have hzn:z<0:=Int.sign_eq_neg_one_iff_neg.1 (by omega);repeat (first|(refine af ?_)|(refine⟨0,c,rfl,rfl,?_⟩;conv=>whnf)|(refine⟨by show 1+(c::s).length<=9223372036854775807;omega,?_⟩;conv=>whnf)|(refine ap ?_))
    rw[hse];show IV.str ([45]++br N)=_;unfold eE;rw[au hzn,hN]
  have hzn:¬z<0:=fun h=>hneg (by rw[lH h];omega);repeat (first|(refine af ?_)|(refine⟨0,c,rfl,rfl,?_⟩;conv=>whnf)|(refine ap ?_))
  rw[hse];unfold eE;rw[aq hzn,hN];rfl
noncomputable abbrev fx(q:Rat)(d1 d2:IV):IV:=.agg [.int .i64 q.num.sign,.sl ((dh q.num.natAbs).map aj),d1,d2]
noncomputable abbrev rr(q:Rat):IV:=fx q (.int .i64 1) (.sl ((dh q.den).map aj))
def DOk(q:Rat)(d1 d2:IV):Prop:=(d1=.int .i64 1/\d2=.sl ((dh q.den).map aj))\/(d1=.int .i64 0/\d2=.sl []/\q=0)
def g5(q:Rat):DOk q (.int .i64 1) (.sl ((dh q.den).map aj)):=.inl ⟨rfl,rfl⟩
def Ka:fx 0 (.int .i64 0) (.sl [])=.agg [.int .i64 0,.sl [],.int .i64 0,.sl []]:=by
 show IV.agg [.int .i64 0,.sl ((dh 0).map aj),.int .i64 0,.sl []]=_;rw[na];rfl
noncomputable def rl(q:Rat):Nat:=lh q.num.natAbs+lh q.den
def lS(J:Keep){q:Rat}{d1 d2:IV}(hd:DOk q d1 d2):C J 82 [fx q d1 d2] (zh (q.den:Int)):=by
 refine aN Tryz.func82 rfl rfl rfl ?_;rcases hd with⟨rfl,rfl⟩|⟨rfl,rfl,rfl⟩
 . refine aK ?_;rw[pB (dZ q)];rfl
 repeat (first|(refine af ?_)|(refine⟨_,rk J (z:=1),?_⟩;conv=>whnf)|(refine ap ?_))
 rfl
def yo{g:Nat}(h0:0<g:=by decide)(h:g<32768:=by decide):dh g=[g]:=by
 symm;refine Ak ⟨by intro d hd;simp at hd;subst hd;exact h,by intro d hd;simp at hd;omega⟩ ?_;simp[hv,nv]
def S8{z:Int}{n g:Nat}(h:n=z.natAbs/g)(h0:z=0->n=0):z.sign*(n:Int)=sv (decide (z<0)) n:=by
 unfold sv;rcases uR z 0 with h1|h1|h1
 . rw[lH h1,bB h1];simp
 . rw[h0 h1];simp
 rw[jQ h1,bE (by omega)];simp
def QD(J:Keep){z:Int}{d:Nat}(hd:0<d)(hz:lh z.natAbs<2^36)(hl:lh d<2^36):C J 145 [zh z,zh (d:Int)] (zh (Nat.gcd z.natAbs d:Nat)):=by
 have:=UQ J (x:=z) (y:=(d:Int)) (by omega) (by rw[dP];omega);rwa[dP] at this
def Dz(J:Keep){z:Int}{d:Nat}(hd:0<d)(hz:lh z.natAbs<2^36)(hl:lh d<2^36){x y:IV}(c0:(x=zh z/\y=zh (d:Int))\/(x=zh (-z)/\y=zh (-(d:Int)))):C J 80 [x,y] (rr (mkRat z d)):=by
 obtain⟨g,hg⟩:∃g,Nat.gcd z.natAbs d=g:=⟨_,rfl⟩;have hg0:0<g:=by rw[<-hg];exact Nat.gcd_pos_of_pos_right _ hd
 have hgd:g∣d:=by rw[<-hg];exact Nat.gcd_dvd_right _ _
 have hgn:g<=d:=Nat.le_of_dvd hd hgd;have hlg:lh g<=lh d:=kJ hgn;have hdg:1<=d/g:=(FU hg0).2 hgn;have c1:=QD J hd hz hl;rw[hg] at c1;have hnum:=qU (z:=z) hd;have hden:=s0 (z:=z) hd;rw[hg] at hnum hden;have l1:=Ef z.natAbs g;have l2:=Ef d g;have hsn:=S8 (z:=z) (n:=z.natAbs/g) (g:=g) rfl (fun h=>by rw[h];simp);have c2:=y8 J (a:=z.natAbs) (d:=g) hg0;have c3:=y8 J (a:=d) (d:=g) hg0;have c4:=tu J (n:=z.natAbs/g) (s:=z.sign) (by
  have:=pD z;rcases uR z 0 with h1|h1|h1
  . right;left;exact lH h1
  . right;right;rw[h1];simp
  left;exact jQ h1)
 rw[hsn,<-hnum] at c4;have c5:=tu J (n:=d/g) (s:=1) (.inl rfl);rw[lJ,pB (n:=d/g) (by omega)] at c5;have n1:=y9 J (-z);have n2:=y9 J (-(d:Int));rw[Int.neg_neg] at n1 n2;have hds:(d:Int).sign=1:=jQ (by omega);have hds2:(-(d:Int)).sign = -1:=lH (by omega);refine aN Tryz.func80 rfl rfl rfl ?_;rcases c0 with⟨rfl,rfl⟩|⟨rfl,rfl⟩
 .
  refine W.RS ?_;conv=>whnf
  refine W.join (G:=Unit) (fun _=>aF [(2,.ptr 0 0),(3,.ptr 1 0),(4,.ptr 2 0)] [(0,.var (zh z)),(1,.var (zh (d:Int))),(2,.var (fx 0 (.int .i64 0) (.sl [])))] 30) ?_ ?_
  . repeat (first|(refine af ?_)|(refine W.condF rfl ?_)|(refine ap ?_))
    exact⟨(),Wk.tab [] ⟨ab,ab,ab,aa⟩ ⟨rfl,rfl,by rw[Ka];rfl,aa⟩ rfl⟩
  rintro⟨⟩
  try dsimp only
  by_cases h1:g=1
  .
   have e1:(dh g).map aj=[.int .i64 1]:=by rw[h1,yo];rfl
   have e2:zh (g:Int)=.agg [.int .i64 1,.sl [.int .i64 1]]:=by rw[pB hg0,e1]
   rw[e2] at c1;have z1:(mkRat z d).num=z:=by rw[hnum,h1,oJ,pf]
   have d1:(mkRat z d).den=d:=by rw[hden,h1,oJ]
   repeat (first|(refine af ?_)|((first|refine⟨_,c1,?_⟩|refine⟨0,_,rfl,rfl,rfl,?_⟩|refine⟨_,kU _,?_⟩);conv=>whnf)|(refine ap ?_))
   show IV.agg [.int .i64 z.sign,.sl ((dh z.natAbs).map aj),.int .i64 (d:Int).sign,.sl ((dh (d:Int).natAbs).map aj)]=_;rw[rr,fx,z1,d1,hds,dP]
  rw[pB hg0] at c1;have hfin:IV.agg [.int .i64 (mkRat z d).num.sign,.sl ((dh (mkRat z d).num.natAbs).map aj),.int .i64 1,.sl ((dh (d/g)).map aj)]=rr (mkRat z d):=by
   rw[rr,fx,hden]
  have lg:((dh g).map aj).length=lh g:=by simp[lh]
  by_cases h2:lh g=1
  .
   have hg2:g<32768:=by
    have:=iE g;rw[h2,sA] at this;exact this
   have e1:(dh g).map aj=[.int .i64 (g:Nat)]:=by rw[yo hg0 hg2];rfl
   rw[e1] at c1 c2 c3;repeat (first|(refine af ?_)|((first|refine⟨_,c1,?_⟩|refine⟨_,c2,?_⟩|refine⟨_,c3,?_⟩|refine⟨_,c4,?_⟩|refine⟨_,c5,?_⟩|refine⟨0,_,rfl,rfl,rfl,?_⟩|refine⟨_,kU _,?_⟩);conv=>whnf)|(refine ap ?_))
   exact hfin
  repeat (first|(refine af ?_)|((first|refine⟨_,c1,?_⟩|refine⟨_,c2,?_⟩|refine⟨_,c3,?_⟩|refine⟨_,c4,?_⟩|refine⟨_,c5,?_⟩);conv=>whnf)|(refine ap ?_))
  exact hfin
 refine W.RS ?_;conv=>whnf
 refine W.join (G:=Unit) (fun _=>aF [(2,.ptr 0 0),(3,.ptr 1 0),(4,.ptr 2 0)] [(0,.var (zh z)),(1,.var (zh (d:Int))),(2,.var (fx 0 (.int .i64 0) (.sl [])))] 30) ?_ ?_
 . repeat (first|(refine af ?_)|(refine W.condT rfl ?_)|((first|refine⟨_,n1,?_⟩|refine⟨_,n2,?_⟩);conv=>whnf)|(refine ap ?_))
   exact⟨(),Wk.tab [] ⟨ab,ab,ab,aa⟩ ⟨rfl,rfl,by rw[Ka];rfl,aa⟩ rfl⟩
 rintro⟨⟩
 try dsimp only
 by_cases h1:g=1
 .
  have e1:(dh g).map aj=[.int .i64 1]:=by rw[h1,yo];rfl
  have e2:zh (g:Int)=.agg [.int .i64 1,.sl [.int .i64 1]]:=by rw[pB hg0,e1]
  rw[e2] at c1;have z1:(mkRat z d).num=z:=by rw[hnum,h1,oJ,pf]
  have d1:(mkRat z d).den=d:=by rw[hden,h1,oJ]
  repeat (first|(refine af ?_)|((first|refine⟨_,c1,?_⟩|refine⟨0,_,rfl,rfl,rfl,?_⟩|refine⟨_,kU _,?_⟩);conv=>whnf)|(refine ap ?_))
  show IV.agg [.int .i64 z.sign,.sl ((dh z.natAbs).map aj),.int .i64 (d:Int).sign,.sl ((dh (d:Int).natAbs).map aj)]=_;rw[rr,fx,z1,d1,hds,dP]
 rw[pB hg0] at c1;have hfin:IV.agg [.int .i64 (mkRat z d).num.sign,.sl ((dh (mkRat z d).num.natAbs).map aj),.int .i64 1,.sl ((dh (d/g)).map aj)]=rr (mkRat z d):=by
  rw[rr,fx,hden]
 have lg:((dh g).map aj).length=lh g:=by simp[lh]
 by_cases h2:lh g=1
 .
  have hg2:g<32768:=by
   have:=iE g;rw[h2,sA] at this;exact this
  have e1:(dh g).map aj=[.int .i64 (g:Nat)]:=by rw[yo hg0 hg2];rfl
  rw[e1] at c1 c2 c3;repeat (first|(refine af ?_)|((first|refine⟨_,c1,?_⟩|refine⟨_,c2,?_⟩|refine⟨_,c3,?_⟩|refine⟨_,c4,?_⟩|refine⟨_,c5,?_⟩|refine⟨0,_,rfl,rfl,rfl,?_⟩|refine⟨_,kU _,?_⟩);conv=>whnf)|(refine ap ?_))
  exact hfin
 repeat (first|(refine af ?_)|((first|refine⟨_,c1,?_⟩|refine⟨_,c2,?_⟩|refine⟨_,c3,?_⟩|refine⟨_,c4,?_⟩|refine⟨_,c5,?_⟩);conv=>whnf)|(refine ap ?_))
 exact hfin
def RO{z:Int}{d:Nat}(hd:0<d):rl (mkRat z d)<=lh z.natAbs+lh d:=by
 unfold rl;rw[qU hd,s0 hd];have h1:(sv (decide (z<0)) (z.natAbs/Nat.gcd z.natAbs d)).natAbs<=z.natAbs:=by
  have h2:=mR z.natAbs (Nat.gcd z.natAbs d);generalize z.natAbs/Nat.gcd z.natAbs d=t at h2 ⊢;unfold sv;split<;>omega
 have h2:=kJ h1;have h3:=kJ (mR d (Nat.gcd z.natAbs d));omega
def LD(a b:Rat):rl (a*b)<=rl a+rl b:=by
 rw[uQ];have h:=RO (z:=a.num*b.num) (d:=a.den*b.den) (oI (dZ a) (dZ b));have h1:=lY a.num.natAbs b.num.natAbs;have h2:=lY a.den b.den;rw[eU] at h;unfold rl at *;omega
def LE(z:Int):rl (z:Rat)<=lh z.natAbs+1:=by
 show lh z.natAbs+lh 1<=_;have:=LQ;omega
def mw(n:Nat):lh (n:Int).natAbs=lh n:=by rw[dP]
def LY(J:Keep){z:Int}(h1 : -9223372036854775808<=z)(h2:z<=9223372036854775807):C J 83 [.int .i64 z] (rr (z:Rat)):=by
 refine aN Tryz.func83 rfl rfl rfl ?_;repeat (first|(refine af ?_)|((first|refine⟨_,rk J h1 h2,?_⟩|refine⟨_,rk J (z:=1),?_⟩);conv=>whnf))
 show IV.agg [.int .i64 z.sign,.sl ((dh z.natAbs).map aj),.int .i64 (1:Int).sign,.sl ((dh (1:Int).natAbs).map aj)]=_;rfl
def HD{n d:Int}(hd:d≠0):mkRat (n*d.sign) d.natAbs=(n:Rat)/(d:Rat):=by
 rw[<-Rat.divInt_eq_div];rcases uR d 0 with h|h|h
 . obtain⟨k,rfl⟩:∃k:Nat,d = -((k:Nat):Int):=⟨d.natAbs,by omega⟩;rw[lH h,xD,dP,Rat.divInt_neg',Og,FY,F5]
 . exact absurd h hd
 obtain⟨k,rfl⟩:∃k:Nat,d=((k:Nat):Int):=⟨d.natAbs,by omega⟩;rw[jQ h,dP,F5,Og]
def Jz(J:Keep){n d:Int}(hd:d≠0)(hz:lh n.natAbs<2^36)(hl:lh d.natAbs<2^36):C J 80 [zh n,zh d] (rr ((n:Rat)/(d:Rat))):=by
 rw[<-HD hd];have hs:(n*d.sign).natAbs=n.natAbs:=by
  rw[eU];rcases uR d 0 with h|h|h
  . rw[lH h];simp
  . exact absurd h hd
  rw[jQ h];simp
 refine Dz J (z:=n*d.sign) (d:=d.natAbs) (by omega) (by rw[hs];exact hz) hl ?_;rcases uR d 0 with h|h|h
 . right;rw[lH h];exact⟨by rw[FY,F5,Int.neg_neg],ov⟩
 . exact absurd h hd
 left;rw[jQ h];exact⟨by rw[F5],ov⟩
def Ww(J:Keep){n d:Int}(h1 : -9223372036854775808<=n)(h2:n<=9223372036854775807)(h3 : -9223372036854775808<=d)(h4:d<=9223372036854775807)(hd:d≠0):C J 135 [.int .i64 n,.int .i64 d] (rr ((n:Rat)/(d:Rat))):=by
 refine aN Tryz.func135 rfl rfl rfl ?_;have l:∀z:Int,-9223372036854775808<=z->z<=9223372036854775807->lh z.natAbs<=5:=fun z a b=>kQ (by
  have:ar^5=37778931862957161709568:=by decide
  omega)
 have l1:=l n h1 h2;have l2:=l d h3 h4;have c:=Jz J (n:=n) hd (by omega) (by omega);repeat (first|(refine af ?_)|((first|refine⟨_,rk J h1 h2,?_⟩|refine⟨_,rk J h3 h4,?_⟩|refine⟨_,c,?_⟩);conv=>whnf))
 rfl
section
variable {a b:Rat}{d1 d2 e1 e2:IV}
def Wq(J:Keep)(hd:DOk a d1 d2)(he:DOk b e1 e2)(ha:rl a<2^34)(hb:rl b<2^34):C J 86 [fx a d1 d2,fx b e1 e2] (rr (a+b)):=by
 refine aN Tryz.func86 rfl rfl rfl ?_;unfold rl at ha hb;have l1:=lY a.num.natAbs b.den;have l2:=lY b.num.natAbs a.den;have l3:=lY a.den b.den;have e1':(a.num*(b.den:Int)).natAbs=a.num.natAbs*b.den:=by rw[eU,dP]
 have e2':(b.num*(a.den:Int)).natAbs=b.num.natAbs*a.den:=by rw[eU,dP]
 have c1:=m7 J (x:=a.num) (y:=(b.den:Int)) (by omega) (by rw[mw];omega);have c2:=m7 J (x:=b.num) (y:=(a.den:Int)) (by omega) (by rw[mw];omega);have c3:=m7 J (x:=(a.den:Int)) (y:=(b.den:Int)) (by rw[mw];omega) (by rw[mw];omega);have c4:=KS J (x:=a.num*(b.den:Int)) (y:=b.num*(a.den:Int)) (by rw[e1'];omega) (by rw[e2'];omega);have h3:=LR (a.num.natAbs*b.den) (b.num.natAbs*a.den);have h4:(a.num*(b.den:Int)+b.num*(a.den:Int)).natAbs<=a.num.natAbs*b.den+b.num.natAbs*a.den:=by
  rw[<-e1',<-e2'];exact Oa _ _
 have h5:=kJ h4;have c5:=Dz J (z:=a.num*(b.den:Int)+b.num*(a.den:Int)) (d:=a.den*b.den) (oI (dZ a) (dZ b)) (by omega) (by omega) (.inl ⟨rfl,rfl⟩);rw[<-Rat.add_def',kB] at c5;repeat (first|(refine af ?_)|((first|refine⟨_,lS J hd,?_⟩|refine⟨_,lS J he,?_⟩|refine⟨_,c1,?_⟩|refine⟨_,c2,?_⟩|refine⟨_,c3,?_⟩|refine⟨_,c4,?_⟩|refine⟨_,c5,?_⟩|refine xr ?_);conv=>whnf))
 rfl
def Wp(J:Keep)(hd:DOk a d1 d2):C J 40 [fx a d1 d2] (rr (-a)):=by
 refine aN Tryz.func40 rfl rfl rfl ?_;repeat (first|(refine af ?_)|((first|refine⟨_,y9 J a.num,?_⟩|refine⟨_,lS J hd,?_⟩|refine xr ?_);conv=>whnf))
 show IV.agg [.int .i64 (-a.num).sign,.sl ((dh (-a.num).natAbs).map aj),.int .i64 (a.den:Int).sign,.sl ((dh (a.den:Int).natAbs).map aj)]=_;rw[rr,fx,A7,F1,jQ (a:=(a.den:Int)) (by have:=dZ a;omega),dP a.den]
def wj(J:Keep)(hd:DOk a d1 d2)(he:DOk b e1 e2)(ha:rl a<2^34:=by omega)(hb:rl b<2^34:=by omega):C J 39 [fx a d1 d2,fx b e1 e2] (rr (a*b)):=by
 refine aN Tryz.func39 rfl rfl rfl ?_;unfold rl at ha hb;have l1:=lY a.num.natAbs b.num.natAbs;have l3:=lY a.den b.den;have c1:=m7 J (x:=a.num) (y:=b.num);have c3:=m7 J (x:=(a.den:Int)) (y:=(b.den:Int)) (by rw[mw];omega) (by rw[mw];omega);have c5:=Dz J (z:=a.num*b.num) (d:=a.den*b.den) (oI (dZ a) (dZ b)) (by rw[eU];omega) (by omega) (.inl ⟨rfl,rfl⟩);rw[<-uQ,kB] at c5;repeat (first|(refine af ?_)|((first|refine⟨_,lS J hd,?_⟩|refine⟨_,lS J he,?_⟩|refine⟨_,c1,?_⟩|refine⟨_,c3,?_⟩|refine⟨_,c5,?_⟩|refine xr ?_);conv=>whnf))
 rfl
def Pp(a b:Rat)(hb:b≠0):((a.num*(b.den:Int):Int):Rat)/(((a.den:Int)*b.num:Int):Rat)=a/b:=by
 have hn0:b.num≠0:=fun e=>hb (Rat.num_eq_zero.1 e);have hd0:(a.den:Int)*b.num≠0:=Int.mul_ne_zero (by have:=dZ a;omega) hn0;rw[<-HD hd0,Int.sign_mul,jQ (show(0:Int)<(a.den:Int) by have:=dZ a;omega),lJ,eU,dP];have hi:b⁻¹.num=b.num.sign*(b.den:Int)/\b⁻¹.den=b.num.natAbs:=by
  show(Rat.inv b).num=_/\(Rat.inv b).den=_;unfold Rat.inv;split
  . rename_i h;rw[lH h];simp
  split
  . rename_i h;rw[jQ h];simp
  omega
 rw[A8,uQ,hi.1,hi.2];congr 1;rw[F3,Int.mul_comm (b.den:Int)]
def Ws(J:Keep)(hd:DOk a d1 d2)(he:DOk b e1 e2)(ha:rl a<2^34)(hb:rl b<2^34)(hb0:b≠0):C J 37 [fx a d1 d2,fx b e1 e2] (rr (a/b)):=by
 refine aN Tryz.func37 rfl rfl rfl ?_;unfold rl at ha hb;have hn0:b.num≠0:=fun e=>hb0 (Rat.num_eq_zero.1 e);have hd0:(a.den:Int)*b.num≠0:=Int.mul_ne_zero (by have:=dZ a;omega) hn0;have l1:=lY a.num.natAbs b.den;have l3:=lY a.den b.num.natAbs;have c1:=m7 J (x:=a.num) (y:=(b.den:Int)) (by omega) (by rw[mw];omega);have c3:=m7 J (x:=(a.den:Int)) (y:=b.num) (by rw[mw];omega);have c5:=Jz J (n:=a.num*(b.den:Int)) (d:=(a.den:Int)*b.num) hd0 (by rw[eU,dP];omega) (by rw[eU,dP];omega);rw[Pp a b hb0] at c5;repeat (first|(refine af ?_)|((first|refine⟨_,lS J hd,?_⟩|refine⟨_,lS J he,?_⟩|refine⟨_,c1,?_⟩|refine⟨_,c3,?_⟩|refine⟨_,c5,?_⟩|refine xr ?_);conv=>whnf))
 rfl
def Rl(x y:Int):a7 x y=(x-y).sign:=by
 unfold a7;split
 . rw[lH (by omega)]
 split
 . rw[jQ (by omega)]
 rw[show x-y=0 by omega];rfl
def Wx(J:Keep)(hd:DOk a d1 d2)(he:DOk b e1 e2)(ha:rl a<2^34)(hb:rl b<2^34):C J 149 [fx a d1 d2,fx b e1 e2] (.int .i64 (cw a b)):=by
 refine aN Tryz.func149 rfl rfl rfl ?_;unfold rl at ha hb;have l1:=lY a.num.natAbs b.den;have l2:=lY b.num.natAbs a.den;have c1:=m7 J (x:=a.num) (y:=(b.den:Int)) (by omega) (by rw[mw];omega);have c2:=m7 J (x:=b.num) (y:=(a.den:Int)) (by omega) (by rw[mw];omega);have c3:=U9 J (x:=a.num*(b.den:Int)) (y:=b.num*(a.den:Int)) (by rw[eU,dP];omega) (by rw[eU,dP];omega);rw[<-Rl] at c3;repeat (first|(refine af ?_)|((first|refine⟨_,lS J hd,?_⟩|refine⟨_,lS J he,?_⟩|refine⟨_,c1,?_⟩|refine⟨_,c2,?_⟩|refine⟨_,c3,?_⟩|refine xr ?_);conv=>whnf))
 rfl
def Wt(J:Keep):C J 87 [fx a d1 d2] (.int .i64 a.num.sign):=by
 refine aN Tryz.func87 rfl rfl rfl ?_;refine aK ?_;rfl
end
def DE{a b:Rat}:cw a b<=0↔a<=b:=by
 rw[Rat.le_iff];unfold cw a7;split<;>(try split)<;>omega
section
variable {a:Rat}{d1 d2:IV}
end
end Go.Proofs.Fl
namespace Go.Proofs.Fl
open Go.RowKit
def uh(j:Nat)(w:World)(b R:Nat):Prop:=∃arr n cap T fr,w.heap[b]?=some (.cells arr T fr)/\arr[j]?=some (.slice (some ⟨R,0,none⟩) n cap)
structure BldF(j b:Nat)(w w':World):Prop where
 os:w'.os=w.os
 tape:w'.tape=w.tape
 output:w'.output=w.output
 size:w.heap.size<=w'.heap.size
 block:∀k,k<w.heap.size->k≠b->¬uh j w b k->w'.heap[k]?=w.heap[k]?
 row:∀R,uh j w' b R->uh j w b R\/w.heap.size<=R
def wS(P:Program)(f:FuncId)(s:List UInt8)(xs:List IV)(s':List UInt8)(r:IV):Prop :=
 (∃fn,P.funcs[f]?=some fn/\(fn.name == "runtime.NumGoroutine")=false/\fn.body.isNone=false)/\
 ∀(H:ak) (w:World) (b:Nat) (args:List Value),VRL H args xs->Lib.IsBuilderF kr rP 0 b (Lib.byteCells s) w->
  Calls P f (Value.pointer (some ⟨b,0,none⟩)::args).toArray w fun e w'=>∃v,e=.returned v/\(∀H,VR H v r)/\Lib.IsBuilderF kr rP 0 b (Lib.byteCells s') w'/\BldF 1 b w w'
def Sim.build{E:Env}{H:ak}{U:Nat->Nat×Nat}{tm:Nat->SV}{bx:Nat->Option Bx}{tmps:Array Value}{w:World}(h:Sim E H U tm bx tmps w){g:Nat}{s s':Ow}(hj:s'.j=s.j)(hg:bx g=some (.bld s))(hone:∀g' s',bx g'=some (.bld s')->g'=g){w':World}
 (hf:BldF s.j (U g).1 w w') (hb:tV H w' (U g).1 s'):Sim E H U tm (az bx g (some (.bld s'))) tmps w':=by
 obtain⟨b1,b2,b3,b4⟩:=h.box g _ hg;have hlt:(U g).1<w.heap.size:=(h.box g _ hg).lt rfl;have hother:∀{g' b},az bx g (some (.bld s')) g'=some b->g'≠g->bx g'=some b:=fun{g' b} e hne=>by rwa[aI _ _ _ hne] at e
 have halive:∀{g' b},az bx g (some (.bld s')) g'=some b->b.alive=true->∃b0,bx g'=some b0/\b0.alive=true:=fun{g' b} e ha=>by
  by_cases hne:g'=g
  . subst hne;exact⟨_,hg,rfl⟩
  exact⟨b,hother e hne,ha⟩
 have hkeep:∀{g' b},bx g'=some b->g'≠g->b.alive=true->w'.heap[(U g').1]?=w.heap[(U g').1]?:=fun{g' b} e hne ha=>
  hf.block _ ((h.box g' b e).lt ha) (fun e'=>hne (h.inj g' g b _ e hg ha rfl e')) (fun hR=>h.hid g s g' b _ hg e ha hR rfl)
 refine⟨fun b arr e=>?_,h.below.trans ⟨hf.os,hf.tape,hf.output,hf.size,fun k hk=>?_⟩,fun k hk=>h.lo k (bf hf.size hk),h.ext,fun t=>(h.slot t).mono (HLe.refl _) (fun g' b1 hg'=>?_),fun g' c1 hg'=>?_,fun g1 g2 c1 c2 e1 e2 a1 a2 he=>?_,fun p' k' hk'=>⟨(h.pin p' k' hk').1,xV (h.pin p' k' hk').2.1,(h.pin p' k' hk').2.2⟩,?_,fun g1 s1 g2 c2 R e1 e2 ha2 hR=>?_⟩
 . obtain⟨t,fr,ht⟩:=h.has b arr e;refine⟨t,fr,(hf.block b (h.has.lt e) (fun e'=>?_) (fun hR=>?_)).trans ht⟩
   . rw[e',b2] at e;cases e
   rw[(b4 b hR).2] at e;cases e
 . rcases gb k w.heap.size with h1|h1
   . exact hf.block k h1 (fun e=>hk (by rw[e];exact b1)) (fun hR=>hk (b4 k hR).1)
   exact absurd (h.lo k h1) hk
 . by_cases hne:g'=g
   . subst hne;rw[hg] at hg';simp at hg';subst hg';exact⟨.bld s',by show az bx g' _ g'=_;rw[a6],trivial,rfl⟩
   exact⟨b1,by show az bx g _ g'=_;rw[aI _ _ _ hne];exact hg',shape.refl _,rfl⟩
 .
  by_cases hne:g'=g
  .
   subst hne;have e':Bx.bld s'=c1:=by
    have:az bx g' (some (.bld s')) g'=some c1:=hg';rw[a6] at this;simpa using this
   subst e';refine⟨b1,b2,hb,fun R hR=>?_⟩;rcases hf.row R (by rw[<-hj];exact hR) with h1|h1
   . exact b4 R h1
   refine⟨h.lo R h1,?_⟩;cases hx:H R with
   |none=>rfl
   |some arr=>have:=h.has.lt hx;omega
  have e':=hother hg' hne;by_cases hal:c1.alive=true
  . exact(h.box g' c1 e').keep (hkeep e' hne hal) (HLe.refl _) id (fun s R eb _=>absurd (hone g' s (by rw[<-eb];exact e')) hne)
  cases c1<;>first|trivial|simp[Bx.alive] at hal
 . obtain⟨d1,f1,f1'⟩:=halive e1 a1;obtain⟨d2,f2,f2'⟩:=halive e2 a2;exact h.inj g1 g2 d1 d2 f1 f2 f1' f2' he
 . refine h.marks.keep fun D hD=>hf.block D (Array.getElem?_eq_some_iff.1 hD).1 (fun e=>?_) (fun hR=>?_)
   . obtain⟨arr,e',hc⟩:=(h.box g _ hg).cells rfl;rw[<-e,hD] at hc;cases hc
   obtain⟨_,_,arr,_,fz,hc⟩:=kK b3 hR;rw[hD] at hc;cases hc
 by_cases hne:g1=g
 .
  subst hne;obtain⟨d2,f2,f2'⟩:=halive e2 ha2;have e9:s'=s1:=by
   have:az bx g1 (some (.bld s')) g1=some (.bld s1):=e1;rw[a6] at this;simpa using this
  rcases hf.row R (by rw[<-hj,e9];exact hR) with h1|h1
  . exact h.hid g1 s g2 d2 R hg f2 f2' h1
  have:=(h.box g2 _ f2).lt f2';omega
 exact absurd (hone g1 s1 (hother e1 hne)) hne
def Qx{P:Program}{t:TypeId}{i:TypeInfo}{z:Value}(h:P.info? t=some i)(hz:i.zero=some z)(w:World):(zeroValue t).run P w=.ok z w:=by simp[zeroValue,typeInfo,h,hz]
section
variable {X:Cx}{nt:Nat}{Y:AS}{K:Exit->AS->Prop}
def CW.build(n:Nat){id:Nat}{all:Array Oper}{o:Oper}{fo p:Operand}{args:List Operand}{ats:Array TypeId}(ho:all.toList[n]?=some o)(hd:dc nt all.toList=true)(hg:o.guard=none)(hop:o.op=.call { callee:=.value fo,args:=(p::args).toArray,argTypes:=ats })
 (h:gh X.T X.C all (all.toList.take n) Y.nx Y.tm Y.bx [] fun tm bx _=>match aS tm fo,aS tm p,gK bx (aS tm) args with
   | .iv (.fn f),.ptr g 0,some (xs,[])=>∃s s' r,bx g=some (.bld (.str s))/\(∀g' s',bx g'=some (.bld s')->g'=g)/\wS X.P f s xs s' r/\
    gh X.T X.C all (all.toList.drop (n+1)) (Y.nx+n+1) (fb tm o.dst (.iv r)) (az bx g (some (.bld (.str s')))) [] fun tm bx _=>K .normal ⟨tm,bx,Y.nx+all.size⟩
   |_,_,_=>False):CW X nt (.region id all false) Y K:=by
 intro ro E Q hI hQ M H U a w hS;refine xn ?_;have hsplit:all.toList=all.toList.take n++o::all.toList.drop (n+1):=by
  have hlt:=(List.getElem?_eq_some_iff.1 ho).1;have he:=(List.getElem?_eq_some_iff.1 ho).2;have h1:=kC n all.toList;rw[gS hlt,he] at h1;exact h1.symm
 have hd1:dc nt (all.toList.take n)=true:=by
  unfold dc at hd ⊢;rw[mN] at hd ⊢;exact fun x hx=>hd x (dY hx)
 have hd2:dc nt (all.toList.drop (n+1))=true:=by
  unfold dc at hd ⊢;rw[mN] at hd ⊢;exact fun x hx=>hd x (jK hx)
 have hdo:∀d,o.dst=some d->d<nt:=oO hd (bN ho);rw[hsplit];refine yX (E:=E.mks M) X.hT X.ok hI (fun H1 β1 tm bx log a1 w1 hk hS1=>?_) hd1 hS h;split at hk
 . rename_i f g xs hfo hp hargs;obtain⟨s,s',r,hbg,hone,⟨⟨fn,hf1,hf2,hf3⟩,hc⟩,hk⟩:=hk;have hv:=bb hS1.sim rfl fo;rw[hfo] at hv;have e1:=vT hv;have hvp:=bb hS1.sim rfl p;rw[hp] at hvp;obtain⟨_,hpv⟩:=hvp;obtain⟨H2,hle,S2,V2⟩:=tf (a:=a1) rfl hS1.sim hargs;have hcall:=hc H2 w1 (β1 g).1 (args.map a1.eval) V2 (S2.box g _ hbg).2.2.1;rw[<-hpv] at hcall;have hrun:(execOp a1.eval o).run X.P w1=.ok (.enter f (a1.eval p::args.map a1.eval).toArray) w1:=by
    simp only[execOp,hop,resolve,e1,Deferred.ofValue,aw,aA,av,invoke,callFunc,uN,hf1,hf2,hf3,dB,bM];congr 2;apply fc;simp
   unfold wpListIn;simp only[Region.wanted,hg,bL];refine tN (fun c hc=>by rw[hop] at hc;cases hc) ?_;unfold Oper.wp;rw[hrun];refine hcall.mono ?_;rintro e w2 ⟨v,rfl,hvr,hb2,hf2⟩;have T:St (E.mks M) nt H2 β1 (fb tm o.dst (.iv r)) (az bx g (some (.bld (.str s')))) (a1.put o.dst v) w2:=St.put ⟨S2.build (bx:=bx) (g:=g) (s:=.str s) (s':=.str s') rfl hbg hone hf2 hb2,hS1.defers,hS1.size⟩ hdo (r:=.iv r) (hvr H2);have:=yX (rest:=[]) (Q:=Q) (ro:=ro.1) (E:=E.mks M) X.hT X.ok hI (all:=all) (K:=fun tm bx _=>K .normal ⟨tm,bx,Y.nx+all.size⟩) (fun H4 β4 tm bx log a4 w4 hk4 hS4=>hQ .normal _ M H4 β4 a4 w4 hk4 hS4) hd2 T hk;rw[eS] at this;exact this
 exact hk.elim
def CW.newBld{id:Nat}{o:Oper}{d:Nat}(hd:d<nt)(hdst:o.dst=some d)(hg:o.guard=none)(hop:o.op=.alloc kr){i:TypeInfo}(hinfo:X.P.info? kr=some i)(hz:i.zero=some (.agg #[.pointer none,.slice none 0 0]))
 (hb:Y.bx Y.nx=none) (h:K .normal ⟨az Y.tm d (.ptr Y.nx 0),az Y.bx Y.nx (some (.bld (.str []))),Y.nx+1⟩):CW X nt (.region id #[o] false) Y K:=by
 intro ro E Q hI hQ M H U a w hS;refine xn ?_;show wpListIn (FW ro.1) 0 X.P #[o] Q [o] a w;unfold wpListIn;simp only[Region.wanted,hg,bL];refine tN (fun c hc=>by rw[hop] at hc;cases hc) ?_;have hS1:=hS.sim.newBlock hb (b:=.bld (.str [])) (cap:=0) (arr := #[.pointer none,.slice none 0 0]) (e:=kr) (fun w' hw hn hlo=>⟨hlo,hn,.inl ⟨ba _,_,hw,⟨rfl,.inl ⟨rfl,rfl⟩⟩,by simp[Value.ownBlock]⟩,fun R hR=>by
  obtain⟨arr,n,cap,T,fr,e,e'⟩:=hR;rw[hw] at e;simp at e;obtain⟨rfl,_⟩:=e;simp[Ow.j] at e'⟩) (fun s R w' es hw hR=>by
  obtain⟨arr,n,cap,T,fr,e,e'⟩:=hR;cases es;rw[hw] at e;simp at e;obtain⟨rfl,_⟩:=e;simp[Ow.j] at e')
 have hT:=St.put (H:=H) (a:=a) ⟨hS1,hS.defers,hS.size⟩ (dst:=o.dst) (fun d' hd'=>by rw[hdst] at hd';cases hd';exact hd) (r:=.ptr Y.nx 0) (v:=.pointer (some ⟨w.heap.size,0,none⟩)) ⟨by rw[a6];simp,by rw[a6]⟩;have hrun:(execOp a.eval o).run X.P w=.ok (.value (.pointer (some ⟨w.heap.size,0,none⟩))) (w.alloc (.cells #[.pointer none,.slice none 0 0] kr)):=by
  simp only[execOp,hop,Instr.alloc,aw,Qx hinfo hz,av,newVar,newRow,nL,aA];rfl
 unfold Oper.wp;rw[hrun];show wpListIn (FW ro.1) 0 X.P #[o] Q [] (a.put o.dst _) _;unfold wpListIn;rw[hdst] at hT ⊢;exact hQ .normal _ M H _ _ _ h hT
end
end Go.Proofs.Fl
namespace Go.Proofs.Fl
open Go.RowKit Go.Shelf
section
variable {P:Program}(w:World)
def OD(base:Nat)(t u ty e:TypeId)(i:TypeInfo)(ht:P.underlying t=some (.slice e))(hu:P.underlying u=some .string)(hi:P.info? e=some i)(hz:i.zero=some (.int .u8 0))
 (hsize:i.size=1) (hby:i.bytes=1)
 (v:Value) (n:Nat) (xs:List Value) (hown:w.ownsRowF base e 1 v n xs) (s:ByteArray)
 (h63:n+s.size<=maxLen) (hbytes:n+s.size<=140737488355328) (hbase:base<=w.heap.size) :
 ∃v' w',(Builtin.append_ #[t,u] ty #[v,.string s]).run P w=.ok v' w'/\w'.ownsRowF base e 1 v' (n+s.size) (xs++Lib.strCells s)/\w.grownBy w' v.ownBlock/\(∀R,v'.ownBlock=some R->v.ownBlock=some R\/w.heap.size<=R):=by
 rcases hown.2 with⟨rfl,rfl⟩|⟨g,cap,cur,fz,rfl,hbg,hg,hfz,hnc,hcm,hcs,htake⟩
 .
  obtain⟨v',w',h1,h2,h3,h4⟩:=Lib.run_append_own_stringF (P:=P) w w.heap.size t u ty e i ht hu hi hz hsize hby (.slice none 0 0) 0 xs ⟨hown.1,.inl ⟨rfl,rfl⟩⟩ s h63 hbytes (ah _);refine⟨v',w',h1,⟨h2.1,?_⟩,h3,fun R hR=>?_⟩
  . rcases h2.2 with h|⟨g,cap,cur,fz,e1,e2,e3⟩
    . exact .inl h
    exact .inr ⟨g,cap,cur,fz,e1,by omega,e3⟩
  rcases h2.2 with⟨rfl,_⟩|⟨g,cap,cur,fz,rfl,e2,_⟩
  . cases hR
  cases hR;exact .inr e2
 have hxl:xs.length=n:=by simpa using hown.1
 have hlen:(xs++Lib.strCells s).length=(n+s.size)*1:=by rw[bg,hxl,F6,eB]
 by_cases hroom:n+s.size<=cap
 .
  have hcs':cur.size=cap:=by simpa using hcs
  have hr:=Lib.run_append_room_stringF (P:=P) w t u ty e i ht hu hi hsize g n cap cur fz hg (by simpa using hfz) s hroom (by omega);refine⟨_,_,hr,⟨hlen,.inr ⟨g,cap,_,fz,rfl,hbg,uL w g cur _ e _ hg,by omega,hroom,hcm,?_,?_⟩⟩,⟨rfl,rfl,rfl,by simp,fun k _ hk=>nM w g k _ (fun e=>hk (by simp[Value.ownBlock,e]))⟩,fun R hR=>.inl hR⟩
  . simp only[lD,bg,bG,nO,fC,F6];omega
  have ht':cur.toList.take n=xs:=by simpa using htake
  rw[ht',<-hlen];exact List.take_left
 have holds:∀j u,xs[j]?=some u->w.cell? ((⟨g,0,none⟩:Addr).add j)=some u:=hown.cells (g:=g) rfl;have hsmall:n+s.size<=9223372036854775807:=by simp only[maxLen] at h63;omega
 have hr:=Lib.run_append_grow_string (P:=P) w t u ty e i (.int .u8 0) ht hu hi hz ⟨g,0,none⟩ n cap xs (by rw[hsize];simpa using hxl) holds s (by omega) (by omega) (by rw[hby];exact growslice_fits (by omega) (by omega));have hge:=xh w (n+s.size) cap e;have hcm2:grownCap w (n+s.size) cap e<=maxLen:=NU w (n+s.size) cap e h63;refine⟨_,_,hr,⟨hlen,.inr ⟨w.heap.size,_,_,(0,0),rfl,hbase,nK w.drew _,ba _,hge,hcm2,?_,?_⟩⟩,⟨rfl,rfl,rfl,by simp,fun k hk _=>heap_alloc_old w.drew _ hk⟩,fun R hR=>?_⟩
 . have hz1:(Value.int IntKind.u8 0).cells.size=1:=rfl;simp only[xi,lD,size_zeroCells,hz1,hxl,F6];omega
 . simp only[qG,dI];rw[<-dI,<-hlen];exact List.take_left
 have hR:some w.heap.size=some R:=hR;cases hR;exact .inr (ah _)
def Oy{w:World}{ops:Array Oper}{rest:List Oper}{o:Oper}{a:Act}{Q:Exit->Act->World->Prop}(hgd:o.guard=none)(sl x:Operand)(t u:TypeId)
 (ho:o.op=.call { callee:=.builtin .append,args := #[sl,x],argTypes := #[t,u] })
 (base:Nat) (e:TypeId) (i:TypeInfo) (ht:P.underlying t=some (.slice e)) (hu:P.underlying u=some .string) (hi:P.info? e=some i) (hz:i.zero=some (.int .u8 0))
 (hsize:i.size=1) (hby:i.bytes=1)
 (v:Value) (n:Nat) (xs:List Value) (hs:a.eval sl=v) (hown:w.ownsRowF base e 1 v n xs) (s:ByteArray) (hx:a.eval x=.string s)
 (h63:n+s.size<=maxLen) (hbytes:n+s.size<=140737488355328) (hbase:base<=w.heap.size)
 (h:∀v' w',w'.ownsRowF base e 1 v' (n+s.size) (xs++Lib.strCells s)->w.grownBy w' v.ownBlock->(∀R,v'.ownBlock=some R->v.ownBlock=some R\/w.heap.size<=R)->wpList P ops Q rest (a.put o.dst v') w'):wpList P ops Q (o::rest) a w:=by
 refine wpList_plain hgd fun K hK=>?_;obtain⟨v',w',hr,h2,h3,h4⟩:=OD (P:=P) w base t u o.type e i ht hu hi hz hsize hby v n xs hown s h63 hbytes hbase;unfold Oper.wp execOp;simp only[ho,resolve,invoke,builtin,aw,aA,av,jM,aZ,eP,hs,hx,hr];exact hK _ _ (h v' w' h2 h3 h4)
end
def BldF.refl(j b:Nat)(w:World):BldF j b w w:=⟨rfl,rfl,rfl,ah _,fun _ _ _ _=>rfl,fun _ h=>.inl h⟩
def HX{w:World}{b R:Nat}{p v:Value}{T:TypeId}{fr:Nat×Nat}(hb:w.heap[b]?=some (.cells #[p,v] T fr))(hR:uh 1 w b R):v.ownBlock=some R:=by
 obtain⟨arr,n,cap,T',fr',e,e'⟩:=hR;rw[hb] at e;simp at e;obtain⟨rfl,_⟩:=e;simp at e';rw[e'];rfl
def Cy{w:World}{b R n cap:Nat}{p:Value}{T:TypeId}{fr:Nat×Nat}(hb:w.heap[b]?=some (.cells #[p,.slice (some ⟨R,0,none⟩) n cap] T fr)):uh 1 w b R:=⟨_,_,_,_,_,hb,rfl⟩
variable {P:Program}{V:Ren}
def PH(L:Lays.n240 P V)(X:Builder.X72 P V)(B b:Nat)(bs:List Value)(w:World)(h:Lib.IsBuilderF (V.t 72) (V.t 5) B b bs w) :
 Calls P (V.f 240) #[.pointer (some ⟨b,0,none⟩)] w fun e w'=>e=.returned (.tuple #[])/\Lib.BuilderAtF (V.t 72) (V.t 5) B b (.pointer (some ⟨b,0,none⟩)) bs w'/\BldF 1 b w w'/\w'.heap.size=w.heap.size:=by
 rcases h with h|h
 .
  have hh:=h;obtain⟨hB,v,hbk,hown,hne⟩:=hh;refine(Any.Builder_copyCheck_fresh L X b w h.cell0 h.shape h.frozen0).mono ?_;rintro e w' ⟨rfl,rfl⟩;have hb2:(w.setCell ⟨b,0,none⟩ (.pointer (some ⟨b,0,none⟩))).heap[b]?=some (.cells #[.pointer (some ⟨b,0,none⟩),v] (V.t 72) (0,0)):=by simp[World.setCell,Bb,hbk]
  refine⟨rfl,h.used _,⟨rfl,rfl,rfl,by simp[World.setCell],fun k _ hk _=>Below.heap_setCell _ _ _ _ hk,fun R hR=>?_⟩,by simp[World.setCell]⟩;have:=HX hb2 hR;rcases hown.2 with⟨rfl,_⟩|⟨g,cap,cur,fz,rfl,_⟩
  . cases this
  cases this;exact .inl (Cy hbk)
 refine(Any.Builder_copyCheck_used L X b w h.cell0).mono ?_;rintro e w' ⟨rfl,rfl⟩;exact⟨rfl,h,BldF.refl _ _ _,rfl⟩
def OU(L:Lays.n166 P V)(X:Builder.Extra P V)(B b:Nat)(bs:List Value)(s:ByteArray)(w:World)(h:Lib.IsBuilderF (V.t 72) (V.t 5) B b bs w)(hlen:bs.length+s.size<=140737488355328)(hBw:B<=w.heap.size) :
 Calls P (V.f 166) #[.pointer (some ⟨b,0,none⟩),.string s] w fun e w'=>e=.returned (.tuple #[.int .i64 s.size,.nilIface])/\Lib.BuilderAtF (V.t 72) (V.t 5) B b (.pointer (some ⟨b,0,none⟩)) (bs++Lib.strCells s) w'/\BldF 1 b w w':=by
 obtain⟨i0,hi,hz0,hz1,hz2⟩:=info_parts X.infoByte;have mixed:=L.mixed;have t72:=L.t72;have a72:=L.a72;have z72:=L.z72;have v72:=L.v72;have u72:=dq L.t72;have t70:=L.t70;have a70:=L.a70;have z70:=L.z70;have v70:=L.v70;have u70:=dq L.t70;have t37:=L.t37;have a37:=L.a37;have z37:=L.z37;have v37:=L.v37;have u37:=dq L.t37;have t3:=L.t3;have a3:=L.a3;have z3:=L.z3;have v3:=L.v3;have u3:=dq L.t3;have t9:=L.t9;have a9:=L.a9;have z9:=L.z9;have v9:=L.v9;have u9:=dq L.t9;have t4:=L.t4;have a4:=L.a4;have z4:=L.z4;have v4:=L.v4;have u4:=dq L.t4;have t164:=L.t164;have a164:=L.a164;have z164:=L.z164;have v164:=L.v164;have u164:=dq L.t164;have t5:=X.t5;have a5:=X.a5;have z5:=X.z5;have v5:=X.v5;have u5:=dq X.t5;have e240:∀args w,(callFunc (V.f 240) args).run P w=.ok (.enter (V.f 240) args) w:=enters_of L.f240 (by kernel_rfl) rfl;obtain⟨p0,v0,hb0,hown0,_⟩:∃p v,w.heap[b]?=some (.cells #[p,v] (V.t 72) (0,0))/\w.ownsRowF B (V.t 5) 1 v bs.length bs/\v.ownBlock≠some b:=by
  rcases h with⟨_,v,h1,h2⟩|⟨_,v,h1,h2⟩
  . exact⟨_,v,h1,h2⟩
  exact⟨_,v,h1,h2⟩
 go_enter L.f166,Body.n166_ntmps V
 go_wp2_with (go_at_fn (V.f 240);refine(PH { L with } X.toX72 B b bs _ h).mono ?_)
 rintro e w1 ⟨rfl,h1,hf1,hs1⟩;obtain⟨hB,v,hbk,hown,hne⟩:=h1;have c0:w1.cell? ⟨b,0,none⟩=some (.pointer (some ⟨b,0,none⟩)):=by rw[Bc hbk];rfl
 have c1:w1.cell? ⟨b,1,none⟩=some v:=by rw[Bc hbk];rfl
 go_wp2_with (at_builtin;refine Oy rfl _ _ (V.t 37) (V.t 9) rfl B (V.t 5) i0 L.t37 L.t9 hi hz0 hz1 hz2 _ _ _ rfl hown s rfl ?c3 ?c4 ?c5 ?_)
 case c3=>unfold maxLen;omega
 case c4=>omega
 case c5=>rw[hs1];exact hBw
 intro v' w2 hown' hgrow hrow';have hlt:b<w1.heap.size:=by
  rcases gb b w1.heap.size with h'|h'
  . exact h'
  simp[uO h'] at hbk
 have hb2:w2.heap[b]?=some (.cells #[.pointer (some ⟨b,0,none⟩),v] (V.t 72) (0,0)):=by
  rw[hgrow.block b hlt (fun e=>hne e.symm)];exact hbk
 have d0:w2.cell? ⟨b,0,none⟩=some (.pointer (some ⟨b,0,none⟩)):=by rw[Bc hb2];rfl
 have d1:w2.cell? ⟨b,1,none⟩=some v:=by rw[Bc hb2];rfl
 have f1:w2.frozen? ⟨b,1,none⟩=false:=Lib.frozen_of_heap hb2 1;obtain⟨ao,n',cap,rfl⟩:∃ao n' cap,v'=.slice ao n' cap:=by
  rcases hown'.2 with⟨hv,_⟩|⟨g,cap,cur,fz,hv,_⟩
  . exact⟨_,_,_,hv⟩
  exact⟨_,_,_,hv⟩
 have hrw:∀R,v.ownBlock=some R->uh 1 w1 b R:=fun R hR=>by
  rcases hown.2 with⟨rfl,_⟩|⟨g,cap,cur,fz,rfl,_⟩
  . cases hR
  cases hR;exact Cy hbk
 go_wp2
 go_ret2
 refine⟨rfl,Lib.BuilderAtF.put (T:=(V.t 72)) (e:=(V.t 5)) hB hb2 (bs':=bs++Lib.strCells s) (by simpa[F6] using hown') X.neB5,?_⟩;have hb3:(w2.setCell ⟨b,1,none⟩ (.slice ao n' cap)).heap[b]?=some (.cells #[.pointer (some ⟨b,0,none⟩),.slice ao n' cap] (V.t 72) (0,0)):=by simp[World.setCell,Bb,hb2]
 refine⟨?_,?_,?_,?_,fun k hk hkb hkr=>?_,fun R hR=>?_⟩
 . exact hgrow.os.trans hf1.os
 . exact hgrow.tape.trans hf1.tape
 . exact hgrow.output.trans hf1.output
 . have:=hgrow.size;simp[World.setCell];omega
 . refine(Below.heap_setCell _ _ _ _ hkb).trans ((hgrow.block k (by omega) (fun e=>?_)).trans (hf1.block k hk hkb hkr));exact hkr (((hf1.row k (hrw k e.symm))).resolve_right (by omega))
 rcases hrow' R (HX hb3 hR) with h2|h2
 . exact hf1.row R (hrw R h2)
 exact .inr (by omega)
def RC(L:Lays.n169 P V)(X:Builder.Extra P V)(B b:Nat)(l:List UInt8)(w:World)(h:Lib.IsBuilderF (V.t 72) (V.t 5) B b (Lib.byteCells l) w)(h0:l≠[]) :
 Calls P (V.f 169) #[.pointer (some ⟨b,0,none⟩)] w fun e w'=>e=.returned (.string ⟨l.toArray⟩)/\Lib.IsBuilderF (V.t 72) (V.t 5) B b (Lib.byteCells l) w'/\BldF 1 b w w':=by
 obtain⟨p,hp,hAt⟩:∃p,(p=.pointer none\/p=.pointer (some ⟨b,0,none⟩))/\Lib.BuilderAtF (V.t 72) (V.t 5) B b p (Lib.byteCells l) w:=by
  rcases h with h|h
  . exact⟨_,.inl rfl,h⟩
  exact⟨_,.inr rfl,h⟩
 obtain⟨hB,v,hbk,hown,hne⟩:=hAt;have hl0:l.length≠0:=by simpa using h0
 rw[Be] at hown;obtain⟨g,cap,cur,fz,rfl,hbg,hg,hfz,hnc,hcm,hcs,htake⟩:∃g cap cur fz,v=.slice (some ⟨g,0,none⟩) l.length cap/\B<=g/\w.heap[g]?=some (.cells cur (V.t 5) fz)/\fz.2<=l.length*1/\l.length<=cap/\cap<=maxLen/\cur.size=cap*1/\cur.toList.take (l.length*1)=Lib.byteCells l:=by
  rcases hown.2 with⟨_,hz⟩|⟨g,cap,cur,fz,hv,r⟩
  . exact absurd hz hl0
  exact⟨g,cap,cur,fz,hv,r⟩
 have c1:w.drew.cell? ⟨b,1,none⟩=some (.slice (some ⟨g,0,none⟩) l.length cap):=by
  have:w.drew.heap[b]?=some (.cells #[p,.slice (some ⟨g,0,none⟩) l.length cap] (V.t 72) (0,0)):=hbk;rw[Bc this];rfl
 have hSD:(Builtin.unsafeSliceData_ #[(V.t 37)] (V.t 127) #[.slice (some ⟨g,0,none⟩) l.length cap]).run P w.drew=.ok (.pointer (some ⟨g,0,none⟩)) w.drew :=
  Lib.run_unsafeSliceData_row _ _ _ _ _ _ (by omega)
 have hUS:(Builtin.unsafeString_ #[(V.t 127),(V.t 3)] (V.t 9) #[.pointer (some ⟨g,0,none⟩),.int .i64 l.length]).run P w.drew=.ok (.string ⟨l.toArray⟩) (w.drew.freeze ⟨g,0,none⟩ l.length):=by
  refine Lib.run_unsafeString_row w.drew (V.t 127) (V.t 3) (V.t 9) (V.t 5) L.t127 X.cellsByte g cur.size (by have hg':w.drew.heap[g]?=some (.cells cur (V.t 5) fz):=hg;simp[World.shape?,hg']) l h0 (by omega) (by unfold maxLen at hcm;omega) ?_;intro j x hx;have:=hown.cells (g:=g) rfl j (.int .u8 x.toNat) (by simp[Lib.byteCells,hx]);exact this
 have hkeep:Lib.IsBuilderF (V.t 72) (V.t 5) B b (Lib.byteCells l) (w.drew.freeze ⟨g,0,none⟩ l.length):=by
  have hA:Lib.BuilderAtF (V.t 72) (V.t 5) B b p (Lib.byteCells l) w.drew:=⟨hB,_,hbk,by rw[Be];exact hown,hne⟩;have hF:=hA.froze (g:=g) (cap:=cap) (by rw[Be];exact c1);rw[Be] at hF;rcases hp with rfl|rfl
  . exact .inl hF
  exact .inr hF
 have hgb:b≠g:=fun e=>hne (by simp[Value.ownBlock,e]);have hother:∀k,k≠g->(w.drew.freeze ⟨g,0,none⟩ l.length).heap[k]?=w.heap[k]?:=fun k hk=>by
  unfold World.freeze;rw[aq hl0];simp only[Bb];rw[aq (fun e=>hk e.symm)];rfl
 have hframe:BldF 1 b w (w.drew.freeze ⟨g,0,none⟩ l.length):=by
  refine⟨?_,?_,?_,?_,fun k _ _ hkr=>hother k (fun e=>hkr (e▸Cy hbk)),fun R ⟨arr,n,cap,T,fr,e,e'⟩=>.inl ⟨arr,n,cap,T,fr,(hother b hgb).symm.trans e,e'⟩⟩
  . unfold World.freeze;rw[aq hl0];rfl
  . unfold World.freeze;rw[aq hl0];rfl
  . unfold World.freeze;rw[aq hl0];rfl
  unfold World.freeze;rw[aq hl0];show w.heap.size<=(Array.modify w.heap g _).size;rw[Array.size_modify];exact ah _
 have mixed:=L.mixed;have t72:=L.t72;have a72:=L.a72;have z72:=L.z72;have v72:=L.v72;have u72:=dq L.t72;have t70:=L.t70;have a70:=L.a70;have z70:=L.z70;have v70:=L.v70;have u70:=dq L.t70;have t37:=L.t37;have a37:=L.a37;have z37:=L.z37;have v37:=L.v37;have u37:=dq L.t37;have t127:=L.t127;have a127:=L.a127;have z127:=L.z127;have v127:=L.v127;have u127:=dq L.t127;have t3:=L.t3;have a3:=L.a3;have z3:=L.z3;have v3:=L.v3;have u3:=dq L.t3;have t9:=L.t9;have a9:=L.a9;have z9:=L.z9;have v9:=L.v9;have u9:=dq L.t9;have t5:=X.t5;have a5:=X.a5;have z5:=X.z5;have v5:=X.v5;have u5:=dq X.t5
 go_enter L.f169,Body.n169_ntmps V
 go_wp2
 go_region_o
 all_goals (go_wp2;go_ret;exact⟨rfl,hkeep,hframe⟩)
end Go.Proofs.Fl
namespace Go.Proofs
open Go.Shelf
def Tryz.lays125_ren:Go.Shelf.Ren:=⟨fun|125=>143|128=>199|129=>200|n=>n,fun|46=>213|3=>3|51=>193|53=>202|4=>4|5=>5|9=>9|n=>n,fun|n=>n⟩
def Tryz.lays125:Go.Proofs.Lays.n125 Tryz.prog Tryz.lays125_ren:={
 mixed:=by kernel_rfl
 f125:=Tryz.func143.trans (aL some (by kernel_rfl))
 f128:=Tryz.func199.trans (aL some (by kernel_rfl))
 f129:=Tryz.func200.trans (aL some (by kernel_rfl))
 t3:=Tryz.underlying3
 a3:=Tryz.isAgg3
 z3:=Tryz.sizeOf3
 v3:=Tryz.zeroValue3
 t4:=Tryz.underlying4
 a4:=Tryz.isAgg4
 z4:=Tryz.sizeOf4
 v4:=Tryz.zeroValue4
 t5:=Tryz.underlying5
 a5:=Tryz.isAgg5
 z5:=Tryz.sizeOf5
 v5:=Tryz.zeroValue5
 t9:=Tryz.underlying9
 a9:=Tryz.isAgg9
 z9:=Tryz.sizeOf9
 v9:=Tryz.zeroValue9
 t46:=Tryz.underlying213
 a46:=Tryz.isAgg213
 z46:=Tryz.sizeOf213
 v46:=Tryz.zeroValue213
 t51:=Tryz.underlying193
 a51:=Tryz.isAgg193
 z51:=Tryz.sizeOf193
 v51:=Tryz.zeroValue193
 t53:=Tryz.underlying202
 a53:=Tryz.isAgg202
 z53:=Tryz.sizeOf202
 v53:=Tryz.zeroValue202 }
def Tryz.bits_Len(x:Int)(w:World)(h0:0<=x)(h1:x<=18446744073709551615) :
 Calls Tryz.prog 143 #[.int .u64 x] w fun e w'=>e=.returned (.int .i64 (Lib.bitLen x.toNat))/\w'=w:=Any.bits_Len Tryz.lays125 x w h0 h1
def Tryz.laysM171_ren:Go.Shelf.Ren:=⟨fun|171=>126|243=>177|246=>223|283=>262|284=>263|285=>264|286=>265|129=>200|317=>274|318=>275|319=>276|320=>277|337=>280|338=>281|n=>n,fun|3=>3|9=>9|2=>2|4=>4|171=>314|0=>0|53=>202|37=>187|5=>5|173=>316|212=>328|51=>193|20=>20|213=>329|46=>213|232=>332|233=>333|n=>n,fun|17=>0|18=>2|19=>3|n=>n⟩
def Tryz.laysM171:Go.Proofs.LaysM.n171 Tryz.prog Tryz.laysM171_ren:={
 mixed:=by kernel_rfl
 f129:=Tryz.func200.trans (aL some (by kernel_rfl))
 f171:=Tryz.func126.trans (aL some (by kernel_rfl))
 f243:=Tryz.func177.trans (aL some (by kernel_rfl))
 f246:=Tryz.func223.trans (aL some (by kernel_rfl))
 f283:=Tryz.func262.trans (aL some (by kernel_rfl))
 f284:=Tryz.func263.trans (aL some (by kernel_rfl))
 f285:=Tryz.func264.trans (aL some (by kernel_rfl))
 f286:=Tryz.func265.trans (aL some (by kernel_rfl))
 f317:=Tryz.func274.trans (aL some (by kernel_rfl))
 f318:=Tryz.func275.trans (aL some (by kernel_rfl))
 f319:=Tryz.func276.trans (aL some (by kernel_rfl))
 f320:=Tryz.func277.trans (aL some (by kernel_rfl))
 f337:=Tryz.func280.trans (aL some (by kernel_rfl))
 f338:=Tryz.func281.trans (aL some (by kernel_rfl))
 t0:=Tryz.underlying0
 a0:=Tryz.isAgg0
 z0:=Tryz.sizeOf0
 v0:=Tryz.zeroValue0
 t2:=Tryz.underlying2
 a2:=Tryz.isAgg2
 z2:=Tryz.sizeOf2
 v2:=Tryz.zeroValue2
 t3:=Tryz.underlying3
 a3:=Tryz.isAgg3
 z3:=Tryz.sizeOf3
 v3:=Tryz.zeroValue3
 t4:=Tryz.underlying4
 a4:=Tryz.isAgg4
 z4:=Tryz.sizeOf4
 v4:=Tryz.zeroValue4
 t5:=Tryz.underlying5
 a5:=Tryz.isAgg5
 z5:=Tryz.sizeOf5
 v5:=Tryz.zeroValue5
 t9:=Tryz.underlying9
 a9:=Tryz.isAgg9
 z9:=Tryz.sizeOf9
 v9:=Tryz.zeroValue9
 t20:=Tryz.underlying20
 a20:=Tryz.isAgg20
 z20:=Tryz.sizeOf20
 v20:=Tryz.zeroValue20
 t37:=Tryz.underlying187
 a37:=Tryz.isAgg187
 z37:=Tryz.sizeOf187
 v37:=Tryz.zeroValue187
 t46:=Tryz.underlying213
 a46:=Tryz.isAgg213
 z46:=Tryz.sizeOf213
 v46:=Tryz.zeroValue213
 t51:=Tryz.underlying193
 a51:=Tryz.isAgg193
 z51:=Tryz.sizeOf193
 v51:=Tryz.zeroValue193
 t53:=Tryz.underlying202
 a53:=Tryz.isAgg202
 z53:=Tryz.sizeOf202
 v53:=Tryz.zeroValue202
 t171:=Tryz.underlying314
 a171:=Tryz.isAgg314
 z171:=Tryz.sizeOf314
 v171:=Tryz.zeroValue314
 t173:=Tryz.underlying316
 a173:=Tryz.isAgg316
 z173:=Tryz.sizeOf316
 v173:=Tryz.zeroValue316
 t212:=Tryz.underlying328
 a212:=Tryz.isAgg328
 z212:=Tryz.sizeOf328
 v212:=Tryz.zeroValue328
 t213:=Tryz.underlying329
 a213:=Tryz.isAgg329
 z213:=Tryz.sizeOf329
 t232:=Tryz.underlying332
 a232:=Tryz.isAgg332
 z232:=Tryz.sizeOf332
 v232:=Tryz.zeroValue332
 t233:=Tryz.underlying333
 a233:=Tryz.isAgg333
 z233:=Tryz.sizeOf333
 v233:=Tryz.zeroValue333
 g17:=by kernel_rfl
 g18:=by kernel_rfl
 g19:=by kernel_rfl
 i0:=by kernel_rfl
 i2:=by kernel_rfl
 i3:=by kernel_rfl
 i4:=by kernel_rfl
 i5:=by kernel_rfl
 i9:=by kernel_rfl
 i20:=by kernel_rfl
 i37:=by kernel_rfl
 i46:=by kernel_rfl
 i51:=by kernel_rfl
 i53:=by kernel_rfl
 i171:=by kernel_rfl
 i173:=by kernel_rfl
 i212:=by kernel_rfl
 i232:=by kernel_rfl
 i233:=by kernel_rfl
 m17:=by kernel_rfl
 m18:=by kernel_rfl
 m19:=by kernel_rfl }
open Go.RowKit Go.Sort Go.Lib in
def Tryz.strconv_Itoa(n:Int)(h0 : -9223372036854775808<=n)(h1:n<=9223372036854775807)(w:World)(htab:Lib.TabIs Tryz.prog w "internal/strconv.uint64pow10" .u64 Lib.pow10Tab) :
 Calls Tryz.prog 126 #[.int .i64 n] w fun e w'=>e=.returned (.string ⟨(Lib.itoa n).toArray⟩)/\∃k os,w'=grow (w.drewN k) os:=Any.strconv_Itoa Tryz.laysM171 n h0 h1 w htab
def Tryz.lays105_ren:Go.Shelf.Ren:=⟨fun|105=>128|212=>179|99=>180|165=>181|166=>127|170=>182|169=>129|263=>225|264=>226|206=>227|240=>178|241=>228|276=>224|277=>266|n=>n,fun|9=>9|3=>3|4=>4|20=>20|0=>0|46=>213|109=>247|5=>5|72=>189|76=>197|51=>193|146=>286|53=>202|148=>288|70=>186|37=>187|75=>196|127=>251|164=>284|80=>74|n=>n,fun|n=>n⟩
def Tryz.lays105:Go.Proofs.Lays.n105 Tryz.prog Tryz.lays105_ren:={
 mixed:=by kernel_rfl
 f99:=Tryz.func180.trans (aL some (by kernel_rfl))
 f105:=Tryz.func128.trans (aL some (by kernel_rfl))
 f165:=Tryz.func181.trans (aL some (by kernel_rfl))
 f166:=Tryz.func127.trans (aL some (by kernel_rfl))
 f169:=Tryz.func129.trans (aL some (by kernel_rfl))
 f170:=Tryz.func182.trans (aL some (by kernel_rfl))
 f206:=Tryz.func227.trans (aL some (by kernel_rfl))
 f212:=Tryz.func179.trans (aL some (by kernel_rfl))
 f240:=Tryz.func178.trans (aL some (by kernel_rfl))
 f241:=Tryz.func228.trans (aL some (by kernel_rfl))
 f263:=Tryz.func225.trans (aL some (by kernel_rfl))
 f264:=Tryz.func226.trans (aL some (by kernel_rfl))
 f276:=Tryz.func224.trans (aL some (by kernel_rfl))
 f277:=Tryz.func266.trans (aL some (by kernel_rfl))
 t0:=Tryz.underlying0
 a0:=Tryz.isAgg0
 z0:=Tryz.sizeOf0
 v0:=Tryz.zeroValue0
 t3:=Tryz.underlying3
 a3:=Tryz.isAgg3
 z3:=Tryz.sizeOf3
 v3:=Tryz.zeroValue3
 t4:=Tryz.underlying4
 a4:=Tryz.isAgg4
 z4:=Tryz.sizeOf4
 v4:=Tryz.zeroValue4
 t5:=Tryz.underlying5
 a5:=Tryz.isAgg5
 z5:=Tryz.sizeOf5
 v5:=Tryz.zeroValue5
 t9:=Tryz.underlying9
 a9:=Tryz.isAgg9
 z9:=Tryz.sizeOf9
 v9:=Tryz.zeroValue9
 t20:=Tryz.underlying20
 a20:=Tryz.isAgg20
 z20:=Tryz.sizeOf20
 v20:=Tryz.zeroValue20
 t37:=Tryz.underlying187
 a37:=Tryz.isAgg187
 z37:=Tryz.sizeOf187
 v37:=Tryz.zeroValue187
 t46:=Tryz.underlying213
 a46:=Tryz.isAgg213
 z46:=Tryz.sizeOf213
 v46:=Tryz.zeroValue213
 t51:=Tryz.underlying193
 a51:=Tryz.isAgg193
 z51:=Tryz.sizeOf193
 v51:=Tryz.zeroValue193
 t53:=Tryz.underlying202
 a53:=Tryz.isAgg202
 z53:=Tryz.sizeOf202
 v53:=Tryz.zeroValue202
 t70:=Tryz.underlying186
 a70:=Tryz.isAgg186
 z70:=Tryz.sizeOf186
 v70:=Tryz.zeroValue186
 t72:=Tryz.underlying189
 a72:=Tryz.isAgg189
 z72:=Tryz.sizeOf189
 v72:=Tryz.zeroValue189
 t75:=Tryz.underlying196
 a75:=Tryz.isAgg196
 z75:=Tryz.sizeOf196
 v75:=Tryz.zeroValue196
 t76:=Tryz.underlying197
 a76:=Tryz.isAgg197
 z76:=Tryz.sizeOf197
 v76:=Tryz.zeroValue197
 t109:=Tryz.underlying247
 a109:=Tryz.isAgg247
 z109:=Tryz.sizeOf247
 v109:=Tryz.zeroValue247
 t127:=Tryz.underlying251
 a127:=Tryz.isAgg251
 z127:=Tryz.sizeOf251
 v127:=Tryz.zeroValue251
 t146:=Tryz.underlying286
 a146:=Tryz.isAgg286
 z146:=Tryz.sizeOf286
 v146:=Tryz.zeroValue286
 t148:=Tryz.underlying288
 a148:=Tryz.isAgg288
 z148:=Tryz.sizeOf288
 v148:=Tryz.zeroValue288
 t164:=Tryz.underlying284
 a164:=Tryz.isAgg284
 z164:=Tryz.sizeOf284
 v164:=Tryz.zeroValue284 }
def Tryz.Builder_Extra_105:Builder.Extra Tryz.prog Tryz.lays105_ren:={
 sizeBuilder:=by kernel_rfl
 liesBuilder:=by kernel_rfl
 t5:=Tryz.underlying5
 a5:=Tryz.isAgg5
 z5:=Tryz.sizeOf5
 v5:=Tryz.zeroValue5
 infoByte:=by kernel_rfl
 cellsByte:=by kernel_rfl
 sizeByte:=by kernel_rfl
 neB5:=by decide }
open Go.RowKit Go.Lib in
def Tryz.strings_Repeat(s:ByteArray)(c:Nat)(w:World)(hc:c<=9223372036854775807)(hlen:s.size*c<=140737488355328) :
 Calls Tryz.prog 128 #[.string s,.int .i64 c] w fun e w'=>e=.returned (.string ⟨(Lib.repeatL s.data.toList c).toArray⟩)/\Below w.heap.size w w':=Any.strings_Repeat Tryz.lays105 Tryz.Builder_Extra_105 s c w hc hlen
end Go.Proofs
namespace Go.Proofs.Fl
open Go.RowKit Go.Shelf
def VRL.one{H:ak}{args:List Value}{x:IV}(h:VRL H args [x]):∃v,args=[v]/\VR H v x:=by
 cases h with|cons v _ vs _ h t=>cases t;exact⟨v,rfl,h⟩
def VRL.two{H:ak}{args:List Value}{x y:IV}(h:VRL H args [x,y]):∃u v,args=[u,v]/\VR H u x/\VR H v y:=by
 cases h with|cons u _ us _ h t=>obtain⟨v,rfl,hv⟩:=t.one;exact⟨u,v,rfl,h,hv⟩
def C7(s:ByteArray):s.size=s.data.toList.length:=Lib.size_eq s
def vG{J:Keep}{f:FuncId}{xs:List IV}{r:IV}(hf:∃fn,Tryz.prog.funcs[f]?=some fn/\(fn.name == "runtime.NumGoroutine")=false/\fn.body.isNone=false)
 (h:∀(H:ak) (w:World) (args:List Value),J.I w->VRL H args xs->Calls Tryz.prog f args.toArray w fun e w'=>∃v,e=.returned v/\(∀H,VR H v r)/\Below w.heap.size w w'):C J f xs r:=by
 refine⟨hf,fun H w args hI hH hargs=>(h H w args hI hargs).mono ?_⟩;rintro e w' ⟨v,rfl,hv,hb⟩;refine⟨v,H,rfl,fun b arr hb'=>?_,HExt.refl _ _,hv H,hb⟩;obtain⟨t,fr,ht⟩:=hH b arr hb';exact⟨t,fr,(hb.block b (hH.lt hb')).trans ht⟩
def Qi(w:World)(k:Nat)(os:Array Obj):Below w.heap.size w (Go.Sort.grow (w.drewN k) os):=by
 refine⟨rfl,rfl,rfl,?_,fun j hj=>?_⟩
 . simp[Go.Sort.grow,World.drewN]
 simp[Go.Sort.grow,World.drewN,jO,hj]
def U1(J:Keep){s:List UInt8}{c:Nat}(hc:s.length*c<=140737488355328)(hc2:c<=9223372036854775807):C J 128 [.str s,.int .i64 (c:Nat)] (.str (Lib.repeatL s c)):=by
 refine vG ⟨_,Tryz.func128,rfl,rfl⟩ fun H w args hI hargs=>?_;obtain⟨u,v,rfl,hu,hv⟩:=hargs.two;obtain⟨s,rfl,rfl⟩:=jU hu;rw[VR.asInt hv];refine(Tryz.strings_Repeat s c w hc2 (by rw[C7];exact hc)).mono ?_;rintro e w' ⟨rfl,hb⟩;exact⟨_,rfl,fun H=>.str _ _ (by simp),hb⟩
structure LibI(J:Keep):Prop where
 pow10:∀w,J.I w->Lib.TabIs Tryz.prog w "internal/strconv.uint64pow10" .u64 Lib.pow10Tab
def UP{J:Keep}(L:LibI J){n:Int}(h0 : -9223372036854775808<=n)(h1:n<=9223372036854775807):C J 126 [.int .i64 n] (.str (Lib.itoa n)):=by
 refine vG ⟨_,Tryz.func126,rfl,rfl⟩ fun H w args hI hargs=>?_;obtain⟨u,rfl,hu⟩:=hargs.one;rw[VR.asInt hu];refine(Tryz.strconv_Itoa n h0 h1 w (L.pow10 w hI)).mono ?_;rintro e w' ⟨rfl,k,os,rfl⟩;exact⟨_,rfl,fun H=>.str _ _ (by simp),Qi _ _ _⟩
def OE(a b:List UInt8):Lib.byteCells (a++b)=Lib.byteCells a++Lib.byteCells b:=by simp[Lib.byteCells]
def Pk(s:ByteArray):Lib.strCells s=Lib.byteCells s.data.toList:=by
 simp[Lib.strCells,Lib.byteCells]
def Et{s t:List UInt8}(hl:s.length+t.length<=140737488355328):wS Tryz.prog 127 s [.str t] (s++t) (.tup [.int .i64 (t.length:Nat),.nil 0]):=by
 refine⟨⟨_,Tryz.func127,rfl,rfl⟩,fun H w b args hargs hb=>?_⟩;obtain⟨u,rfl,hu⟩:=hargs.one;obtain⟨t,rfl,rfl⟩:=jU hu;refine(OU { Tryz.lays105 with } Tryz.Builder_Extra_105 0 b (Lib.byteCells s) t w hb (by rw[Be,C7];exact hl) (ba _)).mono ?_;rintro e w' ⟨rfl,h1,h2⟩;refine⟨_,rfl,fun H=>.tup [_,_] _ (.cons _ _ _ _ ?_ (.cons _ _ _ _ .nilI .nil)),.inr ?_,h2⟩
 . rw[C7];exact .int _ _
 rw[OE,<-Pk];exact h1
def WK{s:List UInt8}(hs:s≠[]):wS Tryz.prog 129 s [] s (.str s):=by
 refine⟨⟨_,Tryz.func129,rfl,rfl⟩,fun H w b args hargs hb=>?_⟩;cases hargs;refine(RC { Tryz.lays105 with } Tryz.Builder_Extra_105 0 b s w hb hs).mono ?_;rintro e w' ⟨rfl,h1,h2⟩;exact⟨_,rfl,fun H=>.str _ _ (by simp),h1,h2⟩
section
variable {J:Keep}{nt:Nat}{Y:AS}{K:Exit->AS->Prop}
def W.build(n:Nat){id:Nat}{all:Array Oper}{o:Oper}{fo p:Operand}{args:List Operand}{ats:Array TypeId}(ho:all.toList[n]?=some o)(hd:dc nt all.toList=true)(hg:o.guard=none)(hop:o.op=.call { callee:=.value fo,args:=(p::args).toArray,argTypes:=ats })
 (h:gh TT (cx J).C all (all.toList.take n) Y.nx Y.tm Y.bx [] fun tm bx _=>match aS tm fo,aS tm p,gK bx (aS tm) args with
   | .iv (.fn f),.ptr g 0,some (xs,[])=>∃s s' r,bx g=some (.bld (.str s))/\(∀g' s',bx g'=some (.bld s')->g'=g)/\wS Tryz.prog f s xs s' r/\
    gh TT (cx J).C all (all.toList.drop (n+1)) (Y.nx+n+1) (fb tm o.dst (.iv r)) (az bx g (some (.bld (.str s')))) [] fun tm bx _=>K .normal ⟨tm,bx,Y.nx+all.size⟩
   |_,_,_=>False):W J nt (.region id all false) Y K:=by
 unfold W;exact CW.build (X:=cx J) n ho hd hg hop h
def W.newBld{id:Nat}{o:Oper}{d:Nat}(hd:Nat.blt d nt=true)(hdst:o.dst=some d)(hg:o.guard=none)(hop:o.op=.alloc kr)
 (hb:Y.bx Y.nx=none) (h:K .normal ⟨az Y.tm d (.ptr Y.nx 0),az Y.bx Y.nx (some (.bld (.str []))),Y.nx+1⟩):W J nt (.region id #[o] false) Y K:=by
 unfold W;exact CW.newBld (X:=cx J) ((by simpa[dN] using hd)) hdst hg hop (i:=(Tryz.prog.info? kr).getD default) (by kernel_rfl) (by kernel_rfl) hb h
end
end Go.Proofs.Fl
namespace Go.Proofs.Fl
open Go.RowKit Go.Proofs.Dig
attribute [local irreducible] IntKind.wrap aW bc bj bm
def Dm:∀(w n:Nat),0<w->n<10^w->ci w n=List.replicate (w-(br n).length) 48++br n/\(br n).length<=w
 |0,_,h,_=>absurd h (by omega)
 |1,n,_,h=>by
  have hn:n<10:=by simpa using h
  rw[kF hn];refine⟨?_,by simp⟩;show ci 0 (n/10) ++ [eG (n%10)]=_;rw[gA hn];rfl
 |w+2,n,_,h=>by
  show ci (w+1) (n/10) ++ [eG (n%10)]=_/\_;by_cases hn:n<10
  . rw[kF hn,gA hn,mQ hn,B1];exact⟨by simp,Nat.succ_le_succ (ba _)⟩
  have hq:n/10<10^(w+1):=by
   rw[bX] at h;exact Nat.div_lt_of_lt_mul (by omega)
  obtain⟨h1,h2⟩:=Dm (w+1) (n/10) (by omega) hq;rw[q8,h1];refine⟨?_,by simp;omega⟩;rw[bg,xv,dI,show w+2-((br (n/10)).length+1)=w+1-(br (n/10)).length by omega]
def vM{n w:Nat}(h:n<10^w)(hw:0<w:=by omega):(br n).length<=w:=(Dm w n hw h).2
def Sj(n:Nat):Lib.itoa ((n:Nat):Int)=br n:=by
 unfold Lib.itoa;rw[aq (by omega),mL];induction n using Nat.strongRecOn with
 |_ n ih=>
  rw[Lib.decDigits];split
  . rename_i h;rw[kF h];rfl
  rename_i h;rw[q8,ih (n/10) (by omega)];rfl
def GR:∀c,Lib.repeatL [48] c=List.replicate c 48
 |0=>rfl
 |c+1=>by rw[qA,<-GR c];rfl
def MD:Bx->Bool
 | .bld _=>true
 |_=>false
def D9{m:List (Nat×Bx)}{g:Nat}(h:m.all (fun p=>Nat.beq p.1 g || !MD p.2)=true):∀g' s',dG m g'=some (.bld s')->g'=g:=by
 intro g' s' hg;induction m with
 |nil=>cases hg
 |cons p m ih=>
  simp only[dl,aH] at h;simp only[dG] at hg;cases hb:Nat.beq g' p.1 with
  |false=>rw[hb] at hg;exact ih h.2 hg
  |true=>
   rw[hb] at hg;simp only[al,ai] at hg;rw[hg] at h;simp only[MD,Bool.not_true,AZ] at h;rw[aB hb,aB h.1]
def T8{bx:Nat->Option Bx}{g:Nat}{b:Option Bx}(h:∀g' s',bx g'=some (.bld s')->g'=g):∀g' s',az bx g b g'=some (.bld s')->g'=g:=by
 intro g' s' hg;by_cases e:g'=g
 . exact e
 rw[aI _ _ _ e] at hg;exact h g' s' hg
def LibI.any{J:Keep}(L:LibI J):LibI J.any:=⟨L.pow10⟩
def iI(ds:List Nat)(k:Nat):List UInt8:=if k=0 then [] else br (iU ds k)
def RV{ds:List Nat}(hd:Dg B9 ds){k:Nat}(hk:k<=ds.length):(iI ds k).length<=9*k:=by
 unfold iI;split
 . simp
 refine vM ?_;have:=fL (hd.drop (ds.length-k));rw[nO,show ds.length-(ds.length-k)=k by omega] at this;have e:B9^k=10^(9*k):=by rw[A5]
 rw[<-e];exact this
def RU{ds:List Nat}(hk:0<ds.length):iI ds (0+1)=br (ds.getD (ds.length-1-0) 0):=by
 unfold iI;rw[aq (by omega),CM hk,Jh,nN,a8]
def QN{ds:List Nat}(hd:Ok B9 ds){k:Nat}(h0:0<k)(hk:k<ds.length):iI ds (k+1)=iI ds k++ci 9 (ds.getD (ds.length-1-k) 0):=by
 unfold iI;rw[aq (by omega),aq (by omega),CM hk];have h1:0<iU ds k:=by
  unfold iU;refine LK (by decide) (hd.nm.drop _) (fun e=>?_);have:=aL List.length e;simp at this;omega
 exact Qb 9 h1 (hd.dg.getD (by decide) _)
def U2{J:Keep}(L:LibI J){ds:List Nat}(hd:Ok B9 ds)(hl:ds.length<2^43):C J 56 [bP ds] (.str (br (nv B9 ds))):=by
 refine aN (J:=J.top) Tryz.func56 rfl rfl rfl ?_;have lm:(ds.map u32).length=ds.length:=by simp
 by_cases h0:ds=[]
 . subst h0;repeat((first|refine W.R ?_|refine W.c ?_|refine⟨_,tx J [],?_⟩);conv=>whnf)
   show IV.str [48]=IV.str (br 0);rw[kF];rfl
 have hp:0<ds.length:=List.length_pos_iff.2 h0;have c0:=tx J (ds.map u32);rw[show(((ds.map u32).length:Int)==0)=false by rw[lm];exact beq_eq_false_iff_ne.2 (by omega)] at c0;repeat (first|(refine W.S ?_;refine W.newBld rfl rfl rfl rfl rfl ?_;conv=>whnf)|((first|refine W.R ?_|refine W.c ?_|refine⟨_,c0,?_⟩|refine⟨176,[.sl (ds.map u32)],KR J _,rfl,?_⟩);conv=>whnf))
 refine W.weak (Y':=aF [(1,.ptr aP 0),(3,.ptr (aP+1) 0),(11,.clo 176 [7])] [(aP,.var (bP ds)),(aP+1,.bld (.str [])),(7,.var (.sl (ds.map u32)))] 50) (Wk.tab [(aP,0),(aP+1,4)] ⟨ab,ab,ab,aa⟩ ⟨rfl,rfl,rfl,aa⟩ rfl) ?_;refine W.range (KO J (show ds.length<2^60 by omega)) [aP,aP+1] [(1,.ptr aP 0),(3,.ptr (aP+1) 0)] (fun k=>[(aP,.var (bP ds)),(aP+1,.bld (.str (iI ds k)))]) 60 rfl ⟨rfl,aa⟩ (by simp) rfl JN (fun _=>rfl) (fun _=>by intro p hp;simp at hp;rcases hp with rfl|rfl<;>rfl) rfl ⟨rfl,rfl,aa⟩ rfl ⟨rfl,rfl,aa⟩ rfl rfl (fun k hk=>?_) ?_
 .
  rw[Lj hk];rw[ta] at hk;show W J.any _ _ ⟨np (nC [(1,.ptr aP 0),(3,.ptr (aP+1) 0)]) [12,13] [.int .i64 ((ds.length-1-k:Nat):Int),u32 (ds.getD (ds.length-1-k) 0)],dG [(aP,.var (bP ds)),(aP+1,.bld (.str (iI ds k)))],60⟩ _;have hlen:=RV hd.dg (k:=k) (by omega);have h3:=hd.dg.getD (by decide) (ds.length-1-k);have hpad:=Dm 9 (ds.getD (ds.length-1-k) 0) (by decide) h3;have hone:=RU hp;have hsucc:=fun h0=>QN hd (k:=k) h0 hk;obtain⟨x,hx⟩:∃x,ds.getD (ds.length-1-k) 0=x:=⟨_,rfl⟩;rw[hx] at h3 hpad hsucc ⊢;have h3:x<1000000000:=h3;have c1:=UP (J:=J.any) L.any (n:=((x:Nat):Int)) (by omega) (by omega);rw[Sj] at c1;have hdl:=hpad.2;have c2:=U1 J (s:=[48]) (c:=9-(br x).length) (by simp;omega) (by omega);rw[GR,show((9-(br x).length:Nat):Int)=9-((br x).length:Int) by omega] at c2;by_cases hk0:0<k
  . have he:=hsucc hk0;rw[hpad.1,<-dI] at he;have w1:=Et (s:=iI ds k) (t:=List.replicate (9-(br x).length) 48) (by simp;omega);have w2:=Et (s:=iI ds k++List.replicate (9-(br x).length) 48) (t:=br x) (by simp;omega);rw[<-he] at w2;have o1:=D9 (m:=[(aP,.var (bP ds)),(aP+1,.bld (.str (iI ds k)))]) (g:=aP+1) rfl;repeat((first|refine W.build 4 rfl rfl rfl rfl ?_|refine W.build 1 rfl rfl rfl rfl ?_|refine W.R ?_|refine W.c ?_|refine⟨_,c1,?_⟩|refine⟨_,c2,?_⟩|refine⟨_,_,_,rfl,o1,w1,?_⟩|refine cy ?_|refine⟨_,cZ,?_⟩|refine xT ?_|refine⟨_,rfl,?_⟩|refine xr ?_);conv=>whnf)
    repeat((first|refine⟨_,_,_,rfl,T8 o1,w2,?_⟩|refine xr ?_);conv=>whnf)
    exact trivial
  have e0:k=0:=by omega
  subst e0;rw[hx] at hone;have hpe:iI ds 0=[]:=rfl;have w2:wS Tryz.prog 127 [] [.str (br x)] (iI ds (0+1)) (.tup [.int .i64 ((br x).length:Nat),.nil 0]):=by
   rw[hone];exact Et (s:=[]) (t:=br x) (by simp;omega)
  have o1:=D9 (m:=[(aP,.var (bP ds)),(aP+1,.bld (.str []))]) (g:=aP+1) rfl;rw[hpe];repeat((first|refine W.build 1 rfl rfl rfl rfl ?_|refine W.R ?_|refine W.c ?_|refine⟨_,c1,?_⟩|refine⟨_,_,_,rfl,o1,w2,?_⟩|refine cy ?_|refine⟨_,cZ,?_⟩|refine xF ?_|refine⟨_,rfl,?_⟩|refine xr ?_);conv=>whnf)
  exact trivial
 rw[ta];have hall:iI ds ds.length=br (nv B9 ds):=by
  unfold iI;rw[aq (by omega),KK]
 rw[hall];have o1:=D9 (m:=[(aP,.var (bP ds)),(aP+1,.bld (.str (br (nv B9 ds))))]) (g:=aP+1) rfl;have w3:=WK (DC (nv B9 ds));repeat (first|(refine W.S ?_;refine W.build 0 rfl rfl rfl rfl ?_;conv=>whnf)|((first|refine W.ret ?_|refine⟨_,_,_,rfl,o1,w3,?_⟩);conv=>whnf))
 rfl
def KY{J:Keep}(L:LibI J){n:Nat}(h:ln n<2^43:=by omega):C J 56 [aQ n] (.str (br n)):=by
 have:=U2 L (dm n) h;rwa[dT] at this
def eX(q:Rat):List UInt8:=if q.den=1 then eE q.num else eE q.num ++ [47]++br q.den
def K3(n:Nat):(br n).length<=9*ln n+1:=by
 refine vM ?_;have h:=n9 n;have e:B9^ln n=10^(9*ln n):=by rw[A5]
 have:=co (n:=10) (by decide) (uU (9*ln n));show n<10^(9*ln n+1);omega
def K4(n:Nat):(br n).length<=5*lh n+1:=by
 refine vM ?_;have h:=iE n;have e:ar^lh n<=10^(5*lh n):=by rw[A5];exact A6 (by decide) _
 have:=co (n:=10) (by decide) (uU (5*lh n));show n<10^(5*lh n+1);omega
def Ql(n:Nat):eE (n:Int)=br n:=by
 unfold eE;rw[aq (by omega),dP];rfl
def Qm(z:Int):(eE z).length<=(br z.natAbs).length+1:=by
 unfold eE;split<;>simp<;>omega
def Eo{J:Keep}(L:LibI J){q:Rat}(h:aU q<2^40:=by omega):C J 17 [qr q] (.str (eX q)):=by
 refine aN Tryz.func17 rfl rfl rfl ?_;have hq:=h;unfold aU at hq;have c1:=KY L (n:=q.num.natAbs);have c2:=KY L (n:=q.den);have c3:=ni J (q:=q);have l1:=K3 q.num.natAbs;have l2:=K3 q.den;have c4:=tx J ((dg (q.den-1)).map u32);have hz:(((dg (q.den-1)).map u32).length=0)↔q.den=1:=by
  have:=dZ q;rw[aV];have h2:=@Qa (q.den-1);rw[<-List.length_eq_zero_iff] at h2;omega
 unfold eX;by_cases hn:q.num<0
 .
  have e1:eE q.num=[45]++br q.num.natAbs:=by unfold eE;rw[au hn]
  show W J _ _ ⟨argS [.agg [.sl ((dg q.num.natAbs).map u32),.bool (decide (q.num<0)),.sl ((dg (q.den-1)).map u32)]],fun _=>none,0⟩ _;rw[bB hn];unfold qr qd at c3;rw[bB hn] at c3;by_cases hd:q.den=1
  . rw[show(((dg (q.den-1)).map u32).length:Int)==0 by rw[xC];have:=hz.2 hd;omega] at c4;rw[au hd,e1];repeat (first|(refine af ?_)|((first|refine⟨_,c1,?_⟩|refine⟨_,c4,?_⟩);conv=>whnf)|(refine⟨by simp;omega,?_⟩;conv=>whnf)|(refine⟨_,rfl,?_⟩;conv=>whnf))
    rfl
  rw[show((((dg (q.den-1)).map u32).length:Int)==0)=false by rw[xI];intro e;exact hd (hz.1 (by omega))] at c4;rw[aq hd,e1];repeat (first|(refine af ?_)|((first|refine⟨_,c1,?_⟩|refine⟨_,c2,?_⟩|refine⟨_,c3,?_⟩|refine⟨_,c4,?_⟩);conv=>whnf)|(refine⟨by simp;omega,?_⟩;conv=>whnf)|(refine⟨_,rfl,?_⟩;conv=>whnf))
  simp[iD]
 have e1:eE q.num=br q.num.natAbs:=by unfold eE;rw[aq hn];rfl
 show W J _ _ ⟨argS [.agg [.sl ((dg q.num.natAbs).map u32),.bool (decide (q.num<0)),.sl ((dg (q.den-1)).map u32)]],fun _=>none,0⟩ _;rw[bE hn];unfold qr qd at c3;rw[bE hn] at c3;by_cases hd:q.den=1
 . rw[show(((dg (q.den-1)).map u32).length:Int)==0 by rw[xC];have:=hz.2 hd;omega] at c4;rw[au hd,e1];repeat (first|(refine af ?_)|((first|refine⟨_,c1,?_⟩|refine⟨_,c4,?_⟩|refine⟨_,rfl,?_⟩);conv=>whnf))
   rfl
 rw[show((((dg (q.den-1)).map u32).length:Int)==0)=false by rw[xI];intro e;exact hd (hz.1 (by omega))] at c4;rw[aq hd,e1];repeat (first|(refine af ?_)|((first|refine⟨_,c1,?_⟩|refine⟨_,c2,?_⟩|refine⟨_,c3,?_⟩|refine⟨_,c4,?_⟩);conv=>whnf)|(refine⟨by simp;omega,?_⟩;conv=>whnf)|(refine⟨_,rfl,?_⟩;conv=>whnf))
 simp[iD]
def U6(J:Keep){a:Rat}{d1 d2:IV}(hd:DOk a d1 d2)(h:rl a<2^36):C J 151 [fx a d1 d2] (.str (eX a)):=by
 refine aN Tryz.func151 rfl rfl rfl ?_;unfold rl at h;have c1:=KX J (z:=a.num) (by omega);have c2:=KX J (z:=(a.den:Int)) (by rw[mw];omega);rw[Ql] at c2;have l1:=Qm a.num;have l2:=K4 a.num.natAbs;have l3:=K4 a.den;unfold eX;by_cases hd1:a.den=1
 . have e:(br a.den == [49])=true:=by rw[hd1,kF];rfl
   rw[au hd1];repeat (first|(refine af ?_)|((first|refine⟨_,lS J hd,?_⟩|refine⟨_,c1,?_⟩|refine⟨_,c2,?_⟩|refine⟨_,e,?_⟩);conv=>whnf))
   rfl
 have e:(br a.den == [49])=false:=by
  rw[xI];intro h';exact hd1 (yC (h'.trans (kF (n:=1)).symm))
 rw[aq hd1];repeat (first|(refine af ?_)|((first|refine⟨_,lS J hd,?_⟩|refine⟨_,c1,?_⟩|refine⟨_,c2,?_⟩|refine⟨_,e,?_⟩);conv=>whnf)|(refine⟨by simp;omega,?_⟩;conv=>whnf)|(refine xr ?_;conv=>whnf))
 rfl
def Vw(z:Int)(n:Nat):sv (decide (z<0)&&(((n%2:Nat):Int)==1)) (z.natAbs^n)=z^n:=by
 unfold sv;by_cases hz:z<0
 .
  obtain⟨m,rfl⟩:∃m:Nat,z = -(m:Int):=⟨z.natAbs,by omega⟩;rw[bB hz,xD,dP,qK];rcases Nat.mod_two_eq_zero_or_one n with h|h
  .
   rw[h];have:n=2*(n/2):=by omega
   have e:(-(m:Int))^n=(m:Int)^n:=by
    rw[this,F7,F7];congr 1;rw[mS,mS,mS,mS];simp;exact FZ _ _
   rw[e];simp
  rw[h];have:n=2*(n/2)+1:=by omega
  have e:(-(m:Int))^n = -((m:Int)^n):=by
   rw[this,mS,mS,F7,F7];rw[show(-(m:Int))^2=(m:Int)^2 by rw[mS,mS,mS,mS];simp;exact FZ _ _];rw[FY]
  rw[e];simp
 obtain⟨m,rfl⟩:∃m:Nat,z=(m:Int):=⟨z.natAbs,by omega⟩;rw[bE hz,dP];simp
def Wu{J:Keep}{a:Rat}(ha:aU a<2^28)(k:Int):C J 132 [qr a,.int .i64 k] (qr (a^(pF k 1000))):=by
 refine aN Tryz.func132 rfl rfl rfl ?_;obtain⟨n,hn⟩:∃n,pF k 1000=n:=⟨_,rfl⟩;have hn1:n<=1000:=by rw[<-hn];unfold pF;omega
 have hq:=ha;unfold aU at hq;have m1:=cL (ln a.num.natAbs) (show n+1<=1001 by omega);have m2:=cL (ln a.den) (show n+1<=1001 by omega);have c0:=U4 J k 1000;have c1:=KZ J (a:=a.num.natAbs) (n:=n);have c2:=ni J (q:=a);have c3:=KZ J (a:=a.den) (n:=n);have hp:1<=a.den^n:=gB (dZ a);have l3:=Ee a.den n;have m3:=cL (ln a.den) (show n<=1000 by omega);have c4:=tw J (a:=a.den^n) (b:=1) hp (by omega);have hm:((n:Nat):Int).tmod 2=((n%2:Nat):Int):=l9 n 2;have c5:=ig J (decide (a.num<0)&&(((n%2:Nat):Int)==1)) (a.num.natAbs^n);rw[Vw] at c5;rw[hn] at c0 ⊢;have fin:IV.agg [.sl ((dg (a.num^n).natAbs).map u32),.bool (decide (a.num^n<0)),.sl ((dg (a.den^n-1)).map u32)]=qr (a^n):=by
  rw[qr,qd,Rat.num_pow,Rat.den_pow]
 show W J _ _ ⟨argS [.agg [.sl ((dg a.num.natAbs).map u32),.bool (decide (a.num<0)),.sl ((dg (a.den-1)).map u32)],.int .i64 k],fun _=>none,0⟩ _;unfold qr qd at c2;by_cases h:a.num<0
 . rw[bB h] at c2 c5 ⊢;repeat (first|(refine af ?_)|((first|refine⟨_,c0,?_⟩|refine⟨_,c1,?_⟩|refine⟨_,c2,?_⟩|refine⟨_,c3,?_⟩|refine⟨_,c4,?_⟩|refine⟨_,c5,?_⟩|refine⟨_,lU J (n:=1),?_⟩|refine⟨by omega,_,hm,?_⟩);conv=>whnf)|(refine ap ?_))
   exact fin
 rw[bE h] at c2 c5 ⊢;repeat (first|(refine af ?_)|((first|refine⟨_,c0,?_⟩|refine⟨_,c1,?_⟩|refine⟨_,c2,?_⟩|refine⟨_,c3,?_⟩|refine⟨_,c4,?_⟩|refine⟨_,c5,?_⟩|refine⟨_,lU J (n:=1),?_⟩);conv=>whnf)|(refine ap ?_))
 exact fin
def CA:aU 0<=1:=by
 show ln 0+ln 1<=1;have h0:ln 0<=0:=mc;rw[rx];omega
def Tu:rl 0<=1:=by
 show lh 0+lh 1<=1;have h0:lh 0<=0:=kQ;have:=LQ;omega
def Mz(n:Nat):ln n<=lh n:=mc (iy (iE n) (A6 (by decide) _))
def zB(q:Rat):aU q<=rl q:=by
 unfold aU rl;have h1:=Mz q.num.natAbs;have h2:=Mz q.den;omega
def Ac(z:Int):aU (z:Rat)<=ln z.natAbs+1:=by
 show ln z.natAbs+ln 1<=_;rw[rx];omega
def VD(a b:Rat):rl (a/b)<=rl a+rl b+1:=by
 by_cases hb:b=0
 . rw[hb,A8,Rat.inv_zero,Rat.mul_zero];have:=Tu;omega
 have hi:b⁻¹.num.natAbs=b.den/\b⁻¹.den=b.num.natAbs:=by
  have hn0:b.num≠0:=fun e=>hb (Rat.num_eq_zero.1 e);show(Rat.inv b).num.natAbs=_/\(Rat.inv b).den=_;unfold Rat.inv;split
  . simp
  split
  . simp
  omega
 have h:=LD a b⁻¹;rw[<-A8] at h;unfold rl at *;rw[hi.1,hi.2] at h;omega
section
variable {J:Keep}{a b c d:Rat}{e f:Option Rat}
end
def XK(c:UInt8):Bool:=decide (48<=c.toNat/\c.toNat<=57)
def digs(s:List UInt8):Bool:=!s.isEmpty&&s.all XK
def base(J:Keep):Base J:=⟨fun _ h=>Va J h⟩
def yR(J:Keep){n:Int}(h1 : -9223372036854775808<=n:=by omega)(h2:n<=9223372036854775807:=by omega):C J 27 [.int .i64 n] (qr (n:Rat)):=by
 refine aN Tryz.func27 rfl rfl rfl ?_;have c1:=zR J h1 h2;repeat (first|(refine af ?_)|(refine⟨_,c1,?_⟩;conv=>whnf))
 rfl
def TF{J:Keep}(B:Base J){a b:Rat}(ha:aU a<2^38)(hb:aU b<2^38)(hb0:b≠0):C J 163 [qr a,qr b] (qr (a/b)):=by
 refine aN Tryz.func163 rfl rfl rfl ?_;have c1:=El B ha hb hb0;repeat (first|(refine af ?_)|(refine⟨_,c1,?_⟩;conv=>whnf))
 rfl
abbrev di(n:Int):IV:=.int .i64 n
def sumI:List Int->Int
 | []=>0
 |x::l=>x+sumI l
def Pi(a b:List Int):sumI (a++b)=sumI a+sumI b:=by
 induction a with
 |nil=>simp[sumI]
 |cons x a ih=>simp only[lC,sumI,ih];omega
def ed:List Int->Nat
 | []=>0
 |x::l=>x.natAbs+ed l
def PJ(a b:List Int):ed (a++b)=ed a+ed b:=by
 induction a with
 |nil=>simp[ed]
 |cons x a ih=>simp only[lC,ed,ih];omega
def vC:∀l:List Int,(sumI l).natAbs<=ed l
 | []=>ah _
 |x::l=>by have:=vC l;simp only[sumI,ed];omega
def yq(l:List Int)(t:Nat):ed (l.take t)<=ed l:=by
 have e:=PJ (l.take t) (l.drop t);rw[kC] at e;omega
def Nd{l:List Int}{i:Nat}(h:i<l.length):(l.map di)[i]?=some (di (l.getD i 0)):=by
 rw[bI,cn,bi h];rfl
def BQ{l:List Int}{t:Nat}(h:t<l.length):sumI (l.take (t+1))=sumI (l.take t)+l.getD t 0:=by
 rw[dO,Pi,cn,bi h];simp[sumI]
def TO(J:Keep){l:List Int}(hl:l.length<2^60)(hs:ed l<2^62):C J 101 [.sl (l.map di)] (.int .i64 (sumI l)):=by
 have la:(l.map di).length=l.length:=by simp
 refine aN Tryz.func101 rfl rfl rfl ?_;refine aK ?_;refine W.loop (G:={ t:Nat // t<=l.length }) (fun t=>aF [(0,.iv (.sl (l.map di))),(3,.iv (.int .i64 (sumI (l.take t.1)))),(6,.iv (.sl (l.map di))),(7,.iv (.int .i64 (l.length:Int))),(8,.iv (.int .i64 (t.1:Int)))] [] 20) (fun t=>l.length-t.1) ⟨0,ba _⟩
  (Wk.tab [] ⟨ab,ab,ab,⟨df (by rw[la]),rfl⟩,ab,aa⟩ trivial rfl) ?_
 rintro⟨t,ht⟩;show W J _ _ (aF [(0,.iv (.sl (l.map di))),(3,.iv (.int .i64 (sumI (l.take t)))),(6,.iv (.sl (l.map di))),(7,.iv (.int .i64 (l.length:Int))),(8,.iv (.int .i64 (t:Int)))] [] 20) _;have b1:=vC (l.take t);have b2:=yq l t;by_cases h:t<l.length
 . have e:=BQ h;have b3:=vC (l.take (t+1));have b4:=yq l (t+1);obtain⟨y,hy⟩:∃y,l.getD t 0=y:=⟨_,rfl⟩;obtain⟨s,hs'⟩:∃s,sumI (l.take t)=s:=⟨_,rfl⟩;obtain⟨s2,hs2⟩:∃s,sumI (l.take (t+1))=s:=⟨_,rfl⟩;rw[hs2] at b3;rw[hs',hy,hs2] at e;rw[hs'] at b1;rw[hs'];have gy:(l.map di)[t]?=some (di y):=by rw[Nd h,hy]
   repeat (first|(refine af ?_)|(refine⟨t,_,rfl,gy,rfl,?_⟩;conv=>whnf)|(refine ap ?_))
   exact⟨⟨t+1,by omega⟩,Wk.tab [] ⟨ab,⟨df (by dsimp only;rw[hs2];omega),rfl⟩,ab,ab,ab,aa⟩ trivial rfl,by dsimp only;omega⟩
 have e:t=l.length:=by omega
 subst e;rw[cN];refine aK ?_;rfl
end Go.Proofs.Fl
namespace Go.Proofs.Fl
open Go
def Cp{α:Type}:∀(a:Ask α) (w:World),w.drawn<=(w.ask a).2.drawn
 | .done _,w=>ah _
 | .ask what range k,w=>by
  unfold World.ask;dsimp only;split
  . exact Cp (k 0) w
  exact bf (uU _) (Cp _ { w with drawn:=w.drawn+1 })
def BP(w:World)(c:Sys):w.drawn<=(w.sys c).2.drawn:=by
 unfold World.sys;have:=Cp (Kernel.perform c w.os) w;split
 . exact ah _
 rename_i h;rw[h] at this;exact this
def OF{p:Program}{w w':World}{a k:Addr}{u:TypeId}{v:Value}{b:Bool}{l:List Addr}(h:w.viewStore p a u k v b=.ok (w',l)):w'.drawn=w.drawn:=by
 unfold World.viewStore at h;simp only[bind,Except.bind,pure,Except.pure] at h;repeat' split at h
 all_goals first|(cases h;rfl)|cases h
def Gm{p:Program}{w w':World}{a:Addr}{v:Value}{b:Bool}{l:List Addr}(h:w.farStore p a v b=.ok (w',l)):w'.drawn=w.drawn:=by
 unfold World.farStore at h;repeat' split at h
 all_goals first|cases h|skip
 exact OF (by assumption)
def wV{α:Type}:Result α->World
 | .ok _ w=>w
 | .halt _ w=>w
def BV{α:Type}(p:Program)(s:Sem α):∀w:World,w.drawn<=(wV (s.run p w)).drawn:=by
 induction s with
 |pure a=>exact fun w=>ah _
 |load m a k ih=>
  intro w;unfold Sem.run;split
  . exact ih _ w
  split
  . exact ih _ w
  exact ah _
 |store m a v k ih=>
  intro w;have key:∀v:Value,w.drawn<=(wV (match w.cell? a with
   |some _=>if w.frozen? a then Result.halt (.unsupported (.unsafePointer "a write to bytes that a string shares")) w else k.run p (w.setCell a v)
   |none=>match w.farStore p a v (m == .atomic) with
    | .ok (w,_)=>k.run p w
    | .error h=>.halt h w)).drawn:=fun v=>by
   split
   . split
     . exact ah _
     exact ih (w.setCell a v)
   split
   . rename_i hf;exact bf (jL (Gm hf).symm) (ih _)
   exact ah _
  cases v<;>first|exact ah _|(rw[Sem.run];exact key _;all_goals (intro _ h;cases h))
 |new o k ih=>intro w;unfold Sem.run;exact ih w.heap.size { w with heap:=w.heap.push o }
 |shape r k ih=>intro w;unfold Sem.run;exact ih _ _
 |freeze a n k ih=>
  intro w;unfold Sem.run;refine bf ?_ (ih _);unfold World.freeze;split<;>exact ah _
 |frozen a k ih=>intro w;unfold Sem.run;exact ih _ _
 |getObj r k ih=>intro w;unfold Sem.run;split<;>first|exact ah _|exact ih _ _
 |setObj r o k ih=>intro w;unfold Sem.run;split<;>first|exact ah _|exact ih { w with heap:=w.heap.setIfInBounds r o }
 |choose q k ih=>
  intro w;unfold Sem.run;split
  . exact ih _ _
  exact bf (uU _) (ih _ { w with drawn:=w.drawn+1 })
 |sys c k ih=>intro w;unfold Sem.run;exact bf (BP w c) (ih _ _)
 |program k ih=>intro w;unfold Sem.run;exact ih _ _
 |mark m k ih=>intro w;unfold Sem.run;exact ih _
 |halt h=>exact fun w=>ah _
def vc{α:Type}(p:Program)(s:Sem α):∀(w:World) (es:Array Event),w.drawn<=(wV (s.runT p w es).1).drawn:=by
 induction s with
 |pure a=>exact fun w _=>ah _
 |load m a k ih=>
  intro w es;unfold Sem.runT;split
  . exact ih _ w _
  split
  . exact ih _ w _
  exact ah _
 |store m a v k ih=>
  intro w es;have key:w.drawn<=(wV (match w.cell? a with
   |some _=>if w.frozen? a then((Result.halt (.unsupported (.unsafePointer "a write to bytes that a string shares")) w:Result α),es) else k.runT p (w.setCell a v) (es.push ⟨.cell a,true,m==Mode.atomic⟩)
   |none=>match w.farStore p a v (m==Mode.atomic) with
    | .ok (w,touched)=>k.runT p w (es++touched.toArray.map (fun x=>(⟨.cell x,true,m==Mode.atomic⟩:Event)))
    | .error h=>(.halt h w,es)).1).drawn:=by
   split
   . split
     . exact ah _
     exact ih (w.setCell a v) _
   split
   . rename_i hf;exact bf (jL (Gm hf).symm) (ih _ _)
   exact ah _
  cases v<;>first|exact ah _|(rw[Sem.runT];exact key;all_goals (intro _ h;cases h))
 |new o k ih=>intro w es;unfold Sem.runT;exact ih w.heap.size { w with heap:=w.heap.push o } es
 |shape r k ih=>intro w es;unfold Sem.runT;exact ih _ _ _
 |freeze a n k ih=>
  intro w es;unfold Sem.runT;refine bf ?_ (ih _ _);unfold World.freeze;split<;>exact ah _
 |frozen a k ih=>intro w es;unfold Sem.runT;exact ih _ _ _
 |getObj r k ih=>intro w es;unfold Sem.runT;split<;>first|exact ah _|exact ih _ _ _
 |setObj r o k ih=>intro w es;unfold Sem.runT;split<;>first|exact ah _|exact ih { w with heap:=w.heap.setIfInBounds r o } _
 |choose q k ih=>
  intro w es;unfold Sem.runT;split
  . exact ih _ _ _
  exact bf (uU _) (ih _ { w with drawn:=w.drawn+1 } _)
 |sys c k ih=>intro w es;unfold Sem.runT;exact bf (BP w c) (ih _ _ _)
 |program k ih=>intro w es;unfold Sem.runT;exact ih _ _ _
 |mark m k ih=>intro w es;unfold Sem.runT;exact ih _ _
 |halt h=>exact fun w _=>ah _
section
variable {α:Type}{p:Program}{s:Sem α}{w w':World}{a:α}{h:Halt}{es es':Array Event}
def ga(e:s.run p w=.ok a w'):w.drawn<=w'.drawn:=by have:=BV p s w;rwa[e] at this
def uF(e:s.run p w=.halt h w'):w.drawn<=w'.drawn:=by have:=BV p s w;rwa[e] at this
def YO(e:s.runT p w es=(.ok a w',es')):w.drawn<=w'.drawn:=by have:=vc p s w es;rwa[e] at this
def YN(e:s.runT p w es=(.halt h w',es')):w.drawn<=w'.drawn:=by have:=vc p s w es;rwa[e] at this
def YM{c:Sys}{r:SysRet}(e:w.sys c=(r,w')):w.drawn<=w'.drawn:=by have:=BP w c;rwa[e] at this
def sj(e:(s.runT p w es).1=.ok a w'):w.drawn<=w'.drawn:=by have:=vc p s w es;rwa[e] at this
def si(e:(s.runT p w es).1=.halt h w'):w.drawn<=w'.drawn:=by have:=vc p s w es;rwa[e] at this
end
def ir:GStep->World
 | .go _ w _=>w
 | .comm _ _ _ _ w _=>w
 | .spawn _ _ w _=>w
 | .count _ w _=>w
 | .timer _ _ w _=>w
 | .alone _ _ w _=>w
 | .newcoro _ _ _ w _=>w
 | .coroswitch _ _ _ w _=>w
 | .collect _ w _=>w
 | .watch _ w _=>w
 | .ended _ w _=>w
def vq(es:Array Event)(g:GStep):ir (g.after es)=ir g:=by cases g<;>rfl
def P8(w:World)(fd:Nat)(t:ByteArray)(o:Outcome):w.drawn<=(ir (endWith w fd t o)).drawn:=by
 unfold endWith;dsimp only;repeat' split
 all_goals exact YM (by assumption)
def Gn(p:Program)(fr:Frame)(v:Value)(w:World):w.drawn<=(ir (endPrinting p fr v w)).drawn:=by
 unfold endPrinting;dsimp only;split<;>exact ah _
def GU(p:Program)(fr:Frame)(cs:List Frame)(d:Option Dying)(m:String)(w:World):w.drawn<=(ir (endFatal p fr cs d m w)).drawn:=by
 unfold endFatal;dsimp only;repeat' split
 all_goals first|exact ah _|exact ga (by assumption)|exact uF (by assumption)
def PN(p:Program)(fr:Frame)(d:Dying)(f:Fatal)(w:World):w.drawn<=(ir (writeOn p fr d f w)).drawn:=by
 unfold writeOn;dsimp only;repeat' split
 all_goals first|exact ah _|exact YO (by assumption)|exact YN (by assumption)
def WF(p:Program)(fr:Frame)(d:Dying)(w:World):w.drawn<=(ir (die p fr d w)).drawn:=by
 unfold die;dsimp only;repeat' split
 all_goals first|exact ah _|exact PN .. | exact P8 .. | exact ga (by assumption)|exact uF (by assumption)|skip
 all_goals
  rw[vq];repeat' split
  all_goals first|exact sj (by assumption)|exact si (by assumption)|exact bf (si (by assumption)) (Gn ..)|skip
def By(p:Program)(main:Bool)(fr:Frame)(cs:List Frame)(d:Option Dying)(v:Value)(w:World):w.drawn<=(ir (doReturn p main fr cs d v w)).drawn:=by
 unfold doReturn;dsimp only;repeat' split
 all_goals exact ah _
def SA(p:Program)(fr:Frame)(cs:List Frame)(d:Option Dying)(g:Nat)(w:World):w.drawn<=(ir (early p fr cs d g w)).drawn:=by
 unfold early;dsimp only;repeat' split
 all_goals first|exact ah _|exact ga (by assumption)|exact uF (by assumption)|(have h:=ga ‹Sem.run _ _ _=Result.ok 0 _›;exact h)
def OL(p:Program)(fr:Frame)(cs:List Frame)(dy:Option Dying)(d:Deferred)(w:World):w.drawn<=(ir (callDeferred p fr cs dy d w)).drawn:=by
 unfold callDeferred;dsimp only;repeat' split
 all_goals first|exact ah _|rw[vq]
 all_goals first|exact sj (by assumption)|exact si (by assumption)|exact bf (si (by assumption)) (GU ..)|exact bf (si (by assumption)) (endThrow_dr ..)|skip
def Qq(p:Program)(main:Bool)(fr:Frame)(cs:List Frame)(dy:Option Dying)(w:World):w.drawn<=(ir (unwind p main fr cs dy w)).drawn:=by
 unfold unwind;dsimp only;repeat' split
 all_goals first|exact ah _|exact ga (by assumption)|exact uF (by assumption)|exact OL .. | exact By .. | exact Gn .. | skip
 all_goals
  rw[vq];repeat' split
  all_goals first|exact sj (by assumption)|exact si (by assumption)|exact bf (sj (by assumption)) (By ..)
def C1(p:Program)(l:Bool)(fr:Frame)(cs:List Frame)(dy:Option Dying)(s:Sem Next)(w:World):w.drawn<=(ir (stepG.apply p l fr cs dy s w)).drawn:=by
 unfold stepG.apply;dsimp only;rw[vq];have key:w.drawn<=(wV (if l=true then s.runT p w #[] else(s.run p w,#[])).1).drawn:=by
  split
  . exact vc ..
  exact BV ..
 generalize (if l=true then s.runT p w #[] else(s.run p w,#[]))=R at key ⊢;obtain⟨r,es⟩:=R;dsimp only at key ⊢;cases r with
 |ok a w'=>
  cases a<;>try dsimp only
  all_goals first|exact key|(repeat' split)
  all_goals first|exact key|exact bf key (endThrow_dr ..)
 |halt h w'=>
  cases h;all_goals try (rename_i u;cases u)
  all_goals try dsimp only
  all_goals first|exact key|exact bf key (endThrow_dr ..)|exact bf key (GU ..)|exact bf key (SA ..)|skip
def T7(p:Program)(l:Bool)(fr:Frame)(cs:List Frame)(dy:Option Dying)(w:World):w.drawn<=(ir (stepG.oper p l fr cs dy w)).drawn:=by
 unfold stepG.oper;repeat' split
 all_goals first|exact ah _|exact C1 ..
def Vb(p:Program)(main l:Bool)(fr:Frame)(cs:List Frame)(dy:Option Dying)(w:World):w.drawn<=(ir (stepG.exec p main l fr cs dy w)).drawn:=by
 unfold stepG.exec Option.elim;dsimp only;repeat' split
 all_goals first|exact ah _|exact C1 .. | exact T7 .. | exact ga (by assumption)|exact uF (by assumption)|rw[vq]|skip
 all_goals first|exact sj (by assumption)|exact si (by assumption)|exact bf (sj (by assumption)) (By ..)|exact bf (sj (by assumption)) (C1 ..)|skip
def RG(p:Program)(main:Bool)(g:Goroutine)(w:World)(l:Bool):w.drawn<=(ir (stepG p main g w l)).drawn:=by
 unfold stepG;dsimp only;repeat' split
 all_goals first|exact WF .. | exact Vb .. | exact Qq ..
def rZ(n:Nat):Stepped->Prop
 | .next m=>n<=m.world.drawn
 | .ended _ _=>True
def Kw(p:Program)(gs:Array Goroutine)(rest:Rest)(w:World):rZ w.drawn (look p gs rest w):=by
 unfold look;dsimp only;repeat' split
 all_goals first|trivial|(have h:=ga ‹Sem.run _ _ _=Result.ok _ _›;exact h)
def O3{rest:Rest}{cases_:Array CommCase}{w w':World}(h:waitingAt rest cases_ w=some w'):w'.drawn=w.drawn:=by
 unfold waitingAt at h;repeat' split at h
 all_goals (cases h;try rfl)
def OT(p:Program)(rest:Rest)(gs:Array Goroutine)(i:Nat)(g:Goroutine)(cs:Array CommCase)(b:Bool)(sh:CommShape)(w:World):rZ w.drawn (communicate p rest gs i g cs b sh w).1:=by
 unfold communicate;dsimp only;repeat' split
 all_goals first|trivial|exact ah _|exact jL (O3 (by assumption)).symm|exact ga (by assumption)|skip
 all_goals first
  | (have h:=ga ‹Sem.run _ _ w=Result.ok _ _›;exact h)
  | (have h:=ga ‹Sem.run _ _ w=Result.ok _ _›;exact bf h (uF (by assumption)))
  | (have h:=ga ‹Sem.run _ _ w=Result.ok _ _›;have h2:=ga ‹Sem.run _ (choose _) _=Result.ok _ _›;exact bf h h2)
def SB(w:World)(c:Nat):(drain w c).2.drawn=w.drawn:=by
 unfold drain;split<;>rfl
def HY(m:Machine)(k:Nat)(t:Timer)(a b:Nat):(retime m k t a b).2.world.drawn=m.world.drawn:=by
 unfold retime;dsimp only;split
 . rename_i c _;exact SB m.world c
 rfl
def I5{m m0 m':Machine}{var:Addr}{f:Nat->Timer->Value×Machine}{v:Value}(hf:∀k t,(f k t).2.world.drawn=m0.world.drawn)(h:timerOp.named m var f=.ok (v,m')):m'.world.drawn=m0.world.drawn:=by
 unfold timerOp.named at h;split at h
 . rename_i k _;injection h with h;have h2:=hf k (m.rest.timers.getD k default);rw[h] at h2;exact h2
 cases h
def QQ{m m':Machine}{var:Addr}(h:timerOp.opened m var=some m'):m'.world.drawn=m.world.drawn:=by
 unfold timerOp.opened at h;repeat' split at h
 all_goals (cases h;try rfl)
def PO{m m':Machine}{op:TimerOp}{v:Value}(h:timerOp m op=.ok (v,m')):m'.world.drawn=m.world.drawn:=by
 unfold timerOp at h;repeat' split at h
 all_goals first
  | (cases h;rfl)
  | (cases h;done)
  |exact I5 (fun k t=>HY ..) h
  | (rename_i ho;exact I5 (fun k t=>(HY ..).trans (QQ ho)) h)
def RL(p:Program)(m:Machine)(k:Nat):rZ m.world.drawn (serve p m k):=by
 unfold serve;dsimp only;repeat' split
 all_goals first|trivial|exact ah _
def zr{n k:Nat}(h:n<=k):∀{s:Stepped},rZ k s->rZ n s
 | .next _,hs=>bf h hs
 | .ended _ _,_=>trivial
def Tn(p:Program)(m:Machine)(i:Nat)(l:Bool):rZ m.world.drawn (Go.runT p m i l).1:=by
 unfold Go.runT;dsimp only;have h:=RG p (i==0) (m.gs.swapAt! i { (default:Goroutine) with status:=.finished }).1 m.world l;generalize stepG p (i==0) (m.gs.swapAt! i { (default:Goroutine) with status:=.finished }).1 m.world l=s at h ⊢;cases s;all_goals (dsimp only [ir] at h ⊢)
 all_goals first
  |trivial
  |exact h
  |exact zr h (OT ..)
  |exact zr h (Kw ..)
  |skip
 all_goals (repeat' split)
 all_goals first
  |trivial
  |exact h
  |exact zr h (endThrow_dr ..)
  | (exact bf h (jL (PO (by assumption)).symm))
  | (rename_i e;exact bf h (jL (aL (fun s=>(ir s).drawn) e)))
def w9(n:Nat):Move->Prop
 | .goroutine m _=>n<=m.world.drawn
 | .machine s _=>rZ n s
def ng{n k:Nat}(h:n<=k):∀{s:Move},w9 k s->w9 n s
 | .goroutine _ _,hs=>bf h hs
 | .machine _ _,hs=>zr h hs
def C0(p:Program)(m:Machine):w9 m.world.drawn (askOn p m):=by
 unfold askOn;dsimp only;repeat' split
 all_goals try trivial
 all_goals refine ng (ga ‹Sem.run _ _ m.world=Result.ok _ _›) ?_
 all_goals try exact ah _
 all_goals try exact RL ..
 all_goals first|refine ng (ga ‹Sem.run _ _ _=Result.ok _ _›) ?_|(have h:=ga ‹Sem.run _ _ (Machine.advanceTo _ _).world=Result.ok _ _›;refine ng h ?_)
 all_goals try exact ah _
 all_goals first|refine ng (ga ‹Sem.run _ _ _=Result.ok _ _›) ?_|(have h:=ga ‹Sem.run _ _ (Machine.advanceTo _ _).world=Result.ok _ _›;refine ng h ?_)
 all_goals try exact ah _
 all_goals first|refine ng (ga ‹Sem.run _ _ _=Result.ok _ _›) ?_|(have h:=ga ‹Sem.run _ _ (Machine.advanceTo _ _).world=Result.ok _ _›;refine ng h ?_)
 all_goals exact ah _
def Mf(p:Program)(m:Machine):w9 m.world.drawn (ask p m):=by
 unfold ask;split
 .
  split
  . trivial
  . rename_i w1 e;refine ng (ga e) ?_;have h:=Kw p m.gs m.rest w1;split
    . rename_i m1 e1;rw[e1] at h;exact ng h (C0 p m1)
    exact h
  rename_i w1 _ e;exact ng (ga e) (C0 p { m with world:=w1 })
 exact C0 ..
def Up(p:Program)(m:Machine):w9 m.world.drawn (move p m):=by
 unfold move;dsimp only;repeat' split
 all_goals first|trivial|exact ah _|exact Mf p m|exact Mf p { m with rest:={ m.rest with slice:=none } }|skip
def S9{p:Program}{m m':Machine}(h:step p m=.next m'):m.world.drawn<=m'.world.drawn:=by
 have k:=Up p m;unfold step stepT at h;split at h
 . rename_i m1 i e;rw[e] at k;have:=Tn p m1 i true;rw[h] at this;exact bf k this
 rename_i s ops e;rw[e] at k;dsimp only at h;rw[h] at k;exact k
def RF{p:Program}{m m':Machine}(h:Steps p m m'):m.world.drawn<=m'.world.drawn:=by
 obtain⟨n,h⟩:=h;induction n generalizing m with
 |zero=>unfold runN at h;cases h;exact ah _
 |succ n ih=>
  unfold runN at h;split at h
  . exact bf (S9 (by assumption)) (ih h)
  rename_i e;exact absurd h (by first|exact e _|exact fun h=>e _ h)
def SK{P:Program}{f:FuncId}{args:Array Value}{w:World}{R:Ending->World->Prop}(h:Calls P f args w R):Calls P f args w fun e w'=>R e w'/\∀v,e=.returned v->w.drawn<=w'.drawn:=fun cs=>by
 obtain⟨e,w',fr,h1,h2,h3⟩:=h cs;refine⟨e,w',fr,⟨h1,fun v hv=>?_⟩,h2,h3⟩;subst hv;exact RF h2
end Go.Proofs.Fl
namespace Go.Proofs.Fl
open Go.RowKit
def UB{w w':World}(h:Below w.heap.size w w')(hd:w.drawn<=w'.drawn):∃q os,w'=Go.Sort.grow (w.drewN q) os:=by
 refine⟨w'.drawn-w.drawn,w'.heap.extract w.heap.size w'.heap.size,?_⟩;obtain⟨h1,h2,h3,h4,h5⟩:=h;cases w with
 |mk hp tp dr os out=>
 cases w' with
 |mk hp' tp' dr' os' out'=>
 simp only at h1 h2 h3 h4 h5 hd ⊢;subst h1 h2 h3;unfold Go.Sort.grow World.drewN;simp only;congr 1
 .
  apply Array.ext_getElem?;intro i;rcases gb i hp.size with hi|hi
  . rw[Array.getElem?_append_left hi,h5 i hi]
  rw[Array.getElem?_append_right hi,Array.getElem?_extract];split
  . congr 1;omega
  rename_i hh;exact uO (by omega)
 omega
def QI{P:Program}{I:World->Prop}{f:FuncId}{xs:List IV}{k:IntKind}{n:Int}(h:aW P I f xs (.int k n)){H:ak}{w:World}{args:List Value}(hI:I w)(hH:HeapHas w H)(ha:VRL H args xs) :
 Calls P f args.toArray w fun e w'=>e=.returned (.int k n)/\∃q os,w'=Go.Sort.grow (w.drewN q) os :=
 (SK (h.2 H w args hI hH ha)).mono fun e w' ⟨⟨v,H',he,h1,h2,h3,h4⟩,h5⟩=>by
   cases h3;exact⟨he,UB h4 (h5 _ he)⟩
end Go.Proofs.Fl
namespace Go.Proofs.En
open Go.RowKit Go.Proofs.Fl
inductive PT(α:Type) where
 |nil
 |node (l:PT α) (v:Option α) (r:PT α)
 deriving Inhabited
def PT.get{α:Type}:PT α->Nat->Option α
 | .nil,_=>none
 | .node l v r,n=>bif Nat.beq n 0 then v else bif Nat.beq (n%2) 1 then l.get (n/2) else r.get (n/2-1)
def PT.force{α:Type}{U:Sort _}(t:PT α)(k:PT α->U):U:=match t with
 | .nil=>k .nil
 | .node l v r=>k (.node l v r)
def oP{α:Type}{U:Sort _}(t:PT α)(k:PT α->U):t.force k=k t:=by cases t<;>rfl
def jX{α:Type}:Nat->PT α->Nat->α->PT α
 |0,t,_,_=>t
 |f+1,.nil,n,a=>bif Nat.beq n 0 then .node .nil (some a) .nil else bif Nat.beq (n%2) 1 then(jX f .nil (n/2) a).force fun x=>.node x none .nil else(jX f .nil (n/2-1) a).force fun x=>.node .nil none x
 |f+1,.node l v r,n,a=>bif Nat.beq n 0 then .node l (some a) r else bif Nat.beq (n%2) 1 then(jX f l (n/2) a).force fun x=>.node x v r else(jX f r (n/2-1) a).force fun x=>.node l v x
def PT.set{α:Type}(t:PT α)(n:Nat)(a:α):PT α:=jX (n+1) t n a
def dU{a b:Nat}(h:a≠b:=by omega):Nat.beq a b=false:=by
 cases hb:Nat.beq a b
 . rfl
 exact absurd (aB hb) h
def PL{α:Type}(a:α):∀(f:Nat) (t:PT α) (n m:Nat),n<f->(jX f t n a).get m=if m=n then some a else t.get m:=by
 intro f;induction f with
 |zero=>intro t n m h;omega
 |succ f ih=>
  intro t n m h;have step:∀(l:PT α) (v:Option α) (r:PT α),(bif Nat.beq n 0 then PT.node l (some a) r else bif Nat.beq (n%2) 1 then .node (jX f l (n/2) a) v r else .node l v (jX f r (n/2-1) a)).get m=if m=n then some a else(PT.node l v r).get m:=by
   intro l v r;by_cases hn:n=0
   . subst hn;simp only[bD,al,PT.get];by_cases hm:m=0
     . subst hm;simp
     rw[dU hm,aq hm];rfl
   rw[dU hn,bh];by_cases ho:n%2=1
   .
    rw[ho,bD,al];simp only[PT.get];by_cases hm:m=0
    . subst hm;rw[aq (by omega)];simp
    rw[dU hm,bh];by_cases hmo:m%2=1
    . rw[hmo,bD,al,ih _ _ _ (by omega)];by_cases e:m=n
      . rw[au e,au (by rw[e])]
      rw[aq e,aq (by omega)];simp[dU hm]
    rw[dU hmo,bh,aq (by omega)];simp[dU hm]
   rw[dU ho,bh];simp only[PT.get];by_cases hm:m=0
   . subst hm;rw[aq (by omega)];simp
   rw[dU hm,bh];by_cases hmo:m%2=1
   . rw[hmo,bD,al,aq (by omega)];simp[dU hm]
   rw[dU hmo,bh,ih _ _ _ (by omega)];by_cases e:m=n
   . rw[au e,au (by rw[e])]
   rw[aq e,aq (by omega)];simp[dU hm]
  cases t with
  |node l v r=>
   rw[<-step l v r];simp only[jX,oP]
  |nil=>
   have:=step .nil none .nil;rw[show jX (f+1) .nil n a=(bif Nat.beq n 0 then PT.node .nil (some a) .nil else bif Nat.beq (n%2) 1 then .node (jX f .nil (n/2) a) none .nil else .node .nil none (jX f .nil (n/2-1) a)) by simp only[jX,oP],this];have:(PT.node (.nil:PT α) none .nil).get m=none:=by
    unfold PT.get;cases Nat.beq m 0
    . cases Nat.beq (m%2) 1<;>rfl
    rfl
   rw[this];rfl
def nV{α:Type}(t:PT α)(n:Nat)(a:α)(m:Nat):(t.set n a).get m=if m=n then some a else t.get m:=PL a _ t n m (by omega)
structure QS where
 qv:Int->Nat->IV
 qn:Nat
 ok:∀n d,∃cs,qv n d=.agg cs/\cs.length=qn
inductive Cap where
 |ex (c:Nat)
 |fin (sz:Nat)
 deriving Inhabited
inductive EV where
 |iv (x:IV)
 |qc (n:Int) (d j:Nat)
 |ptr (g u off:Nat)
 |slc (g u off n:Nat) (cap:Cap)
 |clo (f:FuncId) (gs:List Nat)
 |cd (f:FuncId) (xs:List IV)
 |yld (g:Nat)
 |mp (g:Nat)
 |dp (x:IV) (off:Nat)
 deriving Inhabited
inductive EW where
 |one (c:EV)
 |agg (cs:List EV)
 |q (n:Int) (d:Nat)
 deriving Inhabited
inductive ES where
 |unk
 |und
 |w (x:EW)
 |tup (xs:List EW)
 deriving Inhabited
inductive EO where
 |mem (e:TypeId) (cs:List EV) (fz:Bool) (vs:List (Nat×Nat)) (cnt:Nat)
 |map (es:List (EW×EW×Nat)) (clock:Nat)
 |loop (busy:Bool) (nt:Nat) (tm:PT ES) (ps:List Nat) (assign body:Code)
 |iter (gm since:Nat) (seen:List Nat) (last:Nat) (cur:Option Nat)
 |hid
 deriving Inhabited
def EO.cnt:EO->Nat
 | .mem _ _ _ _ n=>n
 |_=>1
abbrev Bm:=Nat->Nat->Option (Nat×Nat)
def BLe(U U':Bm):Prop:=∀g u k,U g u=some k->U' g u=some k
def BLe.refl(U:Bm):BLe U U:=fun _ _ _ h=>h
def BLe.trans{a b c:Bm}(h:BLe a b)(k:BLe b c):BLe a c:=fun g u x e=>k g u x (h g u x e)
def mh(U:Bm)(g u:Nat)(k:Nat×Nat):Bm:=fun g' u'=>if g'=g/\u'=u then some k else U g' u'
def fH(U:Bm)(g u:Nat)(k:Nat×Nat):mh U g u k g u=some k:=by simp[mh]
def kE(U:Bm)(g u:Nat)(k:Nat×Nat){g' u':Nat}(h:¬(g'=g/\u'=u)):mh U g u k g' u'=U g' u':=by unfold mh;rw[aq h]
def kI{U:Bm}{g u:Nat}{k:Nat×Nat}(h:U g u=none):BLe U (mh U g u k):=fun g' u' x e=>by
 by_cases e0:g'=g/\u'=u
 . rw[e0.1,e0.2,h] at e;cases e
 rw[kE _ _ _ _ e0];exact e
def Xn:Cap->Nat->Nat->Nat->Prop
 | .ex c',_,c,_=>c=c'
 | .fin sz,off,c,size=>off+c*sz=size
def io(U:Bm)(g:Nat):Value:=match U g 0 with
 |some k=>.pointer (some ⟨k.1,0,none⟩)
 |none=>undef
section
variable (Z:QS)(H:ak)(U:Bm)
def DpL:List Value->List IV->Prop
 | [],[]=>True
 |p::ps,x::xs=>(∃b base u arr,p=.pointer (some ⟨b,base,none⟩)/\H b=some arr/\VR H u x/\(arr.toList.drop base).take u.cells.size=u.cells.toList)/\DpL ps xs
 |_,_=>False
def CR(v:Value):EV->Prop
 | .iv x=>v.oneCell'=true/\VR H v x
 | .qc n d j=>v.oneCell'=true/\∃x,(Z.qv n d).cells[j]?=some x/\VR H v x
 | .ptr g u off=>∃k,U g u=some k/\v=.pointer (some ⟨k.1,off,none⟩)
 | .slc g u off n cap=>∃k c,U g u=some k/\v=.slice (some ⟨k.1,off,none⟩) n c/\n<=c/\Xn cap off c k.2
 | .clo f gs=>(∀g∈gs,∃k,U g 0=some k)/\v=.func (.func f) #[] (gs.map (io U)).toArray
 | .cd f xs=>∃ps:List Value,v=.func (.func f) #[] ps.toArray/\DpL H ps xs
 | .yld g=>∃k,U g 0=some k/\v=.func (.yield k.1) #[] #[]
 | .mp g=>∃k,U g 0=some k/\v=.map (some k.1)
 | .dp x off=>∃b base u arr,v=.pointer (some ⟨b,base+off,none⟩)/\H b=some arr/\VR H u x/\(arr.toList.drop base).take u.cells.size=u.cells.toList
def CRL:List Value->List EV->Prop
 | [],[]=>True
 |v::vs,x::xs=>CR Z H U v x/\CRL vs xs
 |_,_=>False
def WR(v:Value):EW->Prop
 | .one c=>CR Z H U v c
 | .agg cs=>∃vs:List Value,v=.agg vs.toArray/\CRL Z H U vs cs
 | .q n d=>VR H v (Z.qv n d)
def WRL:List Value->List EW->Prop
 | [],[]=>True
 |v::vs,x::xs=>WR Z H U v x/\WRL vs xs
 |_,_=>False
def SRe(v:Value):ES->Prop
 | .unk=>True
 | .und=>v=undef
 | .w x=>WR Z H U v x
 | .tup xs=>∃vs:List Value,v=.tuple vs.toArray/\WRL Z H U vs xs
end
section
variable {Z:QS}{H H':ak}{U U':Bm}
def Rk(hb:BLe U U'){g:Nat}(h:∃k,U g 0=some k):io U' g=io U g:=by
 obtain⟨k,h⟩:=h;unfold io;rw[h,hb _ _ _ h]
def DpL.mono(hh:HLe H H'):∀{ps:List Value} {xs:List IV},DpL H ps xs->DpL H' ps xs
 | [],[],_=>trivial
 |_::_,_::_,⟨⟨b,base,u,arr,h1,h2,h3,h4⟩,t⟩=>⟨⟨b,base,u,arr,h1,hh _ _ h2,h3.mono hh,h4⟩,DpL.mono hh t⟩
 | [],_::_,h=>h.elim
 |_::_,[],h=>h.elim
def CR.mono(hh:HLe H H')(hb:BLe U U'){v:Value}:∀{x:EV},CR Z H U v x->CR Z H' U' v x
 | .iv _,⟨h1,h2⟩=>⟨h1,h2.mono hh⟩
 | .qc _ _ _,⟨h1,x,h2,h3⟩=>⟨h1,x,h2,h3.mono hh⟩
 | .ptr _ _ _,⟨k,h1,h2⟩=>⟨k,hb _ _ _ h1,h2⟩
 | .slc _ _ _ _ _,⟨k,c,h1,h2,h3,h4⟩=>⟨k,c,hb _ _ _ h1,h2,h3,h4⟩
 | .clo f gs,⟨h1,h2⟩=>⟨fun g hg=>(h1 g hg).imp fun k hk=>hb _ _ _ hk,by
  rw[h2];congr 2;exact jI fun g hg=>(Rk hb (h1 g hg)).symm⟩
 | .cd _ _,⟨ps,h1,h2⟩=>⟨ps,h1,h2.mono hh⟩
 | .yld _,⟨k,h1,h2⟩=>⟨k,hb _ _ _ h1,h2⟩
 | .mp _,⟨k,h1,h2⟩=>⟨k,hb _ _ _ h1,h2⟩
 | .dp _ _,⟨b,base,u,arr,h1,h2,h3,h4⟩=>⟨b,base,u,arr,h1,hh _ _ h2,h3.mono hh,h4⟩
def CR.one{v:Value}:∀{x:EV},CR Z H U v x->v.oneCell'=true
 | .iv _,h=>h.1
 | .qc _ _ _,h=>h.1
 | .ptr _ _ _,⟨_,_,h⟩=>by rw[h];rfl
 | .slc _ _ _ _ _,⟨_,_,_,h,_⟩=>by rw[h];rfl
 | .clo _ _,⟨_,h⟩=>by rw[h];rfl
 | .cd _ _,⟨_,h,_⟩=>by rw[h];rfl
 | .yld _,⟨_,_,h⟩=>by rw[h];rfl
 | .mp _,⟨_,_,h⟩=>by rw[h];rfl
 | .dp _ _,⟨_,_,_,_,h,_⟩=>by rw[h];rfl
def CRL.mono(hh:HLe H H')(hb:BLe U U'):∀{vs:List Value} {xs:List EV},CRL Z H U vs xs->CRL Z H' U' vs xs
 | [],[],_=>trivial
 |_::_,_::_,⟨h1,h2⟩=>⟨h1.mono hh hb,CRL.mono hh hb h2⟩
 | [],_::_,h=>h.elim
 |_::_,[],h=>h.elim
def CRL.length:∀{vs:List Value} {xs:List EV},CRL Z H U vs xs->vs.length=xs.length
 | [],[],_=>rfl
 |_::_,_::_,⟨_,h2⟩=>by simp[CRL.length h2]
 | [],_::_,h=>h.elim
 |_::_,[],h=>h.elim
def CRL.one:∀{vs:List Value} {xs:List EV},CRL Z H U vs xs->∀c∈vs,c.oneCell'=true
 | [],[],_,_,hc=>by simp at hc
 |_::_,_::_,⟨h1,h2⟩,c,hc=>(List.mem_cons.1 hc).elim (fun e=>by rw[e];exact h1.one) (CRL.one h2 c)
 | [],_::_,h,_,_=>h.elim
 |_::_,[],h,_,_=>h.elim
def CRL.get:∀{vs:List Value} {xs:List EV},CRL Z H U vs xs->∀(i:Nat) (x:EV),xs[i]?=some x->∃v,vs[i]?=some v/\CR Z H U v x
 | [],[],_,i,x,h=>by simp at h
 |v::_,_::_,⟨h1,_⟩,0,x,h=>by simp at h;subst h;exact⟨v,rfl,h1⟩
 |_::_,_::_,⟨_,h2⟩,i+1,x,h=>by simp at h;simpa using CRL.get h2 i x h
 | [],_::_,h,_,_,_=>h.elim
 |_::_,[],h,_,_,_=>h.elim
def CRL.drop:∀{vs:List Value} {xs:List EV} (n:Nat),CRL Z H U vs xs->CRL Z H U (vs.drop n) (xs.drop n)
 |_,_,0,h=>by simpa using h
 | [],[],n+1,_=>by simp[CRL]
 |_::_,_::_,n+1,⟨_,h2⟩=>by simpa using CRL.drop n h2
 | [],_::_,_+1,h=>h.elim
 |_::_,[],_+1,h=>h.elim
def CRL.take:∀{vs:List Value} {xs:List EV} (n:Nat),CRL Z H U vs xs->CRL Z H U (vs.take n) (xs.take n)
 |_,_,0,_=>by simp[CRL]
 | [],[],n+1,_=>by simp[CRL]
 |_::_,_::_,n+1,⟨h1,h2⟩=>by simpa using(show CRL Z H U (_::_) (_::_) from⟨h1,CRL.take n h2⟩)
 | [],_::_,_+1,h=>h.elim
 |_::_,[],_+1,h=>h.elim
def CRL.append:∀{vs:List Value} {xs:List EV} {us:List Value} {ys:List EV},CRL Z H U vs xs->CRL Z H U us ys->CRL Z H U (vs++us) (xs++ys)
 | [],[],_,_,_,h=>by simpa using h
 |_::_,_::_,_,_,⟨h1,h2⟩,h=>by simpa using(show CRL Z H U (_::_) (_::_) from⟨h1,CRL.append h2 h⟩)
 | [],_::_,_,_,h,_=>h.elim
 |_::_,[],_,_,h,_=>h.elim
def CRL.splice{vs us:List Value}{xs ys:List EV}(h:CRL Z H U vs xs)(k:CRL Z H U us ys)(off:Nat):CRL Z H U (splice vs off us) (splice xs off ys):=by
 unfold Fl.splice;rw[k.length];exact((h.take off).append k).append (h.drop _)
def HM{vs:List Value}{xs:List EV}(hl:vs.length=xs.length)(h:∀(i:Nat) (v:Value) (x:EV),vs[i]?=some v->xs[i]?=some x->CR Z H U v x):CRL Z H U vs xs:=by
 induction vs generalizing xs with
 |nil=>cases xs with
  |nil=>exact trivial
  |cons=>simp at hl
 |cons v vs ih=>cases xs with
  |nil=>simp at hl
  |cons x xs=>exact⟨h 0 v x rfl rfl,ih (by simpa using hl) (fun i v' x' h1 h2=>h (i+1) v' x' (by simpa using h1) (by simpa using h2))⟩
def Ct:∀{vs:List Value} {xs:List IV},VRL H vs xs->(∀c∈vs,c.oneCell'=true)->CRL Z H U vs (xs.map .iv)
 |_,_,.nil,_=>trivial
 |_,_,.cons v x vs xs h t,h1=>⟨⟨h1 v (by simp),h⟩,Ct t fun c hc=>h1 c (by simp[hc])⟩
def CRL.flatMap{α:Type}{f:α->List Value}{g:α->List EV}:∀{l:List α},(∀a∈l,CRL Z H U (f a) (g a))->CRL Z H U (l.flatMap f) (l.flatMap g)
 | [],_=>trivial
 |a::l,h=>by
  simp only[cO];exact(h a (by simp)).append (CRL.flatMap fun b hb=>h b (by simp[hb]))
def r6(r:Int)(d:Nat):Nat->Nat->List EV
 |_,0=>[]
 |j,n+1=>.qc r d j::r6 r d (j+1) n
def LH{r:Int}{d:Nat}:∀{n j:Nat} {vs:List Value} {cs:List IV},VRL H vs cs->(∀c∈vs,c.oneCell'=true)->cs.length=n->(∀i x,cs[i]?=some x->(Z.qv r d).cells[j+i]?=some x)->CRL Z H U vs (r6 r d j n)
 |0,_,_,_,.nil,_,_,_=>trivial
 |0,_,_,_,.cons ..,_,h,_=>by simp at h
 |n+1,_,_,_,.nil,_,h,_=>by simp at h
 |n+1,j,_,_,.cons v x vs xs h t,h1,hl,hx=>by
  refine⟨⟨h1 v (by simp),x,by simpa using hx 0 x rfl,h⟩,LH t (fun c hc=>h1 c (by simp[hc])) (by simpa using hl) fun i y hy=>?_⟩;have:=hx (i+1) y (by simpa using hy);rwa[show j+1+i=j+(i+1) by omega]
def SP{r:Int}{d:Nat}{v:Value}(h:VR H v (Z.qv r d)):CRL Z H U v.cells.toList (r6 r d 0 Z.qn):=by
 obtain⟨cs,e,hl⟩:=Z.ok r d;rw[e] at h;obtain⟨vs,rfl,h1,h2⟩:=h.asAgg;refine LH (by simpa[Value.cells] using h1) (by simpa[Value.cells] using h2) hl fun i x hx=>?_;rw[e,a8];exact hx
def IP{r:Int}{d:Nat}{vs:List Value}(h:CRL Z H U vs (r6 r d 0 Z.qn)):VR H (.agg vs.toArray) (Z.qv r d):=by
 obtain⟨cs,e,hl⟩:=Z.ok r d;have key:∀(n j:Nat) (vs:List Value),CRL Z H U vs (r6 r d j n)->∀cs:List IV,cs.length=n->(∀i x,cs[i]?=some x->(Z.qv r d).cells[j+i]?=some x)->VRL H vs cs:=by
  intro n;induction n with
  |zero=>intro j vs h cs hl _;cases cs with
   |nil=>cases vs with
    |nil=>exact .nil
    |cons=>exact h.elim
   |cons=>simp at hl
  |succ n ih=>intro j vs h cs hl hx;cases cs with
   |nil=>simp at hl
   |cons x cs=>cases vs with
    |nil=>exact h.elim
    |cons v vs=>
     obtain⟨⟨_,y,hy,hv⟩,ht⟩:=h;have:(Z.qv r d).cells[j]?=some x:=by simpa using hx 0 x rfl
     rw[hy] at this;cases this;refine .cons _ _ _ _ hv (ih (j+1) vs ht cs (by simpa using hl) fun i z hz=>?_);have:=hx (i+1) z (by simpa using hz);rwa[show j+1+i=j+(i+1) by omega]
 rw[e];refine .agg _ _ (key Z.qn 0 vs h cs hl fun i x hx=>?_) h.one;rw[e,a8];exact hx
def EW.cells(Z:QS):EW->List EV
 | .one c=>[c]
 | .agg cs=>cs
 | .q r d=>r6 r d 0 Z.qn
def CR.cells1{v:Value}{x:EV}(h:CR Z H U v x):v.cells = #[v]:=by
 have:=h.one;cases v<;>first|rfl|simp[Value.oneCell'] at this
def WR.cells{v:Value}{x:EW}(h:WR Z H U v x):CRL Z H U v.cells.toList (x.cells Z):=by
 cases x with
 |one c=>have h':CR Z H U v c:=h;rw[h'.cells1];exact⟨h',aa⟩
 |agg cs=>obtain⟨vs,rfl,h⟩:=h;simpa[Value.cells,EW.cells] using h
 |q r d=>exact SP h
def WR.size{v:Value}{x:EW}(h:WR Z H U v x):v.cells.size=(x.cells Z).length:=by
 have:=h.cells.length;simpa using this
def qx(r:Int)(d:Nat):Nat->List EV->Nat->Bool
 |_,[],0=>true
 |j,.qc r' d' k::l,n+1=>decide (r'=r)&&Nat.beq d' d&&Nat.beq k j&&qx r d (j+1) l n
 |_,_,_=>false
def Ja{r:Int}{d:Nat}:∀{n j:Nat} {l:List EV},qx r d j l n=true->l=r6 r d j n
 |0,_,[],_=>rfl
 |0,_,_::_,h=>by simp[qx] at h
 |n+1,j,[],h=>by simp[qx] at h
 |n+1,j,x::l,h=>by
  cases x with
  |qc r' d' k=>
   simp only[qx,aH,ff] at h;obtain⟨⟨⟨h1,h0⟩,h2⟩,h3⟩:=h;rw[h1,aB h0,aB h2,Ja h3];rfl
  |_=>simp[qx] at h
def wy(Z:QS)(cs:List EV):EW :=
 match cs with
 | .qc r d 0::_=>bif qx r d 0 cs Z.qn then .q r d else .agg cs
 |_=>.agg cs
def CH{vs:List Value}{cs:List EV}(h:CRL Z H U vs cs):WR Z H U (.agg vs.toArray) (wy Z cs):=by
 unfold wy;split
 . rename_i r d l;cases hq:qx r d 0 (.qc r d 0::l) Z.qn with
   |true=>rw[Ja hq] at h;exact IP h
   |false=>exact⟨vs,rfl,h⟩
 exact⟨vs,rfl,h⟩
def WR.mono(hh:HLe H H')(hb:BLe U U'){v:Value}{x:EW}(h:WR Z H U v x):WR Z H' U' v x:=by
 cases x with
 |one c=>exact CR.mono hh hb h
 |agg cs=>obtain⟨vs,e,h⟩:=h;exact⟨vs,e,h.mono hh hb⟩
 |q r d=>exact VR.mono hh h
def WRL.mono(hh:HLe H H')(hb:BLe U U'):∀{vs:List Value} {xs:List EW},WRL Z H U vs xs->WRL Z H' U' vs xs
 | [],[],_=>trivial
 |_::_,_::_,⟨h1,h2⟩=>⟨h1.mono hh hb,WRL.mono hh hb h2⟩
 | [],_::_,h=>h.elim
 |_::_,[],h=>h.elim
def WRL.get:∀{vs:List Value} {xs:List EW},WRL Z H U vs xs->∀(i:Nat) (x:EW),xs[i]?=some x->∃v,vs[i]?=some v/\WR Z H U v x
 | [],[],_,i,x,h=>by simp at h
 |v::_,_::_,⟨h1,_⟩,0,x,h=>by simp at h;subst h;exact⟨v,rfl,h1⟩
 |_::_,_::_,⟨_,h2⟩,i+1,x,h=>by simp at h;simpa using WRL.get h2 i x h
 | [],_::_,h,_,_,_=>h.elim
 |_::_,[],h,_,_,_=>h.elim
def SRe.mono(hh:HLe H H')(hb:BLe U U'){v:Value}{s:ES}(h:SRe Z H U v s):SRe Z H' U' v s:=by
 cases s with
 |unk=>trivial
 |und=>exact h
 |w x=>exact WR.mono hh hb h
 |tup xs=>obtain⟨vs,e,h⟩:=h;exact⟨vs,e,h.mono hh hb⟩
end
def PT.sl(t:PT ES)(n:Nat):ES:=(t.get n).getD .und
structure EEnv where
 own:Nat->Prop
 w0:World
 H0:ak
 hid:Nat->Prop
 β0:Bm
def MR(Z:QS)(H:ak)(U:Bm)(e:MapEntry)(x:EW×EW×Nat):Prop:=WR Z H U e.key x.1/\WR Z H U e.val x.2.1/\e.born=x.2.2
def MRL(Z:QS)(H:ak)(U:Bm):List MapEntry->List (EW×EW×Nat)->Prop
 | [],[]=>True
 |e::es,x::xs=>MR Z H U e x/\MRL Z H U es xs
 |_,_=>False
def OR(Z:QS)(own:Nat->Prop)(w:World)(H:ak)(U:Bm)(g:Nat):EO->Prop
 | .mem e cs fz vs cnt=>(fz=false->∀u k,U g u=some k->H k.1=none)/\∀u p,(u,p)∈vs->u<cnt/\∃k arr,U g u=some k/\own k.1/\(if fz then H k.1=some arr else H k.1=none)/\w.heap[k.1]?=some (.cells arr e (0,0))/\arr.size=k.2/\p<=cs.length/\p<=arr.size/\CRL Z H U (arr.toList.take p) (cs.take p)
 | .map es ck=>∃k ents,U g 0=some k/\own k.1/\H k.1=none/\w.heap[k.1]?=some (.map ents ck)/\MRL Z H U ents.toList es
 | .hid=>True
 | .iter gm since seen last cur=>∃k km sn,U g 0=some k/\U gm 0=some km/\own k.1/\H k.1=none/\w.heap[k.1]?=some (.mapIter (some km.1) since sn last)/\(∀b,b∈sn.toList↔b∈seen)/\∀b,cur=some b->sn.back?=some b
 | .loop busy nt tm ps assign body=>∃k L,U g 0=some k/\own k.1/\H k.1=none/\w.heap[k.1]?=some (.loop L)/\(if busy then L.state=.busy else L.state=.ready)/\L.pending.isNone=true/\L.tmps.size=nt/\L.params.toList=ps/\L.assign=assign/\L.body=body/\
  ∀t,SRe Z H U (L.tmps.getD t undef) (tm.sl t)
structure ESim(Z:QS)(E:EEnv)(H:ak)(U:Bm)(h:Nat->Option EO)(w:World):Prop where
 has:HeapHas w H
 below:BelowO E.own E.w0 w
 lo:∀k,w.heap.size<=k->E.own k
 ext:HExtO E.own E.H0 H
 obj:∀g o,h g=some o->OR Z E.own w H U g o
 dom:∀g u k,U g u=some k->k.1<w.heap.size/\∃o,h g=some o/\(o=.hid\/(E.own k.1/\u<o.cnt))
 inj:∀g g' u u' k k',U g u=some k->U g' u'=some k'->k.1=k'.1->g=g'
 hidb:∀g,E.hid g->h g=some .hid/\∀u,U g u=E.β0 g u
section
variable {Z:QS}{E:EEnv}{H H':ak}{U U':Bm}{h h':Nat->Option EO}{w w':World}
def MRL.mono(hh:HLe H H')(hb:BLe U U'):∀{vs:List MapEntry} {xs:List (EW×EW×Nat)},MRL Z H U vs xs->MRL Z H' U' vs xs
 | [],[],_=>trivial
 |_::_,_::_,⟨⟨h0,h1,h2⟩,h3⟩=>⟨⟨h0.mono hh hb,h1.mono hh hb,h2⟩,MRL.mono hh hb h3⟩
 | [],_::_,h=>h.elim
 |_::_,[],h=>h.elim
def OR.keep{own:Nat->Prop}{g:Nat}{o:EO}(h:OR Z own w H U g o)(hw:∀u k,U g u=some k->w'.heap[k.1]?=w.heap[k.1]?)(hn:∀u k,U g u=some k->H k.1=none->H' k.1=none)(hh:HLe H H')(hb:BLe U U')(hg:∀u,U' g u=U g u):OR Z own w' H' U' g o:=by
 cases o with
 |mem e cs fz vs cnt=>
  refine⟨fun hf u k hk=>hn u k (by rw[<-hg];exact hk) (h.1 hf u k (by rw[<-hg];exact hk)),fun u p hup=>?_⟩;obtain⟨h1,k,arr,h2,h3,h4,h5,h6,h7,h8,h9⟩:=h.2 u p hup;refine⟨h1,k,arr,hb _ _ _ h2,h3,?_,(hw u k h2).trans h5,h6,h7,h8,h9.mono hh hb⟩;cases fz with
  |true=>exact hh _ _ h4
  |false=>exact hn u k h2 h4
 |map es ck=>
  obtain⟨k,ents,h1,h2,h3,h4,h5⟩:=h;exact⟨k,ents,hb _ _ _ h1,h2,hn 0 k h1 h3,(hw 0 k h1).trans h4,h5.mono hh hb⟩
 |hid=>trivial
 |iter gm since seen last cur=>
  obtain⟨k,km,sn,h1,h2,h3,h4,h5,h6,h7⟩:=h;exact⟨k,km,sn,hb _ _ _ h1,hb _ _ _ h2,h3,hn 0 k h1 h4,(hw 0 k h1).trans h5,h6,h7⟩
 |loop busy nt tm ps assign body=>
  obtain⟨k,L,h1,h2,h3,h4,h5,h6,h8,h9,h10,h11,h12⟩:=h;exact⟨k,L,hb _ _ _ h1,h2,hn 0 k h1 h3,(hw 0 k h1).trans h4,h5,h6,h8,h9,h10,h11,fun t=>(h12 t).mono hh hb⟩
def ESim.grow(h0:ESim Z E H U h w)(hb:Below w.heap.size w w')(hh:HeapHas w' H')(he:HExt w.heap.size H H'):ESim Z E H' U h w' where
 has:=hh
 below:=h0.below.trans (BelowO.of hb h0.lo)
 lo k hk:=h0.lo k (bf hb.size hk)
 ext:=h0.ext.step (own':=fun k=>w.heap.size<=k) he h0.lo
 obj g o hg:=(h0.obj g o hg).keep (fun u k hk=>hb.block _ (h0.dom g u k hk).1) (fun u k hk hn=>by
  cases hx:H' k.1 with
  |none=>rfl
  |some arr=>
   rcases he.2 _ _ hx with h1|h1
   . rw[hn] at h1;cases h1
   have:=(h0.dom g u k hk).1;omega) he.1 (BLe.refl _) (fun _=>rfl)
 dom g u k hk:=⟨iy (h0.dom g u k hk).1 hb.size,(h0.dom g u k hk).2⟩
 inj:=h0.inj
 hidb:=h0.hidb
def ESim.sm(h0:ESim Z E H U h w)(h1:w'.heap=w.heap)(h2:w'.os=w.os)(h3:w'.tape=w.tape)(h4:w'.output=w.output):ESim Z E H U h w' :=
 h0.grow (Below.of_heap h1 h2 h3 h4) (fun b arr hb=>by rw[h1];exact h0.has b arr hb) (HExt.refl _ _)
def ESim.domN(h0:ESim Z E H U h w){g:Nat}{o:EO}(hg:h g=some o)(hn:o≠ .hid)(u:Nat)(k:Nat×Nat)(hk:U g u=some k):k.1<w.heap.size/\E.own k.1/\∃o,h g=some o/\u<o.cnt:=by
 obtain⟨a,o',b,c⟩:=h0.dom g u k hk;rw[hg] at b;cases b;exact⟨a,(c.resolve_left hn).1,o,hg,(c.resolve_left hn).2⟩
def ESim.turn(h0:ESim Z E H U h w){g:Nat}{o:EO}(hgh:h g≠some .hid)(hos:w'.os=w.os)(htp:w'.tape=w.tape)(hot:w'.output=w.output)(hsz:w.heap.size<=w'.heap.size)
 (hw:∀k,k<w.heap.size->(∀u s,U g u=some s->s.1≠k)->w'.heap[k]?=w.heap[k]?) (hwn:∀u s,U g u=some s->H s.1=none)
 (hb:BLe U U') (hbo:∀g' u,g'≠g->U' g' u=U g' u) (hbn:∀u k,U' g u=some k->u<o.cnt/\k.1<w'.heap.size/\E.own k.1/\((∃u' k',U g u'=some k'/\k'.1=k.1)\/w.heap.size<=k.1))
 (ho:OR Z E.own w' H U' g o):ESim Z E H U' (az h g (some o)) w' where
 has b arr hb':=by
  obtain⟨t,fr,ht⟩:=h0.has b arr hb';exact⟨t,fr,(hw b (h0.has.lt hb') (fun u s hs e=>by rw[<-e,hwn u s hs] at hb';cases hb')).trans ht⟩
 below:=by
  refine h0.below.trans ⟨hos,htp,hot,hsz,fun k hk=>?_⟩;rcases gb k w.heap.size with hlt|hge
  . exact hw k hlt fun u s hs e=>hk (by
     rw[<-e];obtain⟨_,o',b,c⟩:=h0.dom g u s hs;exact(c.resolve_left fun e'=>hgh (by rw[b,e'])).1)
  exact absurd (h0.lo k hge) hk
 lo k hk:=h0.lo k (bf hsz hk)
 ext:=h0.ext
 obj g' o' hg':=by
  by_cases e:g'=g
  . subst e;have:o=o':=by have:az h g' (some o) g'=some o':=hg';rw[a6] at this;simpa using this
    subst this;exact ho
  have hg'':h g'=some o':=by have:az h g (some o) g'=some o':=hg';rwa[aI _ _ _ e] at this
  refine(h0.obj g' o' hg'').keep (fun u k hk=>hw k.1 (h0.dom g' u k hk).1 fun u' s hs e'=>e (h0.inj _ _ _ _ _ _ hk hs e'.symm)) (fun _ _ _ hn=>hn) (HLe.refl _) hb (fun u=>hbo g' u e)
 dom g' u k hk:=by
  by_cases e:g'=g
  . subst e;obtain⟨a,b,c,_⟩:=hbn u k hk;exact⟨b,o,a6 _ _ _,.inr ⟨c,a⟩⟩
  rw[hbo g' u e] at hk;obtain⟨a,o',b,c⟩:=h0.dom g' u k hk;exact⟨iy a hsz,o',by show az h g (some o) g'=_;rw[aI _ _ _ e];exact b,c⟩
 inj g1 g2 u1 u2 k1 k2 e1 e2 he:=by
  have key:∀g' u' k' u k,g'≠g->U' g' u'=some k'->U' g u=some k->k'.1≠k.1:=fun g' u' k' u k hne h1 h2 e=>by
   rw[hbo g' u' hne] at h1;obtain⟨_,_,_,h3⟩:=hbn u k h2;rcases h3 with⟨u3,k3,h3,h4⟩|h3
   . exact hne (h0.inj _ _ _ _ _ _ h1 h3 (by rw[e,h4]))
   have:=(h0.dom g' u' k' h1).1;omega
  by_cases h1:g1=g
  . by_cases h2:g2=g
    . rw[h1,h2]
    subst h1;exact absurd he.symm (key g2 u2 k2 u1 k1 h2 e2 e1)
  by_cases h2:g2=g
  . subst h2;exact absurd he (key g1 u1 k1 u2 k2 h1 e1 e2)
  rw[hbo _ _ h1] at e1;rw[hbo _ _ h2] at e2;exact h0.inj _ _ _ _ _ _ e1 e2 he
 hidb g' hg':=by
  have hne:g'≠g:=fun e=>hgh (by rw[<-e];exact(h0.hidb g' hg').1);exact⟨by show az h g (some o) g'=_;rw[aI _ _ _ hne];exact(h0.hidb g' hg').1,fun u=>(hbo g' u hne).trans ((h0.hidb g' hg').2 u)⟩
def ESim.noB(h0:ESim Z E H U h w){g:Nat}(hg:h g=none)(u:Nat):U g u=none:=by
 cases hk:U g u with
 |none=>rfl
 |some k=>obtain⟨_,o,e,_⟩:=h0.dom g u k hk;rw[hg] at e;cases e
def ESim.alloc(h0:ESim Z E H U h w){g:Nat}(hg:h g=none){b:Obj}{s:Nat}{o:EO}(hc:0<o.cnt)(ho:OR Z E.own (w.alloc b) H (mh U g 0 (w.heap.size,s)) g o) :
 BLe U (mh U g 0 (w.heap.size,s))/\ESim Z E H (mh U g 0 (w.heap.size,s)) (az h g (some o)) (w.alloc b):=by
 have hbe:Below w.heap.size w (w.alloc b):=(kA _ _).alloc (ah _) _;have hN:=h0.noB hg;have hnew:w.heap.size<(w.alloc b).heap.size:=(Array.getElem?_eq_some_iff.1 (nK w b)).1;refine⟨kI (hN 0),h0.turn (by rw[hg];simp) hbe.os hbe.tape hbe.output hbe.size (fun k hk _=>hbe.block k hk) (fun u s hs=>by rw[hN] at hs;cases hs) (kI (hN 0)) (fun g' u hne=>kE _ _ _ _ (fun e=>hne e.1)) (fun u k hk=>?_) ho⟩;by_cases e:u=0
 . subst e;rw[fH] at hk;cases hk;exact⟨hc,hnew,h0.lo _ (ah _),.inr (ah _)⟩
 rw[kE _ _ _ _ (fun e'=>e e'.2),hN] at hk;cases hk
end
end Go.Proofs.En
