/-
  The statement RegionSparse holds for every input.
-/
import Derived.Test.YtmkieokpghpjiaaGreatDoorS7
set_option maxHeartbeats 40000000
set_option linter.all false
namespace Go.Proofs.En
open Go.RowKit Go.Proofs.Fl Go.Proofs.Dig
attribute [local irreducible] IntKind.wrap aW bc bj bm SW c7 CallOk To
open Go.Proofs.Reg
def eH(vs:List (List Int))(i:Nat):List Int:=vs.map fun r=>r.getD i 0
def b6(vs:List (List Int))(pw:List Nat):Nat->List (List Int)
 |0=>[]
 |i+1=>List.replicate (pw.getD i 0) (eH vs i)++b6 vs pw i
def dn(n:Nat):IV:=bA n
noncomputable def fA(pw:List Nat):IV:=.sl (pw.map dn)
def zQ:List EV:=[.iv (.sl []),.iv (.bool false),.iv (.sl [])]
structure TbOk(M:Nat)(fs:List (List Int))(l:Tb):Prop where
 nd:(bq l).Nodup
 tot:∀k∈bq l,k.tot=fs.length
 lin:∀ φ,lin φ l=ml fs φ
 abs:gn l<=M^fs.length
noncomputable def vD(D:Nat)(vs:List (List Int)):IV:=.sl (vs.map fun r=>.sl (r.map fun z=>qr (mkRat z D)))
structure GA(M:Nat)(vs:List (List Int))(pw:List Nat) where
 i:Nat
 l:Tb
 hi:i<=pw.length
 ok:TbOk M (b6 vs pw i) l
def X5(M:Nat):TbOk M [] [(K5.zero,1)]:=⟨by simp[bq],by simp[bq,K5.zero,K5.tot],fun φ=>by simp[lin,ml],by simp[gn]⟩
structure GB(M:Nat)(col:List Int)(fs:List (List Int))(e:Nat) where
 j:Nat
 l:Tb
 hj:j<=e
 ok:TbOk M (List.replicate j col++fs) l
structure GC(M:Nat)(col:List Int)(fs:List (List Int))(l:Tb) where
 seen:List Nat
 m:Tb
 cur:Option Nat
 nd:(bq m).Nodup
 tot:∀k∈bq m,k.tot=fs.length+1
 lin:∀ φ,lin φ m+kp (fun k=>md φ k col 0) (bZ seen l 0)=ml (col::fs) φ
 abs:gn m+M*jz (bZ seen l 0)<=M^(fs.length+1)
structure GD(M:Nat)(col:List Int)(fs:List (List Int))(l:Tb)(seen:List Nat)(k:K5)(z:Int) where
 p:Nat
 m:Tb
 hp:p<=col.length
 nd:(bq m).Nodup
 tot:∀k∈bq m,k.tot=fs.length+1
 lin:∀ φ,lin φ m+z*md φ k (col.drop p) p+kp (fun k=>md φ k col 0) (bZ seen l 0)=ml (col::fs) φ
 abs:gn m+z.natAbs*ed (col.drop p)+M*jz (bZ seen l 0)<=M^(fs.length+1)
def HL{M:Nat}{col:List Int}{fs:List (List Int)}{l:Tb}(ok:TbOk M fs l):(∀ φ,Reg.lin φ []+kp (fun k=>md φ k col 0) (bZ [] l 0)=ml (col::fs) φ)/\gn []+M*jz (bZ [] l 0)<=M^(fs.length+1):=by
 refine⟨fun φ=>?_,?_⟩
 . rw[Ig,ok.lin];simp[Reg.lin,ml]
 rw[Ho,bX,dw];have:=cL M ok.abs;simp only[gn];omega
def XG{pw:List Nat}{i:Nat}(h:i<pw.length):(pw.map dn)[i]?=some (bA (pw.getD i 0:Nat)):=by
 rw[bI,cn,bi h];rfl
def Hj{d:Nat}:∀{l:Tb} {i:Nat},∀e∈dj d l i,eM e.1=[]/\eM e.2.1=[]
 | [],_,e,h=>by cases h
 |p::l,i,e,h=>by
  rcases List.mem_cons.1 h with rfl|h
  . exact⟨rfl,rfl⟩
  exact Hj e h
def dJ{d:Nat}{l:Tb}:fR (eA d l):=Hj
def PA{vs:List (List Int)}{pw:List Nat}{i j:Nat}(h:i<=j):(b6 vs pw i).length<=(b6 vs pw j).length:=by
 induction h with
 |refl=>exact ah _
 |step _ ih=>rw[b6,bg];omega
def Ax{α U:Type _}(f:α->U){l:List α}(d:α){i:Nat}(h:i<l.length):(l.map f)[i]?=some (f (l.getD i d)):=by
 rw[bI,cn,bi h];rfl
def qb{M D T:Nat}(hM:1<=M)(hD:0<D)(hs:ln (M^(T+1))+ln (D^(T+1))<2^36){z:Int}{a b:Nat}(hz:z.natAbs<=M^a:=by omega)(ha:a<=T+1:=by omega)(hb:b<=T+1:=by omega):aU (mkRat z (D^b))<2^36:=by
 have h1:=BY (z:=z) (gB hD:0<D^b);have h2:=lP (bf hz (co hM ha));have h3:=lP (co hD hb);omega
def Ur{a b:Int}{d n:Nat}:mkRat a (d^n)*mkRat b d=mkRat (a*b) (d^(n+1)):=by
 rw[Bg,bX]
def Kt{a b:Int}{d:Nat}(hd:0<d):mkRat a d+mkRat b d=mkRat (a+b) d:=by
 rw[On _ _ (by omega) (by omega),<-Int.add_mul,Rat.mkRat_mul_right (by omega)]
def Iy:∀{l:List Int} {p:Nat},(l.getD p 0).natAbs<=ed l
 | [],_=>by simp
 |x::l,0=>by simp[ed]
 |x::l,p+1=>by
  have:=Iy (l:=l) (p:=p);simp only[ed,xy];omega
def drop_getD{l:List Int}{p:Nat}(h:p<l.length):l.drop p=l.getD p 0::l.drop (p+1):=by
 rw[gS h,cn,bi h];rfl
def AF(s:Rat):Rat:=⟨(s.num.natAbs:Int),s.den,s.den_nz,by simpa using s.reduced⟩
def jx(k:K5):Nat->Nat
 |0=>1
 |1=>bu k.a
 |2=>bu k.a*bu k.b
 |3=>bu k.a*bu k.b*bu k.c
 |4=>bu k.a*bu k.b*bu k.c*bu k.d
 |_=>bu k.a*bu k.b*bu k.c*bu k.d*bu k.e
def tX(k:K5):Int:=(jx k 5:Nat)
def vK{a b:Nat}(h:a<=b):bu a<=bu b:=by
 induction h with
 |refl=>exact ah _
 |step _ ih=>exact bf ih (A3 _ (Nat.succ_pos _))
def KN{k:K5}{T:Nat}(h:k.tot<=T)(t:Nat):jx k t<=bu T^5:=by
 unfold K5.tot at h;have ha:=vK (show k.a<=T by omega);have hb:=vK (show k.b<=T by omega);have hc:=vK (show k.c<=T by omega);have hd:=vK (show k.d<=T by omega);have he:=vK (show k.e<=T by omega);have hT:=y4 T;generalize bu T=F at *;have p1:bu k.a<=F^1:=by rw[sA];exact ha
 have p2:bu k.a*bu k.b<=F^2:=eT p1 hb;have p3:bu k.a*bu k.b*bu k.c<=F^3:=eT p2 hc;have p4:bu k.a*bu k.b*bu k.c*bu k.d<=F^4:=eT p3 hd;have p5:bu k.a*bu k.b*bu k.c*bu k.d*bu k.e<=F^5:=eT p4 he;have up:∀n,n<=5->F^n<=F^5:=fun n hn=>co hT hn;unfold jx;split
 . exact Nat.one_le_pow _ _ hT
 . exact bf p1 (up _ (by omega))
 . exact bf p2 (up _ (by omega))
 . exact bf p3 (up _ (by omega))
 . exact bf p4 (up _ (by omega))
 exact p5
def Fo{M D T F:Nat}(hD:0<D)(hs:ln (M^(T+1)*F)+ln (D^(T+1))<2^36){z:Int}(hz:z.natAbs<=M^(T+1)*F){b:Nat}(hb:b<=T+1:=by omega):aU (mkRat z (D^b))<2^36:=by
 have h1:=BY (z:=z) (gB hD:0<D^b);have h2:=lP hz;have h3:=lP (co hD hb);omega
def Uq{a:Int}{d n:Nat}:mkRat a d*((n:Nat):Rat)=mkRat (a*(n:Int)) d:=by
 have:((n:Nat):Rat)=mkRat (n:Int) 1:=by rw[Rat.mkRat_one];rfl
 rw[this,Bg,eB]
def Io{vs:List (List Int)}{pw:List Nat}:∀i,i<=pw.length->Fl.sumI ((pw.map fun n:Nat=>(n:Int)).take i)=((b6 vs pw i).length:Int)
 |0,_=>by simp[b6,Fl.sumI]
 |i+1,h=>by
  have ih:=Io (vs:=vs) (pw:=pw) i (by omega);rw[BQ (by rw[aV];omega),ih,b6,bg,N9];have:(pw.map fun n:Nat=>(n:Int)).getD i 0=((pw.getD i 0:Nat):Int):=by
   rw[cn,Ax (fun n:Nat=>(n:Int)) 0 (show i<pw.length by omega)];rfl
  rw[this];omega
structure GE(M:Nat)(fs:List (List Int))(l:Tb) where
 seen:List Nat
 s:Int
 cur:Option Nat
 lin:s+kp tX (bZ seen l 0)=ml fs tX
 abs:∃a:Nat,a+jz (bZ seen l 0)<=M^fs.length/\s.natAbs<=a*bu fs.length^5
def YB{d:Nat}:mz d 0=.agg zQ:=by unfold mz qw;rw[Rat.zero_mkRat,sY];rfl
def uy(k:K5):Nat->Nat
 |0=>k.a
 |1=>k.b
 |2=>k.c
 |3=>k.d
 |_=>k.e
def Rd(k:K5){t:Nat}(h:t<5):jx k (t+1)=jx k t*bu (uy k t):=by
 have:t=0\/t=1\/t=2\/t=3\/t=4:=by omega
 rcases this with rfl|rfl|rfl|rfl|rfl
 . exact(nJ _).symm
 . rfl
 . rfl
 . rfl
 rfl
def JV:∀pw:List Nat,(ed (pw.map fun n:Nat=>(n:Int)):Int)=Fl.sumI (pw.map fun n:Nat=>(n:Int))
 | []=>rfl
 |x::l=>by
  have:=JV l;simp only[aZ,ed,Fl.sumI];omega
def wP:pe 55=some (qw 0):=by
 have:qw 0=.agg zQ:=by unfold qw;rw[sY];rfl
 rw[this];rfl
def XB:jj K5.zero:=by unfold jj;decide
def TN(J:Keep){D M:Nat}{vs:List (List Int)}{pw:List Nat}{s:Rat}(c259:Go.Proofs.Fl.C J 165 [vD D vs] (qr s))(hs0:s≠0)(hs1:aU s<2^30)(hpl:pw.length<100){T:Nat}(hT:(b6 vs pw pw.length).length=T)(hT32:T<2^31)(hM:1<=M)(hD:0<D)(hsF:ln (M^(T+1)*bu T^5)+ln (D^(T+1))<2^36)(hcol:∀i,i<pw.length->ed (eH vs i)<=M)(hrow:∀r∈vs,r.length=pw.length)(hvs:vs.length<=5) :
 Go.Proofs.Fl.C J 105 [vD D vs,fA pw] (qr (mkRat (ml (b6 vs pw pw.length) tX) (D^T)*AF s/((bu (pw.length+T):Nat):Rat))):=by
 refine pS Tryz.func105 rfl rfl rfl rfl rfl ?_;have cA:=L0 J s;obtain⟨q,hq⟩:∃q,AF s=q:=⟨_,rfl⟩;rw[hq];have hq0:q≠0:=by
  rw[<-hq];intro e;have:=aL Rat.num e;have h0:s.num.natAbs=0:=by simpa[AF] using this
  exact hs0 (Rat.num_eq_zero.1 (Int.natAbs_eq_zero.1 h0))
 have hq1:aU q<2^30:=by rw[<-hq];exact hs1
 have cA:Go.Proofs.Fl.C J 166 [qr s] (qr q):=by rw[<-hq];exact cA
 have hs:ln (M^(T+1))+ln (D^(T+1))<2^36:=by
  have:=lP (A3 (M^(T+1)) (gB (n:=5) (y4 T)));omega
 have c1:=tG J q;have hn0:q.num≠0:=fun e=>hq0 (Rat.num_eq_zero.1 e);have hc:a7 q.num 0≠0:=fun e=>hn0 (vv e);have c2:Go.Proofs.Fl.C J 27 [.int .i64 1] (qr (mkRat 1 (D^0))):=by
  have:=yR J (n:=1);rw[show mkRat 1 (D^0)=((1:Int):Rat) by rw[qJ];rfl];exact this
 have lp:(((pw.map dn).length:Nat):Int)=(pw.length:Int):=by simp
 repeat (first|(refine aG ?_)|((first|refine Or.inl ⟨_,_,c259,rfl,rfl,rfl,?_⟩|refine Or.inl ⟨_,_,cA,rfl,rfl,rfl,?_⟩|refine Or.inl ⟨_,_,c1,rfl,rfl,rfl,?_⟩|refine Or.inl ⟨_,_,c2,rfl,rfl,rfl,?_⟩|refine qy (tA (d:=D^0) (l:=[]) (k:=K5.zero) 1 rfl (by simp[bq]) (by simp[bq]) XB) ?_|refine aM lp ?_);conv=>whnf)|(refine aJ ?_))
 refine tc (G:=GA M vs pw) (fun g=>aR [(0,ae (vD D vs)),(1,ae (fA pw)),(4,.w (.one (.ptr 0 0 0))),(5,.w (.one (.ptr 1 0 0))),(6,.w (.one (.mp 2))),(31,ae (fA pw)),(32,ae (bA pw.length)),(33,ae (bA g.i))]
  [(0,.mem 55 zQ false [(0,3)] 1),(1,.mem 55 ((qw q).cells ZZ) false [(0,3)] 1),(2,eA (D^(b6 vs pw g.i).length) g.l)] 3) (fun g=>pw.length-g.i) ⟨0,[(K5.zero,1)],ba _,X5 M⟩
  (To.tab [] ⟨.sm,.sm,.rn,.rn,.rn,.sm,.sm,.sm,aa⟩ ⟨.sm,.sm,.sm rfl dJ,aa⟩ rfl) ?_
 rintro⟨i,l,hi,ok⟩;show SW (XS J) 0 _ _ _ (aR [(0,ae (vD D vs)),(1,ae (fA pw)),(4,.w (.one (.ptr 0 0 0))),(5,.w (.one (.ptr 1 0 0))),(6,.w (.one (.mp 2))),(31,ae (fA pw)),(32,ae (bA pw.length)),(33,ae (bA i))]
  [(0,.mem 55 zQ false [(0,3)] 1),(1,.mem 55 ((qw q).cells ZZ) false [(0,3)] 1),(2,eA (D^(b6 vs pw i).length) l)] 3) _
 by_cases h:i<pw.length
 . as_aux_lemma=>
  have gp:(pw.map dn)[i]?=some (bA (pw.getD i 0:Nat)):=XG h;obtain⟨e,he⟩:∃e,pw.getD i 0=e:=⟨_,rfl⟩;rw[he] at gp;have hfl:(b6 vs pw (i+1)).length<=T:=by rw[<-hT];exact PA (by omega)
  have hfe:(b6 vs pw (i+1)).length=e+(b6 vs pw i).length:=by rw[b6,bg,N9,he]
  have he32:e<2^32:=by omega
  repeat (first|(refine aG ?_)|((first|refine aO ?_ rfl gp|refine yT ?_);conv=>whnf))
  refine tc (G:=GB M (eH vs i) (b6 vs pw i) e) (fun g=>aR [(0,ae (vD D vs)),(1,ae (fA pw)),(4,.w (.one (.ptr 0 0 0))),(5,.w (.one (.ptr 1 0 0))),(6,.w (.one (.mp 2))),(7,ae (bA i)),(31,ae (fA pw)),(32,ae (bA pw.length)),(33,ae (bA i)),(38,ae (bA e)),(39,ae (bA g.j))]
   [(0,.mem 55 zQ false [(0,3)] 1),(1,.mem 55 ((qw q).cells ZZ) false [(0,3)] 1),(2,eA (D^(g.j+(b6 vs pw i).length)) g.l)] 3) (fun g=>e-g.j) ⟨0,l,ba _,by simpa using ok⟩
   (To.tab [] ⟨.sm,.sm,.rn,.rn,.rn,.sm,.sm,.sm,.sm,.sm,.sm,aa⟩ ⟨.sm,.sm,.sm (by simp only[a8];rfl) dJ,aa⟩ rfl) ?_
  rintro⟨j,l,hj,ok⟩;show SW (XS J) 0 _ _ _ (aR [(0,ae (vD D vs)),(1,ae (fA pw)),(4,.w (.one (.ptr 0 0 0))),(5,.w (.one (.ptr 1 0 0))),(6,.w (.one (.mp 2))),(7,ae (bA i)),(31,ae (fA pw)),(32,ae (bA pw.length)),(33,ae (bA i)),(38,ae (bA e)),(39,ae (bA j))]
   [(0,.mem 55 zQ false [(0,3)] 1),(1,.mem 55 ((qw q).cells ZZ) false [(0,3)] 1),(2,eA (D^(j+(b6 vs pw i).length)) l)] 3) _
  by_cases h2:j<e
  . as_aux_lemma=>
   skip
   repeat (first|(refine aG ?_)|((first|refine Ng rfl ?_|refine yT ?_);conv=>whnf))
   refine tc (G:=GC M (eH vs i) (List.replicate j (eH vs i)++b6 vs pw i) l) (fun g=>aR [(0,ae (vD D vs)),(1,ae (fA pw)),(4,.w (.one (.ptr 0 0 0))),(5,.w (.one (.ptr 1 0 0))),(6,.w (.one (.mp 2))),(7,ae (bA i)),(9,.w (.one (.mp 3))),(31,ae (fA pw)),(32,ae (bA pw.length)),(33,ae (bA i)),(38,ae (bA e)),(39,ae (bA j)),(43,.w (.one (.ptr 4 0 0)))]
    [(0,.mem 55 zQ false [(0,3)] 1),(1,.mem 55 ((qw q).cells ZZ) false [(0,3)] 1),(2,eA (D^(j+(b6 vs pw i).length)) l),(3,eA (D^(j+(b6 vs pw i).length+1)) g.m),(4,.iter 2 l.length g.seen l.length g.cur)] 5) (fun g=>(bZ g.seen l 0).length) ⟨[],[],none,by simp[bq],by simp[bq],(HL (col:=eH vs i) ok).1,(HL (col:=eH vs i) ok).2⟩
    (To.tab [] ⟨.sm,.sm,.rn,.rn,.rn,.sm,.rn,.sm,.sm,.sm,.sm,.sm,.rn,aa⟩ ⟨.sm,.sm,.sm rfl dJ,.sm rfl dJ,.rn,aa⟩ rfl) ?_
   rintro⟨seen,m,cur,nd,tot,lin,abs⟩;show SW (XS J) 0 _ _ _ (aR [(0,ae (vD D vs)),(1,ae (fA pw)),(4,.w (.one (.ptr 0 0 0))),(5,.w (.one (.ptr 1 0 0))),(6,.w (.one (.mp 2))),(7,ae (bA i)),(9,.w (.one (.mp 3))),(31,ae (fA pw)),(32,ae (bA pw.length)),(33,ae (bA i)),(38,ae (bA e)),(39,ae (bA j)),(43,.w (.one (.ptr 4 0 0)))]
    [(0,.mem 55 zQ false [(0,3)] 1),(1,.mem 55 ((qw q).cells ZZ) false [(0,3)] 1),(2,eA (D^(j+(b6 vs pw i).length)) l),(3,eA (D^(j+(b6 vs pw i).length+1)) m),(4,.iter 2 l.length seen l.length cur)] 5) _
   repeat ((refine SW.RS ?_;conv=>whnf))
   refine⟨2,l.length,seen,l.length,cur,dj (D^(j+(b6 vs pw i).length)) l 0,l.length,rfl,rfl,Hi,fun hl=>?_,fun en hen=>?_⟩
   . as_aux_lemma=>
    conv=>whnf
    rw[s8] at hl;have hl2:bZ seen l 0=[]:=List.map_eq_nil_iff.1 hl;refine be ?_;have eD:j+(b6 vs pw i).length+1=j+1+(b6 vs pw i).length:=by omega
    exact⟨⟨j+1,m,by omega,nd,fun k hk=>by rw[tot k hk];simp;omega,fun φ=>by have:=lin φ;rw[hl2] at this;simpa[kp,qA] using this,by
     rw[hl2] at abs;simp only[jz,jP,fF] at abs;refine bf abs (jL ?_);congr 1⟩,
     To.tab [(2,3)] ⟨.sm,.sm,.rn,.rn,.rn,.sm,.sm,.sm,.sm,.sm,.sm,aa⟩ ⟨.sm,.sm,.sm (aL (fun n=>some (eA (D^n) m)) eD) dJ,aa⟩ rfl,by dsimp only;omega⟩
   rw[s8] at hen;obtain⟨⟨k,z,b⟩,hb,rfl⟩:=List.mem_map.1 hen;have hlb:l[b]?=some (k,z):=by have:=(B6 hb).2.2;simpa using this
   have hlv:(((vs.map fun r=>IV.sl (r.map fun z=>qr (mkRat z D))).length:Nat):Int)=(vs.length:Int):=by simp
   conv=>whnf
   repeat (first|(refine aG ?_)|((first|refine lA (JC (e:=(k,z,b)) rfl rfl hlb) ?_|refine aM hlv ?_|refine dH ?_);conv=>whnf))
   refine tc (G:=GD M (eH vs i) (List.replicate j (eH vs i)++b6 vs pw i) l (b::seen) k z) (fun g=>aR [(0,ae (vD D vs)),(1,ae (fA pw)),(4,.w (.one (.ptr 0 0 0))),(5,.w (.one (.ptr 1 0 0))),(6,.w (.one (.mp 2))),(7,ae (bA i)),(9,.w (.one (.mp 3))),(10,.w (.one (.ptr 5 0 0))),(11,.w (.one (.ptr 6 0 0))),(31,ae (fA pw)),(32,ae (bA pw.length)),(33,ae (bA i)),(38,ae (bA e)),(39,ae (bA j)),(43,.w (.one (.ptr 4 0 0))),(49,ae (vD D vs)),(50,ae (bA vs.length)),(51,ae (bA g.p))]
    [(0,.mem 55 zQ false [(0,3)] 1),(1,.mem 55 ((qw q).cells ZZ) false [(0,3)] 1),(2,eA (D^(j+(b6 vs pw i).length)) l),(3,eA (D^(j+(b6 vs pw i).length+1)) g.m),(4,.iter 2 l.length (b::seen) l.length (some b)),(5,.mem 235 ((im k).cells ZZ) false [(0,5)] 1),(6,.mem 55 ((mz (D^(j+(b6 vs pw i).length)) z).cells ZZ) false [(0,3)] 1)] 7) (fun g=>vs.length-g.p) ⟨0,m,ba _,nd,tot,fun φ=>by
     have h1:=(oT hb).1 fun k=>md φ k (eH vs i) 0;have h2:=lin φ;rw[h1] at h2;dsimp only at h2;rw[bW];omega,by
     have h1:=(oT hb).2.1;have h2:=hX z.natAbs (hcol i h);have h3:M*(z.natAbs+jz (bZ (b::seen) l 0))=z.natAbs*M+M*jz (bZ (b::seen) l 0):=by rw[cg,dw M]
     rw[h1] at abs;dsimp only at abs;rw[h3] at abs;rw[bW];omega⟩
    (To.tab [] ⟨.sm,.sm,.rn,.rn,.rn,.sm,.rn,.rn,.rn,.sm,.sm,.sm,.sm,.sm,.rn,.sm,.sm,.sm,aa⟩ ⟨.sm,.sm,.sm rfl dJ,.sm rfl dJ,.rn,.sm,.sm,aa⟩ rfl) ?_
   rintro⟨p,m,hp,nd,tot,lin,abs⟩;show SW (XS J) 0 _ _ _ (aR [(0,ae (vD D vs)),(1,ae (fA pw)),(4,.w (.one (.ptr 0 0 0))),(5,.w (.one (.ptr 1 0 0))),(6,.w (.one (.mp 2))),(7,ae (bA i)),(9,.w (.one (.mp 3))),(10,.w (.one (.ptr 5 0 0))),(11,.w (.one (.ptr 6 0 0))),(31,ae (fA pw)),(32,ae (bA pw.length)),(33,ae (bA i)),(38,ae (bA e)),(39,ae (bA j)),(43,.w (.one (.ptr 4 0 0))),(49,ae (vD D vs)),(50,ae (bA vs.length)),(51,ae (bA p))]
    [(0,.mem 55 zQ false [(0,3)] 1),(1,.mem 55 ((qw q).cells ZZ) false [(0,3)] 1),(2,eA (D^(j+(b6 vs pw i).length)) l),(3,eA (D^(j+(b6 vs pw i).length+1)) m),(4,.iter 2 l.length (b::seen) l.length (some b)),(5,.mem 235 ((im k).cells ZZ) false [(0,5)] 1),(6,.mem 55 ((mz (D^(j+(b6 vs pw i).length)) z).cells ZZ) false [(0,3)] 1)] 7) _
   have hcl:(eH vs i).length=vs.length:=by simp[eH]
   by_cases h3:p<vs.length
   . as_aux_lemma=>
    obtain⟨J0,hJ0⟩:∃J0,j+(b6 vs pw i).length=J0:=⟨_,rfl⟩;obtain⟨r,hr⟩:∃r,vs.getD p []=r:=⟨_,rfl⟩;obtain⟨x,hx⟩:∃x,r.getD i 0=x:=⟨_,rfl⟩;have hrm:r∈vs:=by rw[<-hr,cn,bi h3];exact iw h3
    have hri:i<r.length:=by rw[hrow r hrm];exact h
    have hxc:(eH vs i).getD p 0=x:=by
     rw[<-hx,<-hr,eH,cn,Ax (fun r:List Int=>r.getD i 0) [] h3];rfl
    have hlen:(List.replicate j (eH vs i)++b6 vs pw i).length=J0:=by rw[<-hJ0];simp
    have hJT:J0+1<=T:=by omega
    have hkl:(k,z)∈l:=bN hlb;have hkt:k.tot=J0:=by rw[<-hlen];exact ok.tot k (List.mem_map_of_mem hkl)
    have hza:z.natAbs<=M^J0:=by rw[<-hlen];exact bf (C3 hkl) ok.abs
    have hxa:x.natAbs<=M:=by rw[<-hxc];exact bf Iy (hcol i h)
    have hga:=Jk (k.inc p) m;rw[hlen] at tot abs;have gv:(vs.map fun r=>IV.sl (r.map fun z=>qr (mkRat z D)))[p]?=some (.sl (r.map fun z=>qr (mkRat z D))):=by rw[<-hr];exact Ax (fun r:List Int=>IV.sl (r.map fun z=>qr (mkRat z D))) [] h3
    have gr:(r.map fun z=>qr (mkRat z D))[i]?=some (qr (mkRat x D)):=by rw[<-hx];exact Ax (fun z:Int=>qr (mkRat z D)) 0 hri
    rw[hJ0];have cm:Go.Proofs.Fl.C J 71 [qr (mkRat z (D^J0)),qr (mkRat x D)] (qr (mkRat (z*x) (D^(J0+1)))):=by
     rw[<-Ur];have q1:=qb hM hD hs (b:=J0) hza;have q2:=qb hM hD hs (a:=1) (b:=1) (z:=x) (by rw[sA];exact hxa);rw[sA] at q2;exact px (base J)
    have ca:Go.Proofs.Fl.C J 73 [qr (mkRat (cX m (k.inc p)) (D^(J0+1))),qr (mkRat (z*x) (D^(J0+1)))] (qr (mkRat (cX m (k.inc p)+z*x) (D^(J0+1)))):=by
     rw[<-Kt (gB hD)];have q1:=qb hM hD hs (b:=J0+1) (z:=cX m (k.inc p)) (a:=J0+1);have q2:=qb hM hD hs (a:=J0+1) (b:=J0+1) (z:=z*x) (by rw[eU,bX];exact eT hza hxa);exact wk (base J) (by omega) (by omega)
    have okm:∀y∈bq m,jj y:=fun y hy=>by unfold jj;rw[tot y hy];omega
    have okk:jj (k.inc p):=by unfold jj;rw[K5.inc_tot];omega
    have hka:k.a<2^62/\k.b<2^62/\k.c<2^62/\k.d<2^62/\k.e<2^62:=by unfold K5.tot at hkt;omega
    have nd2:=QZ (k.inc p) (cX m (k.inc p)+z*x) nd;have tot2:∀y∈bq (dx m (k.inc p) (cX m (k.inc p)+z*x)),y.tot=(List.replicate j (eH vs i)++b6 vs pw i).length+1:=fun y hy=>by
     rw[hlen];rcases Ut hy with hy|rfl
     . exact tot y hy
     rw[K5.inc_tot,hkt]
    have edr:(eH vs i).drop p=x::(eH vs i).drop (p+1):=by rw[drop_getD (by omega),hxc]
    have lin2:∀ φ,Reg.lin φ (dx m (k.inc p) (cX m (k.inc p)+z*x))+z*md φ k ((eH vs i).drop (p+1)) (p+1)+kp (fun k=>md φ k (eH vs i) 0) (bZ (b::seen) l 0)=ml (eH vs i::(List.replicate j (eH vs i)++b6 vs pw i)) φ:=fun φ=>by
     rw[<-lin φ,Ky,edr,md,xG,F3];omega
    have abs2:gn (dx m (k.inc p) (cX m (k.inc p)+z*x))+z.natAbs*ed ((eH vs i).drop (p+1))+M*jz (bZ (b::seen) l 0)<=M^((List.replicate j (eH vs i)++b6 vs pw i).length+1):=by
     have h1:=JU (k.inc p) (z*x) m;rw[edr,ed,cg] at abs;rw[eU] at h1;rw[hlen];omega
    have hp5:p=0\/p=1\/p=2\/p=3\/p=4:=by omega
    rcases hp5 with rfl|rfl|rfl|rfl|rfl
    . as_aux_lemma=>
      repeat (first|(refine aG ?_)|((first|refine aO ?_ rfl gv|refine aO ?_ rfl gr|refine jh (j:=0) ?_|refine Or.inl ⟨_,_,cm,rfl,rfl,rfl,?_⟩|refine Or.inl ⟨_,_,ca,rfl,rfl,rfl,?_⟩|refine lA (vR (d:=D^(J0+1)) (l:=m) (k:=k.inc 0) wP rfl okm nd okk) ?_|refine qy (tA (d:=D^(J0+1)) (l:=m) (k:=k.inc 0) (cX m (k.inc 0)+z*x) rfl okm nd okk) ?_);conv=>whnf)|(refine aJ ?_))
      exact⟨⟨0+1,dx m (k.inc 0) (cX m (k.inc 0)+z*x),by omega,nd2,tot2,lin2,abs2⟩,To.tab [] ⟨.sm,.sm,.rn,.rn,.rn,.sm,.rn,.rn,.rn,.sm,.sm,.sm,.sm,.sm,.rn,.sm,.sm,.sm,aa⟩ ⟨.sm,.sm,.sm rfl dJ,.sm rfl dJ,.rn,.sm,.sm,aa⟩ rfl,by dsimp only;omega⟩
    . as_aux_lemma=>
      repeat (first|(refine aG ?_)|((first|refine aO ?_ rfl gv|refine aO ?_ rfl gr|refine jh (j:=1) ?_|refine Or.inl ⟨_,_,cm,rfl,rfl,rfl,?_⟩|refine Or.inl ⟨_,_,ca,rfl,rfl,rfl,?_⟩|refine lA (vR (d:=D^(J0+1)) (l:=m) (k:=k.inc 1) wP rfl okm nd okk) ?_|refine qy (tA (d:=D^(J0+1)) (l:=m) (k:=k.inc 1) (cX m (k.inc 1)+z*x) rfl okm nd okk) ?_);conv=>whnf)|(refine aJ ?_))
      exact⟨⟨1+1,dx m (k.inc 1) (cX m (k.inc 1)+z*x),by omega,nd2,tot2,lin2,abs2⟩,To.tab [] ⟨.sm,.sm,.rn,.rn,.rn,.sm,.rn,.rn,.rn,.sm,.sm,.sm,.sm,.sm,.rn,.sm,.sm,.sm,aa⟩ ⟨.sm,.sm,.sm rfl dJ,.sm rfl dJ,.rn,.sm,.sm,aa⟩ rfl,by dsimp only;omega⟩
    . as_aux_lemma=>
      repeat (first|(refine aG ?_)|((first|refine aO ?_ rfl gv|refine aO ?_ rfl gr|refine jh (j:=2) ?_|refine Or.inl ⟨_,_,cm,rfl,rfl,rfl,?_⟩|refine Or.inl ⟨_,_,ca,rfl,rfl,rfl,?_⟩|refine lA (vR (d:=D^(J0+1)) (l:=m) (k:=k.inc 2) wP rfl okm nd okk) ?_|refine qy (tA (d:=D^(J0+1)) (l:=m) (k:=k.inc 2) (cX m (k.inc 2)+z*x) rfl okm nd okk) ?_);conv=>whnf)|(refine aJ ?_))
      exact⟨⟨2+1,dx m (k.inc 2) (cX m (k.inc 2)+z*x),by omega,nd2,tot2,lin2,abs2⟩,To.tab [] ⟨.sm,.sm,.rn,.rn,.rn,.sm,.rn,.rn,.rn,.sm,.sm,.sm,.sm,.sm,.rn,.sm,.sm,.sm,aa⟩ ⟨.sm,.sm,.sm rfl dJ,.sm rfl dJ,.rn,.sm,.sm,aa⟩ rfl,by dsimp only;omega⟩
    . as_aux_lemma=>
      repeat (first|(refine aG ?_)|((first|refine aO ?_ rfl gv|refine aO ?_ rfl gr|refine jh (j:=3) ?_|refine Or.inl ⟨_,_,cm,rfl,rfl,rfl,?_⟩|refine Or.inl ⟨_,_,ca,rfl,rfl,rfl,?_⟩|refine lA (vR (d:=D^(J0+1)) (l:=m) (k:=k.inc 3) wP rfl okm nd okk) ?_|refine qy (tA (d:=D^(J0+1)) (l:=m) (k:=k.inc 3) (cX m (k.inc 3)+z*x) rfl okm nd okk) ?_);conv=>whnf)|(refine aJ ?_))
      exact⟨⟨3+1,dx m (k.inc 3) (cX m (k.inc 3)+z*x),by omega,nd2,tot2,lin2,abs2⟩,To.tab [] ⟨.sm,.sm,.rn,.rn,.rn,.sm,.rn,.rn,.rn,.sm,.sm,.sm,.sm,.sm,.rn,.sm,.sm,.sm,aa⟩ ⟨.sm,.sm,.sm rfl dJ,.sm rfl dJ,.rn,.sm,.sm,aa⟩ rfl,by dsimp only;omega⟩
    repeat (first|(refine aG ?_)|((first|refine aO ?_ rfl gv|refine aO ?_ rfl gr|refine jh (j:=4) ?_|refine Or.inl ⟨_,_,cm,rfl,rfl,rfl,?_⟩|refine Or.inl ⟨_,_,ca,rfl,rfl,rfl,?_⟩|refine lA (vR (d:=D^(J0+1)) (l:=m) (k:=k.inc 4) wP rfl okm nd okk) ?_|refine qy (tA (d:=D^(J0+1)) (l:=m) (k:=k.inc 4) (cX m (k.inc 4)+z*x) rfl okm nd okk) ?_);conv=>whnf)|(refine aJ ?_))
    exact⟨⟨4+1,dx m (k.inc 4) (cX m (k.inc 4)+z*x),by omega,nd2,tot2,lin2,abs2⟩,To.tab [] ⟨.sm,.sm,.rn,.rn,.rn,.sm,.rn,.rn,.rn,.sm,.sm,.sm,.sm,.sm,.rn,.sm,.sm,.sm,aa⟩ ⟨.sm,.sm,.sm rfl dJ,.sm rfl dJ,.rn,.sm,.sm,aa⟩ rfl,by dsimp only;omega⟩
   have ep:p=vs.length:=by omega
   subst ep;have edr:(eH vs i).drop vs.length=[]:=by rw[List.drop_eq_nil_iff,hcl];exact ah _
   refine be ?_;exact⟨⟨b::seen,m,some b,nd,tot,fun φ=>by have:=lin φ;rw[edr,md] at this;omega,by rw[edr,ed] at abs;omega⟩,To.tab [] ⟨.sm,.sm,.rn,.rn,.rn,.sm,.rn,.sm,.sm,.sm,.sm,.sm,.rn,aa⟩ ⟨.sm,.sm,.sm rfl dJ,.sm rfl dJ,.rn,aa⟩ rfl,by have:=(oT hb).2.2;dsimp only at this ⊢;omega⟩
  have e2:j=e:=by omega
  subst e2;refine be ?_;exact⟨⟨i+1,l,by omega,by rw[b6,he];exact ok⟩,To.tab [] ⟨.sm,.sm,.rn,.rn,.rn,.sm,.sm,.sm,aa⟩ ⟨.sm,.sm,.sm (aL (fun n=>some (eA (D^n) l)) hfe.symm) dJ,aa⟩ rfl,by dsimp only;omega⟩
 have ei:i=pw.length:=by omega
 subst ei;rw[hT];repeat (first|(refine aG ?_)|((first|refine Ng rfl ?_|refine yF ?_);conv=>whnf))
 refine tc (G:=GE M (b6 vs pw pw.length) l) (fun g=>aR [(0,ae (vD D vs)),(1,ae (fA pw)),(4,.w (.one (.ptr 0 0 0))),(5,.w (.one (.ptr 1 0 0))),(15,.w (.one (.ptr 3 0 0))),(79,.w (.one (.ptr 4 0 0)))]
  [(0,.mem 55 zQ false [(0,3)] 1),(1,.mem 55 ((qw q).cells ZZ) false [(0,3)] 1),(2,eA (D^T) l),(3,.mem 55 ((mz (D^T) g.s).cells ZZ) false [(0,3)] 1),(4,.iter 2 l.length g.seen l.length g.cur)] 5) (fun g=>(bZ g.seen l 0).length) ⟨[],0,none,by rw[Ig,Int.zero_add];exact ok.lin _,⟨0,by rw[Ho,a8];exact ok.abs,by simp⟩⟩
  (To.tab [] ⟨.sm,.sm,.rn,.rn,.rn,.rn,aa⟩ ⟨.sm,.sm,.sm rfl dJ,.sm (aL (fun y:EW=>some (EO.mem 55 (y.cells ZZ) false [(0,3)] 1)) YB.symm) rfl,.rn,aa⟩ rfl) ?_
 rintro⟨seen,S,cur,lin,hab⟩;show SW (XS J) 0 _ _ _ (aR [(0,ae (vD D vs)),(1,ae (fA pw)),(4,.w (.one (.ptr 0 0 0))),(5,.w (.one (.ptr 1 0 0))),(15,.w (.one (.ptr 3 0 0))),(79,.w (.one (.ptr 4 0 0)))]
  [(0,.mem 55 zQ false [(0,3)] 1),(1,.mem 55 ((qw q).cells ZZ) false [(0,3)] 1),(2,eA (D^T) l),(3,.mem 55 ((mz (D^T) S).cells ZZ) false [(0,3)] 1),(4,.iter 2 l.length seen l.length cur)] 5) _
 obtain⟨a0,hab1,hab2⟩:=hab;rw[hT] at hab1 hab2;have hS:S.natAbs<=M^(T+1)*bu T^5:=bf hab2 (cL _ (bf (by omega) (co hM (uU T))));have qS:=Fo hD hsF hS (b:=T);repeat ((refine SW.RS ?_;conv=>whnf))
 refine⟨2,l.length,seen,l.length,cur,dj (D^T) l 0,l.length,rfl,rfl,Hi,fun hl=>?_,fun en hen=>?_⟩
 . as_aux_lemma=>
  rw[s8] at hl;have hl2:bZ seen l 0=[]:=List.map_eq_nil_iff.1 hl;rw[hl2,kp,Int.add_zero] at lin;rw[<-lin];have cs1:=px (base J) (a:=mkRat S (D^T)) (b:=q);have cs2:Go.Proofs.Fl.C J 101 [fA pw] (.int .i64 (T:Int)):=by
   have e1:=Io (vs:=vs) (pw:=pw) pw.length (ah _);rw[ay (by simp),hT] at e1;have e2:=JV pw;have c:=TO J (l:=pw.map fun n:Nat=>(n:Int)) (by rw[aV];omega) (by omega);rw[e1,cC] at c;exact c
  have cs3:=Kg J (n:=pw.length+T) (by omega);have hqf:=yS (m:=pw.length+T) (by omega) _ (ah _);have hqm:=Kk (mkRat S (D^T)) q;have cs4:=TF (base J) (a:=mkRat S (D^T)*q) (b:=((bu (pw.length+T):Nat):Rat)) (by omega) (by omega) (fun e=>by
   have:=y4 (pw.length+T);have e':((bu (pw.length+T):Nat):Rat)=((0:Nat):Rat):=e;rw[Rat.natCast_inj] at e';omega)
  rw[Ob] at cs3;conv=>whnf
  repeat (first|(refine aG ?_)|((first|refine Or.inl ⟨_,_,cs1,rfl,rfl,rfl,?_⟩|refine Or.inl ⟨_,_,cs2,rfl,rfl,rfl,?_⟩|refine Or.inl ⟨_,_,cs3,rfl,rfl,rfl,?_⟩|refine Or.inl ⟨_,_,cs4,rfl,rfl,rfl,?_⟩|refine aM lp ?_);conv=>whnf)|(refine aJ ?_))
  rfl
 rw[s8] at hen;obtain⟨⟨k,z,b⟩,hb,rfl⟩:=List.mem_map.1 hen;have hlb:l[b]?=some (k,z):=by have:=(B6 hb).2.2;simpa using this
 have hkl:(k,z)∈l:=bN hlb;have hkt:k.tot=T:=by rw[<-hT];exact ok.tot k (List.mem_map_of_mem hkl)
 have hk4:k.a<2^32/\k.b<2^32/\k.c<2^32/\k.d<2^32/\k.e<2^32:=by unfold K5.tot at hkt;omega
 have hza:z.natAbs<=M^T:=by rw[<-hT];exact bf (C3 hkl) ok.abs
 have hzf:∀t,(z*(jx k t:Nat)).natAbs<=M^(T+1)*bu T^5:=fun t=>by
  rw[eU,dP];exact eT (bf hza (co hM (uU T))) (KN (jL hkt) t)
 conv=>whnf
 repeat (first|(refine aG ?_)|(refine lA (JC (e:=(k,z,b)) rfl rfl hlb) ?_;conv=>whnf)|(refine aJ ?_))
 refine tc (G:={ t:Nat // t<=5 }) (fun t=>aR [(0,ae (vD D vs)),(1,ae (fA pw)),(4,.w (.one (.ptr 0 0 0))),(5,.w (.one (.ptr 1 0 0))),(15,.w (.one (.ptr 3 0 0))),(79,.w (.one (.ptr 4 0 0))),(17,.w (.one (.ptr 5 0 0))),(85,.w (im k)),(86,ae (bA t.1))]
  [(0,.mem 55 zQ false [(0,3)] 1),(1,.mem 55 ((qw q).cells ZZ) false [(0,3)] 1),(2,eA (D^T) l),(3,.mem 55 ((mz (D^T) S).cells ZZ) false [(0,3)] 1),(4,.iter 2 l.length (b::seen) l.length (some b)),(5,.mem 55 ((mz (D^T) (z*(jx k t.1:Nat))).cells ZZ) false [(0,3)] 1)] 6) (fun t=>5-t.1) ⟨0,by omega⟩
  (To.tab [(5,6)] ⟨.sm,.sm,.rn,.rn,.rn,.rn,.rn,.sm,.sm,aa⟩ ⟨.sm,.sm,.sm rfl dJ,.sm,.rn,.sm (aL (fun y:Int=>some (EO.mem 55 ((mz (D^T) y).cells ZZ) false [(0,3)] 1)) (by simp[jx])) rfl,aa⟩ rfl) ?_
 rintro⟨t,ht⟩;show SW (XS J) 0 _ _ _ (aR [(0,ae (vD D vs)),(1,ae (fA pw)),(4,.w (.one (.ptr 0 0 0))),(5,.w (.one (.ptr 1 0 0))),(15,.w (.one (.ptr 3 0 0))),(79,.w (.one (.ptr 4 0 0))),(17,.w (.one (.ptr 5 0 0))),(85,.w (im k)),(86,ae (bA t))]
  [(0,.mem 55 zQ false [(0,3)] 1),(1,.mem 55 ((qw q).cells ZZ) false [(0,3)] 1),(2,eA (D^T) l),(3,.mem 55 ((mz (D^T) S).cells ZZ) false [(0,3)] 1),(4,.iter 2 l.length (b::seen) l.length (some b)),(5,.mem 55 ((mz (D^T) (z*(jx k t:Nat))).cells ZZ) false [(0,3)] 1)] 6) _
 by_cases h5:t<5
 . as_aux_lemma=>
  have hkk:uy k t<2^32:=by unfold uy;split<;>omega
  have cf:=Kg J (n:=uy k t) hkk;have qf:=yS (m:=uy k t) hkk _ (ah _);have qz:=Fo hD hsF (hzf t) (b:=T);have cm:=px (base J) (a:=mkRat (z*(jx k t:Nat)) (D^T)) (b:=((bu (uy k t):Nat):Rat));rw[Uq,F3,<-kB,<-Rd k h5] at cm;have hp5:t=0\/t=1\/t=2\/t=3\/t=4:=by omega
  rcases hp5 with rfl|rfl|rfl|rfl|rfl
  . as_aux_lemma=>
    repeat (first|(refine aG ?_)|((first|refine Or.inl ⟨_,_,cf,rfl,rfl,rfl,?_⟩|refine Or.inl ⟨_,_,cm,rfl,rfl,rfl,?_⟩|refine wR ?_);conv=>whnf)|(refine aJ ?_))
    exact⟨⟨0+1,by omega⟩,To.tab [] ⟨.sm,.sm,.rn,.rn,.rn,.rn,.rn,.sm,.sm,aa⟩ ⟨.sm,.sm,.sm rfl dJ,.sm,.rn,.sm,aa⟩ rfl,by dsimp only;omega⟩
  . as_aux_lemma=>
    repeat (first|(refine aG ?_)|((first|refine Or.inl ⟨_,_,cf,rfl,rfl,rfl,?_⟩|refine Or.inl ⟨_,_,cm,rfl,rfl,rfl,?_⟩|refine wR ?_);conv=>whnf)|(refine aJ ?_))
    exact⟨⟨1+1,by omega⟩,To.tab [] ⟨.sm,.sm,.rn,.rn,.rn,.rn,.rn,.sm,.sm,aa⟩ ⟨.sm,.sm,.sm rfl dJ,.sm,.rn,.sm,aa⟩ rfl,by dsimp only;omega⟩
  . as_aux_lemma=>
    repeat (first|(refine aG ?_)|((first|refine Or.inl ⟨_,_,cf,rfl,rfl,rfl,?_⟩|refine Or.inl ⟨_,_,cm,rfl,rfl,rfl,?_⟩|refine wR ?_);conv=>whnf)|(refine aJ ?_))
    exact⟨⟨2+1,by omega⟩,To.tab [] ⟨.sm,.sm,.rn,.rn,.rn,.rn,.rn,.sm,.sm,aa⟩ ⟨.sm,.sm,.sm rfl dJ,.sm,.rn,.sm,aa⟩ rfl,by dsimp only;omega⟩
  . as_aux_lemma=>
    repeat (first|(refine aG ?_)|((first|refine Or.inl ⟨_,_,cf,rfl,rfl,rfl,?_⟩|refine Or.inl ⟨_,_,cm,rfl,rfl,rfl,?_⟩|refine wR ?_);conv=>whnf)|(refine aJ ?_))
    exact⟨⟨3+1,by omega⟩,To.tab [] ⟨.sm,.sm,.rn,.rn,.rn,.rn,.rn,.sm,.sm,aa⟩ ⟨.sm,.sm,.sm rfl dJ,.sm,.rn,.sm,aa⟩ rfl,by dsimp only;omega⟩
  repeat (first|(refine aG ?_)|((first|refine Or.inl ⟨_,_,cf,rfl,rfl,rfl,?_⟩|refine Or.inl ⟨_,_,cm,rfl,rfl,rfl,?_⟩|refine wR ?_);conv=>whnf)|(refine aJ ?_))
  exact⟨⟨4+1,by omega⟩,To.tab [] ⟨.sm,.sm,.rn,.rn,.rn,.rn,.rn,.sm,.sm,aa⟩ ⟨.sm,.sm,.sm rfl dJ,.sm,.rn,.sm,aa⟩ rfl,by dsimp only;omega⟩
 have e5:t=5:=by omega
 subst e5;have qz:=Fo hD hsF (hzf 5) (b:=T);have ca:=wk (base J) (a:=mkRat S (D^T)) (b:=mkRat (z*(jx k 5:Nat)) (D^T)) (by omega) (by omega);rw[Kt (gB hD)] at ca;repeat (first|(refine aG ?_)|(refine Or.inl ⟨_,_,ca,rfl,rfl,rfl,?_⟩;conv=>whnf)|(refine aJ ?_))
 exact⟨⟨b::seen,S+z*(jx k 5:Nat),some b,by
  have:=(oT hb).1 tX;rw[this] at lin;dsimp only at lin;unfold tX at lin ⊢;omega,⟨a0+z.natAbs,by
  have:=(oT hb).2.1;rw[hT];dsimp only at this;omega,by
  rw[hT,bQ];have h1:=KN (jL hkt) 5;have h2:=hX z.natAbs h1;have h3:(z*(jx k 5:Nat)).natAbs=z.natAbs*jx k 5:=by rw[eU,dP]
  omega⟩⟩,To.tab [] ⟨.sm,.sm,.rn,.rn,.rn,.rn,aa⟩ ⟨.sm,.sm,.sm rfl dJ,.sm,.rn,aa⟩ rfl,by have:=(oT hb).2.2;dsimp only at this ⊢;omega⟩
end Go.Proofs.En
namespace Go.Proofs.En
open Go.RowKit Go.Proofs.Fl Go.Proofs.Dig
def AH:List EV->Option (List (Int×Nat))
 | []=>some []
 | .qc n d 0 :: .qc n1 d1 1 :: .qc n2 d2 2::l=>bif decide (n=n1)&&(decide (n=n2)&&(Nat.beq d d1&&Nat.beq d d2)) then(match AH l with
  |some r=>some ((n,d)::r)
  |none=>none) else none
 |_=>none
def rowQ(h:Hp):EV->Option (List (Int×Nat)×Nat)
 | .slc g u 0 n _=>match h g with
  |some (.mem e cs _ vs _)=>match cW u vs with
   |some p=>bif Nat.beq e 55&&Nat.ble (n*3) p then(match AH (cs.take (n*3)) with
    |some l=>bif Nat.beq l.length n then some (l,g) else none
    |none=>none) else none
   |none=>none
  |_=>none
 |_=>none
def AM:List EV->Option (List Int)
 | []=>some []
 | .iv (.int .i64 n)::l=>match AM l with
  |some r=>some (n::r)
  |none=>none
 |_=>none
def rowI(h:Hp):EV->Option (List Int×Nat)
 | .slc g u 0 n _=>match h g with
  |some (.mem e cs _ vs _)=>match cW u vs with
   |some p=>bif Nat.beq e 3&&Nat.ble n p then(match AM (cs.take n) with
    |some l=>bif Nat.beq l.length n then some (l,g) else none
    |none=>none) else none
   |none=>none
  |_=>none
 |_=>none
section
variable {Z:QS}{h:Hp}{S:Nat->Bool}
def V6(hz:∀n d,∃a b c,Z.qv n d=.agg [a,b,c]){T:TypeId->Option TY}{f:Nat}:∀{cs:List EV} {l:List (Int×Nat)},AH cs=some l->∃xs,cT (cb T Z S h f) cs=some xs/\fW true 3 l.length xs=l.map (fun c=>Z.qv c.1 c.2):=by
 intro cs
 fun_induction AH cs with
 |case1=>
  intro l h;simp only[ai] at h;subst h;exact⟨[],rfl,rfl⟩
 |case2 n d n1 d1 n2 d2 l hb r hr ih=>
  intro l' hc;simp only[ai] at hc;subst hc;simp only[aH,ff] at hb;obtain⟨rfl,rfl,h1,h2⟩:=hb;have h1:=aB h1;have h2:=aB h2;subst h1;subst h2;obtain⟨xs,i1,i2⟩:=ih hr;obtain⟨a,b,c,e⟩:=hz n d;refine⟨a::b::c::xs,?_,?_⟩
  .
   have ha:cb T Z S h f (.qc n d 0)=some a:=by unfold cb;rw[e];rfl
   have hb:cb T Z S h f (.qc n d 1)=some b:=by unfold cb;rw[e];rfl
   have hc:cb T Z S h f (.qc n d 2)=some c:=by unfold cb;rw[e];rfl
   simp only[cT,ha,hb,hc,i1]
  rw[aY,fW];show Fy true 3 (a::b::c::xs)::fW true 3 r.length xs=_;rw[i2,aZ,e];rfl
 |_=>intro l h;cases h
def Wn{T:TypeId->Option TY}{f:Nat}:∀{cs:List EV} {l:List Int},AM cs=some l->cT (cb T Z S h f) cs=some (l.map fun n=>.int .i64 n):=by
 intro cs
 fun_induction AM cs with
 |case1=>
  intro l h;simp only[ai] at h;subst h;rfl
 |case2 n l r hr ih=>
  intro l' hc;simp only[ai] at hc;subst hc;have ha:cb T Z S h f (.iv (.int .i64 n))=some (.int .i64 n):=by unfold cb;rfl
  simp only[cT,ha,ih hr,aZ]
 |_=>intro l h;cases h
def Jj:∀(l:List IV),fW false 1 l.length l=l
 | []=>rfl
 |x::l=>by
  rw[aY,fW];show Fy false 1 (x::l)::fW false 1 l.length l=_;rw[Jj l];rfl
def Ts(hz:∀n d,∃a b c,Z.qv n d=.agg [a,b,c]){T:TypeId->Option TY}{te:TY}(ht:T 55=some te)(ht2:te.sh.agg=true)(ht3:te.size=3){f g:Nat}{x:EV}{l:List (Int×Nat)}(hr:rowQ h x=some (l,g))(hs:S g=true) :
 cb T Z S h (f+1) x=some (.sl (l.map fun c=>Z.qv c.1 c.2)):=by
 unfold rowQ at hr;split at hr
 .
  rename_i g' u n cap;split at hr
  .
   rename_i e cs fz vs cnt hg;split at hr
   .
    rename_i p hp;cases hb:(Nat.beq e 55&&Nat.ble (n*3) p) with
    |false=>rw[hb] at hr;cases hr
    |true=>
     rw[hb,al] at hr;simp only[aH] at hb;have he:=aB hb.1;subst he;split at hr
     .
      rename_i l' hl;cases hn:Nat.beq l'.length n with
      |false=>rw[hn] at hr;cases hr
      |true=>
       rw[hn,al] at hr;simp only[ai,aC] at hr;obtain⟨rfl,rfl⟩:=hr;have hn:=aB hn;obtain⟨xs,h1,h2⟩:=V6 (Z:=Z) (h:=h) (S:=S) hz (T:=T) (f:=f) hl;unfold cb;simp only[hs,hg,ht,hp,ht3,ht2,a8,hb.2,al,bW,h1];rw[<-hn,h2];have hall:b7 3 (l'.map fun c=>Z.qv c.1 c.2)=true:=by
        unfold b7;rw[List.all_map,mN];intro c _;obtain⟨a,b,d,e⟩:=hz c.1 c.2;simp only[Function.comp,e];rfl
       rw[hall];rfl
     cases hr
   cases hr
  cases hr
 cases hr
def Tt{T:TypeId->Option TY}{te:TY}(ht:T 3=some te)(ht2:te.sh.agg=false)(ht3:te.size=1){f g:Nat}{x:EV}{l:List Int}(hr:rowI h x=some (l,g))(hs:S g=true) :
 cb T Z S h (f+1) x=some (.sl (l.map fun n=>.int .i64 n)):=by
 unfold rowI at hr;split at hr
 .
  rename_i g' u n cap;split at hr
  .
   rename_i e cs fz vs cnt hg;split at hr
   .
    rename_i p hp;cases hb:(Nat.beq e 3&&Nat.ble n p) with
    |false=>rw[hb] at hr;cases hr
    |true=>
     rw[hb,al] at hr;simp only[aH] at hb;have he:=aB hb.1;subst he;split at hr
     .
      rename_i l' hl;cases hn:Nat.beq l'.length n with
      |false=>rw[hn] at hr;cases hr
      |true=>
       rw[hn,al] at hr;simp only[ai,aC] at hr;obtain⟨rfl,rfl⟩:=hr;have hn:=aB hn;have h1:=Wn (Z:=Z) (h:=h) (S:=S) (T:=T) (f:=f) hl;unfold cb;simp only[hs,hg,ht,hp,ht3,ht2,a8,eB,hb.2,al,bW,h1];have e1:fW false 1 n (l'.map fun n=>IV.int .i64 n)=l'.map fun n=>IV.int .i64 n:=by
        have:=Jj (l'.map fun n=>IV.int .i64 n);rwa[aV,hn] at this
       rw[e1];have hall:b7 1 (l'.map fun n=>IV.int .i64 n)=true:=by
        unfold b7;rw[List.all_map,mN];intro c _;rfl
       have hag:((l'.map fun n=>IV.int .i64 n).all fun x=>!x.isAgg)=true:=by
        rw[List.all_map,mN];intro c _;rfl
       rw[hall,hag];rfl
     cases hr
   cases hr
  cases hr
 cases hr
def Kb(hz:∀n d,∃a b c,Z.qv n d=.agg [a,b,c]){T:TypeId->Option TY}{te:TY}(ht:T 55=some te)(ht2:te.sh.agg=true)(ht3:te.size=3){f:Nat}:∀{cs:List EV} {ls:List (List (Int×Nat)×Nat)},cT (rowQ h) cs=some ls->(∀p∈ls,S p.2=true)->
 cT (cb T Z S h (f+1)) cs=some (ls.map fun p=>.sl (p.1.map fun c=>Z.qv c.1 c.2))/\cs.length=ls.length
 | [],ls,hr,_=>by
  simp only[cT,ai] at hr;subst hr;exact⟨rfl,rfl⟩
 |c::cs,ls,hr,hs=>by
  unfold cT at hr;split at hr
  . rename_i b hb;split at hr
    . rename_i bs hbs;simp only[ai] at hr;subst hr;obtain⟨i1,i2⟩:=Kb (f:=f) hz ht ht2 ht3 hbs fun p hp=>hs p (by simp[hp]);have:=Ts (Z:=Z) (S:=S) hz ht ht2 ht3 (f:=f) (g:=b.2) (l:=b.1) hb (hs b (by simp));refine⟨?_,by simp[i2]⟩;simp only[cT,this,i1,aZ]
    cases hr
  cases hr
end
def wv:List Int->List Int->Bool
 | [],[]=>true
 |a::l,b::m=>decide (a=b)&&wv l m
 |_,_=>false
def vX:List (List (Int×Nat))->List (List (Int×Nat))->Bool
 | [],[]=>true
 |a::l,b::m=>Ab a b&&vX l m
 |_,_=>false
def YZ:Option EO->Option EO
 |some (.mem ..)=>some .hid
 |o=>o
def pV:List Nat->PT EO->PT EO
 | [],h=>h
 |g::l,h=>match h.get g with
  |some (.mem ..)=>pV l (h.set g .hid)
  |_=>pV l h
def EQ:List (List (Int×Nat)):=[[(0,1),(0,1)],[(1,1),(0,1)],[(0,1),(1,1)]]
def DR(args:List ES)(s:Hs):Option (ES×Hs):=match args with
 | [.w (.one (.slc g u 0 3 cap)),.w (.one y)]=>match s.h.get g,rowI s.h.get y with
  |some (.mem e cs _ vs _),some (pw,p)=>match cW u vs,cT (rowQ s.h.get) (cs.take 3) with
   |some q,some ls=>bif Nat.beq e 27&&(Nat.ble 3 q&&(vX (ls.map Prod.fst) EQ&&wv pw [2,0])) then
    some (.w (.q 1 12),⟨pV (g::p::ls.map Prod.snd) s.h,s.nx,(g::p::ls.map Prod.snd)++s.wl⟩) else none
   |_,_=>none
  |_,_=>none
 |_=>none
def EY(f:FuncId)(args:List ES)(s:Hs):Option (ES×Hs):=bif Nat.beq f 105 then DR args s else Au f args s
noncomputable def se:EE:=⟨ZZ,BE,AN,EY⟩
end Go.Proofs.En
namespace Go.Proofs.En
open Go.RowKit Go.Proofs.Fl Go.Proofs.Dig
attribute [local irreducible] IntKind.wrap aW bc bj bm SW c7 CallOk To
open Go.Proofs.Reg
def Nn:aU (mkRat 1 1)<3:=by
 have:=Ac 1;rw[show Int.natAbs 1=1 by rfl,rx] at this;rw[show mkRat 1 1=((1:Int):Rat) by rfl];omega
def Nw:qr 1=.agg [.sl [u32 1],.bool false,.sl []]:=by
 show IV.agg [.sl ((dg 1).map u32),.bool (decide ((1:Int)<0)),.sl ((dg 0).map u32)]=_;have hd:Dg B9 [1]:=fun d hd=>by
  cases hd with
  |head=>decide
  |tail _ h=>cases h
 rw[pc,<-tQ (l:=[1]) (n:=1) ⟨hd,DN (a:=[]) (by decide)⟩ rfl];rfl
def MV:List ES->Option Int
 | [.w (.agg [.iv (.sl l),.iv (.bool false),.iv (.sl [])]),.w (.agg [.iv (.sl []),.iv (.bool false),.iv (.sl [])])]=>match l with
  | []=>some 0
  | [.int .u32 (.ofNat 1)]=>some 1
  |_=>none
 |_=>none
noncomputable def EZ(f:FuncId)(args:List ES)(s:Hs):Option (ES×Hs):=match bif Nat.beq f 164 then MV args else none with
 |some a=>some (.w (.q a 1),s)
 |none=>Au f args s
def TZ{J:Keep}(L:LibI J):jv (XE J) EZ:=by
 intro f args s r s' he;unfold EZ at he;have hz:=Em (base J) (a:=0) (b:=0) (by have:=CA;omega) (by have:=CA;omega);have ho:=Em (base J) (a:=1) (b:=0) (by have:=Nn;rw[show mkRat 1 1=1 by rfl] at this;omega) (by have:=CA;omega);rw[show(0:Rat)-0=mkRat 0 1 by kernel_rfl,sY] at hz;rw[show(1:Rat)-0=mkRat 1 1 by kernel_rfl,sY,Nw] at ho;split at he
 .
  rename_i a ha;simp only[ai,aC] at he;obtain⟨rfl,rfl⟩:=he;refine⟨LogOk.refl _,?_⟩;cases hf:Nat.beq f 164 with
  |false=>rw[hf] at ha;cases ha
  |true=>
   have:=aB hf;subst this;rw[hf,al] at ha;unfold MV at ha;split at ha
   .
    split at ha
    . cases ha;exact JH (X:=XE J) hz (fun H U vs hv=>SREL.data rfl hv) fun H U v hv=>hv
    . cases ha;exact JH (X:=XE J) ho (fun H U vs hv=>SREL.data rfl hv) fun H U v hv=>hv
    cases ha
   cases ha
 exact Kn J L (X:=XE J) rfl rfl rfl f args s r s' he
def zL:IV:=.agg [.sl [],.bool false,.sl []]
def oL:IV:=.agg [.sl [u32 1],.bool false,.sl []]
def Ar:IV:=.sl [.sl [zL,zL],.sl [oL,zL],.sl [zL,oL]]
noncomputable def YL:EE:=⟨ZZ,BE,AN,EZ⟩
set_option maxRecDepth 1000000 in
def SY:ET YL TT ZZ 100000 Tryz.f165.ntmps (match Tryz.f165.body with|some c=>c|none=>.skip) Tryz.f165.results.toList [(0,dS Ar)] 3=some (qr (mkRat 1 1)):=by kernel_rfl
def Xy{J:Keep}(L:LibI J):C J 165 [vD 1 [[0,0],[1,0],[0,1]]] (qr 1):=by
 have h:=Tp (X:=XE J) J.bel (pq) (TZ L) Tryz.func165 rfl rfl rfl rfl (xs:=[Ar]) (l:=[(0,dS Ar)]) ⟨.sm,aa⟩ SY;have e:vD 1 [[0,0],[1,0],[0,1]]=Ar:=by
  show IV.sl [.sl [qr (mkRat 0 1),qr (mkRat 0 1)],.sl [qr (mkRat 1 1),qr (mkRat 0 1)],.sl [qr (mkRat 0 1),qr (mkRat 1 1)]]=_;rw[show mkRat 0 1=0 by rfl,show mkRat 1 1=1 by rfl,sY,Nw];rfl
 rw[e];exact h
def SZ{J:Keep}(L:LibI J):C J 105 [vD 1 [[0,0],[1,0],[0,1]],fA [2,0]] (qr (mkRat 1 12)):=by
 have h:=TN J (D:=1) (M:=1) (vs:=[[0,0],[1,0],[0,1]]) (pw:=[2,0]) (s:=1) (Xy L) (by decide) (by have:=Nn;rw[show mkRat 1 1=1 by rfl] at this;omega) (by decide) (T:=2) rfl (by decide) (by decide) (by decide) ?_ ?_ ?_ (by decide)
 . rw[show(mkRat (ml (b6 [[0,0],[1,0],[0,1]] [2,0] [2,0].length) tX) (1^2)*AF 1/((bu ([2,0].length+2):Nat):Rat))=mkRat 1 12 by kernel_rfl] at h;exact h
 . have:ln (1^(2+1)*bu 2^5)<=4:=zI;have h2:ln (1^(2+1))<=4:=zI;omega
 . decide
 decide
end Go.Proofs.En
namespace Go.Proofs.En
open Go.RowKit Go.Proofs.Fl Go.Proofs.Dig
attribute [local irreducible] IntKind.wrap aW bc bj bm SW c7 CallOk To
def dM:Code->Code
 | .seq _ y=>y
 |c=>c
def sc:Code->Code
 | .seq x _=>x
 |c=>c
def CL:∀(l:List Nat) (h:PT EO),(pV l h).get=jw (fun g=>bV g l) h.get
 | [],h=>by funext x;rfl
 |g::l,h=>by
  have hm:∀x,bV x (g::l)=(bif Nat.beq x g then true else bV x l):=fun x=>rfl;unfold pV;split
  . rename_i e cs fz vs cnt hg;rw[CL l];funext x;unfold jw;dsimp only;rw[nV,hm];by_cases e':x=g
    . subst e';rw[au rfl,bD,al,hg];cases bV x l<;>rfl
    rw[aq e',dU e',bh]
  rename_i hn;rw[CL l];funext x;unfold jw;dsimp only;rw[hm];by_cases e':x=g
  .
   subst e';rw[bD,al];cases bV x l with
   |true=>rfl
   |false=>
    cases hx:h.get x with
    |none=>rfl
    |some o=>cases o<;>first|rfl|exact absurd hx (hn _ _ _ _ _)
  rw[dU e',bh]
def Sl{S:Nat->Bool}{h:Hp}{g:Nat}(hs:S g=false):jw S h g=h g:=by unfold jw;rw[hs]
def Q8{S:Nat->Bool}{h:Hp}{g:Nat}(hn:jw S h g=none):h g=none:=by
 unfold jw at hn;split at hn
 . split at hn
   . cases hn
   exact hn
 exact hn
def IJ:∀{l m:List Int},wv l m=true->l=m
 | [],[],_=>rfl
 |a::l,b::m,h=>by
  simp only[wv,aH,ff] at h;rw[h.1,IJ h.2]
def HV:∀{l m:List (List (Int×Nat))},vX l m=true->l=m
 | [],[],_=>rfl
 |a::l,b::m,h=>by
  simp only[vX,aH] at h;rw[IK h.1,HV h.2]
def XO(n:Int)(d:Nat):∃a b c,ZZ.qv n d=.agg [a,b,c]:=⟨_,_,_,rfl⟩
def Qr{J:Keep}(L:LibI J){args:List ES}{s s':Hs}{r:ES}(he:DR args s=some (r,s')):LogOk s s'/\CallOk (XE J) 105 args s.h.get r s'.h.get:=by
 unfold DR at he;split at he
 .
  rename_i g u cap y;split at he
  .
   rename_i e cs fz vs cnt pw p hg hp;split at he
   .
    rename_i q ls hq hls;cases hb:(Nat.beq e 27&&(Nat.ble 3 q&&(vX (ls.map Prod.fst) EQ&&wv pw [2,0]))) with
    |false=>rw[hb] at he;cases he
    |true=>
     rw[hb,al] at he;simp only[ai,aC] at he;obtain⟨rfl,rfl⟩:=he;simp only[aH] at hb;obtain⟨b1,b2,b3,b4⟩:=hb;have b1:=aB b1;have b3:=HV b3;have b4:=IJ b4;subst b1;subst b4;obtain⟨S,hS⟩:∃S,S=fun x=>bV x (g::p::ls.map Prod.snd):=⟨_,rfl⟩;have hget:=CL (g::p::ls.map Prod.snd) s.h;rw[<-hS] at hget;have hmem:∀x,x∈g::p::ls.map Prod.snd->S x=true:=fun x hx=>by rw[hS];exact jT.2 hx
     refine⟨⟨fun x hx=>?_,fun x hx=>Oi _ hx,fun x hx=>?_⟩,?_⟩
     . show(pV _ s.h).get x=_;rw[hget];refine Sl ?_;rw[hS];dsimp only;cases hm:bV x (g::p::ls.map Prod.snd) with
       |false=>rfl
       |true=>exact absurd (Oj _ (jT.1 hm)) hx
     . have hx:(pV _ s.h).get x=none:=hx;rw[hget] at hx;exact Q8 hx
     show CallOk (XE J) 105 _ s.h.get _ (pV _ s.h).get;rw[hget];refine CallOk.ofData (X:=XE J) (fu:=2) (SZ L) ?_ fun H U v hv=>hv;have r1:=Kb (Z:=ZZ) (h:=s.h.get) (S:=S) XO (T:=TT) (te:=mi) rfl rfl rfl (f:=0) hls fun x hx=>hmem _ (by simp;exact .inr (.inr ⟨x.1,by simpa using hx⟩));have r2:=Tt (Z:=ZZ) (h:=s.h.get) (S:=S) (T:=TT) (te:=Fg) rfl rfl rfl (f:=1) (g:=p) (l:=[2,0]) hp (hmem _ (by simp));have hl3:ls.length=3:=by
      have:=aL List.length b3;rwa[aV] at this
     have e1:cb TT ZZ S s.h.get 2 (.slc g u 0 3 cap)=some (vD 1 [[0,0],[1,0],[0,1]]):=by
      have t1:TT 27=some pM:=rfl;have t2:pM.size=1:=rfl;have t3:pM.sh.agg=false:=rfl;unfold cb;simp only[hmem g (by simp),hg,hq,t1,t2,t3,a8,eB,b2,al,bW,r1.1];have e2:ls.map (fun p=>IV.sl (p.1.map fun c=>ZZ.qv c.1 c.2))=EQ.map fun l=>IV.sl (l.map fun c=>ZZ.qv c.1 c.2):=by
       rw[<-b3,cC];rfl
      rw[e2];rfl
     have e1':cb (XE J).T (XE J).Z S s.h.get 2 (.slc g u 0 3 cap)=some (vD 1 [[0,0],[1,0],[0,1]]):=e1;have r2':cb (XE J).T (XE J).Z S s.h.get 2 y=some (.sl ([2,0].map fun n=>.int .i64 n)):=r2;simp only[cT,iN,rS,e1',r2'];rfl
   cases he
  cases he
 cases he
def rh{J:Keep}(L:LibI J):jv (XE J) EY:=by
 intro f args s r s' he;unfold EY at he;cases hf:Nat.beq f 105 with
 |true=>
  rw[hf,al] at he;have:=aB hf;subst this;exact Qr L he
 |false=>
  rw[hf,bh] at he;exact Kn J L (X:=XE J) rfl rfl rfl f args s r s' he
end Go.Proofs.En
