/-
  A part of the proof of regionProducts_card.
-/
import Derived.Test.YtalnhplbnklpoaaGreatDoorP7
set_option maxHeartbeats 400000000
namespace Go.Proofs.En
open Go.RowKit Go.Proofs.Fl Go.Proofs.Dig
attribute [local irreducible] IntKind.wrap a7 be bq bw SW SWr CallOk To
open Go.Proofs.Reg
def ef(vs:List (List Int))(i:Nat):List Int:=vs.map fun r=>r.getD i 0
def bN(vs:List (List Int))(pw:List Nat):Nat->List (List Int)
 |0=>[]
 |i+1=>List.replicate (pw.getD i 0) (ef vs i)++bN vs pw i
def dn(n:Nat):IV:=aQ n
noncomputable def eT(pw:List Nat):IV:=.sl (pw.map dn)
def zQ:List EV:=[.iv (.sl []),.iv (.bool false),.iv (.sl [])]
structure TbOk(M:Nat)(fs:List (List Int))(l:Tb):Prop where
 nd:(ba l).Nodup
 tot:∀k∈ba l,k.tot=fs.length
 lin:∀ φ,lin φ l=lz fs φ
 abs:fU l<=M^fs.length
noncomputable def vD(D:Nat)(vs:List (List Int)):IV:=.sl (vs.map fun r=>.sl (r.map fun z=>qr (mkRat z D)))
structure GA(M:Nat)(vs:List (List Int))(pw:List Nat) where
 i:Nat
 l:Tb
 hi:i<=pw.length
 ok:TbOk M (bN vs pw i) l
theorem Xf(M:Nat):TbOk M [] [(K5.zero,1)]:=⟨by simp[ba],by simp[ba,K5.zero,K5.tot],fun φ=>by simp[lin,lz],by simp[fU]⟩
structure GB(M:Nat)(col:List Int)(fs:List (List Int))(e:Nat) where
 j:Nat
 l:Tb
 hj:j<=e
 ok:TbOk M (List.replicate j col++fs) l
structure GC(M:Nat)(col:List Int)(fs:List (List Int))(l:Tb) where
 seen:List Nat
 m:Tb
 cur:Option Nat
 nd:(ba m).Nodup
 tot:∀k∈ba m,k.tot=fs.length+1
 lin:∀ φ,lin φ m+jF (fun k=>lk φ k col 0) (bM seen l 0)=lz (col::fs) φ
 abs:fU m+M*jb (bM seen l 0)<=M^(fs.length+1)
structure GD(M:Nat)(col:List Int)(fs:List (List Int))(l:Tb)(seen:List Nat)(k:K5)(z:Int) where
 p:Nat
 m:Tb
 hp:p<=col.length
 nd:(ba m).Nodup
 tot:∀k∈ba m,k.tot=fs.length+1
 lin:∀ φ,lin φ m+z*lk φ k (col.drop p) p+jF (fun k=>lk φ k col 0) (bM seen l 0)=lz (col::fs) φ
 abs:fU m+z.natAbs*cu (col.drop p)+M*jb (bM seen l 0)<=M^(fs.length+1)
theorem GV{M:Nat}{col:List Int}{fs:List (List Int)}{l:Tb}(ok:TbOk M fs l):(∀ φ,Reg.lin φ []+jF (fun k=>lk φ k col 0) (bM [] l 0)=lz (col::fs) φ)/\fU []+M*jb (bM [] l 0)<=M^(fs.length+1):=by
 refine⟨fun φ=>?_,?_⟩
 . rw[Hn,ok.lin];simp[Reg.lin,lz]
 . rw[Gv,cr,dD];have:=bU M ok.abs;simp only[fU];omega
theorem WJ{pw:List Nat}{i:Nat}(h:i<pw.length):(pw.map dn)[i]?=some (aQ (pw.getD i 0:Nat)):=by
 rw[bQ,br,a6 h];rfl
theorem Gr{d:Nat}:∀{l:Tb} {i:Nat},∀e∈cL d l i,eA e.1=[]/\eA e.2.1=[]
 | [],_,e,h=>by cases h
 |p::l,i,e,h=>by
  rcases List.mem_cons.1 h with rfl|h
  . exact⟨rfl,rfl⟩
  . exact Gr e h
theorem dA{d:Nat}{l:Tb}:gM (dU d l):=Gr
theorem OM{vs:List (List Int)}{pw:List Nat}{i j:Nat}(h:i<=j):(bN vs pw i).length<=(bN vs pw j).length:=by
 induction h with
 |refl=>exact ak _
 |step _ ih=>rw[bN,bF];omega
theorem zO{α U:Type _}(f:α->U){l:List α}(d:α){i:Nat}(h:i<l.length):(l.map f)[i]?=some (f (l.getD i d)):=by
 rw[bQ,br,a6 h];rfl
theorem qb{M D T:Nat}(hM:1<=M)(hD:0<D)(hs:ln (M^(T+1))+ln (D^(T+1))<2^36){z:Int}{a b:Nat}(hz:z.natAbs<=M^a)(ha:a<=T+1)(hb:b<=T+1):al (mkRat z (D^b))<2^36:=by
 have h1:=w7 (z:=z) (gh hD:0<D^b);have h2:=jX (aY hz (dz hM ha));have h3:=jX (dz hD hb);omega
theorem TF{a b:Int}{d n:Nat}:mkRat a (d^n)*mkRat b d=mkRat (a*b) (d^(n+1)):=by
 rw[AQ,cr]
theorem JG{a b:Int}{d:Nat}(hd:0<d):mkRat a d+mkRat b d=mkRat (a+b) d:=by
 rw[NC _ _ (by omega) (by omega),<-Int.add_mul,Rat.mkRat_mul_right (by omega)]
theorem HJ:∀{l:List Int} {p:Nat},(l.getD p 0).natAbs<=cu l
 | [],_=>by simp
 |x::l,0=>by simp[cu]
 |x::l,p+1=>by
  have:=HJ (l:=l) (p:=p);simp only[cu,wq];omega
theorem drop_getD{l:List Int}{p:Nat}(h:p<l.length):l.drop p=l.getD p 0::l.drop (p+1):=by
 rw[gJ h,br,a6 h];rfl
def z8(s:Rat):Rat:=⟨(s.num.natAbs:Int),s.den,s.den_nz,by simpa using s.reduced⟩
def ja(k:K5):Nat->Nat
 |0=>1
 |1=>bb k.a
 |2=>bb k.a*bb k.b
 |3=>bb k.a*bb k.b*bb k.c
 |4=>bb k.a*bb k.b*bb k.c*bb k.d
 |_=>bb k.a*bb k.b*bb k.c*bb k.d*bb k.e
def s6(k:K5):Int:=(ja k 5:Nat)
theorem uI{a b:Nat}(h:a<=b):bb a<=bb b:=by
 induction h with
 |refl=>exact ak _
 |step _ ih=>exact aY ih (AI _ (Nat.succ_pos _))
theorem JV{k:K5}{T:Nat}(h:k.tot<=T)(t:Nat):ja k t<=bb T^5:=by
 unfold K5.tot at h;have ha:=uI (show k.a<=T by omega);have hb:=uI (show k.b<=T by omega);have hc:=uI (show k.c<=T by omega);have hd:=uI (show k.d<=T by omega);have he:=uI (show k.e<=T by omega);have hT:=yf T;generalize bb T=F at *;have p1:bb k.a<=F^1:=by rw[rB];exact ha
 have p2:bb k.a*bb k.b<=F^2:=iO p1 hb;have p3:bb k.a*bb k.b*bb k.c<=F^3:=iO p2 hc;have p4:bb k.a*bb k.b*bb k.c*bb k.d<=F^4:=iO p3 hd;have p5:bb k.a*bb k.b*bb k.c*bb k.d*bb k.e<=F^5:=iO p4 he;have up:∀n,n<=5->F^n<=F^5:=fun n hn=>dz hT hn;unfold ja;split
 . exact Nat.one_le_pow _ _ hT
 . exact aY p1 (up _ (by omega))
 . exact aY p2 (up _ (by omega))
 . exact aY p3 (up _ (by omega))
 . exact aY p4 (up _ (by omega))
 . exact p5
theorem EB{M D T F:Nat}(hD:0<D)(hs:ln (M^(T+1)*F)+ln (D^(T+1))<2^36){z:Int}(hz:z.natAbs<=M^(T+1)*F){b:Nat}(hb:b<=T+1):al (mkRat z (D^b))<2^36:=by
 have h1:=w7 (z:=z) (gh hD:0<D^b);have h2:=jX hz;have h3:=jX (dz hD hb);omega
theorem TE{a:Int}{d n:Nat}:mkRat a d*((n:Nat):Rat)=mkRat (a*(n:Int)) d:=by
 have:((n:Nat):Rat)=mkRat (n:Int) 1:=by rw[Rat.mkRat_one];rfl
 rw[this,AQ,iK]
theorem Hx{vs:List (List Int)}{pw:List Nat}:∀i,i<=pw.length->Fl.sumI ((pw.map fun n:Nat=>(n:Int)).take i)=((bN vs pw i).length:Int)
 |0,_=>by simp[bN,Fl.sumI]
 |i+1,h=>by
  have ih:=Hx (vs:=vs) (pw:=pw) i (by omega);rw[GY (by rw[bR];omega),ih,bN,bF,AK];have:(pw.map fun n:Nat=>(n:Int)).getD i 0=((pw.getD i 0:Nat):Int):=by
   rw[br,zO (fun n:Nat=>(n:Int)) 0 (show i<pw.length by omega)];rfl
  rw[this];omega
structure GE(M:Nat)(fs:List (List Int))(l:Tb) where
 seen:List Nat
 s:Int
 cur:Option Nat
 lin:s+jF s6 (bM seen l 0)=lz fs s6
 abs:∃a:Nat,a+jb (bM seen l 0)<=M^fs.length/\s.natAbs<=a*bb fs.length^5
theorem XF{d:Nat}:mz d 0=.agg zQ:=by unfold mz qw;rw[Rat.zero_mkRat,um];rfl
def tC(k:K5):Nat->Nat
 |0=>k.a
 |1=>k.b
 |2=>k.c
 |3=>k.d
 |_=>k.e
theorem Qr(k:K5){t:Nat}(h:t<5):ja k (t+1)=ja k t*bb (tC k t):=by
 have:t=0\/t=1\/t=2\/t=3\/t=4:=by omega
 rcases this with rfl|rfl|rfl|rfl|rfl
 . exact(pq _).symm
 . rfl
 . rfl
 . rfl
 . rfl
theorem I8:∀pw:List Nat,(cu (pw.map fun n:Nat=>(n:Int)):Int)=Fl.sumI (pw.map fun n:Nat=>(n:Int))
 | []=>rfl
 |x::l=>by
  have:=I8 l;simp only[aS,cu,Fl.sumI];omega
theorem vG:ot 54=some (qw 0):=by
 have:qw 0=.agg zQ:=by unfold qw;rw[um];rfl
 rw[this];rfl
theorem WE:iI K5.zero:=by unfold iI;decide
theorem SG(J:Keep){D M:Nat}{vs:List (List Int)}{pw:List Nat}{s:Rat}(c259:Go.Proofs.Fl.C J 137 [vD D vs] (qr s))(hs0:s≠0)(hs1:al s<2^30)(hpl:pw.length<100){T:Nat}(hT:(bN vs pw pw.length).length=T)(hT32:T<2^31)(hM:1<=M)(hD:0<D)(hsF:ln (M^(T+1)*bb T^5)+ln (D^(T+1))<2^36)(hcol:∀i,i<pw.length->cu (ef vs i)<=M)(hrow:∀r∈vs,r.length=pw.length)(hvs:vs.length<=5) :
 Go.Proofs.Fl.C J 76 [vD D vs,eT pw] (qr (mkRat (lz (bN vs pw pw.length) s6) (D^T)*z8 s/((bb (pw.length+T):Nat):Rat))):=by
 refine pS Tryz.func76 rfl rfl rfl rfl rfl ?_;have cA:=K7 J s;obtain⟨q,hq⟩:∃q,z8 s=q:=⟨_,rfl⟩;rw[hq];have hq0:q≠0:=by
  rw[<-hq];intro e;have:=aJ Rat.num e;have h0:s.num.natAbs=0:=by simpa[z8] using this
  exact hs0 (Rat.num_eq_zero.1 (Int.natAbs_eq_zero.1 h0))
 have hq1:al q<2^30:=by rw[<-hq];exact hs1
 have cA:Go.Proofs.Fl.C J 138 [qr s] (qr q):=by rw[<-hq];exact cA
 have hs:ln (M^(T+1))+ln (D^(T+1))<2^36:=by
  have:=jX (AI (M^(T+1)) (gh (n:=5) (yf T)));omega
 have c1:=qq J q;have hn0:q.num≠0:=fun e=>hq0 (Rat.num_eq_zero.1 e);have hc:aN q.num 0≠0:=fun e=>hn0 (rV e);have c2:Go.Proofs.Fl.C J 70 [.int .i64 1] (qr (mkRat 1 (D^0))):=by
  have:=pZ J (n:=1) (by omega) (by omega);rw[show mkRat 1 (D^0)=((1:Int):Rat) by rw[tU];rfl];exact this
 have lp:(((pw.map dn).length:Nat):Int)=(pw.length:Int):=by simp
 repeat((first|refine SW.R ?_|refine SW.c ?_|refine Or.inl ⟨_,_,c259,rfl,rfl,rfl,?_⟩|refine Or.inl ⟨_,_,cA,rfl,rfl,rfl,?_⟩|refine Or.inl ⟨_,_,c1,rfl,rfl,rfl,?_⟩|refine Or.inl ⟨_,_,c2,rfl,rfl,rfl,?_⟩|refine po (sD (d:=D^0) (l:=[]) (k:=K5.zero) 1 rfl (by simp[ba]) (by simp[ba]) WE) ?_|refine bc lp ?_|refine yF (by omega) ?_|refine bg rfl ?_|refine aM rfl ?_);conv=>whnf)
 refine r6 (G:=GA M vs pw) (fun g=>aP [(0,ac (vD D vs)),(1,ac (eT pw)),(4,.w (.one (.ptr 0 0 0))),(5,.w (.one (.ptr 1 0 0))),(6,.w (.one (.mp 2))),(31,ac (eT pw)),(32,ac (aQ pw.length)),(33,ac (aQ g.i))]
  [(0,.mem 54 zQ false [(0,3)] 1),(1,.mem 54 ((qw q).cells ZZ) false [(0,3)] 1),(2,dU (D^(bN vs pw g.i).length) g.l)] 3) (fun g=>pw.length-g.i) ⟨0,[(K5.zero,1)],bk _,Xf M⟩
  (To.tab [] ⟨.sm rfl rfl,.sm rfl rfl,.rn rfl rfl,.rn rfl rfl,.rn rfl rfl,.sm rfl rfl,.sm rfl rfl,.sm rfl rfl,ab⟩ ⟨.sm rfl rfl,.sm rfl rfl,.sm rfl dA,ab⟩ rfl) ?_
 rintro⟨i,l,hi,ok⟩;show SW (XS J) 0 _ _ _ (aP [(0,ac (vD D vs)),(1,ac (eT pw)),(4,.w (.one (.ptr 0 0 0))),(5,.w (.one (.ptr 1 0 0))),(6,.w (.one (.mp 2))),(31,ac (eT pw)),(32,ac (aQ pw.length)),(33,ac (aQ i))]
  [(0,.mem 54 zQ false [(0,3)] 1),(1,.mem 54 ((qw q).cells ZZ) false [(0,3)] 1),(2,dU (D^(bN vs pw i).length) l)] 3) _
 by_cases h:i<pw.length
 . have gp:(pw.map dn)[i]?=some (aQ (pw.getD i 0:Nat)):=WJ h;obtain⟨e,he⟩:∃e,pw.getD i 0=e:=⟨_,rfl⟩;rw[he] at gp;have hfl:(bN vs pw (i+1)).length<=T:=by rw[<-hT];exact OM (by omega)
   have hfe:(bN vs pw (i+1)).length=e+(bN vs pw i).length:=by rw[bN,bF,AK,he]
   have he32:e<2^32:=by omega
   repeat((first|refine SW.R ?_|refine SW.c ?_|refine bz rfl gp rfl ?_|refine yT (by omega) ?_);conv=>whnf)
   refine r6 (G:=GB M (ef vs i) (bN vs pw i) e) (fun g=>aP [(0,ac (vD D vs)),(1,ac (eT pw)),(4,.w (.one (.ptr 0 0 0))),(5,.w (.one (.ptr 1 0 0))),(6,.w (.one (.mp 2))),(7,ac (aQ i)),(31,ac (eT pw)),(32,ac (aQ pw.length)),(33,ac (aQ i)),(38,ac (aQ e)),(39,ac (aQ g.j))]
    [(0,.mem 54 zQ false [(0,3)] 1),(1,.mem 54 ((qw q).cells ZZ) false [(0,3)] 1),(2,dU (D^(g.j+(bN vs pw i).length)) g.l)] 3) (fun g=>e-g.j) ⟨0,l,bk _,by simpa using ok⟩
    (To.tab [] ⟨.sm rfl rfl,.sm rfl rfl,.rn rfl rfl,.rn rfl rfl,.rn rfl rfl,.sm rfl rfl,.sm rfl rfl,.sm rfl rfl,.sm rfl rfl,.sm rfl rfl,.sm rfl rfl,ab⟩ ⟨.sm rfl rfl,.sm rfl rfl,.sm (by simp only[aU];rfl) dA,ab⟩ rfl) ?_
   rintro⟨j,l,hj,ok⟩;show SW (XS J) 0 _ _ _ (aP [(0,ac (vD D vs)),(1,ac (eT pw)),(4,.w (.one (.ptr 0 0 0))),(5,.w (.one (.ptr 1 0 0))),(6,.w (.one (.mp 2))),(7,ac (aQ i)),(31,ac (eT pw)),(32,ac (aQ pw.length)),(33,ac (aQ i)),(38,ac (aQ e)),(39,ac (aQ j))]
    [(0,.mem 54 zQ false [(0,3)] 1),(1,.mem 54 ((qw q).cells ZZ) false [(0,3)] 1),(2,dU (D^(j+(bN vs pw i).length)) l)] 3) _
   by_cases h2:j<e
   . skip
     repeat((first|refine SW.R ?_|refine SW.c ?_|refine yT (by omega) ?_|refine Mm rfl ?_);conv=>whnf)
     refine r6 (G:=GC M (ef vs i) (List.replicate j (ef vs i)++bN vs pw i) l) (fun g=>aP [(0,ac (vD D vs)),(1,ac (eT pw)),(4,.w (.one (.ptr 0 0 0))),(5,.w (.one (.ptr 1 0 0))),(6,.w (.one (.mp 2))),(7,ac (aQ i)),(9,.w (.one (.mp 3))),(31,ac (eT pw)),(32,ac (aQ pw.length)),(33,ac (aQ i)),(38,ac (aQ e)),(39,ac (aQ j)),(43,.w (.one (.ptr 4 0 0)))]
      [(0,.mem 54 zQ false [(0,3)] 1),(1,.mem 54 ((qw q).cells ZZ) false [(0,3)] 1),(2,dU (D^(j+(bN vs pw i).length)) l),(3,dU (D^(j+(bN vs pw i).length+1)) g.m),(4,.iter 2 l.length g.seen l.length g.cur)] 5) (fun g=>(bM g.seen l 0).length) ⟨[],[],none,by simp[ba],by simp[ba],(GV (col:=ef vs i) ok).1,(GV (col:=ef vs i) ok).2⟩
      (To.tab [] ⟨.sm rfl rfl,.sm rfl rfl,.rn rfl rfl,.rn rfl rfl,.rn rfl rfl,.sm rfl rfl,.rn rfl rfl,.sm rfl rfl,.sm rfl rfl,.sm rfl rfl,.sm rfl rfl,.sm rfl rfl,.rn rfl rfl,ab⟩ ⟨.sm rfl rfl,.sm rfl rfl,.sm rfl dA,.sm rfl dA,.rn rfl rfl rfl,ab⟩ rfl) ?_
     rintro⟨seen,m,cur,nd,tot,lin,abs⟩;show SW (XS J) 0 _ _ _ (aP [(0,ac (vD D vs)),(1,ac (eT pw)),(4,.w (.one (.ptr 0 0 0))),(5,.w (.one (.ptr 1 0 0))),(6,.w (.one (.mp 2))),(7,ac (aQ i)),(9,.w (.one (.mp 3))),(31,ac (eT pw)),(32,ac (aQ pw.length)),(33,ac (aQ i)),(38,ac (aQ e)),(39,ac (aQ j)),(43,.w (.one (.ptr 4 0 0)))]
      [(0,.mem 54 zQ false [(0,3)] 1),(1,.mem 54 ((qw q).cells ZZ) false [(0,3)] 1),(2,dU (D^(j+(bN vs pw i).length)) l),(3,dU (D^(j+(bN vs pw i).length+1)) m),(4,.iter 2 l.length seen l.length cur)] 5) _
     repeat ((refine SW.RS ?_;conv=>whnf))
     refine⟨2,l.length,seen,l.length,cur,cL (D^(j+(bN vs pw i).length)) l 0,l.length,rfl,rfl,Gp,fun hl=>?_,fun en hen=>?_⟩
     . conv=>whnf
       rw[rY] at hl;have hl2:bM seen l 0=[]:=List.map_eq_nil_iff.1 hl;repeat((first|refine SW.R ?_|refine SW.c ?_|refine ap (by omega) ?_);conv=>whnf)
       have eD:j+(bN vs pw i).length+1=j+1+(bN vs pw i).length:=by omega
       exact⟨⟨j+1,m,by omega,nd,fun k hk=>by rw[tot k hk];simp;omega,fun φ=>by have:=lin φ;rw[hl2] at this;simpa[jF,rp] using this,by
        rw[hl2] at abs;simp only[jb,jR,fA] at abs;refine aY abs (kM ?_);congr 1⟩,
        To.tab [(2,3)] ⟨.sm rfl rfl,.sm rfl rfl,.rn rfl rfl,.rn rfl rfl,.rn rfl rfl,.sm rfl rfl,.sm rfl rfl,.sm rfl rfl,.sm rfl rfl,.sm rfl rfl,.sm rfl rfl,ab⟩ ⟨.sm rfl rfl,.sm rfl rfl,.sm (aJ (fun n=>some (dU (D^n) m)) eD) dA,ab⟩ rfl,by dsimp only;omega⟩
     . rw[rY] at hen;obtain⟨⟨k,z,b⟩,hb,rfl⟩:=List.mem_map.1 hen;have hlb:l[b]?=some (k,z):=by have:=(BA hb).2.2;simpa using this
       have hlv:(((vs.map fun r=>IV.sl (r.map fun z=>qr (mkRat z D))).length:Nat):Int)=(vs.length:Int):=by simp
       conv=>whnf
       repeat((first|refine SW.R ?_|refine SW.c ?_|refine kI (IG (e:=(k,z,b)) rfl rfl hlb) ?_|refine bc hlv ?_|refine bg rfl ?_);conv=>whnf)
       refine r6 (G:=GD M (ef vs i) (List.replicate j (ef vs i)++bN vs pw i) l (b::seen) k z) (fun g=>aP [(0,ac (vD D vs)),(1,ac (eT pw)),(4,.w (.one (.ptr 0 0 0))),(5,.w (.one (.ptr 1 0 0))),(6,.w (.one (.mp 2))),(7,ac (aQ i)),(9,.w (.one (.mp 3))),(10,.w (.one (.ptr 5 0 0))),(11,.w (.one (.ptr 6 0 0))),(31,ac (eT pw)),(32,ac (aQ pw.length)),(33,ac (aQ i)),(38,ac (aQ e)),(39,ac (aQ j)),(43,.w (.one (.ptr 4 0 0))),(49,ac (vD D vs)),(50,ac (aQ vs.length)),(51,ac (aQ g.p))]
        [(0,.mem 54 zQ false [(0,3)] 1),(1,.mem 54 ((qw q).cells ZZ) false [(0,3)] 1),(2,dU (D^(j+(bN vs pw i).length)) l),(3,dU (D^(j+(bN vs pw i).length+1)) g.m),(4,.iter 2 l.length (b::seen) l.length (some b)),(5,.mem 203 ((gY k).cells ZZ) false [(0,5)] 1),(6,.mem 54 ((mz (D^(j+(bN vs pw i).length)) z).cells ZZ) false [(0,3)] 1)] 7) (fun g=>vs.length-g.p) ⟨0,m,bk _,nd,tot,fun φ=>by
         have h1:=(oc hb).1 fun k=>lk φ k (ef vs i) 0;have h2:=lin φ;rw[h1] at h2;dsimp only at h2;rw[bL];omega,by
         have h1:=(oc hb).2.1;have h2:=fK z.natAbs (hcol i h);have h3:M*(z.natAbs+jb (bM (b::seen) l 0))=z.natAbs*M+M*jb (bM (b::seen) l 0):=by rw[bW,dD M]
         rw[h1] at abs;dsimp only at abs;rw[h3] at abs;rw[bL];omega⟩
        (To.tab [] ⟨.sm rfl rfl,.sm rfl rfl,.rn rfl rfl,.rn rfl rfl,.rn rfl rfl,.sm rfl rfl,.rn rfl rfl,.rn rfl rfl,.rn rfl rfl,.sm rfl rfl,.sm rfl rfl,.sm rfl rfl,.sm rfl rfl,.sm rfl rfl,.rn rfl rfl,.sm rfl rfl,.sm rfl rfl,.sm rfl rfl,ab⟩ ⟨.sm rfl rfl,.sm rfl rfl,.sm rfl dA,.sm rfl dA,.rn rfl rfl rfl,.sm rfl rfl,.sm rfl rfl,ab⟩ rfl) ?_
       rintro⟨p,m,hp,nd,tot,lin,abs⟩;show SW (XS J) 0 _ _ _ (aP [(0,ac (vD D vs)),(1,ac (eT pw)),(4,.w (.one (.ptr 0 0 0))),(5,.w (.one (.ptr 1 0 0))),(6,.w (.one (.mp 2))),(7,ac (aQ i)),(9,.w (.one (.mp 3))),(10,.w (.one (.ptr 5 0 0))),(11,.w (.one (.ptr 6 0 0))),(31,ac (eT pw)),(32,ac (aQ pw.length)),(33,ac (aQ i)),(38,ac (aQ e)),(39,ac (aQ j)),(43,.w (.one (.ptr 4 0 0))),(49,ac (vD D vs)),(50,ac (aQ vs.length)),(51,ac (aQ p))]
        [(0,.mem 54 zQ false [(0,3)] 1),(1,.mem 54 ((qw q).cells ZZ) false [(0,3)] 1),(2,dU (D^(j+(bN vs pw i).length)) l),(3,dU (D^(j+(bN vs pw i).length+1)) m),(4,.iter 2 l.length (b::seen) l.length (some b)),(5,.mem 203 ((gY k).cells ZZ) false [(0,5)] 1),(6,.mem 54 ((mz (D^(j+(bN vs pw i).length)) z).cells ZZ) false [(0,3)] 1)] 7) _
       have hcl:(ef vs i).length=vs.length:=by simp[ef]
       by_cases h3:p<vs.length
       . obtain⟨J0,hJ0⟩:∃J0,j+(bN vs pw i).length=J0:=⟨_,rfl⟩;obtain⟨r,hr⟩:∃r,vs.getD p []=r:=⟨_,rfl⟩;obtain⟨x,hx⟩:∃x,r.getD i 0=x:=⟨_,rfl⟩;have hrm:r∈vs:=by rw[<-hr,br,a6 h3];exact eM h3
         have hri:i<r.length:=by rw[hrow r hrm];exact h
         have hxc:(ef vs i).getD p 0=x:=by
          rw[<-hx,<-hr,ef,br,zO (fun r:List Int=>r.getD i 0) [] h3];rfl
         have hlen:(List.replicate j (ef vs i)++bN vs pw i).length=J0:=by rw[<-hJ0];simp
         have hJT:J0+1<=T:=by omega
         have hkl:(k,z)∈l:=bV hlb;have hkt:k.tot=J0:=by rw[<-hlen];exact ok.tot k (List.mem_map_of_mem hkl)
         have hza:z.natAbs<=M^J0:=by rw[<-hlen];exact aY (Cr hkl) ok.abs
         have hxa:x.natAbs<=M:=by rw[<-hxc];exact aY HJ (hcol i h)
         have hga:=Iq (k.inc p) m;rw[hlen] at tot abs;have gv:(vs.map fun r=>IV.sl (r.map fun z=>qr (mkRat z D)))[p]?=some (.sl (r.map fun z=>qr (mkRat z D))):=by rw[<-hr];exact zO (fun r:List Int=>IV.sl (r.map fun z=>qr (mkRat z D))) [] h3
         have gr:(r.map fun z=>qr (mkRat z D))[i]?=some (qr (mkRat x D)):=by rw[<-hx];exact zO (fun z:Int=>qr (mkRat z D)) 0 hri
         rw[hJ0];have cm:Go.Proofs.Fl.C J 55 [qr (mkRat z (D^J0)),qr (mkRat x D)] (qr (mkRat (z*x) (D^(J0+1)))):=by
          rw[<-TF];have q1:=qb hM hD hs (b:=J0) hza (by omega) (by omega);have q2:=qb hM hD hs (a:=1) (b:=1) (z:=x) (by rw[rB];exact hxa) (by omega) (by omega);rw[rB] at q2;exact ka (base J) (by omega) (by omega)
         have ca:Go.Proofs.Fl.C J 71 [qr (mkRat (cC m (k.inc p)) (D^(J0+1))),qr (mkRat (z*x) (D^(J0+1)))] (qr (mkRat (cC m (k.inc p)+z*x) (D^(J0+1)))):=by
          rw[<-JG (gh hD)];have q1:=qb hM hD hs (b:=J0+1) (z:=cC m (k.inc p)) (a:=J0+1) (by omega) (by omega) (by omega);have q2:=qb hM hD hs (a:=J0+1) (b:=J0+1) (z:=z*x) (by rw[fB,cr];exact iO hza hxa) (by omega) (by omega);exact mi (base J) (by omega) (by omega)
         have okm:∀y∈ba m,iI y:=fun y hy=>by unfold iI;rw[tot y hy];omega
         have okk:iI (k.inc p):=by unfold iI;rw[K5.inc_tot];omega
         have hka:k.a<2^62/\k.b<2^62/\k.c<2^62/\k.d<2^62/\k.e<2^62:=by unfold K5.tot at hkt;omega
         have nd2:=Qd (k.inc p) (cC m (k.inc p)+z*x) nd;have tot2:∀y∈ba (cR m (k.inc p) (cC m (k.inc p)+z*x)),y.tot=(List.replicate j (ef vs i)++bN vs pw i).length+1:=fun y hy=>by
          rw[hlen];rcases TH hy with hy|rfl
          . exact tot y hy
          . rw[K5.inc_tot,hkt]
         have edr:(ef vs i).drop p=x::(ef vs i).drop (p+1):=by rw[drop_getD (by omega),hxc]
         have lin2:∀ φ,Reg.lin φ (cR m (k.inc p) (cC m (k.inc p)+z*x))+z*lk φ k ((ef vs i).drop (p+1)) (p+1)+jF (fun k=>lk φ k (ef vs i) 0) (bM (b::seen) l 0)=lz (ef vs i::(List.replicate j (ef vs i)++bN vs pw i)) φ:=fun φ=>by
          rw[<-lin φ,JK,edr,lk,wy,Int.mul_assoc];omega
         have abs2:fU (cR m (k.inc p) (cC m (k.inc p)+z*x))+z.natAbs*cu ((ef vs i).drop (p+1))+M*jb (bM (b::seen) l 0)<=M^((List.replicate j (ef vs i)++bN vs pw i).length+1):=by
          have h1:=I7 (k.inc p) (z*x) m;rw[edr,cu,bW] at abs;rw[fB] at h1;rw[hlen];omega
         have hp5:p=0\/p=1\/p=2\/p=3\/p=4:=by omega
         rcases hp5 with rfl|rfl|rfl|rfl|rfl
         . repeat((first|refine SW.R ?_|refine SW.c ?_|refine bz rfl gv rfl ?_|refine bz rfl gr rfl ?_|refine jI (j:=0) rfl (by omega) rfl ?_|refine Or.inl ⟨_,_,cm,rfl,rfl,rfl,?_⟩|refine Or.inl ⟨_,_,ca,rfl,rfl,rfl,?_⟩|refine kI (uM (d:=D^(J0+1)) (l:=m) (k:=k.inc 0) vG rfl okm nd okk) ?_|refine po (sD (d:=D^(J0+1)) (l:=m) (k:=k.inc 0) (cC m (k.inc 0)+z*x) rfl okm nd okk) ?_|refine ap (by omega) ?_|refine yT (by omega) ?_|refine bg rfl ?_|refine aM rfl ?_);conv=>whnf)
           exact⟨⟨0+1,cR m (k.inc 0) (cC m (k.inc 0)+z*x),by omega,nd2,tot2,lin2,abs2⟩,To.tab [] ⟨.sm rfl rfl,.sm rfl rfl,.rn rfl rfl,.rn rfl rfl,.rn rfl rfl,.sm rfl rfl,.rn rfl rfl,.rn rfl rfl,.rn rfl rfl,.sm rfl rfl,.sm rfl rfl,.sm rfl rfl,.sm rfl rfl,.sm rfl rfl,.rn rfl rfl,.sm rfl rfl,.sm rfl rfl,.sm rfl rfl,ab⟩ ⟨.sm rfl rfl,.sm rfl rfl,.sm rfl dA,.sm rfl dA,.rn rfl rfl rfl,.sm rfl rfl,.sm rfl rfl,ab⟩ rfl,by dsimp only;omega⟩
         . repeat((first|refine SW.R ?_|refine SW.c ?_|refine bz rfl gv rfl ?_|refine bz rfl gr rfl ?_|refine jI (j:=1) rfl (by omega) rfl ?_|refine Or.inl ⟨_,_,cm,rfl,rfl,rfl,?_⟩|refine Or.inl ⟨_,_,ca,rfl,rfl,rfl,?_⟩|refine kI (uM (d:=D^(J0+1)) (l:=m) (k:=k.inc 1) vG rfl okm nd okk) ?_|refine po (sD (d:=D^(J0+1)) (l:=m) (k:=k.inc 1) (cC m (k.inc 1)+z*x) rfl okm nd okk) ?_|refine ap (by omega) ?_|refine yT (by omega) ?_|refine bg rfl ?_|refine aM rfl ?_);conv=>whnf)
           exact⟨⟨1+1,cR m (k.inc 1) (cC m (k.inc 1)+z*x),by omega,nd2,tot2,lin2,abs2⟩,To.tab [] ⟨.sm rfl rfl,.sm rfl rfl,.rn rfl rfl,.rn rfl rfl,.rn rfl rfl,.sm rfl rfl,.rn rfl rfl,.rn rfl rfl,.rn rfl rfl,.sm rfl rfl,.sm rfl rfl,.sm rfl rfl,.sm rfl rfl,.sm rfl rfl,.rn rfl rfl,.sm rfl rfl,.sm rfl rfl,.sm rfl rfl,ab⟩ ⟨.sm rfl rfl,.sm rfl rfl,.sm rfl dA,.sm rfl dA,.rn rfl rfl rfl,.sm rfl rfl,.sm rfl rfl,ab⟩ rfl,by dsimp only;omega⟩
         . repeat((first|refine SW.R ?_|refine SW.c ?_|refine bz rfl gv rfl ?_|refine bz rfl gr rfl ?_|refine jI (j:=2) rfl (by omega) rfl ?_|refine Or.inl ⟨_,_,cm,rfl,rfl,rfl,?_⟩|refine Or.inl ⟨_,_,ca,rfl,rfl,rfl,?_⟩|refine kI (uM (d:=D^(J0+1)) (l:=m) (k:=k.inc 2) vG rfl okm nd okk) ?_|refine po (sD (d:=D^(J0+1)) (l:=m) (k:=k.inc 2) (cC m (k.inc 2)+z*x) rfl okm nd okk) ?_|refine ap (by omega) ?_|refine yT (by omega) ?_|refine bg rfl ?_|refine aM rfl ?_);conv=>whnf)
           exact⟨⟨2+1,cR m (k.inc 2) (cC m (k.inc 2)+z*x),by omega,nd2,tot2,lin2,abs2⟩,To.tab [] ⟨.sm rfl rfl,.sm rfl rfl,.rn rfl rfl,.rn rfl rfl,.rn rfl rfl,.sm rfl rfl,.rn rfl rfl,.rn rfl rfl,.rn rfl rfl,.sm rfl rfl,.sm rfl rfl,.sm rfl rfl,.sm rfl rfl,.sm rfl rfl,.rn rfl rfl,.sm rfl rfl,.sm rfl rfl,.sm rfl rfl,ab⟩ ⟨.sm rfl rfl,.sm rfl rfl,.sm rfl dA,.sm rfl dA,.rn rfl rfl rfl,.sm rfl rfl,.sm rfl rfl,ab⟩ rfl,by dsimp only;omega⟩
         . repeat((first|refine SW.R ?_|refine SW.c ?_|refine bz rfl gv rfl ?_|refine bz rfl gr rfl ?_|refine jI (j:=3) rfl (by omega) rfl ?_|refine Or.inl ⟨_,_,cm,rfl,rfl,rfl,?_⟩|refine Or.inl ⟨_,_,ca,rfl,rfl,rfl,?_⟩|refine kI (uM (d:=D^(J0+1)) (l:=m) (k:=k.inc 3) vG rfl okm nd okk) ?_|refine po (sD (d:=D^(J0+1)) (l:=m) (k:=k.inc 3) (cC m (k.inc 3)+z*x) rfl okm nd okk) ?_|refine ap (by omega) ?_|refine yT (by omega) ?_|refine bg rfl ?_|refine aM rfl ?_);conv=>whnf)
           exact⟨⟨3+1,cR m (k.inc 3) (cC m (k.inc 3)+z*x),by omega,nd2,tot2,lin2,abs2⟩,To.tab [] ⟨.sm rfl rfl,.sm rfl rfl,.rn rfl rfl,.rn rfl rfl,.rn rfl rfl,.sm rfl rfl,.rn rfl rfl,.rn rfl rfl,.rn rfl rfl,.sm rfl rfl,.sm rfl rfl,.sm rfl rfl,.sm rfl rfl,.sm rfl rfl,.rn rfl rfl,.sm rfl rfl,.sm rfl rfl,.sm rfl rfl,ab⟩ ⟨.sm rfl rfl,.sm rfl rfl,.sm rfl dA,.sm rfl dA,.rn rfl rfl rfl,.sm rfl rfl,.sm rfl rfl,ab⟩ rfl,by dsimp only;omega⟩
         . repeat((first|refine SW.R ?_|refine SW.c ?_|refine bz rfl gv rfl ?_|refine bz rfl gr rfl ?_|refine jI (j:=4) rfl (by omega) rfl ?_|refine Or.inl ⟨_,_,cm,rfl,rfl,rfl,?_⟩|refine Or.inl ⟨_,_,ca,rfl,rfl,rfl,?_⟩|refine kI (uM (d:=D^(J0+1)) (l:=m) (k:=k.inc 4) vG rfl okm nd okk) ?_|refine po (sD (d:=D^(J0+1)) (l:=m) (k:=k.inc 4) (cC m (k.inc 4)+z*x) rfl okm nd okk) ?_|refine ap (by omega) ?_|refine yT (by omega) ?_|refine bg rfl ?_|refine aM rfl ?_);conv=>whnf)
           exact⟨⟨4+1,cR m (k.inc 4) (cC m (k.inc 4)+z*x),by omega,nd2,tot2,lin2,abs2⟩,To.tab [] ⟨.sm rfl rfl,.sm rfl rfl,.rn rfl rfl,.rn rfl rfl,.rn rfl rfl,.sm rfl rfl,.rn rfl rfl,.rn rfl rfl,.rn rfl rfl,.sm rfl rfl,.sm rfl rfl,.sm rfl rfl,.sm rfl rfl,.sm rfl rfl,.rn rfl rfl,.sm rfl rfl,.sm rfl rfl,.sm rfl rfl,ab⟩ ⟨.sm rfl rfl,.sm rfl rfl,.sm rfl dA,.sm rfl dA,.rn rfl rfl rfl,.sm rfl rfl,.sm rfl rfl,ab⟩ rfl,by dsimp only;omega⟩
       . have ep:p=vs.length:=by omega
         subst ep;have edr:(ef vs i).drop vs.length=[]:=by rw[List.drop_eq_nil_iff,hcl];exact ak _
         repeat((first|refine SW.R ?_|refine SW.c ?_|refine yF (by omega) ?_);conv=>whnf)
         exact⟨⟨b::seen,m,some b,nd,tot,fun φ=>by have:=lin φ;rw[edr,lk] at this;omega,by rw[edr,cu] at abs;omega⟩,To.tab [] ⟨.sm rfl rfl,.sm rfl rfl,.rn rfl rfl,.rn rfl rfl,.rn rfl rfl,.sm rfl rfl,.rn rfl rfl,.sm rfl rfl,.sm rfl rfl,.sm rfl rfl,.sm rfl rfl,.sm rfl rfl,.rn rfl rfl,ab⟩ ⟨.sm rfl rfl,.sm rfl rfl,.sm rfl dA,.sm rfl dA,.rn rfl rfl rfl,ab⟩ rfl,by have:=(oc hb).2.2;dsimp only at this ⊢;omega⟩
   . have e2:j=e:=by omega
     subst e2;repeat((first|refine SW.R ?_|refine SW.c ?_|refine ap (by omega) ?_|refine yF (by omega) ?_);conv=>whnf)
     exact⟨⟨i+1,l,by omega,by rw[bN,he];exact ok⟩,To.tab [] ⟨.sm rfl rfl,.sm rfl rfl,.rn rfl rfl,.rn rfl rfl,.rn rfl rfl,.sm rfl rfl,.sm rfl rfl,.sm rfl rfl,ab⟩ ⟨.sm rfl rfl,.sm rfl rfl,.sm (aJ (fun n=>some (dU (D^n) l)) hfe.symm) dA,ab⟩ rfl,by dsimp only;omega⟩
 . have ei:i=pw.length:=by omega
   subst ei;rw[hT];repeat((first|refine SW.R ?_|refine SW.c ?_|refine yF (by omega) ?_|refine Mm rfl ?_);conv=>whnf)
   refine r6 (G:=GE M (bN vs pw pw.length) l) (fun g=>aP [(0,ac (vD D vs)),(1,ac (eT pw)),(4,.w (.one (.ptr 0 0 0))),(5,.w (.one (.ptr 1 0 0))),(15,.w (.one (.ptr 3 0 0))),(79,.w (.one (.ptr 4 0 0)))]
    [(0,.mem 54 zQ false [(0,3)] 1),(1,.mem 54 ((qw q).cells ZZ) false [(0,3)] 1),(2,dU (D^T) l),(3,.mem 54 ((mz (D^T) g.s).cells ZZ) false [(0,3)] 1),(4,.iter 2 l.length g.seen l.length g.cur)] 5) (fun g=>(bM g.seen l 0).length) ⟨[],0,none,by rw[Hn,Int.zero_add];exact ok.lin _,⟨0,by rw[Gv,aU];exact ok.abs,by simp⟩⟩
    (To.tab [] ⟨.sm rfl rfl,.sm rfl rfl,.rn rfl rfl,.rn rfl rfl,.rn rfl rfl,.rn rfl rfl,ab⟩ ⟨.sm rfl rfl,.sm rfl rfl,.sm rfl dA,.sm (aJ (fun y:EW=>some (EO.mem 54 (y.cells ZZ) false [(0,3)] 1)) XF.symm) rfl,.rn rfl rfl rfl,ab⟩ rfl) ?_
   rintro⟨seen,S,cur,lin,hab⟩;show SW (XS J) 0 _ _ _ (aP [(0,ac (vD D vs)),(1,ac (eT pw)),(4,.w (.one (.ptr 0 0 0))),(5,.w (.one (.ptr 1 0 0))),(15,.w (.one (.ptr 3 0 0))),(79,.w (.one (.ptr 4 0 0)))]
    [(0,.mem 54 zQ false [(0,3)] 1),(1,.mem 54 ((qw q).cells ZZ) false [(0,3)] 1),(2,dU (D^T) l),(3,.mem 54 ((mz (D^T) S).cells ZZ) false [(0,3)] 1),(4,.iter 2 l.length seen l.length cur)] 5) _
   obtain⟨a0,hab1,hab2⟩:=hab;rw[hT] at hab1 hab2;have hS:S.natAbs<=M^(T+1)*bb T^5:=aY hab2 (bU _ (aY (by omega) (dz hM (wz T))));have qS:=EB hD hsF hS (b:=T) (by omega);repeat ((refine SW.RS ?_;conv=>whnf))
   refine⟨2,l.length,seen,l.length,cur,cL (D^T) l 0,l.length,rfl,rfl,Gp,fun hl=>?_,fun en hen=>?_⟩
   . rw[rY] at hl;have hl2:bM seen l 0=[]:=List.map_eq_nil_iff.1 hl;rw[hl2,jF,Int.add_zero] at lin;rw[<-lin];have cs1:=ka (base J) (a:=mkRat S (D^T)) (b:=q) (by omega) (by omega);have cs2:Go.Proofs.Fl.C J 77 [eT pw] (.int .i64 (T:Int)):=by
      have e1:=Hx (vs:=vs) (pw:=pw) pw.length (ak _);rw[aC (by simp),hT] at e1;have e2:=I8 pw;have c:=xS J (l:=pw.map fun n:Nat=>(n:Int)) (by rw[bR];omega) (by omega);rw[e1,fb] at c;exact c
     have cs3:=Jr J (n:=pw.length+T) (by omega);have hqf:=xU (m:=pw.length+T) (by omega) _ (ak _);have hqm:=sc (mkRat S (D^T)) q;have cs4:=Cz (base J) (a:=mkRat S (D^T)*q) (b:=((bb (pw.length+T):Nat):Rat)) (by omega) (by omega) (fun e=>by
      have:=yf (pw.length+T);have e':((bb (pw.length+T):Nat):Rat)=((0:Nat):Rat):=e;rw[Rat.natCast_inj] at e';omega)
     rw[Nr] at cs3;conv=>whnf
     repeat((first|refine SW.R ?_|refine SW.c ?_|refine Or.inl ⟨_,_,cs1,rfl,rfl,rfl,?_⟩|refine Or.inl ⟨_,_,cs2,rfl,rfl,rfl,?_⟩|refine Or.inl ⟨_,_,cs3,rfl,rfl,rfl,?_⟩|refine Or.inl ⟨_,_,cs4,rfl,rfl,rfl,?_⟩|refine bc lp ?_|refine ap (by omega) ?_|refine bg rfl ?_|refine aM rfl ?_);conv=>whnf)
     rfl
   . rw[rY] at hen;obtain⟨⟨k,z,b⟩,hb,rfl⟩:=List.mem_map.1 hen;have hlb:l[b]?=some (k,z):=by have:=(BA hb).2.2;simpa using this
     have hkl:(k,z)∈l:=bV hlb;have hkt:k.tot=T:=by rw[<-hT];exact ok.tot k (List.mem_map_of_mem hkl)
     have hk4:k.a<2^32/\k.b<2^32/\k.c<2^32/\k.d<2^32/\k.e<2^32:=by unfold K5.tot at hkt;omega
     have hza:z.natAbs<=M^T:=by rw[<-hT];exact aY (Cr hkl) ok.abs
     have hzf:∀t,(z*(ja k t:Nat)).natAbs<=M^(T+1)*bb T^5:=fun t=>by
      rw[fB,fc];exact iO (aY hza (dz hM (wz T))) (JV (kM hkt) t)
     conv=>whnf
     repeat((first|refine SW.R ?_|refine SW.c ?_|refine kI (IG (e:=(k,z,b)) rfl rfl hlb) ?_|refine bg rfl ?_|refine aM rfl ?_);conv=>whnf)
     refine r6 (G:={ t:Nat // t<=5 }) (fun t=>aP [(0,ac (vD D vs)),(1,ac (eT pw)),(4,.w (.one (.ptr 0 0 0))),(5,.w (.one (.ptr 1 0 0))),(15,.w (.one (.ptr 3 0 0))),(79,.w (.one (.ptr 4 0 0))),(17,.w (.one (.ptr 5 0 0))),(85,.w (gY k)),(86,ac (aQ t.1))]
      [(0,.mem 54 zQ false [(0,3)] 1),(1,.mem 54 ((qw q).cells ZZ) false [(0,3)] 1),(2,dU (D^T) l),(3,.mem 54 ((mz (D^T) S).cells ZZ) false [(0,3)] 1),(4,.iter 2 l.length (b::seen) l.length (some b)),(5,.mem 54 ((mz (D^T) (z*(ja k t.1:Nat))).cells ZZ) false [(0,3)] 1)] 6) (fun t=>5-t.1) ⟨0,by omega⟩
      (To.tab [(5,6)] ⟨.sm rfl rfl,.sm rfl rfl,.rn rfl rfl,.rn rfl rfl,.rn rfl rfl,.rn rfl rfl,.rn rfl rfl,.sm rfl rfl,.sm rfl rfl,ab⟩ ⟨.sm rfl rfl,.sm rfl rfl,.sm rfl dA,.sm rfl rfl,.rn rfl rfl rfl,.sm (aJ (fun y:Int=>some (EO.mem 54 ((mz (D^T) y).cells ZZ) false [(0,3)] 1)) (by simp[ja])) rfl,ab⟩ rfl) ?_
     rintro⟨t,ht⟩;show SW (XS J) 0 _ _ _ (aP [(0,ac (vD D vs)),(1,ac (eT pw)),(4,.w (.one (.ptr 0 0 0))),(5,.w (.one (.ptr 1 0 0))),(15,.w (.one (.ptr 3 0 0))),(79,.w (.one (.ptr 4 0 0))),(17,.w (.one (.ptr 5 0 0))),(85,.w (gY k)),(86,ac (aQ t))]
      [(0,.mem 54 zQ false [(0,3)] 1),(1,.mem 54 ((qw q).cells ZZ) false [(0,3)] 1),(2,dU (D^T) l),(3,.mem 54 ((mz (D^T) S).cells ZZ) false [(0,3)] 1),(4,.iter 2 l.length (b::seen) l.length (some b)),(5,.mem 54 ((mz (D^T) (z*(ja k t:Nat))).cells ZZ) false [(0,3)] 1)] 6) _
     by_cases h5:t<5
     . have hkk:tC k t<2^32:=by unfold tC;split<;>omega
       have cf:=Jr J (n:=tC k t) hkk;have qf:=xU (m:=tC k t) hkk _ (ak _);have qz:=EB hD hsF (hzf t) (b:=T) (by omega);have cm:=ka (base J) (a:=mkRat (z*(ja k t:Nat)) (D^T)) (b:=((bb (tC k t):Nat):Rat)) (by omega) (by omega);rw[TE,Int.mul_assoc,<-kN,<-Qr k h5] at cm;have hp5:t=0\/t=1\/t=2\/t=3\/t=4:=by omega
       rcases hp5 with rfl|rfl|rfl|rfl|rfl
       . repeat((first|refine SW.R ?_|refine SW.c ?_|refine Or.inl ⟨_,_,cf,rfl,rfl,rfl,?_⟩|refine Or.inl ⟨_,_,cm,rfl,rfl,rfl,?_⟩|refine ap (by omega) ?_|refine yT (by omega) ?_|refine bg rfl ?_|refine aM rfl ?_|refine vI rfl (by omega) rfl ?_);conv=>whnf)
         exact⟨⟨0+1,by omega⟩,To.tab [] ⟨.sm rfl rfl,.sm rfl rfl,.rn rfl rfl,.rn rfl rfl,.rn rfl rfl,.rn rfl rfl,.rn rfl rfl,.sm rfl rfl,.sm rfl rfl,ab⟩ ⟨.sm rfl rfl,.sm rfl rfl,.sm rfl dA,.sm rfl rfl,.rn rfl rfl rfl,.sm rfl rfl,ab⟩ rfl,by dsimp only;omega⟩
       . repeat((first|refine SW.R ?_|refine SW.c ?_|refine Or.inl ⟨_,_,cf,rfl,rfl,rfl,?_⟩|refine Or.inl ⟨_,_,cm,rfl,rfl,rfl,?_⟩|refine ap (by omega) ?_|refine yT (by omega) ?_|refine bg rfl ?_|refine aM rfl ?_|refine vI rfl (by omega) rfl ?_);conv=>whnf)
         exact⟨⟨1+1,by omega⟩,To.tab [] ⟨.sm rfl rfl,.sm rfl rfl,.rn rfl rfl,.rn rfl rfl,.rn rfl rfl,.rn rfl rfl,.rn rfl rfl,.sm rfl rfl,.sm rfl rfl,ab⟩ ⟨.sm rfl rfl,.sm rfl rfl,.sm rfl dA,.sm rfl rfl,.rn rfl rfl rfl,.sm rfl rfl,ab⟩ rfl,by dsimp only;omega⟩
       . repeat((first|refine SW.R ?_|refine SW.c ?_|refine Or.inl ⟨_,_,cf,rfl,rfl,rfl,?_⟩|refine Or.inl ⟨_,_,cm,rfl,rfl,rfl,?_⟩|refine ap (by omega) ?_|refine yT (by omega) ?_|refine bg rfl ?_|refine aM rfl ?_|refine vI rfl (by omega) rfl ?_);conv=>whnf)
         exact⟨⟨2+1,by omega⟩,To.tab [] ⟨.sm rfl rfl,.sm rfl rfl,.rn rfl rfl,.rn rfl rfl,.rn rfl rfl,.rn rfl rfl,.rn rfl rfl,.sm rfl rfl,.sm rfl rfl,ab⟩ ⟨.sm rfl rfl,.sm rfl rfl,.sm rfl dA,.sm rfl rfl,.rn rfl rfl rfl,.sm rfl rfl,ab⟩ rfl,by dsimp only;omega⟩
       . repeat((first|refine SW.R ?_|refine SW.c ?_|refine Or.inl ⟨_,_,cf,rfl,rfl,rfl,?_⟩|refine Or.inl ⟨_,_,cm,rfl,rfl,rfl,?_⟩|refine ap (by omega) ?_|refine yT (by omega) ?_|refine bg rfl ?_|refine aM rfl ?_|refine vI rfl (by omega) rfl ?_);conv=>whnf)
         exact⟨⟨3+1,by omega⟩,To.tab [] ⟨.sm rfl rfl,.sm rfl rfl,.rn rfl rfl,.rn rfl rfl,.rn rfl rfl,.rn rfl rfl,.rn rfl rfl,.sm rfl rfl,.sm rfl rfl,ab⟩ ⟨.sm rfl rfl,.sm rfl rfl,.sm rfl dA,.sm rfl rfl,.rn rfl rfl rfl,.sm rfl rfl,ab⟩ rfl,by dsimp only;omega⟩
       . repeat((first|refine SW.R ?_|refine SW.c ?_|refine Or.inl ⟨_,_,cf,rfl,rfl,rfl,?_⟩|refine Or.inl ⟨_,_,cm,rfl,rfl,rfl,?_⟩|refine ap (by omega) ?_|refine yT (by omega) ?_|refine bg rfl ?_|refine aM rfl ?_|refine vI rfl (by omega) rfl ?_);conv=>whnf)
         exact⟨⟨4+1,by omega⟩,To.tab [] ⟨.sm rfl rfl,.sm rfl rfl,.rn rfl rfl,.rn rfl rfl,.rn rfl rfl,.rn rfl rfl,.rn rfl rfl,.sm rfl rfl,.sm rfl rfl,ab⟩ ⟨.sm rfl rfl,.sm rfl rfl,.sm rfl dA,.sm rfl rfl,.rn rfl rfl rfl,.sm rfl rfl,ab⟩ rfl,by dsimp only;omega⟩
     . have e5:t=5:=by omega
       subst e5;have qz:=EB hD hsF (hzf 5) (b:=T) (by omega);have ca:=mi (base J) (a:=mkRat S (D^T)) (b:=mkRat (z*(ja k 5:Nat)) (D^T)) (by omega) (by omega);rw[JG (gh hD)] at ca;repeat((first|refine SW.R ?_|refine SW.c ?_|refine Or.inl ⟨_,_,ca,rfl,rfl,rfl,?_⟩|refine yF (by omega) ?_|refine bg rfl ?_|refine aM rfl ?_);conv=>whnf)
       exact⟨⟨b::seen,S+z*(ja k 5:Nat),some b,by
        have:=(oc hb).1 s6;rw[this] at lin;dsimp only at lin;unfold s6 at lin ⊢;omega,⟨a0+z.natAbs,by
        have:=(oc hb).2.1;rw[hT];dsimp only at this;omega,by
        rw[hT,bP];have h1:=JV (kM hkt) 5;have h2:=fK z.natAbs h1;have h3:(z*(ja k 5:Nat)).natAbs=z.natAbs*ja k 5:=by rw[fB,fc]
        omega⟩⟩,To.tab [] ⟨.sm rfl rfl,.sm rfl rfl,.rn rfl rfl,.rn rfl rfl,.rn rfl rfl,.rn rfl rfl,ab⟩ ⟨.sm rfl rfl,.sm rfl rfl,.sm rfl dA,.sm rfl rfl,.rn rfl rfl rfl,ab⟩ rfl,by have:=(oc hb).2.2;dsimp only at this ⊢;omega⟩
set_option maxRecDepth 1000000 in
theorem QM(J:Keep){p00 p01 p10 p11 p20 p21 x0 x1 x2 x3:Rat}(b00:al p00<2^20)(b01:al p01<2^20)(b10:al p10<2^20)(b11:al p11<2^20)(b20:al p20<2^20)(b21:al p21<2^20)(h0:x0=p10-p00)(h1:x1=p11-p01)(h2:x2=p20-p00)(h3:x3=p21-p01)(z0_0:x0≠0):C J 137 [.sl [.sl [qr p00,qr p01],.sl [qr p10,qr p11],.sl [qr p20,qr p21]]] (qr (d2 x0 x1 x2 x3)):=by
 obtain⟨D,hD⟩:∃D,D=d2 x0 x1 x2 x3:=⟨_,rfl⟩;rw[<-hD];have S0:D=mkRat 1 1*d2 x0 x1 x2 x3:=by rw[show mkRat 1 1=1 by rfl,FA,hD]
 have q0:al x0<4194304:=tl b10 b00 h0 (aG rfl);have q1:al x1<4194304:=tl b11 b01 h1 (aG rfl);have q2:al x2<4194304:=tl b20 b00 h2 (aG rfl);have q3:al x3<4194304:=tl b21 b01 h3 (aG rfl);obtain⟨x4,h4⟩:∃x,x=mkRat 1 1*x0:=⟨_,rfl⟩;have q4:al x4<4194307:=zZ vK q0 h4 (aG rfl);obtain⟨x5,h5⟩:∃x,x=x2/x0:=⟨_,rfl⟩;have q5:al x5<8388608:=WQ q2 q0 h5 (aG rfl);obtain⟨x6,h6⟩:∃x,x=x5*x0:=⟨_,rfl⟩;have q6:al x6<12582912:=zZ q5 q0 h6 (aG rfl);obtain⟨x7,h7⟩:∃x,x=x2-x6:=⟨_,rfl⟩;have q7:al x7<33554432:=tl q2 q6 h7 (aG rfl);obtain⟨x8,h8⟩:∃x,x=x5*x1:=⟨_,rfl⟩;have q8:al x8<12582912:=zZ q5 q1 h8 (aG rfl);obtain⟨x9,h9⟩:∃x,x=x3-x8:=⟨_,rfl⟩;have q9:al x9<33554432:=tl q3 q8 h9 (aG rfl);have S1:=XM S0 z0_0 h4 h5 (h9.trans (by rw[h8]));by_cases z1_1:x9=0
 rotate_left
 ·
  obtain⟨x10,h10⟩:∃x,x=x4*x9:=⟨_,rfl⟩;have q10:al x10<37748739:=zZ q4 q9 h10 (aG rfl);have S2:=XN S1 h10;rw[S2];exact L5 J (l:=[x0,x1,x2,x3,x4,x5,x6,x7,x8,x9,x10]) (iN b00 (by decide)) (iN b01 (by decide)) (iN b10 (by decide)) (iN b11 (by decide)) (iN b20 (by decide)) (iN b21 (by decide)) h0 h1 h2 h3 (T:=[⟨55,[(1,1),(0,0)],.inl (4,0)⟩,⟨135,[(2,0),(0,0)],.inl (5,0)⟩,⟨55,[(5,0),(0,0)],.inl (6,0)⟩,⟨136,[(2,0),(6,0)],.inl (7,0)⟩,⟨55,[(5,0),(1,0)],.inl (8,0)⟩,⟨136,[(3,0),(8,0)],.inl (9,0)⟩,⟨55,[(4,0),(9,0)],.inl (10,0)⟩]) (N:=[((0,0),true),((9,0),true)]) (AllF.ok ⟨qT h4 (dV vK (aG rfl)) (dV q0 (aG rfl)),Ml h5 z0_0 (dV q2 (aG rfl)) (dV q0 (aG rfl)),qT h6 (dV q5 (aG rfl)) (dV q0 (aG rfl)),zP h7 (dV q2 (aG rfl)) (dV q6 (aG rfl)),qT h8 (dV q5 (aG rfl)) (dV q1 (aG rfl)),zP h9 (dV q3 (aG rfl)) (dV q8 (aG rfl)),qT h10 (dV q4 (aG rfl)) (dV q9 (aG rfl)),ab⟩) (AllN.ok ⟨EH z0_0,EH z1_1,ab⟩) (v:=x10) (VolIs.of (c:=(10,0)) (by kernel_rfl) rfl)
 have Z:=S1;rw[z1_1] at Z;have Z0:=WW Z;rw[Z0];exact L5 J (l:=[x0,x1,x2,x3,x4,x5,x6,x7,x8,x9]) (iN b00 (by decide)) (iN b01 (by decide)) (iN b10 (by decide)) (iN b11 (by decide)) (iN b20 (by decide)) (iN b21 (by decide)) h0 h1 h2 h3 (T:=[⟨55,[(1,1),(0,0)],.inl (4,0)⟩,⟨135,[(2,0),(0,0)],.inl (5,0)⟩,⟨55,[(5,0),(0,0)],.inl (6,0)⟩,⟨136,[(2,0),(6,0)],.inl (7,0)⟩,⟨55,[(5,0),(1,0)],.inl (8,0)⟩,⟨136,[(3,0),(8,0)],.inl (9,0)⟩]) (N:=[((0,0),true),((9,0),false)]) (AllF.ok ⟨qT h4 (dV vK (aG rfl)) (dV q0 (aG rfl)),Ml h5 z0_0 (dV q2 (aG rfl)) (dV q0 (aG rfl)),qT h6 (dV q5 (aG rfl)) (dV q0 (aG rfl)),zP h7 (dV q2 (aG rfl)) (dV q6 (aG rfl)),qT h8 (dV q5 (aG rfl)) (dV q1 (aG rfl)),zP h9 (dV q3 (aG rfl)) (dV q8 (aG rfl)),ab⟩) (AllN.ok ⟨EH z0_0,XD z1_1,ab⟩) (v:=0) (QH (by kernel_rfl))
theorem qz:al (mkRat 0 1)<2^20:=by
 have:=HV;rw[show mkRat 0 1=0 by rfl];omega
theorem qo:al (mkRat 1 1)<2^20:=by have:=vK;omega
theorem WA(J:Keep):C J 137 [vD 1 [[0,0],[1,0],[0,1]]] (qr 1):=by
 have:=QM J (p00:=mkRat 0 1) (p01:=mkRat 0 1) (p10:=mkRat 1 1) (p11:=mkRat 0 1) (p20:=mkRat 0 1) (p21:=mkRat 1 1) (x0:=1) (x1:=0) (x2:=0) (x3:=1) qz qz qo qz qz qo (by kernel_rfl) (by kernel_rfl) (by kernel_rfl) (by kernel_rfl) (by decide);rw[show d2 1 0 0 1=1 by kernel_rfl] at this;exact this
theorem RX(J:Keep):C J 76 [vD 1 [[0,0],[1,0],[0,1]],eT [2,0]] (qr (mkRat 1 12)):=by
 have h:=SG J (D:=1) (M:=1) (vs:=[[0,0],[1,0],[0,1]]) (pw:=[2,0]) (s:=1) (WA J) (by decide) (by have:=vK;rw[show mkRat 1 1=1 by rfl] at this;omega) (by decide) (T:=2) rfl (by decide) (by decide) (by decide) ?_ ?_ ?_ (by decide)
 . rw[show(mkRat (lz (bN [[0,0],[1,0],[0,1]] [2,0] [2,0].length) s6) (1^2)*z8 1/((bb ([2,0].length+2):Nat):Rat))=mkRat 1 12 by kernel_rfl] at h;exact h
 . have:ln (1^(2+1)*bb 2^5)<=4:=yI (by decide);have h2:ln (1^(2+1))<=4:=yI (by decide);omega
 . decide
 . decide
end Go.Proofs.En
namespace Go.Proofs.En
open Go.RowKit Go.Proofs.Fl Go.Proofs.Dig
attribute [local irreducible] IntKind.wrap a7 be bq bw SW SWr CallOk To
def dC:X5->X5
 | .seq _ y=>y
 |c=>c
def rh:X5->X5
 | .seq x _=>x
 |c=>c
theorem B8:∀(l:List Nat) (h:PT EO),(oU l h).get=iZ (fun g=>bJ g l) h.get
 | [],h=>by funext x;rfl
 |g::l,h=>by
  have hm:∀x,bJ x (g::l)=(bif Nat.beq x g then true else bJ x l):=fun x=>rfl;unfold oU;split
  . rename_i e cs fz vs cnt hg;rw[B8 l];funext x;unfold iZ;dsimp only;rw[na,hm];by_cases e':x=g
    . subst e';rw[ay rfl,bh,af,hg];cases bJ x l<;>rfl
    . rw[am e',ed e',aX]
  . rename_i hn;rw[B8 l];funext x;unfold iZ;dsimp only;rw[hm];by_cases e':x=g
    . subst e';rw[bh,af];cases bJ x l with
      |true=>rfl
      |false=>
       cases hx:h.get x with
       |none=>rfl
       |some o=>cases o<;>first|rfl|exact absurd hx (hn _ _ _ _ _)
    . rw[ed e',aX]
theorem Rs{S:Nat->Bool}{h:Hp}{g:Nat}(hs:S g=false):iZ S h g=h g:=by unfold iZ;rw[hs]
theorem Qm{S:Nat->Bool}{h:Hp}{g:Nat}(hn:iZ S h g=none):h g=none:=by
 unfold iZ at hn;split at hn
 . split at hn
   . cases hn
   . exact hn
 . exact hn
theorem HS:∀{l m:List Int},vg l m=true->l=m
 | [],[],_=>rfl
 |a::l,b::m,h=>by
  simp only[vg,az,dL] at h;rw[h.1,HS h.2]
theorem G5:∀{l m:List (List (Int×Nat))},uS l m=true->l=m
 | [],[],_=>rfl
 |a::l,b::m,h=>by
  simp only[uS,az] at h;rw[BX h.1,G5 h.2]
theorem WV(n:Int)(d:Nat):∃a b c,ZZ.qv n d=.agg [a,b,c]:=⟨_,_,_,rfl⟩
theorem PM(J:Keep){args:List ES}{s s':Hs}{r:ES}(he:Dc args s=some (r,s')):LogOk s s'/\CallOk (XE J) 76 args s.h.get r s'.h.get:=by
 unfold Dc at he;split at he
 . rename_i g u cap y;split at he
   . rename_i e cs fz vs cnt pw p hg hp;split at he
     . rename_i q ls hq hls;cases hb:(Nat.beq e 28&&(Nat.ble 3 q&&(uS (ls.map Prod.fst) D8&&vg pw [2,0]))) with
       |false=>rw[hb] at he;cases he
       |true=>
        rw[hb,af] at he;simp only[ae,aA] at he;obtain⟨rfl,rfl⟩:=he;simp only[az] at hb;obtain⟨b1,b2,b3,b4⟩:=hb;have b1:=av b1;have b3:=G5 b3;have b4:=HS b4;subst b1;subst b4;obtain⟨S,hS⟩:∃S,S=fun x=>bJ x (g::p::ls.map Prod.snd):=⟨_,rfl⟩;have hget:=B8 (g::p::ls.map Prod.snd) s.h;rw[<-hS] at hget;have hmem:∀x,x∈g::p::ls.map Prod.snd->S x=true:=fun x hx=>by rw[hS];exact js.2 hx
        refine⟨⟨fun x hx=>?_,fun x hx=>Nz _ hx,fun x hx=>?_⟩,?_⟩
        . show(oU _ s.h).get x=_;rw[hget];refine Rs ?_;rw[hS];dsimp only;cases hm:bJ x (g::p::ls.map Prod.snd) with
          |false=>rfl
          |true=>exact absurd (NA _ (js.1 hm)) hx
        . have hx:(oU _ s.h).get x=none:=hx;rw[hget] at hx;exact Qm hx
        . show CallOk (XE J) 76 _ s.h.get _ (oU _ s.h).get;rw[hget];refine CallOk.ofData (X:=XE J) (fu:=2) (RX J) ?_ fun H U v hv=>hv;have r1:=Jm (Z:=ZZ) (h:=s.h.get) (S:=S) WV (T:=TT) (te:=oM) rfl rfl rfl (f:=0) hls fun x hx=>hmem _ (by simp;exact .inr (.inr ⟨x.1,by simpa using hx⟩));have r2:=Sk (Z:=ZZ) (h:=s.h.get) (S:=S) (T:=TT) (te:=Aa) rfl rfl rfl (f:=1) (g:=p) (l:=[2,0]) hp (hmem _ (by simp));have hl3:ls.length=3:=by
           have:=aJ List.length b3;rwa[bR] at this
          have e1:bZ TT ZZ S s.h.get 2 (.slc g u 0 3 cap)=some (vD 1 [[0,0],[1,0],[0,1]]):=by
           have t1:TT 28=some s5:=rfl;have t2:s5.size=1:=rfl;have t3:s5.sh.agg=false:=rfl;unfold bZ;simp only[hmem g (by simp),hg,hq,t1,t2,t3,aU,iK,b2,af,bL,r1.1];have e2:ls.map (fun p=>IV.sl (p.1.map fun c=>ZZ.qv c.1 c.2))=D8.map fun l=>IV.sl (l.map fun c=>ZZ.qv c.1 c.2):=by
            rw[<-b3,fb];rfl
           rw[e2];rfl
          have e1':bZ (XE J).T (XE J).Z S s.h.get 2 (.slc g u 0 3 cap)=some (vD 1 [[0,0],[1,0],[0,1]]):=e1;have r2':bZ (XE J).T (XE J).Z S s.h.get 2 y=some (.sl ([2,0].map fun n=>.int .i64 n)):=r2;simp only[cK,gE,qU,e1',r2'];rfl
     . cases he
   . cases he
 . cases he
theorem qa{J:Keep}(L:LibI J):iX (XE J) Eb:=by
 intro f args s r s' he;unfold Eb at he;cases hf:Nat.beq f 76 with
 |true=>
  rw[hf,af] at he;have:=av hf;subst this;exact PM J he
 |false=>
  rw[hf,aX] at he;exact S9 J L (X:=XE J) rfl rfl rfl f args s r s' he
end Go.Proofs.En
