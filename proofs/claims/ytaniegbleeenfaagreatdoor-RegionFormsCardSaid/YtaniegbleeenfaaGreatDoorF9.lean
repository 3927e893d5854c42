/-
  A part of the proof of regionForms_card.
-/
import Derived.Test.YtaniegbleeenfaaGreatDoorF8b
set_option maxHeartbeats 400000000
namespace Go.Proofs.En
open Go.RowKit Go.Proofs.Fl Go.Proofs.Dig
attribute [local irreducible] IntKind.wrap aY be bm bt SW SWr CallOk To
open Go.Proofs.Reg
def dL(vs:List (List Int))(i:Nat):List Int:=vs.map fun r=>r.getD i 0
def bK(vs:List (List Int))(pw:List Nat):Nat->List (List Int)
 |0=>[]
 |i+1=>List.replicate (pw.getD i 0) (dL vs i)++bK vs pw i
def dn(n:Nat):IV:=br n
noncomputable def eA(pw:List Nat):IV:=.sl (pw.map dn)
def zQ:List EV:=[.iv (.sl []),.iv (.bool false),.iv (.sl [])]
structure TbOk(M:Nat)(fs:List (List Int))(l:Tb):Prop where
 nd:(aZ l).Nodup
 tot:∀k∈aZ l,k.tot=fs.length
 lin:∀ φ,lin φ l=kR fs φ
 abs:fB l<=M^fs.length
noncomputable def vD(D:Nat)(vs:List (List Int)):IV:=.sl (vs.map fun r=>.sl (r.map fun z=>qr (mkRat z D)))
structure GA(M:Nat)(vs:List (List Int))(pw:List Nat) where
 i:Nat
 l:Tb
 hi:i<=pw.length
 ok:TbOk M (bK vs pw i) l
theorem Wx(M:Nat):TbOk M [] [(K5.zero,1)]:=⟨by simp[aZ],by simp[aZ,K5.zero,K5.tot],fun φ=>by simp[lin,kR],by simp[fB]⟩
structure GB(M:Nat)(col:List Int)(fs:List (List Int))(e:Nat) where
 j:Nat
 l:Tb
 hj:j<=e
 ok:TbOk M (List.replicate j col++fs) l
structure GC(M:Nat)(col:List Int)(fs:List (List Int))(l:Tb) where
 seen:List Nat
 m:Tb
 cur:Option Nat
 nd:(aZ m).Nodup
 tot:∀k∈aZ m,k.tot=fs.length+1
 lin:∀ φ,lin φ m+jw (fun k=>kO φ k col 0) (bI seen l 0)=kR (col::fs) φ
 abs:fB m+M*iP (bI seen l 0)<=M^(fs.length+1)
structure GD(M:Nat)(col:List Int)(fs:List (List Int))(l:Tb)(seen:List Nat)(k:K5)(z:Int) where
 p:Nat
 m:Tb
 hp:p<=col.length
 nd:(aZ m).Nodup
 tot:∀k∈aZ m,k.tot=fs.length+1
 lin:∀ φ,lin φ m+z*kO φ k (col.drop p) p+jw (fun k=>kO φ k col 0) (bI seen l 0)=kR (col::fs) φ
 abs:fB m+z.natAbs*bq (col.drop p)+M*iP (bI seen l 0)<=M^(fs.length+1)
theorem F5{M:Nat}{col:List Int}{fs:List (List Int)}{l:Tb}(ok:TbOk M fs l):(∀ φ,Reg.lin φ []+jw (fun k=>kO φ k col 0) (bI [] l 0)=kR (col::fs) φ)/\fB []+M*iP (bI [] l 0)<=M^(fs.length+1):=by
 refine⟨fun φ=>?_,?_⟩
 . rw[Gv,ok.lin];simp[Reg.lin,kR]
 . rw[FJ,bQ,cz];have:=bW M ok.abs;simp only[fB];omega
theorem V4{pw:List Nat}{i:Nat}(h:i<pw.length):(pw.map dn)[i]?=some (br (pw.getD i 0:Nat)):=by
 rw[dw,aV,aQ h];rfl
theorem FD{d:Nat}:∀{l:Tb} {i:Nat},∀e∈cr d l i,eB e.1=[]/\eB e.2.1=[]
 | [],_,e,h=>by cases h
 |p::l,i,e,h=>by
  rcases List.mem_cons.1 h with rfl|h
  . exact⟨rfl,rfl⟩
  . exact FD e h
theorem cV{d:Nat}{l:Tb}:ig (dE d l):=FD
theorem N4{vs:List (List Int)}{pw:List Nat}{i j:Nat}(h:i<=j):(bK vs pw i).length<=(bK vs pw j).length:=by
 induction h with
 |refl=>exact ak _
 |step _ ih=>rw[bK,ce];omega
theorem yG{α U:Type _}(f:α->U){l:List α}(d:α){i:Nat}(h:i<l.length):(l.map f)[i]?=some (f (l.getD i d)):=by
 rw[dw,aV,aQ h];rfl
theorem qb{M D T:Nat}(hM:1<=M)(hD:0<D)(hs:ln (M^(T+1))+ln (D^(T+1))<2^36){z:Int}{a b:Nat}(hz:z.natAbs<=M^a)(ha:a<=T+1)(hb:b<=T+1):az (mkRat z (D^b))<2^36:=by
 have h1:=wu (z:=z) (fH hD:0<D^b);have h2:=jJ (aP hz (cB hM ha));have h3:=jJ (cB hD hb);omega
theorem SN{a b:Int}{d n:Nat}:mkRat a (d^n)*mkRat b d=mkRat (a*b) (d^(n+1)):=by
 rw[zR,bQ]
theorem IW{a b:Int}{d:Nat}(hd:0<d):mkRat a d+mkRat b d=mkRat (a+b) d:=by
 rw[EA _ _ (by omega) (by omega),<-MS,ED (by omega)]
theorem GL:∀{l:List Int} {p:Nat},(l.getD p 0).natAbs<=bq l
 | [],_=>by simp
 |x::l,0=>by simp[bq]
 |x::l,p+1=>by
  have:=GL (l:=l) (p:=p);simp only[bq,vI];omega
theorem drop_getD{l:List Int}{p:Nat}(h:p<l.length):l.drop p=l.getD p 0::l.drop (p+1):=by
 rw[dY h,aV,aQ h];rfl
def yS(s:Rat):Rat:=⟨(s.num.natAbs:Int),s.den,s.den_nz,by simpa using s.reduced⟩
def iM(k:K5):Nat->Nat
 |0=>1
 |1=>a8 k.a
 |2=>a8 k.a*a8 k.b
 |3=>a8 k.a*a8 k.b*a8 k.c
 |4=>a8 k.a*a8 k.b*a8 k.c*a8 k.d
 |_=>a8 k.a*a8 k.b*a8 k.c*a8 k.d*a8 k.e
def sw(k:K5):Int:=(iM k 5:Nat)
theorem ua{a b:Nat}(h:a<=b):a8 a<=a8 b:=by
 induction h with
 |refl=>exact ak _
 |step _ ih=>exact aP ih (zy _ (Nat.succ_pos _))
theorem Jd{k:K5}{T:Nat}(h:k.tot<=T)(t:Nat):iM k t<=a8 T^5:=by
 unfold K5.tot at h;have ha:=ua (show k.a<=T by omega);have hb:=ua (show k.b<=T by omega);have hc:=ua (show k.c<=T by omega);have hd:=ua (show k.d<=T by omega);have he:=ua (show k.e<=T by omega);have hT:=xm T;generalize a8 T=F at *;have p1:a8 k.a<=F^1:=by rw[qT];exact ha
 have p2:a8 k.a*a8 k.b<=F^2:=ff p1 hb;have p3:a8 k.a*a8 k.b*a8 k.c<=F^3:=ff p2 hc;have p4:a8 k.a*a8 k.b*a8 k.c*a8 k.d<=F^4:=ff p3 hd;have p5:a8 k.a*a8 k.b*a8 k.c*a8 k.d*a8 k.e<=F^5:=ff p4 he;have up:∀n,n<=5->F^n<=F^5:=fun n hn=>cB hT hn;unfold iM;split
 . exact Nat.one_le_pow _ _ hT
 . exact aP p1 (up _ (by omega))
 . exact aP p2 (up _ (by omega))
 . exact aP p3 (up _ (by omega))
 . exact aP p4 (up _ (by omega))
 . exact p5
theorem DJ{M D T F:Nat}(hD:0<D)(hs:ln (M^(T+1)*F)+ln (D^(T+1))<2^36){z:Int}(hz:z.natAbs<=M^(T+1)*F){b:Nat}(hb:b<=T+1):az (mkRat z (D^b))<2^36:=by
 have h1:=wu (z:=z) (fH hD:0<D^b);have h2:=jJ hz;have h3:=jJ (cB hD hb);omega
theorem SM{a:Int}{d n:Nat}:mkRat a d*((n:Nat):Rat)=mkRat (a*(n:Int)) d:=by
 have:((n:Nat):Rat)=mkRat (n:Int) 1:=by rw[MN];rfl
 rw[this,zR,jc]
theorem GI{vs:List (List Int)}{pw:List Nat}:∀i,i<=pw.length->Fl.sumI ((pw.map fun n:Nat=>(n:Int)).take i)=((bK vs pw i).length:Int)
 |0,_=>by simp[bK,Fl.sumI]
 |i+1,h=>by
  have ih:=GI (vs:=vs) (pw:=pw) i (by omega);rw[Aw (by rw[cT];omega),ih,bK,ce,zB];have:(pw.map fun n:Nat=>(n:Int)).getD i 0=((pw.getD i 0:Nat):Int):=by
   rw[aV,yG (fun n:Nat=>(n:Int)) 0 (show i<pw.length by omega)];rfl
  rw[this];omega
structure GE(M:Nat)(fs:List (List Int))(l:Tb) where
 seen:List Nat
 s:Int
 cur:Option Nat
 lin:s+jw sw (bI seen l 0)=kR fs sw
 abs:∃a:Nat,a+iP (bI seen l 0)<=M^fs.length/\s.natAbs<=a*a8 fs.length^5
theorem WV{d:Nat}:mz d 0=.agg zQ:=by unfold mz qw;rw[Rat.zero_mkRat,rq];rfl
def sX(k:K5):Nat->Nat
 |0=>k.a
 |1=>k.b
 |2=>k.c
 |3=>k.d
 |_=>k.e
theorem PJ(k:K5){t:Nat}(h:t<5):iM k (t+1)=iM k t*a8 (sX k t):=by
 have:t=0\/t=1\/t=2\/t=3\/t=4:=by omega
 rcases this with rfl|rfl|rfl|rfl|rfl
 . exact(oM _).symm
 . rfl
 . rfl
 . rfl
 . rfl
theorem Ii:∀pw:List Nat,(bq (pw.map fun n:Nat=>(n:Int)):Int)=Fl.sumI (pw.map fun n:Nat=>(n:Int))
 | []=>rfl
 |x::l=>by
  have:=Ii l;simp only[aS,bq,Fl.sumI];omega
theorem uV:nZ 48=some (qw 0):=by
 have:qw 0=.agg zQ:=by unfold qw;rw[rq];rfl
 rw[this];rfl
theorem VX:iq K5.zero:=by unfold iq;decide
theorem R5(J:Keep){D M:Nat}{vs:List (List Int)}{pw:List Nat}{s:Rat}(c259:Go.Proofs.Fl.C J 157 [vD D vs] (qr s))(hs0:s≠0)(hs1:az s<2^30)(hpl:pw.length<100){T:Nat}(hT:(bK vs pw pw.length).length=T)(hT32:T<2^31)(hM:1<=M)(hD:0<D)(hsF:ln (M^(T+1)*a8 T^5)+ln (D^(T+1))<2^36)(hcol:∀i,i<pw.length->bq (dL vs i)<=M)(hrow:∀r∈vs,r.length=pw.length)(hvs:vs.length<=5) :
 Go.Proofs.Fl.C J 96 [vD D vs,eA pw] (qr (mkRat (kR (bK vs pw pw.length) sw) (D^T)*yS s/((a8 (pw.length+T):Nat):Rat))):=by
 refine pS Tryz.func96 rfl rfl rfl rfl rfl ?_;have cA:=Kl J s;obtain⟨q,hq⟩:∃q,yS s=q:=⟨_,rfl⟩;rw[hq];have hq0:q≠0:=by
  rw[<-hq];intro e;have:=congrArg Rat.num e;have h0:s.num.natAbs=0:=by simpa[yS] using this
  exact hs0 (Rat.num_eq_zero.1 (Int.natAbs_eq_zero.1 h0))
 have hq1:az q<2^30:=by rw[<-hq];exact hs1
 have cA:Go.Proofs.Fl.C J 158 [qr s] (qr q):=by rw[<-hq];exact cA
 have hs:ln (M^(T+1))+ln (D^(T+1))<2^36:=by
  have:=jJ (zy (M^(T+1)) (fH (n:=5) (xm T)));omega
 have c1:=n8 J q;have hn0:q.num≠0:=fun e=>hq0 (Rat.num_eq_zero.1 e);have hc:aL q.num 0≠0:=fun e=>hn0 (rA e);have c2:Go.Proofs.Fl.C J 154 [.int .i64 1] (qr (mkRat 1 (D^0))):=by
  have:=xc J (n:=1) (by omega) (by omega);rw[show mkRat 1 (D^0)=((1:Int):Rat) by rw[oX];rfl];exact this
 have lp:(((pw.map dn).length:Nat):Int)=(pw.length:Int):=by simp
 repeat (((first|refine SW.R (by kernel_rfl) ?_|refine SW.c rfl ?_|refine Or.inl ⟨_,_,c259,rfl,rfl,rfl,?_⟩|refine Or.inl ⟨_,_,cA,rfl,rfl,rfl,?_⟩|refine Or.inl ⟨_,_,c1,rfl,rfl,rfl,?_⟩|refine Or.inl ⟨_,_,c2,rfl,rfl,rfl,?_⟩|refine oK (rU (d:=D^0) (l:=[]) (k:=K5.zero) 1 rfl (by simp[aZ]) (by simp[aZ]) VX) ?_|refine b8 lp ?_|refine yF (by omega) ?_|refine bN rfl ?_|refine bi rfl ?_);conv=>whnf))
 refine rG (G:=GA M vs pw) (fun g=>ba [(0,ac (vD D vs)),(1,ac (eA pw)),(4,.w (.one (.ptr 0 0 0))),(5,.w (.one (.ptr 1 0 0))),(6,.w (.one (.mp 2))),(31,ac (eA pw)),(32,ac (br pw.length)),(33,ac (br g.i))]
  [(0,.mem 48 zQ false [(0,3)] 1),(1,.mem 48 ((qw q).cells ZZ) false [(0,3)] 1),(2,dE (D^(bK vs pw g.i).length) g.l)] 3) (fun g=>pw.length-g.i) ⟨0,[(K5.zero,1)],bb _,Wx M⟩
  (To.tab [] ⟨.same rfl rfl,.same rfl rfl,.rn rfl rfl,.rn rfl rfl,.rn rfl rfl,.same rfl rfl,.same rfl rfl,.same rfl rfl,ab⟩ ⟨.same rfl rfl,.same rfl rfl,.same rfl cV,ab⟩ rfl) ?_
 rintro⟨i,l,hi,ok⟩;show SW (XS J) 0 _ _ _ (ba [(0,ac (vD D vs)),(1,ac (eA pw)),(4,.w (.one (.ptr 0 0 0))),(5,.w (.one (.ptr 1 0 0))),(6,.w (.one (.mp 2))),(31,ac (eA pw)),(32,ac (br pw.length)),(33,ac (br i))]
  [(0,.mem 48 zQ false [(0,3)] 1),(1,.mem 48 ((qw q).cells ZZ) false [(0,3)] 1),(2,dE (D^(bK vs pw i).length) l)] 3) _
 by_cases h:i<pw.length
 . have gp:(pw.map dn)[i]?=some (br (pw.getD i 0:Nat)):=V4 h;obtain⟨e,he⟩:∃e,pw.getD i 0=e:=⟨_,rfl⟩;rw[he] at gp;have hfl:(bK vs pw (i+1)).length<=T:=by rw[<-hT];exact N4 (by omega)
   have hfe:(bK vs pw (i+1)).length=e+(bK vs pw i).length:=by rw[bK,ce,zB,he]
   have he32:e<2^32:=by omega
   repeat (((first|refine SW.R (by kernel_rfl) ?_|refine SW.c rfl ?_|refine cX rfl gp rfl ?_|refine yT (by omega) ?_);conv=>whnf))
   refine rG (G:=GB M (dL vs i) (bK vs pw i) e) (fun g=>ba [(0,ac (vD D vs)),(1,ac (eA pw)),(4,.w (.one (.ptr 0 0 0))),(5,.w (.one (.ptr 1 0 0))),(6,.w (.one (.mp 2))),(7,ac (br i)),(31,ac (eA pw)),(32,ac (br pw.length)),(33,ac (br i)),(38,ac (br e)),(39,ac (br g.j))]
    [(0,.mem 48 zQ false [(0,3)] 1),(1,.mem 48 ((qw q).cells ZZ) false [(0,3)] 1),(2,dE (D^(g.j+(bK vs pw i).length)) g.l)] 3) (fun g=>e-g.j) ⟨0,l,bb _,by simpa using ok⟩
    (To.tab [] ⟨.same rfl rfl,.same rfl rfl,.rn rfl rfl,.rn rfl rfl,.rn rfl rfl,.same rfl rfl,.same rfl rfl,.same rfl rfl,.same rfl rfl,.same rfl rfl,.same rfl rfl,ab⟩ ⟨.same rfl rfl,.same rfl rfl,.same (by simp only[aX];rfl) cV,ab⟩ rfl) ?_
   rintro⟨j,l,hj,ok⟩;show SW (XS J) 0 _ _ _ (ba [(0,ac (vD D vs)),(1,ac (eA pw)),(4,.w (.one (.ptr 0 0 0))),(5,.w (.one (.ptr 1 0 0))),(6,.w (.one (.mp 2))),(7,ac (br i)),(31,ac (eA pw)),(32,ac (br pw.length)),(33,ac (br i)),(38,ac (br e)),(39,ac (br j))]
    [(0,.mem 48 zQ false [(0,3)] 1),(1,.mem 48 ((qw q).cells ZZ) false [(0,3)] 1),(2,dE (D^(j+(bK vs pw i).length)) l)] 3) _
   by_cases h2:j<e
   . skip
     repeat (((first|refine SW.R (by kernel_rfl) ?_|refine SW.c rfl ?_|refine yT (by omega) ?_|refine Lt rfl ?_);conv=>whnf))
     refine rG (G:=GC M (dL vs i) (List.replicate j (dL vs i)++bK vs pw i) l) (fun g=>ba [(0,ac (vD D vs)),(1,ac (eA pw)),(4,.w (.one (.ptr 0 0 0))),(5,.w (.one (.ptr 1 0 0))),(6,.w (.one (.mp 2))),(7,ac (br i)),(9,.w (.one (.mp 3))),(31,ac (eA pw)),(32,ac (br pw.length)),(33,ac (br i)),(38,ac (br e)),(39,ac (br j)),(43,.w (.one (.ptr 4 0 0)))]
      [(0,.mem 48 zQ false [(0,3)] 1),(1,.mem 48 ((qw q).cells ZZ) false [(0,3)] 1),(2,dE (D^(j+(bK vs pw i).length)) l),(3,dE (D^(j+(bK vs pw i).length+1)) g.m),(4,.iter 2 l.length g.seen l.length g.cur)] 5) (fun g=>(bI g.seen l 0).length) ⟨[],[],none,by simp[aZ],by simp[aZ],(F5 (col:=dL vs i) ok).1,(F5 (col:=dL vs i) ok).2⟩
      (To.tab [] ⟨.same rfl rfl,.same rfl rfl,.rn rfl rfl,.rn rfl rfl,.rn rfl rfl,.same rfl rfl,.rn rfl rfl,.same rfl rfl,.same rfl rfl,.same rfl rfl,.same rfl rfl,.same rfl rfl,.rn rfl rfl,ab⟩ ⟨.same rfl rfl,.same rfl rfl,.same rfl cV,.same rfl cV,.rn rfl rfl rfl,ab⟩ rfl) ?_
     rintro⟨seen,m,cur,nd,tot,lin,abs⟩;show SW (XS J) 0 _ _ _ (ba [(0,ac (vD D vs)),(1,ac (eA pw)),(4,.w (.one (.ptr 0 0 0))),(5,.w (.one (.ptr 1 0 0))),(6,.w (.one (.mp 2))),(7,ac (br i)),(9,.w (.one (.mp 3))),(31,ac (eA pw)),(32,ac (br pw.length)),(33,ac (br i)),(38,ac (br e)),(39,ac (br j)),(43,.w (.one (.ptr 4 0 0)))]
      [(0,.mem 48 zQ false [(0,3)] 1),(1,.mem 48 ((qw q).cells ZZ) false [(0,3)] 1),(2,dE (D^(j+(bK vs pw i).length)) l),(3,dE (D^(j+(bK vs pw i).length+1)) m),(4,.iter 2 l.length seen l.length cur)] 5) _
     repeat ((refine SW.RS (by kernel_rfl) ?_;conv=>whnf))
     refine⟨2,l.length,seen,l.length,cur,cr (D^(j+(bK vs pw i).length)) l 0,l.length,rfl,rfl,FC,fun hl=>?_,fun en hen=>?_⟩
     . conv=>whnf
       rw[rD] at hl;have hl2:bI seen l 0=[]:=List.map_eq_nil_iff.1 hl;repeat (((first|refine SW.R (by kernel_rfl) ?_|refine SW.c rfl ?_|refine ap (by omega) ?_);conv=>whnf))
       have eD:j+(bK vs pw i).length+1=j+1+(bK vs pw i).length:=by omega
       exact⟨⟨j+1,m,by omega,nd,fun k hk=>by rw[tot k hk];simp;omega,fun φ=>by have:=lin φ;rw[hl2] at this;simpa[jw,qN] using this,by
        rw[hl2] at abs;simp only[iP,jf,eG] at abs;refine aP abs (iY ?_);congr 1⟩,
        To.tab [(2,3)] ⟨.same rfl rfl,.same rfl rfl,.rn rfl rfl,.rn rfl rfl,.rn rfl rfl,.same rfl rfl,.same rfl rfl,.same rfl rfl,.same rfl rfl,.same rfl rfl,.same rfl rfl,ab⟩ ⟨.same rfl rfl,.same rfl rfl,.same (congrArg (fun n=>some (dE (D^n) m)) eD) cV,ab⟩ rfl,by dsimp only;omega⟩
     . rw[rD] at hen;obtain⟨⟨k,z,b⟩,hb,rfl⟩:=List.mem_map.1 hen;have hlb:l[b]?=some (k,z):=by have:=(AI hb).2.2;simpa using this
       have hlv:(((vs.map fun r=>IV.sl (r.map fun z=>qr (mkRat z D))).length:Nat):Int)=(vs.length:Int):=by simp
       conv=>whnf
       repeat (((first|refine SW.R (by kernel_rfl) ?_|refine SW.c rfl ?_|refine kg (HT (e:=(k,z,b)) rfl rfl hlb) ?_|refine b8 hlv ?_|refine bN rfl ?_);conv=>whnf))
       refine rG (G:=GD M (dL vs i) (List.replicate j (dL vs i)++bK vs pw i) l (b::seen) k z) (fun g=>ba [(0,ac (vD D vs)),(1,ac (eA pw)),(4,.w (.one (.ptr 0 0 0))),(5,.w (.one (.ptr 1 0 0))),(6,.w (.one (.mp 2))),(7,ac (br i)),(9,.w (.one (.mp 3))),(10,.w (.one (.ptr 5 0 0))),(11,.w (.one (.ptr 6 0 0))),(31,ac (eA pw)),(32,ac (br pw.length)),(33,ac (br i)),(38,ac (br e)),(39,ac (br j)),(43,.w (.one (.ptr 4 0 0))),(49,ac (vD D vs)),(50,ac (br vs.length)),(51,ac (br g.p))]
        [(0,.mem 48 zQ false [(0,3)] 1),(1,.mem 48 ((qw q).cells ZZ) false [(0,3)] 1),(2,dE (D^(j+(bK vs pw i).length)) l),(3,dE (D^(j+(bK vs pw i).length+1)) g.m),(4,.iter 2 l.length (b::seen) l.length (some b)),(5,.mem 216 ((gE k).cells ZZ) false [(0,5)] 1),(6,.mem 48 ((mz (D^(j+(bK vs pw i).length)) z).cells ZZ) false [(0,3)] 1)] 7) (fun g=>vs.length-g.p) ⟨0,m,bb _,nd,tot,fun φ=>by
         have h1:=(nM hb).1 fun k=>kO φ k (dL vs i) 0;have h2:=lin φ;rw[h1] at h2;dsimp only at h2;rw[bJ];omega,by
         have h1:=(nM hb).2.1;have h2:=fG z.natAbs (hcol i h);have h3:M*(z.natAbs+iP (bI (b::seen) l 0))=z.natAbs*M+M*iP (bI (b::seen) l 0):=by rw[bR,cz M]
         rw[h1] at abs;dsimp only at abs;rw[h3] at abs;rw[bJ];omega⟩
        (To.tab [] ⟨.same rfl rfl,.same rfl rfl,.rn rfl rfl,.rn rfl rfl,.rn rfl rfl,.same rfl rfl,.rn rfl rfl,.rn rfl rfl,.rn rfl rfl,.same rfl rfl,.same rfl rfl,.same rfl rfl,.same rfl rfl,.same rfl rfl,.rn rfl rfl,.same rfl rfl,.same rfl rfl,.same rfl rfl,ab⟩ ⟨.same rfl rfl,.same rfl rfl,.same rfl cV,.same rfl cV,.rn rfl rfl rfl,.same rfl rfl,.same rfl rfl,ab⟩ rfl) ?_
       rintro⟨p,m,hp,nd,tot,lin,abs⟩;show SW (XS J) 0 _ _ _ (ba [(0,ac (vD D vs)),(1,ac (eA pw)),(4,.w (.one (.ptr 0 0 0))),(5,.w (.one (.ptr 1 0 0))),(6,.w (.one (.mp 2))),(7,ac (br i)),(9,.w (.one (.mp 3))),(10,.w (.one (.ptr 5 0 0))),(11,.w (.one (.ptr 6 0 0))),(31,ac (eA pw)),(32,ac (br pw.length)),(33,ac (br i)),(38,ac (br e)),(39,ac (br j)),(43,.w (.one (.ptr 4 0 0))),(49,ac (vD D vs)),(50,ac (br vs.length)),(51,ac (br p))]
        [(0,.mem 48 zQ false [(0,3)] 1),(1,.mem 48 ((qw q).cells ZZ) false [(0,3)] 1),(2,dE (D^(j+(bK vs pw i).length)) l),(3,dE (D^(j+(bK vs pw i).length+1)) m),(4,.iter 2 l.length (b::seen) l.length (some b)),(5,.mem 216 ((gE k).cells ZZ) false [(0,5)] 1),(6,.mem 48 ((mz (D^(j+(bK vs pw i).length)) z).cells ZZ) false [(0,3)] 1)] 7) _
       have hcl:(dL vs i).length=vs.length:=by simp[dL]
       by_cases h3:p<vs.length
       . obtain⟨J0,hJ0⟩:∃J0,j+(bK vs pw i).length=J0:=⟨_,rfl⟩;obtain⟨r,hr⟩:∃r,vs.getD p []=r:=⟨_,rfl⟩;obtain⟨x,hx⟩:∃x,r.getD i 0=x:=⟨_,rfl⟩;have hrm:r∈vs:=by rw[<-hr,aV,aQ h3];exact bV h3
         have hri:i<r.length:=by rw[hrow r hrm];exact h
         have hxc:(dL vs i).getD p 0=x:=by
          rw[<-hx,<-hr,dL,aV,yG (fun r:List Int=>r.getD i 0) [] h3];rfl
         have hlen:(List.replicate j (dL vs i)++bK vs pw i).length=J0:=by rw[<-hJ0];simp
         have hJT:J0+1<=T:=by omega
         have hkl:(k,z)∈l:=cd hlb;have hkt:k.tot=J0:=by rw[<-hlen];exact ok.tot k (zW hkl)
         have hza:z.natAbs<=M^J0:=by rw[<-hlen];exact aP (Bz hkl) ok.abs
         have hxa:x.natAbs<=M:=by rw[<-hxc];exact aP GL (hcol i h)
         have hga:=HE (k.inc p) m;rw[hlen] at tot abs;have gv:(vs.map fun r=>IV.sl (r.map fun z=>qr (mkRat z D)))[p]?=some (.sl (r.map fun z=>qr (mkRat z D))):=by rw[<-hr];exact yG (fun r:List Int=>IV.sl (r.map fun z=>qr (mkRat z D))) [] h3
         have gr:(r.map fun z=>qr (mkRat z D))[i]?=some (qr (mkRat x D)):=by rw[<-hx];exact yG (fun z:Int=>qr (mkRat z D)) 0 hri
         rw[hJ0];have cm:Go.Proofs.Fl.C J 35 [qr (mkRat z (D^J0)),qr (mkRat x D)] (qr (mkRat (z*x) (D^(J0+1)))):=by
          rw[<-SN];have q1:=qb hM hD hs (b:=J0) hza (by omega) (by omega);have q2:=qb hM hD hs (a:=1) (b:=1) (z:=x) (by rw[qT];exact hxa) (by omega) (by omega);rw[qT] at q2;exact mT (base J) (by omega) (by omega)
         have ca:Go.Proofs.Fl.C J 71 [qr (mkRat (ci m (k.inc p)) (D^(J0+1))),qr (mkRat (z*x) (D^(J0+1)))] (qr (mkRat (ci m (k.inc p)+z*x) (D^(J0+1)))):=by
          rw[<-IW (fH hD)];have q1:=qb hM hD hs (b:=J0+1) (z:=ci m (k.inc p)) (a:=J0+1) (by omega) (by omega) (by omega);have q2:=qb hM hD hs (a:=J0+1) (b:=J0+1) (z:=z*x) (by rw[fg,bQ];exact ff hza hxa) (by omega) (by omega);exact r5 (base J) (by omega) (by omega)
         have okm:∀y∈aZ m,iq y:=fun y hy=>by unfold iq;rw[tot y hy];omega
         have okk:iq (k.inc p):=by unfold iq;rw[F6];omega
         have hka:k.a<2^62/\k.b<2^62/\k.c<2^62/\k.d<2^62/\k.e<2^62:=by unfold K5.tot at hkt;omega
         have nd2:=Pv (k.inc p) (ci m (k.inc p)+z*x) nd;have tot2:∀y∈aZ (cF m (k.inc p) (ci m (k.inc p)+z*x)),y.tot=(List.replicate j (dL vs i)++bK vs pw i).length+1:=fun y hy=>by
          rw[hlen];rcases SP hy with hy|rfl
          . exact tot y hy
          . rw[F6,hkt]
         have edr:(dL vs i).drop p=x::(dL vs i).drop (p+1):=by rw[drop_getD (by omega),hxc]
         have lin2:∀ φ,Reg.lin φ (cF m (k.inc p) (ci m (k.inc p)+z*x))+z*kO φ k ((dL vs i).drop (p+1)) (p+1)+jw (fun k=>kO φ k (dL vs i) 0) (bI (b::seen) l 0)=kR (dL vs i::(List.replicate j (dL vs i)++bK vs pw i)) φ:=fun φ=>by
          rw[<-lin φ,I0,edr,kO,vN,Mx];omega
         have abs2:fB (cF m (k.inc p) (ci m (k.inc p)+z*x))+z.natAbs*bq ((dL vs i).drop (p+1))+M*iP (bI (b::seen) l 0)<=M^((List.replicate j (dL vs i)++bK vs pw i).length+1):=by
          have h1:=Ih (k.inc p) (z*x) m;rw[edr,bq,bR] at abs;rw[fg] at h1;rw[hlen];omega
         have hp5:p=0\/p=1\/p=2\/p=3\/p=4:=by omega
         rcases hp5 with rfl|rfl|rfl|rfl|rfl
         . repeat (((first|refine SW.R (by kernel_rfl) ?_|refine SW.c rfl ?_|refine cX rfl gv rfl ?_|refine cX rfl gr rfl ?_|refine iN (j:=0) rfl (by omega) rfl ?_|refine Or.inl ⟨_,_,cm,rfl,rfl,rfl,?_⟩|refine Or.inl ⟨_,_,ca,rfl,rfl,rfl,?_⟩|refine kg (uf (d:=D^(J0+1)) (l:=m) (k:=k.inc 0) uV rfl okm nd okk) ?_|refine oK (rU (d:=D^(J0+1)) (l:=m) (k:=k.inc 0) (ci m (k.inc 0)+z*x) rfl okm nd okk) ?_|refine ap (by omega) ?_|refine yT (by omega) ?_|refine bN rfl ?_|refine bi rfl ?_);conv=>whnf))
           exact⟨⟨0+1,cF m (k.inc 0) (ci m (k.inc 0)+z*x),by omega,nd2,tot2,lin2,abs2⟩,To.tab [] ⟨.same rfl rfl,.same rfl rfl,.rn rfl rfl,.rn rfl rfl,.rn rfl rfl,.same rfl rfl,.rn rfl rfl,.rn rfl rfl,.rn rfl rfl,.same rfl rfl,.same rfl rfl,.same rfl rfl,.same rfl rfl,.same rfl rfl,.rn rfl rfl,.same rfl rfl,.same rfl rfl,.same rfl rfl,ab⟩ ⟨.same rfl rfl,.same rfl rfl,.same rfl cV,.same rfl cV,.rn rfl rfl rfl,.same rfl rfl,.same rfl rfl,ab⟩ rfl,by dsimp only;omega⟩
         . repeat (((first|refine SW.R (by kernel_rfl) ?_|refine SW.c rfl ?_|refine cX rfl gv rfl ?_|refine cX rfl gr rfl ?_|refine iN (j:=1) rfl (by omega) rfl ?_|refine Or.inl ⟨_,_,cm,rfl,rfl,rfl,?_⟩|refine Or.inl ⟨_,_,ca,rfl,rfl,rfl,?_⟩|refine kg (uf (d:=D^(J0+1)) (l:=m) (k:=k.inc 1) uV rfl okm nd okk) ?_|refine oK (rU (d:=D^(J0+1)) (l:=m) (k:=k.inc 1) (ci m (k.inc 1)+z*x) rfl okm nd okk) ?_|refine ap (by omega) ?_|refine yT (by omega) ?_|refine bN rfl ?_|refine bi rfl ?_);conv=>whnf))
           exact⟨⟨1+1,cF m (k.inc 1) (ci m (k.inc 1)+z*x),by omega,nd2,tot2,lin2,abs2⟩,To.tab [] ⟨.same rfl rfl,.same rfl rfl,.rn rfl rfl,.rn rfl rfl,.rn rfl rfl,.same rfl rfl,.rn rfl rfl,.rn rfl rfl,.rn rfl rfl,.same rfl rfl,.same rfl rfl,.same rfl rfl,.same rfl rfl,.same rfl rfl,.rn rfl rfl,.same rfl rfl,.same rfl rfl,.same rfl rfl,ab⟩ ⟨.same rfl rfl,.same rfl rfl,.same rfl cV,.same rfl cV,.rn rfl rfl rfl,.same rfl rfl,.same rfl rfl,ab⟩ rfl,by dsimp only;omega⟩
         . repeat (((first|refine SW.R (by kernel_rfl) ?_|refine SW.c rfl ?_|refine cX rfl gv rfl ?_|refine cX rfl gr rfl ?_|refine iN (j:=2) rfl (by omega) rfl ?_|refine Or.inl ⟨_,_,cm,rfl,rfl,rfl,?_⟩|refine Or.inl ⟨_,_,ca,rfl,rfl,rfl,?_⟩|refine kg (uf (d:=D^(J0+1)) (l:=m) (k:=k.inc 2) uV rfl okm nd okk) ?_|refine oK (rU (d:=D^(J0+1)) (l:=m) (k:=k.inc 2) (ci m (k.inc 2)+z*x) rfl okm nd okk) ?_|refine ap (by omega) ?_|refine yT (by omega) ?_|refine bN rfl ?_|refine bi rfl ?_);conv=>whnf))
           exact⟨⟨2+1,cF m (k.inc 2) (ci m (k.inc 2)+z*x),by omega,nd2,tot2,lin2,abs2⟩,To.tab [] ⟨.same rfl rfl,.same rfl rfl,.rn rfl rfl,.rn rfl rfl,.rn rfl rfl,.same rfl rfl,.rn rfl rfl,.rn rfl rfl,.rn rfl rfl,.same rfl rfl,.same rfl rfl,.same rfl rfl,.same rfl rfl,.same rfl rfl,.rn rfl rfl,.same rfl rfl,.same rfl rfl,.same rfl rfl,ab⟩ ⟨.same rfl rfl,.same rfl rfl,.same rfl cV,.same rfl cV,.rn rfl rfl rfl,.same rfl rfl,.same rfl rfl,ab⟩ rfl,by dsimp only;omega⟩
         . repeat (((first|refine SW.R (by kernel_rfl) ?_|refine SW.c rfl ?_|refine cX rfl gv rfl ?_|refine cX rfl gr rfl ?_|refine iN (j:=3) rfl (by omega) rfl ?_|refine Or.inl ⟨_,_,cm,rfl,rfl,rfl,?_⟩|refine Or.inl ⟨_,_,ca,rfl,rfl,rfl,?_⟩|refine kg (uf (d:=D^(J0+1)) (l:=m) (k:=k.inc 3) uV rfl okm nd okk) ?_|refine oK (rU (d:=D^(J0+1)) (l:=m) (k:=k.inc 3) (ci m (k.inc 3)+z*x) rfl okm nd okk) ?_|refine ap (by omega) ?_|refine yT (by omega) ?_|refine bN rfl ?_|refine bi rfl ?_);conv=>whnf))
           exact⟨⟨3+1,cF m (k.inc 3) (ci m (k.inc 3)+z*x),by omega,nd2,tot2,lin2,abs2⟩,To.tab [] ⟨.same rfl rfl,.same rfl rfl,.rn rfl rfl,.rn rfl rfl,.rn rfl rfl,.same rfl rfl,.rn rfl rfl,.rn rfl rfl,.rn rfl rfl,.same rfl rfl,.same rfl rfl,.same rfl rfl,.same rfl rfl,.same rfl rfl,.rn rfl rfl,.same rfl rfl,.same rfl rfl,.same rfl rfl,ab⟩ ⟨.same rfl rfl,.same rfl rfl,.same rfl cV,.same rfl cV,.rn rfl rfl rfl,.same rfl rfl,.same rfl rfl,ab⟩ rfl,by dsimp only;omega⟩
         . repeat (((first|refine SW.R (by kernel_rfl) ?_|refine SW.c rfl ?_|refine cX rfl gv rfl ?_|refine cX rfl gr rfl ?_|refine iN (j:=4) rfl (by omega) rfl ?_|refine Or.inl ⟨_,_,cm,rfl,rfl,rfl,?_⟩|refine Or.inl ⟨_,_,ca,rfl,rfl,rfl,?_⟩|refine kg (uf (d:=D^(J0+1)) (l:=m) (k:=k.inc 4) uV rfl okm nd okk) ?_|refine oK (rU (d:=D^(J0+1)) (l:=m) (k:=k.inc 4) (ci m (k.inc 4)+z*x) rfl okm nd okk) ?_|refine ap (by omega) ?_|refine yT (by omega) ?_|refine bN rfl ?_|refine bi rfl ?_);conv=>whnf))
           exact⟨⟨4+1,cF m (k.inc 4) (ci m (k.inc 4)+z*x),by omega,nd2,tot2,lin2,abs2⟩,To.tab [] ⟨.same rfl rfl,.same rfl rfl,.rn rfl rfl,.rn rfl rfl,.rn rfl rfl,.same rfl rfl,.rn rfl rfl,.rn rfl rfl,.rn rfl rfl,.same rfl rfl,.same rfl rfl,.same rfl rfl,.same rfl rfl,.same rfl rfl,.rn rfl rfl,.same rfl rfl,.same rfl rfl,.same rfl rfl,ab⟩ ⟨.same rfl rfl,.same rfl rfl,.same rfl cV,.same rfl cV,.rn rfl rfl rfl,.same rfl rfl,.same rfl rfl,ab⟩ rfl,by dsimp only;omega⟩
       . have ep:p=vs.length:=by omega
         subst ep;have edr:(dL vs i).drop vs.length=[]:=by rw[List.drop_eq_nil_iff,hcl];exact ak _
         repeat (((first|refine SW.R (by kernel_rfl) ?_|refine SW.c rfl ?_|refine yF (by omega) ?_);conv=>whnf))
         exact⟨⟨b::seen,m,some b,nd,tot,fun φ=>by have:=lin φ;rw[edr,kO] at this;omega,by rw[edr,bq] at abs;omega⟩,To.tab [] ⟨.same rfl rfl,.same rfl rfl,.rn rfl rfl,.rn rfl rfl,.rn rfl rfl,.same rfl rfl,.rn rfl rfl,.same rfl rfl,.same rfl rfl,.same rfl rfl,.same rfl rfl,.same rfl rfl,.rn rfl rfl,ab⟩ ⟨.same rfl rfl,.same rfl rfl,.same rfl cV,.same rfl cV,.rn rfl rfl rfl,ab⟩ rfl,by have:=(nM hb).2.2;dsimp only at this ⊢;omega⟩
   . have e2:j=e:=by omega
     subst e2;repeat (((first|refine SW.R (by kernel_rfl) ?_|refine SW.c rfl ?_|refine ap (by omega) ?_|refine yF (by omega) ?_);conv=>whnf))
     exact⟨⟨i+1,l,by omega,by rw[bK,he];exact ok⟩,To.tab [] ⟨.same rfl rfl,.same rfl rfl,.rn rfl rfl,.rn rfl rfl,.rn rfl rfl,.same rfl rfl,.same rfl rfl,.same rfl rfl,ab⟩ ⟨.same rfl rfl,.same rfl rfl,.same (congrArg (fun n=>some (dE (D^n) l)) hfe.symm) cV,ab⟩ rfl,by dsimp only;omega⟩
 . have ei:i=pw.length:=by omega
   subst ei;rw[hT];repeat (((first|refine SW.R (by kernel_rfl) ?_|refine SW.c rfl ?_|refine yF (by omega) ?_|refine Lt rfl ?_);conv=>whnf))
   refine rG (G:=GE M (bK vs pw pw.length) l) (fun g=>ba [(0,ac (vD D vs)),(1,ac (eA pw)),(4,.w (.one (.ptr 0 0 0))),(5,.w (.one (.ptr 1 0 0))),(15,.w (.one (.ptr 3 0 0))),(79,.w (.one (.ptr 4 0 0)))]
    [(0,.mem 48 zQ false [(0,3)] 1),(1,.mem 48 ((qw q).cells ZZ) false [(0,3)] 1),(2,dE (D^T) l),(3,.mem 48 ((mz (D^T) g.s).cells ZZ) false [(0,3)] 1),(4,.iter 2 l.length g.seen l.length g.cur)] 5) (fun g=>(bI g.seen l 0).length) ⟨[],0,none,by rw[Gv,Int.zero_add];exact ok.lin _,⟨0,by rw[FJ,aX];exact ok.abs,by simp⟩⟩
    (To.tab [] ⟨.same rfl rfl,.same rfl rfl,.rn rfl rfl,.rn rfl rfl,.rn rfl rfl,.rn rfl rfl,ab⟩ ⟨.same rfl rfl,.same rfl rfl,.same rfl cV,.same (congrArg (fun y:EW=>some (EO.mem 48 (y.cells ZZ) false [(0,3)] 1)) WV.symm) rfl,.rn rfl rfl rfl,ab⟩ rfl) ?_
   rintro⟨seen,S,cur,lin,hab⟩;show SW (XS J) 0 _ _ _ (ba [(0,ac (vD D vs)),(1,ac (eA pw)),(4,.w (.one (.ptr 0 0 0))),(5,.w (.one (.ptr 1 0 0))),(15,.w (.one (.ptr 3 0 0))),(79,.w (.one (.ptr 4 0 0)))]
    [(0,.mem 48 zQ false [(0,3)] 1),(1,.mem 48 ((qw q).cells ZZ) false [(0,3)] 1),(2,dE (D^T) l),(3,.mem 48 ((mz (D^T) S).cells ZZ) false [(0,3)] 1),(4,.iter 2 l.length seen l.length cur)] 5) _
   obtain⟨a0,hab1,hab2⟩:=hab;rw[hT] at hab1 hab2;have hS:S.natAbs<=M^(T+1)*a8 T^5:=aP hab2 (bW _ (aP (by omega) (cB hM (tu T))));have qS:=DJ hD hsF hS (b:=T) (by omega);repeat ((refine SW.RS (by kernel_rfl) ?_;conv=>whnf))
   refine⟨2,l.length,seen,l.length,cur,cr (D^T) l 0,l.length,rfl,rfl,FC,fun hl=>?_,fun en hen=>?_⟩
   . rw[rD] at hl;have hl2:bI seen l 0=[]:=List.map_eq_nil_iff.1 hl;rw[hl2,jw,Int.add_zero] at lin;rw[<-lin];have cs1:=mT (base J) (a:=mkRat S (D^T)) (b:=q) (by omega) (by omega);have cs2:Go.Proofs.Fl.C J 66 [eA pw] (.int .i64 (T:Int)):=by
      have e1:=GI (vs:=vs) (pw:=pw) pw.length (ak _);rw[aH (by simp),hT] at e1;have e2:=Ii pw;have c:=ue J (l:=pw.map fun n:Nat=>(n:Int)) (by rw[cT];omega) (by omega);rw[e1,jF] at c;exact c
     have cs3:=IF J (n:=pw.length+T) (by omega);have hqf:=xf (m:=pw.length+T) (by omega) _ (ak _);have hqm:=xd (mkRat S (D^T)) q;have cs4:=IG (base J) (a:=mkRat S (D^T)*q) (b:=((a8 (pw.length+T):Nat):Rat)) (by omega) (by omega) (fun e=>by
      have:=xm (pw.length+T);have e':((a8 (pw.length+T):Nat):Rat)=((0:Nat):Rat):=e;rw[Rat.natCast_inj] at e';omega)
     rw[Mw] at cs3;conv=>whnf
     repeat (((first|refine SW.R (by kernel_rfl) ?_|refine SW.c rfl ?_|refine Or.inl ⟨_,_,cs1,rfl,rfl,rfl,?_⟩|refine Or.inl ⟨_,_,cs2,rfl,rfl,rfl,?_⟩|refine Or.inl ⟨_,_,cs3,rfl,rfl,rfl,?_⟩|refine Or.inl ⟨_,_,cs4,rfl,rfl,rfl,?_⟩|refine b8 lp ?_|refine ap (by omega) ?_|refine bN rfl ?_|refine bi rfl ?_);conv=>whnf))
     rfl
   . rw[rD] at hen;obtain⟨⟨k,z,b⟩,hb,rfl⟩:=List.mem_map.1 hen;have hlb:l[b]?=some (k,z):=by have:=(AI hb).2.2;simpa using this
     have hkl:(k,z)∈l:=cd hlb;have hkt:k.tot=T:=by rw[<-hT];exact ok.tot k (zW hkl)
     have hk4:k.a<2^32/\k.b<2^32/\k.c<2^32/\k.d<2^32/\k.e<2^32:=by unfold K5.tot at hkt;omega
     have hza:z.natAbs<=M^T:=by rw[<-hT];exact aP (Bz hkl) ok.abs
     have hzf:∀t,(z*(iM k t:Nat)).natAbs<=M^(T+1)*a8 T^5:=fun t=>by
      rw[fg,ef];exact ff (aP hza (cB hM (tu T))) (Jd (iY hkt) t)
     conv=>whnf
     repeat (((first|refine SW.R (by kernel_rfl) ?_|refine SW.c rfl ?_|refine kg (HT (e:=(k,z,b)) rfl rfl hlb) ?_|refine bN rfl ?_|refine bi rfl ?_);conv=>whnf))
     refine rG (G:={ t:Nat // t<=5 }) (fun t=>ba [(0,ac (vD D vs)),(1,ac (eA pw)),(4,.w (.one (.ptr 0 0 0))),(5,.w (.one (.ptr 1 0 0))),(15,.w (.one (.ptr 3 0 0))),(79,.w (.one (.ptr 4 0 0))),(17,.w (.one (.ptr 5 0 0))),(85,.w (gE k)),(86,ac (br t.1))]
      [(0,.mem 48 zQ false [(0,3)] 1),(1,.mem 48 ((qw q).cells ZZ) false [(0,3)] 1),(2,dE (D^T) l),(3,.mem 48 ((mz (D^T) S).cells ZZ) false [(0,3)] 1),(4,.iter 2 l.length (b::seen) l.length (some b)),(5,.mem 48 ((mz (D^T) (z*(iM k t.1:Nat))).cells ZZ) false [(0,3)] 1)] 6) (fun t=>5-t.1) ⟨0,by omega⟩
      (To.tab [(5,6)] ⟨.same rfl rfl,.same rfl rfl,.rn rfl rfl,.rn rfl rfl,.rn rfl rfl,.rn rfl rfl,.rn rfl rfl,.same rfl rfl,.same rfl rfl,ab⟩ ⟨.same rfl rfl,.same rfl rfl,.same rfl cV,.same rfl rfl,.rn rfl rfl rfl,.same (congrArg (fun y:Int=>some (EO.mem 48 ((mz (D^T) y).cells ZZ) false [(0,3)] 1)) (by simp[iM])) rfl,ab⟩ rfl) ?_
     rintro⟨t,ht⟩;show SW (XS J) 0 _ _ _ (ba [(0,ac (vD D vs)),(1,ac (eA pw)),(4,.w (.one (.ptr 0 0 0))),(5,.w (.one (.ptr 1 0 0))),(15,.w (.one (.ptr 3 0 0))),(79,.w (.one (.ptr 4 0 0))),(17,.w (.one (.ptr 5 0 0))),(85,.w (gE k)),(86,ac (br t))]
      [(0,.mem 48 zQ false [(0,3)] 1),(1,.mem 48 ((qw q).cells ZZ) false [(0,3)] 1),(2,dE (D^T) l),(3,.mem 48 ((mz (D^T) S).cells ZZ) false [(0,3)] 1),(4,.iter 2 l.length (b::seen) l.length (some b)),(5,.mem 48 ((mz (D^T) (z*(iM k t:Nat))).cells ZZ) false [(0,3)] 1)] 6) _
     by_cases h5:t<5
     . have hkk:sX k t<2^32:=by unfold sX;split<;>omega
       have cf:=IF J (n:=sX k t) hkk;have qf:=xf (m:=sX k t) hkk _ (ak _);have qz:=DJ hD hsF (hzf t) (b:=T) (by omega);have cm:=mT (base J) (a:=mkRat (z*(iM k t:Nat)) (D^T)) (b:=((a8 (sX k t):Nat):Rat)) (by omega) (by omega);rw[SM,Mx,<-iZ,<-PJ k h5] at cm;have hp5:t=0\/t=1\/t=2\/t=3\/t=4:=by omega
       rcases hp5 with rfl|rfl|rfl|rfl|rfl
       . repeat (((first|refine SW.R (by kernel_rfl) ?_|refine SW.c rfl ?_|refine Or.inl ⟨_,_,cf,rfl,rfl,rfl,?_⟩|refine Or.inl ⟨_,_,cm,rfl,rfl,rfl,?_⟩|refine ap (by omega) ?_|refine yT (by omega) ?_|refine bN rfl ?_|refine bi rfl ?_|refine uX rfl (by omega) rfl ?_);conv=>whnf))
         exact⟨⟨0+1,by omega⟩,To.tab [] ⟨.same rfl rfl,.same rfl rfl,.rn rfl rfl,.rn rfl rfl,.rn rfl rfl,.rn rfl rfl,.rn rfl rfl,.same rfl rfl,.same rfl rfl,ab⟩ ⟨.same rfl rfl,.same rfl rfl,.same rfl cV,.same rfl rfl,.rn rfl rfl rfl,.same rfl rfl,ab⟩ rfl,by dsimp only;omega⟩
       . repeat (((first|refine SW.R (by kernel_rfl) ?_|refine SW.c rfl ?_|refine Or.inl ⟨_,_,cf,rfl,rfl,rfl,?_⟩|refine Or.inl ⟨_,_,cm,rfl,rfl,rfl,?_⟩|refine ap (by omega) ?_|refine yT (by omega) ?_|refine bN rfl ?_|refine bi rfl ?_|refine uX rfl (by omega) rfl ?_);conv=>whnf))
         exact⟨⟨1+1,by omega⟩,To.tab [] ⟨.same rfl rfl,.same rfl rfl,.rn rfl rfl,.rn rfl rfl,.rn rfl rfl,.rn rfl rfl,.rn rfl rfl,.same rfl rfl,.same rfl rfl,ab⟩ ⟨.same rfl rfl,.same rfl rfl,.same rfl cV,.same rfl rfl,.rn rfl rfl rfl,.same rfl rfl,ab⟩ rfl,by dsimp only;omega⟩
       . repeat (((first|refine SW.R (by kernel_rfl) ?_|refine SW.c rfl ?_|refine Or.inl ⟨_,_,cf,rfl,rfl,rfl,?_⟩|refine Or.inl ⟨_,_,cm,rfl,rfl,rfl,?_⟩|refine ap (by omega) ?_|refine yT (by omega) ?_|refine bN rfl ?_|refine bi rfl ?_|refine uX rfl (by omega) rfl ?_);conv=>whnf))
         exact⟨⟨2+1,by omega⟩,To.tab [] ⟨.same rfl rfl,.same rfl rfl,.rn rfl rfl,.rn rfl rfl,.rn rfl rfl,.rn rfl rfl,.rn rfl rfl,.same rfl rfl,.same rfl rfl,ab⟩ ⟨.same rfl rfl,.same rfl rfl,.same rfl cV,.same rfl rfl,.rn rfl rfl rfl,.same rfl rfl,ab⟩ rfl,by dsimp only;omega⟩
       . repeat (((first|refine SW.R (by kernel_rfl) ?_|refine SW.c rfl ?_|refine Or.inl ⟨_,_,cf,rfl,rfl,rfl,?_⟩|refine Or.inl ⟨_,_,cm,rfl,rfl,rfl,?_⟩|refine ap (by omega) ?_|refine yT (by omega) ?_|refine bN rfl ?_|refine bi rfl ?_|refine uX rfl (by omega) rfl ?_);conv=>whnf))
         exact⟨⟨3+1,by omega⟩,To.tab [] ⟨.same rfl rfl,.same rfl rfl,.rn rfl rfl,.rn rfl rfl,.rn rfl rfl,.rn rfl rfl,.rn rfl rfl,.same rfl rfl,.same rfl rfl,ab⟩ ⟨.same rfl rfl,.same rfl rfl,.same rfl cV,.same rfl rfl,.rn rfl rfl rfl,.same rfl rfl,ab⟩ rfl,by dsimp only;omega⟩
       . repeat (((first|refine SW.R (by kernel_rfl) ?_|refine SW.c rfl ?_|refine Or.inl ⟨_,_,cf,rfl,rfl,rfl,?_⟩|refine Or.inl ⟨_,_,cm,rfl,rfl,rfl,?_⟩|refine ap (by omega) ?_|refine yT (by omega) ?_|refine bN rfl ?_|refine bi rfl ?_|refine uX rfl (by omega) rfl ?_);conv=>whnf))
         exact⟨⟨4+1,by omega⟩,To.tab [] ⟨.same rfl rfl,.same rfl rfl,.rn rfl rfl,.rn rfl rfl,.rn rfl rfl,.rn rfl rfl,.rn rfl rfl,.same rfl rfl,.same rfl rfl,ab⟩ ⟨.same rfl rfl,.same rfl rfl,.same rfl cV,.same rfl rfl,.rn rfl rfl rfl,.same rfl rfl,ab⟩ rfl,by dsimp only;omega⟩
     . have e5:t=5:=by omega
       subst e5;have qz:=DJ hD hsF (hzf 5) (b:=T) (by omega);have ca:=r5 (base J) (a:=mkRat S (D^T)) (b:=mkRat (z*(iM k 5:Nat)) (D^T)) (by omega) (by omega);rw[IW (fH hD)] at ca;repeat (((first|refine SW.R (by kernel_rfl) ?_|refine SW.c rfl ?_|refine Or.inl ⟨_,_,ca,rfl,rfl,rfl,?_⟩|refine yF (by omega) ?_|refine bN rfl ?_|refine bi rfl ?_);conv=>whnf))
       exact⟨⟨b::seen,S+z*(iM k 5:Nat),some b,by
        have:=(nM hb).1 sw;rw[this] at lin;dsimp only at lin;unfold sw at lin ⊢;omega,⟨a0+z.natAbs,by
        have:=(nM hb).2.1;rw[hT];dsimp only at this;omega,by
        rw[hT,bP];have h1:=Jd (iY hkt) 5;have h2:=fG z.natAbs h1;have h3:(z*(iM k 5:Nat)).natAbs=z.natAbs*iM k 5:=by rw[fg,ef]
        omega⟩⟩,To.tab [] ⟨.same rfl rfl,.same rfl rfl,.rn rfl rfl,.rn rfl rfl,.rn rfl rfl,.rn rfl rfl,ab⟩ ⟨.same rfl rfl,.same rfl rfl,.same rfl cV,.same rfl rfl,.rn rfl rfl rfl,ab⟩ rfl,by have:=(nM hb).2.2;dsimp only at this ⊢;omega⟩
set_option maxRecDepth 1000000 in
theorem Qa(J:Keep){p00 p01 p10 p11 p20 p21 x0 x1 x2 x3:Rat}(b00:az p00<2^20)(b01:az p01<2^20)(b10:az p10<2^20)(b11:az p11<2^20)(b20:az p20<2^20)(b21:az p21<2^20)(h0:x0=p10-p00)(h1:x1=p11-p01)(h2:x2=p20-p00)(h3:x3=p21-p01)(z0_0:x0≠0):C J 157 [.sl [.sl [qr p00,qr p01],.sl [qr p10,qr p11],.sl [qr p20,qr p21]]] (qr (d2 x0 x1 x2 x3)):=by
 obtain⟨D,hD⟩:∃D,D=d2 x0 x1 x2 x3:=⟨_,rfl⟩;rw[<-hD];have S0:D=mkRat 1 1*d2 x0 x1 x2 x3:=by rw[show mkRat 1 1=1 by rfl,MX,hD]
 have q0:az x0<4194304:=sI b10 b00 h0 (aB rfl);have q1:az x1<4194304:=sI b11 b01 h1 (aB rfl);have q2:az x2<4194304:=sI b20 b00 h2 (aB rfl);have q3:az x3<4194304:=sI b21 b01 h3 (aB rfl);obtain⟨x4,h4⟩:∃x,x=mkRat 1 1*x0:=⟨_,rfl⟩;have q4:az x4<4194307:=yQ uY q0 h4 (aB rfl);obtain⟨x5,h5⟩:∃x,x=x2/x0:=⟨_,rfl⟩;have q5:az x5<8388608:=Wa q2 q0 h5 (aB rfl);obtain⟨x6,h6⟩:∃x,x=x5*x0:=⟨_,rfl⟩;have q6:az x6<12582912:=yQ q5 q0 h6 (aB rfl);obtain⟨x7,h7⟩:∃x,x=x2-x6:=⟨_,rfl⟩;have q7:az x7<33554432:=sI q2 q6 h7 (aB rfl);obtain⟨x8,h8⟩:∃x,x=x5*x1:=⟨_,rfl⟩;have q8:az x8<12582912:=yQ q5 q1 h8 (aB rfl);obtain⟨x9,h9⟩:∃x,x=x3-x8:=⟨_,rfl⟩;have q9:az x9<33554432:=sI q3 q8 h9 (aB rfl);have S1:=W3 S0 z0_0 h4 h5 (h9.trans (by rw[h8]));by_cases z1_1:x9=0
 rotate_left
 ·
  obtain⟨x10,h10⟩:∃x,x=x4*x9:=⟨_,rfl⟩;have q10:az x10<37748739:=yQ q4 q9 h10 (aB rfl);have S2:=W4 S1 h10;rw[S2];exact Ld J (l:=[x0,x1,x2,x3,x4,x5,x6,x7,x8,x9,x10]) (iy b00 (by decide)) (iy b01 (by decide)) (iy b10 (by decide)) (iy b11 (by decide)) (iy b20 (by decide)) (iy b21 (by decide)) h0 h1 h2 h3 (T:=[⟨35,[(1,1),(0,0)],.inl (4,0)⟩,⟨155,[(2,0),(0,0)],.inl (5,0)⟩,⟨35,[(5,0),(0,0)],.inl (6,0)⟩,⟨156,[(2,0),(6,0)],.inl (7,0)⟩,⟨35,[(5,0),(1,0)],.inl (8,0)⟩,⟨156,[(3,0),(8,0)],.inl (9,0)⟩,⟨35,[(4,0),(9,0)],.inl (10,0)⟩]) (N:=[((0,0),true),((9,0),true)]) (AllF.ok ⟨qq h4 (dG uY (aB rfl)) (dG q0 (aB rfl)),Ls h5 z0_0 (dG q2 (aB rfl)) (dG q0 (aB rfl)),qq h6 (dG q5 (aB rfl)) (dG q0 (aB rfl)),yH h7 (dG q2 (aB rfl)) (dG q6 (aB rfl)),qq h8 (dG q5 (aB rfl)) (dG q1 (aB rfl)),yH h9 (dG q3 (aB rfl)) (dG q8 (aB rfl)),qq h10 (dG q4 (aB rfl)) (dG q9 (aB rfl)),ab⟩) (AllN.ok ⟨DP z0_0,DP z1_1,ab⟩) (v:=x10) (VolIs.of (c:=(10,0)) (by kernel_rfl) rfl)
 have Z:=S1;rw[z1_1] at Z;have Z0:=Wf Z;rw[Z0];exact Ld J (l:=[x0,x1,x2,x3,x4,x5,x6,x7,x8,x9]) (iy b00 (by decide)) (iy b01 (by decide)) (iy b10 (by decide)) (iy b11 (by decide)) (iy b20 (by decide)) (iy b21 (by decide)) h0 h1 h2 h3 (T:=[⟨35,[(1,1),(0,0)],.inl (4,0)⟩,⟨155,[(2,0),(0,0)],.inl (5,0)⟩,⟨35,[(5,0),(0,0)],.inl (6,0)⟩,⟨156,[(2,0),(6,0)],.inl (7,0)⟩,⟨35,[(5,0),(1,0)],.inl (8,0)⟩,⟨156,[(3,0),(8,0)],.inl (9,0)⟩]) (N:=[((0,0),true),((9,0),false)]) (AllF.ok ⟨qq h4 (dG uY (aB rfl)) (dG q0 (aB rfl)),Ls h5 z0_0 (dG q2 (aB rfl)) (dG q0 (aB rfl)),qq h6 (dG q5 (aB rfl)) (dG q0 (aB rfl)),yH h7 (dG q2 (aB rfl)) (dG q6 (aB rfl)),qq h8 (dG q5 (aB rfl)) (dG q1 (aB rfl)),yH h9 (dG q3 (aB rfl)) (dG q8 (aB rfl)),ab⟩) (AllN.ok ⟨DP z0_0,WT z1_1,ab⟩) (v:=0) (P3 (by kernel_rfl))
theorem qz:az (mkRat 0 1)<2^20:=by
 have:=G0;rw[show mkRat 0 1=0 by rfl];omega
theorem qo:az (mkRat 1 1)<2^20:=by have:=uY;omega
theorem VV(J:Keep):C J 157 [vD 1 [[0,0],[1,0],[0,1]]] (qr 1):=by
 have:=Qa J (p00:=mkRat 0 1) (p01:=mkRat 0 1) (p10:=mkRat 1 1) (p11:=mkRat 0 1) (p20:=mkRat 0 1) (p21:=mkRat 1 1) (x0:=1) (x1:=0) (x2:=0) (x3:=1) qz qz qo qz qz qo (by kernel_rfl) (by kernel_rfl) (by kernel_rfl) (by kernel_rfl) (by decide);rw[show d2 1 0 0 1=1 by kernel_rfl] at this;exact this
theorem Rs(J:Keep):C J 96 [vD 1 [[0,0],[1,0],[0,1]],eA [2,0]] (qr (mkRat 1 12)):=by
 have h:=R5 J (D:=1) (M:=1) (vs:=[[0,0],[1,0],[0,1]]) (pw:=[2,0]) (s:=1) (VV J) (by decide) (by have:=uY;rw[show mkRat 1 1=1 by rfl] at this;omega) (by decide) (T:=2) rfl (by decide) (by decide) (by decide) ?_ ?_ ?_ (by decide)
 . rw[show(mkRat (kR (bK [[0,0],[1,0],[0,1]] [2,0] [2,0].length) sw) (1^2)*yS 1/((a8 ([2,0].length+2):Nat):Rat))=mkRat 1 12 by kernel_rfl] at h;exact h
 . have:ln (1^(2+1)*a8 2^5)<=4:=xO (by decide);have h2:ln (1^(2+1))<=4:=xO (by decide);omega
 . decide
 . decide
end Go.Proofs.En
namespace Go.Proofs.En
open Go.RowKit Go.Proofs.Fl Go.Proofs.Dig
attribute [local irreducible] IntKind.wrap aY be bm bt SW SWr CallOk To
def dc:Code->Code
 | .seq _ y=>y
 |c=>c
def qI:Code->Code
 | .seq x _=>x
 |c=>c
theorem Bf:∀(l:List Nat) (h:PT EO),(ou l h).get=jW (fun g=>bL g l) h.get
 | [],h=>by funext x;rfl
 |g::l,h=>by
  have hm:∀x,bL x (g::l)=(bif Nat.beq x g then true else bL x l):=fun x=>rfl;unfold ou;split
  . rename_i e cs fz vs cnt hg;rw[Bf l];funext x;unfold jW;dsimp only;rw[mK,hm];by_cases e':x=g
    . subst e';rw[ar rfl,bj,ai,hg];cases bL x l<;>rfl
    . rw[al e',eO e',aW]
  . rename_i hn;rw[Bf l];funext x;unfold jW;dsimp only;rw[hm];by_cases e':x=g
    . subst e';rw[bj,ai];cases bL x l with
      |true=>rfl
      |false=>
       cases hx:h.get x with
       |none=>rfl
       |some o=>cases o<;>first|rfl|exact absurd hx (hn _ _ _ _ _)
    . rw[eO e',aW]
theorem QQ{S:Nat->Bool}{h:Hp}{g:Nat}(hs:S g=false):jW S h g=h g:=by unfold jW;rw[hs]
theorem PF{S:Nat->Bool}{h:Hp}{g:Nat}(hn:jW S h g=none):h g=none:=by
 unfold jW at hn;split at hn
 . split at hn
   . cases hn
   . exact hn
 . exact hn
theorem GX:∀{l m:List Int},uE l m=true->l=m
 | [],[],_=>rfl
 |a::l,b::m,h=>by
  simp only[uE,aC,d9] at h;rw[h.1,GX h.2]
theorem Ge:∀{l m:List (List (Int×Nat))},uk l m=true->l=m
 | [],[],_=>rfl
 |a::l,b::m,h=>by
  simp only[uk,aC] at h;rw[A2 h.1,Ge h.2]
theorem We(n:Int)(d:Nat):∃a b c,ZZ.qv n d=.agg [a,b,c]:=⟨_,_,_,rfl⟩
theorem O3(J:Keep){args:List ES}{s s':Hs}{r:ES}(he:Cp args s=some (r,s')):LogOk s s'/\CallOk (XE J) 96 args s.h.get r s'.h.get:=by
 unfold Cp at he;split at he
 . rename_i g u cap y;split at he
   . rename_i e cs fz vs cnt pw p hg hp;split at he
     . rename_i q ls hq hls;cases hb:(Nat.beq e 33&&(Nat.ble 3 q&&(uk (ls.map Prod.fst) Dj&&uE pw [2,0]))) with
       |false=>rw[hb] at he;cases he
       |true=>
        rw[hb,ai] at he;simp only[ae,aA] at he;obtain⟨rfl,rfl⟩:=he;simp only[aC] at hb;obtain⟨b1,b2,b3,b4⟩:=hb;have b1:=aw b1;have b3:=Ge b3;have b4:=GX b4;subst b1;subst b4;obtain⟨S,hS⟩:∃S,S=fun x=>bL x (g::p::ls.map Prod.snd):=⟨_,rfl⟩;have hget:=Bf (g::p::ls.map Prod.snd) s.h;rw[<-hS] at hget;have hmem:∀x,x∈g::p::ls.map Prod.snd->S x=true:=fun x hx=>by rw[hS];exact ji.2 hx
        refine⟨⟨fun x hx=>?_,fun x hx=>MF _ hx,fun x hx=>?_⟩,?_⟩
        . show(ou _ s.h).get x=_;rw[hget];refine QQ ?_;rw[hS];dsimp only;cases hm:bL x (g::p::ls.map Prod.snd) with
          |false=>rfl
          |true=>exact absurd (MG _ (ji.1 hm)) hx
        . have hx:(ou _ s.h).get x=none:=hx;rw[hget] at hx;exact PF hx
        . show CallOk (XE J) 96 _ s.h.get _ (ou _ s.h).get;rw[hget];refine CallOk.ofData (X:=XE J) (fu:=2) (Rs J) ?_ fun H U v hv=>hv;have r1:=Iz (Z:=ZZ) (h:=s.h.get) (S:=S) We (T:=TT) (te:=Di) rfl rfl rfl (f:=0) hls fun x hx=>hmem _ (by simp;exact .inr (.inr ⟨x.1,by simpa using hx⟩));have r2:=RL (Z:=ZZ) (h:=s.h.get) (S:=S) (T:=TT) (te:=u7) rfl rfl rfl (f:=1) (g:=p) (l:=[2,0]) hp (hmem _ (by simp));have hl3:ls.length=3:=by
           have:=congrArg List.length b3;rwa[cT] at this
          have e1:cj TT ZZ S s.h.get 2 (.slc g u 0 3 cap)=some (vD 1 [[0,0],[1,0],[0,1]]):=by
           have t1:TT 33=some yz:=rfl;have t2:yz.size=1:=rfl;have t3:yz.sh.agg=false:=rfl;unfold cj;simp only[hmem g (by simp),hg,hq,t1,t2,t3,aX,jc,b2,ai,bJ,r1.1];have e2:ls.map (fun p=>IV.sl (p.1.map fun c=>ZZ.qv c.1 c.2))=Dj.map fun l=>IV.sl (l.map fun c=>ZZ.qv c.1 c.2):=by
            rw[<-b3,jF];rfl
           rw[e2];rfl
          have e1':cj (XE J).T (XE J).Z S s.h.get 2 (.slc g u 0 3 cap)=some (vD 1 [[0,0],[1,0],[0,1]]):=e1;have r2':cj (XE J).T (XE J).Z S s.h.get 2 y=some (.sl ([2,0].map fun n=>.int .i64 n)):=r2;simp only[du,iO,qt,e1',r2'];rfl
     . cases he
   . cases he
 . cases he
theorem pF{J:Keep}(L:LibI J):iH (XE J) Do:=by
 intro f args s r s' he;unfold Do at he;cases hf:Nat.beq f 96 with
 |true=>
  rw[hf,ai] at he;have:=aw hf;subst this;exact O3 J he
 |false=>
  rw[hf,aW] at he;exact Sm J L (X:=XE J) rfl rfl rfl f args s r s' he
end Go.Proofs.En
