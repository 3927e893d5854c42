/-
  A part of the proof of regionForms_card.
-/
import Derived.Test.YtaniegbleeenfaaGreatDoorF6
set_option maxHeartbeats 4000000
namespace Go.Proofs
open Go
abbrev MY:=@List.any_append
end Go.Proofs
namespace Go.Proofs.Fl
open Go.RowKit Go.Proofs.Dig
attribute [local irreducible] IntKind.wrap aY be bm bt
def Num3.tame(x:Num3):Bool:=!(decide (x.p%4≠0)||decide (x.n>9999)||decide (x.n < -9999)||decide (x.d>9999)||decide (x.d < -9999))
theorem Cy(J:Keep){l:List Num3}(hl:l.length<2^30):C J 5 [.sl (l.map Num3.iv)] (.bool (l.all Num3.tame)):=by
 refine aI Tryz.func5 rfl rfl rfl ?_;have la:(l.map Num3.iv).length=l.length:=by simp
 repeat (((first|refine W.R (by kernel_rfl) ?_|refine W.c rfl ?_);conv=>whnf))
 refine W.loop (G:={ k:Nat // k<=l.length/\(l.take k).all Num3.tame=true }) (fun k=>am [(0,.iv (.sl (l.map Num3.iv))),(3,.iv (.int .i64 (k.1:Int)))] [] 10) (fun k=>l.length-k.1) ⟨0,bb _,by simp⟩ (Wk.tab [] ⟨aa,aa,ab⟩ trivial rfl) ?_;rintro⟨k,hk,hall⟩;show W J _ _ (am [(0,.iv (.sl (l.map Num3.iv))),(3,.iv (.int .i64 (k:Int)))] [] 10) _;by_cases hke:k<l.length
 . have g:(l.map Num3.iv)[k]?=some (Num3.iv l[k]):=by simp[hke]
   have tk:=JS hke;have hbad:l[k].tame=false->l.all Num3.tame=false:=fun h=>by
    rw[List.all_eq_false];exact⟨l[k],bV hke,by simp[h]⟩
   obtain⟨⟨n,d,p⟩,hx⟩:∃x,l[k]=x:=⟨_,rfl⟩;rw[hx] at g tk hbad;have g:(l.map Num3.iv)[k]?=some (nc n d p):=g;have hmod:((p:Nat):Int).tmod 4=((p%4:Nat):Int):=kK p 4;have hw:IntKind.wrap .u8 ((p%4:Nat):Int)=((p%4:Nat):Int):=LD (by omega);obtain⟨m,hm⟩:∃m,p%4=m:=⟨_,rfl⟩;have et:Num3.tame ⟨n,d,p⟩ = !(decide (m≠0)||decide (n>9999)||decide (n < -9999)||decide (d>9999)||decide (d < -9999)):=by unfold Num3.tame;rw[<-hm]
   rw[hm] at hmod hw;have key:m≠0\/(m=0/\n>9999)\/(m=0/\n < -9999)\/(m=0/\n<=9999/\ -9999<=n/\d>9999)\/(m=0/\n<=9999/\ -9999<=n/\d < -9999)\/(m=0/\n<=9999/\ -9999<=n/\d<=9999/\ -9999<=d):=by omega
   rcases key with h1|⟨h1,h2⟩|⟨h1,h2⟩|⟨h1,h2,h3,h4⟩|⟨h1,h2,h3,h4⟩|⟨h1,h2,h3,h4,h5⟩
   . rw[hbad (by rw[et];simp;omega)];repeat (((first|refine W.R (by kernel_rfl) ?_|refine W.c rfl ?_|refine⟨by omega,_,hmod,?_⟩|refine⟨k,_,rfl,g,rfl,?_⟩|refine xT (by omega) ?_|refine⟨true,bne_iff_ne.2 (by omega),?_⟩|refine⟨_,rfl,?_⟩|refine xr ?_|refine xB ?_);conv=>whnf))
     rfl
   . rw[hbad (by rw[et];simp;omega)];repeat (((first|refine W.R (by kernel_rfl) ?_|refine W.c rfl ?_|refine⟨by omega,_,hmod,?_⟩|refine⟨k,_,rfl,g,rfl,?_⟩|refine xT (by omega) ?_|refine⟨false,bne_eq_false_iff_eq.2 (by omega),?_⟩|refine⟨_,rfl,?_⟩|refine xr ?_|refine xA ?_|refine xB ?_);conv=>whnf))
     rfl
   . rw[hbad (by rw[et];simp;omega)];repeat (((first|refine W.R (by kernel_rfl) ?_|refine W.c rfl ?_|refine⟨by omega,_,hmod,?_⟩|refine⟨k,_,rfl,g,rfl,?_⟩|refine xT (by omega) ?_|refine xF (by omega) ?_|refine⟨false,bne_eq_false_iff_eq.2 (by omega),?_⟩|refine⟨_,rfl,?_⟩|refine xr ?_|refine xA ?_|refine xB ?_);conv=>whnf))
     rfl
   . rw[hbad (by rw[et];simp;omega)];repeat (((first|refine W.R (by kernel_rfl) ?_|refine W.c rfl ?_|refine⟨by omega,_,hmod,?_⟩|refine⟨k,_,rfl,g,rfl,?_⟩|refine xT (by omega) ?_|refine xF (by omega) ?_|refine⟨false,bne_eq_false_iff_eq.2 (by omega),?_⟩|refine⟨_,rfl,?_⟩|refine xr ?_|refine xA ?_|refine xB ?_);conv=>whnf))
     rfl
   . rw[hbad (by rw[et];simp;omega)];repeat (((first|refine W.R (by kernel_rfl) ?_|refine W.c rfl ?_|refine⟨by omega,_,hmod,?_⟩|refine⟨k,_,rfl,g,rfl,?_⟩|refine xT (by omega) ?_|refine xF (by omega) ?_|refine⟨false,bne_eq_false_iff_eq.2 (by omega),?_⟩|refine⟨_,rfl,?_⟩|refine xr ?_|refine xA ?_);conv=>whnf))
     rfl
   . repeat (((first|refine W.R (by kernel_rfl) ?_|refine W.c rfl ?_|refine⟨by omega,_,hmod,?_⟩|refine⟨k,_,rfl,g,rfl,?_⟩|refine ap (by omega) ?_|refine xT (by omega) ?_|refine xF (by omega) ?_|refine⟨false,bne_eq_false_iff_eq.2 (by omega),?_⟩|refine⟨_,rfl,?_⟩|refine xr ?_|refine xA ?_);conv=>whnf))
     exact⟨⟨k+1,hke,by rw[tk,List.all_append,hall,ed,et];simp;omega⟩,Wk.tab [] ⟨aa,aa,ab⟩ trivial rfl,by dsimp only;omega⟩
 . have e:k=l.length:=by omega
   subst e;rw[cU] at hall;rw[hall];repeat (((first|refine W.R (by kernel_rfl) ?_|refine W.c rfl ?_|refine xF (by omega) ?_|refine⟨_,rfl,?_⟩|refine xr ?_);conv=>whnf))
   rfl
abbrev eQ:=List Int×Num3
def cQ(t:eQ):IV:=.agg [.sl (t.1.map di),.int .i64 t.2.n,.int .i64 t.2.d,.int .u8 t.2.p]
def kh(k:Int):Int:=if 30<(if 0>k then 0 else k) then 30 else(if 0>k then 0 else k)
def fD:List Int->Int
 | []=>0
 |k::l=>kh k+fD l
theorem Qm(l:List Int)(k:Int):fD (l ++ [k])=fD l+kh k:=by
 induction l with
 |nil=>simp[fD]
 |cons x l ih=>simp only[g8,fD,ih];omega
theorem KY(k:Int):0<=kh k/\kh k<=30:=by unfold kh;split<;>split<;>omega
theorem C6:∀l:List Int,0<=fD l/\fD l<=30*l.length
 | []=>by simp[fD]
 |k::l=>by have:=C6 l;have:=KY k;simp only[fD,bf];omega
def gW(k:Int):Bool:=decide (8<k)&&decide (k<=24)
def qu(t:eQ):Bool:=decide (8<t.1.length) || !t.2.tame||t.1.any gW||gW (fD t.1)
def io(l:List eQ):Bool:=decide (l.length<=520) && !(l.any qu)&&(decide (l.length<=6)||decide (500<l.length))
theorem QW{l:List eQ}{i:Nat}(h:i<l.length)(hb:qu l[i]=true):io l=false:=by
 have:l.any qu=true:=List.any_eq_true.2 ⟨l[i],bV h,hb⟩;unfold io;rw[this];simp
theorem J1(J:Keep){l:List eQ}(hl:l.length<2^63)(hp:∀t∈l,t.1.length<2^63):C J 4 [.sl (l.map cQ)] (.bool (io l)):=by
 refine aI Tryz.func4 rfl rfl rfl ?_;have la:(l.map cQ).length=l.length:=by simp
 by_cases h520:520<l.length
 . rw[show io l=false by unfold io;rw[bz (by omega)];rfl];repeat (((first|refine W.R (by kernel_rfl) ?_|refine W.c rfl ?_|refine xT (by omega) ?_|refine⟨_,rfl,?_⟩|refine xr ?_);conv=>whnf))
   rfl
 repeat (((first|refine W.R (by kernel_rfl) ?_|refine W.c rfl ?_|refine xF (by omega) ?_|refine⟨_,rfl,?_⟩|refine xr ?_);conv=>whnf))
 refine W.loop (G:={ k:Nat // k<=l.length/\(l.take k).any qu=false }) (fun k=>am [(0,.iv (.sl (l.map cQ))),(3,.iv (.int .i64 (k.1:Int)))] [] 20) (fun k=>l.length-k.1) ⟨0,bb _,by simp⟩ (Wk.tab [] ⟨aa,aa,ab⟩ trivial rfl) ?_;rintro⟨i,hi,hall⟩;show W J _ _ (am [(0,.iv (.sl (l.map cQ))),(3,.iv (.int .i64 (i:Int)))] [] 20) _;by_cases hie:i<l.length
 . have g:(l.map cQ)[i]?=some (cQ l[i]):=by simp[hie]
   have tk:l.take (i+1)=l.take i ++ [l[i]]:=je hie;have hbad:=QW hie;have hpl:=hp l[i] (bV hie);obtain⟨⟨p,n,d,q⟩,hx⟩:∃x,l[i]=x:=⟨_,rfl⟩;rw[hx] at g tk hbad hpl;have g:(l.map cQ)[i]?=some (.agg [.sl (p.map di),.int .i64 n,.int .i64 d,.int .u8 q]):=g;have lp:(p.map di).length=p.length:=by simp
   have c1:=Cy J (l:=[⟨n,d,q⟩]) (by show 1<2^30;decide);have c1:C J 5 [.sl [nc n d q]] (.bool (Num3.tame ⟨n,d,q⟩&&true)):=c1;have et:qu (p,⟨n,d,q⟩)=(decide (8<p.length) || !(Num3.tame ⟨n,d,q⟩)||p.any gW||gW (fD p)):=rfl;by_cases h8:8<p.length
   . rw[hbad (by rw[et,bu h8];rfl)];repeat (((first|refine W.R (by kernel_rfl) ?_|refine W.c rfl ?_|refine⟨i,_,rfl,g,rfl,?_⟩|refine xT (by omega) ?_|refine⟨_,rfl,?_⟩|refine xr ?_|refine xB ?_);conv=>whnf))
     rfl
   cases ht:Num3.tame ⟨n,d,q⟩ with
   |false=>
    rw[ht] at c1;rw[hbad (by rw[et,ht];simp)];repeat (((first|refine W.R (by kernel_rfl) ?_|refine W.c rfl ?_|refine⟨i,_,rfl,g,rfl,?_⟩|refine⟨_,c1,?_⟩|refine xT (by omega) ?_|refine xF (by omega) ?_|refine⟨_,rfl,?_⟩|refine xr ?_|refine xA ?_);conv=>whnf))
    rfl
   |true=>
    rw[ht] at c1 et;repeat (((first|refine W.R (by kernel_rfl) ?_|refine W.c rfl ?_|refine⟨i,_,rfl,g,rfl,?_⟩|refine⟨_,c1,?_⟩|refine xT (by omega) ?_|refine xF (by omega) ?_|refine⟨_,rfl,?_⟩|refine xr ?_|refine xA ?_);conv=>whnf))
    have hp8:p.length<=8:=by omega
    refine W.loop (G:={ k:Nat // k<=p.length/\(p.take k).any gW=false }) (fun k=>am [(0,.iv (.sl (l.map cQ))),(3,.iv (.int .i64 (i:Int))),(4,.iv (.int .i64 (fD (p.take k.1)))),(5,.iv (.int .i64 (k.1:Int)))] [] 40) (fun k=>p.length-k.1) ⟨0,bb _,by simp⟩ (Wk.tab [] ⟨aa,aa,aa,aa,ab⟩ trivial rfl) ?_;rintro⟨k,hk,hmid⟩;have hk:k<=p.length:=hk;show W J _ _ (am [(0,.iv (.sl (l.map cQ))),(3,.iv (.int .i64 (i:Int))),(4,.iv (.int .i64 (fD (p.take k)))),(5,.iv (.int .i64 (k:Int)))] [] 40) _;by_cases hke:k<p.length
    . have gk:=fY hke;have pk:p.take (k+1)=p.take k ++ [p.getD k 0]:=by
       rw[je hke,aV,aQ hke];rfl
      have hm:gW (p.getD k 0)=true->p.any gW=true:=fun h=>List.any_eq_true.2 ⟨p.getD k 0,by rw[aV,aQ hke];exact bV hke,h⟩;obtain⟨y,hy⟩:∃y,p.getD k 0=y:=⟨_,rfl⟩;rw[hy] at gk pk hm;have sb:=C6 (p.take k);have sl:(p.take k).length<=8:=by simp;omega
      have sn:=Qm (p.take k) y;have cb:=KY y;obtain⟨s,hs⟩:∃s,fD (p.take k)=s:=⟨_,rfl⟩;rw[hs] at sb sn;rw[hs];have m1:(if(30:Int)<(if(0:Int)>y then 0 else y) then 30 else(if(0:Int)>y then 0 else y))=kh y:=rfl;obtain⟨m,hmx⟩:∃m,(if(0:Int)>y then 0 else y)=m:=⟨_,rfl⟩;rw[hmx] at m1;have hw:IntKind.i64.wrap (s+kh y)=s+kh y:=b7 (by omega);by_cases hq:8<y/\y<=24
      . rw[hbad (by rw[et,hm (by unfold gW;simp;omega)];simp)];repeat (((first|refine W.R (by kernel_rfl) ?_|refine W.c rfl ?_|refine⟨i,_,rfl,g,rfl,?_⟩|refine⟨k,_,rfl,gk,rfl,?_⟩|refine xT (by omega) ?_|refine⟨_,rfl,?_⟩|refine xr ?_|refine xB ?_);conv=>whnf))
        rfl
      . have hmd:gW y=false:=by unfold gW;simp;omega
        have fin:∀{Y:AS},Wk Y (am [(0,.iv (.sl (l.map cQ))),(3,.iv (.int .i64 (i:Int))),(4,.iv (.int .i64 (s+kh y))),(5,.iv (.int .i64 ((k+1:Nat):Int)))] [] 40)->Wk Y (am [(0,.iv (.sl (l.map cQ))),(3,.iv (.int .i64 (i:Int))),(4,.iv (.int .i64 (fD (p.take (k+1))))),(5,.iv (.int .i64 ((k+1:Nat):Int)))] [] 40):=fun h=>by rw[pk,sn];exact h
        have fa:(p.take (k+1)).any gW=false:=by rw[pk,MY,hmid,zp,hmd];rfl
        by_cases h8':8<y
        . have h24:¬y<=24:=by omega
          repeat (((first|refine W.R (by kernel_rfl) ?_|refine W.c rfl ?_|refine⟨i,_,rfl,g,rfl,?_⟩|refine⟨k,_,rfl,gk,rfl,?_⟩|refine⟨_,hmx,?_⟩|refine⟨_,m1,?_⟩|refine ap (by omega) ?_|refine xT (by omega) ?_|refine xF (by omega) ?_|refine⟨_,rfl,?_⟩|refine xr ?_|refine xB ?_);conv=>whnf))
          exact⟨⟨k+1,hke,fa⟩,fin (Wk.tab [] ⟨aa,aa,aa,aa,ab⟩ trivial rfl),by dsimp only;omega⟩
        . repeat (((first|refine W.R (by kernel_rfl) ?_|refine W.c rfl ?_|refine⟨i,_,rfl,g,rfl,?_⟩|refine⟨k,_,rfl,gk,rfl,?_⟩|refine⟨_,hmx,?_⟩|refine⟨_,m1,?_⟩|refine ap (by omega) ?_|refine xT (by omega) ?_|refine xF (by omega) ?_|refine⟨_,rfl,?_⟩|refine xr ?_|refine xA ?_);conv=>whnf))
          exact⟨⟨k+1,hke,fa⟩,fin (Wk.tab [] ⟨aa,aa,aa,aa,ab⟩ trivial rfl),by dsimp only;omega⟩
    . have ek:k=p.length:=by omega
      subst ek;have hmid':=hmid;rw[cU] at hmid';rw[hmid'] at et;have sb:=C6 p;obtain⟨s,hs⟩:∃s,fD p=s:=⟨_,rfl⟩;rw[hs] at sb et;have es:fD (p.take p.length)=s:=by rw[cU,hs]
      rw[es];by_cases hq:8<s/\s<=24
      . rw[hbad (by rw[et];unfold gW;simp;omega)];repeat (((first|refine W.R (by kernel_rfl) ?_|refine W.c rfl ?_|refine⟨i,_,rfl,g,rfl,?_⟩|refine xT (by omega) ?_|refine xF (by omega) ?_|refine⟨_,rfl,?_⟩|refine xr ?_|refine xB ?_);conv=>whnf))
        rfl
      . have hmd:gW s=false:=by unfold gW;simp;omega
        have fa:(l.take (i+1)).any qu=false:=by rw[tk,MY,hall,zp,et,hmd,bz h8];rfl
        by_cases h8':8<s
        . have h24:¬s<=24:=by omega
          repeat (((first|refine W.R (by kernel_rfl) ?_|refine W.c rfl ?_|refine⟨i,_,rfl,g,rfl,?_⟩|refine ap (by omega) ?_|refine xT (by omega) ?_|refine xF (by omega) ?_|refine⟨_,rfl,?_⟩|refine xr ?_|refine xB ?_);conv=>whnf))
          exact⟨⟨i+1,hie,fa⟩,Wk.tab [] ⟨aa,aa,ab⟩ trivial rfl,by dsimp only;omega⟩
        . repeat (((first|refine W.R (by kernel_rfl) ?_|refine W.c rfl ?_|refine⟨i,_,rfl,g,rfl,?_⟩|refine ap (by omega) ?_|refine xF (by omega) ?_|refine⟨_,rfl,?_⟩|refine xr ?_|refine xA ?_);conv=>whnf))
          exact⟨⟨i+1,hie,fa⟩,Wk.tab [] ⟨aa,aa,ab⟩ trivial rfl,by dsimp only;omega⟩
 . have e:i=l.length:=by omega
   subst e;rw[cU] at hall;unfold io;rw[hall,bu (show l.length<=520 by omega)];by_cases h6:l.length<=6
   . rw[bu h6];repeat (((first|refine W.R (by kernel_rfl) ?_|refine W.c rfl ?_|refine xT (by omega) ?_|refine xF (by omega) ?_|refine⟨_,rfl,?_⟩|refine xr ?_|refine xB ?_);conv=>whnf))
     rfl
   . rw[bz h6];by_cases h5:500<l.length
     . rw[bu h5];repeat (((first|refine W.R (by kernel_rfl) ?_|refine W.c rfl ?_|refine xT (by omega) ?_|refine xF (by omega) ?_|refine⟨_,rfl,?_⟩|refine xr ?_|refine xA ?_);conv=>whnf))
       rfl
     . rw[bz h5];repeat (((first|refine W.R (by kernel_rfl) ?_|refine W.c rfl ?_|refine xF (by omega) ?_|refine⟨_,rfl,?_⟩|refine xr ?_|refine xA ?_);conv=>whnf))
       rfl
end Go.Proofs.Fl
namespace Go.Proofs.Fl
open Go.RowKit Go.Proofs.Dig
attribute [local irreducible] IntKind.wrap aY be bm bt
open Go.Proofs.En (aR)
noncomputable def yU(p:List Int)(q:Rat):IV:=.agg (.sl (p.map di)::(rr q).cells)
noncomputable def pq(t:eQ):IV:=tq t.1 t.2.q
noncomputable def pr(t:eQ):IV:=yU t.1 t.2.q
theorem og{v:IV}{n:Nat}(h:v.cells.length=n/\v.isTup=false):∀y∈[v],y.cells.length=n/\y.isTup=false:=fun y hy=>by
 rw[List.mem_singleton.1 hy];exact h
theorem sA(l:List Int):∀y∈l.map di,y.cells.length=1/\y.isTup=false:=fun y hy=>by
 obtain⟨x,_,rfl⟩:=List.mem_map.1 hy;exact⟨rfl,rfl⟩
noncomputable def W0(l:List eQ)(k:Nat):AS :=
 match k with
 |0=>am [(0,.iv (.sl (l.map cQ))),(4,.nilS),(5,.nilS),(6,.iv (.int .i64 0))] [] 20
 |k+1=>am [(0,.iv (.sl (l.map cQ))),(4,.ref 0 0 (k+1) true),(5,.ref 1 0 (k+1) true),(6,.iv (.int .i64 ((k+1:Nat):Int)))]
  [(0,.arr 78 4 ((l.take (k+1)).map pq) false),(1,.arr 92 5 ((l.take (k+1)).map pr) false)] 20
theorem Uz(J:Keep){l:List eQ}(hl:l.length<2^19)(hp:∀t∈l,t.1.length<2^40/\t.2.ok):C J 7 [.sl (l.map cQ)] (.tup [.sl (l.map pq),.sl (l.map pr)]):=by
 refine aI Tryz.func7 rfl rfl rfl ?_;have la:(l.map cQ).length=l.length:=by simp
 repeat (((first|refine W.R (by kernel_rfl) ?_|refine W.c rfl ?_);conv=>whnf))
 refine W.loop (G:={ k:Nat // k<=l.length }) (fun k=>W0 l k.1) (fun k=>l.length-k.1) ⟨0,bb _⟩ (Wk.tab [] ⟨aa,aa,aa,aa,ab⟩ trivial rfl) ?_;rintro⟨k,hk⟩;by_cases hke:k<l.length
 . have g:(l.map cQ)[k]?=some (cQ l[k]):=by simp[hke]
   have tk:l.take (k+1)=l.take k ++ [l[k]]:=je hke;have hx1:=hp l[k] (bV hke);obtain⟨⟨p,n,d,q⟩,hx⟩:∃x,l[k]=x:=⟨_,rfl⟩;rw[hx] at g tk hx1;obtain⟨hpl,hok⟩:=hx1;have g:(l.map cQ)[k]?=some (.agg [.sl (p.map di),.int .i64 n,.int .i64 d,.int .u8 q]):=g;have c1:C J 29 [nc n d q] (.tup [qr (mZ n d q),rr (mZ n d q)]):=Ko J hok.1.1 hok.1.2 hok.2.1.1 hok.2.1.2;have e1:[((p,⟨n,d,q⟩):eQ)].map pq=[tq p (mZ n d q)]:=rfl;have e2:[((p,⟨n,d,q⟩):eQ)].map pr=[yU p (mZ n d q)]:=rfl;obtain⟨z,hz⟩:∃z,mZ n d q=z:=⟨_,rfl⟩;rw[hz] at c1 e1 e2;cases k with
   |zero=>
    show W J _ _ (am [(0,.iv (.sl (l.map cQ))),(4,.nilS),(5,.nilS),(6,.iv (.int .i64 0))] [] 20) _;cases p with
    |nil=>
     repeat (((first|refine W.R (by kernel_rfl) ?_|refine W.c rfl ?_|refine⟨_,c1,?_⟩|refine⟨0,_,rfl,g,rfl,?_⟩|refine⟨true,rfl,?_⟩|refine⟨false,rfl,og ⟨rfl,rfl⟩,aB rfl,aB rfl,?_⟩|refine ap (by omega) ?_|refine xT (by omega) ?_|refine⟨_,rfl,?_⟩|refine xr ?_);conv=>whnf))
     exact⟨⟨0+1,by omega⟩,Wk.tab [(0,47),(1,58)] ⟨aa,aa,aa,aa,ab⟩ ⟨gd (by rw[tk,ch,e1];rfl),gd (by rw[tk,ch,e2];rfl),ab⟩ rfl,by dsimp only;omega⟩
    |cons x p=>
     have hxl:((x::p).map di).length*8<=(140737488355328:Nat)/\((x::p).map di).length<=maxLen:=by
      rw[cT];unfold maxLen;have h:(x::p).length<2^40:=hpl;exact⟨by omega,by omega⟩
     repeat (((first|refine W.R (by kernel_rfl) ?_|refine W.c rfl ?_|refine⟨_,c1,?_⟩|refine⟨0,_,rfl,g,rfl,?_⟩|refine⟨false,rfl,sA (x::p),hxl.1,hxl.2,?_⟩|refine⟨false,rfl,og ⟨rfl,rfl⟩,aB rfl,aB rfl,?_⟩|refine ap (by omega) ?_|refine xT (by omega) ?_|refine⟨_,rfl,?_⟩|refine xr ?_);conv=>whnf))
     exact⟨⟨0+1,by omega⟩,Wk.tab [(0,47),(1,58)] ⟨aa,aa,aa,aa,ab⟩ ⟨gd (by rw[tk,ch,e1,show List.take (List.map di (x::p)).length (List.drop 0 (List.map di (x::p)))=List.map di (x::p) from cU];rfl),gd (by rw[tk,ch,e2];rfl),ab⟩ rfl,by dsimp only;omega⟩
   |succ k=>
    show W J _ _ (am [(0,.iv (.sl (l.map cQ))),(4,.ref 0 0 (k+1) true),(5,.ref 1 0 (k+1) true),(6,.iv (.int .i64 ((k+1:Nat):Int)))]
     [(0,.arr 78 4 ((l.take (k+1)).map pq) false),(1,.arr 92 5 ((l.take (k+1)).map pr) false)] 20) _
    have l1:k+1=((l.take (k+1)).map pq).length:=by simp;omega
    have l2:k+1=((l.take (k+1)).map pr).length:=by simp;omega
    cases p with
    |nil=>
     repeat (first|((first|refine W.R (by kernel_rfl) ?_|refine W.c rfl ?_|refine⟨_,c1,?_⟩|refine⟨k+1,_,rfl,g,rfl,?_⟩|refine⟨true,rfl,?_⟩);conv=>whnf)|(refine⟨im rfl,rfl,rfl,l1,og ⟨rfl,rfl⟩,by show(k+1+1)*80<=(140737488355328:Nat);omega,by show k+1+1<=maxLen;unfold maxLen;omega,?_⟩;conv=>whnf)|(refine⟨im rfl,rfl,rfl,l2,og ⟨rfl,rfl⟩,by show(k+1+1)*88<=(140737488355328:Nat);omega,by show k+1+1<=maxLen;unfold maxLen;omega,?_⟩;conv=>whnf)|((first|refine ap (by omega) ?_|refine xT (by omega) ?_|refine⟨_,rfl,?_⟩|refine xr ?_);conv=>whnf))
     exact⟨⟨k+1+1,by omega⟩,Wk.tab [(0,47),(1,58)] ⟨aa,aa,aa,aa,ab⟩ ⟨gd (by rw[tk,ch,e1];rfl),gd (by rw[tk,ch,e2];rfl),ab⟩ rfl,by dsimp only;omega⟩
    |cons x p=>
     have hxl:((x::p).map di).length*8<=(140737488355328:Nat)/\((x::p).map di).length<=maxLen:=by
      rw[cT];unfold maxLen;have h:(x::p).length<2^40:=hpl;exact⟨by omega,by omega⟩
     repeat (first|((first|refine W.R (by kernel_rfl) ?_|refine W.c rfl ?_|refine⟨_,c1,?_⟩|refine⟨k+1,_,rfl,g,rfl,?_⟩|refine⟨false,rfl,sA (x::p),hxl.1,hxl.2,?_⟩);conv=>whnf)|(refine⟨im rfl,rfl,rfl,l1,og ⟨rfl,rfl⟩,by show(k+1+1)*80<=(140737488355328:Nat);omega,by show k+1+1<=maxLen;unfold maxLen;omega,?_⟩;conv=>whnf)|(refine⟨im rfl,rfl,rfl,l2,og ⟨rfl,rfl⟩,by show(k+1+1)*88<=(140737488355328:Nat);omega,by show k+1+1<=maxLen;unfold maxLen;omega,?_⟩;conv=>whnf)|((first|refine ap (by omega) ?_|refine xT (by omega) ?_|refine⟨_,rfl,?_⟩|refine xr ?_);conv=>whnf))
     exact⟨⟨k+1+1,by omega⟩,Wk.tab [(0,47),(1,58)] ⟨aa,aa,aa,aa,ab⟩ ⟨gd (by rw[tk,ch,e1,show List.take (List.map di (x::p)).length (List.drop 0 (List.map di (x::p)))=List.map di (x::p) from cU];rfl),gd (by rw[tk,ch,e2];rfl),ab⟩ rfl,by dsimp only;omega⟩
 . have e:k=l.length:=by omega
   cases l with
   |nil=>
    subst e;show W J _ _ (am [(0,.iv (.sl [])),(4,.nilS),(5,.nilS),(6,.iv (.int .i64 0))] [] 20) _;repeat (((first|refine W.R (by kernel_rfl) ?_|refine W.c rfl ?_|refine⟨_,rfl,?_⟩|refine xr ?_);conv=>whnf))
    rfl
   |cons y l=>
    subst e;show W J _ _ (am [(0,.iv (.sl ((y::l).map cQ))),(4,.ref 0 0 (l.length+1) true),(5,.ref 1 0 (l.length+1) true),(6,.iv (.int .i64 ((l.length+1:Nat):Int)))]
     [(0,.arr 78 4 (((y::l).take (l.length+1)).map pq) false),(1,.arr 92 5 (((y::l).take (l.length+1)).map pr) false)] 20) _
    have la':((y::l).map cQ).length=l.length+1:=by simp
    have la2:(l.map cQ).length=l.length:=by simp
    have e1:(y::l).take (l.length+1)=y::l:=aH (by simp);rw[e1];repeat (((first|refine W.R (by kernel_rfl) ?_|refine W.c rfl ?_|refine⟨_,jr _,?_⟩|refine xF (by omega) ?_|refine xr ?_);conv=>whnf))
    show IV.tup [.sl (List.take (l.length+1) (List.drop 0 ((y::l).map pq))),.sl (List.take (l.length+1) (List.drop 0 ((y::l).map pr)))]=_;rw[bJ,bJ,aH (by simp),aH (by simp)]
end Go.Proofs.Fl
