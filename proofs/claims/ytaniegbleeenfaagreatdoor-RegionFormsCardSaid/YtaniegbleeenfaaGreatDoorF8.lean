/-
  A part of the proof of regionForms_card.
-/
import Derived.Test.YtaniegbleeenfaaGreatDoorF7
set_option maxHeartbeats 40000000
namespace Go.Proofs
open Go
abbrev EF:=@Nat.le_mul_of_pos_left
abbrev M4:=@List.all_map
abbrev XI:=@Nat.eq_zero_or_pos
abbrev vS:=@List.cons_ne_nil
abbrev zW:=@List.mem_map_of_mem
end Go.Proofs
namespace Go.Proofs.Fl
open Go.RowKit Go.Proofs.Dig
attribute [local irreducible] IntKind.wrap aY be bm bt
structure NC where
 a:Int->IV
 b:Int->IV
 c:Int->IV
 d:Int->IV
def nq(N:NC)(z:Int):IV:=.agg [N.a z,N.b z,N.c z,N.d z]
def tz(N:NC)(t:Reg.Tz):IV:=.agg [.sl (t.1.map di),N.a t.2,N.b t.2,N.c t.2,N.d t.2]
theorem fZ(D:NC)(t:Reg.Tz):∀y∈[tz D t],y.cells.length=5/\y.isTup=false:=fun y hy=>by
 rw[List.mem_singleton.1 hy];exact⟨rfl,rfl⟩
theorem Dz{D:NC}{l:List Reg.Tz}{k:Nat}(h:k<l.length):(l.map (tz D))[k]?=some (tz D l[k]):=by
 rw[dw,aQ h];rfl
structure InZ(t:Reg.Tz)(os:List Reg.Tz) where
 k:Nat
 nx:List Reg.Tz
 d:Bool
 hk:k<=os.length
 eq:nx++Reg.dB t d (os.drop k)=Reg.dB t false os
 z:k=0->nx=[]/\d=false
 nz:k≠0->nx≠[]
theorem InZ.len{t:Reg.Tz}{os:List Reg.Tz}(g:InZ t os):g.nx.length<=os.length+1:=by
 have h:=congrArg List.length g.eq;have h2:=(Reg.Be t os).2.1;rw[ce] at h;omega
theorem InZ.step{t o:Reg.Tz}{os nx:List Reg.Tz}{k:Nat}{d:Bool}(hk:k<os.length)(ho:os[k]=o)(eq:nx++Reg.dB t d (os.drop k)=Reg.dB t false os) :
 (nx++(if !d&&decide (Reg.bp t.1 o.1<0) then [t] else []) ++ [if Reg.bp t.1 o.1=0 then(o.1,o.2+t.2) else o])++Reg.dB t (d||decide (Reg.bp t.1 o.1<0)||decide (Reg.bp t.1 o.1=0)) (os.drop (k+1))=Reg.dB t false os:=by
 rw[<-eq,dY hk,ho,Reg.dB];simp
def sQ(_:NC):List Reg.Tz->SV
 | []=>.nilS
 |x::l=>.ref 0 0 (l.length+1) true
def om:List Reg.Tz->SV
 | []=>.nilS
 |x::l=>.ref 1 0 (l.length+1) true
def iX(D:NC)(g:Nat):List Reg.Tz->List (Nat×Bx)
 | []=>[]
 |x::l=>[(g,.arr 92 5 ((x::l).map (tz D)) false)]
theorem FL{zs:List Reg.Tz}{i:Nat}(h:i<zs.length):Reg.dl (zs.take (i+1))=Reg.dB zs[i] false (Reg.dl (zs.take i)):=by
 rw[je h];unfold Reg.dl;rw[vz];rfl
theorem Hx{n:Nat}{zs:List Reg.Tz}(hp:∀t∈zs,t.1.length=n/\bq t.1<2^62):∀i,i<=zs.length->(∀o∈Reg.dl (zs.take i),o.1.length=n/\bq o.1<2^62/\o.2.natAbs<=Reg.wZ (zs.take i))/\(Reg.dl (zs.take i)).length<=i
 |0,_=>⟨fun o ho=>by simp[Reg.dl] at ho,by simp[Reg.dl]⟩
 |i+1,h=>by
  obtain⟨h1,h2⟩:=Hx hp i (by omega);have hi:i<zs.length:=by omega
  have hw:Reg.wZ (zs.take (i+1))=Reg.wZ (zs.take i)+zs[i].2.natAbs:=by rw[je hi,Reg.Rr]
  have ht:=hp zs[i] (bV hi);rw[FL hi];refine⟨fun o ho=>?_,?_⟩
  . rcases Reg.Ht o ho with rfl|⟨o',k1,rfl⟩|⟨o',k1,rfl⟩
    . exact⟨ht.1,ht.2,by omega⟩
    . have:=h1 o k1;exact⟨this.1,this.2.1,by omega⟩
    . have:=h1 o' k1;refine⟨this.1,this.2.1,?_⟩;have h3:=zG o'.2 zs[i].2;show(o'.2+zs[i].2).natAbs<=_;omega
  . have:=(Reg.Be zs[i] (Reg.dl (zs.take i))).2.1;omega
theorem Up(J:Keep){D:NC}{n:Nat}{zs:List Reg.Tz}(hz:zs.length<10000)(hn:n<100)(hp:∀t∈zs,t.1.length=n/\bq t.1<2^62)
 (hA:∀(i:Nat) (h:i<zs.length),∀o∈Reg.dl (zs.take i),Reg.bp (zs[i]).1 o.1=0->C J 39 [nq D o.2,nq D (zs[i]).2] (nq D (o.2+(zs[i]).2)))
 (hS:∀o∈Reg.dl zs,∃sg,C J 43 [nq D o.2] (.int .i64 sg)/\(sg=0↔o.2=0)):C J 18 [.sl (zs.map (tz D))] (.sl ((Reg.yN zs).map (tz D))):=by
 have lz:(zs.map (tz D)).length=zs.length:=by simp
 refine aI Tryz.func18 rfl rfl rfl ?_;repeat (((first|refine W.R (by kernel_rfl) ?_|refine W.c rfl ?_);conv=>whnf))
 have hSn:=fun i h=>FL (zs:=zs) (i:=i) h;have hN:=Hx hp;refine W.loop (G:={ i:Nat // i<=zs.length }) (fun i=>am [(0,.iv (.sl (zs.map (tz D)))),(3,sQ D (Reg.dl (zs.take i.1))),(4,.iv (.int .i64 (i.1:Int)))] (iX D 0 (Reg.dl (zs.take i.1))) 20) (fun i=>zs.length-i.1) ⟨0,bb _⟩
  (Wk.tab [] ⟨aa,aa,aa,ab⟩ trivial rfl) ?_
 rintro⟨i,hi⟩;obtain⟨hO,hL⟩:=hN i hi;by_cases h:i<zs.length
 . have hsn:=hSn i h;have hA':=hA i h;obtain⟨t,ht⟩:∃t,zs[i]=t:=⟨_,rfl⟩;have gt:=Dz (D:=D) h;rw[ht] at hsn gt hA';obtain⟨os,hos⟩:∃os,Reg.dl (zs.take i)=os:=⟨_,rfl⟩;rw[hos] at hO hL hsn hA';show W J _ _ (am [(0,.iv (.sl (zs.map (tz D)))),(3,sQ D (Reg.dl (zs.take i))),(4,.iv (.int .i64 (i:Int)))] (iX D 0 (Reg.dl (zs.take i))) 20) _;rw[hos];cases os with
   |nil=>
    show W J _ _ (am [(0,.iv (.sl (zs.map (tz D)))),(3,.nilS),(4,.iv (.int .i64 (i:Int)))] [] 20) _;repeat (((first|refine W.R (by kernel_rfl) ?_|refine W.c rfl ?_|refine xT (by omega) ?_|refine⟨_,rfl,?_⟩|refine xr ?_);conv=>whnf))
    refine W.loop (G:=Unit) (fun _=>am [(0,.iv (.sl (zs.map (tz D)))),(3,.nilS),(4,.iv (.int .i64 (i:Int))),(5,.nilS),(6,.iv (.bool false)),(7,.iv (.int .i64 0))] [] 40) (fun _=>0) ()
     (Wk.tab [] ⟨aa,aa,aa,aa,aa,aa,ab⟩ trivial rfl) ?_
    rintro⟨⟩;repeat (((first|refine W.R (by kernel_rfl) ?_|refine W.c rfl ?_|refine⟨i,_,rfl,gt,rfl,?_⟩|refine⟨false,rfl,fZ D t,aB rfl,aB rfl,?_⟩|refine ap (by omega) ?_|refine xF (by omega) ?_|refine⟨_,rfl,?_⟩|refine xr ?_);conv=>whnf))
    refine⟨⟨i+1,by omega⟩,?_,by dsimp only;omega⟩;show Wk _ (am [(0,.iv (.sl (zs.map (tz D)))),(3,sQ D (Reg.dl (zs.take (i+1)))),(4,.iv (.int .i64 ((i+1:Nat):Int)))] (iX D 0 (Reg.dl (zs.take (i+1)))) 20);rw[hsn];exact Wk.tab [(0,52)] ⟨aa,aa,aa,ab⟩ ⟨rfl,ab⟩ rfl
   |cons o0 os=>
    obtain⟨L,hLd⟩:∃L,o0::os=L:=⟨_,rfl⟩;have hLl:os.length+1=L.length:=by rw[<-hLd];rfl
    show W J _ _ (am [(0,.iv (.sl (zs.map (tz D)))),(3,.ref 0 0 (os.length+1) true),(4,.iv (.int .i64 (i:Int)))] [(0,.arr 92 5 ((o0::os).map (tz D)) false)] 20) _;rw[hLd] at hO hL hsn hA';rw[hLd,hLl];have lL:(L.map (tz D)).length=L.length:=by simp
    repeat (((first|refine W.R (by kernel_rfl) ?_|refine W.c rfl ?_|refine xT (by omega) ?_|refine⟨_,rfl,?_⟩|refine xr ?_);conv=>whnf))
    refine W.loop (G:=InZ t L) (fun g=>am [(0,.iv (.sl (zs.map (tz D)))),(3,.ref 0 0 L.length true),(4,.iv (.int .i64 (i:Int))),(5,om g.nx),(6,.iv (.bool g.d)),(7,.iv (.int .i64 (g.k:Int)))] ((0,.arr 92 5 (L.map (tz D)) false)::iX D 1 g.nx) 40) (fun g=>L.length-g.k) ⟨0,[],false,bb _,rfl,fun _=>⟨rfl,rfl⟩,fun h=>absurd rfl h⟩
     (Wk.tab [] ⟨aa,aa,aa,aa,aa,aa,ab⟩ ⟨rfl,ab⟩ rfl) ?_
    rintro⟨k,nx,d,hk,eq,z,nz⟩;have hk:k<=L.length:=hk;show W J _ _ (am [(0,.iv (.sl (zs.map (tz D)))),(3,.ref 0 0 L.length true),(4,.iv (.int .i64 (i:Int))),(5,om nx),(6,.iv (.bool d)),(7,.iv (.int .i64 (k:Int)))] ((0,.arr 92 5 (L.map (tz D)) false)::iX D 1 nx) 40) _;by_cases hk2:k<L.length
    . obtain⟨o,ho⟩:∃o,L[k]=o:=⟨_,rfl⟩;have go':=Dz (D:=D) hk2;rw[ho] at go';have st:=InZ.step hk2 ho eq;have gL:(L.map (tz D))[0+k]?=some (tz D o):=by rw[aX];exact go'
      have hoL:=hO o (by rw[<-ho];exact bV hk2);have htz:=hp t (by rw[<-ht];exact bV h);have c1:=Sa J (a:=t.1) (b:=o.1) (by rw[htz.1,hoL.1]) (by rw[htz.1];omega) htz.2 hoL.2.1;have hAo:=hA' o (by rw[<-ho];exact bV hk2);have hln:nx.length<=L.length+1:=InZ.len ⟨k,nx,d,hk,eq,z,nz⟩;have hbig:∀{a:Nat},a<=20003->a*88<=(140737488355328:Nat)/\a<=maxLen:=fun{a} ha=>by
       unfold maxLen;exact⟨by omega,by omega⟩
      obtain⟨c,hc⟩:∃c,Reg.bp t.1 o.1=c:=⟨_,rfl⟩;have hcv:=Reg.nO t.1 o.1;rw[hc] at c1 hcv st hAo;rcases hcv with rfl|rfl|rfl
      . rcases d with _|_
        . rw[show(if(!false&&decide ((-1:Int)<0))=true then [t] else [])=[t] from rfl,show(if(-1:Int)=0 then(o.1,o.2+t.2) else o)=o from rfl,dj] at st;rcases nx with _|⟨x,l⟩
          . repeat (first|((first|refine W.R (by kernel_rfl) ?_|refine W.c rfl ?_|refine⟨_,c1,?_⟩|refine⟨i,_,rfl,gt,rfl,?_⟩|refine⟨_,gL,?_⟩|refine⟨false,rfl,fZ D t,aB rfl,aB rfl,?_⟩);conv=>whnf)|(refine⟨by simp,rfl,rfl,rfl,fZ D o,(hbig (by show 1+1<=_;omega)).1,(hbig (by show 1+1<=_;omega)).2,?_⟩;conv=>whnf)|((first|refine ap (by omega) ?_|refine⟨(rfl:(_:Nat)=_),_,rfl,by omega,?_⟩|refine xT (by omega) ?_|refine xF (by omega) ?_|refine⟨_,rfl,?_⟩|refine xr ?_|refine xB ?_);conv=>whnf))
            refine⟨⟨k+1,[t,o],true,hk2,st,fun h=>absurd h (kz k),fun _=>vS _ _⟩,?_,by dsimp only;omega⟩;exact Wk.tab [(1,79)] ⟨aa,aa,aa,aa,aa,aa,ab⟩ ⟨rfl,rfl,ab⟩ rfl
          . simp only[bf] at hln;have ln:l.length+1=((x::l).map (tz D)).length:=by simp
            repeat (first|((first|refine W.R (by kernel_rfl) ?_|refine W.c rfl ?_|refine⟨_,c1,?_⟩|refine⟨i,_,rfl,gt,rfl,?_⟩|refine⟨_,gL,?_⟩);conv=>whnf)|(refine⟨by simp,rfl,rfl,ln,fZ D t,(hbig (by show l.length+1+1<=_;omega)).1,(hbig (by show l.length+1+1<=_;omega)).2,?_⟩;conv=>whnf)|(refine⟨by simp,rfl,rfl,(by simp),fZ D o,(hbig (by show l.length+1+1+1<=_;omega)).1,(hbig (by show l.length+1+1+1<=_;omega)).2,?_⟩;conv=>whnf)|((first|refine ap (by omega) ?_|refine⟨(rfl:(_:Nat)=_),_,rfl,by omega,?_⟩|refine xT (by omega) ?_|refine xF (by omega) ?_|refine⟨_,rfl,?_⟩|refine xr ?_|refine xB ?_);conv=>whnf))
            refine⟨⟨k+1,(x::l) ++ [t,o],true,hk2,by simpa using st,fun h=>absurd h (kz k),fun _=>by simp⟩,?_,by dsimp only;omega⟩;refine Wk.tab [(1,79)] ⟨aa,aa,aa,⟨iK (by simp),rfl⟩,aa,aa,ab⟩ ⟨rfl,?_,ab⟩ rfl;show some (Bx.arr 92 5 ((x::l).map (tz D) ++ [tz D t] ++ [tz D o]) false)=some (Bx.arr 92 5 (((x::l) ++ [t,o]).map (tz D)) false);rw[ch,dj];rfl
        . rw[show(if(!true&&decide ((-1:Int)<0))=true then [t] else [])=[] from rfl,show(if(-1:Int)=0 then(o.1,o.2+t.2) else o)=o from rfl,jb] at st;rcases nx with _|⟨x,l⟩
          . repeat (((first|refine W.R (by kernel_rfl) ?_|refine W.c rfl ?_|refine⟨_,c1,?_⟩|refine⟨i,_,rfl,gt,rfl,?_⟩|refine⟨_,gL,?_⟩|refine⟨false,rfl,fZ D o,aB rfl,aB rfl,?_⟩|refine ap (by omega) ?_|refine⟨(rfl:(_:Nat)=_),_,rfl,by omega,?_⟩|refine xT (by omega) ?_|refine xF (by omega) ?_|refine⟨_,rfl,?_⟩|refine xr ?_|refine xA ?_);conv=>whnf))
            refine⟨⟨k+1,[o],true,hk2,st,fun h=>absurd h (kz k),fun _=>vS _ _⟩,?_,by dsimp only;omega⟩;exact Wk.tab [(1,70)] ⟨aa,aa,aa,aa,aa,aa,ab⟩ ⟨rfl,rfl,ab⟩ rfl
          . simp only[bf] at hln;have ln:l.length+1=((x::l).map (tz D)).length:=by simp
            repeat (first|((first|refine W.R (by kernel_rfl) ?_|refine W.c rfl ?_|refine⟨_,c1,?_⟩|refine⟨i,_,rfl,gt,rfl,?_⟩|refine⟨_,gL,?_⟩);conv=>whnf)|(refine⟨by simp,rfl,rfl,ln,fZ D o,(hbig (by show l.length+1+1<=_;omega)).1,(hbig (by show l.length+1+1<=_;omega)).2,?_⟩;conv=>whnf)|((first|refine ap (by omega) ?_|refine⟨(rfl:(_:Nat)=_),_,rfl,by omega,?_⟩|refine xT (by omega) ?_|refine xF (by omega) ?_|refine⟨_,rfl,?_⟩|refine xr ?_|refine xA ?_);conv=>whnf))
            refine⟨⟨k+1,(x::l) ++ [o],true,hk2,st,fun h=>absurd h (kz k),fun _=>by simp⟩,?_,by dsimp only;omega⟩;refine Wk.tab [(1,70)] ⟨aa,aa,aa,⟨iK (by simp),rfl⟩,aa,aa,ab⟩ ⟨rfl,?_,ab⟩ rfl;show some (Bx.arr 92 5 ((x::l).map (tz D) ++ [tz D o]) false)=some (Bx.arr 92 5 (((x::l) ++ [o]).map (tz D)) false);rw[ch];rfl
      . rw[show(if(!d&&decide ((0:Int)<0))=true then [t] else [])=[] by cases d<;>rfl,show(if(0:Int)=0 then(o.1,o.2+t.2) else o)=(o.1,o.2+t.2) from rfl,jb,show(d||decide ((0:Int)<0)||decide ((0:Int)=0))=true by cases d<;>rfl] at st;have c2:=hAo rfl;rcases d with _|_
        . rcases nx with _|⟨x,l⟩
          . repeat (((first|refine W.R (by kernel_rfl) ?_|refine W.c rfl ?_|refine⟨_,c1,?_⟩|refine⟨_,c2,?_⟩|refine⟨i,_,rfl,gt,rfl,?_⟩|refine⟨_,gL,?_⟩|refine⟨false,rfl,fZ D (o.1,o.2+t.2),aB rfl,aB rfl,?_⟩|refine ap (by omega) ?_|refine⟨(rfl:(_:Nat)=_),_,rfl,by omega,?_⟩|refine xT (by omega) ?_|refine xF (by omega) ?_|refine⟨_,rfl,?_⟩|refine xr ?_|refine xB ?_);conv=>whnf))
            refine⟨⟨k+1,[(o.1,o.2+t.2)],true,hk2,st,fun h=>absurd h (kz k),fun _=>vS _ _⟩,?_,by dsimp only;omega⟩;exact Wk.tab [(1,83)] ⟨aa,aa,aa,aa,aa,aa,ab⟩ ⟨rfl,rfl,ab⟩ rfl
          . simp only[bf] at hln;have ln:l.length+1=((x::l).map (tz D)).length:=by simp
            repeat (first|((first|refine W.R (by kernel_rfl) ?_|refine W.c rfl ?_|refine⟨_,c1,?_⟩|refine⟨_,c2,?_⟩|refine⟨i,_,rfl,gt,rfl,?_⟩|refine⟨_,gL,?_⟩);conv=>whnf)|(refine⟨by simp,rfl,rfl,ln,fZ D (o.1,o.2+t.2),(hbig (by show l.length+1+1<=_;omega)).1,(hbig (by show l.length+1+1<=_;omega)).2,?_⟩;conv=>whnf)|((first|refine ap (by omega) ?_|refine⟨(rfl:(_:Nat)=_),_,rfl,by omega,?_⟩|refine xT (by omega) ?_|refine xF (by omega) ?_|refine⟨_,rfl,?_⟩|refine xr ?_|refine xB ?_);conv=>whnf))
            refine⟨⟨k+1,(x::l) ++ [(o.1,o.2+t.2)],true,hk2,st,fun h=>absurd h (kz k),fun _=>by simp⟩,?_,by dsimp only;omega⟩;refine Wk.tab [(1,83)] ⟨aa,aa,aa,⟨iK (by simp),rfl⟩,aa,aa,ab⟩ ⟨rfl,?_,ab⟩ rfl;show some (Bx.arr 92 5 ((x::l).map (tz D) ++ [tz D (o.1,o.2+t.2)]) false)=some (Bx.arr 92 5 (((x::l) ++ [(o.1,o.2+t.2)]).map (tz D)) false);rw[ch];rfl
        . rcases nx with _|⟨x,l⟩
          . repeat (((first|refine W.R (by kernel_rfl) ?_|refine W.c rfl ?_|refine⟨_,c1,?_⟩|refine⟨_,c2,?_⟩|refine⟨i,_,rfl,gt,rfl,?_⟩|refine⟨_,gL,?_⟩|refine⟨false,rfl,fZ D (o.1,o.2+t.2),aB rfl,aB rfl,?_⟩|refine ap (by omega) ?_|refine⟨(rfl:(_:Nat)=_),_,rfl,by omega,?_⟩|refine xT (by omega) ?_|refine⟨_,rfl,?_⟩|refine xr ?_|refine xA ?_);conv=>whnf))
            refine⟨⟨k+1,[(o.1,o.2+t.2)],true,hk2,st,fun h=>absurd h (kz k),fun _=>vS _ _⟩,?_,by dsimp only;omega⟩;exact Wk.tab [(1,83)] ⟨aa,aa,aa,aa,aa,aa,ab⟩ ⟨rfl,rfl,ab⟩ rfl
          . simp only[bf] at hln;have ln:l.length+1=((x::l).map (tz D)).length:=by simp
            repeat (first|((first|refine W.R (by kernel_rfl) ?_|refine W.c rfl ?_|refine⟨_,c1,?_⟩|refine⟨_,c2,?_⟩|refine⟨i,_,rfl,gt,rfl,?_⟩|refine⟨_,gL,?_⟩);conv=>whnf)|(refine⟨by simp,rfl,rfl,ln,fZ D (o.1,o.2+t.2),(hbig (by show l.length+1+1<=_;omega)).1,(hbig (by show l.length+1+1<=_;omega)).2,?_⟩;conv=>whnf)|((first|refine ap (by omega) ?_|refine⟨(rfl:(_:Nat)=_),_,rfl,by omega,?_⟩|refine xT (by omega) ?_|refine⟨_,rfl,?_⟩|refine xr ?_|refine xA ?_);conv=>whnf))
            refine⟨⟨k+1,(x::l) ++ [(o.1,o.2+t.2)],true,hk2,st,fun h=>absurd h (kz k),fun _=>by simp⟩,?_,by dsimp only;omega⟩;refine Wk.tab [(1,83)] ⟨aa,aa,aa,⟨iK (by simp),rfl⟩,aa,aa,ab⟩ ⟨rfl,?_,ab⟩ rfl;show some (Bx.arr 92 5 ((x::l).map (tz D) ++ [tz D (o.1,o.2+t.2)]) false)=some (Bx.arr 92 5 (((x::l) ++ [(o.1,o.2+t.2)]).map (tz D)) false);rw[ch];rfl
      . rw[show(if(!d&&decide ((1:Int)<0))=true then [t] else [])=[] by cases d<;>rfl,show(if(1:Int)=0 then(o.1,o.2+t.2) else o)=o from rfl,jb,show(d||decide ((1:Int)<0)||decide ((1:Int)=0))=d by cases d<;>rfl] at st;rcases d with _|_
        . rcases nx with _|⟨x,l⟩
          . repeat (((first|refine W.R (by kernel_rfl) ?_|refine W.c rfl ?_|refine⟨_,c1,?_⟩|refine⟨i,_,rfl,gt,rfl,?_⟩|refine⟨_,gL,?_⟩|refine⟨false,rfl,fZ D o,aB rfl,aB rfl,?_⟩|refine ap (by omega) ?_|refine⟨(rfl:(_:Nat)=_),_,rfl,by omega,?_⟩|refine xT (by omega) ?_|refine xF (by omega) ?_|refine⟨_,rfl,?_⟩|refine xr ?_|refine xB ?_);conv=>whnf))
            refine⟨⟨k+1,[o],false,hk2,st,fun h=>absurd h (kz k),fun _=>vS _ _⟩,?_,by dsimp only;omega⟩;exact Wk.tab [(1,70)] ⟨aa,aa,aa,aa,aa,aa,ab⟩ ⟨rfl,rfl,ab⟩ rfl
          . simp only[bf] at hln;have ln:l.length+1=((x::l).map (tz D)).length:=by simp
            repeat (first|((first|refine W.R (by kernel_rfl) ?_|refine W.c rfl ?_|refine⟨_,c1,?_⟩|refine⟨i,_,rfl,gt,rfl,?_⟩|refine⟨_,gL,?_⟩);conv=>whnf)|(refine⟨by simp,rfl,rfl,ln,fZ D o,(hbig (by show l.length+1+1<=_;omega)).1,(hbig (by show l.length+1+1<=_;omega)).2,?_⟩;conv=>whnf)|((first|refine ap (by omega) ?_|refine⟨(rfl:(_:Nat)=_),_,rfl,by omega,?_⟩|refine xT (by omega) ?_|refine xF (by omega) ?_|refine⟨_,rfl,?_⟩|refine xr ?_|refine xB ?_);conv=>whnf))
            refine⟨⟨k+1,(x::l) ++ [o],false,hk2,st,fun h=>absurd h (kz k),fun _=>by simp⟩,?_,by dsimp only;omega⟩;refine Wk.tab [(1,70)] ⟨aa,aa,aa,⟨iK (by simp),rfl⟩,aa,aa,ab⟩ ⟨rfl,?_,ab⟩ rfl;show some (Bx.arr 92 5 ((x::l).map (tz D) ++ [tz D o]) false)=some (Bx.arr 92 5 (((x::l) ++ [o]).map (tz D)) false);rw[ch];rfl
        . rcases nx with _|⟨x,l⟩
          . repeat (((first|refine W.R (by kernel_rfl) ?_|refine W.c rfl ?_|refine⟨_,c1,?_⟩|refine⟨i,_,rfl,gt,rfl,?_⟩|refine⟨_,gL,?_⟩|refine⟨false,rfl,fZ D o,aB rfl,aB rfl,?_⟩|refine ap (by omega) ?_|refine⟨(rfl:(_:Nat)=_),_,rfl,by omega,?_⟩|refine xT (by omega) ?_|refine xF (by omega) ?_|refine⟨_,rfl,?_⟩|refine xr ?_|refine xA ?_);conv=>whnf))
            refine⟨⟨k+1,[o],true,hk2,st,fun h=>absurd h (kz k),fun _=>vS _ _⟩,?_,by dsimp only;omega⟩;exact Wk.tab [(1,70)] ⟨aa,aa,aa,aa,aa,aa,ab⟩ ⟨rfl,rfl,ab⟩ rfl
          . simp only[bf] at hln;have ln:l.length+1=((x::l).map (tz D)).length:=by simp
            repeat (first|((first|refine W.R (by kernel_rfl) ?_|refine W.c rfl ?_|refine⟨_,c1,?_⟩|refine⟨i,_,rfl,gt,rfl,?_⟩|refine⟨_,gL,?_⟩);conv=>whnf)|(refine⟨by simp,rfl,rfl,ln,fZ D o,(hbig (by show l.length+1+1<=_;omega)).1,(hbig (by show l.length+1+1<=_;omega)).2,?_⟩;conv=>whnf)|((first|refine ap (by omega) ?_|refine⟨(rfl:(_:Nat)=_),_,rfl,by omega,?_⟩|refine xT (by omega) ?_|refine xF (by omega) ?_|refine⟨_,rfl,?_⟩|refine xr ?_|refine xA ?_);conv=>whnf))
            refine⟨⟨k+1,(x::l) ++ [o],true,hk2,st,fun h=>absurd h (kz k),fun _=>by simp⟩,?_,by dsimp only;omega⟩;refine Wk.tab [(1,70)] ⟨aa,aa,aa,⟨iK (by simp),rfl⟩,aa,aa,ab⟩ ⟨rfl,?_,ab⟩ rfl;show some (Bx.arr 92 5 ((x::l).map (tz D) ++ [tz D o]) false)=some (Bx.arr 92 5 (((x::l) ++ [o]).map (tz D)) false);rw[ch];rfl
    . have ek:k=L.length:=by omega
      subst ek;have hne:nx≠[]:=nz (by omega);have hln:nx.length<=L.length+1:=InZ.len ⟨L.length,nx,d,hk,eq,z,nz⟩;have eq:nx++Reg.dB t d []=Reg.dB t false L:=by
       rw[kW (ak _)] at eq;exact eq
      rcases nx with _|⟨x,l⟩
      . exact absurd rfl hne
      . simp only[bf] at hln;have ln:l.length+1=((x::l).map (tz D)).length:=by simp
        rcases d with _|_
        . repeat (first|((first|refine W.R (by kernel_rfl) ?_|refine W.c rfl ?_|refine⟨i,_,rfl,gt,rfl,?_⟩);conv=>whnf)|(refine⟨by simp,rfl,rfl,ln,fZ D t,by show(l.length+1+1)*88<=(140737488355328:Nat);omega,by unfold maxLen;show l.length+1+1<=_;omega,?_⟩;conv=>whnf)|((first|refine ap (by omega) ?_|refine xF (by omega) ?_|refine⟨_,rfl,?_⟩|refine xr ?_);conv=>whnf))
          refine⟨⟨i+1,by omega⟩,?_,by dsimp only;omega⟩;show Wk _ (am [(0,.iv (.sl (zs.map (tz D)))),(3,sQ D (Reg.dl (zs.take (i+1)))),(4,.iv (.int .i64 ((i+1:Nat):Int)))] (iX D 0 (Reg.dl (zs.take (i+1)))) 20);rw[show Reg.dB t false []=[t] from rfl] at eq;rw[hsn,<-eq];refine Wk.tab [(0,52)] ⟨aa,⟨iK (by simp),rfl⟩,aa,ab⟩ ⟨?_,ab⟩ rfl;show some (Bx.arr 92 5 ((x::l).map (tz D) ++ [tz D t]) false)=some (Bx.arr 92 5 (((x::l) ++ [t]).map (tz D)) false);rw[ch];rfl
        . rw[show Reg.dB t true []=[] from rfl,jb] at eq;repeat (((first|refine W.R (by kernel_rfl) ?_|refine W.c rfl ?_|refine ap (by omega) ?_|refine xF (by omega) ?_|refine⟨false,beq_eq_false_iff_ne.2 (by omega),?_⟩|refine⟨_,rfl,?_⟩|refine xr ?_);conv=>whnf))
          refine⟨⟨i+1,by omega⟩,?_,by dsimp only;omega⟩;show Wk _ (am [(0,.iv (.sl (zs.map (tz D)))),(3,sQ D (Reg.dl (zs.take (i+1)))),(4,.iv (.int .i64 ((i+1:Nat):Int)))] (iX D 0 (Reg.dl (zs.take (i+1)))) 20);rw[hsn,<-eq];exact Wk.tab [(0,1)] ⟨aa,aa,aa,ab⟩ ⟨rfl,ab⟩ rfl
 . have ei:i=zs.length:=by omega
   subst ei;rw[aH (ak _)] at hO hL;show W J _ _ (am [(0,.iv (.sl (zs.map (tz D)))),(3,sQ D (Reg.dl (zs.take zs.length))),(4,.iv (.int .i64 (zs.length:Int)))] (iX D 0 (Reg.dl (zs.take zs.length))) 20) _;unfold Reg.yN;rw[aH (ak _)];obtain⟨os,hos⟩:∃os,Reg.dl zs=os:=⟨_,rfl⟩;rw[hos] at hO hL;rw[hos];cases os with
   |nil=>
    show W J _ _ (am [(0,.iv (.sl (zs.map (tz D)))),(3,.nilS),(4,.iv (.int .i64 (zs.length:Int)))] [] 20) _;repeat (((first|refine W.R (by kernel_rfl) ?_|refine W.c rfl ?_|refine xF (by omega) ?_|refine⟨_,rfl,?_⟩|refine xr ?_);conv=>whnf))
    refine W.loop (G:=Unit) (fun _=>am [(3,.nilS),(9,.nilS),(10,.iv (.int .i64 0))] [] 40) (fun _=>0) ()
     (Wk.tab [] ⟨aa,aa,aa,ab⟩ trivial rfl) ?_
    rintro⟨⟩;repeat (((first|refine W.R (by kernel_rfl) ?_|refine W.c rfl ?_|refine xF (by omega) ?_|refine xr ?_);conv=>whnf))
    rfl
   |cons o0 os=>
    obtain⟨L,hLd⟩:∃L,o0::os=L:=⟨_,rfl⟩;have hLl:os.length+1=L.length:=by rw[<-hLd];rfl
    show W J _ _ (am [(0,.iv (.sl (zs.map (tz D)))),(3,.ref 0 0 (os.length+1) true),(4,.iv (.int .i64 (zs.length:Int)))] [(0,.arr 92 5 ((o0::os).map (tz D)) false)] 20) _;rw[hLd] at hO hL;rw[hLd,hLl];have lL:(L.map (tz D)).length=L.length:=by simp
    repeat (((first|refine W.R (by kernel_rfl) ?_|refine W.c rfl ?_|refine xF (by omega) ?_|refine⟨_,rfl,?_⟩|refine xr ?_);conv=>whnf))
    refine W.loop (G:={ k:Nat // k<=L.length }) (fun k=>am [(3,.ref 0 0 L.length true),(9,om ((L.take k.1).filter fun t=>decide (t.2≠0))),(10,.iv (.int .i64 (k.1:Int)))] ((0,.arr 92 5 (L.map (tz D)) false)::iX D 1 ((L.take k.1).filter fun t=>decide (t.2≠0))) 60) (fun k=>L.length-k.1) ⟨0,bb _⟩
     (Wk.tab [] ⟨aa,aa,aa,ab⟩ ⟨rfl,ab⟩ rfl) ?_
    rintro⟨k,hk⟩;have hk:k<=L.length:=hk;show W J _ _ (am [(3,.ref 0 0 L.length true),(9,om ((L.take k).filter fun t=>decide (t.2≠0))),(10,.iv (.int .i64 (k:Int)))] ((0,.arr 92 5 (L.map (tz D)) false)::iX D 1 ((L.take k).filter fun t=>decide (t.2≠0))) 60) _;have hfl:((L.take k).filter fun t=>decide (t.2≠0)).length<=k:=by
     have h1:=oV (fun t:Reg.Tz=>decide (t.2≠0)) (L.take k);rw[b9] at h1;omega
    obtain⟨A,hA⟩:∃A,(L.take k).filter (fun t=>decide (t.2≠0))=A:=⟨_,rfl⟩;rw[hA] at hfl;rw[hA];by_cases hk2:k<L.length
    . obtain⟨o,ho⟩:∃o,L[k]=o:=⟨_,rfl⟩;have gL:=Dz (D:=D) hk2;rw[ho] at gL;have gL:(L.map (tz D))[0+k]?=some (tz D o):=by rw[aX];exact gL
      have hsn:(L.take (k+1)).filter (fun t=>decide (t.2≠0))=A++if o.2≠0 then [o] else []:=by
       rw[je hk2,MU,hA,ho];congr 1;by_cases h0:o.2=0
       . simp[h0]
       . simp[h0]
      obtain⟨sg,c1,hsg⟩:=hS o (by rw[hos,hLd,<-ho];exact bV hk2);by_cases h0:o.2=0
      . have h1:sg=0:=hsg.2 h0;rw[al (fun h=>h h0),jb] at hsn;rcases A with _|⟨x,l⟩
        . repeat (((first|refine W.R (by kernel_rfl) ?_|refine W.c rfl ?_|refine⟨_,c1,?_⟩|refine⟨_,gL,?_⟩|refine ap (by omega) ?_|refine⟨(rfl:(_:Nat)=_),_,rfl,by omega,?_⟩|refine xT (by omega) ?_|refine⟨false,bne_eq_false_iff_eq.2 (by omega),?_⟩|refine⟨_,rfl,?_⟩|refine xr ?_);conv=>whnf))
          refine⟨⟨k+1,hk2⟩,?_,by dsimp only;omega⟩;show Wk _ (am [(3,.ref 0 0 L.length true),(9,om ((L.take (k+1)).filter fun t=>decide (t.2≠0))),(10,.iv (.int .i64 ((k+1:Nat):Int)))] ((0,.arr 92 5 (L.map (tz D)) false)::iX D 1 ((L.take (k+1)).filter fun t=>decide (t.2≠0))) 60);rw[hsn];exact Wk.tab [] ⟨aa,aa,aa,ab⟩ ⟨rfl,ab⟩ rfl
        . repeat (((first|refine W.R (by kernel_rfl) ?_|refine W.c rfl ?_|refine⟨_,c1,?_⟩|refine⟨_,gL,?_⟩|refine ap (by omega) ?_|refine⟨(rfl:(_:Nat)=_),_,rfl,by omega,?_⟩|refine xT (by omega) ?_|refine⟨false,bne_eq_false_iff_eq.2 (by omega),?_⟩|refine⟨_,rfl,?_⟩|refine xr ?_);conv=>whnf))
          refine⟨⟨k+1,hk2⟩,?_,by dsimp only;omega⟩;show Wk _ (am [(3,.ref 0 0 L.length true),(9,om ((L.take (k+1)).filter fun t=>decide (t.2≠0))),(10,.iv (.int .i64 ((k+1:Nat):Int)))] ((0,.arr 92 5 (L.map (tz D)) false)::iX D 1 ((L.take (k+1)).filter fun t=>decide (t.2≠0))) 60);rw[hsn];exact Wk.tab [] ⟨aa,aa,aa,ab⟩ ⟨rfl,rfl,ab⟩ rfl
      . have h1:sg≠0:=fun e=>h0 (hsg.1 e);rw[ar h0] at hsn;rcases A with _|⟨x,l⟩
        . repeat (((first|refine W.R (by kernel_rfl) ?_|refine W.c rfl ?_|refine⟨_,c1,?_⟩|refine⟨_,gL,?_⟩|refine⟨false,rfl,fZ D o,aB rfl,aB rfl,?_⟩|refine ap (by omega) ?_|refine⟨(rfl:(_:Nat)=_),_,rfl,by omega,?_⟩|refine xT (by omega) ?_|refine⟨true,bne_iff_ne.2 (by omega),?_⟩|refine⟨_,rfl,?_⟩|refine xr ?_);conv=>whnf))
          refine⟨⟨k+1,hk2⟩,?_,by dsimp only;omega⟩;show Wk _ (am [(3,.ref 0 0 L.length true),(9,om ((L.take (k+1)).filter fun t=>decide (t.2≠0))),(10,.iv (.int .i64 ((k+1:Nat):Int)))] ((0,.arr 92 5 (L.map (tz D)) false)::iX D 1 ((L.take (k+1)).filter fun t=>decide (t.2≠0))) 60);rw[hsn];exact Wk.tab [(1,77)] ⟨aa,aa,aa,ab⟩ ⟨rfl,rfl,ab⟩ rfl
        . simp only[bf] at hfl;have ln:l.length+1=((x::l).map (tz D)).length:=by simp
          repeat (first|((first|refine W.R (by kernel_rfl) ?_|refine W.c rfl ?_|refine⟨_,c1,?_⟩|refine⟨_,gL,?_⟩);conv=>whnf)|(refine⟨by simp,rfl,rfl,ln,fZ D o,by show(l.length+1+1)*88<=(140737488355328:Nat);omega,by unfold maxLen;show l.length+1+1<=_;omega,?_⟩;conv=>whnf)|((first|refine ap (by omega) ?_|refine⟨(rfl:(_:Nat)=_),_,rfl,by omega,?_⟩|refine xT (by omega) ?_|refine⟨true,bne_iff_ne.2 (by omega),?_⟩|refine⟨_,rfl,?_⟩|refine xr ?_);conv=>whnf))
          refine⟨⟨k+1,hk2⟩,?_,by dsimp only;omega⟩;show Wk _ (am [(3,.ref 0 0 L.length true),(9,om ((L.take (k+1)).filter fun t=>decide (t.2≠0))),(10,.iv (.int .i64 ((k+1:Nat):Int)))] ((0,.arr 92 5 (L.map (tz D)) false)::iX D 1 ((L.take (k+1)).filter fun t=>decide (t.2≠0))) 60);rw[hsn];refine Wk.tab [(1,77)] ⟨aa,⟨iK (by simp),rfl⟩,aa,ab⟩ ⟨rfl,?_,ab⟩ rfl;show some (Bx.arr 92 5 ((x::l).map (tz D) ++ [tz D o]) false)=some (Bx.arr 92 5 (((x::l) ++ [o]).map (tz D)) false);rw[ch];rfl
    . have ek:k=L.length:=by omega
      subst ek;rw[aH (ak _)] at hA;rw[hA];rcases A with _|⟨x,l⟩
      . repeat (((first|refine W.R (by kernel_rfl) ?_|refine W.c rfl ?_|refine xF (by omega) ?_|refine⟨_,rfl,?_⟩|refine xr ?_);conv=>whnf))
        rfl
      . repeat (((first|refine W.R (by kernel_rfl) ?_|refine W.c rfl ?_|refine xF (by omega) ?_|refine⟨_,rfl,?_⟩|refine xr ?_);conv=>whnf))
        show IV.sl ((((x::l).map (tz D)).drop 0).take (l.length+1))=_;rw[bJ,aH (by simp)]
end Go.Proofs.Fl
