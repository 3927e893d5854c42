/-
  A part of the proof of regionForms_card.
-/
import Derived.Test.YtaniegbleeenfaaGreatDoorF8
set_option maxHeartbeats 40000000
namespace Go.Proofs.Fl
open Go.RowKit Go.Proofs.Dig
attribute [local irreducible] IntKind.wrap aY be bm bt
open Go.Proofs.Reg (Tm Tz aN Hb)
theorem jP{k:Nat}{q:Rat}(h:Hb k q):rl q<=2*(k+1):=by
 have hB:∀n:Nat,n<=2^k->lh n<=k+1:=fun n hn=>jO (by
  have h1:2^(k+1)<=aq^(k+1):=zD (by decide) _;have h2:2^k<2^(k+1):=Nat.pow_lt_pow_right (by omega) (by omega);omega)
 have h1:=hB _ h.1;have h2:=hB _ h.2;unfold Fl.rl;omega
noncomputable def NQ(D:Nat):NC:=⟨fun z=>.int .i64 (mkRat z D).num.sign,fun z=>.sl ((dh (mkRat z D).num.natAbs).map af),fun _=>.int .i64 1,fun z=>.sl ((dh (mkRat z D).den).map af)⟩
noncomputable def aF(t:Tm):IV:=yU t.1 t.2
theorem CT(J:Keep){n j:Nat}{f:List Tm}(hl:f.length<10000)(hn:n<100)(hp:∀t∈f,t.1.length=n/\bq t.1<2^62)(hb:∀t∈f,Hb j t.2)(hs:f.length*(j+1)<2^32):C J 18 [.sl (f.map aF)] (.sl ((aN f).map aF)):=by
 obtain⟨D,zs,hD,e⟩:=Reg.Ly f;have em:∀l:List Tz,(l.map (Reg.gH D)).map aF=l.map (tz (NQ D)):=fun l=>by rw[jF];rfl
 have hlz:zs.length=f.length:=by rw[e,cT]
 have hj:j+1<=2^32\/f.length=0:=by
  rcases XI f.length with h|h
  . exact .inr h
  . exact .inl (kt (g9 (EF _ h) hs))
 have hins:∀i,∀o∈Reg.dl (zs.take i),Hb (f.length*(j+1)) (mkRat o.2 D):=fun i o ho=>by
  have h1:=Reg.Hw hD (zs.take i);rw[zL,<-e] at h1;have h2:=Reg.I9 (j:=j) (f:=f.take i) (fun t ht=>hb t (dH ht)) (Reg.gH D o) (by rw[h1];exact zW ho);exact h2.mono (bW _ (by simp;omega))
 rw[e,Reg.Re hD,em,em];refine Up J (n:=n) (by omega) hn (fun t ht=>hp (Reg.gH D t) (by rw[e];exact zW ht)) (fun i h o ho _=>?_) (fun o ho=>?_)
 . have hz:Hb j (mkRat zs[i].2 D):=hb (Reg.gH D zs[i]) (by rw[e];exact zW (bV h));have h1:=jP (hins i o ho);have h2:=jP hz;have c:=Kj J (kJ (mkRat o.2 D)) (kJ (mkRat zs[i].2 D)) (by omega) (by omega);rw[Reg.Hh hD] at c;exact c
 . refine⟨_,U2 J (a:=mkRat o.2 D) (d1:=.int .i64 1) (d2:=.sl ((dh (mkRat o.2 D).den).map af)),?_⟩;rw[Int.sign_eq_zero_iff_zero,Rat.num_eq_zero,Rat.mkRat_eq_zero (by omega)]
theorem Uo(J:Keep){n j:Nat}{f:List Tm}(hl:f.length<10000)(hn:n<100)(hp:∀t∈f,t.1.length=n/\bq t.1<2^62)(hb:∀t∈f,Hb j t.2)(hs:f.length*(j+1)<2^32):C J 19 [.sl (f.map aF)] (.int .i64 (cY f)):=by
 have c1:=CT J hl hn hp hb hs;have hkeys:∀t∈aN f,∃y∈f,t.1=y.1:=fun t ht=>by
  have:=Reg.pj (f:=f) f.length (ak _);rw[cU] at this;exact this t (List.mem_filter.1 ((Reg.nN (n:=n) fun t ht=>(hp t ht).1).1.mem_iff.1 ht)).1
 have hcl:(aN f).length<=f.length:=by
  rw[(Reg.nN (n:=n) fun t ht=>(hp t ht).1).1.length_eq];exact aP (oV _ _) (Reg.pv f)
 refine aI Tryz.func19 rfl rfl rfl ?_;unfold cY;obtain⟨g,hg⟩:∃g,aN f=g:=⟨_,rfl⟩;rw[hg] at c1 hkeys hcl;rw[hg];have lg:(g.map aF).length=g.length:=by simp
 cases g with
 |nil=>
  repeat (((first|refine W.R (by kernel_rfl) ?_|refine W.c rfl ?_|refine⟨_,c1,?_⟩|refine⟨_,rfl,?_⟩|refine xr ?_);conv=>whnf))
  rfl
 |cons o os=>
  have hl1:os.length<(o::os).length:=by simp
  obtain⟨x,hx⟩:∃x,(o::os)[os.length]?=some x:=⟨_,aQ hl1⟩;have e:(o::os).getLast?=some x:=by
   rw[XG,bf,vG,hx]
  rw[e];have gv:(((o::os).map aF):List IV)[os.length]?=some (yU x.1 x.2):=by rw[dw,hx];rfl
  obtain⟨y,hy,ey⟩:=hkeys x (cd hx);have c2:=BL J (l:=x.1) (by rw[ey,(hp y hy).1];omega) (by rw[ey];exact(hp y hy).2);have hos:os.length<2^40:=by simp only[bf] at hcl;omega
  have hw:IntKind.i64.wrap ((((os.map aF).length+1:Nat):Int)-1)=((os.length:Nat):Int):=by
   rw[cT,show((os.length+1:Nat):Int)-1=((os.length:Nat):Int) by omega];exact b7 (by omega)
  repeat (((first|refine W.R (by kernel_rfl) ?_|refine W.c rfl ?_|refine⟨_,c1,?_⟩|refine⟨_,c2,?_⟩|refine⟨os.length,_,hw,gv,rfl,?_⟩|refine⟨_,jr _,?_⟩|refine xF (by omega) ?_|refine⟨_,rfl,?_⟩|refine xr ?_);conv=>whnf))
  rfl
end Go.Proofs.Fl
namespace Go.Proofs.Fl
open Go.RowKit Go.Proofs.Dig
attribute [local irreducible] IntKind.wrap aY be bm bt
open Go.Proofs.En (bg ip gG)
open Go.Proofs.Reg (Tm aN Hb)
theorem F9(l:List Int)(k:Int):sumI (l ++ [k])=sumI l+k:=by
 induction l with
 |nil=>simp[sumI]
 |cons x l ih=>simp only[g8,sumI,ih];omega
theorem BC{l:List Int}(h:∀x∈l,0<=x):0<=sumI l/\∀x∈l,x<=sumI l:=by
 induction l with
 |nil=>exact⟨L6 _,fun _ h=>by cases h⟩
 |cons y l ih=>
  obtain⟨h1,h2⟩:=ih fun x hx=>h x (dx _ hx);have:=h y kp;refine⟨by simp only[sumI];omega,fun x hx=>?_⟩;rcases List.mem_cons.1 hx with rfl|hx
  . simp only[sumI];omega
  . have:=h2 x hx;simp only[sumI];omega
theorem TZ{n:Int}{p:List Int}(h1:(p.length:Int)=n)(h2:∀x∈p,0<=x)(h3:sumI p<=24):gG n p=false:=by
 have h4:=(BC h2).2;have ho:p.any gV=false:=List.any_eq_false.2 fun x hx=>by
  have:=h2 x hx;have:=h4 x hx;unfold gV;simp only[d9];omega
 unfold gG;rw[ho,bu h1,bz (show ¬(24<sumI p) by omega)];rfl
theorem H9{n:Int}{p:List Int}{x:Int}(hx:x∈p)(h:x<0):gG n p=true:=by
 have:p.any gV=true:=List.any_eq_true.2 ⟨x,hx,by unfold gV;simp only[d9];omega⟩;unfold gG;rw[this];simp
theorem Rh{n:Int}{p:List Int}{k:Nat}{x:Int}(hk:k<p.length)(hx:p.getD k 0=x)(h:24-sumI (p.take k)<x):gG n p=true:=by
 by_cases hneg:∃y∈p,y<0
 . obtain⟨y,hy,h0⟩:=hneg;exact H9 hy h0
 . have hall:∀y∈p,0<=y:=fun y hy=>by
    apply fP;intro hc;exact hneg ⟨y,hy,by omega⟩
   have e:p.take (k+1)=p.take k ++ [x]:=by
    rw[je hk,<-hx,aV,aQ hk];rfl
   have e2:sumI p=sumI (p.take (k+1))+sumI (p.drop (k+1)):=by
    have:∀a b:List Int,sumI (a++b)=sumI a+sumI b:=fun a b=>by
     induction a with
     |nil=>simp[sumI]
     |cons y l ih=>simp only[g8,sumI,ih];omega
    rw[<-this,ks]
   have e3:=(BC (l:=p.drop (k+1)) fun y hy=>hall y (iu hy)).1;rw[e,F9] at e2;unfold gG;rw[bu (show 24<sumI p by omega)];simp
theorem Og{n:Int}{f:List Tm}{i:Nat}(h:i<f.length)(hb:gG n f[i].1=true):bg n f=false:=by
 have:f.any (ip n)=true:=List.any_eq_true.2 ⟨f[i],bV h,hb⟩;unfold bg;rw[this];simp
theorem Cz(J:Keep){n:Int}{f:List Tm}(hf:f.length<2^40)(hl:∀t∈f,t.1.length<2^50):C J 13 [.int .i64 n,.sl (f.map aF)] (.bool (bg n f)):=by
 refine aI Tryz.func13 rfl rfl rfl ?_;have lf:(f.map aF).length=f.length:=by simp
 by_cases hn:n<1
 . rw[show bg n f=false by unfold bg;rw[bz (by omega)];rfl];repeat (((first|refine W.R (by kernel_rfl) ?_|refine W.c rfl ?_|refine xT (by omega) ?_|refine xr ?_|refine xB ?_);conv=>whnf))
   rfl
 by_cases hn4:n>4
 . rw[show bg n f=false by unfold bg;rw[bz (by omega)];rfl];repeat (((first|refine W.R (by kernel_rfl) ?_|refine W.c rfl ?_|refine xT (by omega) ?_|refine xF (by omega) ?_|refine xr ?_|refine xA ?_|refine xB ?_);conv=>whnf))
   rfl
 by_cases h5:f.length>500
 . rw[show bg n f=false by unfold bg;rw[bz (show ¬(f.length<=500) by omega)];simp];repeat (((first|refine W.R (by kernel_rfl) ?_|refine W.c rfl ?_|refine xT (by omega) ?_|refine xF (by omega) ?_|refine⟨_,rfl,?_⟩|refine xr ?_|refine xA ?_);conv=>whnf))
   rfl
 repeat (((first|refine W.R (by kernel_rfl) ?_|refine W.c rfl ?_|refine xF (by omega) ?_|refine⟨_,rfl,?_⟩|refine xr ?_|refine xA ?_);conv=>whnf))
 refine W.loop (G:={ i:Nat // i<=f.length/\(f.take i).any (ip n)=false }) (fun i=>am [(0,.iv (.int .i64 n)),(1,.iv (.sl (f.map aF))),(5,.iv (.int .i64 (i.1:Int)))] [] 20) (fun i=>f.length-i.1) ⟨0,bb _,by simp⟩ (Wk.tab [] ⟨aa,aa,aa,ab⟩ trivial rfl) ?_;rintro⟨i,hi,hall⟩;have hi:i<=f.length:=hi;show W J _ _ (am [(0,.iv (.int .i64 n)),(1,.iv (.sl (f.map aF))),(5,.iv (.int .i64 (i:Int)))] [] 20) _;by_cases hie:i<f.length
 . have g:(f.map aF)[i]?=some (aF f[i]):=by simp[hie]
   have tk:f.take (i+1)=f.take i ++ [f[i]]:=je hie;have hbad:=Og (n:=n) hie;have hpl:=hl f[i] (bV hie);obtain⟨⟨p,q⟩,hx⟩:∃x,f[i]=x:=⟨_,rfl⟩;rw[hx] at g tk hbad hpl;have g:(f.map aF)[i]?=some (.agg [.sl (p.map di),.int .i64 q.num.sign,.sl ((dh q.num.natAbs).map af),.int .i64 1,.sl ((dh q.den).map af)]):=g;have lp:(p.map di).length=p.length:=by simp
   by_cases hpn:(p.length:Int)=n
   . repeat (((first|refine W.R (by kernel_rfl) ?_|refine W.c rfl ?_|refine⟨i,_,rfl,g,rfl,?_⟩|refine xT (by omega) ?_|refine⟨false,bne_eq_false_iff_eq.2 (by omega),?_⟩|refine⟨_,rfl,?_⟩|refine xr ?_);conv=>whnf))
     refine W.loop (G:={ k:Nat // k<=p.length/\(∀y∈p.take k,0<=y)/\sumI (p.take k)<=24 }) (fun k=>am [(0,.iv (.int .i64 n)),(1,.iv (.sl (f.map aF))),(5,.iv (.int .i64 (i:Int))),(6,.iv (.int .i64 (24-sumI (p.take k.1)))),(7,.iv (.int .i64 (k.1:Int)))] [] 40) (fun k=>p.length-k.1) ⟨0,bb _,by simp,by show(0:Int)<=24;decide⟩ (Wk.tab [] ⟨aa,aa,aa,aa,aa,ab⟩ trivial rfl) ?_;rintro⟨k,hk,hpos,hsum⟩;have hk:k<=p.length:=hk;show W J _ _ (am [(0,.iv (.int .i64 n)),(1,.iv (.sl (f.map aF))),(5,.iv (.int .i64 (i:Int))),(6,.iv (.int .i64 (24-sumI (p.take k)))),(7,.iv (.int .i64 (k:Int)))] [] 40) _;by_cases hke:k<p.length
     . have gk:=fY hke;have pk:p.take (k+1)=p.take k ++ [p.getD k 0]:=by
        rw[je hke,aV,aQ hke];rfl
       have hmem:p.getD k 0∈p:=by rw[aV,aQ hke];exact bV hke
       have hb1:=H9 (n:=n) hmem;have hb2:=Rh (n:=n) (x:=p.getD k 0) hke rfl;have sb:=(BC hpos).1;have sn:=F9 (p.take k) (p.getD k 0);obtain⟨y,hy⟩:∃y,p.getD k 0=y:=⟨_,rfl⟩;rw[hy] at gk pk hb1 hb2 sn;obtain⟨s,hs⟩:∃s,sumI (p.take k)=s:=⟨_,rfl⟩;have hsum:sumI (p.take k)<=24:=hsum;obtain⟨L,hL⟩:∃L,24-sumI (p.take k)=L:=⟨_,rfl⟩;rw[hL] at hb2;rw[hL];rw[hs] at sb sn hsum hL;by_cases hy0:y<0
       . rw[hbad (hb1 hy0)];repeat (((first|refine W.R (by kernel_rfl) ?_|refine W.c rfl ?_|refine⟨i,_,rfl,g,rfl,?_⟩|refine⟨k,_,rfl,gk,rfl,?_⟩|refine xT (by omega) ?_|refine xr ?_|refine xB ?_);conv=>whnf))
         rfl
       . by_cases hyL:y>L
         . rw[hbad (hb2 hyL)];repeat (((first|refine W.R (by kernel_rfl) ?_|refine W.c rfl ?_|refine⟨i,_,rfl,g,rfl,?_⟩|refine⟨k,_,rfl,gk,rfl,?_⟩|refine xT (by omega) ?_|refine xF (by omega) ?_|refine xr ?_|refine xA ?_);conv=>whnf))
           rfl
         . have hw:IntKind.i64.wrap (L-y)=L-y:=b7 (by omega);repeat (((first|refine W.R (by kernel_rfl) ?_|refine W.c rfl ?_|refine⟨i,_,rfl,g,rfl,?_⟩|refine⟨k,_,rfl,gk,rfl,?_⟩|refine ap (by omega) ?_|refine xT (by omega) ?_|refine xF (by omega) ?_|refine xr ?_|refine xA ?_);conv=>whnf))
           refine⟨⟨k+1,hke,?_,?_⟩,?_,by dsimp only;omega⟩
           . rw[pk];intro z hz;rcases List.mem_append.1 hz with hz|hz
             . exact hpos z hz
             . rw[List.mem_singleton.1 hz];omega
           . rw[pk,sn];omega
           . show Wk _ (am [(0,.iv (.int .i64 n)),(1,.iv (.sl (f.map aF))),(5,.iv (.int .i64 (i:Int))),(6,.iv (.int .i64 (24-sumI (p.take (k+1))))),(7,.iv (.int .i64 ((k+1:Nat):Int)))] [] 40);rw[pk,sn,show 24-(s+y)=L-y by omega];exact Wk.tab [] ⟨aa,aa,aa,aa,aa,ab⟩ trivial rfl
     . have ek:k=p.length:=by omega
       subst ek;have hpos':=hpos;have hsum':=hsum;rw[cU] at hpos' hsum';have hok:=TZ hpn hpos' hsum';have fa:(f.take (i+1)).any (ip n)=false:=by rw[tk,MY,hall,zp,show ip n (p,q)=false from hok];rfl
       obtain⟨L,hL⟩:∃L,24-sumI (p.take p.length)=L:=⟨_,rfl⟩;rw[hL];repeat (((first|refine W.R (by kernel_rfl) ?_|refine W.c rfl ?_|refine ap (by omega) ?_|refine xF (by omega) ?_|refine xr ?_);conv=>whnf))
       exact⟨⟨i+1,hie,fa⟩,Wk.tab [] ⟨aa,aa,aa,ab⟩ trivial rfl,by dsimp only;omega⟩
   . have hb:gG n p=true:=by unfold gG;rw[bz hpn];rfl
     rw[hbad hb];repeat (((first|refine W.R (by kernel_rfl) ?_|refine W.c rfl ?_|refine⟨i,_,rfl,g,rfl,?_⟩|refine xT (by omega) ?_|refine⟨true,bne_iff_ne.2 (by omega),?_⟩|refine⟨_,rfl,?_⟩|refine xr ?_);conv=>whnf))
     rfl
 . have e:i=f.length:=by omega
   subst e;have hall':=hall;rw[cU] at hall';rw[show bg n f=true by unfold bg;rw[hall',bu (show 1<=n/\n<=4 by omega),bu (show f.length<=500 by omega)];rfl];repeat (((first|refine W.R (by kernel_rfl) ?_|refine W.c rfl ?_|refine xF (by omega) ?_|refine⟨_,rfl,?_⟩|refine xr ?_);conv=>whnf))
   rfl
end Go.Proofs.Fl
namespace Go.Proofs.Fl
open Go.RowKit Go.Proofs.Dig
attribute [local irreducible] IntKind.wrap aY be bm bt
open Go.Proofs.En (bg uM)
open Go.Proofs.Reg (Tm aN Hb)
theorem CQ{c:Rat}{xs:List Rat}{p:List Int}{j:Nat}(hc:Hb j c)(hx:∀x∈xs,Hb j x)(hp:∀k∈p,0<=k/\k<=24):∀i,Hb (j+i*(j*24)) (En.dF c xs p i)/\Hb (j*24) ((xs.getD i 0)^(p.getD i 0).toNat):=by
 have h1:∀i,Hb (j*24) ((xs.getD i 0)^(p.getD i 0).toNat):=fun i=>by
  have hx':Hb j (xs.getD i 0):=by
   rw[aV];cases h:xs[i]? with
   |none=>exact Hb.zero j
   |some x=>exact hx x (cd h)
  have hk:(p.getD i 0).toNat<=24:=by
   rw[aV];cases h:p[i]? with
   |none=>show(0:Int).toNat<=24;decide
   |some k=>have:=hp k (cd h);show k.toNat<=24;omega
  exact(hx'.pow _).mono (fG _ hk)
 intro i;refine⟨?_,h1 i⟩;induction i with
 |zero=>exact hc.mono (zP _ _)
 |succ i ih=>show Hb _ (En.dF c xs p i*_);exact(ih.mul (h1 i)).mono (by rw[qX];omega)
theorem xX{f:List Tm}{xs:List Rat}{j n:Nat}(hf:∀t∈f,Hb j t.2/\t.1.length=n/\∀k∈t.1,0<=k/\k<=24)(hx:∀x∈xs,Hb j x):∀t,Hb (t*(j+n*(j*24)+1)) (En.evS f xs t)
 |0=>Hb.zero _
 |t+1=>by
  have ih:=xX hf hx t;rw[qX];show Hb _ (En.evS f xs t+(match f[t]? with
   |some x=>En.dF x.2 xs x.1 x.1.length
   |none=>0))
  cases h:f[t]? with
  |none=>exact(ih.add (Hb.zero (j+n*(j*24)))).mono (by omega)
  |some x=>
   obtain⟨h1,h2,h3⟩:=hf x (cd h);have:=(CQ h1 hx h3 x.1.length).1;rw[h2] at this;have e:x.1.length=n:=h2;simp only[e];exact(ih.add this).mono (by omega)
theorem mX{k:Nat}{q:Rat}(h:Hb k q):az q<=2*(k+1):=aP (xJ q) (jP h)
theorem Vr{f:List Tm}{xs:List Rat}{j n:Nat}(hf:∀t∈f,Hb j t.2/\t.1.length=n/\∀k∈t.1,0<=k/\k<=24)(hx:∀x∈xs,Hb j x)(hs:(f.length+1)*(j+n*(j*24)+1)<2^26):uM f xs:=by
 have h0:j+n*(j*24)+1<=(f.length+1)*(j+n*(j*24)+1):=EF _ (by omega);refine⟨fun x h=>?_,fun t ht i hi=>?_,fun t ht=>?_⟩
 . have:=mX (hx x h);omega
 . obtain⟨h1,h2,h3⟩:=hf t ht;obtain⟨a,b⟩:=CQ h1 hx h3 i;have ha:=mX a;have hb:=mX b;have hin:i*(j*24)<=n*(j*24):=bW _ (by omega);refine⟨by omega,?_⟩;rcases XI n with hn|hn
   . have e:t.1=[]:=List.length_eq_zero_iff.1 (by omega);rw[e];show az ((xs.getD i 0)^0)<_;rw[zV];have:Hb 0 (1:Rat):=⟨ak _,ak _⟩;have:=mX this;omega
   . have:j*24<=n*(j*24):=EF _ hn;omega
 . have:=mX (xX hf hx t);have:t*(j+n*(j*24)+1)<=(f.length+1)*(j+n*(j*24)+1):=bW _ (by omega);omega
theorem Uq(J:Keep){f:List Tm}{xs:List Rat}{j:Nat}(hf:∀t∈f,Hb j t.2/\t.1.length=xs.length/\∀k∈t.1,0<=k/\k<=24)(hx:∀x∈xs,Hb j x)(hfl:f.length<2^20)(hxl:xs.length<2^20)(hs:(f.length+1)*(j+xs.length*(j*24)+1)<2^26):C J 15 [.sl (f.map aF),.sl (xs.map fun x=>rr x)] (rr (En.evS f xs f.length)):=by
 have h0:j+xs.length*(j*24)+1<=(f.length+1)*(j+xs.length*(j*24)+1):=EF _ (by omega);have hes:=fun t=>xX hf hx t;refine aI Tryz.func15 rfl rfl rfl ?_;have lf:(f.map aF).length=f.length:=by simp
 have lx:(xs.map fun x=>rr x).length=xs.length:=by simp
 have c0:C J 37 [.int .i64 0] (rr 0):=U1 J (z:=0) (by decide) (by decide);have e0:En.evS f xs 0=0:=rfl;repeat (((first|refine W.R (by kernel_rfl) ?_|refine W.c rfl ?_|refine⟨_,c0,?_⟩);conv=>whnf))
 refine W.loop (G:={ t:Nat // t<=f.length }) (fun t=>am [(0,.iv (.sl (f.map aF))),(1,.iv (.sl (xs.map fun x=>rr x))),(4,.ptr 0 0),(5,.ptr 1 0),(6,.iv (.int .i64 (t.1:Int)))] [(0,.var (.agg [.int .i64 0,.sl [],.int .i64 0,.sl []])),(1,.var (rr (En.evS f xs t.1)))] 20) (fun t=>f.length-t.1) ⟨0,bb _⟩
  (Wk.tab [(1,2)] ⟨aa,aa,aa,aa,aa,ab⟩ ⟨rfl,uC (by rw[e0]),ab⟩ rfl) ?_
 rintro⟨t,ht⟩;have ht:t<=f.length:=ht;show W J _ _ (am [(0,.iv (.sl (f.map aF))),(1,.iv (.sl (xs.map fun x=>rr x))),(4,.ptr 0 0),(5,.ptr 1 0),(6,.iv (.int .i64 (t:Int)))] [(0,.var (.agg [.int .i64 0,.sl [],.int .i64 0,.sl []])),(1,.var (rr (En.evS f xs t)))] 20) _;by_cases hte:t<f.length
 . have g:(f.map aF)[t]?=some (aF f[t]):=by simp[hte]
   have hsn:En.evS f xs (t+1)=En.evS f xs t+En.dF f[t].2 xs f[t].1 f[t].1.length:=by
    show En.evS f xs t+(match f[t]? with
     |some x=>En.dF x.2 xs x.1 x.1.length
     |none=>0)=_
    rw[aQ hte]
   have hmem:=hf f[t] (bV hte);obtain⟨⟨p,q⟩,hpq⟩:∃x,f[t]=x:=⟨_,rfl⟩;rw[hpq] at g hsn hmem;obtain⟨hq,hpl,hpk⟩:=hmem;have hpl:p.length=xs.length:=hpl;have g:(f.map aF)[t]?=some (.agg [.sl (p.map di),.int .i64 q.num.sign,.sl ((dh q.num.natAbs).map af),.int .i64 1,.sl ((dh q.den).map af)]):=g;have lp:(p.map di).length=p.length:=by simp
   have hev:=fun i=>CQ hq hx hpk i;have est:=hes t;obtain⟨S,hS⟩:∃S,En.evS f xs t=S:=⟨_,rfl⟩;rw[hS] at hsn est;rw[hS];have ep0:En.dF q xs p 0=q:=rfl;repeat (((first|refine W.R (by kernel_rfl) ?_|refine W.c rfl ?_|refine⟨t,_,rfl,g,rfl,?_⟩|refine xT (by omega) ?_|refine⟨_,rfl,?_⟩|refine xr ?_);conv=>whnf))
   refine W.loop (G:={ i:Nat // i<=xs.length }) (fun i=>am [(0,.iv (.sl (f.map aF))),(1,.iv (.sl (xs.map fun x=>rr x))),(4,.ptr 0 0),(5,.ptr 1 0),(6,.iv (.int .i64 (t:Int))),(7,.ptr 2 0),(8,.iv (.int .i64 (i.1:Int)))] [(0,.var (.agg [.int .i64 0,.sl [],.int .i64 0,.sl []])),(1,.var (rr S)),(2,.var (rr (En.dF q xs p i.1)))] 40) (fun i=>xs.length-i.1) ⟨0,bb _⟩
    (Wk.tab [(2,29)] ⟨aa,aa,aa,aa,aa,aa,aa,ab⟩ ⟨rfl,rfl,uC (by rw[ep0];rfl),ab⟩ rfl) ?_
   rintro⟨i,hi⟩;have hi:i<=xs.length:=hi;show W J _ _ (am [(0,.iv (.sl (f.map aF))),(1,.iv (.sl (xs.map fun x=>rr x))),(4,.ptr 0 0),(5,.ptr 1 0),(6,.iv (.int .i64 (t:Int))),(7,.ptr 2 0),(8,.iv (.int .i64 (i:Int)))] [(0,.var (.agg [.int .i64 0,.sl [],.int .i64 0,.sl []])),(1,.var (rr S)),(2,.var (rr (En.dF q xs p i)))] 40) _;by_cases hie:i<xs.length
   . have gk:=fY (l:=p) (i:=i) (by omega);have gx:(xs.map fun x=>rr x)[i]?=some (rr (xs.getD i 0)):=by
      rw[dw,aV,aQ hie];rfl
     have hk:=hpk (p.getD i 0) (by rw[aV,aQ (by omega:i<p.length)];exact bV _);have hxi:=hx (xs.getD i 0) (by rw[aV,aQ hie];exact bV hie);have ei:En.dF q xs p (i+1)=En.dF q xs p i*(xs.getD i 0)^(p.getD i 0).toNat:=rfl;have hei:=(hev i).1;obtain⟨k,ek⟩:∃k,p.getD i 0=k:=⟨_,rfl⟩;obtain⟨x,ex⟩:∃x,xs.getD i 0=x:=⟨_,rfl⟩;obtain⟨v,ev⟩:∃v,En.dF q xs p i=v:=⟨_,rfl⟩;rw[ek] at gk hk ei;rw[ex] at gx hxi ei;rw[ev] at ei hei;rw[ev];have p0:v*x^0=v:=by rw[zV,Rat.mul_one]
     repeat (((first|refine W.R (by kernel_rfl) ?_|refine W.c rfl ?_|refine xT (by omega) ?_|refine⟨_,rfl,?_⟩|refine xr ?_);conv=>whnf))
     refine W.loop (G:={ m:Nat // m<=k.toNat }) (fun m=>am [(0,.iv (.sl (f.map aF))),(1,.iv (.sl (xs.map fun x=>rr x))),(4,.ptr 0 0),(5,.ptr 1 0),(6,.iv (.int .i64 (t:Int))),(7,.ptr 2 0),(8,.iv (.int .i64 (i:Int))),(9,.iv (.int .i64 (m.1:Int)))] [(0,.var (.agg [.int .i64 0,.sl [],.int .i64 0,.sl []])),(1,.var (rr S)),(2,.var (rr (v*x^m.1)))] 60) (fun m=>k.toNat-m.1) ⟨0,bb _⟩
      (Wk.tab [] ⟨aa,aa,aa,aa,aa,aa,aa,aa,ab⟩ ⟨rfl,rfl,uC (by rw[p0]),ab⟩ rfl) ?_
     rintro⟨m,hm⟩;have hm:m<=k.toNat:=hm;show W J _ _ (am [(0,.iv (.sl (f.map aF))),(1,.iv (.sl (xs.map fun x=>rr x))),(4,.ptr 0 0),(5,.ptr 1 0),(6,.iv (.int .i64 (t:Int))),(7,.ptr 2 0),(8,.iv (.int .i64 (i:Int))),(9,.iv (.int .i64 (m:Int)))] [(0,.var (.agg [.int .i64 0,.sl [],.int .i64 0,.sl []])),(1,.var (rr S)),(2,.var (rr (v*x^m)))] 60) _;by_cases hmk:m<k.toNat
     . have hpm:=hei.mul ((hxi.pow m).mono (fG j (show m<=24 by omega)));have hin:i*(j*24)+j*24<=xs.length*(j*24):=by rw[<-qX];exact bW _ hie
       have e1:=jP hpm;have e2:=jP hxi;have c1:=CO J (kJ (v*x^m)) (kJ x) (by omega) (by omega);rw[Rat.mul_assoc,<-tw] at c1;repeat (((first|refine W.R (by kernel_rfl) ?_|refine W.c rfl ?_|refine⟨t,_,rfl,g,rfl,?_⟩|refine⟨i,_,rfl,gk,rfl,?_⟩|refine⟨i,_,rfl,gx,rfl,?_⟩|refine⟨_,c1,?_⟩|refine ap (by omega) ?_|refine xT (by omega) ?_|refine xr ?_);conv=>whnf))
       exact⟨⟨m+1,hmk⟩,Wk.tab [] ⟨aa,aa,aa,aa,aa,aa,aa,aa,ab⟩ ⟨rfl,rfl,rfl,ab⟩ rfl,by dsimp only;omega⟩
     . have em:m=k.toNat:=by omega
       subst em;rw[<-ei];repeat (((first|refine W.R (by kernel_rfl) ?_|refine W.c rfl ?_|refine⟨t,_,rfl,g,rfl,?_⟩|refine⟨i,_,rfl,gk,rfl,?_⟩|refine ap (by omega) ?_|refine xF (by omega) ?_|refine xr ?_);conv=>whnf))
       exact⟨⟨i+1,hie⟩,Wk.tab [] ⟨aa,aa,aa,aa,aa,aa,aa,ab⟩ ⟨rfl,rfl,rfl,ab⟩ rfl,by dsimp only;omega⟩
   . have ei:i=xs.length:=by omega
     subst ei;have hei:=(hev xs.length).1;rw[hpl] at hsn;obtain⟨v,ev⟩:∃v,En.dF q xs p xs.length=v:=⟨_,rfl⟩;rw[ev] at hsn hei;rw[ev];have htm:t*(j+xs.length*(j*24)+1)<=(f.length+1)*(j+xs.length*(j*24)+1):=bW _ (by omega);have e1:=jP est;have e2:=jP hei;have c1:=Kj J (kJ S) (kJ v) (by omega) (by omega);rw[<-hsn] at c1;repeat (((first|refine W.R (by kernel_rfl) ?_|refine W.c rfl ?_|refine⟨_,c1,?_⟩|refine ap (by omega) ?_|refine xF (by omega) ?_|refine⟨_,rfl,?_⟩|refine xr ?_);conv=>whnf))
     exact⟨⟨t+1,hte⟩,Wk.tab [] ⟨aa,aa,aa,aa,aa,ab⟩ ⟨rfl,rfl,ab⟩ rfl,by dsimp only;omega⟩
 . have e:t=f.length:=by omega
   subst e;repeat (((first|refine W.R (by kernel_rfl) ?_|refine W.c rfl ?_|refine xF (by omega) ?_|refine⟨_,rfl,?_⟩|refine xr ?_);conv=>whnf))
   rfl
end Go.Proofs.Fl
namespace Go.Proofs.Fl
open Go.RowKit Go.Proofs.Dig
attribute [local irreducible] IntKind.wrap aY be bm bt
open Go.Proofs.Reg (Tm aN Hb bw cN jv)
noncomputable def oG:List Tm->SV
 | []=>.nilS
 |_::l=>.ref 0 0 (l.length+1) true
noncomputable def oL:List Tm->List (Nat×Bx)
 | []=>[]
 |x::l=>[(0,.arr 92 5 ((x::l).map aF) false)]
def yV:Nat->SV
 |0=>.nilS
 |j+1=>.ref 1 0 (j+1) true
def za(z:List Int):Nat->List (Nat×Bx)
 |0=>[]
 |j+1=>[(1,.arr 3 1 ((z.take (j+1)).map di) false)]
theorem P6{p r:List Int}(h:p.length=r.length)(j:Nat)(hj:j<p.length):(List.zipWith (· + ·) p r).take (j+1)=(List.zipWith (· + ·) p r).take j ++ [p.getD j 0+r.getD j 0]:=by
 have hz:j<(List.zipWith (· + ·) p r).length:=by simp;omega
 rw[je hz,XH,aV,aV,aQ hj,aQ (by omega:j<r.length)];rfl
theorem Un(J:Keep){A B:List Tm}{n:Nat}(hA5:A.length<=500)(hB5:B.length<=500)(hn:1<=n)(hn2:n<1000)(hA:∀t∈A,t.1.length=n/\∀k∈t.1,0<=k/\k<=24)(hB:∀t∈B,t.1.length=n/\∀k∈t.1,0<=k/\k<=24)(hq:∀t∈A,rl t.2<2^33)(hs:∀t∈B,rl t.2<2^33)(hc:C J 18 [.sl ((bw A B).map aF)] (.sl ((aN (bw A B)).map aF))):C J 20 [.sl (A.map aF),.sl (B.map aF)] (.sl ((aN (bw A B)).map aF)):=by
 refine aI Tryz.func20 rfl rfl rfl ?_;have lA:(A.map aF).length=A.length:=by simp
 have lB:(B.map aF).length=B.length:=by simp
 have hbig:∀{a:Nat},a<=300000->a*88<=(140737488355328:Nat)/\a<=maxLen:=fun{a} ha=>by
  unfold maxLen;exact⟨by omega,by omega⟩
 repeat (((first|refine W.R (by kernel_rfl) ?_|refine W.c rfl ?_);conv=>whnf))
 refine W.loop (G:={ i:Nat // i<=A.length }) (fun i=>am [(0,.iv (.sl (A.map aF))),(1,.iv (.sl (B.map aF))),(5,oG (bw (A.take i.1) B)),(6,.iv (.int .i64 (i.1:Int)))] (oL (bw (A.take i.1) B)) 20) (fun i=>A.length-i.1) ⟨0,bb _⟩
  (Wk.tab [] ⟨aa,aa,aa,aa,ab⟩ trivial rfl) ?_
 rintro⟨i,hi⟩;have hi:i<=A.length:=hi;show W J _ _ (am [(0,.iv (.sl (A.map aF))),(1,.iv (.sl (B.map aF))),(5,oG (bw (A.take i) B)),(6,.iv (.int .i64 (i:Int)))] (oL (bw (A.take i) B)) 20) _;by_cases hie:i<A.length
 . obtain⟨⟨p,q⟩,hpq⟩:∃x,A[i]?=some x:=⟨_,aQ hie⟩;obtain⟨hp1,hp2⟩:=hA _ (cd hpq);have hp1:p.length=n:=hp1;have hq1:rl q<2^33:=hq _ (cd hpq);have ga:(A.map aF)[i]?=some (.agg [.sl (p.map di),.int .i64 q.num.sign,.sl ((dh q.num.natAbs).map af),.int .i64 1,.sl ((dh q.den).map af)]):=by rw[dw,hpq];rfl
   have lp:(p.map di).length=p.length:=by simp
   have eos0:bw (A.take i) B=cN A B i 0:=Reg.IN.symm;have eosE:=Reg.IM (B:=B) hpq;rw[eos0];repeat (((first|refine W.R (by kernel_rfl) ?_|refine W.c rfl ?_|refine xT (by omega) ?_|refine⟨_,rfl,?_⟩|refine xr ?_);conv=>whnf))
   refine W.loop (G:={ k:Nat // k<=B.length }) (fun k=>am [(0,.iv (.sl (A.map aF))),(1,.iv (.sl (B.map aF))),(5,oG (cN A B i k.1)),(6,.iv (.int .i64 (i:Int))),(7,.iv (.int .i64 (k.1:Int)))] (oL (cN A B i k.1)) 40) (fun k=>B.length-k.1) ⟨0,bb _⟩ ?_ ?_
   . show Wk _ (am [(0,.iv (.sl (A.map aF))),(1,.iv (.sl (B.map aF))),(5,oG (cN A B i 0)),(6,.iv (.int .i64 (i:Int))),(7,.iv (.int .i64 0))] (oL (cN A B i 0)) 40);generalize cN A B i 0=os;cases os with
     |nil=>exact Wk.tab [] ⟨aa,aa,aa,aa,aa,ab⟩ trivial rfl
     |cons o os=>exact Wk.tab [] ⟨aa,aa,aa,aa,aa,ab⟩ ⟨rfl,ab⟩ rfl
   rintro⟨k,hk⟩;have hk:k<=B.length:=hk;show W J _ _ (am [(0,.iv (.sl (A.map aF))),(1,.iv (.sl (B.map aF))),(5,oG (cN A B i k)),(6,.iv (.int .i64 (i:Int))),(7,.iv (.int .i64 (k:Int)))] (oL (cN A B i k)) 40) _;by_cases hke:k<B.length
   . obtain⟨⟨r,s⟩,hrs⟩:∃x,B[k]?=some x:=⟨_,aQ hke⟩;obtain⟨hr1,hr2⟩:=hB _ (cd hrs);have hr1:r.length=n:=hr1;have hs1:rl s<2^33:=hs _ (cd hrs);have gb:(B.map aF)[k]?=some (.agg [.sl (r.map di),.int .i64 s.num.sign,.sl ((dh s.num.natAbs).map af),.int .i64 1,.sl ((dh s.den).map af)]):=by rw[dw,hrs];rfl
     have c1:=CO J (kJ q) (kJ s) (by omega) (by omega);have hpr:p.length=r.length:=by omega
     have hz:=P6 hpr;have hzn:(List.zipWith (· + ·) p r).length=p.length:=by simp;omega
     have em:jv (p,q) (r,s)=(List.zipWith (· + ·) p r,q*s):=rfl;have esn:=Reg.IL hpq hrs;have hol:=Reg.Gh (i:=i) (k:=k) hA5 hB5;obtain⟨z,hzd⟩:∃z,List.zipWith (· + ·) p r=z:=⟨_,rfl⟩;rw[hzd] at hz hzn em;rw[em] at esn;obtain⟨os,eos⟩:∃os,cN A B i k=os:=⟨_,rfl⟩;rw[eos] at esn hol;rw[eos];cases os with
      |nil=>
       show W J _ _ (am [(0,.iv (.sl (A.map aF))),(1,.iv (.sl (B.map aF))),(5,.nilS),(6,.iv (.int .i64 (i:Int))),(7,.iv (.int .i64 (k:Int)))] [] 40) _;repeat (((first|refine W.R (by kernel_rfl) ?_|refine W.c rfl ?_|refine xT (by omega) ?_|refine⟨_,rfl,?_⟩|refine xr ?_);conv=>whnf))
       refine W.loop (G:={ j:Nat // j<=p.length }) (fun j=>(am [(0,.iv (.sl (A.map aF))),(1,.iv (.sl (B.map aF))),(5,.nilS),(6,.iv (.int .i64 (i:Int))),(7,.iv (.int .i64 (k:Int))),(8,yV j.1),(9,.iv (.int .i64 (j.1:Int)))] (za z j.1) 60)) (fun j=>p.length-j.1) ⟨0,bb _⟩
        (Wk.tab [] ⟨aa,aa,aa,aa,aa,aa,aa,ab⟩ trivial rfl) ?_
       rintro⟨j,hj⟩;have hj:j<=p.length:=hj;show W J _ _ (am [(0,.iv (.sl (A.map aF))),(1,.iv (.sl (B.map aF))),(5,.nilS),(6,.iv (.int .i64 (i:Int))),(7,.iv (.int .i64 (k:Int))),(8,yV j),(9,.iv (.int .i64 (j:Int)))] (za z j) 60) _;by_cases hje:j<p.length
       . have gp:=fY hje;have gr:=fY (l:=r) (i:=j) (by omega);have zk:=hz j hje;have hx:=hp2 (p.getD j 0) (by rw[aV,aQ hje];exact bV hje);have hy:=hr2 (r.getD j 0) (by rw[aV,aQ (by omega:j<r.length)];exact bV _);obtain⟨x,ex⟩:∃x,p.getD j 0=x:=⟨_,rfl⟩;obtain⟨y,ey⟩:∃y,r.getD j 0=y:=⟨_,rfl⟩;rw[ex] at gp hx zk;rw[ey] at gr hy zk;have hw:IntKind.i64.wrap (x+y)=x+y:=b7 (by omega);cases j with
         |zero=>
          show W J _ _ (am [(0,.iv (.sl (A.map aF))),(1,.iv (.sl (B.map aF))),(5,.nilS),(6,.iv (.int .i64 (i:Int))),(7,.iv (.int .i64 (k:Int))),(8,.nilS),(9,.iv (.int .i64 0))] [] 60) _;repeat (((first|refine W.R (by kernel_rfl) ?_|refine W.c rfl ?_|refine⟨i,_,rfl,ga,rfl,?_⟩|refine⟨0,_,rfl,gp,rfl,?_⟩|refine⟨k,_,rfl,gb,rfl,?_⟩|refine⟨0,_,rfl,gr,rfl,?_⟩|refine⟨false,rfl,sA [x+y],aB rfl,aB rfl,?_⟩|refine ap (by omega) ?_|refine xT (by omega) ?_|refine⟨_,rfl,?_⟩|refine xr ?_);conv=>whnf))
          exact⟨⟨0+1,hje⟩,Wk.tab [(1,87)] ⟨aa,aa,aa,aa,aa,aa,aa,ab⟩ ⟨gd (by rw[zk,ch];rfl),ab⟩ rfl,by dsimp only;omega⟩
         |succ j=>
          show W J _ _ (am [(0,.iv (.sl (A.map aF))),(1,.iv (.sl (B.map aF))),(5,.nilS),(6,.iv (.int .i64 (i:Int))),(7,.iv (.int .i64 (k:Int))),(8,.ref 1 0 (j+1) true),(9,.iv (.int .i64 ((j+1:Nat):Int)))] [(1,.arr 3 1 ((z.take (j+1)).map di) false)] 60) _;have lz:j+1=((z.take (j+1)).map di).length:=by simp;omega
          repeat (first|((first|refine W.R (by kernel_rfl) ?_|refine W.c rfl ?_|refine⟨i,_,rfl,ga,rfl,?_⟩|refine⟨j+1,_,rfl,gp,rfl,?_⟩|refine⟨k,_,rfl,gb,rfl,?_⟩|refine⟨j+1,_,rfl,gr,rfl,?_⟩);conv=>whnf)|(refine⟨by simp,rfl,rfl,lz,sA [x+y],by show(j+1+1)*8<=(140737488355328:Nat);omega,by show j+1+1<=maxLen;unfold maxLen;omega,?_⟩;conv=>whnf)|((first|refine ap (by omega) ?_|refine xT (by omega) ?_|refine⟨_,rfl,?_⟩|refine xr ?_);conv=>whnf))
          exact⟨⟨j+1+1,hje⟩,Wk.tab [(1,87)] ⟨aa,aa,aa,aa,aa,aa,aa,ab⟩ ⟨gd (by rw[zk,ch];rfl),ab⟩ rfl,by dsimp only;omega⟩
       . obtain⟨m,rfl⟩:∃m,j=m+1:=⟨j-1,by omega⟩;have hm:m+1=p.length:=by omega
         have hzl:z.take (m+1)=z:=aH (by omega);show W J _ _ (am [(0,.iv (.sl (A.map aF))),(1,.iv (.sl (B.map aF))),(5,.nilS),(6,.iv (.int .i64 (i:Int))),(7,.iv (.int .i64 (k:Int))),(8,.ref 1 0 (m+1) true),(9,.iv (.int .i64 ((m+1:Nat):Int)))] [(1,.arr 3 1 ((z.take (m+1)).map di) false)] 60) _;rw[hzl];repeat (((first|refine W.R (by kernel_rfl) ?_|refine W.c rfl ?_|refine⟨i,_,rfl,ga,rfl,?_⟩|refine⟨k,_,rfl,gb,rfl,?_⟩|refine⟨_,c1,?_⟩|refine⟨false,rfl,og ⟨rfl,rfl⟩,aB rfl,aB rfl,?_⟩|refine ap (by omega) ?_|refine xF (by omega) ?_|refine⟨_,rfl,?_⟩|refine xr ?_);conv=>whnf))
         refine⟨⟨k+1,hke⟩,?_,by dsimp only;omega⟩;show Wk _ (am [(0,.iv (.sl (A.map aF))),(1,.iv (.sl (B.map aF))),(5,oG (cN A B i (k+1))),(6,.iv (.int .i64 (i:Int))),(7,.iv (.int .i64 ((k+1:Nat):Int)))] (oL (cN A B i (k+1))) 40);rw[esn];refine Wk.tab [(0,83)] ⟨aa,aa,aa,aa,aa,ab⟩ ⟨gd ?_,ab⟩ rfl;have ht:List.take (m+1) (List.drop 0 (z.map di))=z.map di:=by rw[bJ,aH (by rw[cT];omega)]
         rw[ht];rfl
      |cons o os=>
       simp only[bf] at hol;have lo:os.length+1=((o::os).map aF).length:=by simp
       show W J _ _ (am [(0,.iv (.sl (A.map aF))),(1,.iv (.sl (B.map aF))),(5,.ref 0 0 (os.length+1) true),(6,.iv (.int .i64 (i:Int))),(7,.iv (.int .i64 (k:Int)))] [(0,.arr 92 5 ((o::os).map aF) false)] 40) _;repeat (((first|refine W.R (by kernel_rfl) ?_|refine W.c rfl ?_|refine xT (by omega) ?_|refine⟨_,rfl,?_⟩|refine xr ?_);conv=>whnf))
       refine W.loop (G:={ j:Nat // j<=p.length }) (fun j=>(am [(0,.iv (.sl (A.map aF))),(1,.iv (.sl (B.map aF))),(5,.ref 0 0 (os.length+1) true),(6,.iv (.int .i64 (i:Int))),(7,.iv (.int .i64 (k:Int))),(8,yV j.1),(9,.iv (.int .i64 (j.1:Int)))] ((0,.arr 92 5 ((o::os).map aF) false)::za z j.1) 60)) (fun j=>p.length-j.1) ⟨0,bb _⟩
        (Wk.tab [] ⟨aa,aa,aa,aa,aa,aa,aa,ab⟩ ⟨rfl,ab⟩ rfl) ?_
       rintro⟨j,hj⟩;have hj:j<=p.length:=hj;show W J _ _ (am [(0,.iv (.sl (A.map aF))),(1,.iv (.sl (B.map aF))),(5,.ref 0 0 (os.length+1) true),(6,.iv (.int .i64 (i:Int))),(7,.iv (.int .i64 (k:Int))),(8,yV j),(9,.iv (.int .i64 (j:Int)))] ((0,.arr 92 5 ((o::os).map aF) false)::za z j) 60) _;by_cases hje:j<p.length
       . have gp:=fY hje;have gr:=fY (l:=r) (i:=j) (by omega);have zk:=hz j hje;have hx:=hp2 (p.getD j 0) (by rw[aV,aQ hje];exact bV hje);have hy:=hr2 (r.getD j 0) (by rw[aV,aQ (by omega:j<r.length)];exact bV _);obtain⟨x,ex⟩:∃x,p.getD j 0=x:=⟨_,rfl⟩;obtain⟨y,ey⟩:∃y,r.getD j 0=y:=⟨_,rfl⟩;rw[ex] at gp hx zk;rw[ey] at gr hy zk;have hw:IntKind.i64.wrap (x+y)=x+y:=b7 (by omega);cases j with
         |zero=>
          show W J _ _ (am [(0,.iv (.sl (A.map aF))),(1,.iv (.sl (B.map aF))),(5,.ref 0 0 (os.length+1) true),(6,.iv (.int .i64 (i:Int))),(7,.iv (.int .i64 (k:Int))),(8,.nilS),(9,.iv (.int .i64 0))] [(0,.arr 92 5 ((o::os).map aF) false)] 60) _;repeat (((first|refine W.R (by kernel_rfl) ?_|refine W.c rfl ?_|refine⟨i,_,rfl,ga,rfl,?_⟩|refine⟨0,_,rfl,gp,rfl,?_⟩|refine⟨k,_,rfl,gb,rfl,?_⟩|refine⟨0,_,rfl,gr,rfl,?_⟩|refine⟨false,rfl,sA [x+y],aB rfl,aB rfl,?_⟩|refine ap (by omega) ?_|refine xT (by omega) ?_|refine⟨_,rfl,?_⟩|refine xr ?_);conv=>whnf))
          exact⟨⟨0+1,hje⟩,Wk.tab [(1,87)] ⟨aa,aa,aa,aa,aa,aa,aa,ab⟩ ⟨rfl,gd (by rw[zk,ch];rfl),ab⟩ rfl,by dsimp only;omega⟩
         |succ j=>
          show W J _ _ (am [(0,.iv (.sl (A.map aF))),(1,.iv (.sl (B.map aF))),(5,.ref 0 0 (os.length+1) true),(6,.iv (.int .i64 (i:Int))),(7,.iv (.int .i64 (k:Int))),(8,.ref 1 0 (j+1) true),(9,.iv (.int .i64 ((j+1:Nat):Int)))] [(0,.arr 92 5 ((o::os).map aF) false),(1,.arr 3 1 ((z.take (j+1)).map di) false)] 60) _;have lz:j+1=((z.take (j+1)).map di).length:=by simp;omega
          repeat (first|((first|refine W.R (by kernel_rfl) ?_|refine W.c rfl ?_|refine⟨i,_,rfl,ga,rfl,?_⟩|refine⟨j+1,_,rfl,gp,rfl,?_⟩|refine⟨k,_,rfl,gb,rfl,?_⟩|refine⟨j+1,_,rfl,gr,rfl,?_⟩);conv=>whnf)|(refine⟨by simp,rfl,rfl,lz,sA [x+y],by show(j+1+1)*8<=(140737488355328:Nat);omega,by show j+1+1<=maxLen;unfold maxLen;omega,?_⟩;conv=>whnf)|((first|refine ap (by omega) ?_|refine xT (by omega) ?_|refine⟨_,rfl,?_⟩|refine xr ?_);conv=>whnf))
          exact⟨⟨j+1+1,hje⟩,Wk.tab [(1,87)] ⟨aa,aa,aa,aa,aa,aa,aa,ab⟩ ⟨rfl,gd (by rw[zk,ch];rfl),ab⟩ rfl,by dsimp only;omega⟩
       . obtain⟨m,rfl⟩:∃m,j=m+1:=⟨j-1,by omega⟩;have hm:m+1=p.length:=by omega
         have hzl:z.take (m+1)=z:=aH (by omega);show W J _ _ (am [(0,.iv (.sl (A.map aF))),(1,.iv (.sl (B.map aF))),(5,.ref 0 0 (os.length+1) true),(6,.iv (.int .i64 (i:Int))),(7,.iv (.int .i64 (k:Int))),(8,.ref 1 0 (m+1) true),(9,.iv (.int .i64 ((m+1:Nat):Int)))] [(0,.arr 92 5 ((o::os).map aF) false),(1,.arr 3 1 ((z.take (m+1)).map di) false)] 60) _;rw[hzl];repeat (first|((first|refine W.R (by kernel_rfl) ?_|refine W.c rfl ?_|refine⟨i,_,rfl,ga,rfl,?_⟩|refine⟨k,_,rfl,gb,rfl,?_⟩|refine⟨_,c1,?_⟩);conv=>whnf)|(refine⟨by simp,rfl,rfl,lo,og ⟨rfl,rfl⟩,(hbig (by show os.length+1+1<=_;omega)).1,(hbig (by show os.length+1+1<=_;omega)).2,?_⟩;conv=>whnf)|((first|refine ap (by omega) ?_|refine xF (by omega) ?_|refine⟨_,rfl,?_⟩|refine xr ?_);conv=>whnf))
         refine⟨⟨k+1,hke⟩,?_,by dsimp only;omega⟩;show Wk _ (am [(0,.iv (.sl (A.map aF))),(1,.iv (.sl (B.map aF))),(5,oG (cN A B i (k+1))),(6,.iv (.int .i64 (i:Int))),(7,.iv (.int .i64 ((k+1:Nat):Int)))] (oL (cN A B i (k+1))) 40);rw[esn];refine Wk.tab [(0,83)] ⟨aa,aa,⟨iK (by simp),rfl⟩,aa,aa,ab⟩ ⟨gd ?_,ab⟩ rfl;have ht:List.take (m+1) (List.drop 0 (z.map di))=z.map di:=by rw[bJ,aH (by rw[cT];omega)]
         rw[ht,show o::os.append [(z,q*s)]=(o::os) ++ [(z,q*s)] from rfl,ch];rfl
   . have ek:k=B.length:=by omega
     subst ek;rw[eosE];repeat (((first|refine W.R (by kernel_rfl) ?_|refine W.c rfl ?_|refine ap (by omega) ?_|refine xF (by omega) ?_|refine⟨_,rfl,?_⟩|refine xr ?_);conv=>whnf))
     refine⟨⟨i+1,hie⟩,?_,by dsimp only;omega⟩;show Wk _ (am [(0,.iv (.sl (A.map aF))),(1,.iv (.sl (B.map aF))),(5,oG (bw (A.take (i+1)) B)),(6,.iv (.int .i64 ((i+1:Nat):Int)))] (oL (bw (A.take (i+1)) B)) 20);generalize bw (A.take (i+1)) B=os;cases os with
     |nil=>exact Wk.tab [] ⟨aa,aa,aa,aa,ab⟩ trivial rfl
     |cons o os=>exact Wk.tab [] ⟨aa,aa,aa,aa,ab⟩ ⟨rfl,ab⟩ rfl
 . have ei:i=A.length:=by omega
   subst ei;rw[cU];obtain⟨os,eos⟩:∃os,bw A B=os:=⟨_,rfl⟩;obtain⟨R,hR⟩:∃R,IV.sl ((aN (bw A B)).map aF)=R:=⟨_,rfl⟩;rw[hR] at hc;rw[hR];rw[eos] at hc;rw[eos];cases os with
   |nil=>
    show W J _ _ (am [(0,.iv (.sl (A.map aF))),(1,.iv (.sl (B.map aF))),(5,.nilS),(6,.iv (.int .i64 (A.length:Int)))] [] 20) _;have hc:C J 18 [.sl []] R:=hc;repeat (((first|refine W.R (by kernel_rfl) ?_|refine W.c rfl ?_|refine⟨_,hc,?_⟩|refine xF (by omega) ?_|refine⟨_,rfl,?_⟩|refine xr ?_);conv=>whnf))
    rfl
   |cons o os=>
    show W J _ _ (am [(0,.iv (.sl (A.map aF))),(1,.iv (.sl (B.map aF))),(5,.ref 0 0 (os.length+1) true),(6,.iv (.int .i64 (A.length:Int)))] [(0,.arr 92 5 ((o::os).map aF) false)] 20) _;have ht:List.take (os.length+1) (List.drop 0 ((o::os).map aF))=(o::os).map aF:=by rw[bJ,aH (by simp)]
    rw[<-ht] at hc;repeat (((first|refine W.R (by kernel_rfl) ?_|refine W.c rfl ?_|refine⟨_,hc,?_⟩|refine xF (by omega) ?_|refine⟨_,rfl,?_⟩|refine xr ?_);conv=>whnf))
    rfl
theorem Um(J:Keep){A B:List Tm}{n j:Nat}(hA5:A.length<=500)(hB5:B.length<=500)(hAB:A.length*B.length<10000)(hn:1<=n)(hn2:n<100)(hA:∀t∈A,t.1.length=n/\∀k∈t.1,0<=k/\k<=24)(hB:∀t∈B,t.1.length=n/\∀k∈t.1,0<=k/\k<=24)(hq:∀t∈A,Hb j t.2)(hs:∀t∈B,Hb j t.2)(hj:10000*(j+j+1)<2^32):C J 20 [.sl (A.map aF),.sl (B.map aF)] (.sl ((aN (bw A B)).map aF)):=by
 refine Un J hA5 hB5 hn (by omega) hA hB (fun t ht=>?_) (fun t ht=>?_) ?_
 . have:=jP (hq t ht);omega
 . have:=jP (hs t ht);omega
 . have hl:(bw A B).length<10000:=by rw[Reg.ru];exact hAB
   refine CT J (n:=n) (j:=j+j) hl hn2 (fun t ht=>?_) (fun t ht=>?_) ?_
   . obtain⟨a,ha,b,hb,rfl⟩:=Reg.pf ht;have h1:=(hA a ha).1;have h2:=(hB b hb).1;have:=Reg.BA (hA a ha).2 (hB b hb).2;refine⟨?_,?_⟩
     . show(List.zipWith _ a.1 b.1).length=_;rw[zU];omega
     . show bq (List.zipWith _ a.1 b.1)<_;omega
   . obtain⟨a,ha,b,hb,rfl⟩:=Reg.pf ht;exact(hq a ha).mul (hs b hb)
   . exact g9 (bW _ (kt hl)) hj
end Go.Proofs.Fl
namespace Go.Proofs.Fl
open Go.RowKit Go.Proofs.Dig
attribute [local irreducible] IntKind.wrap aY be bm bt
open Go.Proofs.En (aR)
open Go.Proofs.Reg (Tm aN Hb)
theorem ID{J:Keep}(L:LibI J){g:List Tm}(hg:g.length<2^40)(hp:∀t∈g,t.1.length<2^40/\rl t.2<2^34):C J 17 [aR g,.sl (g.map aF)] (.bool true):=by
 refine aI Tryz.func17 rfl rfl rfl ?_;have l1:(g.map fun t=>tq t.1 t.2).length=g.length:=by simp
 have l2:(g.map aF).length=g.length:=by simp
 have hne:¬(((g.map fun t=>tq t.1 t.2).length:Nat):Int)≠(((g.map aF).length:Nat):Int):=by rw[l1,l2];simp
 repeat (((first|refine W.R (by kernel_rfl) ?_|refine W.c rfl ?_|refine⟨false,bne_eq_false_iff_eq.2 (by omega),?_⟩|refine⟨_,rfl,?_⟩|refine xr ?_);conv=>whnf))
 refine W.loop (G:={ k:Nat // k<=g.length }) (fun k=>am [(0,.iv (.sl (g.map fun t=>tq t.1 t.2))),(1,.iv (.sl (g.map aF))),(5,.iv (.int .i64 (k.1:Int)))] [] 20) (fun k=>g.length-k.1) ⟨0,bb _⟩
  (Wk.tab [] ⟨aa,aa,aa,ab⟩ trivial rfl) ?_
 rintro⟨k,hk⟩;have hk:k<=g.length:=hk;show W J _ _ (am [(0,.iv (.sl (g.map fun t=>tq t.1 t.2))),(1,.iv (.sl (g.map aF))),(5,.iv (.int .i64 (k:Int)))] [] 20) _;by_cases hke:k<g.length
 . obtain⟨⟨p,q⟩,hpq⟩:∃x,g[k]?=some x:=⟨_,aQ hke⟩;obtain⟨h1,h2⟩:=hp _ (cd hpq);have h1:p.length<2^40:=h1;have c1:=Sd J (a:=p) (by omega);have c2:C J 14 [qr q,rr q] (.bool true):=KU L h2;have ga:(g.map fun t=>tq t.1 t.2)[k]?=some (tq p q):=by rw[dw,hpq];rfl
   have gb:(g.map aF)[k]?=some (.agg [.sl (p.map di),.int .i64 q.num.sign,.sl ((dh q.num.natAbs).map af),.int .i64 1,.sl ((dh q.den).map af)]):=by rw[dw,hpq];rfl
   repeat (((first|refine W.R (by kernel_rfl) ?_|refine W.c rfl ?_|refine⟨_,c1,?_⟩|refine⟨_,c2,?_⟩|refine⟨k,_,rfl,ga,rfl,?_⟩|refine⟨k,_,rfl,gb,rfl,?_⟩|refine ap (by omega) ?_|refine xT (by omega) ?_|refine⟨_,rfl,?_⟩|refine xr ?_|refine xA ?_);conv=>whnf))
   exact⟨⟨k+1,hke⟩,Wk.tab [] ⟨aa,aa,aa,ab⟩ trivial rfl,by dsimp only;omega⟩
 . have ek:k=g.length:=by omega
   subst ek;repeat (((first|refine W.R (by kernel_rfl) ?_|refine W.c rfl ?_|refine xF (by omega) ?_|refine⟨_,rfl,?_⟩|refine xr ?_);conv=>whnf))
   rfl
theorem RU{J:Keep}{n:Int}{f g:List Tm}(hf:f.length<2^40)(hl:∀t∈f,t.1.length<2^50)(hg:g.length<2^40)(hm:∀t∈g,t.1.length<2^50)(h:(En.bg n f&&En.bg n g)=false):C J 12 [.int .i64 n,aR f,aR g] (.tup [.sl [],.int .i64 2]):=by
 have c1:=En.n3 J (n:=n) hf hl;have c2:=En.n3 J (n:=n) hg hm;refine aI Tryz.func12 rfl rfl rfl ?_;cases h1:En.bg n f with
 |false=>
  rw[h1] at c1;repeat (((first|refine W.R (by kernel_rfl) ?_|refine W.c rfl ?_|refine⟨_,c1,?_⟩|refine⟨_,rfl,?_⟩|refine xB ?_);conv=>whnf))
  rfl
 |true=>
  rw[h1,qW] at h;rw[h1] at c1;rw[h] at c2;repeat (((first|refine W.R (by kernel_rfl) ?_|refine W.c rfl ?_|refine⟨_,c1,?_⟩|refine⟨_,c2,?_⟩|refine⟨_,rfl,?_⟩|refine xA ?_);conv=>whnf))
  rfl
end Go.Proofs.Fl
