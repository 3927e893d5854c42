/-
  A part of the proof of regionProducts_card.
-/
import Derived.Test.YtalnhplbnklpoaaGreatDoorP9
import Derived.Shelf.Spec.SlicesGrow
import Derived.Test.YtalnhplbnklpoaaGreatDoorProg
set_option maxHeartbeats 16000000
namespace Go.Proofs.Fl
open Go.RowKit Go.Proofs.Dig
attribute [local irreducible] IntKind.wrap a7 be bq bw
noncomputable def b9(g:Gap6):IV:=sd g.lo.q g.hi.q
def gQ(g:Gap6):Bool:=(g.lo.tame&&g.hi.tame)&&decide (bT g.lo.q g.hi.q<=0)
theorem zt(J:Keep){g:Gap6}(h1:g.lo.ok)(h2:g.hi.ok):C J 7 [g.iv] (.tup [sd g.lo.q g.hi.q,sx (some g.lo.q) (some g.hi.q)])/\C J 8 [.sl [g.lo.iv,g.hi.iv]] (.bool (g.lo.tame&&g.hi.tame))/\
 ((g.lo.tame&&g.hi.tame)=true->C J 9 [rx (some g.lo.q),rx (some g.hi.q)] (.int .i64 (bT g.lo.q g.hi.q))):=by
 refine⟨VK J ⟨h1,h2⟩,?_,fun h=>?_⟩
 . have:=Dm J (l:=[g.lo,g.hi]) (by show 2<2^30;decide);simpa using this
 . simp only[az] at h;have b1:=DW (r9 h.1);have b2:=DW (r9 h.2);exact Wt J (a:=some g.lo.q) (b:=some g.hi.q) (by show rl g.lo.q<_;omega) (by show rl g.hi.q<_;omega)
def gG(n:Int):IV:=.agg [.int .i64 n,.sl [],.sl []]
noncomputable def EK(a b:List Gap6)(n m:Int)(CQ DQ:IV):AS:=aF [(2,.iv (.sl (a.map Gap6.iv))),(3,.iv (.sl (b.map Gap6.iv))),(9,.ptr 0 0),(12,.ptr 1 0),(15,.ptr 2 0),(16,.ptr 3 0),(17,.ptr 4 0),(18,.nilS),(19,.nilS),(20,.nilS),(21,.iv (.int .i64 0))] [(0,.var CQ),(1,.var DQ),(2,.var (gG n)),(3,.var (gG m)),(4,.var (gG (n+m)))] 40
noncomputable def Al(a b:List Gap6)(n m:Int)(CQ DQ:IV)(k:Nat):AS:=aF [(2,.iv (.sl (a.map Gap6.iv))),(3,.iv (.sl (b.map Gap6.iv))),(9,.ptr 0 0),(12,.ptr 1 0),(15,.ptr 2 0),(16,.ptr 3 0),(17,.ptr 4 0),(18,.ref 5 0 (k+1) true),(19,.nilS),(20,.ref 6 0 (k+1) true),(21,.iv (.int .i64 ((k+1:Nat):Int)))] [(0,.var CQ),(1,.var DQ),(2,.var (gG n)),(3,.var (gG m)),(4,.var (gG (n+m))),(5,.arr 56 6 ((a.take (k+1)).map b9) false),(6,.arr 56 6 ((a.take (k+1)).map b9) false)] 40
noncomputable def Ak(a b:List Gap6)(n m:Int)(CQ DQ:IV)(k j:Nat):AS:=aF [(2,.iv (.sl (a.map Gap6.iv))),(3,.iv (.sl (b.map Gap6.iv))),(9,.ptr 0 0),(12,.ptr 1 0),(15,.ptr 2 0),(16,.ptr 3 0),(17,.ptr 4 0),(18,.ref 5 0 (k+1) true),(19,.ref 7 0 (j+1) true),(20,.ref 6 0 (k+1+(j+1)) true),(21,.iv (.int .i64 ((k+1+(j+1):Nat):Int)))] [(0,.var CQ),(1,.var DQ),(2,.var (gG n)),(3,.var (gG m)),(4,.var (gG (n+m))),(5,.arr 56 6 (a.map b9) false),(6,.arr 56 6 (a.map b9++(b.take (j+1)).map b9) false),(7,.arr 56 6 ((b.take (j+1)).map b9) false)] 40
noncomputable def Aj(a b:List Gap6)(n m:Int)(CQ DQ:IV)(t:Nat)(G:IV):AS:=aF [(2,.iv (.sl (a.map Gap6.iv))),(3,.iv (.sl (b.map Gap6.iv))),(9,.ptr 0 0),(12,.ptr 1 0),(15,.ptr 2 0),(16,.ptr 3 0),(17,.ptr 4 0),(18,.nilS),(19,.nilS),(20,.nilS),(21,.iv (.int .i64 0)),(t,.ptr 8 0)] [(0,.var CQ),(1,.var DQ),(2,.var (gG n)),(3,.var (gG m)),(4,.var (gG (n+m))),(8,.var G)] 40
noncomputable def pl(a b:List Gap6)(n m:Int)(CQ DQ:IV)(k:Nat)(t:Nat)(G:IV):AS:=aF [(2,.iv (.sl (a.map Gap6.iv))),(3,.iv (.sl (b.map Gap6.iv))),(9,.ptr 0 0),(12,.ptr 1 0),(15,.ptr 2 0),(16,.ptr 3 0),(17,.ptr 4 0),(18,.ref 5 0 (k+1) true),(19,.nilS),(20,.ref 6 0 (k+1) true),(21,.iv (.int .i64 ((k+1:Nat):Int))),(t,.ptr 8 0)] [(0,.var CQ),(1,.var DQ),(2,.var (gG n)),(3,.var (gG m)),(4,.var (gG (n+m))),(5,.arr 56 6 ((a.take (k+1)).map b9) false),(6,.arr 56 6 ((a.take (k+1)).map b9) false),(8,.var G)] 40
noncomputable def Ai(a b:List Gap6)(n m:Int)(CQ DQ:IV)(k j:Nat)(t:Nat)(G:IV):AS:=aF [(2,.iv (.sl (a.map Gap6.iv))),(3,.iv (.sl (b.map Gap6.iv))),(9,.ptr 0 0),(12,.ptr 1 0),(15,.ptr 2 0),(16,.ptr 3 0),(17,.ptr 4 0),(18,.ref 5 0 (k+1) true),(19,.ref 7 0 (j+1) true),(20,.ref 6 0 (k+1+(j+1)) true),(21,.iv (.int .i64 ((k+1+(j+1):Nat):Int))),(t,.ptr 8 0)] [(0,.var CQ),(1,.var DQ),(2,.var (gG n)),(3,.var (gG m)),(4,.var (gG (n+m))),(5,.arr 56 6 (a.map b9) false),(6,.arr 56 6 (a.map b9++(b.take (j+1)).map b9) false),(7,.arr 56 6 ((b.take (j+1)).map b9) false),(8,.var G)] 40
noncomputable def kG(a b:List Gap6)(n m:Int)(CQ DQ:IV)(i:Nat):AS:=if i=0 then EK a b n m CQ DQ else if i<=a.length then Al a b n m CQ DQ (i-1) else Ak a b n m CQ DQ (a.length-1) (i-a.length-1)
section
variable {a b:List Gap6}{n m:Int}{CQ DQ:IV}
theorem LG:kG a b n m CQ DQ 0=EK a b n m CQ DQ:=ay rfl
theorem zp{k:Nat}(h:k<a.length):kG a b n m CQ DQ (k+1)=Al a b n m CQ DQ k:=by
 unfold kG;rw[am (by omega),ay (by omega),tQ]
theorem zn{k j i:Nat}(h:a.length=k+1)(hi:i=k+1+(j+1)):kG a b n m CQ DQ i=Ak a b n m CQ DQ k j:=by
 unfold kG;rw[am (by omega),am (by omega),h,hi,tQ,show k+1+(j+1)-(k+1)-1=j by omega]
def WK(a b:List Gap6)(i:Nat):Prop:=i<=a.length+b.length/\(a.take i).all gQ=true/\(b.take (i-a.length)).all gQ=true
end
noncomputable def gH(A B X Yz9 C O:IV)(u:Bool)(D P:IV)(v:Bool):AS:=aF [(2,.iv A),(3,.iv B),(4,.ptr 0 0),(5,.ptr 1 0),(9,.ptr 2 0),(10,.ptr 3 0),(11,.iv (.bool u)),(12,.ptr 4 0),(13,.ptr 5 0),(14,.iv (.bool v))] [(0,.var X),(1,.var Yz9),(2,.var C),(3,.var O),(4,.var D),(5,.var P)] 30
abbrev aI(n:Int)(x y:IV):IV:=.agg [.int .i64 n,x,y]
theorem O8{J:Keep}{a b:List Gap6}{n m:Int}{X1 X2 Y1 Y2 C1 C2 D1 D2 O1 O2 P1 P2 Z1 Z2:IV}{k1 k2 k3:Int}(hla:(a.length:Int)=n)(hlb:(b.length:Int)=m)(hn1:1<=n)(hn2:n<=2)(hm1:1<=m)(hm2:m<=2)
 (ha:∀g∈a,g.lo.ok/\g.hi.ok) (hb:∀g∈b,g.lo.ok/\g.hi.ok) (cw:C J 6 [] (.bool true))
 (c1:C J 4 [aI n X1 X2,.int .i64 6] (.tup [aI n C1 C2,aI n O1 O2,.bool true])) (c2:C J 4 [aI m Y1 Y2,.int .i64 6] (.tup [aI m D1 D2,aI m P1 P2,.bool true]))
 (v1:C J 5 [aI n O1 O2] (.bool true)) (v2:C J 5 [aI m P1 P2] (.bool true))
 (H:a.all gQ=true->b.all gQ=true->C J 10 [aI n (.sl [.sl (a.map b9)]) (.sl []),aI n C1 C2,.int .i64 4] (.tup [.int .i64 k1,.int .i64 0])/\C J 10 [aI m (.sl [.sl (b.map b9)]) (.sl []),aI m D1 D2,.int .i64 4] (.tup [.int .i64 k2,.int .i64 0])/\
   C J 11 [aI n C1 C2,aI m D1 D2] (.tup [aI (n+m) Z1 Z2,.int .i64 0])/\C J 10 [aI (n+m) (.sl [.sl (a.map b9++b.map b9)]) (.sl []),aI (n+m) Z1 Z2,.int .i64 4] (.tup [.int .i64 k3,.int .i64 0])/\(if k2<k1 then k2 else k1)<=k3) :
 C J 3 [aI n X1 X2,aI m Y1 Y2,.sl (a.map Gap6.iv),.sl (b.map Gap6.iv)] (.bool true):=by
 refine aH Tryz.func3 rfl rfl rfl ?_;have la:(a.map Gap6.iv).length=a.length:=by simp
 have lb:(b.map Gap6.iv).length=b.length:=by simp
 repeat (first|(refine gN (id:=3) (Y':=gH (.sl (a.map Gap6.iv)) (.sl (b.map Gap6.iv)) (aI n X1 X2) (aI m Y1 Y2) (aI n C1 C2) (aI n O1 O2) true (aI m D1 D2) (aI m P1 P2) true) (Wk.tab [(2,9),(3,10),(4,20),(5,21)] ⟨aa,aa,aa,aa,aa,aa,aa,aa,aa,aa,ab⟩ ⟨rfl,rfl,rfl,rfl,rfl,rfl,ab⟩ rfl) (by kernel_rfl) ?_;unfold gH;conv=>whnf)|((first|refine W.R ?_|refine W.c ?_|refine⟨_,c1,?_⟩|refine⟨_,c2,?_⟩|refine⟨_,v1,?_⟩|refine⟨_,v2,?_⟩|refine ap (by omega) ?_|refine xF (by omega) ?_|refine⟨false,bne_eq_false_iff_eq.2 (by omega),?_⟩|refine⟨_,rfl,?_⟩|refine xr ?_|refine xA ?_);conv=>whnf))
 refine W.loop (G:={ i:Nat // WK a b i }) (fun i=>kG a b n m (aI n C1 C2) (aI m D1 D2) i.1) (fun i=>a.length+b.length-i.1) ⟨0,by omega,rfl,by rw[Nat.zero_sub];rfl⟩ ?_ ?_
 . show Wk _ (kG a b n m (aI n C1 C2) (aI m D1 D2) 0);rw[LG];exact Wk.tab [(0,2),(1,4),(2,82),(3,83),(4,84)] ⟨aa,aa,aa,aa,aa,aa,aa,aa,aa,aa,aa,ab⟩ ⟨rfl,rfl,rfl,rfl,rfl,ab⟩ rfl
 rintro⟨i,i1,i2,i3⟩;show W J _ _ (kG a b n m (aI n C1 C2) (aI m D1 D2) i) _;generalize hCQ:aI n C1 C2=CQ;generalize hDQ:aI m D1 D2=DQ;by_cases he:i<a.length+b.length
 . by_cases hi0:i=0
   . subst hi0;rw[LG];have hlt:0<a.length:=by omega
     have g:(a.map Gap6.iv)[0]?=some (Gap6.iv a[0]):=by rw[bQ,a6 hlt];rfl
     obtain⟨o1,o2⟩:=ha a[0] (eM hlt);have tk:a.take (0+1)=a.take (0) ++ [a[0]]:=tR hlt;obtain⟨x,hx⟩:∃x,a[0]=x:=⟨_,rfl⟩;rw[hx] at g o1 o2 tk;obtain⟨c7,c8,c9⟩:=zt J o1 o2;have esp:[x].map b9=[sd x.lo.q x.hi.q]:=rfl;obtain⟨t,ht⟩:∃t,(x.lo.tame&&x.hi.tame)=t:=⟨_,rfl⟩;obtain⟨v,hv⟩:∃v,bT x.lo.q x.hi.q=v:=⟨_,rfl⟩;have hok:t=true->¬v>0->gQ x=true:=fun h1 h2=>by unfold gQ;rw[ht,hv,h1,aZ (show v<=0 by omega)];rfl
     rw[ht] at c8 c9;rw[hv] at c9;obtain⟨⟨n1,d1,p1⟩,⟨n2,d2,p2⟩⟩:=x;unfold EK;repeat (first|(refine gN (id:=14) (Y':=Aj a b n m CQ DQ 22 (Gap6.iv ⟨⟨n1,d1,p1⟩,⟨n2,d2,p2⟩⟩)) (Wk.tab [(8,48)] ⟨aa,aa,aa,aa,aa,aa,aa,aa,aa,aa,aa,aa,ab⟩ ⟨rfl,rfl,rfl,rfl,rfl,rfl,ab⟩ rfl) (by kernel_rfl) ?_;unfold Aj;conv=>whnf)|((first|refine W.R ?_|refine W.c ?_|refine⟨_,c7,?_⟩|refine⟨0,_,rfl,g,rfl,?_⟩|refine ap (by omega) ?_|refine xT (by omega) ?_|refine⟨_,rfl,?_⟩|refine xr ?_);conv=>whnf))
     cases t with
     |false=>
      repeat (first|((first|refine W.RS ?_|refine W.ret ?_|refine⟨_,c8,?_⟩|refine⟨_,cw,?_⟩|refine⟨_,rfl,?_⟩|refine xB ?_);conv=>whnf)|(refine W.condT rfl ?_))
      rfl
     |true=>
      have c9:=c9 rfl;by_cases hc:v>0
      . repeat (first|((first|refine W.RS ?_|refine W.ret ?_|refine⟨_,c8,?_⟩|refine⟨_,c9,?_⟩|refine⟨_,cw,?_⟩|refine xT (by omega) ?_|refine⟨_,rfl,?_⟩|refine xr ?_|refine xA ?_);conv=>whnf)|(refine W.condT rfl ?_))
        rfl
      . have hok:=hok rfl hc;repeat (first|(refine gN (id:=17) (Y':=Aj a b n m CQ DQ 23 (sd (Num3.q ⟨n1,d1,p1⟩) (Num3.q ⟨n2,d2,p2⟩))) (Wk.tab [(8,45)] ⟨aa,aa,aa,aa,aa,aa,aa,aa,aa,aa,aa,aa,ab⟩ ⟨rfl,rfl,rfl,rfl,rfl,rfl,ab⟩ rfl) (by kernel_rfl) ?_;unfold Aj;conv=>whnf)|((first|refine W.R ?_|refine W.c ?_|refine⟨_,c8,?_⟩|refine⟨_,c9,?_⟩|refine⟨jW aa,aG rfl,aG rfl,?_⟩|refine ap (by omega) ?_|refine xT (by omega) ?_|refine xF (by omega) ?_|refine⟨_,rfl,?_⟩|refine xr ?_|refine xA ?_);conv=>whnf))
        refine⟨⟨0+1,by omega,by rw[tk,pF,cF,hok];rfl,by rw[show 0+1-a.length=0 by omega];rfl⟩,?_,by dsimp only;omega⟩;show Wk _ (kG a b n m CQ DQ _);rw[zp (k:=0) hlt];exact Wk.tab [(5,47),(6,52)] ⟨aa,aa,aa,aa,aa,aa,aa,aa,aa,aa,aa,ab⟩ ⟨rfl,rfl,rfl,rfl,rfl,gZ (by rw[tk,dE,esp];rfl),gZ (by rw[tk,dE,esp];rfl),ab⟩ rfl
   by_cases hia:i<a.length
   . obtain⟨k,rfl⟩:∃k,i=k+1:=⟨i-1,by omega⟩;have hlt:k+1<a.length:=hia;rw[zp (by omega)];have l1:k+1=((a.take (k+1)).map b9).length:=by simp;omega
     have g:(a.map Gap6.iv)[k+1]?=some (Gap6.iv a[k+1]):=by rw[bQ,a6 hlt];rfl
     obtain⟨o1,o2⟩:=ha a[k+1] (eM hlt);have tk:a.take (k+1+1)=a.take (k+1) ++ [a[k+1]]:=tR hlt;obtain⟨x,hx⟩:∃x,a[k+1]=x:=⟨_,rfl⟩;rw[hx] at g o1 o2 tk;obtain⟨c7,c8,c9⟩:=zt J o1 o2;have esp:[x].map b9=[sd x.lo.q x.hi.q]:=rfl;obtain⟨t,ht⟩:∃t,(x.lo.tame&&x.hi.tame)=t:=⟨_,rfl⟩;obtain⟨v,hv⟩:∃v,bT x.lo.q x.hi.q=v:=⟨_,rfl⟩;have hok:t=true->¬v>0->gQ x=true:=fun h1 h2=>by unfold gQ;rw[ht,hv,h1,aZ (show v<=0 by omega)];rfl
     rw[ht] at c8 c9;rw[hv] at c9;obtain⟨⟨n1,d1,p1⟩,⟨n2,d2,p2⟩⟩:=x;unfold Al;repeat (first|(refine gN (id:=14) (Y':=pl a b n m CQ DQ k 22 (Gap6.iv ⟨⟨n1,d1,p1⟩,⟨n2,d2,p2⟩⟩)) (Wk.tab [(8,48)] ⟨aa,aa,aa,aa,aa,aa,aa,aa,aa,aa,aa,aa,ab⟩ ⟨rfl,rfl,rfl,rfl,rfl,rfl,rfl,rfl,ab⟩ rfl) (by kernel_rfl) ?_;unfold pl;conv=>whnf)|((first|refine W.R ?_|refine W.c ?_|refine⟨_,c7,?_⟩|refine⟨k+1,_,rfl,g,rfl,?_⟩|refine ap (by omega) ?_|refine xT (by omega) ?_|refine⟨_,rfl,?_⟩|refine xr ?_);conv=>whnf))
     cases t with
     |false=>
      repeat (first|((first|refine W.RS ?_|refine W.ret ?_|refine⟨_,c8,?_⟩|refine⟨_,cw,?_⟩|refine⟨_,rfl,?_⟩|refine xB ?_);conv=>whnf)|(refine W.condT rfl ?_))
      rfl
     |true=>
      have c9:=c9 rfl;by_cases hc:v>0
      . repeat (first|((first|refine W.RS ?_|refine W.ret ?_|refine⟨_,c8,?_⟩|refine⟨_,c9,?_⟩|refine⟨_,cw,?_⟩|refine xT (by omega) ?_|refine⟨false,beq_eq_false_iff_ne.2 (by omega),?_⟩|refine xr ?_|refine xA ?_);conv=>whnf)|(refine W.condT rfl ?_))
        rfl
      . have hok:=hok rfl hc;repeat (first|(refine gN (id:=17) (Y':=pl a b n m CQ DQ k 23 (sd (Num3.q ⟨n1,d1,p1⟩) (Num3.q ⟨n2,d2,p2⟩))) (Wk.tab [(8,45)] ⟨aa,aa,aa,aa,aa,aa,aa,aa,aa,aa,aa,aa,ab⟩ ⟨rfl,rfl,rfl,rfl,rfl,rfl,rfl,rfl,ab⟩ rfl) (by kernel_rfl) ?_;unfold pl;conv=>whnf)|((first|refine W.R ?_|refine W.c ?_|refine⟨_,c8,?_⟩|refine⟨_,c9,?_⟩);conv=>whnf)|(refine⟨gW rfl,rfl,rfl,l1,jW aa,by show(k+1+1)*112<=(140737488355328:Nat);omega,by show k+1+1<=maxLen;unfold maxLen;omega,?_⟩;conv=>whnf)|((first|refine ap (by omega) ?_|refine xT (by omega) ?_|refine xF (by omega) ?_|refine⟨false,beq_eq_false_iff_ne.2 (by omega),?_⟩|refine⟨_,rfl,?_⟩|refine xr ?_|refine xA ?_);conv=>whnf))
        refine⟨⟨k+1+1,by omega,by rw[tk,pF,i2,cF,hok];rfl,by rw[show k+1+1-a.length=0 by omega];rfl⟩,?_,by dsimp only;omega⟩;show Wk _ (kG a b n m CQ DQ _);rw[zp (k:=k+1) hlt];exact Wk.tab [(5,47),(6,52)] ⟨aa,aa,aa,aa,aa,aa,aa,aa,aa,aa,aa,ab⟩ ⟨rfl,rfl,rfl,rfl,rfl,gZ (by rw[tk,dE,esp];rfl),gZ (by rw[tk,dE,esp];rfl),ab⟩ rfl
   by_cases hie:i=a.length
   . obtain⟨k,rfl⟩:∃k,i=k+1:=⟨i-1,by omega⟩;rw[zp (by omega)];have hlt:0<b.length:=by omega
     have hla:a.length=k+1:=by omega
     have ta:a.take (k+1)=a:=aC (by omega);have l1:k+1=((a.take (k+1)).map b9).length:=by simp;omega
     have hw:((k+1:Nat):Int)-(((a.map Gap6.iv).length:Nat):Int)=((0:Nat):Int):=by rw[la,hla];omega
     have g:(b.map Gap6.iv)[0]?=some (Gap6.iv b[0]):=by rw[bQ,a6 hlt];rfl
     obtain⟨o1,o2⟩:=hb b[0] (eM hlt);have tk:b.take (0+1)=b.take (0) ++ [b[0]]:=tR hlt;obtain⟨x,hx⟩:∃x,b[0]=x:=⟨_,rfl⟩;rw[hx] at g o1 o2 tk;obtain⟨c7,c8,c9⟩:=zt J o1 o2;have esp:[x].map b9=[sd x.lo.q x.hi.q]:=rfl;obtain⟨t,ht⟩:∃t,(x.lo.tame&&x.hi.tame)=t:=⟨_,rfl⟩;obtain⟨v,hv⟩:∃v,bT x.lo.q x.hi.q=v:=⟨_,rfl⟩;have hok:t=true->¬v>0->gQ x=true:=fun h1 h2=>by unfold gQ;rw[ht,hv,h1,aZ (show v<=0 by omega)];rfl
     rw[ht] at c8 c9;rw[hv] at c9;obtain⟨⟨n1,d1,p1⟩,⟨n2,d2,p2⟩⟩:=x;unfold Al;repeat (first|(refine gN (id:=14) (Y':=pl a b n m CQ DQ k 22 (Gap6.iv ⟨⟨n1,d1,p1⟩,⟨n2,d2,p2⟩⟩)) (Wk.tab [(8,48)] ⟨aa,aa,aa,aa,aa,aa,aa,aa,aa,aa,aa,aa,ab⟩ ⟨rfl,rfl,rfl,rfl,rfl,rfl,rfl,rfl,ab⟩ rfl) (by kernel_rfl) ?_;unfold pl;conv=>whnf)|((first|refine W.R ?_|refine W.c ?_|refine⟨_,c7,?_⟩|refine⟨0,_,hw,g,rfl,?_⟩|refine ap (by omega) ?_|refine xT (by omega) ?_|refine xF (by omega) ?_|refine⟨_,rfl,?_⟩|refine xr ?_);conv=>whnf))
     cases t with
     |false=>
      repeat (first|((first|refine W.RS ?_|refine W.ret ?_|refine⟨_,c8,?_⟩|refine⟨_,cw,?_⟩|refine⟨_,rfl,?_⟩|refine xB ?_);conv=>whnf)|(refine W.condT rfl ?_))
      rfl
     |true=>
      have c9:=c9 rfl;by_cases hc:v>0
      . repeat (first|((first|refine W.RS ?_|refine W.ret ?_|refine⟨_,c8,?_⟩|refine⟨_,c9,?_⟩|refine⟨_,cw,?_⟩|refine xT (by omega) ?_|refine⟨false,beq_eq_false_iff_ne.2 (by omega),?_⟩|refine xr ?_|refine xA ?_);conv=>whnf)|(refine W.condT rfl ?_))
        rfl
      . have hok:=hok rfl hc;repeat (first|(refine gN (id:=17) (Y':=pl a b n m CQ DQ k 23 (sd (Num3.q ⟨n1,d1,p1⟩) (Num3.q ⟨n2,d2,p2⟩))) (Wk.tab [(8,45)] ⟨aa,aa,aa,aa,aa,aa,aa,aa,aa,aa,aa,aa,ab⟩ ⟨rfl,rfl,rfl,rfl,rfl,rfl,rfl,rfl,ab⟩ rfl) (by kernel_rfl) ?_;unfold pl;conv=>whnf)|((first|refine W.R ?_|refine W.c ?_|refine⟨_,c8,?_⟩|refine⟨_,c9,?_⟩|refine⟨jW aa,aG rfl,aG rfl,?_⟩);conv=>whnf)|(refine⟨gW rfl,rfl,rfl,l1,jW aa,by show(k+1+1)*112<=(140737488355328:Nat);omega,by show k+1+1<=maxLen;unfold maxLen;omega,?_⟩;conv=>whnf)|((first|refine ap (by omega) ?_|refine xF (by omega) ?_|refine⟨false,beq_eq_false_iff_ne.2 (by omega),?_⟩|refine⟨_,rfl,?_⟩|refine xr ?_|refine xA ?_);conv=>whnf))
        refine⟨⟨k+1+1,by omega,by rw[aC (by omega)];rw[ta] at i2;exact i2,by rw[show k+1+1-a.length=0+1 by omega,tk,pF,cF,hok];rfl⟩,?_,by dsimp only;omega⟩;show Wk _ (kG a b n m CQ DQ _);rw[zn (k:=k) (j:=0) hla rfl];exact Wk.tab [(7,47),(6,52)] ⟨aa,aa,aa,aa,aa,aa,aa,aa,aa,aa,aa,ab⟩ ⟨rfl,rfl,rfl,rfl,rfl,gZ (by rw[ta]),gZ (by rw[ta,tk,dE,esp];rfl),gZ (by rw[tk,dE,esp];rfl),ab⟩ rfl
   . obtain⟨k,hla⟩:∃k,a.length=k+1:=⟨a.length-1,by omega⟩;obtain⟨j,rfl⟩:∃j,i=k+1+(j+1):=⟨i-a.length-1,by omega⟩;have hlt:j+1<b.length:=by omega
     have i3:(b.take (j+1)).all gQ=true:=by rw[show k+1+(j+1)-a.length=j+1 by omega] at i3;exact i3
     rw[zn hla rfl];have hw:((k+1+(j+1):Nat):Int)-(((a.map Gap6.iv).length:Nat):Int)=((j+1:Nat):Int):=by rw[la,hla];omega
     have l1:j+1=((b.take (j+1)).map b9).length:=by simp;omega
     have l2:k+1+(j+1)=(a.map b9++(b.take (j+1)).map b9).length:=by simp;omega
     have g:(b.map Gap6.iv)[j+1]?=some (Gap6.iv b[j+1]):=by rw[bQ,a6 hlt];rfl
     obtain⟨o1,o2⟩:=hb b[j+1] (eM hlt);have tk:b.take (j+1+1)=b.take (j+1) ++ [b[j+1]]:=tR hlt;obtain⟨x,hx⟩:∃x,b[j+1]=x:=⟨_,rfl⟩;rw[hx] at g o1 o2 tk;obtain⟨c7,c8,c9⟩:=zt J o1 o2;have esp:[x].map b9=[sd x.lo.q x.hi.q]:=rfl;obtain⟨t,ht⟩:∃t,(x.lo.tame&&x.hi.tame)=t:=⟨_,rfl⟩;obtain⟨v,hv⟩:∃v,bT x.lo.q x.hi.q=v:=⟨_,rfl⟩;have hok:t=true->¬v>0->gQ x=true:=fun h1 h2=>by unfold gQ;rw[ht,hv,h1,aZ (show v<=0 by omega)];rfl
     rw[ht] at c8 c9;rw[hv] at c9;obtain⟨⟨n1,d1,p1⟩,⟨n2,d2,p2⟩⟩:=x;unfold Ak;repeat (first|(refine gN (id:=14) (Y':=Ai a b n m CQ DQ k j 22 (Gap6.iv ⟨⟨n1,d1,p1⟩,⟨n2,d2,p2⟩⟩)) (Wk.tab [(8,48)] ⟨aa,aa,aa,aa,aa,aa,aa,aa,aa,aa,aa,aa,ab⟩ ⟨rfl,rfl,rfl,rfl,rfl,rfl,rfl,rfl,rfl,ab⟩ rfl) (by kernel_rfl) ?_;unfold Ai;conv=>whnf)|((first|refine W.R ?_|refine W.c ?_|refine⟨_,c7,?_⟩|refine⟨j+1,_,hw,g,rfl,?_⟩|refine ap (by omega) ?_|refine xT (by omega) ?_|refine xF (by omega) ?_|refine⟨_,rfl,?_⟩|refine xr ?_);conv=>whnf))
     cases t with
     |false=>
      repeat (first|((first|refine W.RS ?_|refine W.ret ?_|refine⟨_,c8,?_⟩|refine⟨_,cw,?_⟩|refine⟨_,rfl,?_⟩|refine xB ?_);conv=>whnf)|(refine W.condT rfl ?_))
      rfl
     |true=>
      have c9:=c9 rfl;by_cases hc:v>0
      . repeat (first|((first|refine W.RS ?_|refine W.ret ?_|refine⟨_,c8,?_⟩|refine⟨_,c9,?_⟩|refine⟨_,cw,?_⟩|refine xT (by omega) ?_|refine⟨_,rfl,?_⟩|refine xr ?_|refine xA ?_);conv=>whnf)|(refine W.condT rfl ?_))
        rfl
      . have hok:=hok rfl hc;repeat (first|(refine gN (id:=17) (Y':=Ai a b n m CQ DQ k j 23 (sd (Num3.q ⟨n1,d1,p1⟩) (Num3.q ⟨n2,d2,p2⟩))) (Wk.tab [(8,45)] ⟨aa,aa,aa,aa,aa,aa,aa,aa,aa,aa,aa,aa,ab⟩ ⟨rfl,rfl,rfl,rfl,rfl,rfl,rfl,rfl,rfl,ab⟩ rfl) (by kernel_rfl) ?_;unfold Ai;conv=>whnf)|((first|refine W.R ?_|refine W.c ?_|refine⟨_,c8,?_⟩|refine⟨_,c9,?_⟩);conv=>whnf)|(refine⟨gW rfl,rfl,rfl,l1,jW aa,by show(j+1+1)*112<=(140737488355328:Nat);omega,by show j+1+1<=maxLen;unfold maxLen;omega,?_⟩;conv=>whnf)|(refine⟨gW rfl,rfl,rfl,l2,jW aa,by show(k+1+(j+1)+1)*112<=(140737488355328:Nat);omega,by show k+1+(j+1)+1<=maxLen;unfold maxLen;omega,?_⟩;conv=>whnf)|((first|refine ap (by omega) ?_|refine xF (by omega) ?_|refine⟨_,rfl,?_⟩|refine xr ?_|refine xA ?_);conv=>whnf))
        refine⟨⟨k+1+(j+1)+1,by omega,by rw[aC (by omega)] at i2;rw[aC (by omega)];exact i2,by rw[show k+1+(j+1)+1-a.length=j+1+1 by omega,tk,pF,i3,cF,hok];rfl⟩,?_,by dsimp only;omega⟩;show Wk _ (kG a b n m CQ DQ (k+1+(j+1+1)));rw[zn (k:=k) (j:=j+1) hla rfl];exact Wk.tab [(7,47),(6,52)] ⟨aa,aa,aa,aa,aa,aa,aa,aa,aa,aa,aa,ab⟩ ⟨rfl,rfl,rfl,rfl,rfl,rfl,gZ (by rw[tk,dE,esp,<-dX];rfl),gZ (by rw[tk,dE,esp];rfl),ab⟩ rfl
 . have hie:i=a.length+b.length:=by omega
   subst hie;obtain⟨k,hlk⟩:∃k,a.length=k+1:=⟨a.length-1,by omega⟩;obtain⟨j,hlj⟩:∃j,b.length=j+1:=⟨b.length-1,by omega⟩;rw[zn (k:=k) (j:=j) hlk (by omega)];have tb:b.take (j+1)=b:=aC (by omega);have i2:a.all gQ=true:=by rw[aC (by omega)] at i2;exact i2
   have i3:b.all gQ=true:=by rw[show a.length+b.length-a.length=j+1 by omega,tb] at i3;exact i3
   obtain⟨e1,e2,e3,e4,hle⟩:=H i2 i3;have ea:(a.map b9).take (k+1)=a.map b9:=aC (by simp;omega);have eb:(b.map b9).take (j+1)=b.map b9:=aC (by simp;omega);have eab:(a.map b9++b.map b9).take (k+1+(j+1))=a.map b9++b.map b9:=aC (by simp;omega);have e1:C J 10 [aI n (.sl [.sl ((a.map b9).take (k+1))]) (.sl []),CQ,.int .i64 4] (.tup [.int .i64 k1,.int .i64 0]):=by rw[ea,<-hCQ];exact e1
   have e2:C J 10 [aI m (.sl [.sl ((b.map b9).take (j+1))]) (.sl []),DQ,.int .i64 4] (.tup [.int .i64 k2,.int .i64 0]):=by rw[eb,<-hDQ];exact e2
   have e4:C J 10 [aI (n+m) (.sl [.sl ((a.map b9++b.map b9).take (k+1+(j+1)))]) (.sl []),aI (n+m) Z1 Z2,.int .i64 4] (.tup [.int .i64 k3,.int .i64 0]):=by rw[eab];exact e4
   unfold Ak;rw[tb];subst hCQ;subst hDQ;repeat((first|refine W.R ?_|refine W.c ?_|refine⟨_,e1,?_⟩|refine⟨_,e2,?_⟩|refine⟨_,e3,?_⟩|refine⟨_,e4,?_⟩|refine⟨_,cw,?_⟩|refine ap (by omega) ?_|refine xT (by omega) ?_|refine xF (by omega) ?_|refine⟨_,rfl,?_⟩|refine xr ?_|refine xB ?_);conv=>whnf)
   rfl
theorem wO{J:Keep}{A B:List IV}{n m n1 m1:Int}{X1 X2 Y1 Y2 C1 C2 D1 D2 O1 O2 P1 P2:IV}{u v w1 w2:Bool}(hA:A.length<2^63)(hB:B.length<2^63)(cw:C J 6 [] (.bool true))
 (c1:C J 4 [aI n X1 X2,.int .i64 6] (.tup [aI n1 C1 C2,aI n1 O1 O2,.bool u])) (c2:C J 4 [aI m Y1 Y2,.int .i64 6] (.tup [aI m1 D1 D2,aI m1 P1 P2,.bool v]))
 (v1:u=true->C J 5 [aI n1 O1 O2] (.bool w1)) (v2:v=true->C J 5 [aI m1 P1 P2] (.bool w2))
 (h:u=false\/v=false\/w1=false\/w2=false\/(A.length:Int)≠n\/(B.length:Int)≠m\/2<n\/2<m):C J 3 [aI n X1 X2,aI m Y1 Y2,.sl A,.sl B] (.bool true):=by
 cases u with
 |false=>
  refine aH Tryz.func3 rfl rfl rfl ?_;repeat (first|(refine gN (id:=3) (Y':=gH (.sl A) (.sl B) (aI n X1 X2) (aI m Y1 Y2) (aI n1 C1 C2) (aI n1 O1 O2) false (aI m1 D1 D2) (aI m1 P1 P2) v) (Wk.tab [(2,9),(3,10),(4,20),(5,21)] ⟨aa,aa,aa,aa,aa,aa,aa,aa,aa,aa,ab⟩ ⟨rfl,rfl,rfl,rfl,rfl,rfl,ab⟩ rfl) (by kernel_rfl) ?_;unfold gH;conv=>whnf)|((first|refine W.R ?_|refine W.c ?_|refine⟨_,c1,?_⟩|refine⟨_,c2,?_⟩|refine⟨_,cw,?_⟩|refine⟨_,rfl,?_⟩|refine xB ?_);conv=>whnf))
  rfl
 |true=>
  have v1:=v1 rfl;cases v with
  |false=>
   refine aH Tryz.func3 rfl rfl rfl ?_;repeat (first|(refine gN (id:=3) (Y':=gH (.sl A) (.sl B) (aI n X1 X2) (aI m Y1 Y2) (aI n1 C1 C2) (aI n1 O1 O2) true (aI m1 D1 D2) (aI m1 P1 P2) false) (Wk.tab [(2,9),(3,10),(4,20),(5,21)] ⟨aa,aa,aa,aa,aa,aa,aa,aa,aa,aa,ab⟩ ⟨rfl,rfl,rfl,rfl,rfl,rfl,ab⟩ rfl) (by kernel_rfl) ?_;unfold gH;conv=>whnf)|((first|refine W.R ?_|refine W.c ?_|refine⟨_,c1,?_⟩|refine⟨_,c2,?_⟩|refine⟨_,cw,?_⟩|refine⟨_,rfl,?_⟩|refine xA ?_|refine xB ?_);conv=>whnf))
   rfl
  |true=>
   have v2:=v2 rfl;cases w1 with
   |false=>
    refine aH Tryz.func3 rfl rfl rfl ?_;repeat (first|(refine gN (id:=3) (Y':=gH (.sl A) (.sl B) (aI n X1 X2) (aI m Y1 Y2) (aI n1 C1 C2) (aI n1 O1 O2) true (aI m1 D1 D2) (aI m1 P1 P2) true) (Wk.tab [(2,9),(3,10),(4,20),(5,21)] ⟨aa,aa,aa,aa,aa,aa,aa,aa,aa,aa,ab⟩ ⟨rfl,rfl,rfl,rfl,rfl,rfl,ab⟩ rfl) (by kernel_rfl) ?_;unfold gH;conv=>whnf)|((first|refine W.R ?_|refine W.c ?_|refine⟨_,c1,?_⟩|refine⟨_,c2,?_⟩|refine⟨_,v1,?_⟩|refine⟨_,cw,?_⟩|refine⟨_,rfl,?_⟩|refine xA ?_|refine xB ?_);conv=>whnf))
    rfl
   |true=>
    cases w2 with
    |false=>
     refine aH Tryz.func3 rfl rfl rfl ?_;repeat (first|(refine gN (id:=3) (Y':=gH (.sl A) (.sl B) (aI n X1 X2) (aI m Y1 Y2) (aI n1 C1 C2) (aI n1 O1 O2) true (aI m1 D1 D2) (aI m1 P1 P2) true) (Wk.tab [(2,9),(3,10),(4,20),(5,21)] ⟨aa,aa,aa,aa,aa,aa,aa,aa,aa,aa,ab⟩ ⟨rfl,rfl,rfl,rfl,rfl,rfl,ab⟩ rfl) (by kernel_rfl) ?_;unfold gH;conv=>whnf)|((first|refine W.R ?_|refine W.c ?_|refine⟨_,c1,?_⟩|refine⟨_,c2,?_⟩|refine⟨_,v1,?_⟩|refine⟨_,v2,?_⟩|refine⟨_,cw,?_⟩|refine⟨_,rfl,?_⟩|refine xA ?_|refine xB ?_);conv=>whnf))
     rfl
    |true=>
     by_cases h1:(A.length:Int)=n
     . by_cases h2:(B.length:Int)=m
       . by_cases h3:2<n
         . refine aH Tryz.func3 rfl rfl rfl ?_;repeat (first|(refine gN (id:=3) (Y':=gH (.sl A) (.sl B) (aI n X1 X2) (aI m Y1 Y2) (aI n1 C1 C2) (aI n1 O1 O2) true (aI m1 D1 D2) (aI m1 P1 P2) true) (Wk.tab [(2,9),(3,10),(4,20),(5,21)] ⟨aa,aa,aa,aa,aa,aa,aa,aa,aa,aa,ab⟩ ⟨rfl,rfl,rfl,rfl,rfl,rfl,ab⟩ rfl) (by kernel_rfl) ?_;unfold gH;conv=>whnf)|((first|refine W.R ?_|refine W.c ?_|refine⟨_,c1,?_⟩|refine⟨_,c2,?_⟩|refine⟨_,v1,?_⟩|refine⟨_,v2,?_⟩|refine⟨_,cw,?_⟩|refine xT (by omega) ?_|refine⟨false,bne_eq_false_iff_eq.2 (by omega),?_⟩|refine⟨_,rfl,?_⟩|refine xr ?_|refine xA ?_|refine xB ?_);conv=>whnf))
           rfl
         . have h4:2<m:=by
            rcases h with h|h|h|h|h|h|h|h<;>first|cases h|exact absurd h1 h|exact absurd h2 h|exact absurd h h3|exact h
           refine aH Tryz.func3 rfl rfl rfl ?_;repeat (first|(refine gN (id:=3) (Y':=gH (.sl A) (.sl B) (aI n X1 X2) (aI m Y1 Y2) (aI n1 C1 C2) (aI n1 O1 O2) true (aI m1 D1 D2) (aI m1 P1 P2) true) (Wk.tab [(2,9),(3,10),(4,20),(5,21)] ⟨aa,aa,aa,aa,aa,aa,aa,aa,aa,aa,ab⟩ ⟨rfl,rfl,rfl,rfl,rfl,rfl,ab⟩ rfl) (by kernel_rfl) ?_;unfold gH;conv=>whnf)|((first|refine W.R ?_|refine W.c ?_|refine⟨_,c1,?_⟩|refine⟨_,c2,?_⟩|refine⟨_,v1,?_⟩|refine⟨_,v2,?_⟩|refine⟨_,cw,?_⟩|refine xT (by omega) ?_|refine xF (by omega) ?_|refine⟨false,bne_eq_false_iff_eq.2 (by omega),?_⟩|refine⟨_,rfl,?_⟩|refine xr ?_|refine xA ?_);conv=>whnf))
           rfl
       . refine aH Tryz.func3 rfl rfl rfl ?_;repeat (first|(refine gN (id:=3) (Y':=gH (.sl A) (.sl B) (aI n X1 X2) (aI m Y1 Y2) (aI n1 C1 C2) (aI n1 O1 O2) true (aI m1 D1 D2) (aI m1 P1 P2) true) (Wk.tab [(2,9),(3,10),(4,20),(5,21)] ⟨aa,aa,aa,aa,aa,aa,aa,aa,aa,aa,ab⟩ ⟨rfl,rfl,rfl,rfl,rfl,rfl,ab⟩ rfl) (by kernel_rfl) ?_;unfold gH;conv=>whnf)|((first|refine W.R ?_|refine W.c ?_|refine⟨_,c1,?_⟩|refine⟨_,c2,?_⟩|refine⟨_,v1,?_⟩|refine⟨_,v2,?_⟩|refine⟨_,cw,?_⟩|refine⟨true,bne_iff_ne.2 (by omega),?_⟩|refine⟨false,bne_eq_false_iff_eq.2 (by omega),?_⟩|refine⟨_,rfl,?_⟩|refine xr ?_|refine xA ?_|refine xB ?_);conv=>whnf))
         rfl
     . refine aH Tryz.func3 rfl rfl rfl ?_;repeat (first|(refine gN (id:=3) (Y':=gH (.sl A) (.sl B) (aI n X1 X2) (aI m Y1 Y2) (aI n1 C1 C2) (aI n1 O1 O2) true (aI m1 D1 D2) (aI m1 P1 P2) true) (Wk.tab [(2,9),(3,10),(4,20),(5,21)] ⟨aa,aa,aa,aa,aa,aa,aa,aa,aa,aa,ab⟩ ⟨rfl,rfl,rfl,rfl,rfl,rfl,ab⟩ rfl) (by kernel_rfl) ?_;unfold gH;conv=>whnf)|((first|refine W.R ?_|refine W.c ?_|refine⟨_,c1,?_⟩|refine⟨_,c2,?_⟩|refine⟨_,v1,?_⟩|refine⟨_,v2,?_⟩|refine⟨_,cw,?_⟩|refine⟨true,bne_iff_ne.2 (by omega),?_⟩|refine⟨_,rfl,?_⟩|refine xr ?_|refine xA ?_|refine xB ?_);conv=>whnf))
       rfl
end Go.Proofs.Fl
namespace Go.Proofs.Reg
def ft:Pw->List Rat->Rat
 |k::p,x::xs=>x^k.toNat*ft p xs
 |_,_=>1
abbrev Cl:=List (List Rat×Rat)
def eJ(φ:List Rat->Rat):Cl->Rat
 | []=>0
 |c::l=>c.2*φ c.1+eJ φ l
def du:Pw->List (Rat×Rat)->Rat
 |k::p,b::bs=>(b.2^(k.toNat+1)-b.1^(k.toNat+1))/((k.toNat+1:Nat):Rat)*du p bs
 |_,_=>1
def dO(c d:Cl):Cl:=c.flatMap fun a=>d.map fun b=>(a.1++b.1,a.2*b.2)
theorem B5:∀{p:Pw} {x:List Rat} {q:Pw} {y:List Rat},p.length=x.length->ft (p++q) (x++y)=ft p x*ft q y
 | [],[],q,y,_=>by
  simp only[lM];show _=1*_;grind
 |k::p,a::x,q,y,h=>by
  have:=B5 (p:=p) (x:=x) (q:=q) (y:=y) (by simpa using h);simp only[kJ,ft,this];grind
theorem Ck:∀{p:Pw} {x:List (Rat×Rat)} {q:Pw} {y:List (Rat×Rat)},p.length=x.length->du (p++q) (x++y)=du p x*du q y
 | [],[],q,y,_=>by
  simp only[lM];show _=1*_;grind
 |k::p,a::x,q,y,h=>by
  have:=Ck (p:=p) (x:=x) (q:=q) (y:=y) (by simpa using h);simp only[kJ,du,this];grind
theorem Cp{φ:List Rat->Rat}:∀{c d:Cl},eJ φ (c++d)=eJ φ c+eJ φ d
 | [],d=>by simp only[lM,eJ];grind
 |a::c,d=>by simp only[kJ,eJ,Cp (c:=c)];grind
theorem I1{p q:Pw}{a:List Rat×Rat}(h:p.length=a.1.length):∀d:Cl,eJ (ft (p++q)) (d.map fun b=>(a.1++b.1,a.2*b.2))=a.2*ft p a.1*eJ (ft q) d
 | []=>by simp only[eC,eJ];grind
 |b::d=>by
  simp only[aS,eJ,I1 h d,B5 h];grind
theorem HH{p q:Pw}{d:Cl}:∀{c:Cl},(∀a∈c,a.1.length=p.length)->eJ (ft (p++q)) (dO c d)=eJ (ft p) c*eJ (ft q) d
 | [],_=>by simp only[dO,Fy,eJ];grind
 |a::c,h=>by
  have ih:=HH (p:=p) (q:=q) (d:=d) (c:=c) fun x hx=>h x (eB _ hx);unfold dO at ih ⊢;rw[ch,Cp,ih,I1 (h a (by simp)).symm];simp only[eJ];grind
def eQ(n m:Nat)(fail:Pw->Bool):Int:=match(cQ n m).find? fail with
 |some p=>sumI p-1
 |none=>m
theorem Hz(n m:Nat)(fail:Pw->Bool) : -1<=eQ n m fail/\eQ n m fail<=m:=by
 unfold eQ;cases h:(cQ n m).find? fail with
 |none=>dsimp only;omega
 |some p=>
  obtain⟨_,h1,h2⟩:=uu.1 (List.mem_of_find?_eq_some h);have:=n8 h1;dsimp only;omega
theorem Hy{n m:Nat}{fail:Pw->Bool}{p:Pw}(hl:p.length=n)(h0:∀x∈p,0<=x)(h:sumI p<=eQ n m fail):fail p=false:=by
 have hm:=(Hz n m fail).2;have hp:p∈cQ n m:=uu.2 ⟨hl,h0,by omega⟩;unfold eQ at h;cases hf:(cQ n m).find? fail with
 |none=>
  have:=List.find?_eq_none.1 hf p hp;simpa using this
 |some q=>
  rw[hf] at h;dsimp only at h;obtain⟨_,ax,bs,e,hall⟩:=List.find?_eq_some_iff_append.1 hf;rw[e] at hp;have hs:=Qe n m;rw[e] at hs;rcases List.mem_append.1 hp with hp|hp
  . simpa using hall p hp
  . rcases List.mem_cons.1 hp with rfl|hp
    . omega
    . have hb:=(List.pairwise_cons.1 (List.pairwise_append.1 hs).2.1).1 p hp;unfold cc at hb;split at hb
      . split at hb
        . omega
        . omega
      . omega
theorem Qt{n m k:Nat}{fail:Pw->Bool}{j:Int}(hj:j<=m)(h:∀p:Pw,p.length=n->(∀x∈p,0<=x)->sumI p<=j->fail p=false):j<=eQ n m fail:=by
 unfold eQ;cases hf:(cQ n m).find? fail with
 |none=>exact hj
 |some q=>
  obtain⟨h1,h2,h3⟩:=uu.1 (List.mem_of_find?_eq_some hf);have hq:=List.find?_some hf;dsimp only;rcases Int.lt_or_le j (sumI q) with h4|h4
  . omega
  . rw[h q h1 h2 h4] at hq;cases hq
def kq(c:Cl)(bs:List (Rat×Rat))(p:Pw):Bool:=decide (eJ (ft p) c≠du p bs)
theorem GM{c d:Cl}{a b:List (Rat×Rat)}{m:Nat}(hc:∀x∈c,x.1.length=a.length) :
 min (eQ a.length m (kq c a)) (eQ b.length m (kq d b))<=eQ (a.length+b.length) m (kq (dO c d) (a++b)):=by
 have l1:=Hz a.length m (kq c a);refine Qt (k:=0) (by omega) fun r hr h0 hs=>?_;obtain⟨p,q,rfl,hp⟩:∃p q,r=p++q/\p.length=a.length:=⟨r.take a.length,r.drop a.length,(jQ _ _).symm,by simp;omega⟩;have hq:q.length=b.length:=by rw[bF] at hr;omega
 have p0:∀x∈p,0<=x:=fun x hx=>h0 x (List.mem_append.2 (.inl hx));have q0:∀x∈q,0<=x:=fun x hx=>h0 x (List.mem_append.2 (.inr hx));have s1:=n8 p0;have s2:=n8 q0;rw[QP] at hs;have e1:=Hy hp p0 (show sumI p<=eQ a.length m (kq c a) by omega);have e2:=Hy hq q0 (show sumI q<=eQ b.length m (kq d b) by omega);unfold kq at e1 e2 ⊢;simp only[NI,NJ] at e1 e2 ⊢;rw[HH (fun x hx=>by rw[hc x hx,hp]),Ck hp,e1,e2]
def iu(φ:List Rat->Rat)(c:Cl):Nat->Rat
 |0=>0
 |k+1=>iu φ c k+(match c[k]? with
  |some x=>x.2*φ x.1
  |none=>0)
theorem I2(φ:List Rat->Rat)(c:Cl):∀k,k<=c.length->iu φ c k=eJ φ (c.take k)
 |0,_=>by simp[iu,eJ]
 |k+1,h=>by
  have e:c[k]?=some c[k]:=a6 (by omega);rw[iu,I2 φ c k (by omega),gg,e,Cp];simp only[Option.toList,eJ];grind
theorem Kq(φ:List Rat->Rat)(c:Cl):iu φ c c.length=eJ φ c:=by
 rw[I2 φ c _ (ak _),dM]
abbrev Bo:=List (Rat×Rat)
def bxF(b:Bo)(p:Pw)(k:Nat):Rat :=
 ((b.getD k (0,0)).2^((p.getD k 0).toNat+1)-(b.getD k (0,0)).1^((p.getD k 0).toNat+1))/(((p.getD k 0).toNat+1:Nat):Rat)
def lG(b:Bo)(p:Pw):Nat->Rat
 |0=>1
 |k+1=>lG b p k*bxF b p k
theorem IS{b:Bo}{p:Pw}(hl:p.length=b.length):∀k,k<=p.length->lG b p k=du (p.take k) (b.take k)
 |0,_=>by simp[lG,du]
 |k+1,h=>by
  have e1:p[k]?=some p[k]:=a6 (by omega);have e2:b[k]?=some b[k]:=a6 (by omega);rw[lG,IS hl k (by omega),gg,gg,e1,e2,Ck (by simp;omega),bxF];rw[br,br,e1,e2];simp only[Option.toList,Nq,du];grind
theorem Kl{b:Bo}{p:Pw}(hl:p.length=b.length):lG b p p.length=du p b:=by
 rw[IS hl _ (ak _),dM,hl,dM]
theorem Hb.neg{k:Nat}{a:Rat}(h:Hb k a):Hb k (-a):=by
 unfold Hb at *;rw[Fm,Rat.neg_den];omega
theorem Hb.sub{i j:Nat}{a b:Rat}(ha:Hb i a)(hb:Hb j b):Hb (i+j+1) (a-b):=by
 rw[Fo];exact ha.add hb.neg
theorem Hb.divn{i k:Nat}{a:Rat}{m:Nat}(h0:0<m)(hm:m<=2^k)(ha:Hb i a):Hb (i+k) (a/(m:Rat)):=by
 have e:a/(m:Rat)=a*mkRat 1 m:=by
  rw[tV,Rat.mkRat_eq_div,tV];show _=a*(((1:Int):Rat)*(((m:Int)):Rat)⁻¹);rw[show((1:Int):Rat)=1 from rfl,FA];rfl
 rw[e];exact ha.mul (Hb.mk (by omega) (by show 1<=_;exact wE) hm)
theorem Li{j:Nat}{b:Bo}{p:Pw}(hb:∀x∈b,Hb j x.1/\Hb j x.2)(hp:∀k∈p,0<=k/\k<=24)(k:Nat) :
 Hb (j*25) ((b.getD k (0,0)).2^((p.getD k 0).toNat+1))/\Hb (j*25) ((b.getD k (0,0)).1^((p.getD k 0).toNat+1))/\Hb (j*25+j*25+1+5) (bxF b p k):=by
 have h1:Hb j (b.getD k (0,0)).1/\Hb j (b.getD k (0,0)).2:=by
  rw[br];cases h:b[k]? with
  |none=>exact⟨Hb.zero j,Hb.zero j⟩
  |some x=>exact hb x (bV h)
 have h2:(p.getD k 0).toNat<=24:=by
  rw[br];cases h:p[k]? with
  |none=>show(0:Int).toNat<=24;decide
  |some x=>have:=hp x (bV h);show x.toNat<=24;omega
 have h3:=(h1.2.pow ((p.getD k 0).toNat+1)).mono (fK j (show(p.getD k 0).toNat+1<=25 by omega));have h4:=(h1.1.pow ((p.getD k 0).toNat+1)).mono (fK j (show(p.getD k 0).toNat+1<=25 by omega));refine⟨h3,h4,?_⟩;unfold bxF;exact(h3.sub h4).divn (by omega) (by omega)
theorem Hb.one(k:Nat):Hb k 1:=⟨wE,wE⟩
theorem DF{j:Nat}{b:Bo}{p:Pw}(hb:∀x∈b,Hb j x.1/\Hb j x.2)(hp:∀k∈p,0<=k/\k<=24):∀k,Hb (k*(j*50+6)) (lG b p k)
 |0=>Hb.one _
 |k+1=>((DF hb hp k).mul (Li hb hp k).2.2).mono (by rw[n5];omega)
theorem Lp{i j:Nat}{φ:List Rat->Rat}{c:Cl}(hc:∀x∈c,Hb i x.2/\Hb j (φ x.1)):∀k,Hb (k*(i+j+1)) (iu φ c k)
 |0=>Hb.zero _
 |k+1=>by
  have ih:=Lp hc k;rw[iu,n5];cases h:c[k]? with
  |none=>exact(ih.add (Hb.zero (i+j))).mono (by omega)
  |some x=>have:=hc x (bV h);exact(ih.add (this.1.mul this.2)).mono (by omega)
theorem G8{c d:Cl}{z:List Rat×Rat}(h:z∈dO c d):∃x∈c,∃y∈d,z=(x.1++y.1,x.2*y.2):=by
 unfold dO at h;obtain⟨x,hx,hz⟩:=List.mem_flatMap.1 h;obtain⟨y,hy,rfl⟩:=List.mem_map.1 hz;exact⟨x,hx,y,hy,rfl⟩
theorem Bt{c d:Cl}:(dO c d).length=c.length*d.length:=by
 unfold dO;induction c with
 |nil=>simp
 |cons a c ih=>rw[ch,bF,ih,bR,bB,n5];omega
end Go.Proofs.Reg
namespace Go.Proofs.Fl
open Go.RowKit Go.Proofs.Dig
attribute [local irreducible] IntKind.wrap a7 be bq bw
open Go.Proofs.Reg (Bo)
noncomputable def im(s:Rat×Rat):IV:=sd s.1 s.2
def lD(s:Rat×Rat):Bool:=!decide (bT s.1 s.2<=0)
theorem SK{J:Keep}{a b:Rat}(ha:al a<2^38)(hb:al b<2^38):C J 62 [sd a b] (.bool (lD (a,b))):=by
 refine aH Tryz.func62 rfl rfl rfl ?_;have c1:=VF (J:=J) ha hb;unfold lD;obtain⟨v,hv⟩:∃v,decide (bT a b<=0)=v:=⟨_,rfl⟩;rw[hv] at c1;dsimp only;rw[hv];repeat((first|refine W.RS ?_|refine W.ret ?_|refine⟨_,c1,?_⟩|refine⟨_,rfl,?_⟩);conv=>whnf)
 rfl
theorem Sv(J:Keep){l:Bo}(hl:l.length<2^50)(hq:∀s∈l,al s.1<2^38/\al s.2<2^38):C J 120 [.sl (l.map im),.fn 62] (.int .i64 (jj lD l)):=by
 have la:(l.map im).length=l.length:=by simp
 obtain⟨r,hr⟩:∃r,jj lD l=r:=⟨_,rfl⟩;rw[hr];refine aH Tryz.func120 rfl rfl rfl ?_;repeat((first|refine W.R ?_|refine W.c ?_|refine⟨_,rfl,?_⟩);conv=>whnf)
 refine W.loop (G:={ t:Nat // t<=l.length/\∀y∈l.take t,lD y=false }) (fun t=>aF [(0,.iv (.sl (l.map im))),(1,.iv (.fn 62)),(6,.iv (.sl (l.map im))),(7,.iv (.int .i64 (l.length:Int))),(8,.iv (.int .i64 (t.1:Int)))] [] 20) (fun t=>l.length-t.1) ⟨0,bk _,by simp⟩
  (Wk.tab [] ⟨aa,aa,aa,⟨dm (by rw[la]),rfl⟩,aa,ab⟩ trivial rfl) ?_
 rintro⟨t,ht,hz⟩;show W J _ _ (aF [(0,.iv (.sl (l.map im))),(1,.iv (.fn 62)),(6,.iv (.sl (l.map im))),(7,.iv (.int .i64 (l.length:Int))),(8,.iv (.int .i64 (t:Int)))] [] 20) _;by_cases h:t<l.length
 . obtain⟨⟨a,b⟩,hlx⟩:∃x,l[t]?=some x:=⟨_,a6 h⟩;have gx:(l.map im)[t]?=some (sd a b):=by rw[bQ,hlx];rfl
   obtain⟨q1,q2⟩:=hq _ (bV hlx);have c1:=SK (J:=J) q1 q2;cases h0:lD (a,b) with
   |true=>
    rw[h0] at c1;have e:=ya hz hlx h0;rw[hr] at e;subst e;repeat((first|refine W.R ?_|refine W.c ?_|refine⟨_,c1,?_⟩|refine⟨t,_,rfl,gx,rfl,?_⟩|refine xT (by omega) ?_|refine xr ?_);conv=>whnf)
    rfl
   |false=>
    rw[h0] at c1;repeat((first|refine W.R ?_|refine W.c ?_|refine⟨_,c1,?_⟩|refine⟨t,_,rfl,gx,rfl,?_⟩|refine ap (by omega) ?_|refine xT (by omega) ?_|refine xr ?_);conv=>whnf)
    exact⟨⟨t+1,h,uf hz hlx h0⟩,Wk.tab [] ⟨aa,aa,aa,aa,aa,ab⟩ trivial rfl,by dsimp only;omega⟩
 . have e:t=l.length:=by omega
   subst e;rw[dM] at hz;have e:=uG hz;rw[hr] at e;subst e;repeat((first|refine W.R ?_|refine W.c ?_|refine xF (by omega) ?_|refine xr ?_);conv=>whnf)
   rfl
theorem SL(J:Keep){l:Bo}(hl:l.length<2^50)(hq:∀s∈l,al s.1<2^38/\al s.2<2^38):C J 61 [.sl (l.map im),.fn 62] (.bool (l.any lD)):=by
 rw[<-yb];refine aH Tryz.func61 rfl rfl rfl ?_;have c1:=Sv J hl hq;repeat((first|refine W.RS ?_|refine W.ret ?_|refine⟨_,c1,?_⟩|refine⟨_,rfl,?_⟩|refine xr ?_);conv=>whnf)
 rfl
end Go.Proofs.Fl
namespace Go.Proofs.En
open Go.RowKit Go.Proofs.Fl Go.Proofs.Dig
attribute [local irreducible] IntKind.wrap a7 be bq bw SW SWr CallOk To Tr eG
open Go.Proofs.Reg
def gD(n:Int)(r:List IV):Bool:=!decide ((r.length:Int)=n)
theorem SE(J:Keep){n:Int}{r:List IV}:LocC (XS J) 86 [ac (.sl r),.w (.one (.ptr 0 0 0))] [oX n] (ac (.bool (gD n r))) [oX n]:=by
 refine lT Tryz.func86 rfl rfl rfl ⟨.c rfl,.c rfl,ab⟩ ⟨.c rfl,ab⟩ (.inr rfl) ⟨.c rfl,ab⟩ ?_;unfold gD;by_cases h1:(r.length:Int)=n
 . rw[aZ h1];repeat((first|refine SW.RS ?_|refine SW.ret ?_|refine bc rfl ?_|refine And.intro rfl (eU (b:=false) (bne_eq_false_iff_eq.2 (by omega)) ?_)|refine aM rfl ?_);conv=>whnf)
   exact Tr.tab [] [] ⟨.sm rfl rfl,ab⟩ ⟨.rn rfl rfl rfl rfl,ab⟩ rfl
 . rw[bl h1];repeat((first|refine SW.RS ?_|refine SW.ret ?_|refine bc rfl ?_|refine And.intro rfl (eU (b:=true) (bne_iff_ne.2 (by omega)) ?_)|refine aM rfl ?_);conv=>whnf)
   exact Tr.tab [] [] ⟨.sm rfl rfl,ab⟩ ⟨.rn rfl rfl rfl rfl,ab⟩ rfl
theorem SF(J:Keep){n:Int}{f:List (List IV)}(hf:f.length<2^60):LocC (XS J) 113 [ac (.sl (f.map IV.sl)),.w (.one (.clo 86 [0]))] [oX n] (ac (di (jj (gD n) f))) [oX n]:=by
 obtain⟨r,hr⟩:∃r,jj (gD n) f=r:=⟨_,rfl⟩;rw[hr];have lf:(((f.map IV.sl).length:Nat):Int)=(f.length:Int):=by simp
 refine lT Tryz.func113 rfl rfl rfl ⟨.c rfl,.c rfl,ab⟩ ⟨.c rfl,ab⟩ (.inr rfl) ⟨.c rfl,ab⟩ ?_;repeat((first|refine SW.R ?_|refine SW.c ?_|refine bc lf ?_);conv=>whnf)
 refine dc (G:={ t:Nat // t<=f.length/\∀y∈f.take t,gD n y=false }) (fun t=>aP [(0,ac (.sl (f.map IV.sl))),(1,.w (.one (.clo 86 [0]))),(6,ac (.sl (f.map IV.sl))),(7,ac (di (f.length:Int))),(8,ac (di (t.1:Int)))] [(0,oX n)] 1) (fun t=>f.length-t.1) ⟨0,bk _,by simp⟩
  (Tr.tab [] [] ⟨.sm rfl rfl,.rn rfl rfl,.sm rfl rfl,.sm rfl rfl,.sm rfl rfl,ab⟩ ⟨.rn rfl rfl rfl rfl,ab⟩ rfl) ?_
 rintro⟨t,ht,hz⟩;show SW (XS J) _ _ _ _ (aP [(0,ac (.sl (f.map IV.sl))),(1,.w (.one (.clo 86 [0]))),(6,ac (.sl (f.map IV.sl))),(7,ac (di (f.length:Int))),(8,ac (di (t:Int)))] [(0,oX n)] 1) _;by_cases h:t<f.length
 . obtain⟨p,hx⟩:∃x,f[t]?=some x:=⟨_,a6 h⟩;have gv:(f.map IV.sl)[t]?=some (.sl p):=by rw[bQ,hx];rfl
   have c1:=SE J (n:=n) (r:=p);cases h0:gD n p with
   |true=>
    rw[h0] at c1;have e:=ya (pr:=gD n) hz hx h0;rw[hr] at e;subst e;repeat((first|refine SW.R ?_|refine SW.c ?_|refine bz rfl gv rfl ?_|refine yT (by omega) ?_);conv=>whnf)
    refine dN c1 [0] 0 rfl ⟨.d rfl,.c rfl,ab⟩ ⟨.c rfl,ab⟩ trivial (bm (.c rfl) df) (.d rfl) ?_;conv=>whnf
    repeat (first|((first|refine SW.RS ?_|refine SW.ret ?_);conv=>whnf)|(refine SW.condT rfl ?_))
    exact Tr.tab [] [] ⟨.sm rfl rfl,ab⟩ ⟨.rn rfl rfl rfl rfl,ab⟩ rfl
   |false=>
    rw[h0] at c1;repeat((first|refine SW.R ?_|refine SW.c ?_|refine bz rfl gv rfl ?_|refine yT (by omega) ?_);conv=>whnf)
    refine dN c1 [0] 0 rfl ⟨.d rfl,.c rfl,ab⟩ ⟨.c rfl,ab⟩ trivial (bm (.c rfl) df) (.d rfl) ?_;conv=>whnf
    repeat (first|((first|refine SW.R ?_|refine SW.skip ?_|refine ap (by omega) ?_);conv=>whnf)|(refine SW.condF rfl ?_))
    exact⟨⟨t+1,h,uf hz hx h0⟩,Tr.tab [] [] ⟨.sm rfl rfl,.rn rfl rfl,.sm rfl rfl,.sm rfl rfl,.sm rfl rfl,ab⟩ ⟨.rn rfl rfl rfl rfl,ab⟩ rfl,by dsimp only;omega⟩
 . have e:t=f.length:=by omega
   subst e;rw[dM] at hz;have e:=uG hz;rw[hr] at e;subst e;repeat((first|refine SW.R ?_|refine SW.c ?_|refine yF (by omega) ?_);conv=>whnf)
   exact Tr.tab [] [] ⟨.sm rfl rfl,ab⟩ ⟨.rn rfl rfl rfl rfl,ab⟩ rfl
theorem SZ(J:Keep){n:Int}{f:List (List IV)}(hf:f.length<2^60):LocC (XS J) 53 [ac (.sl (f.map IV.sl)),.w (.one (.clo 86 [0]))] [oX n] (ac (.bool (f.any (gD n)))) [oX n]:=by
 rw[<-yb];have c1:=SF J (n:=n) hf;refine lT Tryz.func53 rfl rfl rfl ⟨.c rfl,.c rfl,ab⟩ ⟨.c rfl,ab⟩ (.inr rfl) ⟨.c rfl,ab⟩ ?_;repeat ((refine SW.RS ?_;conv=>whnf))
 refine dN c1 [0] 0 rfl ⟨.d rfl,.c rfl,ab⟩ ⟨.c rfl,ab⟩ trivial (bm (.c rfl) df) (.d rfl) ?_;conv=>whnf
 repeat((first|refine SW.ret ?_|refine eU rfl ?_|refine And.intro (by decide) ?_);conv=>whnf)
 exact Tr.tab [] [] ⟨.sm rfl rfl,ab⟩ ⟨.rn rfl rfl rfl rfl,ab⟩ rfl
theorem Ju(J:Keep){n:Int}{f:List (List IV)}(hf:f.length<2^60):Go.Proofs.Fl.C J 39 [.sl (f.map IV.sl),.int .i64 n] (.bool (f.any (gD n))):=by
 refine pS Tryz.func39 rfl rfl rfl rfl rfl ?_;have c1:=SZ J (n:=n) hf;repeat ((refine SW.RS ?_;conv=>whnf))
 refine dN c1 [0] 0 rfl ⟨.d rfl,.c rfl,ab⟩ ⟨.c rfl,ab⟩ trivial (bm (.c rfl) df) (.d rfl) ?_;conv=>whnf
 repeat ((refine SW.ret ?_;conv=>whnf))
 rfl
def mQ(n:Int)(f:List (List IV))(w:List IV):IV:=.agg [.int .i64 n,.sl (f.map IV.sl),.sl w]
def qx(n:Int)(f:List (List IV))(w:List IV):Bool:=decide (1<=n/\n<=4)&&(decide (f.length<=2000)&&(!f.any (gD n)&&decide (w.length=f.length)))
theorem CA(J:Keep){n:Int}{f:List (List IV)}{w:List IV}(hf:f.length<2^60):Go.Proofs.Fl.C J 28 [mQ n f w] (.bool (qx n f w)):=by
 refine pS Tryz.func28 rfl rfl rfl rfl rfl ?_;have lf:(((f.map IV.sl).length:Nat):Int)=(f.length:Int):=by simp
 have c1:=Jw J n;have c2:=Ju J (n:=n) hf;unfold qx mQ;by_cases h1:1<=n/\n<=4
 . rw[aZ h1] at c1 ⊢;by_cases h2:f.length<=2000
   . rw[aZ h2];cases h3:f.any (gD n) with
     |true=>
      rw[h3] at c2;repeat((first|refine SW.RS ?_|refine SW.ret ?_|refine kz rfl ?_|refine mG rfl ?_|refine bc lf ?_|refine aV c1 rfl rfl rfl ?_|refine aV c2 rfl rfl rfl ?_|refine yT (by omega) ?_|refine eU rfl ?_|refine cn rfl ?_|refine aM rfl ?_);conv=>whnf)
      rfl
     |false=>
      rw[h3] at c2;by_cases h4:w.length=f.length
      . rw[aZ h4];repeat((first|refine SW.RS ?_|refine SW.ret ?_|refine kz rfl ?_|refine bc lf ?_|refine aV c1 rfl rfl rfl ?_|refine aV c2 rfl rfl rfl ?_|refine yT (by omega) ?_|refine bc rfl ?_|refine eU rfl ?_|refine cn rfl ?_|refine aM rfl ?_);conv=>whnf)
        rfl
      . rw[bl h4];repeat((first|refine SW.RS ?_|refine SW.ret ?_|refine kz rfl ?_|refine bc lf ?_|refine aV c1 rfl rfl rfl ?_|refine aV c2 rfl rfl rfl ?_|refine yT (by omega) ?_|refine yF (by omega) ?_|refine bc rfl ?_|refine eU rfl ?_|refine cn rfl ?_|refine aM rfl ?_);conv=>whnf)
        rfl
   . rw[bl h2];repeat((first|refine SW.RS ?_|refine SW.ret ?_|refine kz rfl ?_|refine mG rfl ?_|refine bc lf ?_|refine aV c1 rfl rfl rfl ?_|refine yF (by omega) ?_|refine cn rfl ?_|refine aM rfl ?_);conv=>whnf)
     rfl
 . rw[bl h1] at c1 ⊢;repeat((first|refine SW.RS ?_|refine SW.ret ?_|refine mG rfl ?_|refine aV c1 rfl rfl rfl ?_|refine cn rfl ?_|refine aM rfl ?_);conv=>whnf)
   rfl
def ij(n:Int)(B S:List IV):EO:=.mem 42 [.iv (di n),.iv (.sl B),.iv (.sl S)] false [(0,3)] 1
noncomputable def eW(b:Bo):IV:=.sl (b.map im)
def fF(s:List (List IV)):IV:=.sl (s.map IV.sl)
def jC(n:Int)(b:Bo):Bool:=!decide ((b.length:Int)=n)||b.any lD
def mA(n:Int)(s:List (List IV)):Bool:=!decide ((s.length:Int)=n+1)||s.any (gD n)
def vB(b:Bo):Prop:=b.length<2^50/\∀s∈b,al s.1<2^38/\al s.2<2^38
theorem SM(J:Keep){n:Int}{B S:List IV}{b:Bo}(hb:vB b):LocC (XS J) 60 [ac (.sl (b.map im)),.w (.one (.ptr 0 0 0))] [ij n B S] (ac (.bool (jC n b))) [ij n B S]:=by
 refine lT Tryz.func60 rfl rfl rfl ⟨.c rfl,.c rfl,ab⟩ ⟨.c rfl,ab⟩ (.inr rfl) ⟨.c rfl,ab⟩ ?_;have lb:(((b.map im).length:Nat):Int)=(b.length:Int):=by simp
 have c1:=SL J hb.1 hb.2;unfold jC;by_cases h1:(b.length:Int)=n
 . rw[aZ h1];obtain⟨v,hv⟩:∃v,b.any lD=v:=⟨_,rfl⟩;rw[hv] at c1 ⊢;repeat((first|refine SW.RS ?_|refine SW.ret ?_|refine mG rfl ?_|refine bc lb ?_|refine aV c1 rfl rfl rfl ?_|refine And.intro rfl (eU (b:=false) (bne_eq_false_iff_eq.2 (by omega)) ?_)|refine cn rfl ?_|refine aM rfl ?_);conv=>whnf)
   exact Tr.tab [] [] ⟨.sm rfl rfl,ab⟩ ⟨.rn rfl rfl rfl rfl,ab⟩ rfl
 . rw[bl h1];repeat((first|refine SW.RS ?_|refine SW.ret ?_|refine kz rfl ?_|refine bc lb ?_|refine And.intro rfl (eU (b:=true) (bne_iff_ne.2 (by omega)) ?_)|refine cn rfl ?_|refine aM rfl ?_);conv=>whnf)
   exact Tr.tab [] [] ⟨.sm rfl rfl,ab⟩ ⟨.rn rfl rfl rfl rfl,ab⟩ rfl
theorem SJ(J:Keep){n:Int}{B S:List IV}{s:List (List IV)}(hn : -9223372036854775808<=n+1/\n+1<=9223372036854775807)(hs:s.length<2^60):LocC (XS J) 64 [ac (.sl (s.map IV.sl)),.w (.one (.ptr 0 0 0))] [ij n B S] (ac (.bool (mA n s))) [ij n B S]:=by
 refine lT Tryz.func64 rfl rfl rfl ⟨.c rfl,.c rfl,ab⟩ ⟨.c rfl,ab⟩ (.inr rfl) ⟨.c rfl,ab⟩ ?_;have lb:(((s.map IV.sl).length:Nat):Int)=(s.length:Int):=by simp
 have c1:=Ju J (n:=n) hs;unfold mA;by_cases h1:(s.length:Int)=n+1
 . rw[aZ h1];obtain⟨v,hv⟩:∃v,s.any (gD n)=v:=⟨_,rfl⟩;rw[hv] at c1 ⊢;repeat((first|refine SW.RS ?_|refine SW.ret ?_|refine mG rfl ?_|refine bc lb ?_|refine aV c1 rfl rfl rfl ?_|refine ap (by omega) ?_|refine And.intro rfl (eU (b:=false) (bne_eq_false_iff_eq.2 (by omega)) ?_)|refine cn rfl ?_|refine aM rfl ?_);conv=>whnf)
   exact Tr.tab [] [] ⟨.sm rfl rfl,ab⟩ ⟨.rn rfl rfl rfl rfl,ab⟩ rfl
 . rw[bl h1];repeat((first|refine SW.RS ?_|refine SW.ret ?_|refine kz rfl ?_|refine bc lb ?_|refine ap (by omega) ?_|refine And.intro rfl (eU (b:=true) (bne_iff_ne.2 (by omega)) ?_)|refine cn rfl ?_|refine aM rfl ?_);conv=>whnf)
   exact Tr.tab [] [] ⟨.sm rfl rfl,ab⟩ ⟨.rn rfl rfl rfl rfl,ab⟩ rfl
theorem SD(J:Keep){n:Int}{B S:List IV}{f:List Bo}(hf:f.length<2^60)(hb:∀b∈f,vB b):LocC (XS J) 121 [ac (.sl (f.map eW)),.w (.one (.clo 60 [0]))] [ij n B S] (ac (di (jj (jC n) f))) [ij n B S]:=by
 obtain⟨r,hr⟩:∃r,jj (jC n) f=r:=⟨_,rfl⟩;rw[hr];have lf:(((f.map eW).length:Nat):Int)=(f.length:Int):=by simp
 refine lT Tryz.func121 rfl rfl rfl ⟨.c rfl,.c rfl,ab⟩ ⟨.c rfl,ab⟩ (.inr rfl) ⟨.c rfl,ab⟩ ?_;repeat((first|refine SW.R ?_|refine SW.c ?_|refine bc lf ?_);conv=>whnf)
 refine dc (G:={ t:Nat // t<=f.length/\∀y∈f.take t,jC n y=false }) (fun t=>aP [(0,ac (.sl (f.map eW))),(1,.w (.one (.clo 60 [0]))),(6,ac (.sl (f.map eW))),(7,ac (di (f.length:Int))),(8,ac (di (t.1:Int)))] [(0,ij n B S)] 1) (fun t=>f.length-t.1) ⟨0,bk _,by simp⟩
  (Tr.tab [] [] ⟨.sm rfl rfl,.rn rfl rfl,.sm rfl rfl,.sm rfl rfl,.sm rfl rfl,ab⟩ ⟨.rn rfl rfl rfl rfl,ab⟩ rfl) ?_
 rintro⟨t,ht,hz⟩;show SW (XS J) _ _ _ _ (aP [(0,ac (.sl (f.map eW))),(1,.w (.one (.clo 60 [0]))),(6,ac (.sl (f.map eW))),(7,ac (di (f.length:Int))),(8,ac (di (t:Int)))] [(0,ij n B S)] 1) _;by_cases h:t<f.length
 . obtain⟨p,hx⟩:∃x,f[t]?=some x:=⟨_,a6 h⟩;have gv:(f.map eW)[t]?=some (eW p):=by rw[bQ,hx];rfl
   have c1:=SM J (n:=n) (B:=B) (S:=S) (hb p (bV hx));cases h0:jC n p with
   |true=>
    rw[h0] at c1;have e:=ya (pr:=jC n) hz hx h0;rw[hr] at e;subst e;repeat((first|refine SW.R ?_|refine SW.c ?_|refine bz rfl gv rfl ?_|refine yT (by omega) ?_);conv=>whnf)
    refine dN c1 [0] 0 rfl ⟨.d rfl,.c rfl,ab⟩ ⟨.c rfl,ab⟩ trivial (bm (.c rfl) df) (.d rfl) ?_;conv=>whnf
    repeat (first|((first|refine SW.RS ?_|refine SW.ret ?_);conv=>whnf)|(refine SW.condT rfl ?_))
    exact Tr.tab [] [] ⟨.sm rfl rfl,ab⟩ ⟨.rn rfl rfl rfl rfl,ab⟩ rfl
   |false=>
    rw[h0] at c1;repeat((first|refine SW.R ?_|refine SW.c ?_|refine bz rfl gv rfl ?_|refine yT (by omega) ?_);conv=>whnf)
    refine dN c1 [0] 0 rfl ⟨.d rfl,.c rfl,ab⟩ ⟨.c rfl,ab⟩ trivial (bm (.c rfl) df) (.d rfl) ?_;conv=>whnf
    repeat (first|((first|refine SW.R ?_|refine SW.skip ?_|refine ap (by omega) ?_);conv=>whnf)|(refine SW.condF rfl ?_))
    exact⟨⟨t+1,h,uf hz hx h0⟩,Tr.tab [] [] ⟨.sm rfl rfl,.rn rfl rfl,.sm rfl rfl,.sm rfl rfl,.sm rfl rfl,ab⟩ ⟨.rn rfl rfl rfl rfl,ab⟩ rfl,by dsimp only;omega⟩
 . have e:t=f.length:=by omega
   subst e;rw[dM] at hz;have e:=uG hz;rw[hr] at e;subst e;repeat((first|refine SW.R ?_|refine SW.c ?_|refine yF (by omega) ?_);conv=>whnf)
   exact Tr.tab [] [] ⟨.sm rfl rfl,ab⟩ ⟨.rn rfl rfl rfl rfl,ab⟩ rfl
theorem ST(J:Keep){n:Int}{B S:List IV}{f:List Bo}(hf:f.length<2^60)(hb:∀b∈f,vB b):LocC (XS J) 66 [ac (.sl (f.map eW)),.w (.one (.clo 60 [0]))] [ij n B S] (ac (.bool (f.any (jC n)))) [ij n B S]:=by
 rw[<-yb];have c1:=SD J (n:=n) (B:=B) (S:=S) hf hb;refine lT Tryz.func66 rfl rfl rfl ⟨.c rfl,.c rfl,ab⟩ ⟨.c rfl,ab⟩ (.inr rfl) ⟨.c rfl,ab⟩ ?_;repeat ((refine SW.RS ?_;conv=>whnf))
 refine dN c1 [0] 0 rfl ⟨.d rfl,.c rfl,ab⟩ ⟨.c rfl,ab⟩ trivial (bm (.c rfl) df) (.d rfl) ?_;conv=>whnf
 repeat((first|refine SW.ret ?_|refine eU rfl ?_|refine And.intro (by decide) ?_);conv=>whnf)
 exact Tr.tab [] [] ⟨.sm rfl rfl,ab⟩ ⟨.rn rfl rfl rfl rfl,ab⟩ rfl
theorem SC(J:Keep){n:Int}{B S:List IV}{f:List (List (List IV))}(hf:f.length<2^60)(hn : -9223372036854775808<=n+1/\n+1<=9223372036854775807)(hb:∀s∈f,s.length<2^60):LocC (XS J) 122 [ac (.sl (f.map fF)),.w (.one (.clo 64 [0]))] [ij n B S] (ac (di (jj (mA n) f))) [ij n B S]:=by
 obtain⟨r,hr⟩:∃r,jj (mA n) f=r:=⟨_,rfl⟩;rw[hr];have lf:(((f.map fF).length:Nat):Int)=(f.length:Int):=by simp
 refine lT Tryz.func122 rfl rfl rfl ⟨.c rfl,.c rfl,ab⟩ ⟨.c rfl,ab⟩ (.inr rfl) ⟨.c rfl,ab⟩ ?_;repeat((first|refine SW.R ?_|refine SW.c ?_|refine bc lf ?_);conv=>whnf)
 refine dc (G:={ t:Nat // t<=f.length/\∀y∈f.take t,mA n y=false }) (fun t=>aP [(0,ac (.sl (f.map fF))),(1,.w (.one (.clo 64 [0]))),(6,ac (.sl (f.map fF))),(7,ac (di (f.length:Int))),(8,ac (di (t.1:Int)))] [(0,ij n B S)] 1) (fun t=>f.length-t.1) ⟨0,bk _,by simp⟩
  (Tr.tab [] [] ⟨.sm rfl rfl,.rn rfl rfl,.sm rfl rfl,.sm rfl rfl,.sm rfl rfl,ab⟩ ⟨.rn rfl rfl rfl rfl,ab⟩ rfl) ?_
 rintro⟨t,ht,hz⟩;show SW (XS J) _ _ _ _ (aP [(0,ac (.sl (f.map fF))),(1,.w (.one (.clo 64 [0]))),(6,ac (.sl (f.map fF))),(7,ac (di (f.length:Int))),(8,ac (di (t:Int)))] [(0,ij n B S)] 1) _;by_cases h:t<f.length
 . obtain⟨p,hx⟩:∃x,f[t]?=some x:=⟨_,a6 h⟩;have gv:(f.map fF)[t]?=some (fF p):=by rw[bQ,hx];rfl
   have c1:=SJ J (n:=n) (B:=B) (S:=S) hn (hb p (bV hx));cases h0:mA n p with
   |true=>
    rw[h0] at c1;have e:=ya (pr:=mA n) hz hx h0;rw[hr] at e;subst e;repeat((first|refine SW.R ?_|refine SW.c ?_|refine bz rfl gv rfl ?_|refine yT (by omega) ?_);conv=>whnf)
    refine dN c1 [0] 0 rfl ⟨.d rfl,.c rfl,ab⟩ ⟨.c rfl,ab⟩ trivial (bm (.c rfl) df) (.d rfl) ?_;conv=>whnf
    repeat (first|((first|refine SW.RS ?_|refine SW.ret ?_);conv=>whnf)|(refine SW.condT rfl ?_))
    exact Tr.tab [] [] ⟨.sm rfl rfl,ab⟩ ⟨.rn rfl rfl rfl rfl,ab⟩ rfl
   |false=>
    rw[h0] at c1;repeat((first|refine SW.R ?_|refine SW.c ?_|refine bz rfl gv rfl ?_|refine yT (by omega) ?_);conv=>whnf)
    refine dN c1 [0] 0 rfl ⟨.d rfl,.c rfl,ab⟩ ⟨.c rfl,ab⟩ trivial (bm (.c rfl) df) (.d rfl) ?_;conv=>whnf
    repeat (first|((first|refine SW.R ?_|refine SW.skip ?_|refine ap (by omega) ?_);conv=>whnf)|(refine SW.condF rfl ?_))
    exact⟨⟨t+1,h,uf hz hx h0⟩,Tr.tab [] [] ⟨.sm rfl rfl,.rn rfl rfl,.sm rfl rfl,.sm rfl rfl,.sm rfl rfl,ab⟩ ⟨.rn rfl rfl rfl rfl,ab⟩ rfl,by dsimp only;omega⟩
 . have e:t=f.length:=by omega
   subst e;rw[dM] at hz;have e:=uG hz;rw[hr] at e;subst e;repeat((first|refine SW.R ?_|refine SW.c ?_|refine yF (by omega) ?_);conv=>whnf)
   exact Tr.tab [] [] ⟨.sm rfl rfl,ab⟩ ⟨.rn rfl rfl rfl rfl,ab⟩ rfl
theorem SQ(J:Keep){n:Int}{B S:List IV}{f:List (List (List IV))}(hf:f.length<2^60)(hn : -9223372036854775808<=n+1/\n+1<=9223372036854775807)(hb:∀s∈f,s.length<2^60):LocC (XS J) 67 [ac (.sl (f.map fF)),.w (.one (.clo 64 [0]))] [ij n B S] (ac (.bool (f.any (mA n)))) [ij n B S]:=by
 rw[<-yb];have c1:=SC J (n:=n) (B:=B) (S:=S) hf hn hb;refine lT Tryz.func67 rfl rfl rfl ⟨.c rfl,.c rfl,ab⟩ ⟨.c rfl,ab⟩ (.inr rfl) ⟨.c rfl,ab⟩ ?_;repeat ((refine SW.RS ?_;conv=>whnf))
 refine dN c1 [0] 0 rfl ⟨.d rfl,.c rfl,ab⟩ ⟨.c rfl,ab⟩ trivial (bm (.c rfl) df) (.d rfl) ?_;conv=>whnf
 repeat((first|refine SW.ret ?_|refine eU rfl ?_|refine And.intro (by decide) ?_);conv=>whnf)
 exact Tr.tab [] [] ⟨.sm rfl rfl,ab⟩ ⟨.rn rfl rfl rfl rfl,ab⟩ rfl
noncomputable def mM(n:Int)(bs:List Bo)(ss:List (List (List IV))):IV:=.agg [.int .i64 n,.sl (bs.map eW),.sl (ss.map fF)]
def zL(n:Int)(bs:List Bo)(ss:List (List (List IV))):Bool:=decide (1<=n/\n<=4)&&(decide (bs.length+ss.length<=64)&&(!bs.any (jC n) && !ss.any (mA n)))
theorem U2(J:Keep){n:Int}{bs:List Bo}{ss:List (List (List IV))}(dK:bs.length<2^50)(hs1:ss.length<2^50)(hb:∀b∈bs,vB b)(hs:∀s∈ss,s.length<2^60):Go.Proofs.Fl.C J 27 [mM n bs ss] (.bool (zL n bs ss)):=by
 refine pS Tryz.func27 rfl rfl rfl rfl rfl ?_;have lb:(((bs.map eW).length:Nat):Int)=(bs.length:Int):=by simp
 have ls:(((ss.map fF).length:Nat):Int)=(ss.length:Int):=by simp
 have c1:=Jw J n;unfold zL mM;by_cases h1:1<=n/\n<=4
 . rw[aZ h1] at c1 ⊢;have c2:=ST J (n:=n) (B:=bs.map eW) (S:=ss.map fF) (f:=bs) (by omega) hb;have c3:=SQ J (n:=n) (B:=bs.map eW) (S:=ss.map fF) (f:=ss) (by omega) (by omega) hs;by_cases h2:bs.length+ss.length<=64
   . rw[aZ h2];cases h3:bs.any (jC n) with
     |true=>
      rw[h3] at c2;repeat((first|refine SW.RS ?_|refine kz rfl ?_|refine bc lb ?_|refine bc ls ?_|refine aV c1 rfl rfl rfl ?_|refine ap (by omega) ?_|refine yT (by omega) ?_|refine cn rfl ?_|refine aM rfl ?_);conv=>whnf)
      refine dN c2 [0] 0 rfl ⟨.d rfl,.c rfl,ab⟩ ⟨.c rfl,ab⟩ trivial (bm (.c rfl) df) (.d rfl) ?_;conv=>whnf
      repeat((first|refine SW.ret ?_|refine kz rfl ?_|refine mG rfl ?_|refine eU rfl ?_);conv=>whnf)
      rfl
     |false=>
      rw[h3] at c2;obtain⟨v,hv⟩:∃v,ss.any (mA n)=v:=⟨_,rfl⟩;rw[hv] at c3 ⊢;repeat((first|refine SW.RS ?_|refine kz rfl ?_|refine bc lb ?_|refine bc ls ?_|refine aV c1 rfl rfl rfl ?_|refine ap (by omega) ?_|refine yT (by omega) ?_|refine cn rfl ?_|refine aM rfl ?_);conv=>whnf)
      refine dN c2 [0] 0 rfl ⟨.d rfl,.c rfl,ab⟩ ⟨.c rfl,ab⟩ trivial (bm (.c rfl) df) (.d rfl) ?_;conv=>whnf
      repeat((first|refine kz rfl ?_|refine eU rfl ?_|refine cn rfl ?_|refine aM rfl ?_);conv=>whnf)
      refine dN c3 [0] 0 rfl ⟨.d rfl,.c rfl,ab⟩ ⟨.c rfl,ab⟩ trivial (bm (.c rfl) df) (.d rfl) ?_;conv=>whnf
      repeat((first|refine SW.ret ?_|refine kz rfl ?_|refine eU rfl ?_);conv=>whnf)
      rfl
   . rw[bl h2];repeat((first|refine SW.RS ?_|refine SW.ret ?_|refine kz rfl ?_|refine mG rfl ?_|refine bc lb ?_|refine bc ls ?_|refine aV c1 rfl rfl rfl ?_|refine ap (by omega) ?_|refine yF (by omega) ?_|refine cn rfl ?_|refine aM rfl ?_);conv=>whnf)
     rfl
 . rw[bl h1] at c1 ⊢;repeat((first|refine SW.RS ?_|refine SW.ret ?_|refine mG rfl ?_|refine aV c1 rfl rfl rfl ?_|refine cn rfl ?_|refine aM rfl ?_);conv=>whnf)
   rfl
noncomputable def fw(n:Int)(c:Cl):IV:=mQ n (c.map fun x=>x.1.map qr) (c.map fun x=>qr x.2)
noncomputable def oY(n:Int)(c:Cl):EO:=.mem 30 [.iv (di n),.iv (.sl ((c.map fun x=>x.1.map qr).map IV.sl)),.iv (.sl (c.map fun x=>qr x.2))] false [(0,3)] 1
theorem SY{J:Keep}(B:Base J){n:Int}{F:List IV}{c:Cl}{φ:List Rat->Rat}(hc:c.length<2^50)(hφ:∀x∈c,Go.Proofs.Fl.C J 51 [.sl F,.sl (x.1.map qr)] (qr (φ x.1)))
 (hs:∀x∈c,al x.2<2^36/\al (φ x.1)<2^36) (hS:∀k,k<=c.length->al (iu φ c k)<2^36):Go.Proofs.Fl.C J 31 [fw n c,.sl F] (qr (eJ φ c)):=by
 rw[<-Kq];refine pS Tryz.func31 rfl rfl rfl rfl rfl ?_;have lc:((((c.map fun x=>x.1.map qr).map IV.sl).length:Nat):Int)=(c.length:Int):=by simp
 unfold fw mQ;repeat((first|refine SW.R ?_|refine SW.c ?_|refine bc lc ?_|refine cn rfl ?_|refine aM rfl ?_);conv=>whnf)
 refine dc (G:={ t:Nat // t<=c.length }) (fun t=>aP [(1,ac (.sl F)),(2,.w (.one (.ptr 0 0 0))),(4,.w (.one (.ptr 1 0 0))),(5,.w (.one (.ptr 2 0 0))),(9,ac (.sl ((c.map fun x=>x.1.map qr).map IV.sl))),(10,ac (di (c.length:Int))),(11,ac (di (t.1:Int)))] [(0,oY n c),(1,bO 0),(2,bO (iu φ c t.1))] 3) (fun t=>c.length-t.1) ⟨0,bk _⟩
  (Tr.tab [] [] ⟨.sm rfl rfl,.rn rfl rfl,.rn rfl rfl,.rn rfl rfl,.sm rfl rfl,.sm rfl rfl,.sm rfl rfl,ab⟩ ⟨.sm rfl rfl rfl,.sm rfl (by unfold bO;rw[oh];rfl) rfl,.sm rfl (by unfold bO;rw[iu,oh];rfl) rfl,ab⟩ rfl) ?_
 rintro⟨t,ht⟩;show SW (XS J) _ _ _ _ (aP [(1,ac (.sl F)),(2,.w (.one (.ptr 0 0 0))),(4,.w (.one (.ptr 1 0 0))),(5,.w (.one (.ptr 2 0 0))),(9,ac (.sl ((c.map fun x=>x.1.map qr).map IV.sl))),(10,ac (di (c.length:Int))),(11,ac (di (t:Int)))] [(0,oY n c),(1,bO 0),(2,bO (iu φ c t))] 3) _;by_cases h:t<c.length
 . obtain⟨⟨x,w⟩,hx⟩:∃x,c[t]?=some x:=⟨_,a6 h⟩;have hm:=bV hx;have gp:((c.map fun x=>x.1.map qr).map IV.sl)[t]?=some (.sl (x.map qr)):=by rw[bQ,bQ,hx];rfl
   have gw:(c.map fun x=>qr x.2)[t]?=some (qr w):=by rw[bQ,hx];rfl
   obtain⟨s1,s2⟩:=hs _ hm;have s1:al w<2^36:=s1;have s2:al (φ x)<2^36:=s2;have c1:=hφ _ hm;have c1:Go.Proofs.Fl.C J 51 [.sl F,.sl (x.map qr)] (qr (φ x)):=c1;have c2:=ka B (a:=w) (b:=φ x) (by omega) (by omega);have hp:=sc w (φ x);have s3:=hS t ht;have c3:=mi B (a:=iu φ c t) (b:=w*φ x) (by omega) (by omega);have es:iu φ c (t+1)=iu φ c t+w*φ x:=by
    show iu φ c t+(match c[t]? with
     |some x=>x.2*φ x.1
     |none=>0)=_
    rw[hx]
   repeat((first|refine SW.R ?_|refine SW.c ?_|refine bz rfl gp rfl ?_|refine bz rfl gw rfl ?_|refine aV c1 rfl rfl rfl ?_|refine aV c2 rfl rfl rfl ?_|refine aV c3 rfl rfl rfl ?_|refine ap (by omega) ?_|refine yT (by omega) ?_|refine cn rfl ?_|refine bg rfl ?_|refine aM rfl ?_);conv=>whnf)
   exact⟨⟨t+1,h⟩,Tr.tab [] [] ⟨.sm rfl rfl,.rn rfl rfl,.rn rfl rfl,.rn rfl rfl,.sm rfl rfl,.sm rfl rfl,.sm rfl rfl,ab⟩ ⟨.sm rfl rfl rfl,.sm rfl rfl rfl,.sm rfl (by dsimp only;rw[es];rfl) rfl,ab⟩ rfl,by dsimp only;omega⟩
 . have e:t=c.length:=by omega
   subst e;repeat((first|refine SW.R ?_|refine SW.c ?_|refine yF (by omega) ?_|refine bg rfl ?_|refine aM rfl ?_);conv=>whnf)
   rfl
theorem SI{J:Keep}(B:Base J){b:Bo}{p:Pw}{j:Nat}(hl:p.length=b.length)(hj:j<2^20)(hb:∀x∈b,Hb j x.1/\Hb j x.2)(hp:∀k∈p,0<=k/\k<=24)(hpl:p.length<=100):Go.Proofs.Fl.C J 75 [eW b,.sl (p.map di)] (qr (du p b)):=by
 rw[<-Kl hl];refine pS Tryz.func75 rfl rfl rfl rfl rfl ?_;have lp:(((p.map di).length:Nat):Int)=(p.length:Int):=by simp
 have c0:=pZ J (n:=1) (by decide) (by decide);unfold eW;repeat((first|refine SW.R ?_|refine SW.c ?_|refine bc lp ?_|refine aV c0 rfl rfl rfl ?_|refine bg rfl ?_);conv=>whnf)
 refine dc (G:={ t:Nat // t<=p.length }) (fun t=>aP [(0,ac (.sl (b.map im))),(4,.w (.one (.ptr 0 0 0))),(5,.w (.one (.ptr 1 0 0))),(9,ac (.sl (p.map di))),(10,ac (di (p.length:Int))),(11,ac (di (t.1:Int)))] [(0,bO 0),(1,bO (lG b p t.1))] 2) (fun t=>p.length-t.1) ⟨0,bk _⟩
  (Tr.tab [] [] ⟨.sm rfl rfl,.rn rfl rfl,.rn rfl rfl,.sm rfl rfl,.sm rfl rfl,.sm rfl rfl,ab⟩ ⟨.sm rfl (by unfold bO;rw[oh];rfl) rfl,.sm rfl rfl rfl,ab⟩ rfl) ?_
 rintro⟨t,ht⟩;show SW (XS J) _ _ _ _ (aP [(0,ac (.sl (b.map im))),(4,.w (.one (.ptr 0 0 0))),(5,.w (.one (.ptr 1 0 0))),(9,ac (.sl (p.map di))),(10,ac (di (p.length:Int))),(11,ac (di (t:Int)))] [(0,bO 0),(1,bO (lG b p t))] 2) _;by_cases h:t<p.length
 . have hh:=Li hb hp t;have hS:=DF hb hp t;have es:lG b p (t+1)=lG b p t*Reg.bxF b p t:=rfl;unfold Reg.bxF at es hh;obtain⟨⟨lo,hi⟩,hx⟩:∃x,b[t]?=some x:=⟨_,a6 (by omega)⟩;have hxb:=hb _ (bV hx);have gk:=tf h;have hk:=hp (p.getD t 0) (by rw[br,a6 h];exact eM h);obtain⟨k,ek⟩:∃k,p.getD t 0=k:=⟨_,rfl⟩;rw[show b.getD t (0,0)=(lo,hi) by rw[br,hx];rfl] at es hh;rw[ek] at es hh gk hk;dsimp only at es hh;have gb:(b.map im)[t]?=some (sd lo hi):=by rw[bQ,hx];rfl
   have e1:kh (k+1) 1000=k.toNat+1:=by unfold kh;omega
   obtain⟨q1,q2,q3⟩:=hh;have z1:al lo<=2*(j+1):=dG hxb.1;have z2:al hi<=2*(j+1):=dG hxb.2;have y1:=dG q1;have y2:=dG q2;have y3:=dG q3;have y4:=dG hS;have y5:=dG (q1.sub q2);have t1:t*(j*50+6)<=100*(j*50+6):=bU _ (by omega);have c1:=yQ (J:=J) (a:=hi) (by omega) (k+1);have c2:=yQ (J:=J) (a:=lo) (by omega) (k+1);rw[e1] at c1 c2;have c3:=qp B (a:=hi^(k.toNat+1)) (b:=lo^(k.toNat+1)) (by omega) (by omega);have c4:=pZ J (n:=k+1) (by omega) (by omega);have ec:((k+1:Int):Rat)=((k.toNat+1:Nat):Rat):=by
    have:(k+1:Int)=((k.toNat+1:Nat):Int):=by omega
    rw[this];rfl
   rw[ec] at c4;have c5:=Cz B (a:=hi^(k.toNat+1)-lo^(k.toNat+1)) (b:=((k.toNat+1:Nat):Rat)) (by omega) (by
    have:Hb 5 ((k.toNat+1:Nat):Rat):=⟨by show(k.toNat+1:Nat)<=32;omega,by show 1<=32;decide⟩;have:=dG this;omega) (by
    intro h0;have:((k.toNat+1:Nat):Rat).num=(0:Rat).num:=by rw[h0]
    have:((k.toNat+1:Nat):Int)=0:=this;omega)
   have c6:=ka B (a:=lG b p t) (b:=(hi^(k.toNat+1)-lo^(k.toNat+1))/((k.toNat+1:Nat):Rat)) (by omega) (by omega);repeat((first|refine SW.R ?_|refine SW.c ?_|refine bz rfl gk rfl ?_|refine bz rfl gb rfl ?_|refine aV c1 rfl rfl rfl ?_|refine aV c2 rfl rfl rfl ?_|refine aV c3 rfl rfl rfl ?_|refine aV c4 rfl rfl rfl ?_|refine aV c5 rfl rfl rfl ?_|refine aV c6 rfl rfl rfl ?_|refine ap (by omega) ?_|refine yT (by omega) ?_|refine bg rfl ?_|refine aM rfl ?_);conv=>whnf)
   exact⟨⟨t+1,h⟩,Tr.tab [] [] ⟨.sm rfl rfl,.rn rfl rfl,.rn rfl rfl,.sm rfl rfl,.sm rfl rfl,.sm rfl rfl,ab⟩ ⟨.sm rfl rfl rfl,.sm rfl (by dsimp only;rw[es];rfl) rfl,ab⟩ rfl,by dsimp only;omega⟩
 . have e:t=p.length:=by omega
   subst e;repeat((first|refine SW.R ?_|refine SW.c ?_|refine yF (by omega) ?_|refine bg rfl ?_|refine aM rfl ?_);conv=>whnf)
   rfl
def nK{α:Type}(a:Rat)(g:α->Rat)(l:List α):Nat->Rat
 |0=>a
 |k+1=>nK a g l k+(match l[k]? with
  |some x=>g x
  |none=>0)
theorem DR{α:Type}{a:Rat}{g:α->Rat}{l:List α}{k:Nat}{x:α}(h:l[k]?=some x):nK a g l (k+1)=nK a g l k+g x:=by
 rw[nK,h]
abbrev Sx:=List (List IV)
def jk(bf:Bo->Pw->Rat)(bs:List Bo)(p:Pw):Nat->Rat:=nK 0 (fun b=>bf b p) bs
def kH(bf:Bo->Pw->Rat)(sf:Sx->Pw->Rat)(bs:List Bo)(ss:List Sx)(p:Pw):Nat->Rat:=nK (jk bf bs p bs.length) (fun s=>sf s p) ss
def jM(bf:Bo->Pw->Rat)(sf:Sx->Pw->Rat)(bs:List Bo)(ss:List Sx)(g:List Tm):Nat->Rat:=nK 0 (fun t=>t.2*kH bf sf bs ss t.1 ss.length) g
structure IntOk(J:Keep)(bf:Bo->Pw->Rat)(sf:Sx->Pw->Rat)(bs:List Bo)(ss:List Sx)(g:List Tm):Prop where
 cb:∀t∈g,∀b∈bs,Go.Proofs.Fl.C J 75 [eW b,.sl (t.1.map di)] (qr (bf b t.1))/\al (bf b t.1)<2^37
 cs:∀t∈g,∀s∈ss,Go.Proofs.Fl.C J 76 [fF s,.sl (t.1.map di)] (qr (sf s t.1))/\al (sf s t.1)<2^37
 ct:∀t∈g,al t.2<2^36
 sb:∀t∈g,∀k,k<=bs.length->al (jk bf bs t.1 k)<2^36
 sm:∀t∈g,∀k,k<=ss.length->al (kH bf sf bs ss t.1 k)<2^36
 sa:∀k,k<=g.length->al (jM bf sf bs ss g k)<2^36
noncomputable def zX(t:Tm):EO:=.mem 83 (.iv (.sl (t.1.map di))::(qr t.2).cells.map .iv) false [(0,4)] 1
noncomputable def oH(n:Int)(bs:List Bo)(ss:List Sx):EO:=.mem 42 [.iv (di n),.iv (.sl (bs.map eW)),.iv (.sl (ss.map fF))] false [(0,3)] 1
theorem U1{J:Keep}(B:Base J){n:Int}{bs:List Bo}{ss:List Sx}{F:List IV}{g:List Tm}{bf:Bo->Pw->Rat}{sf:Sx->Pw->Rat}(hg:g.length<2^40)(hb:bs.length<2^40)(hs:ss.length<2^40)
 (cg:Go.Proofs.Fl.C J 74 [.sl F] (dq g)) (H:IntOk J bf sf bs ss g):Go.Proofs.Fl.C J 33 [mM n bs ss,.sl F] (qr (jM bf sf bs ss g g.length)):=by
 obtain⟨cb,cs,ct,sb,sm,sa⟩:=H;refine pS Tryz.func33 rfl rfl rfl rfl rfl ?_;have lg:(((g.map fun t=>tq t.1 t.2).length:Nat):Int)=(g.length:Int):=by simp
 have lb:(((bs.map eW).length:Nat):Int)=(bs.length:Int):=by simp
 have ls:(((ss.map fF).length:Nat):Int)=(ss.length:Int):=by simp
 unfold mM;repeat((first|refine SW.R ?_|refine SW.c ?_|refine bc lg ?_|refine aV cg rfl rfl rfl ?_);conv=>whnf)
 refine dc (G:={ t:Nat // t<=g.length }) (fun t=>aP [(2,.w (.one (.ptr 0 0 0))),(4,.w (.one (.ptr 1 0 0))),(5,.w (.one (.ptr 2 0 0))),(14,ac (dq g)),(15,ac (di (g.length:Int))),(16,ac (di (t.1:Int)))] [(0,oH n bs ss),(1,bO 0),(2,bO (jM bf sf bs ss g t.1))] 3) (fun t=>g.length-t.1) ⟨0,bk _⟩
  (Tr.tab [] [] ⟨.rn rfl rfl,.rn rfl rfl,.rn rfl rfl,.sm rfl rfl,.sm rfl rfl,.sm rfl rfl,ab⟩ ⟨.sm rfl rfl rfl,.sm rfl (by unfold bO;rw[oh];rfl) rfl,.sm rfl (by unfold bO;rw[jM,nK,oh];rfl) rfl,ab⟩ rfl) ?_
 rintro⟨t,ht⟩;show SW (XS J) _ _ _ _ (aP [(2,.w (.one (.ptr 0 0 0))),(4,.w (.one (.ptr 1 0 0))),(5,.w (.one (.ptr 2 0 0))),(14,ac (dq g)),(15,ac (di (g.length:Int))),(16,ac (di (t:Int)))] [(0,oH n bs ss),(1,bO 0),(2,bO (jM bf sf bs ss g t))] 3) _;by_cases h:t<g.length
 . obtain⟨⟨p,q⟩,hpq⟩:∃x,g[t]?=some x:=⟨_,a6 h⟩;have hm:=bV hpq;have gv:(g.map fun t=>tq t.1 t.2)[t]?=some (tq p q):=by rw[bQ,hpq];rfl
   have cb:=cb _ hm;have cs:=cs _ hm;have ct:=ct _ hm;have sb:=sb _ hm;have sm:=sm _ hm;have ct:al q<2^36:=ct;have sb:∀k,k<=bs.length->al (jk bf bs p k)<2^36:=sb;have sm:∀k,k<=ss.length->al (kH bf sf bs ss p k)<2^36:=sm;repeat((first|refine SW.R ?_|refine SW.c ?_|refine bz rfl gv rfl ?_|refine bc lb ?_|refine yT (by omega) ?_|refine cn rfl ?_|refine bg rfl ?_|refine aM rfl ?_);conv=>whnf)
   refine dc (G:={ k:Nat // k<=bs.length }) (fun k=>aP [(2,.w (.one (.ptr 0 0 0))),(4,.w (.one (.ptr 1 0 0))),(5,.w (.one (.ptr 2 0 0))),(7,.w (.one (.ptr 3 0 0))),(8,.w (.one (.ptr 4 0 0))),(14,ac (dq g)),(15,ac (di (g.length:Int))),(16,ac (di (t:Int))),(21,ac (.sl (bs.map eW))),(22,ac (di (bs.length:Int))),(23,ac (di (k.1:Int)))] [(0,oH n bs ss),(1,bO 0),(2,bO (jM bf sf bs ss g t)),(3,zX (p,q)),(4,bO (jk bf bs p k.1))] 5) (fun k=>bs.length-k.1) ⟨0,bk _⟩
    (Tr.tab [] [] ⟨.rn rfl rfl,.rn rfl rfl,.rn rfl rfl,.rn rfl rfl,.rn rfl rfl,.sm rfl rfl,.sm rfl rfl,.sm rfl rfl,.sm rfl rfl,.sm rfl rfl,.sm rfl rfl,ab⟩ ⟨.sm rfl rfl rfl,.sm rfl rfl rfl,.sm rfl rfl rfl,.sm rfl rfl rfl,.sm rfl (by unfold bO;rw[jk,nK,oh];rfl) rfl,ab⟩ rfl) ?_
   rintro⟨k,hk⟩;show SW (XS J) _ _ _ _ (aP [(2,.w (.one (.ptr 0 0 0))),(4,.w (.one (.ptr 1 0 0))),(5,.w (.one (.ptr 2 0 0))),(7,.w (.one (.ptr 3 0 0))),(8,.w (.one (.ptr 4 0 0))),(14,ac (dq g)),(15,ac (di (g.length:Int))),(16,ac (di (t:Int))),(21,ac (.sl (bs.map eW))),(22,ac (di (bs.length:Int))),(23,ac (di (k:Int)))] [(0,oH n bs ss),(1,bO 0),(2,bO (jM bf sf bs ss g t)),(3,zX (p,q)),(4,bO (jk bf bs p k))] 5) _;by_cases h2:k<bs.length
   . obtain⟨b,hbx⟩:∃x,bs[k]?=some x:=⟨_,a6 h2⟩;have gb:(bs.map eW)[k]?=some (eW b):=by rw[bQ,hbx];rfl
     obtain⟨c1,z1⟩:=cb b (bV hbx);have z1:al (bf b p)<2^37:=z1;have z2:=sb k hk;have es:jk bf bs p (k+1)=jk bf bs p k+bf b p:=DR hbx;have c2:=mi B (a:=jk bf bs p k) (b:=bf b p) (by omega) (by omega);repeat((first|refine SW.R ?_|refine SW.c ?_|refine bz rfl gb rfl ?_|refine aV c1 rfl rfl rfl ?_|refine aV c2 rfl rfl rfl ?_|refine ap (by omega) ?_|refine yT (by omega) ?_|refine cn rfl ?_|refine bg rfl ?_|refine aM rfl ?_);conv=>whnf)
     exact⟨⟨k+1,h2⟩,Tr.tab [] [] ⟨.rn rfl rfl,.rn rfl rfl,.rn rfl rfl,.rn rfl rfl,.rn rfl rfl,.sm rfl rfl,.sm rfl rfl,.sm rfl rfl,.sm rfl rfl,.sm rfl rfl,.sm rfl rfl,ab⟩ ⟨.sm rfl rfl rfl,.sm rfl rfl rfl,.sm rfl rfl rfl,.sm rfl rfl rfl,.sm rfl (by dsimp only;rw[es];rfl) rfl,ab⟩ rfl,by dsimp only;omega⟩
   . have e:k=bs.length:=by omega
     subst e;repeat((first|refine SW.R ?_|refine SW.c ?_|refine bc ls ?_|refine yF (by omega) ?_|refine cn rfl ?_|refine aM rfl ?_);conv=>whnf)
     refine dc (G:={ k:Nat // k<=ss.length }) (fun k=>aP [(2,.w (.one (.ptr 0 0 0))),(4,.w (.one (.ptr 1 0 0))),(5,.w (.one (.ptr 2 0 0))),(7,.w (.one (.ptr 3 0 0))),(8,.w (.one (.ptr 4 0 0))),(14,ac (dq g)),(15,ac (di (g.length:Int))),(16,ac (di (t:Int))),(35,ac (.sl (ss.map fF))),(36,ac (di (ss.length:Int))),(37,ac (di (k.1:Int)))] [(0,oH n bs ss),(1,bO 0),(2,bO (jM bf sf bs ss g t)),(3,zX (p,q)),(4,bO (kH bf sf bs ss p k.1))] 5) (fun k=>ss.length-k.1) ⟨0,bk _⟩
      (Tr.tab [] [] ⟨.rn rfl rfl,.rn rfl rfl,.rn rfl rfl,.rn rfl rfl,.rn rfl rfl,.sm rfl rfl,.sm rfl rfl,.sm rfl rfl,.sm rfl rfl,.sm rfl rfl,.sm rfl rfl,ab⟩ ⟨.sm rfl rfl rfl,.sm rfl rfl rfl,.sm rfl rfl rfl,.sm rfl rfl rfl,.sm rfl rfl rfl,ab⟩ rfl) ?_
     rintro⟨k,hk⟩;show SW (XS J) _ _ _ _ (aP [(2,.w (.one (.ptr 0 0 0))),(4,.w (.one (.ptr 1 0 0))),(5,.w (.one (.ptr 2 0 0))),(7,.w (.one (.ptr 3 0 0))),(8,.w (.one (.ptr 4 0 0))),(14,ac (dq g)),(15,ac (di (g.length:Int))),(16,ac (di (t:Int))),(35,ac (.sl (ss.map fF))),(36,ac (di (ss.length:Int))),(37,ac (di (k:Int)))] [(0,oH n bs ss),(1,bO 0),(2,bO (jM bf sf bs ss g t)),(3,zX (p,q)),(4,bO (kH bf sf bs ss p k))] 5) _;by_cases h3:k<ss.length
     . obtain⟨s,hsx⟩:∃x,ss[k]?=some x:=⟨_,a6 h3⟩;have gs:(ss.map fF)[k]?=some (fF s):=by rw[bQ,hsx];rfl
       obtain⟨c1,z1⟩:=cs s (bV hsx);have z1:al (sf s p)<2^37:=z1;have z2:=sm k hk;have es:kH bf sf bs ss p (k+1)=kH bf sf bs ss p k+sf s p:=DR hsx;have c2:=mi B (a:=kH bf sf bs ss p k) (b:=sf s p) (by omega) (by omega);repeat((first|refine SW.R ?_|refine SW.c ?_|refine bz rfl gs rfl ?_|refine aV c1 rfl rfl rfl ?_|refine aV c2 rfl rfl rfl ?_|refine ap (by omega) ?_|refine yT (by omega) ?_|refine cn rfl ?_|refine bg rfl ?_|refine aM rfl ?_);conv=>whnf)
       exact⟨⟨k+1,h3⟩,Tr.tab [] [] ⟨.rn rfl rfl,.rn rfl rfl,.rn rfl rfl,.rn rfl rfl,.rn rfl rfl,.sm rfl rfl,.sm rfl rfl,.sm rfl rfl,.sm rfl rfl,.sm rfl rfl,.sm rfl rfl,ab⟩ ⟨.sm rfl rfl rfl,.sm rfl rfl rfl,.sm rfl rfl rfl,.sm rfl rfl rfl,.sm rfl (by dsimp only;rw[es];rfl) rfl,ab⟩ rfl,by dsimp only;omega⟩
     . have e:k=ss.length:=by omega
       subst e;have z1:=sm ss.length (ak _);have z2:=sa t ht;have z3:=sc q (kH bf sf bs ss p ss.length);have c1:=ka B (a:=q) (b:=kH bf sf bs ss p ss.length) (by omega) (by omega);have c2:=mi B (a:=jM bf sf bs ss g t) (b:=q*kH bf sf bs ss p ss.length) (by omega) (by omega);have es:jM bf sf bs ss g (t+1)=jM bf sf bs ss g t+q*kH bf sf bs ss p ss.length:=DR hpq;repeat((first|refine SW.R ?_|refine SW.c ?_|refine aV c1 rfl rfl rfl ?_|refine aV c2 rfl rfl rfl ?_|refine ap (by omega) ?_|refine yF (by omega) ?_|refine cn rfl ?_|refine bg rfl ?_|refine aM rfl ?_);conv=>whnf)
       exact⟨⟨t+1,h⟩,Tr.tab [] [] ⟨.rn rfl rfl,.rn rfl rfl,.rn rfl rfl,.sm rfl rfl,.sm rfl rfl,.sm rfl rfl,ab⟩ ⟨.sm rfl rfl rfl,.sm rfl rfl rfl,.sm rfl (by dsimp only;rw[es];rfl) rfl,ab⟩ rfl,by dsimp only;omega⟩
 . have e:t=g.length:=by omega
   subst e;repeat((first|refine SW.R ?_|refine SW.c ?_|refine yF (by omega) ?_|refine bg rfl ?_|refine aM rfl ?_);conv=>whnf)
   rfl
theorem UE{a b:Rat}:bT a b=0↔a=b:=by
 have e:bT b a = - bT a b:=by
  unfold bT aN;repeat' split
  all_goals omega
 have h1:=Kh (a:=a) (b:=b);have h2:=Kh (a:=b) (b:=a);constructor
 . intro h;exact Rat.le_antisymm (h1.1 (by omega)) (h2.1 (by omega))
 . rintro rfl;have:=h1.2 (Rat.le_refl);omega
theorem Po{n m:Nat}{fail:Pw->Bool}{t:Nat}{p:Pw}(h:∀y∈(cQ n m).take t,fail y=false)(hp:(cQ n m)[t]?=some p)(h0:fail p=true):eQ n m fail=Reg.sumI p-1:=by
 have e:(cQ n m).find? fail=some p:=by
  rw[List.find?_eq_some_iff_append];obtain⟨hlt,he⟩:=List.getElem?_eq_some_iff.1 hp;refine⟨h0,(cQ n m).take t,(cQ n m).drop (t+1),?_,fun y hy=>by rw[h y hy];rfl⟩;rw[<-he,<-gJ hlt,jQ]
 unfold eQ;rw[e]
theorem ON{n m:Nat}{fail:Pw->Bool}(h:∀y∈cQ n m,fail y=false):eQ n m fail=m:=by
 have e:(cQ n m).find? fail=none:=List.find?_eq_none.2 fun y hy=>by rw[h y hy];simp
 unfold eQ;rw[e]
structure ExOk(J:Keep)(n:Nat)(d:Nat)(R Cl:IV)(A I:Pw->Rat):Prop where
 v:Go.Proofs.Fl.C J 27 [R] (.bool true)
 w:Go.Proofs.Fl.C J 28 [Cl] (.bool true)
 bn:ge ((n:Int)+(d:Int)) n<=500
 a:∀p∈cQ n d,Go.Proofs.Fl.C J 31 [Cl,fT p] (qr (A p))/\al (A p)<2^37
 i:∀p∈cQ n d,Go.Proofs.Fl.C J 33 [R,fT p] (qr (I p))/\al (I p)<2^37
 g:∀p∈cQ n d,Go.Proofs.Fl.C J 34 [fT p] (.int .i64 (Reg.sumI p))
theorem U3{J:Keep}{k d:Nat}{bs:List Bo}{ss:List Sx}{c:Cl}{A I:Pw->Rat}(hk:k<=3)(hd:d<=24)
 (H:ExOk J (k+1) d (mM (k+1:Nat) bs ss) (fw (k+1:Nat) c) A I) :
 Go.Proofs.Fl.C J 10 [mM (k+1:Nat) bs ss,fw (k+1:Nat) c,.int .i64 d] (.tup [.int .i64 (eQ (k+1) d fun p=>decide (A p≠I p)),.int .i64 0]):=by
 obtain⟨c1,c2,hbn,ca,ci,cd⟩:=H;obtain⟨r,hr⟩:∃r,(eQ (k+1) d fun p=>decide (A p≠I p))=r:=⟨_,rfl⟩;rw[hr];refine pS Tryz.func10 rfl rfl rfl rfl rfl ?_;have c3:=S3 J (n:=((k+1:Nat):Int)+(d:Int)) (k:=k+1) (by omega) (by omega) (by omega);have hcnt:=TD (k+1) (by omega) d (by omega) hbn;have hb:=UH (k+1) (by omega) d (by omega);obtain⟨b,hb0⟩:∃b,ge (((k+1:Nat):Int)+(d:Int)) (k+1)=b:=⟨_,rfl⟩;rw[hb0] at c3 hbn hb;have c4:=Jv J (m:=k) (d:=d) (by omega) (by omega) hcnt;obtain⟨L,hL⟩:∃L,cQ (k+1) d=L:=⟨_,rfl⟩;rw[hL] at c4 ca ci cd hcnt;have lL:(((L.map fT).length:Nat):Int)=(L.length:Int):=by simp
 unfold mM fw mQ at *;repeat((first|refine SW.R ?_|refine SW.c ?_|refine mG rfl ?_|refine bc lL ?_|refine aV c1 rfl rfl rfl ?_|refine aV c2 rfl rfl rfl ?_|refine aV c3 rfl rfl rfl ?_|refine aV c4 rfl rfl rfl ?_|refine ap (by omega) ?_|refine yF (by omega) ?_|refine And.intro rfl (eU (b:=false) (bne_eq_false_iff_eq.2 (by omega)) ?_)|refine eU rfl ?_|refine cn rfl ?_|refine aM rfl ?_);conv=>whnf)
 refine dc (G:={ t:Nat // t<=L.length/\∀y∈L.take t,decide (A y≠I y)=false }) (fun t=>aP [(2,ac (di (d:Int))),(3,.w (.one (.ptr 0 0 0))),(4,.w (.one (.ptr 1 0 0))),(45,ac (.sl (L.map fT))),(46,ac (di (L.length:Int))),(47,ac (di (t.1:Int)))] [(0,oH (k+1:Nat) bs ss),(1,oY (k+1:Nat) c)] 2) (fun t=>L.length-t.1) ⟨0,bk _,by simp⟩
  (Tr.tab [] [] ⟨.sm rfl rfl,.rn rfl rfl,.rn rfl rfl,.sm rfl rfl,.sm rfl rfl,.sm rfl rfl,ab⟩ ⟨.sm rfl rfl rfl,.sm rfl rfl rfl,ab⟩ rfl) ?_
 rintro⟨t,ht,hz⟩;show SW (XS J) _ _ _ _ (aP [(2,ac (di (d:Int))),(3,.w (.one (.ptr 0 0 0))),(4,.w (.one (.ptr 1 0 0))),(45,ac (.sl (L.map fT))),(46,ac (di (L.length:Int))),(47,ac (di (t:Int)))] [(0,oH (k+1:Nat) bs ss),(1,oY (k+1:Nat) c)] 2) _;by_cases h:t<L.length
 . obtain⟨p,hp⟩:∃x,L[t]?=some x:=⟨_,a6 h⟩;have hm:=bV hp;have gv:(L.map fT)[t]?=some (fT p):=by rw[bQ,hp];rfl
   obtain⟨c5,z5⟩:=ca p hm;obtain⟨c6,z6⟩:=ci p hm;have c7:=DC (J:=J) (a:=A p) (b:=I p) (by omega) (by omega);have hc:=UE (a:=A p) (b:=I p);obtain⟨v,hv⟩:∃v,bT (A p) (I p)=v:=⟨_,rfl⟩;rw[hv] at c7 hc;by_cases h0:v=0
   . have hf:decide (A p≠I p)=false:=bl fun hn=>hn (hc.1 h0);repeat((first|refine SW.R ?_|refine SW.c ?_|refine bz rfl gv rfl ?_|refine aV c5 rfl rfl rfl ?_|refine aV c6 rfl rfl rfl ?_|refine aV c7 rfl rfl rfl ?_|refine ap (by omega) ?_|refine yT (by omega) ?_|refine And.intro rfl (eU (b:=false) (bne_eq_false_iff_eq.2 (by omega)) ?_)|refine aM rfl ?_);conv=>whnf)
     exact⟨⟨t+1,h,uf (pr:=fun y=>decide (A y≠I y)) hz hp hf⟩,Tr.tab [] [] ⟨.sm rfl rfl,.rn rfl rfl,.rn rfl rfl,.sm rfl rfl,.sm rfl rfl,.sm rfl rfl,ab⟩ ⟨.sm rfl rfl rfl,.sm rfl rfl rfl,ab⟩ rfl,by dsimp only;omega⟩
   . have hf:decide (A p≠I p)=true:=aZ fun hn=>h0 (hc.2 hn);have e:=Po (n:=k+1) (m:=d) (fail:=fun p=>decide (A p≠I p)) (by rw[hL];exact hz) (by rw[hL];exact hp) hf;rw[hr] at e;subst e;have c8:=cd p hm;have hs : -1<=Reg.sumI p/\Reg.sumI p<=d:=by
      rw[<-hL] at hm;obtain⟨_,h1,h2⟩:=uu.1 hm;have:=n8 h1;omega
     repeat((first|refine SW.R ?_|refine SW.c ?_|refine bz rfl gv rfl ?_|refine aV c5 rfl rfl rfl ?_|refine aV c6 rfl rfl rfl ?_|refine aV c7 rfl rfl rfl ?_|refine aV c8 rfl rfl rfl ?_|refine ap (by omega) ?_|refine yT (by omega) ?_|refine And.intro rfl (eU (b:=true) (bne_iff_ne.2 (by omega)) ?_)|refine aM rfl ?_);conv=>whnf)
     rfl
 . have e:t=L.length:=by omega
   subst e;rw[dM] at hz;have e:=ON (n:=k+1) (m:=d) (fail:=fun p=>decide (A p≠I p)) (by rw[hL];exact hz);rw[hr] at e;subst e;repeat((first|refine SW.R ?_|refine SW.c ?_|refine yF (by omega) ?_);conv=>whnf)
   rfl
end Go.Proofs.En
namespace Go.Proofs.En
open Go.RowKit Go.Proofs.Fl Go.Shelf Go.Lib
section
variable {X:EX}
theorem Qo{f:qe}{V:Go.Shelf.Ren}(L:Lays8.n4 X.P V)(hf:V.f 4=f)(hF:zH X f){i0:TypeInfo}{z:X3}(hi0:X.P.info? (V.t 25)=some i0)(hz0:i0.zero=some z)(hs0:0<i0.size)(hzs:z.cells.size=i0.size)
 {n:Nat} (hn:0<n) (hbig:n*i0.bytes<=140737488355328) (h63:n<=4611686018427387904) :
 CallOk X f [.w (.one (.iv (.nil 3))),ac (.int .i64 (n:Int))] (fV []) (.w (.one (.slc 0 0 0 0 (.fin i0.size)))) (fV [.mem (V.t 25) [] false [(0,0)] 1]):=by
 subst hf;refine⟨hF,fun E hI H U w vs hS hvs=>?_⟩
 match vs,hvs with
 | [v0,v1],⟨h0,h1,_⟩=>
 have h0:=qy h0.2;obtain⟨_,h1⟩:=h1;cases h1;subst h0;refine(Any8.slices_Grow_grow L i0 z hi0 hz0 hs0 none 0 0 n [] w (ak _) (by omega) (by rw[aU];exact hbig) (by omega) (by simp) (fun _=>rfl) (fun a h=>by cases h)).mono ?_;rintro e w' ⟨rfl,rfl⟩;obtain⟨C,hC⟩:∃C,grownCap w (0+n) 0 (V.t 25)=C:=⟨_,rfl⟩;have hge:0+n<=C:=by rw[<-hC];exact wa _ _ _ _
 rw[hC];obtain⟨arr,ha⟩:∃arr:Array X3,(([]:List X3).toArray++Builtin.zeroCells z.cells (0+n-0)++Builtin.zeroCells z.cells (C-(0+n)))=arr:=⟨_,rfl⟩;rw[ha];have hasz:arr.size=C*i0.size:=by
  rw[<-ha];simp only[wb,t6,hzs];rw[show(#[]:Array X3).size=0 from rfl,aU,<-bP];congr 1;omega
 have hS2:ESim X.Z E H U (fV []) w.drew:=hS.sm rfl rfl rfl rfl;have hbe:Below w.drew.heap.size w.drew (w.drew.alloc (.cells arr (V.t 25))):=(lK _ _).alloc (ak _) _;have hnew:H w.heap.size=none:=by
  cases hx:H w.heap.size with
  |none=>rfl
  |some arr'=>have:=hS.has.lt hx;omega
 obtain⟨hb,hs⟩:=hS2.alloc (g:=0) rfl (b:=.cells arr (V.t 25)) (s:=arr.size) (o:=.mem (V.t 25) [] false [(0,0)] 1) Nat.one_pos (by
  refine⟨fun _ u k hk=>?_,fun u p hup=>?_⟩
  . by_cases e:u=0
    . subst e;rw[fg] at hk;cases hk;exact hnew
    . rw[jT _ _ _ _ (fun e'=>e e'.2),hS2.noB rfl] at hk;cases hk
  simp only[fL,aA] at hup;obtain⟨rfl,rfl⟩:=hup;refine⟨Nat.one_pos,_,arr,fg _ _ _ _,hS2.lo _ (ak _),by simpa using hnew,mS _ _,rfl,ak _,bk _,?_⟩;exact trivial)
 have e0:aB (fV []) 0 (some (.mem (V.t 25) [] false [(0,0)] 1))=fV [.mem (V.t 25) [] false [(0,0)] 1]:=by
  funext g;cases g with
  |zero=>exact aT _ _ _
  |succ g=>rw[aD _ _ _ (by omega)];rfl
 rw[e0] at hs;refine⟨_,H,_,rfl,HLe.refl _,hb,hs,fun D hD=>MarkSame.below hbe D hD,⟨_,C,fg _ _ _ _,rfl,bk _,?_⟩⟩;show 0+C*i0.size=arr.size;rw[hasz,aU]
theorem Rx{f:qe}{V:Go.Shelf.Ren}(L:Lays8.n4 X.P V)(hf:V.f 4=f)(hF:zH X f){i0:TypeInfo}{z:X3}(hi0:X.P.info? (V.t 25)=some i0)(hz0:i0.zero=some z)(hs0:0<i0.size)(hzs:z.cells.size=i0.size)
 {n:Nat} (hn:0<n) (hbig:n*i0.bytes<=140737488355328) (h63:n<=4611686018427387904) :
 LocC X f [.w (.one (.iv (.nil 3))),ac (.int .i64 (n:Int))] [] (.w (.one (.slc 0 0 0 0 (.fin i0.size)))) [.mem (V.t 25) [] false [(0,0)] 1] :=
 ⟨Qo L hf hF hi0 hz0 hs0 hzs hn hbig h63,bk _,fun i hi=>by simp[eV,bj,eA,ac] at hi,fun o ho=>by simp at ho,fun i hi=>by
  have:i=0:=by simpa[eV,bj,eA] using hi
  subst this;exact⟨Nat.one_pos,by simp⟩,fun o ho=>by
  rw[List.mem_singleton.1 ho];exact⟨rfl,fun u p hup i hi=>by simp at hi⟩⟩
end
end Go.Proofs.En
namespace Go.Proofs
open Go.Shelf
def Tryz.growQ_ren:Go.Shelf.Ren:=⟨fun|4=>140|n=>n,fun|22=>28|25=>54|n=>n,fun|n=>n⟩
theorem Tryz.growQ:Go.Proofs.Lays8.n4 Tryz.prog Tryz.growQ_ren:={
 mixed:=by kernel_rfl
 f4:=⟨Tryz.f140.name,by decide,Tryz.func140.trans (aJ some (by kernel_rfl))⟩
 t0:=Tryz.underlying0
 a0:=Tryz.isAgg0
 z0:=Tryz.sizeOf0
 v0:=Tryz.zeroValue0
 t3:=Tryz.underlying3
 a3:=Tryz.isAgg3
 z3:=Tryz.sizeOf3
 v3:=Tryz.zeroValue3
 t4:=Tryz.underlying4
 a4:=Tryz.isAgg4
 z4:=Tryz.sizeOf4
 v4:=Tryz.zeroValue4
 t9:=Tryz.underlying9
 a9:=Tryz.isAgg9
 z9:=Tryz.sizeOf9
 v9:=Tryz.zeroValue9
 t20:=Tryz.underlying20
 a20:=Tryz.isAgg20
 z20:=Tryz.sizeOf20
 v20:=Tryz.zeroValue20
 t22:=Tryz.underlying28
 a22:=Tryz.isAgg28
 z22:=Tryz.sizeOf28
 v22:=Tryz.zeroValue28 }
end Go.Proofs
namespace Go.Proofs.En
open Go.RowKit Go.Proofs.Fl Go.Proofs.Dig
attribute [local irreducible] IntKind.wrap a7 be bq bw SW SWr CallOk To Tr eG
open Go.Proofs.Reg
noncomputable def qC(l:List Rat):List EV:=((l.map qr).flatMap IV.cells).map .iv
theorem yC(a b:List Rat):qC (a++b)=qC a++qC b:=by
 unfold qC;rw[dE,iP,dE]
theorem ov:∀l:List Rat,(qC l).length=l.length*3
 | []=>rfl
 |x::l=>by
  have e:x::l=[x]++l:=rfl;rw[e,yC,bF,ov l,bF,bP];rfl
theorem ut:∀l:List Rat,(qC l).flatMap bj=[]
 | []=>rfl
 |x::l=>by
  have e:x::l=[x]++l:=rfl;rw[e,yC,iP,ut l];rfl
theorem DN:∀l:List Rat,dI 3 (l.map qr)=true
 | []=>rfl
 |x::l=>by
  have:=DN l;unfold dI at this ⊢;rw[aS,cF,this];rfl
theorem H5:∀l:List Rat,((l.map qr).flatMap IV.cells).all kX=true
 | []=>rfl
 |x::l=>by rw[aS,ch,pF,H5 l];rfl
theorem K1:∀l:List Rat,eS true 3 l.length ((l.map qr).flatMap IV.cells)=l.map qr
 | []=>rfl
 |x::l=>by
  rw[bB,eS,aS,ch];show qr x::eS true 3 l.length ((l.map qr).flatMap IV.cells)=_;rw[K1 l]
theorem Jh{h:Hp}{l:List Rat}:gU h 3 (.w (.one (.iv (.sl (l.map qr)))))=some (qC l,l.length):=by
 show(bif dI 3 (l.map qr) then some (((l.map qr).flatMap IV.cells).map EV.iv,(l.map qr).length) else none)=_;rw[DN,af,bR];rfl
theorem Kf{h:Hp}{f g u P cnt:Nat}{cap:Cap}{S:Nat->Bool}{cs:List EV}{fz:Bool}{vs:List (Nat×Nat)}{l:List Rat}(hS:S g=true)(hg:h g=some (.mem 54 cs fz vs cnt))(hv:dl u vs=some P)(hP:l.length*3<=P)(hc:cs.take (l.length*3)=qC l) :
 gE TT ZZ S h (f+1) (.w (.one (.slc g u 0 l.length cap)))=some (.sl (l.map qr)):=by
 show bZ TT ZZ S h (f+1) (.slc g u 0 l.length cap)=_;unfold bZ;rw[hS];simp only[hg];rw[show TT 54=some oM from rfl,hv];simp only;rw[show oM.size=3 from rfl,show oM.sh.agg=true from rfl,aU,fM hP,af,bL,hc];unfold qC;rw[yq (H5 l)];simp only[K1,DN,Bool.true_or,lS,af]
theorem growQ(J:Keep){n:Nat}(hn:0<n)(h:n<=1000000):LocC (XS J) 140 [.w (.one (.iv (.nil 3))),ac (di (n:Int))] [] (.w (.one (.slc 0 0 0 0 (.fin 3)))) [.mem 54 [] false [(0,0)] 1]:=by
 obtain⟨i,d,z,ok⟩:=aO ((XS J).hT 54 oM (show TT 54=some oM from rfl));have hz:=(ok.vr fun _=>none).size;have hs:i.size=3:=ok.size;have hb:i.bytes=56:=ok.bytes;have:=Rx (X:=XS J) (f:=140) Tryz.growQ rfl ⟨_,Tryz.func140,rfl,rfl⟩ ok.info ok.zero (by omega) (by rw[hz,hs];rfl) hn (by rw[hb];omega) (by omega);rw[hs] at this;exact this
theorem My{g u n m:Nat}{cap:Cap}(h:n=m):ES.w (.one (.slc g u 0 n cap))=.w (.one (.slc g u 0 m cap)):=by rw[h]
def Ex(a b:List Rat)(t:Nat):Nat:=match t with
 |0=>0
 |1=>a.length
 |_=>a.length+b.length
def Ey(a b:List Rat)(t:Nat):List Rat:=match t with
 |0=>[]
 |1=>a
 |_=>a++b
theorem Sw(J:Keep){a b:List Rat}(ha:0<a.length)(hb:0<b.length)(hs:a.length+b.length<=1000):Go.Proofs.Fl.C J 78 [.sl [.sl (a.map qr),.sl (b.map qr)]] (.sl ((a++b).map qr)):=by
 refine tz Tryz.func78 rfl rfl rfl rfl 1 ?_;have la:(((a.map qr).length:Nat):Int)=(a.length:Int):=by simp
 have lb:(((b.map qr).length:Nat):Int)=(b.length:Int):=by simp
 have g0:[IV.sl (a.map qr),.sl (b.map qr)][0]?=some (.sl (a.map qr)):=rfl;have g1:[IV.sl (a.map qr),.sl (b.map qr)][1]?=some (.sl (b.map qr)):=rfl;repeat((first|refine SW.R ?_|refine SW.c ?_|refine bc rfl ?_);conv=>whnf)
 refine dc (G:={ t:Nat // t<=2 }) (fun t=>aP [(0,ac (.sl [.sl (a.map qr),.sl (b.map qr)])),(3,ac (di (Ex a b t.1:Nat))),(9,ac (.sl [.sl (a.map qr),.sl (b.map qr)])),(10,ac (di 2)),(11,ac (di (t.1:Int)))] [] 0) (fun t=>2-t.1) ⟨0,bk _⟩
  (Tr.tab [] [] ⟨.sm rfl rfl,.sm rfl rfl,.sm rfl rfl,.sm rfl rfl,.sm rfl rfl,ab⟩ trivial rfl) ?_
 rintro⟨t,ht⟩;show SW (XS J) _ _ _ _ (aP [(0,ac (.sl [.sl (a.map qr),.sl (b.map qr)])),(3,ac (di (Ex a b t:Nat))),(9,ac (.sl [.sl (a.map qr),.sl (b.map qr)])),(10,ac (di 2)),(11,ac (di (t:Int)))] [] 0) _;rcases (show t=0\/t=1\/t=2 by omega) with rfl|rfl|rfl
 . show SW (XS J) _ _ _ _ (aP [(0,ac (.sl [.sl (a.map qr),.sl (b.map qr)])),(3,ac (di 0)),(9,ac (.sl [.sl (a.map qr),.sl (b.map qr)])),(10,ac (di 2)),(11,ac (di 0))] [] 0) _;repeat((first|refine SW.R ?_|refine SW.c ?_|refine bz rfl g0 rfl ?_|refine bc la ?_|refine ap (by omega) ?_|refine yT (by omega) ?_|refine yF (by omega) ?_);conv=>whnf)
   exact⟨⟨1,by omega⟩,Tr.tab [] [] ⟨.sm rfl rfl,.sm (by show ac (di _)=ac (di _);congr 2;simp[Ex]) rfl,.sm rfl rfl,.sm rfl rfl,.sm rfl rfl,ab⟩ trivial rfl,by dsimp only;omega⟩
 . show SW (XS J) _ _ _ _ (aP [(0,ac (.sl [.sl (a.map qr),.sl (b.map qr)])),(3,ac (di (a.length:Int))),(9,ac (.sl [.sl (a.map qr),.sl (b.map qr)])),(10,ac (di 2)),(11,ac (di 1))] [] 0) _;repeat((first|refine SW.R ?_|refine SW.c ?_|refine bz rfl g1 rfl ?_|refine bc lb ?_|refine ap (by omega) ?_|refine yT (by omega) ?_|refine yF (by omega) ?_);conv=>whnf)
   exact⟨⟨2,by omega⟩,Tr.tab [] [] ⟨.sm rfl rfl,.sm (by show ac (di _)=ac (di _);congr 2) rfl,.sm rfl rfl,.sm rfl rfl,.sm rfl rfl,ab⟩ trivial rfl,by dsimp only;omega⟩
 . show SW (XS J) _ _ _ _ (aP [(0,ac (.sl [.sl (a.map qr),.sl (b.map qr)])),(3,ac (di ((a.length+b.length:Nat):Int))),(9,ac (.sl [.sl (a.map qr),.sl (b.map qr)])),(10,ac (di 2)),(11,ac (di 2))] [] 0) _;repeat((first|refine SW.R ?_|refine SW.c ?_|refine yF (by omega) ?_);conv=>whnf)
   refine dN (growQ J (n:=a.length+b.length) (by omega) (by omega)) [0] 1 rfl ⟨.d rfl,.d rfl,ab⟩ trivial ⟨rfl,ab⟩ (bm (.d rfl) df) (.c rfl) ?_;conv=>whnf
   repeat((first|refine SW.R ?_|refine SW.c ?_|refine bc rfl ?_);conv=>whnf)
   refine dc (G:={ t:Nat // t<=2 }) (fun t=>aP [(6,.w (.one (.slc 0 0 0 (Ey a b t.1).length (.fin 3)))),(25,ac (.sl [.sl (a.map qr),.sl (b.map qr)])),(26,ac (di 2)),(27,ac (di (t.1:Int)))] [(0,.mem 54 (qC (Ey a b t.1)) false [(0,(Ey a b t.1).length*3)] 1)] 1) (fun t=>2-t.1) ⟨0,bk _⟩
    (Tr.tab [] [] ⟨.rn rfl rfl,.sm rfl rfl,.sm rfl rfl,.sm rfl rfl,ab⟩ ⟨.sm rfl rfl rfl,ab⟩ rfl) ?_
   rintro⟨t,ht⟩;rcases (show t=0\/t=1\/t=2 by omega) with rfl|rfl|rfl
   . show SW (XS J) _ _ _ _ (aP [(6,.w (.one (.slc 0 0 0 0 (.fin 3)))),(25,ac (.sl [.sl (a.map qr),.sl (b.map qr)])),(26,ac (di 2)),(27,ac (di 0))] [(0,.mem 54 [] false [(0,0)] 1)] 1) _;repeat((first|refine SW.R ?_|refine SW.c ?_|refine bz rfl g0 rfl ?_|refine yT (by omega) ?_);conv=>whnf)
     refine mv (g:=1) (b:=1) (oJ (p:=0) (sz:=3) rfl rfl rfl Jh (by omega) (by omega) (by omega) (by show _*56<=_;omega) (ed (by omega)) rfl rfl rfl rfl rfl) (by show 1<1+1;decide) ?_;conv=>whnf
     repeat((first|refine SW.R ?_|refine ap (by omega) ?_);conv=>whnf)
     refine⟨⟨1,by omega⟩,Tr.tab [] [(0,.one 1)] ⟨.rn (My (aU _)) rfl,.sm rfl rfl,.sm rfl rfl,.sm rfl rfl,ab⟩ ⟨.ver rfl rfl (r7 _ _ _) (by show a.length*3<=_;omega) (by show a.length*3<=(qC a).length;rw[ov];omega) (by show(List.take (0*3) []++qC a).take _=(qC a).take _;rfl) (ut _),ab⟩ rfl,by dsimp only;omega⟩
   . show SW (XS J) _ _ _ _ (aP [(6,.w (.one (.slc 0 0 0 a.length (.fin 3)))),(25,ac (.sl [.sl (a.map qr),.sl (b.map qr)])),(26,ac (di 2)),(27,ac (di 1))] [(0,.mem 54 (qC a) false [(0,a.length*3)] 1)] 1) _;repeat((first|refine SW.R ?_|refine SW.c ?_|refine bz rfl g1 rfl ?_|refine yT (by omega) ?_);conv=>whnf)
     refine mv (g:=1) (b:=1) (oJ (p:=a.length*3) (sz:=3) rfl rfl rfl Jh (by omega) (by omega) (by omega) (by show _*56<=_;omega) (ed (by omega)) rfl rfl rfl rfl rfl) (by show 1<1+1;decide) ?_;conv=>whnf
     repeat((first|refine SW.R ?_|refine ap (by omega) ?_);conv=>whnf)
     have ea:(qC a).take (a.length*3)=qC a:=aC (by rw[ov];exact ak _);refine⟨⟨2,by omega⟩,Tr.tab [] [(0,.one 1)] ⟨.rn (My (by show _=(a++b).length;rw[bF])) rfl,.sm rfl rfl,.sm rfl rfl,.sm rfl rfl,ab⟩ ⟨.ver rfl rfl (r7 _ _ _) (by show(a++b).length*3<=_;rw[bF];omega) (by show(a++b).length*3<=(qC (a++b)).length;rw[ov];omega) (by show((qC a).take (a.length*3)++qC b).take _=(qC (a++b)).take _;rw[ea,yC]) (ut _),ab⟩ rfl,by dsimp only;omega⟩
   . show SW (XS J) _ _ _ _ (aP [(6,.w (.one (.slc 0 0 0 (a++b).length (.fin 3)))),(25,ac (.sl [.sl (a.map qr),.sl (b.map qr)])),(26,ac (di 2)),(27,ac (di 2))] [(0,.mem 54 (qC (a++b)) false [(0,(a++b).length*3)] 1)] 1) _;repeat((first|refine SW.R ?_|refine SW.c ?_|refine yF (by omega) ?_);conv=>whnf)
     exact Kf rfl rfl (gO _ _) (ak _) (aC (by rw[ov];exact ak _))
end Go.Proofs.En
namespace Go.Proofs.En
open Go.RowKit Go.Proofs.Fl
theorem Rt{h:Hp}{g:Nat}{e:me}{cs:List EV}{fz:Bool}{vs:List (Nat×Nat)}{cnt:Nat}(hg:h g=some (.mem e cs fz vs cnt)):iZ (fun i=>Nat.beq i g) h=aB h g (some .hid):=by
 funext i;unfold iZ;dsimp only;by_cases e:i=g
 . subst e;rw[bh,aT];simp only[hg]
 . rw[ed e,aD _ _ _ e]
theorem HE{X:EX}{nx:Nat}{f:qe}{xs:List IV}{r:IV}{args:List ES}{h:Hp}{K:ES->Wr->Nat->Option (List Nat)->Prop}(hc:a7 X.P X.I f xs r)(g fu:Nat){e:me}{cs:List EV}{fz:Bool}{vs:List (Nat×Nat)}{cnt:Nat}(hg:h g=some (.mem e cs fz vs cnt))
 (hd:∀h':Hp,h' g=some (.mem e cs fz vs cnt)->cK (gE X.T X.Z (fun i=>Nat.beq i g) h' fu) args=some xs) (hr:pi r=true) (hK:K (dS r) [(g,.hid)] 0 (some [g])):eG X nx f args h K:=by
 have key:∀h':Hp,h' g=some (.mem e cs fz vs cnt)->CallOk X f args h' (dS r) (a8 h' [(g,.hid)]):=fun h' hg'=>by
  have:=CallOk.ofData (S:=fun i=>Nat.beq i g) (res:=dS r) hc (hd h' hg') fun H U v hv=>Ld hv hr;rw[Rt hg'] at this;exact this
 refine .inr (.inr ⟨dS r,[(g,.hid)],0,[g],key h hg,key _ ?_,fun p hp=>?_,hK⟩)
 . show(bif bJ g [g] then h g else some .hid)=_;rw[show bJ g [g]=true by unfold bJ;rw[bh];rfl,af,hg]
 . rw[List.mem_singleton.1 hp];exact⟨.inr (by rw[hg];simp),List.mem_singleton_self _⟩
end Go.Proofs.En
namespace Go.Proofs.En
open Go.RowKit Go.Proofs.Fl Go.Proofs.Dig
attribute [local irreducible] IntKind.wrap a7 be bq bw SW SWr CallOk To Tr eG
open Go.Proofs.Reg
def Ae:Cl->EV
 | []=>.iv (.nil 3)
 |_::l=>.slc 4 0 0 (l.length+1) (.fin 1)
def Ac:Cl->EV
 | []=>.iv (.nil 3)
 |_::l=>.slc 5 0 0 (l.length+1) (.fin 3)
def MA(n:Int)(acc:Cl):EO:=.mem 30 [.iv (di n),Ae acc,Ac acc] false [(0,3)] 1
noncomputable def jL(acc:Cl):List EV:=acc.map fun x=>.iv (.sl (x.1.map qr))
abbrev kD(l:Cl):List Rat:=l.map fun q=>q.2
noncomputable def Af(acc:Cl):EO:=match acc with
 | []=>.mem 28 [] false [] 0
 |_::l=>.mem 28 (jL acc) false [(0,l.length+1)] 1
noncomputable def Ad(acc:Cl):EO:=match acc with
 | []=>.mem 54 [] false [] 0
 |_::l=>.mem 54 (qC (kD acc)) false [(0,(l.length+1)*3)] 1
noncomputable def Mv:EO:=.mem 30 [.iv (di 0),.iv (.nil 3),.iv (.nil 3)] false [(0,3)] 1
noncomputable def prI(n m:Int)(a b acc:Cl)(t:Nat)(x:List Rat)(k:Nat):SS:=aP [(2,.w (.one (.ptr 0 0 0))),(3,.w (.one (.ptr 1 0 0))),(4,.w (.one (.ptr 2 0 0))),(5,.w (.one (.ptr 3 0 0))),(6,ac (di (t:Int))),(7,ac (.sl (x.map qr))),(17,ac (.sl ((a.map fun x=>x.1.map qr).map IV.sl))),(18,ac (di (a.length:Int))),(19,ac (di (t:Int))),(25,ac (.sl ((b.map fun x=>x.1.map qr).map IV.sl))),(26,ac (di (b.length:Int))),(27,ac (di (k:Int)))]
 [(0,oY n a),(1,oY m b),(2,Mv),(3,MA (n+m) acc),(4,Af acc),(5,Ad acc)] 6
noncomputable def vO(n m:Int)(a b acc:Cl)(t:Nat):SS:=aP [(2,.w (.one (.ptr 0 0 0))),(3,.w (.one (.ptr 1 0 0))),(4,.w (.one (.ptr 2 0 0))),(5,.w (.one (.ptr 3 0 0))),(17,ac (.sl ((a.map fun x=>x.1.map qr).map IV.sl))),(18,ac (di (a.length:Int))),(19,ac (di (t:Int)))]
 [(0,oY n a),(1,oY m b),(2,Mv),(3,MA (n+m) acc),(4,Af acc),(5,Ad acc)] 6
theorem CD(l:Cl):(jL l).length=l.length:=by simp[jL]
theorem S7(a b:Cl):jL (a++b)=jL a++jL b:=by simp[jL]
theorem Bc:∀l:Cl,(jL l).flatMap bj=[]
 | []=>rfl
 |x::l=>by
  have:=Bc l;unfold jL at this ⊢;rw[aS,ch,this];rfl
theorem wS{acc:Cl}:gM (Af acc):=by
 cases acc with
 |nil=>rfl
 |cons x l=>exact Bc _
theorem wR{acc:Cl}:gM (Ad acc):=by
 cases acc with
 |nil=>rfl
 |cons x l=>exact ut _
def nM(x:List Rat)(v:Rat)(y:List Rat×Rat):List Rat×Rat:=(x++y.1,v*y.2)
theorem Pa{a b:Cl}{t:Nat}{x:List Rat×Rat}(h:a[t]?=some x):dO (a.take (t+1)) b=dO (a.take t) b++b.map (nM x.1 x.2):=by
 unfold dO;rw[gg,h,iP];simp only[Option.toList,ch,Fy,iw];rfl
theorem O9(a b:Cl)(t:Nat):(dO (a.take t) b).length<=a.length*b.length:=by
 rw[Bt];exact bU _ (by simp;omega)
theorem Gi:∀l:Cl,(((l.map fun x=>x.1.map qr).map IV.sl).all kX)=true
 | []=>rfl
 |x::l=>by rw[aS,aS,cF,Gi l];rfl
theorem UB{h:Hp}{n:Int}{z:List Rat×Rat}{l:Cl}(h4:h 4=some (Af (z::l)))(h5:h 5=some (Ad (z::l))):gE TT ZZ (fun _=>true) h 3 (.w (.agg [.iv (di n),Ae (z::l),Ac (z::l)]))=some (fw n (z::l)):=by
 have d1:bZ TT ZZ (fun _=>true) h 3 (Ae (z::l))=some (.sl (((z::l).map fun x=>x.1.map qr).map IV.sl)) :=
  II (f:=2) (cap:=.fin 1) (te:=s5) (n:=l.length+1) rfl h4 rfl rfl rfl (gO _ _) (ak _) (by simp) (by
   rw[aC (by rw[CD];exact ak _)];unfold jL;rw[fb,fb];rfl) (Gi _)
 have d2:=Kf (f:=2) (cap:=.fin 3) (S:=fun _=>true) (l:=kD (z::l)) rfl h5 (gO _ _) (by simp) (aC (by rw[ov];exact ak _));rw[show(kD (z::l)).length=l.length+1 by simp] at d2;have d2:bZ TT ZZ (fun _=>true) h 3 (Ac (z::l))=some (.sl ((kD (z::l)).map qr)):=d2;show(match cK (bZ TT ZZ (fun _=>true) h 3) [.iv (di n),Ae (z::l),Ac (z::l)] with
  |some xs=>some (IV.agg xs)
  |none=>none)=_
 simp only[cK,d1,d2,show bZ TT ZZ (fun _=>true) h 3 (.iv (di n))=some (di n) from rfl];unfold fw mQ kD;simp only[fb];rfl
theorem Mp{h:Hp}{x y:List Rat}{f:Nat}(hg:h 6=some (.mem 28 [.iv (.sl (x.map qr)),.iv (.sl (y.map qr))] false [(0,2)] 1)) :
 cK (gE TT ZZ (fun i=>Nat.beq i 6) h (f+1)) [.w (.one (.slc 6 0 0 2 (.ex 2)))]=some [.sl [.sl (x.map qr),.sl (y.map qr)]]:=by
 have:=Cf (T:=TT) (Z:=ZZ) (S:=fun i=>Nat.beq i 6) (f:=f) (cap:=.ex 2) (te:=s5) (n:=2) (es:=[.sl (x.map qr),.sl (y.map qr)]) rfl hg rfl rfl rfl (gO _ _) (ak _) rfl rfl rfl;simp only[cK,this]
theorem SO{J:Keep}(B:Base J){n m:Int}{a b:Cl}(hn:0<=n/\n<=100)(hm:0<=m/\m<=100)(ha:∀x∈a,0<x.1.length/\x.1.length<=100/\al x.2<2^36)(hb:∀x∈b,0<x.1.length/\x.1.length<=100/\al x.2<2^36)(hab:a.length*b.length<=5000)(ha5:a.length<=5000)(hb5:b.length<=5000) :
 Go.Proofs.Fl.C J 35 [fw n a,fw m b] (fw (n+m) (dO a b)):=by
 refine tz Tryz.func35 rfl rfl rfl rfl 3 ?_;have la:((((a.map fun x=>x.1.map qr).map IV.sl).length:Nat):Int)=(a.length:Int):=by simp
 have lb:((((b.map fun x=>x.1.map qr).map IV.sl).length:Nat):Int)=(b.length:Int):=by simp
 unfold fw mQ;repeat((first|refine SW.R ?_|refine SW.c ?_|refine bc la ?_|refine ap (by omega) ?_|refine cn rfl ?_|refine bg rfl ?_|refine aM rfl ?_);conv=>whnf)
 refine dc (G:={ t:Nat // t<=a.length }) (fun t=>vO n m a b (dO (a.take t.1) b) t.1) (fun t=>a.length-t.1) ⟨0,bk _⟩
  (Tr.tab [(4,1000),(5,1001)] [] ⟨.rn rfl rfl,.rn rfl rfl,.rn rfl rfl,.rn rfl rfl,.sm rfl rfl,.sm rfl rfl,.sm rfl rfl,ab⟩ ⟨.sm rfl rfl rfl,.sm rfl rfl rfl,.sm rfl rfl rfl,.sm rfl rfl rfl,.ph rfl,.ph rfl,ab⟩ rfl) ?_
 rintro⟨t,ht⟩;obtain⟨acc0,hacc0⟩:∃c,dO (a.take t) b=c:=⟨_,rfl⟩;show SW (XS J) _ _ _ _ (vO n m a b (dO (a.take t) b) t) _;rw[hacc0];by_cases h:t<a.length
 . obtain⟨⟨x,v⟩,hx⟩:∃x,a[t]?=some x:=⟨_,a6 h⟩;have gp:((a.map fun x=>x.1.map qr).map IV.sl)[t]?=some (.sl (x.map qr)):=by rw[bQ,bQ,hx];rfl
   have gv:(a.map fun x=>qr x.2)[t]?=some (qr v):=by rw[bQ,hx];rfl
   obtain⟨x0,x1,x2⟩:=ha _ (bV hx);unfold vO;repeat((first|refine SW.R ?_|refine SW.c ?_|refine bz rfl gp rfl ?_|refine bc lb ?_|refine yT (by omega) ?_|refine cn rfl ?_|refine aM rfl ?_);conv=>whnf)
   have e0:acc0++(b.take 0).map (nM x v)=acc0:=by simp
   refine dc (G:={ k:Nat // k<=b.length }) (fun k=>prI n m a b (acc0++(b.take k.1).map (nM x v)) t x k.1) (fun k=>b.length-k.1) ⟨0,bk _⟩ ?_ ?_
   . show Tr _ _ (prI n m a b (acc0++(b.take 0).map (nM x v)) t x 0);rw[e0];cases acc0 with
     |nil=>exact Tr.tab [] [] ⟨.rn rfl rfl,.rn rfl rfl,.rn rfl rfl,.rn rfl rfl,.sm rfl rfl,.sm rfl rfl,.sm rfl rfl,.sm rfl rfl,.sm rfl rfl,.sm rfl rfl,.sm rfl rfl,.sm rfl rfl,ab⟩ ⟨.sm rfl rfl rfl,.sm rfl rfl rfl,.sm rfl rfl rfl,.rn rfl rfl rfl rfl,.sm rfl rfl wS,.sm rfl rfl wR,ab⟩ rfl
     |cons z l=>exact Tr.tab [] [] ⟨.rn rfl rfl,.rn rfl rfl,.rn rfl rfl,.rn rfl rfl,.sm rfl rfl,.sm rfl rfl,.sm rfl rfl,.sm rfl rfl,.sm rfl rfl,.sm rfl rfl,.sm rfl rfl,.sm rfl rfl,ab⟩ ⟨.sm rfl rfl rfl,.sm rfl rfl rfl,.sm rfl rfl rfl,.rn rfl rfl rfl rfl,.sm rfl rfl wS,.sm rfl rfl wR,ab⟩ rfl
   rintro⟨k,hk⟩;obtain⟨acc,hacc⟩:∃c,acc0++(b.take k).map (nM x v)=c:=⟨_,rfl⟩;show SW (XS J) _ _ _ _ (prI n m a b (acc0++(b.take k).map (nM x v)) t x k) _;rw[hacc];have hal:acc.length<=10000:=by
    rw[<-hacc,bF,bR,<-hacc0,cy];have:=O9 a b t;omega
   by_cases h2:k<b.length
   . obtain⟨⟨y,w⟩,hy⟩:∃x,b[k]?=some x:=⟨_,a6 h2⟩;have gq:((b.map fun x=>x.1.map qr).map IV.sl)[k]?=some (.sl (y.map qr)):=by rw[bQ,bQ,hy];rfl
     have gw:(b.map fun x=>qr x.2)[k]?=some (qr w):=by rw[bQ,hy];rfl
     obtain⟨y0,y1,y2⟩:=hb _ (bV hy);have x0:0<x.length:=x0;have x1:x.length<=100:=x1;have x2:al v<2^36:=x2;have y0:0<y.length:=y0;have y1:y.length<=100:=y1;have y2:al w<2^36:=y2;have c1:=Sw J (a:=x) (b:=y) x0 y0 (by omega);have c2:=ka B (a:=v) (b:=w) (by omega) (by omega);have hnew:acc0++(b.take (k+1)).map (nM x v)=acc ++ [(x++y,v*w)]:=by
      rw[gg,hy,dE,<-dX,hacc];rfl
     unfold prI;cases acc with
     |nil=>
      repeat((first|refine SW.R ?_|refine SW.c ?_|refine bz rfl gq rfl ?_|refine yT (by omega) ?_|refine cn rfl ?_|refine aM rfl ?_);conv=>whnf)
      refine HE c1 6 2 rfl (fun h' hg=>Mp hg) rfl ?_;conv=>whnf
      repeat((first|refine SW.R ?_|refine bz rfl gv rfl ?_|refine bz rfl gw rfl ?_|refine aV c2 rfl rfl rfl ?_|refine ap (by omega) ?_|refine cn rfl ?_|refine bg rfl ?_|refine aM rfl ?_|refine lC rfl ?_|refine And.intro (nO rfl) ?_);conv=>whnf)
      refine⟨⟨k+1,h2⟩,?_,by dsimp only;omega⟩;show Tr _ _ (prI n m a b (acc0++(b.take (k+1)).map (nM x v)) t x (k+1));rw[hnew];exact Tr.tab [(4,8),(5,10)] [] ⟨.rn rfl rfl,.rn rfl rfl,.rn rfl rfl,.rn rfl rfl,.sm rfl rfl,.sm rfl rfl,.sm rfl rfl,.sm rfl rfl,.sm rfl rfl,.sm rfl rfl,.sm rfl rfl,.sm rfl rfl,ab⟩ ⟨.sm rfl rfl rfl,.sm rfl rfl rfl,.sm rfl rfl rfl,.rn rfl rfl rfl rfl,.sm rfl rfl rfl,.sm rfl rfl rfl,ab⟩ rfl
     |cons z l=>
      have hl:l.length+1<=10000:=hal;have el:(l ++ [(x++y,v*w)]).length=l.length+1:=by simp
      have qlen:(qC (kD (z::l))).length=(l.length+1)*3:=by rw[ov,bR];rfl
      repeat((first|refine SW.R ?_|refine SW.c ?_|refine bz rfl gq rfl ?_|refine yT (by omega) ?_|refine cn rfl ?_|refine aM rfl ?_);conv=>whnf)
      refine HE c1 6 2 rfl (fun h' hg=>Mp hg) rfl ?_;conv=>whnf
      skip
      refine mv (g:=8) (b:=1) (oJ (p:=l.length+1) (sz:=1) rfl rfl (gO _ _) rfl (by omega) (by omega) (by omega) (by show _*24<=_;omega) rfl rfl rfl rfl rfl rfl) (by show 8<8+1;decide) ?_;conv=>whnf
      repeat((first|refine SW.R ?_|refine bz rfl gv rfl ?_|refine bz rfl gw rfl ?_|refine aV c2 rfl rfl rfl ?_|refine cn rfl ?_|refine bg rfl ?_|refine aM rfl ?_|refine And.intro (nO rfl) ?_);conv=>whnf)
      refine mv (g:=10) (b:=1) (oJ (p:=(l.length+1)*3) (sz:=3) rfl rfl (gO _ _) rfl (by omega) (by omega) (by omega) (by show _*56<=_;omega) rfl rfl rfl rfl rfl rfl) (by show 10<10+1;decide) ?_;conv=>whnf
      repeat((first|refine SW.R ?_|refine ap (by omega) ?_|refine cn rfl ?_|refine bg rfl ?_|refine And.intro (nO rfl) ?_);conv=>whnf)
      refine⟨⟨k+1,h2⟩,?_,by dsimp only;omega⟩;show Tr _ _ (prI n m a b (acc0++(b.take (k+1)).map (nM x v)) t x (k+1));rw[hnew];refine Tr.tab [] [(4,.one 1),(5,.one 1)] ⟨.rn rfl rfl,.rn rfl rfl,.rn rfl rfl,.rn rfl rfl,.sm rfl rfl,.sm rfl rfl,.sm rfl rfl,.sm rfl rfl,.sm rfl rfl,.sm rfl rfl,.sm rfl rfl,.sm rfl rfl,ab⟩ ⟨.sm rfl rfl rfl,.sm rfl rfl rfl,.sm rfl rfl rfl,.rn rfl rfl ?_ rfl,.ver rfl rfl (r7 _ _ _) ?_ ?_ ?_ ?_,.ver rfl rfl (r7 _ _ _) ?_ ?_ ?_ ?_,ab⟩ rfl
      . show EO.mem 30 [.iv (di (n+m)),.slc 4 0 0 (l.length+1+1) (.fin 1),.slc 5 0 0 (l.length+1+1) (.fin 3)] false [(0,3)] 1=.mem 30 [.iv (di (n+m)),.slc 4 0 0 ((l ++ [(x++y,v*w)]).length+1) (.fin 1),.slc 5 0 0 ((l ++ [(x++y,v*w)]).length+1) (.fin 3)] false [(0,3)] 1;rw[el]
      . show(l ++ [(x++y,v*w)]).length+1<=_;rw[el];omega
      . show(l ++ [(x++y,v*w)]).length+1<=(jL ((z::l) ++ [(x++y,v*w)])).length;rw[CD];simp
      . show((jL (z::l)).take ((l.length+1)*1) ++ [EV.iv (IV.sl ((x++y).map qr))]).take _=(jL ((z::l) ++ [(x++y,v*w)])).take _;rw[aC (i:=(l.length+1)*1) (by rw[CD,iK];exact ak _),S7];rfl
      . exact Bc _
      . show((l ++ [(x++y,v*w)]).length+1)*3<=_;rw[el];omega
      . show((l ++ [(x++y,v*w)]).length+1)*3<=(qC (kD ((z::l) ++ [(x++y,v*w)]))).length;rw[ov];simp
      . show((qC (kD (z::l))).take ((l.length+1)*3)++(qr (v*w)).cells.map EV.iv).take _=(qC (kD ((z::l) ++ [(x++y,v*w)]))).take _;rw[aC (i:=(l.length+1)*3) (by rw[qlen];exact ak _),show kD ((z::l) ++ [(x++y,v*w)])=kD (z::l) ++ [v*w] by simp[kD],yC];congr 1
      . exact ut _
   . have e:k=b.length:=by omega
     subst e;rw[dM] at hacc;have e1:dO (a.take (t+1)) b=acc:=by rw[Pa hx,hacc0];exact hacc
     unfold prI;repeat((first|refine SW.R ?_|refine SW.c ?_|refine ap (by omega) ?_|refine yF (by omega) ?_);conv=>whnf)
     refine⟨⟨t+1,h⟩,?_,by dsimp only;omega⟩;show Tr _ _ (vO n m a b (dO (a.take (t+1)) b) (t+1));rw[e1];cases acc with
     |nil=>exact Tr.tab [] [] ⟨.rn rfl rfl,.rn rfl rfl,.rn rfl rfl,.rn rfl rfl,.sm rfl rfl,.sm rfl rfl,.sm rfl rfl,ab⟩ ⟨.sm rfl rfl rfl,.sm rfl rfl rfl,.sm rfl rfl rfl,.rn rfl rfl rfl rfl,.sm rfl rfl wS,.sm rfl rfl wR,ab⟩ rfl
     |cons z l=>exact Tr.tab [] [] ⟨.rn rfl rfl,.rn rfl rfl,.rn rfl rfl,.rn rfl rfl,.sm rfl rfl,.sm rfl rfl,.sm rfl rfl,ab⟩ ⟨.sm rfl rfl rfl,.sm rfl rfl rfl,.sm rfl rfl rfl,.rn rfl rfl rfl rfl,.sm rfl rfl wS,.sm rfl rfl wR,ab⟩ rfl
 . have e:t=a.length:=by omega
   subst e;rw[dM] at hacc0;rw[hacc0];unfold vO;cases acc0 with
   |nil=>
    repeat((first|refine SW.R ?_|refine SW.c ?_|refine yF (by omega) ?_|refine bg rfl ?_|refine aM rfl ?_);conv=>whnf)
    rfl
   |cons z l=>
    repeat((first|refine SW.R ?_|refine SW.c ?_|refine yF (by omega) ?_|refine bg rfl ?_|refine aM rfl ?_);conv=>whnf)
    exact UB rfl rfl
theorem KL{J:Keep}(B:Base J){n m:Int}{a b:Cl}(hn:0<=n/\n<=100)(hm:0<=m/\m<=100)(ha:∀x∈a,0<x.1.length/\x.1.length<=100/\al x.2<2^36)(hb:∀x∈b,0<x.1.length/\x.1.length<=100/\al x.2<2^36)(hab:a.length*b.length<=2000)(ha5:a.length<=5000)(hb5:b.length<=5000)
 (c1:Go.Proofs.Fl.C J 28 [fw n a] (.bool true)) (c2:Go.Proofs.Fl.C J 28 [fw m b] (.bool true)) (hnm:n+m<=4) :
 Go.Proofs.Fl.C J 11 [fw n a,fw m b] (.tup [fw (n+m) (dO a b),.int .i64 0]):=by
 have c3:=SO B (n:=n) (m:=m) hn hm ha hb (by omega) ha5 hb5;have la:((((a.map fun x=>x.1.map qr).map IV.sl).length:Nat):Int)=(a.length:Int):=by simp
 have lb:((((b.map fun x=>x.1.map qr).map IV.sl).length:Nat):Int)=(b.length:Int):=by simp
 have hmul:(0:Int)<=(a.length:Int)*(b.length:Int)/\(a.length:Int)*(b.length:Int)<=2000:=by
  rw[<-kN];omega
 refine pS Tryz.func11 rfl rfl rfl rfl rfl ?_;unfold fw mQ at *;repeat((first|refine SW.R ?_|refine SW.c ?_|refine mG rfl ?_|refine bc la ?_|refine bc lb ?_|refine aV c1 rfl rfl rfl ?_|refine aV c2 rfl rfl rfl ?_|refine aV c3 rfl rfl rfl ?_|refine ap (by omega) ?_|refine yF (by omega) ?_|refine eU rfl ?_|refine cn rfl ?_|refine bg rfl ?_|refine aM rfl ?_);conv=>whnf)
 rfl
theorem J9{c:Rat}{xs:List Rat}{p:Pw}(hl:p.length=xs.length):∀k,k<=p.length->fI c xs p k=c*ft (p.take k) (xs.take k)
 |0,_=>by simp[fI,ft]
 |k+1,h=>by
  have e1:p[k]?=some p[k]:=a6 (by omega);have e2:xs[k]?=some xs[k]:=a6 (by omega);rw[fI,J9 hl k (by omega),gg,gg,e1,e2,B5 (by simp;omega)];rw[br,br,e1,e2];simp only[Option.toList,Nq,ft];grind
theorem J8{xs:List Rat}{p:Pw}(hl:p.length=xs.length):evS [(p,1)] xs 1=ft p xs:=by
 show 0+fI 1 xs p p.length=_;rw[J9 hl _ (ak _),dM,hl,dM];grind
theorem IO(p:Pw):dt [(p,1)]=[(p,(1:Rat))]:=by
 refine(Kk (n:=p.length) (f:=[(p,1)]) (g:=[(p,1)]) (fun t ht=>by rw[List.mem_singleton.1 ht]) (fun t ht=>by rw[List.mem_singleton.1 ht]) ?_ (fun t ht=>by rw[List.mem_singleton.1 ht];show(1:Rat)≠0;decide) fun p=>rfl).symm;exact Fx _ _
theorem PK{n:Nat}{p:Pw}(h1:1<=n)(h4:n<=4)(hl:p.length=n)(h0:∀x∈p,0<=x)(hs:Reg.sumI p<=24):kW (n:Int) [(p,1)]=true:=by
 have hk:∀{q:Pw},(∀x∈q,0<=x)->∀x∈q,x<=Reg.sumI q:=by
  intro q;induction q with
  |nil=>intro _ x hx;cases hx
  |cons a q ih=>
   intro h x hx;have h1:=n8 fun y hy=>h y (eB _ hy);have h2:=h a (by simp);show x<=a+Reg.sumI q;rcases List.mem_cons.1 hx with rfl|hx
   . omega
   . have:=ih (fun y hy=>h y (eB _ hy)) x hx;omega
 unfold kW;rw[aZ (show 1<=(n:Int)/\(n:Int)<=4 by omega),aZ (show [(p,(1:Rat))].length<=500 by show 1<=500;decide)];have:tj (n:Int) (p,(1:Rat))=false:=by
  unfold tj vJ;rw[aZ (show((p.length:Nat):Int)=(n:Int) by omega),bl (show ¬ 24<Fl.sumI p by rw[D9];omega)];have:p.any s7=false:=by
   rw[pA];intro x hx;have a:=h0 x hx;have b:=hk h0 x hx;unfold s7;simp only[dL,not_or];omega
  rw[this];rfl
 simp[E2,this]
structure BxOk(j:Nat)(A:Bo):Prop where
 h:∀s∈A,Hb j s.1/\Hb j s.2/\bT s.1 s.2<=0
structure ClOk(n j:Nat)(c:Cl):Prop where
 l:c.length<=100
 p:∀x∈c,x.1.length=n/\(∀y∈x.1,Hb 14 y)/\Hb j x.2
theorem dK:Hb 14 (1:Rat):=Hb.one 14
theorem Pv{n j:Nat}{c:Cl}(h:ClOk (n+1) j c)(hn:n<=3)(hl:c.length<=2000):qx ((n+1:Nat):Int) (c.map fun x=>x.1.map qr) (c.map fun x=>qr x.2)=true:=by
 unfold qx;rw[aZ (show 1<=((n+1:Nat):Int)/\((n+1:Nat):Int)<=4 by omega)];have:(c.map fun x=>x.1.map qr).any (gD ((n+1:Nat):Int))=false:=by
  rw[pA];intro r hr;obtain⟨x,hx,rfl⟩:=List.mem_map.1 hr;have:=(h.p x hx).1;unfold gD;simp[this]
 rw[this];simp only[bR,aZ hl];rfl
theorem zu{J:Keep}(B:Base J){k d:Nat}(hk:k<=3)(hd:d<=8){A:Bo}{c:Cl}(hA:A.length=k+1)(hAo:BxOk 14 A)(hc:ClOk (k+1) 28 c) :
 Go.Proofs.Fl.C J 10 [mM (k+1:Nat) [A] [],fw (k+1:Nat) c,.int .i64 d] (.tup [.int .i64 (eQ (k+1) d (kq c A)),.int .i64 0]):=by
 obtain⟨cl,cp⟩:=hc;have hAq:vB A:=⟨by omega,fun s hs=>by
  have h:=hAo.h s hs;have h1:=dG h.1;have h2:=dG h.2.1;exact⟨by omega,by omega⟩⟩
 have hbad:A.any lD=false:=by
  rw[pA];intro s hs;have:=(hAo.h s hs).2.2;unfold lD;simp[this]
 have hv:zL ((k+1:Nat):Int) [A] []=true:=by
  unfold zL;rw[aZ (show 1<=((k+1:Nat):Int)/\((k+1:Nat):Int)<=4 by omega)];have:jC ((k+1:Nat):Int) A=false:=by
   unfold jC;rw[hbad,aZ (by omega)];rfl
  rw[show [A].any (jC ((k+1:Nat):Int))=false by rw[E2,this];rfl];rfl
 have hw:qx ((k+1:Nat):Int) (c.map fun x=>x.1.map qr) (c.map fun x=>qr x.2)=true:=by
  unfold qx;rw[aZ (show 1<=((k+1:Nat):Int)/\((k+1:Nat):Int)<=4 by omega)];have:(c.map fun x=>x.1.map qr).any (gD ((k+1:Nat):Int))=false:=by
   rw[pA];intro r hr;obtain⟨x,hx,rfl⟩:=List.mem_map.1 hr;have:=(cp x hx).1;unfold gD;simp[this]
  rw[this];simp only[bR,aZ (show c.length<=2000 by omega)];rfl
 have c1:=U2 J (n:=((k+1:Nat):Int)) (bs:=[A]) (ss:=[]) (by show 1<2^50;decide) (by show 0<2^50;decide) (fun b hb=>by rw[List.mem_singleton.1 hb];exact hAq) (fun s hs=>by cases hs);rw[hv] at c1;have c2:=CA J (n:=((k+1:Nat):Int)) (f:=c.map fun x=>x.1.map qr) (w:=c.map fun x=>qr x.2) (by simp;omega);rw[hw] at c2;have hmon:∀p∈cQ (k+1) d,p.length=k+1/\(∀x∈p,0<=x/\x<=24)/\Reg.sumI p<=24/\kW ((k+1:Nat):Int) [(p,1)]=true:=fun p hp=>by
  obtain⟨h1,h2,h3⟩:=uu.1 hp;have hv:=PK (n:=k+1) (by omega) (by omega) h1 h2 (by omega);exact⟨h1,GX hv (p,1) (by simp),by omega,hv⟩
 have hnum:∀p:Pw,zG [(p,(1:Rat))]:=fun p=>Rj (j:=14) (fun t ht=>by rw[List.mem_singleton.1 ht];exact dK) (by show 1*15<2^34;decide) (by decide);have hev:∀p∈cQ (k+1) d,∀x∈c,Hb 2000 (ft p x.1):=fun p hp x hx=>by
  obtain⟨h1,h2,_⟩:=hmon p hp;obtain⟨x1,x2,_⟩:=cp x hx;have:=DD (f:=[(p,1)]) (xs:=x.1) (j:=14) (n:=k+1) (fun t ht=>by rw[List.mem_singleton.1 ht];exact⟨dK,h1,h2⟩) x2 1;rw[J8 (by omega)] at this;exact this.mono (by omega)
 have hbx:∀p∈cQ (k+1) d,Hb 3000 (du p A):=fun p hp=>by
  obtain⟨h1,h2,_⟩:=hmon p hp;have:=DF (j:=14) (b:=A) (p:=p) (fun s hs=>⟨(hAo.h s hs).1,(hAo.h s hs).2.1⟩) h2 p.length;rw[Kl (by omega)] at this;exact this.mono (by rw[h1];omega)
 have hap:∀p∈cQ (k+1) d,∀i,i<=c.length->Hb 300000 (iu (ft p) c i):=fun p hp i hi=>by
  have:=Lp (i:=28) (j:=2000) (φ:=ft p) (c:=c) (fun x hx=>⟨(cp x hx).2.2,hev p hp x hx⟩) i;exact this.mono (by have:=bU (28+2000+1) (show i<=100 by omega);omega)
 refine U3 (A:=fun p=>eJ (ft p) c) (I:=fun p=>du p A) hk (by omega) ⟨c1,c2,TC (k+1) (by omega) d hd,fun p hp=>⟨?_,?_⟩,fun p hp=>⟨?_,?_⟩,fun p hp=>?_⟩
 . obtain⟨h1,h2,h3,h4⟩:=hmon p hp;refine SY B (F:=[tw p]) (φ:=ft p) (by omega) (fun x hx=>?_) (fun x hx=>?_) (fun i hi=>?_)
   . obtain⟨x1,x2,x3⟩:=cp x hx;have:=SU B (f:=[(p,1)]) (xs:=x.1) (fun t ht=>by rw[List.mem_singleton.1 ht];exact⟨by show p.length=_;omega,h2⟩) (by show 1<2^16;decide) (by omega)
      (V7 (j:=14) (n:=k+1) (fun t ht=>by rw[List.mem_singleton.1 ht];exact⟨dK,h1,h2⟩) x2 (by show(1+1)*_<_;have:=bU (14*24) (show k+1<=4 by omega);omega))
     rw[show [((p,1):Tm)].length=1 from rfl,J8 (by omega)] at this;exact this
   . have a1:=dG (cp x hx).2.2;have a2:=dG (hev p hp x hx);exact⟨by omega,by omega⟩
   . have:=dG (hap p hp i hi);omega
 . have:=dG (hap p hp c.length (ak _));rw[Kq] at this;show al (eJ (ft p) c)<_;omega
 . obtain⟨h1,h2,h3,h4⟩:=hmon p hp;have cg:=IN B h4 (hnum p);rw[IO] at cg;have hbq:=dG (hbx p hp);have e1:jk (fun b q=>du q b) [A] p 1=du p A:=by
    show 0+du p A=_;grind
   have hI:IntOk J (fun b q=>du q b) (fun _ _=>0) [A] [] [(p,1)]:=by
    refine⟨fun t ht b hb=>?_,(fun t ht s hs=>by cases hs),fun t ht=>?_,fun t ht i hi=>?_,fun t ht i hi=>?_,fun i hi=>?_⟩
    . rw[List.mem_singleton.1 ht,List.mem_singleton.1 hb];refine⟨SI B (j:=14) (by show p.length=_;omega) (by decide) (fun s hs=>⟨(hAo.h s hs).1,(hAo.h s hs).2.1⟩) h2 (by show p.length<=100;omega),?_⟩;show al (du p A)<_;omega
    . rw[List.mem_singleton.1 ht];have:=dG dK;show al (1:Rat)<_;omega
    . rw[List.mem_singleton.1 ht];have hi:i<=1:=hi;rcases (show i=0\/i=1 by omega) with rfl|rfl
      . have:=dG (Hb.zero 0);show al (0:Rat)<_;omega
      . show al (jk (fun b q=>du q b) [A] p 1)<_;rw[e1];omega
    . rw[List.mem_singleton.1 ht];have hi:i<=0:=hi;have hi:i=0:=by omega
      subst hi;show al (jk (fun b q=>du q b) [A] p 1)<_;rw[e1];omega
    . have hi:i<=1:=hi;rcases (show i=0\/i=1 by omega) with rfl|rfl
      . have:=dG (Hb.zero 0);show al (0:Rat)<_;omega
      . show al (0+1*jk (fun b q=>du q b) [A] p 1)<_;rw[e1,show(0:Rat)+1*du p A=du p A by grind];omega
   have cI:=U1 B (n:=((k+1:Nat):Int)) (bs:=[A]) (ss:=[]) (F:=[tw p]) (g:=[(p,1)]) (bf:=fun b q=>du q b) (sf:=fun _ _=>0) (by show 1<2^40;decide) (by show 1<2^40;decide) (by show 0<2^40;decide) cg hI;have e2:jM (fun b q=>du q b) (fun _ _=>0) [A] [] [(p,1)] 1=du p A:=by
    show(0:Rat)+1*jk (fun b q=>du q b) [A] p 1=_;rw[e1];grind
   rw[show [((p,1):Tm)].length=1 from rfl,e2] at cI;exact cI
 . have:=dG (hbx p hp);show al (du p A)<_;omega
 . obtain⟨h1,h2,h3,h4⟩:=hmon p hp;have:=SX B h4 (hnum p);unfold Eu at this;rw[IO] at this;have e:Fl.sumI p=Reg.sumI p:=D9 p;have t:Go.Proofs.Fl.C J 34 [dq [(p,1)]] (.int .i64 (Fl.sumI p)):=this;rw[e] at t;exact t
end Go.Proofs.En
namespace Go.Proofs.Fl
open Go.RowKit Go.Proofs.Dig
attribute [local irreducible] IntKind.wrap a7 be bq bw
open Go.Proofs.Reg (Cl Bo Hb eJ du kq eQ dO G8 Bt GM)
open Go.Proofs.En (mQ fw mM eW fF zu ClOk BxOk qx KL CA gD)
def cN(x:Swm):Cl:=(x.at_.zip x.ws).map fun z=>(z.1.map Num3.q,z.2.q)
theorem US{x:Swm}(h:x.ws.length=x.at_.length):(cN x).map (fun z=>z.1)=x.at_.map fun r=>r.map Num3.q:=by
 unfold cN;rw[fb];have:(x.at_.zip x.ws).map Prod.fst=x.at_:=List.map_fst_zip (by omega);conv=>rhs;rw[<-this,fb]
 rfl
theorem UR{x:Swm}(h:x.ws.length=x.at_.length):(cN x).map (fun z=>z.2)=x.ws.map Num3.q:=by
 unfold cN;rw[fb];have:(x.at_.zip x.ws).map Prod.snd=x.ws:=List.map_snd_zip (by omega);conv=>rhs;rw[<-this,fb]
 rfl
theorem yv{x:Swm}(h:x.ws.length=x.at_.length):vV x=fw x.n (cN x):=by
 unfold vV fw mQ;have e1:((cN x).map fun z=>z.1.map qr).map IV.sl=x.at_.map rowQ:=by
  rw[fb];have:=aJ (List.map fun r:List Rat=>IV.sl (r.map qr)) (US h);rw[fb,fb] at this;refine Eq.trans this ?_;refine rq fun r _=>?_;show IV.sl ((r.map Num3.q).map qr)=rowQ r;unfold rowQ;rw[fb];rfl
 have e2:(cN x).map (fun z=>qr z.2)=x.ws.map fun y=>qr y.q:=by
  have:=aJ (List.map qr) (UR h);rw[fb,fb] at this;exact this
 rw[e1,e2]
theorem R5{x:Swm}(h:x.ws.length=x.at_.length):(cN x).length=x.at_.length:=by
 unfold cN;rw[bR,List.length_zip];omega
structure SwOk(x:Swm)(k:Nat):Prop where
 n:x.n=((k+1:Nat):Int)
 w:x.ws.length=x.at_.length
 c:ClOk (k+1) 14 (cN x)
 l:(cN x).length<=6
theorem Ly{x:Swm}(h:gA x 6=true)(hv:qu x.n ((x.at_.map fun r=>r.map fun y=>rr y.q)) (x.ws.map fun y=>rr y.q)=true):∃k,k<=3/\SwOk x k:=by
 unfold gA at h;simp only[az,dL] at h;obtain⟨h1,h2,h3,h4⟩:=h;unfold qu at hv;simp only[az,dL,bR,fy] at hv;obtain⟨v1,v2,v3,v4,v5⟩:=hv;have hl:=R5 v4;refine⟨x.n.toNat-1,by omega,by omega,v4,⟨by omega,fun z hz=>?_⟩,by omega⟩;obtain⟨⟨r,y⟩,hzm,rfl⟩:=List.mem_map.1 hz;have hr:=(List.of_mem_zip hzm).1;have hy:=(List.of_mem_zip hzm).2;have hro:=List.all_eq_true.1 h1 r hr;unfold jz at hro;simp only[az,dL] at hro;have hlen:(r.length:Int)=x.n:=by
  rw[pA] at v5;have:=v5 (r.map fun y=>rr y.q) (List.mem_map.2 ⟨r,hr,rfl⟩);simpa using this
 refine⟨by show(r.map Num3.q).length=_;rw[bR];omega,fun q hq=>?_,r9 (List.all_eq_true.1 h4 y hy)⟩;obtain⟨t,ht,rfl⟩:=List.mem_map.1 hq;exact r9 (List.all_eq_true.1 hro.2 t ht)
def g5(a:List Gap6):Bo:=a.map fun g=>(g.lo.q,g.hi.q)
theorem yM(a:List Gap6):a.map b9=(g5 a).map im:=by
 unfold g5;rw[fb];rfl
theorem LM{a:List Gap6}(h:a.all gQ=true):BxOk 14 (g5 a):=⟨fun s hs=>by
 obtain⟨g,hg,rfl⟩:=List.mem_map.1 hs;have:=List.all_eq_true.1 h g hg;unfold gQ at this;simp only[az,dL] at this;exact⟨r9 this.1.1,r9 this.1.2,this.2⟩⟩
theorem HC{n i j:Nat}{c:Cl}(h:ClOk n i c)(hij:i<=j):ClOk n j c:=⟨h.l,fun x hx=>⟨(h.p x hx).1,(h.p x hx).2.1,(h.p x hx).2.2.mono hij⟩⟩
theorem Dj(n:Int)(A:Bo):mM n [A] []=aI n (.sl [.sl (A.map im)]) (.sl []):=rfl
theorem Vl{J:Keep}(L:LibI J){x y:Swm}{a b:List Gap6}(hx:x.Ok)(hy:y.Ok)(hal:a.length<2^63)(hbl:b.length<2^63)(ha:∀g∈a,g.ok)(hb:∀g∈b,g.ok) :
 C J 3 [x.iv,y.iv,.sl (a.map Gap6.iv),.sl (b.map Gap6.iv)] (.bool true):=by
 have B:=base J;have cw:C J 6 [] (.bool true):=En.QL L;have lA:(a.map Gap6.iv).length=a.length:=by simp
 have lB:(b.map Gap6.iv).length=b.length:=by simp
 have hrl:reachBytes=140737488351232:=rfl;have hxl:=hx.l;have hyl:=hy.l;have hq:∀{z:Swm},gA z 6=true->z.at_.length<=6/\z.ws.length<=8/\∀r∈z.at_,r.length<=8:=fun{z} h=>by
  unfold gA at h;simp only[az,dL] at h;refine⟨h.2.1,h.2.2.1,fun r hr=>?_⟩;have:=List.all_eq_true.1 h.1 r hr;unfold jz at this;simp only[az,dL] at this;exact this.1
 have cv:∀{z:Swm},gA z 6=true->C J 5 [Aw z] (.bool (qu z.n ((z.at_.map fun r=>r.map fun y=>rr y.q)) (z.ws.map fun y=>rr y.q))):=fun{z} h=>by
  obtain⟨q1,q2,q3⟩:=hq h;have:=U4 J (n:=z.n) (f:=z.at_.map fun r=>r.map fun y=>rr y.q) (w:=z.ws.map fun y=>rr y.q) (by simp;omega) (fun r hr=>by
   obtain⟨t,ht,rfl⟩:=List.mem_map.1 hr;have:=q3 t ht;rw[bR];omega) (by simp;omega)
  rw[fb] at this;exact this
 have c1:C J 4 [x.iv,.int .i64 6] (.tup [bif gA x 6 then vV x else zC,bif gA x 6 then Aw x else zC,.bool (gA x 6)]):=KM J (most:=6) hx (by omega);have c2:C J 4 [y.iv,.int .i64 6] (.tup [bif gA y 6 then vV y else zC,bif gA y 6 then Aw y else zC,.bool (gA y 6)]):=KM J (most:=6) hy (by omega);cases ox:gA x 6 with
 |false=>
  rw[ox] at c1;cases oy:gA y 6 with
  |false=>
   rw[oy] at c2;exact wO (w1:=true) (w2:=true) (by omega) (by omega) cw c1 c2 (fun h=>by cases h) (fun h=>by cases h) (.inl rfl)
  |true=>
   rw[oy] at c2;exact wO (w1:=true) (by omega) (by omega) cw c1 c2 (fun h=>by cases h) (fun _=>cv oy) (.inl rfl)
 |true=>
  rw[ox] at c1;have v1:=cv ox;cases oy:gA y 6 with
  |false=>
   rw[oy] at c2;exact wO (w2:=true) (by omega) (by omega) cw c1 c2 (fun _=>v1) (fun h=>by cases h) (.inr (.inl rfl))
  |true=>
   rw[oy] at c2;have v2:=cv oy;have early:=fun h=>wO (n:=x.n) (m:=y.n) (A:=a.map Gap6.iv) (B:=b.map Gap6.iv) (by omega) (by omega) cw c1 c2 (fun _=>v1) (fun _=>v2) h;cases w1:qu x.n ((x.at_.map fun r=>r.map fun y=>rr y.q)) (x.ws.map fun y=>rr y.q) with
   |false=>exact early (.inr (.inr (.inl w1)))
   |true=>
    cases w2:qu y.n ((y.at_.map fun r=>r.map fun y=>rr y.q)) (y.ws.map fun y=>rr y.q) with
    |false=>exact early (.inr (.inr (.inr (.inl w2))))
    |true=>
     by_cases h1:(a.length:Int)=x.n
     . by_cases h2:(b.length:Int)=y.n
       . by_cases h3:2<x.n
         . exact early (.inr (.inr (.inr (.inr (.inr (.inr (.inl h3)))))))
         . by_cases h4:2<y.n
           . exact early (.inr (.inr (.inr (.inr (.inr (.inr (.inr h4)))))))
           . obtain⟨k,hk,X⟩:=Ly ox w1;obtain⟨l,hl,Yz9⟩:=Ly oy w2;rw[w1] at v1;rw[w2] at v2;obtain⟨xn,xw,xc,xl⟩:=X;obtain⟨yn,yw,yc,yl⟩:=Yz9;refine O8 (n:=x.n) (m:=y.n) (Z1:=.sl (((dO (cN x) (cN y)).map fun z=>z.1.map qr).map IV.sl)) (Z2:=.sl ((dO (cN x) (cN y)).map fun z=>qr z.2)) (k1:=eQ (k+1) 4 (kq (cN x) (g5 a))) (k2:=eQ (l+1) 4 (kq (cN y) (g5 b))) (k3:=eQ (k+l+1+1) 4 (kq (dO (cN x) (cN y)) (g5 a++g5 b))) h1 h2 (by omega) (by omega) (by omega) (by omega) ha hb cw c1 c2 v1 v2 fun ga gb=>?_;have hA:(g5 a).length=k+1:=by unfold g5;rw[bR];omega
             have hB:(g5 b).length=l+1:=by unfold g5;rw[bR];omega
             have ok1:=LM ga;have ok2:=LM gb;have e1:=zu B (k:=k) (d:=4) hk (by omega) hA ok1 (HC xc (by omega));have e2:=zu B (k:=l) (d:=4) hl (by omega) hB ok2 (HC yc (by omega));have hpl:(dO (cN x) (cN y)).length<=36:=by
              rw[Bt];exact iO xl yl
             have hpc:ClOk (k+l+1+1) 28 (dO (cN x) (cN y)):=⟨by omega,fun z hz=>by
              obtain⟨p,hp,q,hq,rfl⟩:=G8 hz;obtain⟨p1,p2,p3⟩:=xc.p p hp;obtain⟨q1,q2,q3⟩:=yc.p q hq;refine⟨by show(p.1++q.1).length=_;rw[bF];omega,fun t ht=>?_,p3.mul q3⟩;rcases List.mem_append.1 ht with h|h
              . exact p2 t h
              . exact q2 t h⟩
             have ok3:BxOk 14 (g5 a++g5 b):=⟨fun s hs=>by
              rcases List.mem_append.1 hs with h|h
              . exact ok1.h s h
              . exact ok2.h s h⟩
             have e4:=zu B (k:=k+l+1) (d:=4) (by omega) (by omega) (A:=g5 a++g5 b) (c:=dO (cN x) (cN y)) (by rw[bF];omega) ok3 hpc;have hqq:∀{n:Nat} {c:Cl},ClOk (n+1) 14 c->n<=3->∀z∈c,0<z.1.length/\z.1.length<=100/\al z.2<2^36:=fun h hn z hz=>by
              obtain⟨z1,z2,z3⟩:=h.p z hz;have:=dG z3;exact⟨by omega,by omega,by omega⟩
             have cl1:∀{n:Nat} {c:Cl},ClOk (n+1) 14 c->c.length<=6->n<=3->C J 28 [fw ((n+1:Nat):Int) c] (.bool true):=fun{n c} h hl hn=>by
              have:=CA J (n:=((n+1:Nat):Int)) (f:=c.map fun x=>x.1.map qr) (w:=c.map fun x=>qr x.2) (by simp;omega);rw[En.Pv h hn (by omega)] at this;exact this
             have hm:(cN x).length*(cN y).length<=36:=iO xl yl;have e3:=KL B (n:=x.n) (m:=y.n) (a:=cN x) (b:=cN y) (by omega) (by omega) (hqq xc hk) (hqq yc hl) (by omega) (by omega) (by omega) (by rw[xn];exact cl1 xc xl hk) (by rw[yn];exact cl1 yc yl hl) (by omega);have hpr:=GM (c:=cN x) (d:=cN y) (a:=g5 a) (b:=g5 b) (m:=4) (fun z hz=>by rw[(xc.p z hz).1,hA]);rw[hA,hB,show k+1+(l+1)=k+l+1+1 by omega] at hpr;have hs:x.n+y.n=((k+l+1+1:Nat):Int):=by omega
             rw[<-xn,<-yv xw,Dj,<-yM] at e1;rw[<-yn,<-yv yw,Dj,<-yM] at e2;rw[<-hs,Dj,dE,<-yM,<-yM] at e4;rw[<-yv xw,<-yv yw] at e3;refine⟨e1,e2,e3,e4,?_⟩;split<;>omega
       . exact early (.inr (.inr (.inr (.inr (.inr (.inl (by rw[lB];exact h2)))))))
     . exact early (.inr (.inr (.inr (.inr (.inl (by rw[lA];exact h1))))))
end Go.Proofs.Fl
