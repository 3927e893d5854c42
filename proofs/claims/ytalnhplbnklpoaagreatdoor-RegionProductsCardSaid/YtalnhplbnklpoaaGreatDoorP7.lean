/-
  A part of the proof of regionProducts_card.
-/
import Derived.Test.YtalnhplbnklpoaaGreatDoorP6
set_option maxHeartbeats 40000000
namespace Go.Proofs.En
open Go.RowKit Go.Proofs.Fl Go.Proofs.Dig
def vg:List Int->List Int->Bool
 | [],[]=>true
 |a::l,b::m=>decide (a=b)&&vg l m
 |_,_=>false
def uS:List (List (Int×Nat))->List (List (Int×Nat))->Bool
 | [],[]=>true
 |a::l,b::m=>sN a b&&uS l m
 |_,_=>false
def XZ:Option EO->Option EO
 |some (.mem ..)=>some .hid
 |o=>o
def oU:List Nat->PT EO->PT EO
 | [],h=>h
 |g::l,h=>match h.get g with
  |some (.mem ..)=>oU l (h.set g .hid)
  |_=>oU l h
def D8:List (List (Int×Nat)):=[[(0,1),(0,1)],[(1,1),(0,1)],[(0,1),(1,1)]]
def Dc(args:List ES)(s:Hs):Option (ES×Hs):=match args with
 | [.w (.one (.slc g u 0 3 cap)),.w (.one y)]=>match s.h.get g,rowI s.h.get y with
  |some (.mem e cs _ vs _),some (pw,p)=>match dl u vs,cK (rowQ s.h.get) (cs.take 3) with
   |some q,some ls=>bif Nat.beq e 28&&(Nat.ble 3 q&&(uS (ls.map Prod.fst) D8&&vg pw [2,0])) then
    some (.w (.q 1 12),⟨oU (g::p::ls.map Prod.snd) s.h,s.nx,(g::p::ls.map Prod.snd)++s.wl⟩) else none
   |_,_=>none
  |_,_=>none
 |_=>none
def Eb(f:qe)(args:List ES)(s:Hs):Option (ES×Hs):=bif Nat.beq f 76 then Dc args s else Ec f args s
noncomputable def ri:EE:=⟨ZZ,BE,Ap,Eb⟩
end Go.Proofs.En
namespace Go.Proofs.En
open Go.RowKit Go.Proofs.Fl Go.Proofs.Dig
attribute [local irreducible] IntKind.wrap a7 be bq bw SW SWr CallOk To
theorem pD(J:Keep)(l:List Rat){f:qe}{fn:Func}{c:X5}(hf:Tryz.prog.funcs[f]?=some fn)(hb:fn.body=some c)(hn:(fn.name == "runtime.NumGoroutine")=false){xs:List IV}{r:IV}(hx:Nat.ble xs.length fn.ntmps=true)(hxt:jy xs=true)(fu:Nat)
 (hw:SW (XL J l) 0 false fn.ntmps c ⟨argS (xs.map dS),fun _=>none,0⟩ (iY (XL J l) fn.results.toList fun h rf=>gE TT (ZL l) (fun _=>true) h fu rf=some r)):C J f xs r :=
 DU (X:=XL J l) J.bel hf hb hn hx hxt fu hw
theorem cq{J:Keep}{l:List Rat}{f:qe}{xs:List IV}{q:Rat}{h:Hp}(i:Nat)(hc:C J f xs (qr q))(ht:jy xs=true)(hq:l.getD i 0=q):CallOk (XL J l) f (xs.map dS) h (.w (.q i 0)) (a8 h []) :=
 xK (X:=XL J l) hc (fun H U vs hv=>SREL.data ht hv) fun H U v hv=>by
  show VR H v (qr (val l ((i:Int),0)));rw[show val l ((i:Int),0)=q from hq];exact hv
theorem vP{A E:Prop}{C:ES->Wr->Nat->Prop}{D:Wr->Nat->Prop}{K:ES->Wr->Nat->Prop}(r:ES)(h1:C r [] 0)(h2:D [] 0)(k:K r [] 0):A\/(∃r ws b,C r ws b/\D ws b/\K r ws b)\/E:=.inr (.inl ⟨r,[],0,h1,h2,k⟩)
theorem PT.fin{α:Type}:∀t:PT α,∃n,∀g,n<=g->t.get g=none
 | .nil=>⟨0,fun _ _=>rfl⟩
 | .node l v r=>by
  obtain⟨a,ha⟩:=PT.fin l;obtain⟨b,hb⟩:=PT.fin r;refine⟨2*a+2*b+3,fun g hg=>?_⟩;unfold PT.get;rw[ed (show g≠0 by omega),aX];cases Nat.beq (g%2) 1 with
  |true=>exact ha _ (by omega)
  |false=>exact hb _ (by omega)
theorem Jn(x:EV):iG id x=x:=by cases x<;>simp[iG]
theorem Id(l:List EV):l.map (iG id)=l:=by
 rw[show iG id=id from funext Jn,List.map_id]
theorem Sl(x:EW):gB id x=x:=by
 cases x with
 |one c=>simp[gB,Jn]
 |agg cs=>simp[gB,Id]
 |q n d=>rfl
theorem UY(o:EO):dT id o=o:=by
 cases o with
 |mem e cs fz vs cnt=>simp[dT,Id]
 |map es ck=>simp[dT,Sl]
 |iter=>rfl
 |loop=>rfl
 |hid=>rfl
theorem Ren.sm(h:Hp):Ren h h some id:=by
 refine⟨fun g g' x h1 h2=>by cases h1;cases h2;rfl,fun g g0 hg=>?_,fun g hg=>(by cases hg),fun g g0 o _ _=>?_⟩
 . cases hg;cases h g with
   |none=>rfl
   |some o=>simp[UY]
 . cases o with
   |mem e cs fz vs cnt=>exact fun _ _ _ _ _=>rfl
   |map es ck=>exact fun _ _=>⟨fun _ _=>rfl,fun _ _=>rfl⟩
   |iter=>exact rfl
   |loop=>exact fun _ _ _=>⟨rfl,rfl⟩
   |hid=>trivial
theorem RetR.sm{nP:Nat}{h:Hp}{r:ES}(hr:eV r=[]):RetR nP h r h r:=by
 refine⟨some,id,Ren.sm h,fun _ _=>rfl,?_⟩;have:=ResR.rn (Y:=some) (V:=id) (r:=r) (fun i hi=>by rw[hr] at hi;cases hi);rwa[A6 hr] at this
theorem WG{J:Keep}{l:List Rat}{a:Int}{b:Nat}:mkV (XL J l).Z oM.sh.agg [EV.qc a b 0,EV.qc a b 1,EV.qc a b 2]=some (EW.q a b):=by
 show some (qJ (ZL l) _)=_;unfold qJ;show some (bif mP a b 0 [EV.qc a b 0,EV.qc a b 1,EV.qc a b 2] 3 then _ else _)=_;simp[mP]
theorem WP{J:Keep}{l:List Rat}{a:Int}{b:Nat}{h:Hp}:CallOk (XL J l) 52 [.w (.q a b)] h (ac (.int .i64 (aN (val l (a,b)).num 0))) (a8 h []) :=
 xK (X:=XL J l) (xs:=[qr (val l (a,b))]) (qq J _) (fun H U vs hv=>BM (args:=[.w (.q a b)]) (cs:=[(a,b)]) rfl hv) fun H U v hv=>by
  have:=VR.asInt hv;subst this;exact⟨rfl,hv⟩
theorem TV{J:Keep}{l:List Rat}{g u n c k:Nat}{cap:Cap}{a:Int}{b:Nat}{t:PT EO}{x:Bool}(hrow:g3 (t.get g) u (0+k*3) 3=some [EV.qc a b 0,EV.qc a b 1,EV.qc a b 2])(hk:g3 (t.get c) 0 0 1=some [EV.iv (.int .i64 (k:Nat))])(hkn:k<n)(hx:decide (val l (a,b)≠0)=x) :
 CallOk (XL J l) 182 [.w (.one (.slc g u 0 n cap)),.w (.one (.ptr c 0 0))] t.get (ac (.bool x)) t.get:=by
 obtain⟨m,hfr'⟩:=PT.fin t;have hfr:∀g,m+1<=g->t.get g=none:=fun g hg=>hfr' g (by omega);have hb:(aN (val l (a,b)).num 0 != 0)=x:=by
  rw[<-hx];by_cases h:val l (a,b)=0
  . rw[h];rfl
  . rw[aZ h,bne_iff_ne];exact fun e=>h (Rat.num_eq_zero.1 (rV e))
 refine XJ (X:=XL J l) (nP:=m+1) Tryz.func182 rfl rfl rfl hfr ?_;repeat((first|refine SW.RS ?_|refine aM hk ?_|refine jI rfl hkn rfl ?_);conv=>whnf)
 refine aM hrow ?_;rw[WG];conv=>whnf
 repeat((first|refine SW.ret ?_|refine vP (ac (.int .i64 (aN (val l (a,b)).num 0))) WP (fun _ hp=>absurd hp bt) ?_|refine And.intro rfl (eU hb ?_));conv=>whnf)
 exact RetR.sm rfl
def Ah(c:Int×Nat):List ((Int×Nat)×Bool)->Option Bool
 | []=>none
 |p::l=>bif Nat.beq p.1.2 c.2&&decide (p.1.1=c.1) then some p.2 else Ah c l
def LB(h:PT EO)(N:List ((Int×Nat)×Bool)):List ES->Option Bool
 | [.w (.one (.slc g u 0 n _)),.w (.one (.ptr c 0 0))]=>match g3 (h.get c) 0 0 1 with
  |some [.iv (.int .i64 (.ofNat k))]=>bif Nat.blt k n then(match g3 (h.get g) u (0+k*3) 3 with
   |some [.qc a b 0,.qc a1 b1 1,.qc a2 b2 2]=>bif decide (a=a1)&&(decide (a=a2)&&(Nat.beq b b1&&Nat.beq b b2)) then Ah (a,b) N else none
   |_=>none) else none
  |_=>none
 |_=>none
def Ee(T:List Fc)(N:List ((Int×Nat)×Bool))(f:qe)(args:List ES)(s:Hs):Option (ES×Hs):=bif Nat.beq f 182 then(match LB s.h N args with
 |some b=>some (ac (.bool b),s)
 |none=>none) else Ef T f args s
def nI(l:List Rat)(p:(Int×Nat)×Bool):Prop:=decide (val l p.1≠0)=p.2
theorem KQ{l:List Rat}{c:Int×Nat}{b:Bool}:∀{N:List ((Int×Nat)×Bool)},(∀p∈N,nI l p)->Ah c N=some b->decide (val l c≠0)=b
 | [],_,h=>by cases h
 |p::N,hN,h=>by
  unfold Ah at h;cases hb:(Nat.beq p.1.2 c.2&&decide (p.1.1=c.1)) with
  |true=>
   rw[hb,af] at h;simp only[ae] at h;subst h;simp only[az,dL] at hb;have:=hN p (by simp);unfold nI at this;rwa[show p.1=c from Prod.ext hb.2 (av hb.1)] at this
  |false=>
   rw[hb,aX] at h;exact KQ (fun q hq=>hN q (by simp[hq])) h
theorem JB{J:Keep}{l:List Rat}{T:List Fc}{N:List ((Int×Nat)×Bool)}(hT:∀c∈T,mI J l c)(hN:∀p∈N,nI l p):iX (XL J l) (Ee T N):=by
 intro f args s r s' he;unfold Ee at he;cases hf:Nat.beq f 182 with
 |false=>
  rw[hf,aX] at he;exact Tc hT f args s r s' he
 |true=>
  rw[hf,af] at he;have hf:=av hf;subst hf;split at he
  . rename_i b hb;simp only[ae,aA] at he;obtain⟨rfl,rfl⟩:=he;refine⟨LogOk.refl _,?_⟩;unfold LB at hb;split at hb
    . rename_i g u n cap c;split at hb
      . rename_i k hk;cases hkn:Nat.blt k n with
        |false=>rw[hkn] at hb;cases hb
        |true=>
         rw[hkn,af] at hb;split at hb
         . rename_i a b' a1 b1 a2 b2 hrow;cases hc:(decide (a=a1)&&(decide (a=a2)&&(Nat.beq b' b1&&Nat.beq b' b2))) with
           |false=>rw[hc] at hb;cases hb
           |true=>
            rw[hc,af] at hb;simp only[az,dL] at hc;obtain⟨rfl,rfl,h1,h2⟩:=hc;have h1:=av h1;have h2:=av h2;subst h1;subst h2;exact TV hrow hk (by rwa[cY] at hkn) (KQ hN hb)
         . cases hb
      . cases hb
    . cases hb
  . cases he
def Ew:X5->X5
 | .seq _ y=>y
 |c=>c
noncomputable def LA:X5:=match Tryz.f137.body with
 |some c=>Ew (Ew (Ew c))
 |none=>.skip
noncomputable def zJ(l:List Rat)(T:List Fc)(N:List ((Int×Nat)×Bool))(tab:List (Nat×ES))(m:List (Nat×EO))(nx:Nat):Option (Option (Int×Nat)):=match Aq ⟨ZL l,BS,Ap,Ee T N⟩ 100000 false 139 LA ⟨pe 139 tab,⟨nL m,nx,[]⟩⟩ with
 |some (.ret,s')=>bif pc (s'.s.nx+nx) s'.s.wl then(match gV TT (ZL l) s'.tm.sl s'.s.h.get Tryz.f137.results.toList with
  |some [.q a b]=>some (some (a,b))
  |some [.agg [.iv (.sl []),.iv (.bool false),.iv (.sl [])]]=>some none
  |_=>none) else none
 |_=>none
def VolIs(l:List Rat)(T:List Fc)(N:List ((Int×Nat)×Bool))(tab:List (Nat×ES))(m:List (Nat×EO))(nx:Nat)(v:Rat):Prop:=match zJ l T N tab m nx with
 |some (some c)=>val l c=v
 |some none=>v=0
 |none=>False
theorem UP{J:Keep}{l:List Rat}{T:List Fc}{N:List ((Int×Nat)×Bool)}(hT:∀c∈T,mI J l c)(hN:∀p∈N,nI l p){v:Rat}{tab:List (Nat×ES)}{m:List (Nat×EO)}{nx:Nat}(hfr:nn nx m=true)(hr:VolIs l T N tab m nx v) :
 SW (XL J l) 0 false 139 LA (aP tab m nx) (iY (XL J l) Tryz.f137.results.toList fun h rf=>gE TT (ZL l) (fun _=>true) h 0 rf=some (qr v)):=by
 unfold VolIs zJ at hr;split at hr
 . rename_i c hc;split at hc
   . rename_i s' he;cases hw:pc (s'.s.nx+nx) s'.s.wl with
     |false=>rw[hw] at hc;cases hc
     |true=>
      rw[hw,af] at hc;refine BQ (np rfl) (JB hT hN) 100000 he hw hfr ?_;show match gV TT (ZL l) s'.tm.sl s'.s.h.get Tryz.f137.results.toList with
       |some xs=>gE TT (ZL l) (fun _=>true) s'.s.h.get 0 (jE xs)=some (qr v)
       |none=>False
      split at hc
      . rename_i a b hres;rw[hres];simp only[ae] at hc;subst hc;show some ((ZL l).qv a b)=_;rw[<-hr];rfl
      . cases hc
      . cases hc
   . cases hc
 . rename_i hc;split at hc
   . rename_i s' he;cases hw:pc (s'.s.nx+nx) s'.s.wl with
     |false=>rw[hw] at hc;cases hc
     |true=>
      rw[hw,af] at hc;refine BQ (np rfl) (JB hT hN) 100000 he hw hfr ?_;show match gV TT (ZL l) s'.tm.sl s'.s.h.get Tryz.f137.results.toList with
       |some xs=>gE TT (ZL l) (fun _=>true) s'.s.h.get 0 (jE xs)=some (qr v)
       |none=>False
      split at hc
      . cases hc
      . rename_i hres;rw[hres,hr,um];rfl
      . cases hc
   . cases hc
 . exact hr.elim
end Go.Proofs.En
namespace Go.Proofs.Reg
def d1(a:Rat):Rat:=a
def d2(a b c d:Rat):Rat:=a*d-b*c
theorem Uy{c p f:Rat}(hp:p≠0)(hf:f=c/p):c=f*p:=by rw[hf,Rat.div_mul_cancel hp]
theorem XN{D o p q:Rat}(S:D=o*d1 p)(hq:q=o*p):D=q:=by rw[S,hq];rfl
theorem XM{D o p q a1 b0 b1 f y11:Rat}(S:D=o*d2 p a1 b0 b1)(hp:p≠0)(hq:q=o*p)(h1:f=b0/p)(k11:y11=b1-f*a1):D=q*d1 y11:=by
 have e1:=Uy hp h1;subst k11 hq;rw[S,e1];simp only[d2,d1];grind
theorem WW{D o:Rat}(S:D=o*d1 0):D=0:=by rw[S];simp only[d1];grind
end Go.Proofs.Reg
namespace Go.Proofs.En
open Go.RowKit Go.Proofs.Fl Go.Proofs.Dig
attribute [local irreducible] IntKind.wrap a7 be bq bw SW SWr CallOk To
def AllF(J:Keep)(l:List Rat):List Fc->Prop
 | []=>True
 |c::T=>mI J l c/\AllF J l T
theorem AllF.ok{J:Keep}{l:List Rat}:∀{T:List Fc},AllF J l T->∀c∈T,mI J l c
 |c::T,⟨h1,h2⟩,d,hd=>by
  rcases List.mem_cons.1 hd with rfl|hd
  . exact h1
  . exact AllF.ok h2 d hd
def AllN(l:List Rat):List ((Int×Nat)×Bool)->Prop
 | []=>True
 |p::N=>nI l p/\AllN l N
theorem AllN.ok{l:List Rat}:∀{N:List ((Int×Nat)×Bool)},AllN l N->∀p∈N,nI l p
 |c::T,⟨h1,h2⟩,d,hd=>by
  rcases List.mem_cons.1 hd with rfl|hd
  . exact h1
  . exact AllN.ok h2 d hd
theorem EH{l:List Rat}{c:Int×Nat}(h:val l c≠0):nI l (c,true):=aZ h
theorem XD{l:List Rat}{c:Int×Nat}(h:val l c=0):nI l (c,false):=bl (fun e=>e h)
section
variable {J:Keep}{l:List Rat}
theorem qT{a b r:Int×Nat}(h:val l r=val l a*val l b)(ha:al (val l a)<2^38)(hb:al (val l b)<2^38):mI J l ⟨55,[a,b],.inl r⟩:=by
 show C J 55 [qr (val l a),qr (val l b)] (qr (val l r));rw[h];exact ka (base J) ha hb
theorem zP{a b r:Int×Nat}(h:val l r=val l a-val l b)(ha:al (val l a)<2^38)(hb:al (val l b)<2^38):mI J l ⟨136,[a,b],.inl r⟩:=by
 show C J 136 [qr (val l a),qr (val l b)] (qr (val l r));rw[h];exact qp (base J) ha hb
theorem Ml{a b r:Int×Nat}(h:val l r=val l a/val l b)(hz:val l b≠0)(ha:al (val l a)<2^38)(hb:al (val l b)<2^38):mI J l ⟨135,[a,b],.inl r⟩:=by
 show C J 135 [qr (val l a),qr (val l b)] (qr (val l r));rw[h];exact Cz (base J) ha hb hz
end
theorem VolIs.of{l:List Rat}{T:List Fc}{N:List ((Int×Nat)×Bool)}{tab:List (Nat×ES)}{m:List (Nat×EO)}{nx:Nat}{v:Rat}{c:Int×Nat}(h:zJ l T N tab m nx=some (some c))(hv:val l c=v):VolIs l T N tab m nx v:=by
 unfold VolIs;rw[h];exact hv
theorem QH{l:List Rat}{T:List Fc}{N:List ((Int×Nat)×Bool)}{tab:List (Nat×ES)}{m:List (Nat×EO)}{nx:Nat}(h:zJ l T N tab m nx=some none):VolIs l T N tab m nx 0:=by
 unfold VolIs;rw[h]
theorem tl{a b x:Rat}{A B C:Nat}(ha:al a<A)(hb:al b<B)(hx:x=a-b)(h:2*A+2*B<=C):al x<C:=by
 have:=S5 a (-b);rw[Jx] at this;rw[hx,Fo];omega
theorem zZ{a b x:Rat}{A B C:Nat}(ha:al a<A)(hb:al b<B)(hx:x=a*b)(h:A+B<=C):al x<C:=by
 have:=sc a b;rw[hx];omega
theorem WQ{a b x:Rat}{A B C:Nat}(ha:al a<A)(hb:al b<B)(hx:x=a/b)(h:A+B<=C):al x<C:=by
 have:=S4 a b;rw[hx];omega
theorem vK:al (mkRat 1 1)<3:=by
 have:=zg 1;rw[show Int.natAbs 1=1 by rfl,qk] at this;rw[show mkRat 1 1=((1:Int):Rat) by rfl];omega
theorem dV{a:Rat}{A:Nat}(h:al a<A)(hA:A<=2^38):al a<2^38:=by omega
set_option maxRecDepth 100000 in
theorem L5(J:Keep){l:List Rat}{p00 p01 p10 p11 p20 p21:Rat}(b00:al p00<2^30)(b01:al p01<2^30)(b10:al p10<2^30)(b11:al p11<2^30)(b20:al p20<2^30)(b21:al p21<2^30)(e0:l.getD 0 0=p10-p00)(e1:l.getD 1 0=p11-p01)(e2:l.getD 2 0=p20-p00)(e3:l.getD 3 0=p21-p01){T:List Fc}{N:List ((Int×Nat)×Bool)}(hT:∀c∈T,mI J l c)(hN:∀p∈N,nI l p){v:Rat}
 (hr:VolIs l T N [(2,.w (.one (.ptr 0 0 0))),(3,.w (.one (.slc 3 1 0 2 (.fin 1))))] [(0,.mem 54 [.iv (.sl []),.iv (.bool false),.iv (.sl [])] false [(0,3)] 1),(1,.mem 54 [.qc 0 0 0,.qc 0 0 1,.qc 0 0 2,.qc 1 0 0,.qc 1 0 1,.qc 1 0 2] false [(1,6),(0,3)] 2),(2,.mem 54 [.qc 2 0 0,.qc 2 0 1,.qc 2 0 2,.qc 3 0 0,.qc 3 0 1,.qc 3 0 2] false [(1,6),(0,3)] 2),(3,.mem 28 [.slc 1 1 0 2 (.fin 3),.slc 2 1 0 2 (.fin 3)] false [(1,2),(0,1)] 2)] 4 v):C J 137 [.sl [.sl [qr p00,qr p01],.sl [qr p10,qr p11],.sl [qr p20,qr p21]]] (qr v):=by
 refine pD J l Tryz.func137 rfl rfl rfl rfl 0 ?_;have s0:=qp (base J) (a:=p10) (b:=p00) (by omega) (by omega);have s1:=qp (base J) (a:=p11) (b:=p01) (by omega) (by omega);have s2:=qp (base J) (a:=p20) (b:=p00) (by omega) (by omega);have s3:=qp (base J) (a:=p21) (b:=p01) (by omega) (by omega);repeat (first|(refine SW.join (x:=.seq (.region 2 _ _) _) (G:=Unit) (fun _=>aP [(2,.w (.one (.ptr 0 0 0))),(3,.w (.one (.slc 3 1 0 2 (.fin 1))))] [(0,.mem 54 [.iv (.sl []),.iv (.bool false),.iv (.sl [])] false [(0,3)] 1),(1,.mem 54 [.qc 0 0 0,.qc 0 0 1,.qc 0 0 2,.qc 1 0 0,.qc 1 0 1,.qc 1 0 2] false [(1,6),(0,3)] 2),(2,.mem 54 [.qc 2 0 0,.qc 2 0 1,.qc 2 0 2,.qc 3 0 0,.qc 3 0 1,.qc 3 0 2] false [(1,6),(0,3)] 2),(3,.mem 28 [.slc 1 1 0 2 (.fin 3),.slc 2 1 0 2 (.fin 3)] false [(1,2),(0,1)] 2)] 4) ?_ fun _=>?_)|((first|refine SW.RS ?_|refine bc rfl ?_|refine XK rfl ?_|refine WN (aG rfl) (aG rfl) (.inr rfl) ?_);conv=>whnf)|(refine SW.block ?_))
 . refine BP 3 ?_;refine SWr.to (To.tab (nP:=0) [] (l:=[(0,ac (.sl [.sl [qr p00,qr p01],.sl [qr p10,qr p11],.sl [qr p20,qr p21]])),(2,.w (.one (.ptr 0 0 0))),(3,ac (.nil 3)),(17,ac (.sl [.sl [qr p10,qr p11],.sl [qr p20,qr p21]])),(18,ac (.int .i64 2)),(19,ac (.int .i64 0))]) (m:=[(0,.mem 54 [.iv (.sl []),.iv (.bool false),.iv (.sl [])] false [(0,3)] 1)]) (nx:=4)
    ⟨.sm rfl rfl,.rn rfl rfl,.sm rfl rfl,.sm rfl rfl,.sm rfl rfl,.sm rfl rfl,ab⟩ ⟨.sm rfl rfl,ab⟩ rfl) ?_
   refine SWr.step ?_;repeat((first|refine SW.R ?_|refine SW.c ?_|refine yT (by omega) ?_|refine bc rfl ?_|refine bz rfl rfl rfl ?_);conv=>whnf)
   refine BP 3 ?_;refine SWr.to (To.tab (nP:=0) [] (l:=[(0,ac (.sl [.sl [qr p00,qr p01],.sl [qr p10,qr p11],.sl [qr p20,qr p21]])),(2,.w (.one (.ptr 0 0 0))),(3,ac (.nil 3)),(6,ac (.nil 3)),(17,ac (.sl [.sl [qr p10,qr p11],.sl [qr p20,qr p21]])),(18,ac (.int .i64 2)),(19,ac (.int .i64 0)),(23,ac (.sl [qr p10,qr p11])),(24,ac (.int .i64 2)),(25,ac (.int .i64 0))]) (m:=[(0,.mem 54 [.iv (.sl []),.iv (.bool false),.iv (.sl [])] false [(0,3)] 1)]) (nx:=4)
    ⟨.sm rfl rfl,.rn rfl rfl,.sm rfl rfl,.sm rfl rfl,.sm rfl rfl,.sm rfl rfl,.sm rfl rfl,.sm rfl rfl,.sm rfl rfl,.sm rfl rfl,ab⟩ ⟨.sm rfl rfl,ab⟩ rfl) ?_
   refine SWr.step ?_;repeat((first|refine SW.R ?_|refine SW.c ?_|refine vP (.w (.q 0 0)) (cq 0 s0 rfl e0) (fun _ hp=>absurd hp bt) ?_|refine ap (by omega) ?_|refine yT (by omega) ?_|refine bg rfl ?_|refine aM rfl ?_|refine lC rfl ?_|refine bz rfl rfl rfl ?_);conv=>whnf)
   refine SWr.to (To.tab (nP:=0) [(1,6)] (l:=[(0,ac (.sl [.sl [qr p00,qr p01],.sl [qr p10,qr p11],.sl [qr p20,qr p21]])),(2,.w (.one (.ptr 0 0 0))),(3,ac (.nil 3)),(6,.w (.one (.slc 1 0 0 1 (.fin 3)))),(17,ac (.sl [.sl [qr p10,qr p11],.sl [qr p20,qr p21]])),(18,ac (.int .i64 2)),(19,ac (.int .i64 0)),(23,ac (.sl [qr p10,qr p11])),(24,ac (.int .i64 2)),(25,ac (.int .i64 1))]) (m:=[(0,.mem 54 [.iv (.sl []),.iv (.bool false),.iv (.sl [])] false [(0,3)] 1),(1,.mem 54 [.qc 0 0 0,.qc 0 0 1,.qc 0 0 2] false [(0,3)] 1)]) (nx:=4)
    ⟨.sm rfl rfl,.rn rfl rfl,.sm rfl rfl,.rn rfl rfl,.sm rfl rfl,.sm rfl rfl,.sm rfl rfl,.sm rfl rfl,.sm rfl rfl,.sm rfl rfl,ab⟩ ⟨.sm rfl rfl,.sm rfl rfl,ab⟩ rfl) ?_
   refine SWr.step ?_;repeat((first|refine SW.R ?_|refine SW.c ?_|refine vP (.w (.q 1 0)) (cq 1 s1 rfl e1) (fun _ hp=>absurd hp bt) ?_|refine ap (by omega) ?_|refine yT (by omega) ?_|refine bg rfl ?_|refine aM rfl ?_|refine lC rfl ?_|refine bz rfl rfl rfl ?_);conv=>whnf)
   refine SWr.to (To.tab (nP:=0) [] (l:=[(0,ac (.sl [.sl [qr p00,qr p01],.sl [qr p10,qr p11],.sl [qr p20,qr p21]])),(2,.w (.one (.ptr 0 0 0))),(3,ac (.nil 3)),(6,.w (.one (.slc 1 1 0 2 (.fin 3)))),(17,ac (.sl [.sl [qr p10,qr p11],.sl [qr p20,qr p21]])),(18,ac (.int .i64 2)),(19,ac (.int .i64 0)),(23,ac (.sl [qr p10,qr p11])),(24,ac (.int .i64 2)),(25,ac (.int .i64 2))]) (m:=[(0,.mem 54 [.iv (.sl []),.iv (.bool false),.iv (.sl [])] false [(0,3)] 1),(1,.mem 54 [.qc 0 0 0,.qc 0 0 1,.qc 0 0 2,.qc 1 0 0,.qc 1 0 1,.qc 1 0 2] false [(1,6),(0,3)] 2)]) (nx:=4)
    ⟨.sm rfl rfl,.rn rfl rfl,.sm rfl rfl,.rn rfl rfl,.sm rfl rfl,.sm rfl rfl,.sm rfl rfl,.sm rfl rfl,.sm rfl rfl,.sm rfl rfl,ab⟩ ⟨.sm rfl rfl,.sm rfl rfl,ab⟩ rfl) ?_
   refine SWr.step ?_;repeat((first|refine SW.R ?_|refine SW.c ?_|refine ap (by omega) ?_|refine yF (by omega) ?_|refine lC rfl ?_);conv=>whnf)
   refine SWr.to (To.tab (nP:=0) [(3,5)] (l:=[(0,ac (.sl [.sl [qr p00,qr p01],.sl [qr p10,qr p11],.sl [qr p20,qr p21]])),(2,.w (.one (.ptr 0 0 0))),(3,.w (.one (.slc 3 0 0 1 (.fin 1)))),(17,ac (.sl [.sl [qr p10,qr p11],.sl [qr p20,qr p21]])),(18,ac (.int .i64 2)),(19,ac (.int .i64 1))]) (m:=[(0,.mem 54 [.iv (.sl []),.iv (.bool false),.iv (.sl [])] false [(0,3)] 1),(1,.mem 54 [.qc 0 0 0,.qc 0 0 1,.qc 0 0 2,.qc 1 0 0,.qc 1 0 1,.qc 1 0 2] false [(1,6),(0,3)] 2),(3,.mem 28 [.slc 1 1 0 2 (.fin 3)] false [(0,1)] 1)]) (nx:=4)
    ⟨.sm rfl rfl,.rn rfl rfl,.rn rfl rfl,.sm rfl rfl,.sm rfl rfl,.sm rfl rfl,ab⟩ ⟨.sm rfl rfl,.sm rfl rfl,.rn rfl rfl rfl,ab⟩ rfl) ?_
   refine SWr.step ?_;repeat((first|refine SW.R ?_|refine SW.c ?_|refine yT (by omega) ?_|refine bc rfl ?_|refine bz rfl rfl rfl ?_);conv=>whnf)
   refine BP 3 ?_;refine SWr.to (To.tab (nP:=0) [] (l:=[(0,ac (.sl [.sl [qr p00,qr p01],.sl [qr p10,qr p11],.sl [qr p20,qr p21]])),(2,.w (.one (.ptr 0 0 0))),(3,.w (.one (.slc 3 0 0 1 (.fin 1)))),(6,ac (.nil 3)),(17,ac (.sl [.sl [qr p10,qr p11],.sl [qr p20,qr p21]])),(18,ac (.int .i64 2)),(19,ac (.int .i64 1)),(23,ac (.sl [qr p20,qr p21])),(24,ac (.int .i64 2)),(25,ac (.int .i64 0))]) (m:=[(0,.mem 54 [.iv (.sl []),.iv (.bool false),.iv (.sl [])] false [(0,3)] 1),(1,.mem 54 [.qc 0 0 0,.qc 0 0 1,.qc 0 0 2,.qc 1 0 0,.qc 1 0 1,.qc 1 0 2] false [(1,6),(0,3)] 2),(3,.mem 28 [.slc 1 1 0 2 (.fin 3)] false [(0,1)] 1)]) (nx:=4)
    ⟨.sm rfl rfl,.rn rfl rfl,.rn rfl rfl,.sm rfl rfl,.sm rfl rfl,.sm rfl rfl,.sm rfl rfl,.sm rfl rfl,.sm rfl rfl,.sm rfl rfl,ab⟩ ⟨.sm rfl rfl,.sm rfl rfl,.rn rfl rfl rfl,ab⟩ rfl) ?_
   refine SWr.step ?_;repeat((first|refine SW.R ?_|refine SW.c ?_|refine vP (.w (.q 2 0)) (cq 2 s2 rfl e2) (fun _ hp=>absurd hp bt) ?_|refine ap (by omega) ?_|refine yT (by omega) ?_|refine bg rfl ?_|refine aM rfl ?_|refine lC rfl ?_|refine bz rfl rfl rfl ?_);conv=>whnf)
   refine SWr.to (To.tab (nP:=0) [(2,6)] (l:=[(0,ac (.sl [.sl [qr p00,qr p01],.sl [qr p10,qr p11],.sl [qr p20,qr p21]])),(2,.w (.one (.ptr 0 0 0))),(3,.w (.one (.slc 3 0 0 1 (.fin 1)))),(6,.w (.one (.slc 2 0 0 1 (.fin 3)))),(17,ac (.sl [.sl [qr p10,qr p11],.sl [qr p20,qr p21]])),(18,ac (.int .i64 2)),(19,ac (.int .i64 1)),(23,ac (.sl [qr p20,qr p21])),(24,ac (.int .i64 2)),(25,ac (.int .i64 1))]) (m:=[(0,.mem 54 [.iv (.sl []),.iv (.bool false),.iv (.sl [])] false [(0,3)] 1),(1,.mem 54 [.qc 0 0 0,.qc 0 0 1,.qc 0 0 2,.qc 1 0 0,.qc 1 0 1,.qc 1 0 2] false [(1,6),(0,3)] 2),(2,.mem 54 [.qc 2 0 0,.qc 2 0 1,.qc 2 0 2] false [(0,3)] 1),(3,.mem 28 [.slc 1 1 0 2 (.fin 3)] false [(0,1)] 1)]) (nx:=4)
    ⟨.sm rfl rfl,.rn rfl rfl,.rn rfl rfl,.rn rfl rfl,.sm rfl rfl,.sm rfl rfl,.sm rfl rfl,.sm rfl rfl,.sm rfl rfl,.sm rfl rfl,ab⟩ ⟨.sm rfl rfl,.sm rfl rfl,.sm rfl rfl,.rn rfl rfl rfl,ab⟩ rfl) ?_
   refine SWr.step ?_;repeat((first|refine SW.R ?_|refine SW.c ?_|refine vP (.w (.q 3 0)) (cq 3 s3 rfl e3) (fun _ hp=>absurd hp bt) ?_|refine ap (by omega) ?_|refine yT (by omega) ?_|refine bg rfl ?_|refine aM rfl ?_|refine lC rfl ?_|refine bz rfl rfl rfl ?_);conv=>whnf)
   refine SWr.to (To.tab (nP:=0) [] (l:=[(0,ac (.sl [.sl [qr p00,qr p01],.sl [qr p10,qr p11],.sl [qr p20,qr p21]])),(2,.w (.one (.ptr 0 0 0))),(3,.w (.one (.slc 3 0 0 1 (.fin 1)))),(6,.w (.one (.slc 2 1 0 2 (.fin 3)))),(17,ac (.sl [.sl [qr p10,qr p11],.sl [qr p20,qr p21]])),(18,ac (.int .i64 2)),(19,ac (.int .i64 1)),(23,ac (.sl [qr p20,qr p21])),(24,ac (.int .i64 2)),(25,ac (.int .i64 2))]) (m:=[(0,.mem 54 [.iv (.sl []),.iv (.bool false),.iv (.sl [])] false [(0,3)] 1),(1,.mem 54 [.qc 0 0 0,.qc 0 0 1,.qc 0 0 2,.qc 1 0 0,.qc 1 0 1,.qc 1 0 2] false [(1,6),(0,3)] 2),(2,.mem 54 [.qc 2 0 0,.qc 2 0 1,.qc 2 0 2,.qc 3 0 0,.qc 3 0 1,.qc 3 0 2] false [(1,6),(0,3)] 2),(3,.mem 28 [.slc 1 1 0 2 (.fin 3)] false [(0,1)] 1)]) (nx:=4)
    ⟨.sm rfl rfl,.rn rfl rfl,.rn rfl rfl,.rn rfl rfl,.sm rfl rfl,.sm rfl rfl,.sm rfl rfl,.sm rfl rfl,.sm rfl rfl,.sm rfl rfl,ab⟩ ⟨.sm rfl rfl,.sm rfl rfl,.sm rfl rfl,.rn rfl rfl rfl,ab⟩ rfl) ?_
   refine SWr.step ?_;repeat((first|refine SW.R ?_|refine SW.c ?_|refine ap (by omega) ?_|refine yF (by omega) ?_|refine lC rfl ?_);conv=>whnf)
   refine SWr.to (To.tab (nP:=0) [] (l:=[(0,ac (.sl [.sl [qr p00,qr p01],.sl [qr p10,qr p11],.sl [qr p20,qr p21]])),(2,.w (.one (.ptr 0 0 0))),(3,.w (.one (.slc 3 1 0 2 (.fin 1)))),(17,ac (.sl [.sl [qr p10,qr p11],.sl [qr p20,qr p21]])),(18,ac (.int .i64 2)),(19,ac (.int .i64 2))]) (m:=[(0,.mem 54 [.iv (.sl []),.iv (.bool false),.iv (.sl [])] false [(0,3)] 1),(1,.mem 54 [.qc 0 0 0,.qc 0 0 1,.qc 0 0 2,.qc 1 0 0,.qc 1 0 1,.qc 1 0 2] false [(1,6),(0,3)] 2),(2,.mem 54 [.qc 2 0 0,.qc 2 0 1,.qc 2 0 2,.qc 3 0 0,.qc 3 0 1,.qc 3 0 2] false [(1,6),(0,3)] 2),(3,.mem 28 [.slc 1 1 0 2 (.fin 3),.slc 2 1 0 2 (.fin 3)] false [(1,2),(0,1)] 2)]) (nx:=4)
    ⟨.sm rfl rfl,.rn rfl rfl,.rn rfl rfl,.sm rfl rfl,.sm rfl rfl,.sm rfl rfl,ab⟩ ⟨.sm rfl rfl,.sm rfl rfl,.sm rfl rfl,.rn rfl rfl rfl,ab⟩ rfl) ?_
   refine SWr.step ?_;repeat((first|refine SW.R ?_|refine SW.c ?_|refine yF (by omega) ?_);conv=>whnf)
   exact⟨(),To.tab (nP:=0) [] ⟨.rn rfl rfl,.rn rfl rfl,ab⟩ ⟨.sm rfl rfl,.sm rfl rfl,.sm rfl rfl,.rn rfl rfl rfl,ab⟩ rfl⟩
 . exact UP hT hN rfl hr
end Go.Proofs.En
