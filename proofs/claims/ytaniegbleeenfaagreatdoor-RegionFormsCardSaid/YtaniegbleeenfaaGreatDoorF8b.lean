/-
  A part of the proof of regionForms_card.
-/
import Derived.Test.YtaniegbleeenfaaGreatDoorF8a
set_option maxHeartbeats 40000000
namespace Go.Proofs.En
open Go.RowKit Go.Proofs.Fl Go.Proofs.Dig
def yW:List EV->Option (List (Int×Nat))
 | []=>some []
 | .qc n d 0 :: .qc n1 d1 1 :: .qc n2 d2 2::l=>bif decide (n=n1)&&(decide (n=n2)&&(Nat.beq d d1&&Nat.beq d d2)) then(match yW l with
  |some r=>some ((n,d)::r)
  |none=>none) else none
 |_=>none
def yB(h:Hp):EV->Option (List (Int×Nat)×Nat)
 | .slc g u 0 n _=>match h g with
  |some (.mem e cs _ vs _)=>match dV u vs with
   |some p=>bif Nat.beq e 48&&Nat.ble (n*3) p then(match yW (cs.take (n*3)) with
    |some l=>bif Nat.beq l.length n then some (l,g) else none
    |none=>none) else none
   |none=>none
  |_=>none
 |_=>none
def y4:List EV->Option (List Int)
 | []=>some []
 | .iv (.int .i64 n)::l=>match y4 l with
  |some r=>some (n::r)
  |none=>none
 |_=>none
def Dm(h:Hp):EV->Option (List Int×Nat)
 | .slc g u 0 n _=>match h g with
  |some (.mem e cs _ vs _)=>match dV u vs with
   |some p=>bif Nat.beq e 3&&Nat.ble n p then(match y4 (cs.take n) with
    |some l=>bif Nat.beq l.length n then some (l,g) else none
    |none=>none) else none
   |none=>none
  |_=>none
 |_=>none
section
variable {Z:QS}{h:Hp}{S:Nat->Bool}
theorem UI(hz:∀n d,∃a b c,Z.qv n d=.agg [a,b,c]){T:TypeId->Option TY}{f:Nat}:∀{cs:List EV} {l:List (Int×Nat)},yW cs=some l->∃xs,du (cj T Z S h f) cs=some xs/\fA true 3 l.length xs=l.map (fun c=>Z.qv c.1 c.2):=by
 intro cs
 fun_induction yW cs with
 |case1=>
  intro l h;simp only[ae] at h;subst h;exact⟨[],rfl,rfl⟩
 |case2 n d n1 d1 n2 d2 l hb r hr ih=>
  intro l' hc;simp only[ae] at hc;subst hc;simp only[aC,d9] at hb;obtain⟨rfl,rfl,h1,h2⟩:=hb;have h1:=aw h1;have h2:=aw h2;subst h1;subst h2;obtain⟨xs,i1,i2⟩:=ih hr;obtain⟨a,b,c,e⟩:=hz n d;refine⟨a::b::c::xs,?_,?_⟩
  . have ha:cj T Z S h f (.qc n d 0)=some a:=by unfold cj;rw[e];rfl
    have hb:cj T Z S h f (.qc n d 1)=some b:=by unfold cj;rw[e];rfl
    have hc:cj T Z S h f (.qc n d 2)=some c:=by unfold cj;rw[e];rfl
    simp only[du,ha,hb,hc,i1]
  . rw[bf,fA];show DT true 3 (a::b::c::xs)::fA true 3 r.length xs=_;rw[i2,aS,e];rfl
 |_=>intro l h;cases h
theorem UY{T:TypeId->Option TY}{f:Nat}:∀{cs:List EV} {l:List Int},y4 cs=some l->du (cj T Z S h f) cs=some (l.map fun n=>.int .i64 n):=by
 intro cs
 fun_induction y4 cs with
 |case1=>
  intro l h;simp only[ae] at h;subst h;rfl
 |case2 n l r hr ih=>
  intro l' hc;simp only[ae] at hc;subst hc;have ha:cj T Z S h f (.iv (.int .i64 n))=some (.int .i64 n):=by unfold cj;rfl
  simp only[du,ha,ih hr,aS]
 |_=>intro l h;cases h
theorem HD:∀(l:List IV),fA false 1 l.length l=l
 | []=>rfl
 |x::l=>by
  rw[bf,fA];show DT false 1 (x::l)::fA false 1 l.length l=_;rw[HD l];rfl
theorem RK(hz:∀n d,∃a b c,Z.qv n d=.agg [a,b,c]){T:TypeId->Option TY}{te:TY}(ht:T 48=some te)(ht2:te.sh.agg=true)(ht3:te.size=3){f g:Nat}{x:EV}{l:List (Int×Nat)}(hr:yB h x=some (l,g))(hs:S g=true) :
 cj T Z S h (f+1) x=some (.sl (l.map fun c=>Z.qv c.1 c.2)):=by
 unfold yB at hr;split at hr
 . rename_i g' u n cap;split at hr
   . rename_i e cs fz vs cnt hg;split at hr
     . rename_i p hp;cases hb:(Nat.beq e 48&&Nat.ble (n*3) p) with
       |false=>rw[hb] at hr;cases hr
       |true=>
        rw[hb,ai] at hr;simp only[aC] at hb;have he:=aw hb.1;subst he;split at hr
        . rename_i l' hl;cases hn:Nat.beq l'.length n with
          |false=>rw[hn] at hr;cases hr
          |true=>
           rw[hn,ai] at hr;simp only[ae,aA] at hr;obtain⟨rfl,rfl⟩:=hr;have hn:=aw hn;obtain⟨xs,h1,h2⟩:=UI (Z:=Z) (h:=h) (S:=S) hz (T:=T) (f:=f) hl;unfold cj;simp only[hs,hg,ht,hp,ht3,ht2,aX,hb.2,ai,bJ,h1];rw[<-hn,h2];have hall:dT 3 (l'.map fun c=>Z.qv c.1 c.2)=true:=by
            unfold dT;rw[M4,kq];intro c _;obtain⟨a,b,d,e⟩:=hz c.1 c.2;simp only[Function.comp,e];rfl
           rw[hall];rfl
        . cases hr
     . cases hr
   . cases hr
 . cases hr
theorem RL{T:TypeId->Option TY}{te:TY}(ht:T 3=some te)(ht2:te.sh.agg=false)(ht3:te.size=1){f g:Nat}{x:EV}{l:List Int}(hr:Dm h x=some (l,g))(hs:S g=true) :
 cj T Z S h (f+1) x=some (.sl (l.map fun n=>.int .i64 n)):=by
 unfold Dm at hr;split at hr
 . rename_i g' u n cap;split at hr
   . rename_i e cs fz vs cnt hg;split at hr
     . rename_i p hp;cases hb:(Nat.beq e 3&&Nat.ble n p) with
       |false=>rw[hb] at hr;cases hr
       |true=>
        rw[hb,ai] at hr;simp only[aC] at hb;have he:=aw hb.1;subst he;split at hr
        . rename_i l' hl;cases hn:Nat.beq l'.length n with
          |false=>rw[hn] at hr;cases hr
          |true=>
           rw[hn,ai] at hr;simp only[ae,aA] at hr;obtain⟨rfl,rfl⟩:=hr;have hn:=aw hn;have h1:=UY (Z:=Z) (h:=h) (S:=S) (T:=T) (f:=f) hl;unfold cj;simp only[hs,hg,ht,hp,ht3,ht2,aX,jc,hb.2,ai,bJ,h1];have e1:fA false 1 n (l'.map fun n=>IV.int .i64 n)=l'.map fun n=>IV.int .i64 n:=by
            have:=HD (l'.map fun n=>IV.int .i64 n);rwa[cT,hn] at this
           rw[e1];have hall:dT 1 (l'.map fun n=>IV.int .i64 n)=true:=by
            unfold dT;rw[M4,kq];intro c _;rfl
           have hag:((l'.map fun n=>IV.int .i64 n).all fun x=>!x.isAgg)=true:=by
            rw[M4,kq];intro c _;rfl
           rw[hall,hag];rfl
        . cases hr
     . cases hr
   . cases hr
 . cases hr
theorem Iz(hz:∀n d,∃a b c,Z.qv n d=.agg [a,b,c]){T:TypeId->Option TY}{te:TY}(ht:T 48=some te)(ht2:te.sh.agg=true)(ht3:te.size=3){f:Nat}:∀{cs:List EV} {ls:List (List (Int×Nat)×Nat)},du (yB h) cs=some ls->(∀p∈ls,S p.2=true)->
 du (cj T Z S h (f+1)) cs=some (ls.map fun p=>.sl (p.1.map fun c=>Z.qv c.1 c.2))/\cs.length=ls.length
 | [],ls,hr,_=>by
  simp only[du,ae] at hr;subst hr;exact⟨rfl,rfl⟩
 |c::cs,ls,hr,hs=>by
  unfold du at hr;split at hr
  . rename_i b hb;split at hr
    . rename_i bs hbs;simp only[ae] at hr;subst hr;obtain⟨i1,i2⟩:=Iz (f:=f) hz ht ht2 ht3 hbs fun p hp=>hs p (by simp[hp]);have:=RK (Z:=Z) (S:=S) hz ht ht2 ht3 (f:=f) (g:=b.2) (l:=b.1) hb (hs b (by simp));refine⟨?_,by simp[i2]⟩;simp only[du,this,i1,aS]
    . cases hr
  . cases hr
end
end Go.Proofs.En
namespace Go.Proofs.Fl
open Go.RowKit Go.Proofs.Dig
attribute [local irreducible] IntKind.wrap aY be bm bt
def a8:Nat->Nat
 |0=>1
 |n+1=>a8 n*(n+1)
theorem xm:∀n,0<a8 n
 |0=>Nat.one_pos
 |n+1=>ld (xm n) (Nat.succ_pos n)
theorem xf{m:Nat}(hm:m<2^32):∀n≤m,az ((a8 n:Nat):Rat)<=2+4*n
 |0,_=>by
  have:=yi 1;rw[show Int.natAbs 1=1 by rfl,pM] at this;exact this
 |n+1,h=>by
  have h1:=xf hm n (by omega);have h2:=yi ((n:Int)+1);have h3:=xP (n:=((n:Int)+1).natAbs) (by omega);have h4:=xd ((a8 n:Nat):Rat) (((n:Int)+1:Int):Rat);have e:((a8 (n+1):Nat):Rat)=((a8 n:Nat):Rat)*(((n:Int)+1:Int):Rat):=by
   rw[a8,Rat.natCast_mul];rfl
  rw[e];omega
theorem IF(J:Keep){n:Nat}(hn:n<2^32):C J 159 [.int .i64 n] (qr ((a8 n:Nat):Rat)):=by
 refine aI Tryz.func159 rfl rfl rfl ?_;have c0:C J 154 [.int .i64 1] (qr ((1:Int):Rat)):=xc J (n:=1) (by omega) (by omega);rw[show((1:Int):Rat)=((a8 0:Nat):Rat) by rfl] at c0;repeat (((first|refine W.R (by kernel_rfl) ?_|refine W.c rfl ?_|refine⟨_,c0,?_⟩);conv=>whnf))
 refine W.loop (G:={ t:Nat // t<=n }) (fun t=>am [(0,.iv (.int .i64 (n:Int))),(2,.ptr 0 0),(3,.ptr 2 0),(6,.iv (.int .i64 (n:Int))),(7,.iv (.int .i64 (t.1:Int)))] [(0,.var (.agg [.sl [],.bool false,.sl []])),(2,.var (qr ((a8 t.1:Nat):Rat)))] 20) (fun t=>n-t.1) ⟨0,bb _⟩
  (Wk.tab [] ⟨aa,aa,aa,aa,aa,ab⟩ ⟨rfl,rfl,ab⟩ rfl) ?_
 rintro⟨t,ht⟩;show W J _ _ (am [(0,.iv (.int .i64 (n:Int))),(2,.ptr 0 0),(3,.ptr 2 0),(6,.iv (.int .i64 (n:Int))),(7,.iv (.int .i64 (t:Int)))] [(0,.var (.agg [.sl [],.bool false,.sl []])),(2,.var (qr ((a8 t:Nat):Rat)))] 20) _;by_cases h:t<n
 . have c1:=xc J (n:=(t:Int)+1) (by omega) (by omega);have h1:=xf hn t (by omega);have h2:=yi ((t:Int)+1);have h3:=xP (n:=((t:Int)+1).natAbs) (by omega);have c2:=mT (base J) (a:=((a8 t:Nat):Rat)) (b:=(((t:Int)+1:Int):Rat)) (by omega) (by omega);have e:((a8 (t+1):Nat):Rat)=((a8 t:Nat):Rat)*(((t:Int)+1:Int):Rat):=by
    rw[a8,Rat.natCast_mul];rfl
   rw[<-e] at c2;repeat (((first|refine W.R (by kernel_rfl) ?_|refine W.c rfl ?_|refine⟨_,c1,?_⟩|refine⟨_,c2,?_⟩|refine ap (by omega) ?_|refine xT (by omega) ?_|refine xr ?_);conv=>whnf))
   exact⟨⟨t+1,by omega⟩,Wk.tab [] ⟨aa,aa,aa,aa,aa,ab⟩ ⟨rfl,rfl,ab⟩ rfl,by dsimp only;omega⟩
 . have e:t=n:=by omega
   subst e;repeat (((first|refine W.R (by kernel_rfl) ?_|refine W.c rfl ?_|refine xF (by omega) ?_|refine xr ?_);conv=>whnf))
   rfl
end Go.Proofs.Fl
namespace Go.Proofs.En
open Go.RowKit Go.Proofs.Fl Go.Proofs.Dig
def uE:List Int->List Int->Bool
 | [],[]=>true
 |a::l,b::m=>decide (a=b)&&uE l m
 |_,_=>false
def uk:List (List (Int×Nat))->List (List (Int×Nat))->Bool
 | [],[]=>true
 |a::l,b::m=>sc a b&&uk l m
 |_,_=>false
def XM:Option EO->Option EO
 |some (.mem ..)=>some .hid
 |o=>o
def ou:List Nat->PT EO->PT EO
 | [],h=>h
 |g::l,h=>match h.get g with
  |some (.mem ..)=>ou l (h.set g .hid)
  |_=>ou l h
def Dj:List (List (Int×Nat)):=[[(0,1),(0,1)],[(1,1),(0,1)],[(0,1),(1,1)]]
def Cp(args:List ES)(s:Hs):Option (ES×Hs):=match args with
 | [.w (.one (.slc g u 0 3 cap)),.w (.one y)]=>match s.h.get g,Dm s.h.get y with
  |some (.mem e cs _ vs _),some (pw,p)=>match dV u vs,du (yB s.h.get) (cs.take 3) with
   |some q,some ls=>bif Nat.beq e 33&&(Nat.ble 3 q&&(uk (ls.map Prod.fst) Dj&&uE pw [2,0])) then
    some (.w (.q 1 12),⟨ou (g::p::ls.map Prod.snd) s.h,s.nx,(g::p::ls.map Prod.snd)++s.wl⟩) else none
   |_,_=>none
  |_,_=>none
 |_=>none
def Do(f:FuncId)(args:List ES)(s:Hs):Option (ES×Hs):=bif Nat.beq f 96 then Cp args s else Dp f args s
noncomputable def qJ:EE:=⟨ZZ,BE,y5,Do⟩
end Go.Proofs.En
namespace Go.Proofs.En
open Go.RowKit Go.Proofs.Fl Go.Proofs.Dig
attribute [local irreducible] IntKind.wrap aY be bm bt SW SWr CallOk To
theorem pD(J:Keep)(l:List Rat){f:FuncId}{fn:Func}{c:Code}(hf:Tryz.prog.funcs[f]?=some fn)(hb:fn.body=some c)(hn:(fn.name == "runtime.NumGoroutine")=false){xs:List IV}{r:IV}(hx:Nat.ble xs.length fn.ntmps=true)(hxt:jn xs=true)(fu:Nat)
 (hw:SW (XL J l) 0 false fn.ntmps c ⟨argS (xs.map dS),fun _=>none,0⟩ (iJ (XL J l) fn.results.toList fun h rf=>iO TT (ZL l) (fun _=>true) h fu rf=some r)):C J f xs r :=
 C8 (X:=XL J l) J.bel hf hb hn hx hxt fu hw
theorem cq{J:Keep}{l:List Rat}{f:FuncId}{xs:List IV}{q:Rat}{h:Hp}(i:Nat)(hc:C J f xs (qr q))(ht:jn xs=true)(hq:l.getD i 0=q):CallOk (XL J l) f (xs.map dS) h (.w (.q i 0)) (a7 h []) :=
 wY (X:=XL J l) hc (fun H U vs hv=>SREL.data ht hv) fun H U v hv=>by
  show VR H v (qr (val l ((i:Int),0)));rw[show val l ((i:Int),0)=q from hq];exact hv
theorem vc{A E:Prop}{C:ES->Wr->Nat->Prop}{D:Wr->Nat->Prop}{K:ES->Wr->Nat->Prop}(r:ES)(h1:C r [] 0)(h2:D [] 0)(k:K r [] 0):A\/(∃r ws b,C r ws b/\D ws b/\K r ws b)\/E:=.inr (.inl ⟨r,[],0,h1,h2,k⟩)
theorem PT.fin{α:Type}:∀t:PT α,∃n,∀g,n<=g->t.get g=none
 | .nil=>⟨0,fun _ _=>rfl⟩
 | .node l v r=>by
  obtain⟨a,ha⟩:=PT.fin l;obtain⟨b,hb⟩:=PT.fin r;refine⟨2*a+2*b+3,fun g hg=>?_⟩;unfold PT.get;rw[eO (show g≠0 by omega),aW];cases Nat.beq (g%2) 1 with
  |true=>exact ha _ (by omega)
  |false=>exact hb _ (by omega)
theorem IA(x:EV):ik id x=x:=by cases x<;>simp[ik]
theorem Hj(l:List EV):l.map (ik id)=l:=by
 rw[show ik id=id from funext IA,MI]
theorem RM(x:EW):fW id x=x:=by
 cases x with
 |one c=>simp[fW,IA]
 |agg cs=>simp[fW,Hj]
 |q n d=>rfl
theorem Uj(o:EO):dN id o=o:=by
 cases o with
 |mem e cs fz vs cnt=>simp[dN,Hj]
 |map es ck=>simp[dN,RM]
 |iter=>rfl
 |loop=>rfl
 |hid=>rfl
theorem Ren.same(h:Hp):Ren h h some id:=by
 refine⟨fun g g' x h1 h2=>by cases h1;cases h2;rfl,fun g g0 hg=>?_,fun g hg=>(by cases hg),fun g g0 o _ _=>?_⟩
 . cases hg;cases h g with
   |none=>rfl
   |some o=>simp[Uj]
 . cases o with
   |mem e cs fz vs cnt=>exact fun _ _ _ _ _=>rfl
   |map es ck=>exact fun _ _=>⟨fun _ _=>rfl,fun _ _=>rfl⟩
   |iter=>exact rfl
   |loop=>exact fun _ _ _=>⟨rfl,rfl⟩
   |hid=>trivial
theorem RetR.same{nP:Nat}{h:Hp}{r:ES}(hr:fb r=[]):RetR nP h r h r:=by
 refine⟨some,id,Ren.same h,fun _ _=>rfl,?_⟩;have:=ResR.rn (Y:=some) (V:=id) (r:=r) (fun i hi=>by rw[hr] at hi;cases hi);rwa[Ac hr] at this
theorem VZ{J:Keep}{l:List Rat}{a:Int}{b:Nat}:mkV (XL J l).Z Di.sh.agg [EV.qc a b 0,EV.qc a b 1,EV.qc a b 2]=some (EW.q a b):=by
 show some (pZ (ZL l) _)=_;unfold pZ;show some (bif mn a b 0 [EV.qc a b 0,EV.qc a b 1,EV.qc a b 2] 3 then _ else _)=_;simp[mn]
theorem V9{J:Keep}{l:List Rat}{a:Int}{b:Nat}{h:Hp}:CallOk (XL J l) 16 [.w (.q a b)] h (ac (.int .i64 (aL (val l (a,b)).num 0))) (a7 h []) :=
 wY (X:=XL J l) (xs:=[qr (val l (a,b))]) (n8 J _) (fun H U vs hv=>AU (args:=[.w (.q a b)]) (cs:=[(a,b)]) rfl hv) fun H U v hv=>by
  have:=VR.asInt hv;subst this;exact⟨rfl,hv⟩
theorem Td{J:Keep}{l:List Rat}{g u n c k:Nat}{cap:Cap}{a:Int}{b:Nat}{t:PT EO}{x:Bool}(hrow:gf (t.get g) u (0+k*3) 3=some [EV.qc a b 0,EV.qc a b 1,EV.qc a b 2])(hk:gf (t.get c) 0 0 1=some [EV.iv (.int .i64 (k:Nat))])(hkn:k<n)(hx:decide (val l (a,b)≠0)=x) :
 CallOk (XL J l) 204 [.w (.one (.slc g u 0 n cap)),.w (.one (.ptr c 0 0))] t.get (ac (.bool x)) t.get:=by
 obtain⟨m,hfr'⟩:=PT.fin t;have hfr:∀g,m+1<=g->t.get g=none:=fun g hg=>hfr' g (by omega);have hb:(aL (val l (a,b)).num 0 != 0)=x:=by
  rw[<-hx];by_cases h:val l (a,b)=0
  . rw[h];rfl
  . rw[bu h,bne_iff_ne];exact fun e=>h (Rat.num_eq_zero.1 (rA e))
 refine W1 (X:=XL J l) (nP:=m+1) Tryz.func204 rfl rfl rfl hfr ?_;repeat (((first|refine SW.RS (by kernel_rfl) ?_|refine bi hk ?_|refine iN rfl hkn rfl ?_);conv=>whnf))
 refine bi hrow ?_;rw[VZ];conv=>whnf
 repeat (((first|refine SW.ret ?_|refine vc (ac (.int .i64 (aL (val l (a,b)).num 0))) V9 (fun _ hp=>absurd hp bv) ?_|refine And.intro rfl (jB hb ?_));conv=>whnf))
 exact RetR.same rfl
def yZ(c:Int×Nat):List ((Int×Nat)×Bool)->Option Bool
 | []=>none
 |p::l=>bif Nat.beq p.1.2 c.2&&decide (p.1.1=c.1) then some p.2 else yZ c l
def KI(h:PT EO)(N:List ((Int×Nat)×Bool)):List ES->Option Bool
 | [.w (.one (.slc g u 0 n _)),.w (.one (.ptr c 0 0))]=>match gf (h.get c) 0 0 1 with
  |some [.iv (.int .i64 (.ofNat k))]=>bif Nat.blt k n then(match gf (h.get g) u (0+k*3) 3 with
   |some [.qc a b 0,.qc a1 b1 1,.qc a2 b2 2]=>bif decide (a=a1)&&(decide (a=a2)&&(Nat.beq b b1&&Nat.beq b b2)) then yZ (a,b) N else none
   |_=>none) else none
  |_=>none
 |_=>none
def Dr(T:List Fc)(N:List ((Int×Nat)×Bool))(f:FuncId)(args:List ES)(s:Hs):Option (ES×Hs):=bif Nat.beq f 204 then(match KI s.h N args with
 |some b=>some (ac (.bool b),s)
 |none=>none) else Ds T f args s
def nk(l:List Rat)(p:(Int×Nat)×Bool):Prop:=decide (val l p.1≠0)=p.2
theorem J7{l:List Rat}{c:Int×Nat}{b:Bool}:∀{N:List ((Int×Nat)×Bool)},(∀p∈N,nk l p)->yZ c N=some b->decide (val l c≠0)=b
 | [],_,h=>by cases h
 |p::N,hN,h=>by
  unfold yZ at h;cases hb:(Nat.beq p.1.2 c.2&&decide (p.1.1=c.1)) with
  |true=>
   rw[hb,ai] at h;simp only[ae] at h;subst h;simp only[aC,d9] at hb;have:=hN p (by simp);unfold nk at this;rwa[show p.1=c from EB hb.2 (aw hb.1)] at this
  |false=>
   rw[hb,aW] at h;exact J7 (fun q hq=>hN q (by simp[hq])) h
theorem IP{J:Keep}{l:List Rat}{T:List Fc}{N:List ((Int×Nat)×Bool)}(hT:∀c∈T,mf J l c)(hN:∀p∈N,nk l p):iH (XL J l) (Dr T N):=by
 intro f args s r s' he;unfold Dr at he;cases hf:Nat.beq f 204 with
 |false=>
  rw[hf,aW] at he;exact So hT f args s r s' he
 |true=>
  rw[hf,ai] at he;have hf:=aw hf;subst hf;split at he
  . rename_i b hb;simp only[ae,aA] at he;obtain⟨rfl,rfl⟩:=he;refine⟨LogOk.refl _,?_⟩;unfold KI at hb;split at hb
    . rename_i g u n cap c;split at hb
      . rename_i k hk;cases hkn:Nat.blt k n with
        |false=>rw[hkn] at hb;cases hb
        |true=>
         rw[hkn,ai] at hb;split at hb
         . rename_i a b' a1 b1 a2 b2 hrow;cases hc:(decide (a=a1)&&(decide (a=a2)&&(Nat.beq b' b1&&Nat.beq b' b2))) with
           |false=>rw[hc] at hb;cases hb
           |true=>
            rw[hc,ai] at hb;simp only[aC,d9] at hc;obtain⟨rfl,rfl,h1,h2⟩:=hc;have h1:=aw h1;have h2:=aw h2;subst h1;subst h2;exact Td hrow hk (by rwa[cR] at hkn) (J7 hN hb)
         . cases hb
      . cases hb
    . cases hb
  . cases he
def DH:Code->Code
 | .seq _ y=>y
 |c=>c
noncomputable def KH:Code:=match Tryz.f157.body with
 |some c=>DH (DH (DH c))
 |none=>.skip
noncomputable def yA(l:List Rat)(T:List Fc)(N:List ((Int×Nat)×Bool))(tab:List (Nat×ES))(m:List (Nat×EO))(nx:Nat):Option (Option (Int×Nat)):=match y6 ⟨ZL l,BS,y5,Dr T N⟩ 100000 false 139 KH ⟨oH 139 tab,⟨ns m,nx,[]⟩⟩ with
 |some (.ret,s')=>bif oE (s'.s.nx+nx) s'.s.wl then(match gC TT (ZL l) s'.tm.sl s'.s.h.get Tryz.f157.results.toList with
  |some [.q a b]=>some (some (a,b))
  |some [.agg [.iv (.sl []),.iv (.bool false),.iv (.sl [])]]=>some none
  |_=>none) else none
 |_=>none
def VolIs(l:List Rat)(T:List Fc)(N:List ((Int×Nat)×Bool))(tab:List (Nat×ES))(m:List (Nat×EO))(nx:Nat)(v:Rat):Prop:=match yA l T N tab m nx with
 |some (some c)=>val l c=v
 |some none=>v=0
 |none=>False
theorem Ub{J:Keep}{l:List Rat}{T:List Fc}{N:List ((Int×Nat)×Bool)}(hT:∀c∈T,mf J l c)(hN:∀p∈N,nk l p){v:Rat}{tab:List (Nat×ES)}{m:List (Nat×EO)}{nx:Nat}(hfr:mR nx m=true)(hr:VolIs l T N tab m nx v) :
 SW (XL J l) 0 false 139 KH (ba tab m nx) (iJ (XL J l) Tryz.f157.results.toList fun h rf=>iO TT (ZL l) (fun _=>true) h 0 rf=some (qr v)):=by
 unfold VolIs yA at hr;split at hr
 . rename_i c hc;split at hc
   . rename_i s' he;cases hw:oE (s'.s.nx+nx) s'.s.wl with
     |false=>rw[hw] at hc;cases hc
     |true=>
      rw[hw,ai] at hc;refine AY (mS rfl) (IP hT hN) 100000 he hw hfr ?_;show match gC TT (ZL l) s'.tm.sl s'.s.h.get Tryz.f157.results.toList with
       |some xs=>iO TT (ZL l) (fun _=>true) s'.s.h.get 0 (ju xs)=some (qr v)
       |none=>False
      split at hc
      . rename_i a b hres;rw[hres];simp only[ae] at hc;subst hc;show some ((ZL l).qv a b)=_;rw[<-hr];rfl
      . cases hc
      . cases hc
   . cases hc
 . rename_i hc;split at hc
   . rename_i s' he;cases hw:oE (s'.s.nx+nx) s'.s.wl with
     |false=>rw[hw] at hc;cases hc
     |true=>
      rw[hw,ai] at hc;refine AY (mS rfl) (IP hT hN) 100000 he hw hfr ?_;show match gC TT (ZL l) s'.tm.sl s'.s.h.get Tryz.f157.results.toList with
       |some xs=>iO TT (ZL l) (fun _=>true) s'.s.h.get 0 (ju xs)=some (qr v)
       |none=>False
      split at hc
      . cases hc
      . rename_i hres;rw[hres,hr,rq];rfl
      . cases hc
   . cases hc
 . exact hr.elim
end Go.Proofs.En
namespace Go.Proofs.Reg
def d1(a:Rat):Rat:=a
def d2(a b c d:Rat):Rat:=a*d-b*c
theorem TQ{c p f:Rat}(hp:p≠0)(hf:f=c/p):c=f*p:=by rw[hf,Rat.div_mul_cancel hp]
theorem W4{D o p q:Rat}(S:D=o*d1 p)(hq:q=o*p):D=q:=by rw[S,hq];rfl
theorem W3{D o p q a1 b0 b1 f y11:Rat}(S:D=o*d2 p a1 b0 b1)(hp:p≠0)(hq:q=o*p)(h1:f=b0/p)(k11:y11=b1-f*a1):D=q*d1 y11:=by
 have e1:=TQ hp h1;subst k11 hq;rw[S,e1];simp only[d2,d1];grind
theorem Wf{D o:Rat}(S:D=o*d1 0):D=0:=by rw[S];simp only[d1];grind
end Go.Proofs.Reg
namespace Go.Proofs.En
open Go.RowKit Go.Proofs.Fl Go.Proofs.Dig
attribute [local irreducible] IntKind.wrap aY be bm bt SW SWr CallOk To
def AllF(J:Keep)(l:List Rat):List Fc->Prop
 | []=>True
 |c::T=>mf J l c/\AllF J l T
theorem AllF.ok{J:Keep}{l:List Rat}:∀{T:List Fc},AllF J l T->∀c∈T,mf J l c
 |c::T,⟨h1,h2⟩,d,hd=>by
  rcases List.mem_cons.1 hd with rfl|hd
  . exact h1
  . exact AllF.ok h2 d hd
def AllN(l:List Rat):List ((Int×Nat)×Bool)->Prop
 | []=>True
 |p::N=>nk l p/\AllN l N
theorem AllN.ok{l:List Rat}:∀{N:List ((Int×Nat)×Bool)},AllN l N->∀p∈N,nk l p
 |c::T,⟨h1,h2⟩,d,hd=>by
  rcases List.mem_cons.1 hd with rfl|hd
  . exact h1
  . exact AllN.ok h2 d hd
theorem DP{l:List Rat}{c:Int×Nat}(h:val l c≠0):nk l (c,true):=bu h
theorem WT{l:List Rat}{c:Int×Nat}(h:val l c=0):nk l (c,false):=bz (fun e=>e h)
section
variable {J:Keep}{l:List Rat}
theorem qq{a b r:Int×Nat}(h:val l r=val l a*val l b)(ha:az (val l a)<2^38)(hb:az (val l b)<2^38):mf J l ⟨35,[a,b],.inl r⟩:=by
 show C J 35 [qr (val l a),qr (val l b)] (qr (val l r));rw[h];exact mT (base J) ha hb
theorem yH{a b r:Int×Nat}(h:val l r=val l a-val l b)(ha:az (val l a)<2^38)(hb:az (val l b)<2^38):mf J l ⟨156,[a,b],.inl r⟩:=by
 show C J 156 [qr (val l a),qr (val l b)] (qr (val l r));rw[h];exact rZ (base J) ha hb
theorem Ls{a b r:Int×Nat}(h:val l r=val l a/val l b)(hz:val l b≠0)(ha:az (val l a)<2^38)(hb:az (val l b)<2^38):mf J l ⟨155,[a,b],.inl r⟩:=by
 show C J 155 [qr (val l a),qr (val l b)] (qr (val l r));rw[h];exact IG (base J) ha hb hz
end
theorem VolIs.of{l:List Rat}{T:List Fc}{N:List ((Int×Nat)×Bool)}{tab:List (Nat×ES)}{m:List (Nat×EO)}{nx:Nat}{v:Rat}{c:Int×Nat}(h:yA l T N tab m nx=some (some c))(hv:val l c=v):VolIs l T N tab m nx v:=by
 unfold VolIs;rw[h];exact hv
theorem P3{l:List Rat}{T:List Fc}{N:List ((Int×Nat)×Bool)}{tab:List (Nat×ES)}{m:List (Nat×EO)}{nx:Nat}(h:yA l T N tab m nx=some none):VolIs l T N tab m nx 0:=by
 unfold VolIs;rw[h]
theorem sI{a b x:Rat}{A B C:Nat}(ha:az a<A)(hb:az b<B)(hx:x=a-b)(h:2*A+2*B<=C):az x<C:=by
 have:=Si a (-b);rw[II] at this;rw[hx,Mu];omega
theorem yQ{a b x:Rat}{A B C:Nat}(ha:az a<A)(hb:az b<B)(hx:x=a*b)(h:A+B<=C):az x<C:=by
 have:=xd a b;rw[hx];omega
theorem Wa{a b x:Rat}{A B C:Nat}(ha:az a<A)(hb:az b<B)(hx:x=a/b)(h:A+B<=C):az x<C:=by
 have:=Sf a b;rw[hx];omega
theorem uY:az (mkRat 1 1)<3:=by
 have:=yi 1;rw[show Int.natAbs 1=1 by rfl,pM] at this;rw[show mkRat 1 1=((1:Int):Rat) by rfl];omega
theorem dG{a:Rat}{A:Nat}(h:az a<A)(hA:A<=2^38):az a<2^38:=by omega
set_option maxRecDepth 100000 in
theorem Ld(J:Keep){l:List Rat}{p00 p01 p10 p11 p20 p21:Rat}(b00:az p00<2^30)(b01:az p01<2^30)(b10:az p10<2^30)(b11:az p11<2^30)(b20:az p20<2^30)(b21:az p21<2^30)(e0:l.getD 0 0=p10-p00)(e1:l.getD 1 0=p11-p01)(e2:l.getD 2 0=p20-p00)(e3:l.getD 3 0=p21-p01){T:List Fc}{N:List ((Int×Nat)×Bool)}(hT:∀c∈T,mf J l c)(hN:∀p∈N,nk l p){v:Rat}
 (hr:VolIs l T N [(2,.w (.one (.ptr 0 0 0))),(3,.w (.one (.slc 3 1 0 2 (.fin 1))))] [(0,.mem 48 [.iv (.sl []),.iv (.bool false),.iv (.sl [])] false [(0,3)] 1),(1,.mem 48 [.qc 0 0 0,.qc 0 0 1,.qc 0 0 2,.qc 1 0 0,.qc 1 0 1,.qc 1 0 2] false [(1,6),(0,3)] 2),(2,.mem 48 [.qc 2 0 0,.qc 2 0 1,.qc 2 0 2,.qc 3 0 0,.qc 3 0 1,.qc 3 0 2] false [(1,6),(0,3)] 2),(3,.mem 33 [.slc 1 1 0 2 (.fin 3),.slc 2 1 0 2 (.fin 3)] false [(1,2),(0,1)] 2)] 4 v):C J 157 [.sl [.sl [qr p00,qr p01],.sl [qr p10,qr p11],.sl [qr p20,qr p21]]] (qr v):=by
 refine pD J l Tryz.func157 rfl rfl rfl rfl 0 ?_;have s0:=rZ (base J) (a:=p10) (b:=p00) (by omega) (by omega);have s1:=rZ (base J) (a:=p11) (b:=p01) (by omega) (by omega);have s2:=rZ (base J) (a:=p20) (b:=p00) (by omega) (by omega);have s3:=rZ (base J) (a:=p21) (b:=p01) (by omega) (by omega);repeat (first|(refine SW.join (x:=.seq (.region 2 _ _) _) (G:=Unit) (fun _=>ba [(2,.w (.one (.ptr 0 0 0))),(3,.w (.one (.slc 3 1 0 2 (.fin 1))))] [(0,.mem 48 [.iv (.sl []),.iv (.bool false),.iv (.sl [])] false [(0,3)] 1),(1,.mem 48 [.qc 0 0 0,.qc 0 0 1,.qc 0 0 2,.qc 1 0 0,.qc 1 0 1,.qc 1 0 2] false [(1,6),(0,3)] 2),(2,.mem 48 [.qc 2 0 0,.qc 2 0 1,.qc 2 0 2,.qc 3 0 0,.qc 3 0 1,.qc 3 0 2] false [(1,6),(0,3)] 2),(3,.mem 33 [.slc 1 1 0 2 (.fin 3),.slc 2 1 0 2 (.fin 3)] false [(1,2),(0,1)] 2)] 4) ?_ fun _=>?_)|((first|refine SW.RS (by kernel_rfl) ?_|refine b8 rfl ?_|refine W2 rfl ?_|refine V7 (aB rfl) (aB rfl) (.inr rfl) ?_);conv=>whnf)|(refine SW.block ?_))
 . refine AX 3 ?_;refine SWr.to (To.tab (nP:=0) [] (l:=[(0,ac (.sl [.sl [qr p00,qr p01],.sl [qr p10,qr p11],.sl [qr p20,qr p21]])),(2,.w (.one (.ptr 0 0 0))),(3,ac (.nil 3)),(17,ac (.sl [.sl [qr p10,qr p11],.sl [qr p20,qr p21]])),(18,ac (.int .i64 2)),(19,ac (.int .i64 0))]) (m:=[(0,.mem 48 [.iv (.sl []),.iv (.bool false),.iv (.sl [])] false [(0,3)] 1)]) (nx:=4)
    ⟨.same rfl rfl,.rn rfl rfl,.same rfl rfl,.same rfl rfl,.same rfl rfl,.same rfl rfl,ab⟩ ⟨.same rfl rfl,ab⟩ rfl) ?_
   refine SWr.step ?_;repeat (((first|refine SW.R (by kernel_rfl) ?_|refine SW.c rfl ?_|refine yT (by omega) ?_|refine b8 rfl ?_|refine cX rfl rfl rfl ?_);conv=>whnf))
   refine AX 3 ?_;refine SWr.to (To.tab (nP:=0) [] (l:=[(0,ac (.sl [.sl [qr p00,qr p01],.sl [qr p10,qr p11],.sl [qr p20,qr p21]])),(2,.w (.one (.ptr 0 0 0))),(3,ac (.nil 3)),(6,ac (.nil 3)),(17,ac (.sl [.sl [qr p10,qr p11],.sl [qr p20,qr p21]])),(18,ac (.int .i64 2)),(19,ac (.int .i64 0)),(23,ac (.sl [qr p10,qr p11])),(24,ac (.int .i64 2)),(25,ac (.int .i64 0))]) (m:=[(0,.mem 48 [.iv (.sl []),.iv (.bool false),.iv (.sl [])] false [(0,3)] 1)]) (nx:=4)
    ⟨.same rfl rfl,.rn rfl rfl,.same rfl rfl,.same rfl rfl,.same rfl rfl,.same rfl rfl,.same rfl rfl,.same rfl rfl,.same rfl rfl,.same rfl rfl,ab⟩ ⟨.same rfl rfl,ab⟩ rfl) ?_
   refine SWr.step ?_;repeat (((first|refine SW.R (by kernel_rfl) ?_|refine SW.c rfl ?_|refine vc (.w (.q 0 0)) (cq 0 s0 rfl e0) (fun _ hp=>absurd hp bv) ?_|refine ap (by omega) ?_|refine yT (by omega) ?_|refine bN rfl ?_|refine bi rfl ?_|refine ov rfl ?_|refine cX rfl rfl rfl ?_);conv=>whnf))
   refine SWr.to (To.tab (nP:=0) [(1,6)] (l:=[(0,ac (.sl [.sl [qr p00,qr p01],.sl [qr p10,qr p11],.sl [qr p20,qr p21]])),(2,.w (.one (.ptr 0 0 0))),(3,ac (.nil 3)),(6,.w (.one (.slc 1 0 0 1 (.fin 3)))),(17,ac (.sl [.sl [qr p10,qr p11],.sl [qr p20,qr p21]])),(18,ac (.int .i64 2)),(19,ac (.int .i64 0)),(23,ac (.sl [qr p10,qr p11])),(24,ac (.int .i64 2)),(25,ac (.int .i64 1))]) (m:=[(0,.mem 48 [.iv (.sl []),.iv (.bool false),.iv (.sl [])] false [(0,3)] 1),(1,.mem 48 [.qc 0 0 0,.qc 0 0 1,.qc 0 0 2] false [(0,3)] 1)]) (nx:=4)
    ⟨.same rfl rfl,.rn rfl rfl,.same rfl rfl,.rn rfl rfl,.same rfl rfl,.same rfl rfl,.same rfl rfl,.same rfl rfl,.same rfl rfl,.same rfl rfl,ab⟩ ⟨.same rfl rfl,.same rfl rfl,ab⟩ rfl) ?_
   refine SWr.step ?_;repeat (((first|refine SW.R (by kernel_rfl) ?_|refine SW.c rfl ?_|refine vc (.w (.q 1 0)) (cq 1 s1 rfl e1) (fun _ hp=>absurd hp bv) ?_|refine ap (by omega) ?_|refine yT (by omega) ?_|refine bN rfl ?_|refine bi rfl ?_|refine ov rfl ?_|refine cX rfl rfl rfl ?_);conv=>whnf))
   refine SWr.to (To.tab (nP:=0) [] (l:=[(0,ac (.sl [.sl [qr p00,qr p01],.sl [qr p10,qr p11],.sl [qr p20,qr p21]])),(2,.w (.one (.ptr 0 0 0))),(3,ac (.nil 3)),(6,.w (.one (.slc 1 1 0 2 (.fin 3)))),(17,ac (.sl [.sl [qr p10,qr p11],.sl [qr p20,qr p21]])),(18,ac (.int .i64 2)),(19,ac (.int .i64 0)),(23,ac (.sl [qr p10,qr p11])),(24,ac (.int .i64 2)),(25,ac (.int .i64 2))]) (m:=[(0,.mem 48 [.iv (.sl []),.iv (.bool false),.iv (.sl [])] false [(0,3)] 1),(1,.mem 48 [.qc 0 0 0,.qc 0 0 1,.qc 0 0 2,.qc 1 0 0,.qc 1 0 1,.qc 1 0 2] false [(1,6),(0,3)] 2)]) (nx:=4)
    ⟨.same rfl rfl,.rn rfl rfl,.same rfl rfl,.rn rfl rfl,.same rfl rfl,.same rfl rfl,.same rfl rfl,.same rfl rfl,.same rfl rfl,.same rfl rfl,ab⟩ ⟨.same rfl rfl,.same rfl rfl,ab⟩ rfl) ?_
   refine SWr.step ?_;repeat (((first|refine SW.R (by kernel_rfl) ?_|refine SW.c rfl ?_|refine ap (by omega) ?_|refine yF (by omega) ?_|refine ov rfl ?_);conv=>whnf))
   refine SWr.to (To.tab (nP:=0) [(3,5)] (l:=[(0,ac (.sl [.sl [qr p00,qr p01],.sl [qr p10,qr p11],.sl [qr p20,qr p21]])),(2,.w (.one (.ptr 0 0 0))),(3,.w (.one (.slc 3 0 0 1 (.fin 1)))),(17,ac (.sl [.sl [qr p10,qr p11],.sl [qr p20,qr p21]])),(18,ac (.int .i64 2)),(19,ac (.int .i64 1))]) (m:=[(0,.mem 48 [.iv (.sl []),.iv (.bool false),.iv (.sl [])] false [(0,3)] 1),(1,.mem 48 [.qc 0 0 0,.qc 0 0 1,.qc 0 0 2,.qc 1 0 0,.qc 1 0 1,.qc 1 0 2] false [(1,6),(0,3)] 2),(3,.mem 33 [.slc 1 1 0 2 (.fin 3)] false [(0,1)] 1)]) (nx:=4)
    ⟨.same rfl rfl,.rn rfl rfl,.rn rfl rfl,.same rfl rfl,.same rfl rfl,.same rfl rfl,ab⟩ ⟨.same rfl rfl,.same rfl rfl,.rn rfl rfl rfl,ab⟩ rfl) ?_
   refine SWr.step ?_;repeat (((first|refine SW.R (by kernel_rfl) ?_|refine SW.c rfl ?_|refine yT (by omega) ?_|refine b8 rfl ?_|refine cX rfl rfl rfl ?_);conv=>whnf))
   refine AX 3 ?_;refine SWr.to (To.tab (nP:=0) [] (l:=[(0,ac (.sl [.sl [qr p00,qr p01],.sl [qr p10,qr p11],.sl [qr p20,qr p21]])),(2,.w (.one (.ptr 0 0 0))),(3,.w (.one (.slc 3 0 0 1 (.fin 1)))),(6,ac (.nil 3)),(17,ac (.sl [.sl [qr p10,qr p11],.sl [qr p20,qr p21]])),(18,ac (.int .i64 2)),(19,ac (.int .i64 1)),(23,ac (.sl [qr p20,qr p21])),(24,ac (.int .i64 2)),(25,ac (.int .i64 0))]) (m:=[(0,.mem 48 [.iv (.sl []),.iv (.bool false),.iv (.sl [])] false [(0,3)] 1),(1,.mem 48 [.qc 0 0 0,.qc 0 0 1,.qc 0 0 2,.qc 1 0 0,.qc 1 0 1,.qc 1 0 2] false [(1,6),(0,3)] 2),(3,.mem 33 [.slc 1 1 0 2 (.fin 3)] false [(0,1)] 1)]) (nx:=4)
    ⟨.same rfl rfl,.rn rfl rfl,.rn rfl rfl,.same rfl rfl,.same rfl rfl,.same rfl rfl,.same rfl rfl,.same rfl rfl,.same rfl rfl,.same rfl rfl,ab⟩ ⟨.same rfl rfl,.same rfl rfl,.rn rfl rfl rfl,ab⟩ rfl) ?_
   refine SWr.step ?_;repeat (((first|refine SW.R (by kernel_rfl) ?_|refine SW.c rfl ?_|refine vc (.w (.q 2 0)) (cq 2 s2 rfl e2) (fun _ hp=>absurd hp bv) ?_|refine ap (by omega) ?_|refine yT (by omega) ?_|refine bN rfl ?_|refine bi rfl ?_|refine ov rfl ?_|refine cX rfl rfl rfl ?_);conv=>whnf))
   refine SWr.to (To.tab (nP:=0) [(2,6)] (l:=[(0,ac (.sl [.sl [qr p00,qr p01],.sl [qr p10,qr p11],.sl [qr p20,qr p21]])),(2,.w (.one (.ptr 0 0 0))),(3,.w (.one (.slc 3 0 0 1 (.fin 1)))),(6,.w (.one (.slc 2 0 0 1 (.fin 3)))),(17,ac (.sl [.sl [qr p10,qr p11],.sl [qr p20,qr p21]])),(18,ac (.int .i64 2)),(19,ac (.int .i64 1)),(23,ac (.sl [qr p20,qr p21])),(24,ac (.int .i64 2)),(25,ac (.int .i64 1))]) (m:=[(0,.mem 48 [.iv (.sl []),.iv (.bool false),.iv (.sl [])] false [(0,3)] 1),(1,.mem 48 [.qc 0 0 0,.qc 0 0 1,.qc 0 0 2,.qc 1 0 0,.qc 1 0 1,.qc 1 0 2] false [(1,6),(0,3)] 2),(2,.mem 48 [.qc 2 0 0,.qc 2 0 1,.qc 2 0 2] false [(0,3)] 1),(3,.mem 33 [.slc 1 1 0 2 (.fin 3)] false [(0,1)] 1)]) (nx:=4)
    ⟨.same rfl rfl,.rn rfl rfl,.rn rfl rfl,.rn rfl rfl,.same rfl rfl,.same rfl rfl,.same rfl rfl,.same rfl rfl,.same rfl rfl,.same rfl rfl,ab⟩ ⟨.same rfl rfl,.same rfl rfl,.same rfl rfl,.rn rfl rfl rfl,ab⟩ rfl) ?_
   refine SWr.step ?_;repeat (((first|refine SW.R (by kernel_rfl) ?_|refine SW.c rfl ?_|refine vc (.w (.q 3 0)) (cq 3 s3 rfl e3) (fun _ hp=>absurd hp bv) ?_|refine ap (by omega) ?_|refine yT (by omega) ?_|refine bN rfl ?_|refine bi rfl ?_|refine ov rfl ?_|refine cX rfl rfl rfl ?_);conv=>whnf))
   refine SWr.to (To.tab (nP:=0) [] (l:=[(0,ac (.sl [.sl [qr p00,qr p01],.sl [qr p10,qr p11],.sl [qr p20,qr p21]])),(2,.w (.one (.ptr 0 0 0))),(3,.w (.one (.slc 3 0 0 1 (.fin 1)))),(6,.w (.one (.slc 2 1 0 2 (.fin 3)))),(17,ac (.sl [.sl [qr p10,qr p11],.sl [qr p20,qr p21]])),(18,ac (.int .i64 2)),(19,ac (.int .i64 1)),(23,ac (.sl [qr p20,qr p21])),(24,ac (.int .i64 2)),(25,ac (.int .i64 2))]) (m:=[(0,.mem 48 [.iv (.sl []),.iv (.bool false),.iv (.sl [])] false [(0,3)] 1),(1,.mem 48 [.qc 0 0 0,.qc 0 0 1,.qc 0 0 2,.qc 1 0 0,.qc 1 0 1,.qc 1 0 2] false [(1,6),(0,3)] 2),(2,.mem 48 [.qc 2 0 0,.qc 2 0 1,.qc 2 0 2,.qc 3 0 0,.qc 3 0 1,.qc 3 0 2] false [(1,6),(0,3)] 2),(3,.mem 33 [.slc 1 1 0 2 (.fin 3)] false [(0,1)] 1)]) (nx:=4)
    ⟨.same rfl rfl,.rn rfl rfl,.rn rfl rfl,.rn rfl rfl,.same rfl rfl,.same rfl rfl,.same rfl rfl,.same rfl rfl,.same rfl rfl,.same rfl rfl,ab⟩ ⟨.same rfl rfl,.same rfl rfl,.same rfl rfl,.rn rfl rfl rfl,ab⟩ rfl) ?_
   refine SWr.step ?_;repeat (((first|refine SW.R (by kernel_rfl) ?_|refine SW.c rfl ?_|refine ap (by omega) ?_|refine yF (by omega) ?_|refine ov rfl ?_);conv=>whnf))
   refine SWr.to (To.tab (nP:=0) [] (l:=[(0,ac (.sl [.sl [qr p00,qr p01],.sl [qr p10,qr p11],.sl [qr p20,qr p21]])),(2,.w (.one (.ptr 0 0 0))),(3,.w (.one (.slc 3 1 0 2 (.fin 1)))),(17,ac (.sl [.sl [qr p10,qr p11],.sl [qr p20,qr p21]])),(18,ac (.int .i64 2)),(19,ac (.int .i64 2))]) (m:=[(0,.mem 48 [.iv (.sl []),.iv (.bool false),.iv (.sl [])] false [(0,3)] 1),(1,.mem 48 [.qc 0 0 0,.qc 0 0 1,.qc 0 0 2,.qc 1 0 0,.qc 1 0 1,.qc 1 0 2] false [(1,6),(0,3)] 2),(2,.mem 48 [.qc 2 0 0,.qc 2 0 1,.qc 2 0 2,.qc 3 0 0,.qc 3 0 1,.qc 3 0 2] false [(1,6),(0,3)] 2),(3,.mem 33 [.slc 1 1 0 2 (.fin 3),.slc 2 1 0 2 (.fin 3)] false [(1,2),(0,1)] 2)]) (nx:=4)
    ⟨.same rfl rfl,.rn rfl rfl,.rn rfl rfl,.same rfl rfl,.same rfl rfl,.same rfl rfl,ab⟩ ⟨.same rfl rfl,.same rfl rfl,.same rfl rfl,.rn rfl rfl rfl,ab⟩ rfl) ?_
   refine SWr.step ?_;repeat (((first|refine SW.R (by kernel_rfl) ?_|refine SW.c rfl ?_|refine yF (by omega) ?_);conv=>whnf))
   exact⟨(),To.tab (nP:=0) [] ⟨.rn rfl rfl,.rn rfl rfl,ab⟩ ⟨.same rfl rfl,.same rfl rfl,.same rfl rfl,.rn rfl rfl rfl,ab⟩ rfl⟩
 . exact Ub hT hN rfl hr
end Go.Proofs.En
