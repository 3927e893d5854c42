/-
  A part of the proof of regionProducts_card.
-/
import Derived.Test.YtalnhplbnklpoaaGreatDoorP4
import Derived.Shelf.SlSortCmp.WholeK
import Derived.Ground.SlsfProg
import Derived.Test.YtalnhplbnklpoaaGreatDoorProg
import Derived.WideKeyArr
import Derived.StringKeys
set_option maxHeartbeats 1000000
namespace Go.Proofs
open Go
abbrev AQ:=@Rat.mkRat_mul_mkRat
abbrev Fv:=@List.getElem!_eq_getElem?_getD
abbrev Fw:=@Rat.mkRat_eq_iff
abbrev NB:=@Bool.or_eq_false_iff
abbrev NC:=@Rat.mkRat_add_mkRat
abbrev ND:=@Go.Maps.Keyed.of_law
abbrev XX:=@Int.mul_lt_mul_of_pos_right
abbrev lS:=@Bool.and_self
abbrev n5:=@Nat.succ_mul
abbrev rF:=@Nat.mul_ne_zero
abbrev wB:=@List.append_eq_nil_iff
abbrev wC:=@Rat.pow_succ
end Go.Proofs
namespace Go.Proofs.En
open Go.RowKit Go.Proofs.Fl
section
variable {X:EX}
theorem ESim.loopPut{E:EEnv}{H:ah}{U:Bm}{h:Hp}{w:my}(hS:ESim X.Z E H U h w){g:Nat}{b:Bool}{nt:Nat}{tm:PT ES}{ps:List Nat}{ax bo:X5}(hg:h g=some (.loop b nt tm ps ax bo)){k:Nat×Nat}(hk:U g 0=some k){L L':Loop}(hw:w.heap[k.1]?=some (.loop L)){o':EO}(hc:o'.cnt=1)
 (ho:OR X.Z E.own (w.putObj k.1 (.loop L')) H U g o'):ESim X.Z E H U (aB h g (some o')) (w.putObj k.1 (.loop L'))/\MarkSame w (w.putObj k.1 (.loop L')):=by
 have hn:H k.1=none:=by
  obtain⟨k2,L2,h1,h2,h3,_⟩:=hS.obj g _ hg;rw[hk] at h1;cases h1;exact h3
 refine⟨hS.turn (by rw[hg];simp) rfl rfl rfl (by simp) (fun k' _ hk'=>cH (fun e=>hk' 0 k hk e.symm)) (fun u s hs=>?_) (BLe.refl _) (fun _ _ _=>rfl) (fun u k' hk'=>?_) ho,fun D hD=>cH (fun e=>?_)⟩
 . obtain⟨_,_,o2,ho2,hc2⟩:=hS.domN hg (by simp) u s hs;rw[hg] at ho2;cases ho2;have:u=0:=by simp only[EO.cnt] at hc2;omega
   subst this;rw[hk] at hs;cases hs;exact hn
 . obtain⟨a,b,o2,ho2,hc2⟩:=hS.domN hg (by simp) u k' hk';rw[hg] at ho2;cases ho2;exact⟨by rw[hc];exact hc2,by simpa using a,b,.inl ⟨u,k',hk',rfl⟩⟩
 . subst e;rw[hw] at hD;cases hD
theorem HX{H:ah}{U:Bm}{nt:Nat}:∀{ps:List Nat} {args:List ES} {vs:List X3} {tm tm':PT ES} {tmps:Array X3},qH nt tm ps args=some tm'->SREL X.Z H U vs args->(∀t,SRe X.Z H U (tmps.getD t undef) (tm.sl t))->tmps.size=nt->
 ps.length=args.length/\(∀t,SRe X.Z H U (((ps.zip vs).foldl (fun tmps p=>tmps.setIfInBounds p.1 p.2) tmps).getD t undef) (tm'.sl t))/\((ps.zip vs).foldl (fun tmps p=>tmps.setIfInBounds p.1 p.2) tmps).size=nt
 | [],[],vs,tm,tm',tmps,he,hv,hs,hn=>by
  simp only[qH,ae] at he;subst he;exact⟨rfl,by simpa using hs,by simpa using hn⟩
 | [],_::_,_,_,_,_,he,_,_,_=>by simp[qH] at he
 |_::_,[],_,_,_,_,he,_,_,_=>by simp[qH] at he
 |p::ps,x::args,[],_,_,_,_,hv,_,_=>hv.elim
 |p::ps,x::args,v::vs,tm,tm',tmps,he,hv,hs,hn=>by
  unfold qH at he;cases hb:Nat.blt p nt with
  |false=>rw[hb] at he;cases he
  |true=>
   rw[hb] at he;simp only[af] at he;have hlt:p<nt:=by simpa[cY] using hb
   obtain⟨h1,h2,h3⟩:=HX (tmps:=tmps.setIfInBounds p v) he hv.2 (fun t=>by
    have e:(tm.set p x).sl t=if t=p then x else tm.sl t:=by
     unfold PT.sl;rw[na];split<;>rfl
    rw[e];by_cases ht:t=p
    . subst ht;rw[ay rfl];have:(tmps.setIfInBounds t v).getD t undef=v:=by simp[Array.getD,hn,hlt]
      rw[this];exact hv.1
    . rw[am ht];have:(tmps.setIfInBounds p v).getD t undef=tmps.getD t undef:=by
       simp only[ER,MW];rw[am (by omega)]
      rw[this];exact hs t) (by rw[E0];exact hn)
   exact⟨by simp[h1],by simpa using h2,by simpa using h3⟩
theorem PJ{ev:Bool->Nat->X5->Sg->Option (X6×Sg)}(hev:tt X ev):qA X (Da ev):=by
 intro g args s s' he;unfold Da at he;split at he
 . rename_i nt tm ps assign body hg;split at he
   . rename_i tm' hp;split at he
     . rename_i s1 he1;split at he
       . rename_i nt1 tm1 ps1 as1 bo1 hg1;split at he
         . rename_i s2 he2;split at he
           . rename_i nt2 tm2 ps2 as2 bo2 hg2;simp only[ae] at he;subst he;obtain⟨⟨l1,snd1⟩,_⟩:=hev _ _ _ _ _ _ he1;obtain⟨⟨l2,snd2⟩,_⟩:=hev _ _ _ _ _ _ he2;refine⟨((l1.trans (LogOk.put _ _ _)).trans l2).trans (LogOk.put _ _ _),fun ro E hI H U w vs k hS hargs hk=>?_⟩;obtain⟨k0,L,o1,o2,o3,o4,o5,o6,o8,o9,vR,vQ,EG⟩:=hS.obj g _ hg;rw[hk] at o1;cases o1;simp only[dx,bG] at o5;obtain⟨q1,q2,q3⟩:=HX (X:=X) (H:=H) (U:=U) (vs:=vs) (tmps:=L.tmps) hp hargs EG o8;have hlen:=hargs.length;have hsz:vs.toArray.size=L.params.size:=by
              rw[<-o9] at q1;simp at q1;simp;omega
             have etm:(L.params.zip vs.toArray).foldl (fun tmps (t,a)=>tmps.setIfInBounds t a) L.tmps=(ps.zip vs).foldl (fun tmps p=>tmps.setIfInBounds p.1 p.2) L.tmps:=by
              rw[<-Array.foldl_toList,Array.toList_zip,o9]
             refine⟨L.fn,_,L.assign,L.body,run_yield o4 hsz,roundIn_of_wpIn trivial ?_⟩;rw[vR,vQ,etm];refine snd1 (some k.1) (fun e=>by cases e) E hI w H U _ w _ ⟨⟨hS,q2,q3⟩,MarksOk.nil _ _,MarkSame.refl _⟩ fun a1 w1 hp1=>?_;obtain⟨H1,β1,p1,p2,p3,p4⟩:=hp1;have hk1:β1 g 0=some k:=p2 _ _ _ hk;obtain⟨k0,L1,u1,u2,u3,u4,u5,u6,u8,u9,u10,u11,u12⟩:=p3.1.sim.obj g _ hg1;rw[hk1] at u1;cases u1;simp only[dx,bG] at u5;refine⟨_,run_beginRound u4 u5,?_⟩;have hlt1:=(Array.getElem?_eq_some_iff.1 u4).1;obtain⟨t1,t2⟩:=p3.1.sim.loopPut hg1 hk1 u4 (L':={ L1 with state:=.busy }) (o':=.loop true nt1 tm1 ps1 as1 bo1) rfl
              ⟨k,{ L1 with state:=.busy },hk1,u2,u3,wn hlt1,by simp,u6,u8,u9,u10,u11,u12⟩
             have hm2:MarkSame w (w1.putObj k.1 (.loop { L1 with state:=.busy })):=p4.trans t2;refine snd2 (some k.1) (fun e=>by cases e) E hI w H1 β1 a1 _ _ ⟨⟨by rw[w5];exact t1,p3.1.slot,p3.1.size⟩,p3.2.1.keep t2,hm2⟩ fun a2 w3 hp2=>?_;obtain⟨H3,β3,r1,r2,r3,r4⟩:=hp2;have hk3:β3 g 0=some k:=r2 _ _ _ hk1;obtain⟨k0,L3,v1,v2,v3,v4,v5,v6,v8,v9,v10,v11,v12⟩:=r3.1.sim.obj g _ hg2;rw[hk3] at v1;cases v1;refine⟨_,_,run_endRound none v4,?_⟩;have hlt3:=(Array.getElem?_eq_some_iff.1 v4).1;obtain⟨t3,t4⟩:=r3.1.sim.loopPut hg2 hk3 v4 (L':={ L3 with state:=if(none:Option X5).isNone then .ready else .done,pending:=none }) (o':=.loop false nt2 tm2 ps2 as2 bo2) rfl
              ⟨k,{ L3 with state:=if(none:Option X5).isNone then .ready else .done,pending:=none },hk3,v2,v3,wn hlt3,by simp,rfl,v8,v9,v10,v11,v12⟩
             refine⟨.bool true,H3,β3,rfl,p1.trans r1,p2.trans r2,by rw[w5];exact t3,(hm2.trans r4).trans t4,⟨rfl,VR.bool _⟩⟩
           . cases he
         . cases he
       . cases he
     . cases he
   . cases he
 . cases he
theorem UF{H:ah}{U:Bm}{v:X3}{f:qe}{gs:List Nat}{fo:ES}(hf:(fo=.w (.one (.iv (.fn f)))/\gs=[])\/fo=.w (.one (.clo f gs)))(hv:SRe X.Z H U v fo):∃cs:List X3,v=.func (.func f) #[] cs.toArray/\SREL X.Z H U cs (kB gs):=by
 rcases hf with⟨rfl,rfl⟩|rfl
 . exact⟨[],sC hv.2,ab⟩
 . obtain⟨h1,h2⟩:=hv;refine⟨_,h2,?_⟩;clear h2;induction gs with
   |nil=>trivial
   |cons g gs ih=>
    obtain⟨k,hk⟩:=h1 g (by simp);refine⟨⟨k,hk,?_⟩,ih fun g hg=>h1 g (by simp[hg])⟩;unfold ii;rw[hk]
theorem PW{F:qe->Option FnE}{orc:qe->List ES->Hs->Option (ES×Hs)}{ev:Bool->Nat->X5->Sg->Option (X6×Sg)}(hF:∀f q,F f=some q->∃fn,FnOk X f q fn)(hev:tt X ev){nt:Nat}{g:X0}{ps:Array Tmp}{assign body:X5}{s s':Sg}
 (he:Dl (X.ee F orc) ev nt (aj s.tm.sl g) ps.toList assign body s=some s'):Sound X false nt (.rangeFunc g ps assign body) s .normal s':=by
 unfold Dl at he;split at he
 . rename_i hgl;rw[bd,bd] at he;simp only at he;have key:∃f gs r hs' b' nt' tm' ps' as' bo',((aj s.tm.sl g=.w (.one (.iv (.fn f)))/\gs=[])\/aj s.tm.sl g=.w (.one (.clo f gs)))/\sX (X.ee F orc) ev f (.w (.one (.yld s.s.nx))::kB gs) ⟨s.s.h.set s.s.nx (.loop false nt s.tm ps.toList assign body),s.s.nx+1,s.s.nx::s.s.wl⟩=some (r,hs')/\
    hs'.h.get s.s.nx=some (.loop b' nt' tm' ps' as' bo')/\b'=false/\s'=⟨s.tm,hs'.put s.s.nx .hid⟩:=by
    split at he
    . rename_i r hs' hcall;split at he
      . rename_i nt' tm' ps' as' bo' hl;simp only[ae] at he;split at hcall
        . rename_i f gs hf;exact⟨f,gs,r,hs',_,nt',tm',ps',as',bo',.inr hf,hcall,hl,rfl,he.symm⟩
        . rename_i f hf;exact⟨f,[],r,hs',_,nt',tm',ps',as',bo',.inl ⟨hf,rfl⟩,hcall,hl,rfl,he.symm⟩
        . cases hcall
      . cases he
    . cases he
   obtain⟨f,gs,r,hs',b',nt',tm',ps',as',bo',hf,hcall,hl,rfl,rfl⟩:=key;obtain⟨l1,⟨⟨fn',hf1,hf2,hf3⟩,hcl⟩⟩:=IQ hF hev _ _ _ _ _ hcall;have l0:LogOk s.s ⟨s.s.h.set s.s.nx (.loop false nt s.tm ps.toList assign body),s.s.nx+1,s.s.nx::s.s.wl⟩:=LogOk.wr s.s [(s.s.nx,.loop false nt s.tm ps.toList assign body)] _;refine⟨(l0.trans l1).trans (LogOk.put _ _ _),fun ro hro E hI w0 H U a w Q hS hQ=>?_⟩;rw[hro rfl];refine wpIn_rangeFunc fun fn _=>?_
   let L:Loop:={ state:=.ready,pending:=none,fn,tmps:=a.tmps,params:=ps,assign,body,defers:=w.heap.size }
   let wd:my:=w.alloc (.deferred (some []))
   let w1:my:=wd.alloc (.loop L)
   have hbd:Below w.heap.size w wd:=(lK _ _).alloc (ak _) _;have hszd:wd.heap.size=w.heap.size+1:=by simp[wd]
   have S1:ESim X.Z E H U s.s.h.get wd:=hS.1.sim.grow hbd (fun b arr hb=>by
    obtain⟨t,fr,ht⟩:=hS.1.sim.has b arr hb;exact⟨t,fr,(hbd.block b (hS.1.sim.has.lt hb)).trans ht⟩) (HExt.refl _ _)
   have hnew:H wd.heap.size=none:=by
    cases hx:H wd.heap.size with
    |none=>rfl
    |some arr'=>have:=S1.has.lt hx;omega
   obtain⟨dK,S2⟩:=S1.alloc hgl (b:=.loop L) (s:=0) (o:=.loop false nt s.tm ps.toList assign body) Nat.one_pos
    ⟨_,L,fg _ _ _ _,S1.lo _ (ak _),hnew,mS _ _,by simp[L],rfl,hS.1.size,rfl,rfl,rfl,fun t=>(hS.1.slot t).mono (HLe.refl _) (jV (S1.noB hgl 0))⟩
   have hbe:Below wd.heap.size wd w1:=(lK _ _).alloc (ak _) _;have hm1:MarkSame w w1:=(MarkSame.below hbd).trans (MarkSame.below hbe);have hD1:w1.heap[w.heap.size]?=some (.deferred (some [])) :=
    (Below.heap_alloc wd _ w.heap.size (by omega)).trans (Ng w _)
   obtain⟨cs,e1,hcs⟩:=UF hf (bp hS.1 g);have hyv:SRe X.Z H (lw U s.s.nx 0 (wd.heap.size,0)) (jZ (w.heap.size+1)) (.w (.one (.yld s.s.nx))):=⟨_,fg _ _ _ _,by rw[hszd];rfl⟩;have eh:(⟨s.s.h.set s.s.nx (.loop false nt s.tm ps.toList assign body),s.s.nx+1,s.s.nx::s.s.wl⟩:Hs).h.get=aB s.s.h.get s.s.nx (some (.loop false nt s.tm ps.toList assign body)):=w5 s.s s.s.nx _;have hc:=hcl E hI H _ w1 (jZ (w.heap.size+1)::cs) (by rw[eh];exact S2) ⟨hyv,hcs.mono (HLe.refl _) dK⟩;refine⟨w.heap.size+1,[{ target:=.collected w.heap.size,args := #[] }],w1,{ target:=.fn (.func f) cs.toArray,args := #[jZ (w.heap.size+1)] },w1,f,(jZ (w.heap.size+1)::cs).toArray,w1,?_,?_,fun _ _=>trivial,?_,fun e=>(by cases e),?_⟩
   . exact run_enterLoop_outer fn a.tmps ps assign body
   . simp only[resolve,rangeCall,e1,Deferred.ofValue,aw];simp[Act.eval,jZ]
   . simp only[invoke,callFunc,au,tN,ar,hf1,hf2,hf3,dx,bG,aw];congr 2;apply eO;simp
   . refine Lf (hc.mono ?_);rintro e w3 ⟨v,H3,β3,rfl,c1,c2,c3,c4,c5⟩;have hk3:β3 s.s.nx 0=some (wd.heap.size,0):=c2 _ _ _ (fg _ _ _ _);obtain⟨k0,L3,v1,v2,v3,v4,v5,v6,v8,v9,v10,v11,v12⟩:=c3.obj _ _ hl;rw[hk3] at v1;cases v1;simp only[dx,bG] at v5;have v4':w3.heap[w.heap.size+1]?=some (.loop L3):=by rw[<-hszd];exact v4
     refine⟨L3.pending,_,run_endLoop v4' (by rw[v5];simp),?_⟩;have hpn:L3.pending=none:=by
      cases hx:L3.pending with
      |none=>rfl
      |some c=>rw[hx] at v6;cases v6
     rw[hpn];obtain⟨t1,t2⟩:=c3.loopPut hl hk3 v4 (L':={ L3 with state:=.exhausted }) (o':=.hid) rfl trivial;rw[hszd] at t1 t2;have hm4:MarkSame w (w3.putObj (w.heap.size+1) (.loop { L3 with state:=.exhausted })):=(hm1.trans c4).trans t2;have hb3:BLe U β3:=dK.trans c2;refine hQ _ _ ⟨H3,β3,c1,hb3,⟨⟨by rw[w5];rw[hpn] at t1;exact t1,fun t=>(hS.1.slot t).mono c1 hb3,hS.1.size⟩,⟨?_,?_⟩,by rw[hpn] at hm4;exact hS.2.2.trans hm4⟩,by rw[hpn] at hm4;exact hm4⟩
     . refine List.pairwise_cons.2 ⟨fun d hd e=>?_,hS.2.1.1⟩;obtain⟨D,e',_,hb⟩:=hS.2.1.2 d hd;rw[<-e] at e';cases e';have:=(Array.getElem?_eq_some_iff.1 hb).1;omega
     . intro d hd;rcases List.mem_cons.1 hd with rfl|hd
       . refine⟨_,rfl,⟨hS.1.sim.lo _ (ak _),fun e=>?_⟩,?_⟩
         . have:=hS.2.2 _ e;rw[e] at this;have:=(Array.getElem?_eq_some_iff.1 this).1;omega
         . refine(cH (by omega)).trans ?_;rw[c4 _ hD1];exact hD1
       . rw[hpn] at hm4;exact(hS.2.1.keep hm4).2 d hd
 . cases he
theorem QW{F:qe->Option FnE}{orc:qe->List ES->Hs->Option (ES×Hs)}{ev:Bool->Nat->X5->Sg->Option (X6×Sg)}(hF:∀f q,F f=some q->∃fn,FnOk X f q fn)(horc:iX X orc)(hev:tt X ev):tt X (DP (X.ee F orc) ev):=by
 intro rd nt c s e s' he;unfold DP at he;split at he
 . simp only[ae,aA] at he;obtain⟨rfl,rfl⟩:=he;exact⟨⟨LogOk.refl _,fun ro hro E hI w0 H U a w Q hS hQ=>wpIn_skip (hQ a w (EPost.refl hS))⟩,fun b hb=>by cases hb⟩
 . simp only[ae,aA] at he;obtain⟨rfl,rfl⟩:=he;exact⟨⟨LogOk.refl _,fun ro hro E hI w0 H U a w Q hS hQ=>wpIn_label (hQ a w (EPost.refl hS))⟩,fun b hb=>by cases hb⟩
 . simp only[ae,aA] at he;obtain⟨rfl,rfl⟩:=he;exact⟨⟨LogOk.refl _,fun ro hro E hI w0 H U a w Q hS hQ=>wpIn_ret (hQ a w (EPost.refl hS))⟩,fun b hb=>by cases hb⟩
 . simp only[ae,aA] at he;obtain⟨rfl,rfl⟩:=he;exact⟨⟨LogOk.refl _,fun ro hro E hI w0 H U a w Q hS hQ=>wpIn_exit (hQ a w (EPost.refl hS))⟩,fun b hb=>by cases hb⟩
 . refine⟨?_,fun b hb=>by cases hb⟩;split at he
   . rename_i s1 h1;exact(hev _ _ _ _ _ _ h1).1.seq (hev _ _ _ _ _ _ he).1
   . rename_i hn;refine(hev _ _ _ _ _ _ he).1.seqX fun e'=>?_;subst e';exact hn _ he
 . refine⟨?_,fun b hb=>by cases hb⟩;split at he
   . rename_i hc;exact Sound.cond hc (hev _ _ _ _ _ _ he).1
   . rename_i hc;exact Sound.cond hc (hev _ _ _ _ _ _ he).1
   . cases he
 . refine⟨?_,fun b hb=>by cases hb⟩;rename_i id b;split at he
   . rename_i i s1 h1;have hs:=(hev _ _ _ _ _ _ h1).1.block (id:=id);simp only at hs;cases hb:Nat.beq i id with
     |true=>
      rw[hb] at he hs;simp only[af,ae,aA] at he hs;obtain⟨rfl,rfl⟩:=he;exact hs
     |false=>
      rw[hb] at he hs;simp only[aX,ae,aA] at he hs;obtain⟨rfl,rfl⟩:=he;exact hs
   . rename_i hn;have hs:=(hev _ _ _ _ _ _ he).1.block (id:=id);cases e with
     |exit i=>exact absurd he (hn i s')
     |_=>exact hs
 . rename_i b;have key:LogOk s.s s'.s/\LoopS X rd nt b s e s':=by
    split at he
    . rename_i s1 h1;have a1:=(hev _ _ _ _ _ _ h1).1;have a2:=hev _ _ _ _ _ _ he;exact⟨a1.1.trans a2.1.1,PE a1 (a2.2 b rfl)⟩
    . rename_i hn;have a1:=(hev _ _ _ _ _ _ he).1;exact⟨a1.1,QI a1 fun e'=>by subst e';exact hn _ he⟩
   exact⟨Oc key.1 key.2,fun b' hb=>by cases hb;exact key.2⟩
 . refine⟨?_,fun b hb=>by cases hb⟩;split at he
   . rename_i s1 h1;simp only[ae,aA] at he;obtain⟨rfl,rfl⟩:=he;exact RF horc (IQ hF hev) (PJ hev) h1
   . cases he
 . refine⟨?_,fun b hb=>by cases hb⟩;split at he
   . split at he
     . rename_i s1 h1;simp only[ae,aA] at he;obtain⟨rfl,rfl⟩:=he;exact PW hF hev h1
     . cases he
   . cases he
 . cases he
theorem VL{F:qe->Option FnE}{orc:qe->List ES->Hs->Option (ES×Hs)}(hF:∀f q,F f=some q->∃fn,FnOk X f q fn)(horc:iX X orc):∀n,tt X (Aq (X.ee F orc) n):=by
 intro n;induction n with
 |zero=>intro rd nt c s e s' he;cases he
 |succ n ih=>exact QW hF horc ih
end
def kZ{α:Type _}:List α->Bool
 | []=>true
 |_=>false
def fD(seen:List Nat):List (EW×EW×Nat)->List (EW×EW×Nat)
 | []=>[]
 |e::l=>bif bJ e.2.2 seen then fD seen l else e::fD seen l
def mC(n:Nat):List (EW×EW×Nat)->Bool
 | []=>true
 |e::l=>Nat.blt e.2.2 n&&mC n l
def mB(n:Nat):List (EW×EW×Nat)->Bool
 | []=>false
 |e::l=>Nat.blt e.2.2 n||mB n l
def zm(h:Hp)(x:ES):Option (List (ES×Wr)) :=
 match x with
 | .w (.one (.ptr gi 0 0))=>match h gi with
  |some (.iter gm since seen last _)=>match h gm with
   |some (.map es ck)=>
    bif mC since es&&(kZ seen||(kZ es||mB last es)) then
     (match fD seen es with
     | []=>some [(.tup [.one (.iv (.bool false))],[])]
     |l=>some (l.map fun e=>(.tup [.one (.iv (.bool true)),e.1,e.2.1],[(gi,.iter gm since (e.2.2::seen) ck (some e.2.2))])))
    else none
   |_=>none
  |_=>none
 |_=>none
section
variable {X:EX}{E:EEnv}{nt:Nat}{H:ah}{U:Bm}{tm:Nat->ES}{h:Hp}{a:Act}{w:my}{o:X4}
theorem GT{n:Nat}:∀{es:List (EW×EW×Nat)},mC n es=true->∀e∈es,e.2.2<n
 | [],_,e,he=>by cases he
 |x::l,h,e,he=>by
  simp only[mC,az] at h;rcases List.mem_cons.1 he with rfl|he
  . have:=h.1;rwa[cY] at this
  . exact GT h.2 e he
theorem GS{n:Nat}:∀{es:List (EW×EW×Nat)},mB n es=true->∃e∈es,e.2.2<n
 | [],h=>by cases h
 |x::l,h=>by
  simp only[mB,g6] at h;rcases h with h|h
  . rw[cY] at h;exact⟨x,by simp,h⟩
  . obtain⟨e,h1,h2⟩:=GS h;exact⟨e,by simp[h1],h2⟩
theorem xe{seen:List Nat}{e:EW×EW×Nat}:∀{es:List (EW×EW×Nat)},e∈fD seen es↔e∈es/\e.2.2∉seen
 | []=>by simp[fD]
 |x::l=>by
  unfold fD;cases hm:bJ x.2.2 seen with
  |true=>
   have:=js.1 hm;rw[af,xe (es:=l),eZ];refine⟨fun h=>⟨.inr h.1,h.2⟩,fun h=>⟨h.1.resolve_left fun e'=>?_,h.2⟩⟩;subst e';exact h.2 this
  |false=>
   have:x.2.2∉seen:=fun h'=>by rw[js.2 h'] at hm;cases hm
   rw[aX,eZ,xe (es:=l),eZ];refine⟨?_,?_⟩
   . rintro(rfl|h)
     . exact⟨.inl rfl,this⟩
     . exact⟨.inr h.1,h.2⟩
   . rintro⟨rfl|h,h2⟩
     . exact .inl rfl
     . exact .inr ⟨h,h2⟩
theorem MRL.mem{Z:QS}:∀{vs:List MapEntry} {xs:List (EW×EW×Nat)},MRL Z H U vs xs->(∀e∈vs,∃x∈xs,MR Z H U e x)/\∀x∈xs,∃e∈vs,MR Z H U e x
 | [],[],_=>⟨fun e he=>(by cases he),fun e he=>(by cases he)⟩
 |e::es,x::xs,⟨h1,h2⟩=>by
  obtain⟨i1,i2⟩:=MRL.mem h2;refine⟨fun e' he'=>?_,fun x' hx'=>?_⟩
  . rcases List.mem_cons.1 he' with rfl|he'
    . exact⟨x,by simp,h1⟩
    . obtain⟨x',a,b⟩:=i1 e' he';exact⟨x',by simp[a],b⟩
  . rcases List.mem_cons.1 hx' with rfl|hx'
    . exact⟨e,by simp,h1⟩
    . obtain⟨e',a,b⟩:=i2 x' hx';exact⟨e',by simp[a],b⟩
 | [],_::_,h=>h.elim
 |_::_,[],h=>h.elim
theorem Q0{P:Tz}{w:my}{k m:Nat}{sp:Option Nat}{since last ck t:Nat}{sn:Array Nat}{ents:Array MapEntry}(hk:w.heap[k]?=some (.mapIter (some m) since sn last))(hm:w.heap[m]?=some (.map ents ck))
 (hc:(!sn.isEmpty && !ents.isEmpty&&ents.all (·.born>=last))=false) (hlt:∀e∈ents.toList,e.born<since) :
 ((ents.filter fun e=>!sn.contains e.born).toList=[]/\(Instr.next (.pointer (some ⟨k,0,sp⟩)) false t).run P w=.ok (.tuple #[.bool false]) w)\/
 ∃e w1,e∈(ents.filter fun e=>!sn.contains e.born).toList/\(w1=w\/w1=w.drew)/\(Instr.next (.pointer (some ⟨k,0,sp⟩)) false t).run P w=.ok (.tuple #[.bool true,e.key,e.val]) (w1.putObj k (.mapIter (some m) since (sn.push e.born) ck)):=by
 have g1:(getObj k).run P w=.ok (.mapIter (some m) since sn last) w:=by simp[getObj,Sem.run,hk]
 have g2:(getObj m).run P w=.ok (.map ents ck) w:=MapKept.run_getObj_map hm;obtain⟨left,hleft⟩:∃left,ents.filter (fun e=>!sn.contains e.born)=left:=⟨_,rfl⟩;have hin:∀e∈left,e.born<since:=fun e he=>by
  rw[<-hleft] at he;exact hlt e (by simpa using(Array.mem_filter.1 he).1)
 have ho:left.filter (·.born<since)=left:=by
  apply Array.filter_eq_self.2;intro e he;simpa using hin e he
 have hn:left.filter (·.born>=since) = #[]:=by
  apply Array.filter_eq_empty_iff.2;intro e he;have:=hin e he;simp;omega
 rw[hleft];by_cases he:left.toList=[]
 . left;refine⟨he,?_⟩;have he':left = #[]:=by cases left;simp at he;subst he;rfl
   unfold Instr.next;simp only[au,g1,ar,g2,hc,dx,bG,aw,hleft,he'];simp[run_choose_drew,Question.forced]
 . right;have he':left.isEmpty=false:=by
    cases hl:left.isEmpty with
    |false=>rfl
    |true=>rw[Array.isEmpty_iff] at hl;subst hl;exact absurd rfl he
   have hcand:(if left.isEmpty then #[none] else #[])++(left ++ #[]).map some=left.map some:=by
    rw[he'];simp
   have hch:∃i w1,(choose (.mapNext (left.map some).size)).run P w=.ok i w1/\(w1=w\/w1=w.drew)/\i<left.size:=by
    have hpos:0<left.size:=by
     cases left with
     |mk l=>cases l with
      |nil=>exact absurd rfl he
      |cons=>simp
    rw[run_choose_drew];by_cases hf:(Question.mapNext (left.map some).size).forced=true
    . rw[ay hf];exact⟨0,w,rfl,.inl rfl,hpos⟩
    . rw[am hf];refine⟨_,_,rfl,.inr rfl,?_⟩;show _%_<_;rw[Array.size_map];exact iy _ hpos
   obtain⟨i,w1,hch,hw1,hi⟩:=hch;refine⟨left[i],w1,by simp,hw1,?_⟩;have hh:w1.heap=w.heap:=by rcases hw1 with rfl|rfl<;>rfl
   have gi:(left.map some)[i]?=some (some left[i]):=by simp[hi]
   have hset:(setObj k (.mapIter (some m) since (sn.push left[i].born) ck)).run P w1=.ok () (w1.putObj k (.mapIter (some m) since (sn.push left[i].born) ck)):=by
    have:w1.heap[k]?=some (.mapIter (some m) since sn last):=by rw[hh];exact hk
    simp[setObj,Sem.run,this,World.putObj]
   unfold Instr.next;simp only[au,g1,ar,g2,hc,dx,bG,aw,hleft,ho,hn,hcand,hch,gi,hset]
theorem Rk(hS:ESt X E nt H U tm h a w){x:X0}(ho:o.op=.next x false){outs:List (ES×Wr)}(he:zm h (aj tm x)=some outs):∃p∈outs,OpOk X E H U h a w o p.1 p.2:=by
 have hx:=bp hS x;unfold zm at he;split at he
 . rename_i gi hxe;rw[hxe] at hx;obtain⟨ki,hki,hxv⟩:=hx;split at he
   . rename_i gm since seen last cur hgi;obtain⟨ki',km,sn,p1,p2,p3,p4,p5,p6,p7⟩:=hS.sim.obj gi _ hgi;rw[hki] at p1;cases p1;split at he
     . rename_i es ck hgm;obtain⟨km',ents,q1,q2,q3,q4,q5⟩:=hS.sim.obj gm _ hgm;rw[p2] at q1;cases q1;cases hb:(mC since es&&(kZ seen||(kZ es||mB last es))) with
       |false=>rw[hb] at he;cases he
       |true=>
        rw[hb] at he;simp only[af] at he;simp only[az,g6] at hb;obtain⟨b1,b2⟩:=hb;obtain⟨m1,m2⟩:=q5.mem;have hlt:∀e∈ents.toList,e.born<since:=fun e he=>by
         obtain⟨y,hy,hm⟩:=m1 e he;rw[hm.2.2];exact GT b1 y hy
        have hc:(!sn.isEmpty && !ents.isEmpty&&ents.all (·.born>=last))=false:=by
         rcases b2 with b2|b2|b2
         . cases seen with
           |cons=>cases b2
           |nil=>
            have:sn = #[]:=by
             cases sn with
             |mk l=>cases l with
              |nil=>rfl
              |cons c l=>have:=(p6 c).1 (by simp);cases this
            subst this;rfl
         . cases es with
           |cons=>cases b2
           |nil=>
            have:ents = #[]:=by
             cases ents with
             |mk l=>cases l with
              |nil=>rfl
              |cons c l=>exact q5.elim
            subst this;simp
         . obtain⟨y,hy,hyl⟩:=GS b2;obtain⟨e,he,hm⟩:=m2 y hy;have:ents.all (·.born>=last)=false:=by
            rw[Array.all_eq_false];obtain⟨i,hi,rfl⟩:=List.mem_iff_getElem.1 he;exact⟨i,by simpa using hi,by have:=hm.2.2;simp at this ⊢;omega⟩
           rw[this];simp
        have hrun:∀v w',(Instr.next (a.eval x) false o.type).run X.P w=.ok v w'->(execOp a.eval o).run X.P w=.ok (.value v) w':=fun v w' hr=>by
         simp only[execOp,ho,au,hr,ar,aw]
        have hrn:=Q0 (P:=X.P) (sp:=none) (t:=o.type) p5 q4 hc hlt;rw[<-hxv] at hrn;have hfilt:∀e,e∈(ents.filter fun e=>!sn.contains e.born).toList↔e∈ents.toList/\e.born∉seen:=fun e=>by
         rw[Array.toList_filter,List.mem_filter];have:(!sn.contains e.born)=true↔e.born∉seen:=by
          rw[<-p6 e.born];simp
         rw[this]
        rcases hrn with⟨r1,r2⟩|⟨e,w1,r1,r2,r3⟩
        . have hl:fD seen es=[]:=by
           cases hl:fD seen es with
           |nil=>rfl
           |cons y l=>
            have hy:y∈fD seen es:=by rw[hl];simp
            obtain⟨y1,y2⟩:=xe.1 hy;obtain⟨e,e1,e2⟩:=m2 y y1;have:=(hfilt e).2 ⟨e1,by rw[e2.2.2];exact y2⟩;rw[r1] at this;cases this
          rw[hl] at he;simp only[ae] at he;subst he;refine⟨_,List.mem_singleton.2 rfl,OpOk.pure hS (hrun _ _ r2) ⟨[.bool false],rfl,⟨rfl,VR.bool _⟩,ab⟩⟩
        . obtain⟨e1,e2⟩:=(hfilt e).1 r1;obtain⟨y,y1,y2⟩:=m1 e e1;have hy:y∈fD seen es:=xe.2 ⟨y1,by rw[<-y2.2.2];exact e2⟩;have hh:w1.heap=w.heap:=by rcases r2 with rfl|rfl<;>rfl
          have hne:∀l:List (EW×EW×Nat),fD seen es=l->(match l with
           | []=>some [((.tup [.one (.iv (.bool false))],[]):ES×Wr)]
           |l=>some (l.map fun e=>(.tup [.one (.iv (.bool true)),e.1,e.2.1],[(gi,.iter gm since (e.2.2::seen) ck (some e.2.2))])))=some outs->(ES.tup [.one (.iv (.bool true)),y.1,y.2.1],[(gi,EO.iter gm since (y.2.2::seen) ck (some y.2.2))])∈outs:=fun l hl he=>by
           cases l with
           |nil=>rw[hl] at hy;cases hy
           |cons z l=>
            simp only[ae] at he;subst he;rw[hl] at hy;exact List.mem_map.2 ⟨y,hy,rfl⟩
          refine⟨_,hne _ rfl he,.tuple #[.bool true,e.key,e.val],_,U,.inl (hrun _ _ r3),BLe.refl _,?_,?_,⟨[.bool true,e.key,e.val],rfl,⟨rfl,VR.bool _⟩,y2.1,y2.2.1,ab⟩⟩
          . have hsize:w1.heap.size=w.heap.size:=by rw[hh]
            have hklt:ki.1<w1.heap.size:=by rw[hsize];exact(Array.getElem?_eq_some_iff.1 p5).1
            have hos:w1.os=w.os/\w1.tape=w.tape/\w1.output=w.output:=by rcases r2 with rfl|rfl<;>exact⟨rfl,rfl,rfl⟩
            refine hS.sim.turn (by rw[hgi];simp) hos.1 hos.2.1 hos.2.2 (by simp[hsize]) (fun k' _ hk'=>(cH (fun e=>hk' 0 ki hki e.symm)).trans (by rw[hh])) (fun u s hs=>?_) (BLe.refl _) (fun _ _ _=>rfl) (fun u k' hk'=>?_) ⟨ki,km,sn.push e.born,hki,p2,p3,p4,wn hklt,fun b=>?_,fun b hb=>?_⟩
            . obtain⟨_,_,o2,ho2,hc⟩:=hS.sim.domN hgi (by simp) u s hs;rw[hgi] at ho2;cases ho2;have:u=0:=by simp only[EO.cnt] at hc;omega
              subst this;rw[hki] at hs;cases hs;exact p4
            . obtain⟨a1,b1,o2,ho2,hc⟩:=hS.sim.domN hgi (by simp) u k' hk';rw[hgi] at ho2;cases ho2;exact⟨hc,by simpa[hsize] using a1,b1,.inl ⟨u,k',hk',rfl⟩⟩
            . rw[Array.toList_push,rt,fL,p6 b,eZ,y2.2.2];exact Or.comm
            . simp only[ae] at hb;subst hb;simp[y2.2.2]
          . intro D hD;refine(cH (fun e'=>?_)).trans (by rw[hh]);subst e';rw[p5] at hD;cases hD
     . cases he
   . cases he
 . cases he
end
def pi:IV->Bool
 | .tup xs=>xs.all fun x=>!x.isTup
 |_=>true
def jy(xs:List IV):Bool:=xs.all fun x=>!x.isTup
section
variable {X:EX}{H:ah}{U:Bm}
theorem Lc:∀{vs:List X3} {xs:List IV},VRL H vs xs->(xs.all fun x=>!x.isTup)=true->WRL X.Z H U vs (xs.map dW)
 |_,_,.nil,_=>trivial
 |_,_,.cons v x vs xs h t,ha=>by
  simp only[cF,az,fy] at ha;exact⟨LP h ha.1,Lc t ha.2⟩
theorem Ld{v:X3}{x:IV}(h:VR H v x)(ht:pi x=true):SRe X.Z H U v (dS x):=by
 cases hx:x.isTup with
 |false=>exact zx h hx
 |true=>
  cases x<;>first|(simp[IV.isTup] at hx;done)|skip
  rename_i xs;obtain⟨vs,rfl,h1⟩:=h.asTup;exact⟨vs,rfl,Lc h1 ht⟩
theorem uQ{Z:QS}:∀{vs:List X3} {cs:List IV},CRL Z H U vs (cs.map .iv)->VRL H vs cs/\∀u∈vs,u.oneCell'=true
 | [],[],_=>⟨.nil,by simp⟩
 |v::vs,c::cs,⟨h1,h2⟩=>by
  obtain⟨i1,i2⟩:=uQ (vs:=vs) (cs:=cs) h2;refine⟨.cons _ _ _ _ h1.2 i1,fun u hu=>?_⟩;rcases List.mem_cons.1 hu with rfl|hu
  . exact h1.1
  . exact i2 u hu
 | [],_::_,h=>h.elim
 |_::_,[],h=>h.elim
theorem C7{Z:QS}{v:X3}{x:IV}(h:SRe Z H U v (dS x))(ht:x.isTup=false):VR H v x:=by
 cases x<;>first|(simp[IV.isTup] at ht;done)|exact h.2|skip
 rename_i cs;obtain⟨vs,rfl,h1⟩:=h;obtain⟨h2,h3⟩:=uQ h1;exact .agg vs cs h2 h3
theorem SREL.data{Z:QS}:∀{vs:List X3} {xs:List IV},jy xs=true->SREL Z H U vs (xs.map dS)->VRL H vs xs
 | [],[],_,_=>.nil
 |v::vs,x::xs,hn,⟨h1,h2⟩=>by
  simp only[jy,cF,az,fy] at hn;exact .cons _ _ _ _ (C7 h1 hn.1) (SREL.data hn.2 h2)
 | [],_::_,_,h=>h.elim
 |_::_,[],_,h=>h.elim
end
def eG(X:EX)(nx:Nat)(f:qe)(args:List ES)(h:Hp)(K:ES->Wr->Nat->Option (List Nat)->Prop):Prop :=
 (∃xs r,a7 X.P X.I f xs r/\args=xs.map dS/\jy xs=true/\pi r=true/\K (dS r) [] 0 (some []))\/
 (∃r ws b,CallOk X f args h r (a8 h ws)/\(∀p∈ws,p.1<nx+b\/h p.1≠none)/\K r ws b none)\/
 ∃r ws b l,CallOk X f args h r (a8 h ws)/\CallOk X f args (dj (fun g=>bJ g l) h) r (a8 (dj (fun g=>bJ g l) h) ws)/\(∀p∈ws,(p.1<nx+b\/h p.1≠none)/\p.1∈l)/\K r ws b (some l)
def ib:Op->List X0
 | .load _ x | .slice _ x _ _ _ | .range _ x=>[x]
 | .store _ x _=>[x]
 | .lookup _ x _ _=>[x]
 | .mapUpdate _ x _ _ | .insert _ x _ _=>[x]
 | .call { callee:=.builtin _,args,argTypes:=_ }=>args.toList
 |_=>[]
def b7(o:Op)(V:X0->ES):List Nat:=(ib o).flatMap fun x=>b6 (V x)
def lF(o:Op)(V:X0->ES)(g:Nat):List Nat:=g::b7 o V
def qj:Op->Bool
 | .range _ _=>true
 |o=>LF o
def zY(v:Option ES)(d:Nat)(K:Nat->Prop):Prop :=
 match v with
 |none=>K d
 |some (.w (.one (.iv (.int _ n))))=>∃m:Nat,n=(m:Int)/\K m
 |_=>False
def zN:ES->Option Nat
 | .w (.one (.slc _ _ _ n _))=>some n
 | .w (.one (.iv (.sl es)))=>some es.length
 | .w (.one (.iv (.str l)))=>some l.length
 | .w (.one (.iv (.nil 3)))=>some 0
 |_=>none
def yD(X:EX)(nx:Nat)(o:Op)(tm:Nat->ES)(h:Hp)(K:ES->Wr->Nat->Option (List Nat)->Prop):Prop :=
 match eOp X.Z X.B o (aj tm) h nx with
 |some (r,ws)=>kU r fun r=>match qj o with
  |true=>K r ws 1 (some (lF o (aj tm) nx))
  |false=>K r ws 0 (some (b7 o (aj tm)))
 |none=>False
def pf(X:EX)(nx:Nat)(o:Op)(tm:Nat->ES)(h:Hp)(K:ES->Wr->Nat->Option (List Nat)->Prop):Prop :=
 match o with
 | .move x | .assign x=>kU (aj tm x) fun r=>K r [] 0 (some (b7 o (aj tm)))
 | .pick c a b=>match aj tm c with
  | .w (.one (.iv (.bool c)))=>∃r,(c=true->aj tm a=r)/\(c=false->aj tm b=r)/\K r [] 0 (some (b7 o (aj tm)))
  |_=>False
 | .alloc t=>match X.B.zw t with
  |some z=>K (.w (.one (.ptr nx 0 0))) [(nx,.mem t (z.cells X.Z) false [(0,(z.cells X.Z).length)] 1)] 1 (some (lF o (aj tm) nx))
  |none=>False
 | .box t x=>match aj tm x with
  | .w y=>K (.w (.one (.ptr nx 0 0))) [(nx,.mem t (y.cells X.Z) false [(0,(y.cells X.Z).length)] 1)] 1 (some (lF o (aj tm) nx))
  |_=>False
 | .binOp op t x y _=>match aj tm x,aj tm y with
  | .w (.one (.iv (.int k a))),.w (.one (.iv (.int k' b)))=>k=k'/\mh op k a b fun r=>K (ac r) [] 0 (some (b7 o (aj tm)))
  | .w (.one (.iv (.str a))),.w (.one (.iv (.str b)))=>a.length+b.length<=1000000/\mf op a b fun r=>K (ac r) [] 0 (some (b7 o (aj tm)))
  |_,_=>yD X nx o tm h K
 | .unOp op _ x=>match op,aj tm x with
  | .not,.w (.one (.iv (.bool a)))=>∃c,(!a)=c/\K (ac (.bool c)) [] 0 (some (b7 o (aj tm)))
  | .neg,.w (.one (.iv (.int k a)))=>∃n,k.wrap (0-a)=n/\K (ac (.int k n)) [] 0 (some (b7 o (aj tm)))
  |_,_=>False
 | .convert s d x=>match X.B.T s,X.B.T d,aj tm x with
  |some ts,some td,.w (.one (.iv (.int _ a)))=>match ts.sh,td.sh with
   | .int _,.int k=>∃n,k.wrap a=n/\K (ac (.int k n)) [] 0 (some (b7 o (aj tm)))
   |_,_=>False
  |_,_,_=>False
 | .load t x=>match X.B.T t with
  |some ty=>match aj tm x with
   | .w (.one (.dp y off))=>match ji ty.sh.agg ty.size y off with
    |some r=>match r.isTup with
     |false=>K (dS r) [] 0 (some (b7 o (aj tm)))
     |true=>False
    |none=>False
   | .w (.one (.ptr g u off))=>∃cs,g3 (h g) u off ty.size=some cs/\(match mkV X.Z ty.sh.agg cs with
    |some r=>kU (.w r) fun r=>K r [] 0 (some (b7 o (aj tm)))
    |none=>False)
   |_=>False
  |none=>False
 | .store t x y=>match X.B.T t,aj tm x,aj tm y with
  |some ty,.w (.one (.ptr g u off)),.w z=>bif Nat.beq (z.cells X.Z).length ty.size then(∃o',il (h g) u off (z.cells X.Z)=some o'/\K .und [(g,o')] 0 (some (b7 o (aj tm)))) else False
  |_,_,_=>False
 | .makeSlice t l c=>match X.B.T t,aj tm l,aj tm c with
  |some ty,.w (.one (.iv (.int _ a))),.w (.one (.iv (.int _ b)))=>match ty.sh with
   | .slice e=>match X.B.T e,X.B.ze X.Z e with
    |some te,some zs=>bif Nat.blt 0 te.size&&Nat.beq zs.length te.size then(a=b/\∃m:Nat,a=(m:Int)/\te.bytes*m<=281474976710656/\m<=1000000/\
     K (.w (.one (.slc nx 0 0 m (.ex m)))) [(nx,.mem e (gC zs m) false [(0,(gC zs m).length)] 1)] 1 (some (lF o (aj tm) nx))) else False
    |_,_=>False
   |_=>False
  |_,_,_=>False
 | .slice t x lo hi mx=>match X.B.T t with
  |some ty=>match ty.sh,aj tm x with
   | .slice e,.w (.one (.iv (.sl es)))=>match X.B.T e,mx with
    |some te,none=>zY (hi.map (aj tm)) es.length fun u=>zY (lo.map (aj tm)) 0 fun l=>l<=u/\u<=es.length/\(l=0\/dI te.size es=true)/\K (ac (.sl ((es.take u).drop l))) [] 0 (some (b7 o (aj tm)))
    |_,_=>False
   | .slice e,.w (.one (.slc g u off n cap))=>∃r,iF X.B.T h t (aj tm x) (lo.map (aj tm)) (hi.map (aj tm)) (mx.map (aj tm))=some (r,[])/\kU r fun r=>K r [] 0 (some (b7 o (aj tm)))
   | .array n e,.w (.one (.ptr g u off))=>match X.B.T e,lo,hi,mx with
    |some _,none,none,none=>K (.w (.one (.slc g u off n (.ex n)))) [] 0 (some (b7 o (aj tm)))
    |_,_,_,_=>False
   |_,_=>False
  |none=>False
 | .fieldAddr s x j=>match X.B.T s with
  |some ty=>match ty.sh,ty.fields[j]? with
   | .struct,some (fo,_,sz)=>bif Nat.blt 0 sz then(match aj tm x with
    | .w (.one (.ptr g u off))=>∃o',off+fo=o'/\K (.w (.one (.ptr g u o'))) [] 0 (some (b7 o (aj tm)))
    | .w (.one (.dp y off))=>K (.w (.one (.dp y (off+fo)))) [] 0 (some (b7 o (aj tm)))
    |_=>False) else False
   |_,_=>False
  |none=>False
 | .indexAddr t x ix=>match X.B.T t with
  |some ty=>match ty.sh,aj tm x,aj tm ix with
   | .slice e,.w (.one (.iv (.sl es))),.w (.one (.iv (.int _ a)))=>match X.B.T e with
    |some te=>∃(j:Nat) (y:IV),a=(j:Int)/\es[j]?=some y/\y.cells.length=te.size/\K (.w (.one (.dp y 0))) [] 0 (some (b7 o (aj tm)))
    |none=>False
   | .slice e,.w (.one (.slc g u off n _)),.w (.one (.iv (.int _ a)))=>match X.B.T e with
    |some te=>∃j:Nat,a=(j:Int)/\j<n/\∃o',off+j*te.size=o'/\K (.w (.one (.ptr g u o'))) [] 0 (some (b7 o (aj tm)))
    |none=>False
   | .array n e,.w (.one (.ptr g u off)),.w (.one (.iv (.int _ a)))=>match X.B.T e with
    |some te=>∃j:Nat,a=(j:Int)/\j<n/\∃o',off+j*te.size=o'/\K (.w (.one (.ptr g u o'))) [] 0 (some (b7 o (aj tm)))
    |none=>False
   |_,_,_=>False
  |none=>False
 | .index t x ix=>match X.B.T t with
  |some ty=>match ty.sh,aj tm x,aj tm ix with
   | .array n e,.w (.agg cs),.w (.one (.iv (.int _ a)))=>match X.B.T e with
    |some te=>bif Nat.beq te.size 1 && !te.sh.agg then(∃(j:Nat) (c:EV),a=(j:Int)/\j<n/\cs[j]?=some c/\K (.w (.one c)) [] 0 (some (b7 o (aj tm)))) else False
    |none=>False
   |_,_,_=>False
  |none=>False
 | .call { callee:=.builtin b,args,argTypes }=>match b,args.toList,argTypes.toList with
  | .len,[x],[t]=>match X.B.T t with
   |some ty=>match ty.sh,aj tm x,zN (aj tm x) with
    | .string,.w (.one (.iv (.str _))),some n=>∃m:Int,(n:Int)=m/\K (ac (.int .i64 m)) [] 0 (some (b7 o (aj tm)))
    | .slice _,.w (.one (.iv (.sl _))),some n=>∃m:Int,(n:Int)=m/\K (ac (.int .i64 m)) [] 0 (some (b7 o (aj tm)))
    | .slice _,.w (.one (.slc ..)),some n=>∃m:Int,(n:Int)=m/\K (ac (.int .i64 m)) [] 0 (some (b7 o (aj tm)))
    | .slice _,.w (.one (.iv (.nil 3))),some _=>K (ac (.int .i64 0)) [] 0 (some (b7 o (aj tm)))
    |_,_,_=>False
   |none=>False
  | .max,[x,y],_=>match aj tm x,aj tm y with
   | .w (.one (.iv (.int k a))),.w (.one (.iv (.int _ c)))=>∃n,(if c>a then c else a)=n/\K (ac (.int k n)) [] 0 (some (b7 o (aj tm)))
   |_,_=>False
  | .min,[x,y],_=>match aj tm x,aj tm y with
   | .w (.one (.iv (.int k a))),.w (.one (.iv (.int _ c)))=>∃n,(if c<a then c else a)=n/\K (ac (.int k n)) [] 0 (some (b7 o (aj tm)))
   |_,_=>False
  | .append,[s,x],[t,t']=>bif Nat.beq t t' then(∃g b r ws,jw X.B.T h g t (aj tm s) (aj tm x)=some (r,ws)/\g<nx+b/\K r ws b (some (lF o (aj tm) g))) else False
  | .copy,[d,x],[t,_]=>∃r ws,ny X.B.T h t (aj tm d) (aj tm x)=some (r,ws)/\K r ws 0 (some (b7 o (aj tm)))
  | .clear,[d],[t]=>∃r ws,k8 X.B.T (X.B.ze X.Z) h t (aj tm d)=some (r,ws)/\K r ws 0 (some (b7 o (aj tm)))
  |_,_,_=>False
 | .lookup t x ix c=>∃r,mb X.B.mp X.B.zw h t (aj tm x) (aj tm ix) c=some (r,[])/\K r [] 0 (some (b7 o (aj tm)))
 | .mapUpdate t m k v | .insert t m k v=>∃g o',jr X.B.mp h t (aj tm m) (aj tm k) (aj tm v)=some (.und,[(g,o')])/\K .und [(g,o')] 0 (some (b7 o (aj tm)))
 | .range t x=>match X.B.mp t,aj tm x with
  |some _,.w (.one (.mp gm))=>∃es ck,h gm=some (.map es ck)/\K (.w (.one (.ptr nx 0 0))) [(nx,.iter gm ck [] ck none)] 1 (some (lF o (aj tm) nx))
  |_,_=>False
 | .call { callee:=.value fo,args,argTypes:=_ }=>match aj tm fo with
  | .w (.one (.iv (.fn f)))=>eG X nx f (args.toList.map (aj tm)) h K
  | .w (.one (.clo f gs))=>eG X nx f (args.toList.map (aj tm)++kB gs) h K
  |_=>False
 | .build _ _ | .buildSlice _ _ _ | .nilCheck _ | .makeFunc _ _ _ | .field _ _ _ | .extract _ _ | .makeMap _ _=>yD X nx o tm h K
 |_=>False
theorem Sq{V:X0->ES}{x:X0}{g u off:Nat}(h:V x=.w (.one (.ptr g u off))):g∈b6 (V x):=by rw[h];simp[b6]
theorem Gc{h h':Hp}{sz:Nat}{x:ES}(he:∀i∈b6 x,h' i=h i):gU h' sz x=gU h sz x:=by
 unfold gU;split
 . rw[he _ (by simp[b6])]
 . rfl
 . rfl
 . rfl
theorem ul{h h':Hp}{g:Nat}{e:me}{cs:List EV}{k:Nat->Nat->ES}(he:h' g=h g):gX h' g e cs k=gX h g e cs k:=by
 unfold gX;rw[he]
theorem OQ{T:me->Option TY}{Z:QS}{h h':Hp}{t:me}{x:ES}(he:∀i∈b6 x,h' i=h i):jB T Z h' t x=jB T Z h t x:=by
 unfold jB;split
 . rw[he _ (by simp[b6])]
 . rfl
 . rfl
theorem Oo{T:me->Option TY}{Z:QS}{h h':Hp}{t:me}{x y:ES}(he:∀i∈b6 x,h' i=h i):oC T Z h' t x y=oC T Z h t x y:=by
 unfold oC;split
 . rw[he _ (by simp[b6])]
 . rfl
theorem Oq{T:me->Option TY}{h h':Hp}{t:me}{x:ES}{lo hi mx:Option ES}(he:∀i∈b6 x,h' i=h i):iF T h' t x lo hi mx=iF T h t x lo hi mx:=by
 unfold iF;split
 . split
   . rw[he _ (by simp[b6])]
   . rfl
   . rfl
   . rfl
 . rfl
theorem Ob{T:me->Option TY}{h h':Hp}{g:Nat}{t:me}{s x:ES}(hg:h' g=h g)(hs:∀i∈b6 s,h' i=h i)(hx:∀i∈b6 x,h' i=h i):jw T h' g t s x=jw T h g t s x:=by
 unfold jw;have hsr:∀sz,gU h' sz x=gU h sz x:=fun sz=>Gc hx;simp only[hsr];have hn:∀e cs k,gX h' g e cs k=gX h g e cs k:=fun e cs k=>ul hg;simp only[hn];by_cases hsl:∃g1 u1 off1 n1 cap,s=.w (.one (.slc g1 u1 off1 n1 cap))
 . obtain⟨g1,u1,off1,n1,cap,rfl⟩:=hsl;have e1:h' g1=h g1:=hs g1 (by simp[b6]);simp only[e1]
 . repeat' split
   all_goals first|rfl|exact absurd ⟨_,_,_,_,_,rfl⟩ hsl
theorem OS{T:me->Option TY}{h h':Hp}{t:me}{s x:ES}(hs:∀i∈b6 s,h' i=h i)(hx:∀i∈b6 x,h' i=h i):ny T h' t s x=ny T h t s x:=by
 unfold ny;have hsr:∀sz,gU h' sz x=gU h sz x:=fun sz=>Gc hx;simp only[hsr];split
 . split
   . split
     . split
       . rename_i news m g1 u1 off1 n1 cap _;have e1:h' g1=h g1:=hs g1 (by simp[b6]);simp only[e1]
       . rfl
     . rfl
   . rfl
 . rfl
theorem Ou{T:me->Option TY}{ze:me->Option (List EV)}{h h':Hp}{t:me}{s:ES}(hs:∀i∈b6 s,h' i=h i):k8 T ze h' t s=k8 T ze h t s:=by
 unfold k8;split
 . split
   . split
     . split
       . rename_i g1 u1 off1 n1 cap;have e1:h' g1=h g1:=hs g1 (by simp[b6]);simp only[e1]
       . rfl
       . rfl
       . rfl
     . rfl
   . rfl
 . rfl
theorem Oa{mk:me->Option (me×me×(KV->Bool))}{zw:me->Option EW}{h h':Hp}{t:me}{x ix:ES}{c:Bool}(hs:∀i∈b6 x,h' i=h i):mb mk zw h' t x ix c=mb mk zw h t x ix c:=by
 unfold mb;split
 . rw[hs _ (by simp[b6])]
 . rfl
theorem FD{mk:me->Option (me×me×(KV->Bool))}{h h':Hp}{t:me}{x ix y:ES}(hs:∀i∈b6 x,h' i=h i):jr mk h' t x ix y=jr mk h t x ix y:=by
 unfold jr;split
 . rw[hs _ (by simp[b6])]
 . rfl
theorem Ot{mk:me->Option (me×me×(KV->Bool))}{h h':Hp}{g:Nat}{t:me}{x:ES}(hg:h' g=h g)(hs:∀i∈b6 x,h' i=h i):oD mk h' g t x=oD mk h g t x:=by
 unfold oD;split
 . rw[hs _ (by simp[b6]),hg]
 . rfl
theorem N4{T:me->Option TY}{ze:me->Option (List EV)}{h h':Hp}{g:Nat}{b:Builtin}{ats:List me}{args:List ES}(hg:b=.append->h' g=h g)(hs:∀x∈args,∀i∈b6 x,h' i=h i):fN T ze h' g b ats args=fN T ze h g b ats args:=by
 unfold fN;split
 . rfl
 . rfl
 . rfl
 . rw[Ob (hg rfl) (hs _ (by simp)) (hs _ (by simp))]
 . rw[OS (hs _ (by simp)) (hs _ (by simp))]
 . rw[Ou (hs _ (by simp))]
 . rfl
theorem Qw{Z:QS}{B:Tab}{o:Op}{V:X0->ES}{h h':Hp}{g:Nat}(hne:∀x,o≠ .entry x)(hg:qj o=true->h' g=h g)(hs:∀i∈b7 o V,h' i=h i):eOp Z B o V h' g=eOp Z B o V h g:=by
 have hx:∀x∈ib o,∀i∈b6 (V x),h' i=h i:=fun x hx i hi=>hs i (List.mem_flatMap.2 ⟨x,hx,hi⟩);unfold eOp;split
 . rfl
 . rfl
 . rfl
 . unfold sH;simp only[ul (hg rfl)]
 . unfold tg;simp only[ul (hg rfl)]
 . rfl
 . unfold ue;simp only[ul (hg rfl)]
 . exact OQ (hx _ (by simp[ib]))
 . exact Oo (hx _ (by simp[ib]))
 . rfl
 . rfl
 . rfl
 . rfl
 . rfl
 . unfold rQ;simp only[ul (hg rfl)]
 . exact Oq (hx _ (by simp[ib]))
 . rfl
 . rfl
 . rfl
 . rfl
 . rename_i b args ats;refine N4 (fun e=>?_) (fun x hx'=>?_)
   . subst e;exact hg rfl
   . obtain⟨y,hy,rfl⟩:=List.mem_map.1 hx';exact hx y (by simpa[ib] using hy)
 . unfold uJ;rw[hg rfl]
 . exact Oa (hx _ (by simp[ib]))
 . exact FD (hx _ (by simp[ib]))
 . exact FD (hx _ (by simp[ib]))
 . exact Ot (hg rfl) (hx _ (by simp[ib]))
 . rename_i x;exact absurd rfl (hne x)
 . rfl
 . rfl
def Wok(h:Hp)(g:Nat)(l:List Nat)(ws:Wr):Prop:=∀p∈ws,p.1=g\/(h p.1≠none/\p.1∈l)
theorem Wok.nil{h:Hp}{g:Nat}{l:List Nat}:Wok h g l []:=fun _ hp=>by cases hp
theorem Wok.one{h:Hp}{g g':Nat}{l:List Nat}{o:EO}(h1:h g'≠none)(h2:g'∈l):Wok h g l [(g',o)]:=fun p hp=>by
 simp only[fL] at hp;subst hp;exact .inr ⟨h1,h2⟩
theorem uE{o:Option EO}{u off:Nat}{new:List EV}{o':EO}(h:il o u off new=some o'):o≠none:=by
 intro e;subst e;simp[il] at h
theorem B4{h:Hp}{g:Nat}{e:me}{cs:List EV}{k:Nat->Nat->ES}{r:ES}{ws:Wr}{l:List Nat}(he:gX h g e cs k=some (r,ws)):Wok h g l ws:=by
 unfold gX at he;split at he
 . rw[cZ,bd] at he;simp only[ae,aA] at he;obtain⟨_,rfl⟩:=he;intro p hp;simp only[fL] at hp;subst hp;exact .inl rfl
 . cases he
theorem OT{T:me->Option TY}{h:Hp}{g:Nat}{t:me}{s x:ES}{r:ES}{ws:Wr}(he:jw T h g t s x=some (r,ws)):Wok h g (b6 s) ws:=by
 unfold jw at he;split at he
 . split at he
   . split at he
     . rename_i te _;cases hb:(Nat.blt 0 te.size&&Nat.beq te.zero.cells.length te.size) with
       |false=>rw[hb] at he;cases he
       |true=>
        rw[hb] at he;simp only[af] at he;split at he
        . rename_i news m _;split at he
          . cases h1:Nat.beq m 0 with
            |true=>rw[h1] at he;simp only[af,ae,aA] at he;rw[<-he.2];exact Wok.nil
            |false=>
             rw[h1] at he;simp only[aX] at he;generalize (Nat.ble m 1000000&&Nat.ble (m*te.bytes) 140737488355328)=b2 at he;cases b2 with
             |false=>cases he
             |true=>simp only[af] at he;exact B4 he
          . rename_i g1 u1 off1 n1 cap;cases h1:Nat.beq m 0 with
            |true=>rw[h1] at he;simp only[af,ae,aA] at he;rw[<-he.2];exact Wok.nil
            |false=>
             rw[h1] at he;simp only[aX] at he;generalize (Nat.ble (n1+m) 1000000&&Nat.ble ((n1+m)*te.bytes) 140737488355328)=b2 at he;cases b2 with
             |false=>cases he
             |true=>
              simp only[af] at he;split at he
              . rename_i c;generalize Nat.ble (n1+m) c=b3 at he;cases b3 with
                |true=>
                 simp only[af] at he;split at he
                 . rename_i o hw;rw[bd] at he;simp only[ae,aA] at he;rw[<-he.2];exact Wok.one (uE hw) (by simp[b6])
                 . cases he
                |false=>
                 simp only[aX] at he;split at he
                 . exact B4 he
                 . cases he
              . rename_i sz;split at he
                . rename_i e1 cs vs cnt hg1;generalize (Nat.beq sz te.size&&Nat.beq e1 _&&Nat.beq off1 0)=b3 at he;cases b3 with
                  |false=>cases he
                  |true=>
                   simp only[af] at he;split at he
                   . rename_i p hv;generalize Nat.ble ((n1+m)*te.size) p=b4 at he;cases b4 with
                     |true=>
                      simp only[af] at he;split at he
                      . rename_i o hw;rw[bd] at he;simp only[ae,aA] at he;rw[<-he.2];exact Wok.one (uE hw) (by simp[b6])
                      . cases he
                     |false=>
                      simp only[aX] at he;generalize Nat.ble (n1*te.size) p=b5 at he;cases b5 with
                      |true=>
                       simp only[af,cZ,bd,ae,aA] at he;rw[<-he.2];exact Wok.one (by rw[hg1];simp) (by simp[b6])
                      |false=>cases he
                   . cases he
                . cases he
          . cases he
        . cases he
     . cases he
   . cases he
 . cases he
theorem Qx{T:me->Option TY}{h:Hp}{g:Nat}{t:me}{d x:ES}{r:ES}{ws:Wr}(he:ny T h t d x=some (r,ws)):Wok h g (b6 d) ws:=by
 unfold ny at he;split at he
 . split at he
   . split at he
     . split at he
       . rw[bd] at he;split at he
         . rename_i o hw;simp only[ae,aA] at he;rw[<-he.2];exact Wok.one (uE hw) (by simp[b6])
         . cases he
       . cases he
     . cases he
   . cases he
 . cases he
theorem Pq{T:me->Option TY}{ze:me->Option (List EV)}{h:Hp}{g:Nat}{t:me}{d:ES}{r:ES}{ws:Wr}(he:k8 T ze h t d=some (r,ws)):Wok h g (b6 d) ws:=by
 unfold k8 at he;split at he
 . split at he
   . split at he
     . rename_i te zs _ _;cases hb:Nat.beq zs.length te.size with
       |false=>rw[hb] at he;cases he
       |true=>
        rw[hb] at he;simp only[af] at he;split at he
        . split at he
          . rename_i o hw;simp only[ae,aA] at he;rw[<-he.2];exact Wok.one (uE hw) (by simp[b6])
          . cases he
        . simp only[ae,aA] at he;rw[<-he.2];exact Wok.nil
        . simp only[ae,aA] at he;rw[<-he.2];exact Wok.nil
        . cases he
     . cases he
   . cases he
 . cases he
theorem FJ{mk:me->Option (me×me×(KV->Bool))}{h:Hp}{g:Nat}{t:me}{x ix y:ES}{r:ES}{ws:Wr}(he:jr mk h t x ix y=some (r,ws)):Wok h g (b6 x) ws:=by
 unfold jr at he;split at he
 . rename_i k0 e0 ok g1 kx v hmk;split at he
   . rename_i es ck k hg1 hk;cases hb:ok k with
     |false=>rw[hb] at he;cases he
     |true=>
      rw[hb] at he;simp only[af] at he;split at he
      . rw[bd,cZ] at he;simp only[ae,aA] at he;rw[<-he.2];exact Wok.one (by rw[hg1];simp) (by simp[b6])
      . rw[cZ] at he;simp only[ae,aA] at he;rw[<-he.2];exact Wok.one (by rw[hg1];simp) (by simp[b6])
      . cases he
   . cases he
 . cases he
theorem lV(k:IntKind)(n:Int):ig k n=some (ac (.int k n),[]):=by unfold ig;rw[BI]
theorem Bj(b:Bool):iW b=some (ac (.bool b),[]):=by cases b<;>rfl
theorem Rr{op:BinOp}{k:IntKind}{p q:Int}{J:IV->Prop}(h:mh op k p q J):∃r,s8 op k p q=some (ac r,[])/\J r:=by
 cases op<;>simp only[mh] at h<;>first
  |exact h.elim
  | (obtain⟨n,rfl,hJ⟩:=h
     simp only[s8,lV,Bj];exact⟨_,rfl,hJ⟩)
  | (obtain⟨hq,n,rfl,hJ⟩:=h
     simp only[s8,bl hq,aX,lV];exact⟨_,rfl,hJ⟩)
theorem QT{op:BinOp}{p q:List UInt8}(hl:p.length+q.length<=1000000){J:IV->Prop}(h:mf op p q J):∃r,strE op p q=some (ac r,[])/\J r:=by
 cases op<;>simp only[mf] at h<;>first
  |exact h.elim
  | (simp only[strE,fM hl,af,cZ]
     exact⟨_,rfl,h.2⟩)
  | (obtain⟨n,rfl,hJ⟩:=h
     simp only[strE,Bj];exact⟨_,rfl,hJ⟩)
theorem Lj{v:Option ES}{d:Nat}{K:Nat->Prop}(h:zY v d K):∃m,jN v d=some m/\K m:=by
 unfold zY at h;split at h
 . exact⟨d,rfl,h⟩
 . rename_i k n;obtain⟨m,rfl,hK⟩:=h;exact⟨m,rfl,hK⟩
 . exact h.elim
structure OpS(X:EX)(nx:Nat)(o:Op)(tm:Nat->ES)(h:Hp)(K:ES->Wr->Nat->Option (List Nat)->Prop):Prop where
 res:∃g b r ws fp,eOp X.Z X.B o (aj tm) h g=some (r,ws)/\(qj o=true->g∈fp)/\(∀i∈b7 o (aj tm),i∈fp)/\(∀p∈ws,(p.1<nx+b\/h p.1≠none)/\p.1∈fp)/\K r ws b (some fp)
 ne:∀x,o≠ .entry x
section
variable {X:EX}{nx:Nat}{o:Op}{tm:Nat->ES}{h:Hp}{K:ES->Wr->Nat->Option (List Nat)->Prop}
theorem OpS.pure{r:ES}(hm:qj o=false)(hne:∀x,o≠ .entry x)(he:∀g,eOp X.Z X.B o (aj tm) h g=some (r,[]))(hK:K r [] 0 (some (b7 o (aj tm)))):OpS X nx o tm h K :=
 ⟨⟨nx,0,r,[],_,he nx,fun e=>(by rw[hm] at e;cases e),fun i hi=>hi,fun p hp=>(by cases hp),hK⟩,hne⟩
theorem qi{g b:Nat}{r:ES}{ws:Wr}(hne:∀x,o≠ .entry x)(hg:g<nx+b)(he:eOp X.Z X.B o (aj tm) h g=some (r,ws))(hw:Wok h g (b7 o (aj tm)) ws)(hK:K r ws b (some (lF o (aj tm) g))):OpS X nx o tm h K :=
 ⟨⟨g,b,r,ws,_,he,fun _=>(by simp[lF]),fun i hi=>(by simp[lF,hi]),fun p hp=>(hw p hp).elim (fun e=>by rw[e];exact⟨.inl hg,by simp[lF]⟩) (fun e=>⟨.inr e.1,by simp[lF,e.2]⟩),hK⟩,hne⟩
theorem OpS.wr{r:ES}{ws:Wr}(hm:qj o=false)(hne:∀x,o≠ .entry x)(he:∀g,eOp X.Z X.B o (aj tm) h g=some (r,ws))(hw:∀p∈ws,h p.1≠none/\p.1∈b7 o (aj tm))(hK:K r ws 0 (some (b7 o (aj tm)))):OpS X nx o tm h K :=
 ⟨⟨nx,0,r,ws,_,he nx,fun e=>(by rw[hm] at e;cases e),fun i hi=>hi,fun p hp=>⟨.inr (hw p hp).1,(hw p hp).2⟩,hK⟩,hne⟩
def CE:Op->Bool
 | .build _ _ | .buildSlice _ _ _ | .nilCheck _ | .makeFunc _ _ _ | .field _ _ _ | .extract _ _ | .makeMap _ _ | .binOp _ _ _ _ _=>true
 |_=>false
theorem P3{g:Nat}{r:ES}{ws:Wr}(hp:CE o=true)(he:eOp X.Z X.B o (aj tm) h g=some (r,ws)):(qj o=true/\Wok h g (b7 o (aj tm)) ws)\/ws=[]:=by
 unfold eOp at he;split at he<;>first|(simp[CE] at hp;done)|skip
 . unfold yS at he;split at he
   . split at he
     . split at he
       . rw[cZ] at he;simp only[ae,aA] at he;exact .inr he.2.symm
       . cases he
     . split at he
       . split at he
         . rw[cZ] at he;simp only[ae,aA] at he;exact .inr he.2.symm
         . cases he
       . cases he
     . cases he
   . cases he
 . unfold ue at he;split at he
   . split at he
     . split at he
       . rename_i te zs _ _;generalize (Nat.blt 0 te.size&&Nat.ble _ 16777216&&Nat.beq zs.length te.size)=b at he;cases b with
         |false=>cases he
         |true=>
          simp only[af] at he;split at he
          . exact .inl ⟨rfl,B4 he⟩
          . cases he
       . cases he
     . cases he
   . cases he
 . unfold zT at he;split at he
   . simp only[ae,aA] at he;exact .inr he.2.symm
   . simp only[ae,aA] at he;exact .inr he.2.symm
   . cases he
 . unfold oV at he;split at he
   . rename_i k a k' b _ _;cases hd:decide (k=k') with
     |false=>rw[hd] at he;cases he
     |true=>rw[hd] at he;exact .inr (Ii he).1
   . exact .inr (HQ he).1
   . split at he
     . split at he
       . exact .inr (pV he).2
       . cases he
     . split at he
       . exact .inr (pV he).2
       . cases he
     . cases he
   . cases he
 . unfold xi at he;split at he
   . simp only[ae,aA] at he;exact .inr he.2.symm
   . simp only[ae,aA] at he;exact .inr he.2.symm
   . cases he
 . unfold yR at he;split at he
   . split at he
     . rename_i fo ag sz _ _;generalize Nat.ble (fo+sz) _=b at he;cases b with
       |false=>cases he
       |true=>
        simp only[af,cZ] at he;split at he
        . simp only[ae,aA] at he;exact .inr he.2.symm
        . cases he
     . cases he
   . cases he
 . unfold xD at he;split at he
   . split at he
     . simp only[ae,aA] at he;exact .inr he.2.symm
     . cases he
   . cases he
 . unfold uJ at he;split at he
   . rename_i hg;simp only[ae,aA] at he;refine .inl ⟨rfl,?_⟩;rw[<-he.2];intro p hp;simp only[fL] at hp;subst hp;exact .inl rfl
   . cases he
theorem Hc(hp:CE o=true)(hK:yD X nx o tm h K):OpS X nx o tm h K:=by
 have hne:∀x,o≠ .entry x:=fun x e=>by subst e;cases hp
 unfold yD at hK;split at hK
 . rename_i r ws he;rw[m8] at hK;rcases P3 hp he with⟨hm,hw⟩|hw
   . rw[hm] at hK;exact qi hne (by omega) he hw hK
   . subst hw;cases hm:qj o with
     |true=>
      rw[hm] at hK;exact qi hne (by omega) he Wok.nil hK
     |false=>
      rw[hm] at hK;exact⟨⟨nx,0,r,[],_,he,fun e=>(by rw[hm] at e;cases e),fun i hi=>hi,fun p hp=>(by cases hp),hK⟩,hne⟩
 . exact hK.elim
theorem xb{g:Nat}{e:me}{cs:List EV}{k:Nat->Nat->ES}(hg:h g=none):gX h g e cs k=some (k g cs.length,[(g,.mem e cs false [(0,cs.length)] 1)]):=by
 unfold gX;rw[hg];simp only[cZ,bd]
theorem xM{g:Nat}{o':EO}{l:List Nat}:Wok h g l [(g,o')]:=fun p hp=>by
 simp only[fL] at hp;subst hp;exact .inl rfl
theorem Vo(hf:∀g,nx<=g->h g=none)(hcall:ql o=none)(hK:pf X nx o tm h K):OpS X nx o tm h K:=by
 have hnx:=hf nx (ak _);unfold pf at hK;split at hK
 . rw[m8] at hK;exact OpS.pure rfl (by intro _ e;cases e) (fun _=>rfl) hK
 . rw[m8] at hK;exact OpS.pure rfl (by intro _ e;cases e) (fun _=>rfl) hK
 . -- pick
   split at hK
   . rename_i b hc;obtain⟨r,h1,h2,hK⟩:=hK;refine OpS.pure rfl (by intro _ e;cases e) (fun _=>?_) hK;show vk _ _ _=_;unfold vk;rw[hc];cases b with
     |true=>simp only[h1 rfl]
     |false=>simp only[h2 rfl]
   . exact hK.elim
 . -- alloc
   rename_i t;split at hK
   . rename_i z hz;refine qi (by intro _ e;cases e) (by omega) ?_ xM hK;show sH _ _ _ _=_;unfold sH Tab.ze;rw[hz];simp only[fa,xb hnx]
   . exact hK.elim
 . -- box
   rename_i t x;split at hK
   . rename_i y hx;refine qi (by intro _ e;cases e) (by omega) ?_ xM hK;show tg _ _ _ _ _=_;unfold tg;rw[hx];simp only[xb hnx]
   . exact hK.elim
 . -- binOp
   rename_i op t x y t';split at hK
   . rename_i k a k' b hx hy;obtain⟨rfl,hK⟩:=hK;obtain⟨r,he,hK⟩:=Rr hK;refine OpS.pure rfl (by intro _ e;cases e) (fun _=>?_) hK;show oV _ _ _ _ _=_;unfold oV;rw[hx,hy];simp only[decide_true,af,he]
   . rename_i a b hx hy;obtain⟨hl,hK⟩:=hK;obtain⟨r,he,hK⟩:=QT hl hK;refine OpS.pure rfl (by intro _ e;cases e) (fun _=>?_) hK;show oV _ _ _ _ _=_;unfold oV;rw[hx,hy];simp only[he]
   . exact Hc rfl hK
 . -- unOp
   rename_i op t x;split at hK
   . rename_i a hx;obtain⟨c,rfl,hK⟩:=hK;refine OpS.pure rfl (by intro _ e;cases e) (fun _=>?_) hK;show rj _ _=_;unfold rj;rw[hx];simp only[Bj]
   . rename_i k a hx;obtain⟨c,rfl,hK⟩:=hK;refine OpS.pure rfl (by intro _ e;cases e) (fun _=>?_) hK;show rj _ _=_;unfold rj;rw[hx];simp only[lV]
   . exact hK.elim
 . -- convert
   rename_i s d x;split at hK
   . rename_i ts td k0 a hs hd hx;split at hK
     . rename_i k1 k h1 h2;obtain⟨n,rfl,hK⟩:=hK;refine OpS.pure rfl (by intro _ e;cases e) (fun _=>?_) hK;show vl _ _ _ _=_;unfold vl;rw[hs,hd,hx];simp only[h1,h2,lV]
     . exact hK.elim
   . exact hK.elim
 . -- load
   rename_i t x;split at hK
   . rename_i ty ht;split at hK
     . rename_i y off hx;split at hK
       . rename_i r hl;split at hK
         . rename_i hr;refine OpS.pure rfl (by intro _ e;cases e) (fun _=>?_) hK;show jB _ _ _ _ _=_;unfold jB;rw[ht,hx];simp only[hl,hr,aX]
         . exact hK.elim
       . exact hK.elim
     . rename_i g u off hx;obtain⟨cs,hrd,hK⟩:=hK;split at hK
       . rename_i r hv;rw[m8] at hK;refine OpS.pure rfl (by intro _ e;cases e) (fun _=>?_) hK;show jB _ _ _ _ _=_;unfold jB;rw[ht,hx];simp only[hrd,cZ,hv]
       . exact hK.elim
     . exact hK.elim
   . exact hK.elim
 . -- store
   rename_i t x y;split at hK
   . rename_i ty g u off z ht hx hy;cases hb:Nat.beq (z.cells X.Z).length ty.size with
     |false=>rw[hb] at hK;exact hK.elim
     |true=>
      rw[hb] at hK;simp only[af] at hK;obtain⟨o',hw,hK⟩:=hK;refine OpS.wr rfl (by intro _ e;cases e) (fun _=>?_) (fun p hp=>?_) hK
      . show oC _ _ _ _ _ _=_;unfold oC;rw[ht,hx,hy];simp only[hb,af,hw]
      . simp only[fL] at hp;subst hp;exact⟨uE hw,List.mem_flatMap.2 ⟨x,by simp[ib],Sq hx⟩⟩
   . exact hK.elim
 . -- makeSlice
   rename_i t l c;split at hK
   . rename_i ty k a k' b ht hl hc;split at hK
     . rename_i e hsh;split at hK
       . rename_i te zs hte hze;cases hb:(Nat.blt 0 te.size&&Nat.beq zs.length te.size) with
         |false=>rw[hb] at hK;exact hK.elim
         |true=>
          rw[hb] at hK;simp only[af] at hK;obtain⟨rfl,m,rfl,h1,h2,hK⟩:=hK;simp only[az] at hb;have hl':aj tm l=.w (.one (.iv (.int k (Int.ofNat m)))):=hl;have hc':aj tm c=.w (.one (.iv (.int k' (Int.ofNat m)))):=hc;refine qi (by intro _ e;cases e) (by omega) ?_ xM hK;show rQ _ _ _ _ _ _ _=_;unfold rQ;rw[ht,hl',hc'];simp only[hsh,hte,hze,bh,hb.1,hb.2,fM h1,fM h2,lS,af,xb hnx]
       . exact hK.elim
     . exact hK.elim
   . exact hK.elim
 . -- slice
   rename_i t x lo hi mx;split at hK
   . rename_i ty ht;split at hK
     . rename_i e es hsh hx;split at hK
       . rename_i te hte;obtain⟨u,hu,hK⟩:=Lj hK;obtain⟨l,hl,hK⟩:=Lj hK;obtain⟨h1,h2,h3,hK⟩:=hK;refine OpS.pure rfl (by intro _ e;cases e) (fun _=>?_) hK;show iF _ _ _ _ _ _ _=_;unfold iF;have h3':(Nat.beq l 0||dI te.size es)=true:=by
          rcases h3 with rfl|h3
          . rfl
          . rw[h3,Bool.or_true]
         rw[ht];simp only[hsh,hx,hte,hl,hu,v7,fM h1,fM h2,h3',lS,af]
       . exact hK.elim
     . rename_i e g u off n cap hsh hx;obtain⟨r,he,hK⟩:=hK;rw[m8] at hK;exact OpS.pure rfl (by intro _ e;cases e) (fun _=>he) hK
     . rename_i n e g u off hsh hx;split at hK
       . rename_i te hte;refine OpS.pure rfl (by intro _ e;cases e) (fun _=>?_) hK;show iF X.B.T h t (aj tm x) none none none=_;unfold iF;rw[ht];simp only[hsh,hx,hte]
       . exact hK.elim
     . exact hK.elim
   . exact hK.elim
 . -- fieldAddr
   rename_i s x j;split at hK
   . rename_i ty ht;split at hK
     . rename_i fo ag sz hsh hf0;cases hb:Nat.blt 0 sz with
       |false=>rw[hb] at hK;exact hK.elim
       |true=>
        rw[hb] at hK;simp only[af] at hK;split at hK
        . rename_i g u off hx;obtain⟨o',rfl,hK⟩:=hK;refine OpS.pure rfl (by intro _ e;cases e) (fun _=>?_) hK;show pK _ _ _ _=_;unfold pK;rw[ht,hx];simp only[hsh,hf0,hb,af,bd]
        . rename_i y off hx;refine OpS.pure rfl (by intro _ e;cases e) (fun _=>?_) hK;show pK _ _ _ _=_;unfold pK;rw[ht,hx];simp only[hsh,hf0,hb,af,bd]
        . exact hK.elim
     . exact hK.elim
   . exact hK.elim
 . -- indexAddr
   rename_i t x ix;split at hK
   . rename_i ty ht;split at hK
     . rename_i e es k a hsh hx hi;split at hK
       . rename_i te hte;obtain⟨j,y,rfl,hj,hy,hK⟩:=hK;have hi':aj tm ix=.w (.one (.iv (.int k (Int.ofNat j)))):=hi;refine OpS.pure rfl (by intro _ e;cases e) (fun _=>?_) hK;show m9 _ _ _ _=_;unfold m9;rw[ht,hx,hi'];simp only[hsh,hte,hj,hy,bh,af]
       . exact hK.elim
     . rename_i e g u off n cap k a hsh hx hi;split at hK
       . rename_i te hte;obtain⟨j,rfl,hj,o',rfl,hK⟩:=hK;have hi':aj tm ix=.w (.one (.iv (.int k (Int.ofNat j)))):=hi;refine OpS.pure rfl (by intro _ e;cases e) (fun _=>?_) hK;show m9 _ _ _ _=_;unfold m9;rw[ht,hx,hi'];have hb:Nat.blt j n=true:=by rw[cY];exact hj
         simp only[hsh,hte,hb,af,bd]
       . exact hK.elim
     . rename_i n e g u off k a hsh hx hi;split at hK
       . rename_i te hte;obtain⟨j,rfl,hj,o',rfl,hK⟩:=hK;have hi':aj tm ix=.w (.one (.iv (.int k (Int.ofNat j)))):=hi;refine OpS.pure rfl (by intro _ e;cases e) (fun _=>?_) hK;show m9 _ _ _ _=_;unfold m9;rw[ht,hx,hi'];have hb:Nat.blt j n=true:=by rw[cY];exact hj
         simp only[hsh,hte,hb,af,bd]
       . exact hK.elim
     . exact hK.elim
   . exact hK.elim
 . -- index
   rename_i t x ix;split at hK
   . rename_i ty ht;split at hK
     . rename_i n e cs k a hsh hx hi;split at hK
       . rename_i te hte;cases hb:(Nat.beq te.size 1 && !te.sh.agg) with
         |false=>rw[hb] at hK;exact hK.elim
         |true=>
          rw[hb] at hK;simp only[af] at hK;obtain⟨j,c,rfl,hj,hc,hK⟩:=hK;have hi':aj tm ix=.w (.one (.iv (.int k (Int.ofNat j)))):=hi;refine OpS.pure rfl (by intro _ e;cases e) (fun _=>?_) hK;show vb _ _ _ _=_;unfold vb;rw[ht,hx,hi'];have hb2:Nat.blt j n=true:=by rw[cY];exact hj
          simp only[hsh,hte,hb,hb2,lS,af,hc]
       . exact hK.elim
     . exact hK.elim
   . exact hK.elim
 . -- builtins
   rename_i b args ats;split at hK
   . rename_i x t ha hts;split at hK
     . rename_i ty ht;have key:∀{n:Nat} {m:Int},(n:Int)=m->(∀e:me,ty.sh=.slice e->nG X.B.T t (aj tm x)=ig .i64 (.ofNat n))->∀e:me,ty.sh=.slice e->K (ac (.int .i64 m)) [] 0 (some (b7 (.call { callee:=.builtin .len,args:=args,argTypes:=ats }) (aj tm)))->OpS X nx (.call { callee:=.builtin .len,args:=args,argTypes:=ats }) tm h K:=by
        intro n m hm hl e hsh hK;subst hm;refine OpS.pure rfl (by intro _ e;cases e) (fun _=>?_) hK;show fN _ _ _ _ _ _ _=_;unfold fN;rw[hts,ha];simp only[aS,eC,hl e hsh,lV,g8]
       split at hK
       . rename_i l n hsh hx hn;obtain⟨m,rfl,hK⟩:=hK;refine OpS.pure rfl (by intro _ e;cases e) (fun _=>?_) hK;show fN _ _ _ _ _ _ _=_;unfold fN;rw[hts,ha];rw[hx] at hn;simp only[zN,ae] at hn;subst hn;show nG _ _ _=_;unfold nG;rw[ht,hx];simp only[hsh,lV,g8]
       . rename_i e es n hsh hx hn;obtain⟨m,hm,hK⟩:=hK;rw[hx] at hn;simp only[zN,ae] at hn;subst hn;refine key hm (fun e he=>?_) e hsh hK;unfold nG;rw[ht,hx];simp only[he]
       . rename_i e g u off n' c n hsh hx hn;obtain⟨m,hm,hK⟩:=hK;rw[hx] at hn;simp only[zN,ae] at hn;subst hn;refine key hm (fun e he=>?_) e hsh hK;unfold nG;rw[ht,hx];simp only[he,lV,g8]
       . rename_i e n hsh hx hn;refine key (n:=0) (m:=0) rfl (fun e he=>?_) e hsh hK;unfold nG;rw[ht,hx];simp only[he,lV];rfl
       . exact hK.elim
     . exact hK.elim
   . rename_i x y ha;split at hK
     . rename_i k a k' c hx hy;obtain⟨n,rfl,hK⟩:=hK;refine OpS.pure rfl (by intro _ e;cases e) (fun _=>?_) hK;show fN _ _ _ _ _ _ _=_;unfold fN;rw[ha];simp only[aS,eC,hx,hy,tG,af,lV]
     . exact hK.elim
   . rename_i x y ha;split at hK
     . rename_i k a k' c hx hy;obtain⟨n,rfl,hK⟩:=hK;refine OpS.pure rfl (by intro _ e;cases e) (fun _=>?_) hK;show fN _ _ _ _ _ _ _=_;unfold fN;rw[ha];simp only[aS,eC,hx,hy,tG,aX,lV]
     . exact hK.elim
   . rename_i s x t t' ha hts;cases hb:Nat.beq t t' with
     |false=>rw[hb] at hK;exact hK.elim
     |true=>
      rw[hb] at hK;simp only[af] at hK;obtain⟨g,b,r,ws,he,hg,hK⟩:=hK;refine qi (by intro _ e;cases e) hg ?_ (fun p hp=>(OT he p hp).imp id fun e=>⟨e.1,List.mem_flatMap.2 ⟨s,by simp[ib,ha],e.2⟩⟩) hK;show fN _ _ _ _ _ _ _=_;unfold fN;rw[ha,hts];simp only[aS,eC,hb,af,he]
   . rename_i d x t t' ha hts;obtain⟨r,ws,he,hK⟩:=hK;refine OpS.wr rfl (by intro _ e;cases e) (fun _=>?_) (fun p hp=>?_) hK
     . show fN _ _ _ _ _ _ _=_;unfold fN;rw[ha,hts];simp only[aS,eC,he]
     . rcases Qx (g:=p.1+1) he p hp with e|e
       . omega
       . exact⟨e.1,List.mem_flatMap.2 ⟨d,by simp[ib,ha],e.2⟩⟩
   . rename_i d t ha hts;obtain⟨r,ws,he,hK⟩:=hK;refine OpS.wr rfl (by intro _ e;cases e) (fun _=>?_) (fun p hp=>?_) hK
     . show fN _ _ _ _ _ _ _=_;unfold fN;rw[ha,hts];simp only[aS,eC,he]
     . rcases Pq (g:=p.1+1) he p hp with e|e
       . omega
       . exact⟨e.1,List.mem_flatMap.2 ⟨d,by simp[ib,ha],e.2⟩⟩
   . exact hK.elim
 . -- lookup
   obtain⟨r,he,hK⟩:=hK;exact OpS.pure rfl (by intro _ e;cases e) (fun _=>he) hK
 . rename_i t m k v;obtain⟨g,o',he,hK⟩:=hK;refine OpS.wr rfl (by intro _ e;cases e) (fun _=>he) (fun p hp=>?_) hK;rcases FJ (g:=p.1+1) he p hp with e|e
   . omega
   . exact⟨e.1,List.mem_flatMap.2 ⟨m,by simp[ib],e.2⟩⟩
 . rename_i t m k v;obtain⟨g,o',he,hK⟩:=hK;refine OpS.wr rfl (by intro _ e;cases e) (fun _=>he) (fun p hp=>?_) hK;rcases FJ (g:=p.1+1) he p hp with e|e
   . omega
   . exact⟨e.1,List.mem_flatMap.2 ⟨m,by simp[ib],e.2⟩⟩
 . -- range
   rename_i t x;split at hK
   . rename_i kd gm hmk hx;obtain⟨es,ck,hg,hK⟩:=hK;refine qi (by intro _ e;cases e) (by omega) ?_ xM hK;show oD _ _ _ _ _=_;unfold oD;rw[hmk,hx];simp only[hg,hnx,bd]
   . exact hK.elim
 . rename_i fo args ats;simp[ql] at hcall
 all_goals first|exact Hc rfl hK|exact hK.elim
end
theorem FK{X:EX}{f:qe}{xs:List IV}{r:IV}{h:Hp}(hc:a7 X.P X.I f xs r)(hn:jy xs=true)(hr:pi r=true):CallOk X f (xs.map dS) h (dS r) h:=by
 refine⟨hc.1,fun E hI H U w vs hs hv=>?_⟩;refine(hc.2 H w vs (hI w hs.below) hs.has (SREL.data hn hv)).mono ?_;rintro e w' ⟨v,H',rfl,h1,h2,h3,h4⟩;exact⟨v,H',U,rfl,h2.1,BLe.refl _,hs.grow h4 h1 h2,MarkSame.below h4,Ld h3 hr⟩
def ip(fp:Option (List Nat))(ws:Wr):Le:=match fp with
 |none=>⟨false,[],ws⟩
 |some l=>⟨true,l,ws⟩
theorem sG(fp:Option (List Nat))(ws:Wr):(ip fp ws).wr=ws:=by cases fp<;>rfl
def Mu(X:EX)(nx:Nat)(o:X4)(tm:Nat->ES)(h:Hp)(K:ES->Wr->Nat->Option (List Nat)->Prop):Prop :=
 ∃r ws b fp,(∀p∈ws,(p.1<nx+b\/h p.1≠none)/\(ip fp ws).vis p.1=true)/\OneOk X o tm h r (a8 h ws)/\OneOk X o tm (dj (ip fp ws).vis h) r (a8 (dj (ip fp ws).vis h) ws)/\K r ws b fp
section
variable {X:EX}{nx:Nat}{o:X4}{tm:Nat->ES}{h:Hp}{K:ES->Wr->Nat->Option (List Nat)->Prop}
theorem IP{fo:X0}{ax:Array X0}{ats:Array me}{f:qe}{gs:List Nat}(ho:o.op=.call { callee:=.value fo,args:=ax,argTypes:=ats })
 (hf:(aj tm fo=.w (.one (.iv (.fn f)))/\gs=[])\/aj tm fo=.w (.one (.clo f gs))) (hK:eG X nx f (ax.toList.map (aj tm)++kB gs) h K):Mu X nx o tm h K:=by
 rcases hK with⟨xs,r,hc,ha,hn,hr,hK⟩|⟨r,ws,b,h2,h3,hK⟩|⟨r,ws,b,l,h1,h2,h3,hK⟩
 rotate_right
 . exact⟨r,ws,b,some l,fun p hp=>⟨(h3 p hp).1,js.2 (h3 p hp).2⟩,OneOk.call ho hf h1,OneOk.call ho hf h2,hK⟩
 . refine⟨dS r,[],0,some [],fun p hp=>(by cases hp),OneOk.call ho hf ?_,OneOk.call ho hf ?_,hK⟩
   . rw[ha];exact FK hc hn hr
   . rw[ha];exact FK hc hn hr
 . have e:dj (ip none ws).vis h=h:=by
    funext g;unfold dj ip Le.vis;simp[bJ]
   refine⟨r,ws,b,none,fun p hp=>⟨h3 p hp,?_⟩,OneOk.call ho hf h2,?_,hK⟩
   . unfold ip Le.vis;simp[bJ]
   . rw[e];exact OneOk.call ho hf h2
theorem JE(hf:∀g,nx<=g->h g=none)(hK:pf X nx o.op tm h K):Mu X nx o tm h K:=by
 cases hc:ql o.op with
 |none=>
  obtain⟨⟨g,b,r,ws,fp,he,h1,h2,h3,hK⟩,hne⟩:=Vo hf hc hK;have hv:∀i∈fp,(ip (some fp) ws).vis i=true:=fun i hi=>by
   unfold ip Le.vis;simp only[af];exact js.2 hi
  refine⟨r,ws,b,some fp,fun p hp=>⟨(h3 p hp).1,hv _ (h3 p hp).2⟩,uC he,uC (g:=g) ?_,hK⟩;rw[Qw hne (fun e=>pN (hv g (h1 e))) (fun i hi=>pN (hv i (h2 i hi)))];exact he
 |some p=>
  obtain⟨fo,args⟩:=p;obtain⟨ax,ats,ho,rfl⟩:=A7 hc;rw[ho] at hK;simp only[pf] at hK;split at hK
  . rename_i f hfo;refine IP ho (.inl ⟨hfo,rfl⟩) ?_;simpa[kB] using hK
  . rename_i f gs hfo;exact IP ho (.inr hfo) hK
  . exact hK.elim
end
structure SS where
 tm:Nat->ES
 h:Hp
 nx:Nat
def SS.fr(s:SS):Prop:=∀g,s.nx<=g->s.h g=none
structure SSm(X:EX)(E:EEnv)(w0:my)(nt:Nat)(H:ah)(U:Bm)(s:SS)(a:Act)(w:my):Prop where
 st:ESt X E nt H U s.tm s.h a w
 mks:MarksOk (mo E w0) a.defers w
 sm:MarkSame w0 w
 fr:s.fr
def BLeP(nP:Nat)(U U':Bm):Prop:=∀g u k,g<nP->U g u=some k->U' g u=some k
theorem BLeP.refl(n:Nat)(U:Bm):BLeP n U U:=fun _ _ _ _ h=>h
theorem BLeP.of{n:Nat}{U U':Bm}(h:BLe U U'):BLeP n U U':=fun g u k _ e=>h g u k e
theorem BLeP.trans{n:Nat}{a b c:Bm}(h:BLeP n a b)(k:BLeP n b c):BLeP n a c:=fun g u x l e=>k g u x l (h g u x l e)
def SPost(X:EX)(nP:Nat)(E:EEnv)(w0:my)(nt:Nat)(H:ah)(U:Bm)(w:my)(s':SS)(a':Act)(w':my):Prop :=
 ∃H' U',HLe H H'/\BLeP nP U U'/\SSm X E w0 nt H' U' s' a' w'/\MarkSame w w'
theorem SPost.refl{X:EX}{nP:Nat}{E:EEnv}{w0:my}{nt:Nat}{H:ah}{U:Bm}{s:SS}{a:Act}{w:my}(h:SSm X E w0 nt H U s a w):SPost X nP E w0 nt H U w s a w :=
 ⟨H,U,HLe.refl _,BLeP.refl _ _,h,MarkSame.refl _⟩
theorem SPost.trans{X:EX}{nP:Nat}{E:EEnv}{wm:my}{nt:Nat}{H H':ah}{U U':Bm}{s':SS}{a':Act}{w w0 w':my}(hh:HLe H H')(hb:BLeP nP U U')(hm:MarkSame w w0)(k:SPost X nP E wm nt H' U' w0 s' a' w'):SPost X nP E wm nt H U w s' a' w':=by
 obtain⟨H2,β2,k1,k2,k3,k4⟩:=k;exact⟨H2,β2,hh.trans k1,hb.trans k2,k3,hm.trans k4⟩
theorem DA{nx b:Nat}{h:Hp}{ws:Wr}(hf:∀g,nx<=g->h g=none)(hw:∀p∈ws,p.1<nx+b\/h p.1≠none):∀g,nx+b<=g->a8 h ws g=none:=fun g hg=>by
 rw[rS fun p hp e=>?_]
 . exact hf g (by omega)
 . rcases hw p hp with e'|e'
   . omega
   . exact e' (hf _ (by omega))
def SW(X:EX)(nP:Nat)(rd:Bool)(nt:Nat)(c:X5)(s:SS)(K:X6->SS->Prop):Prop :=
 ∀ro,(rd=false->ro=none)->∀(E:EEnv),(∀w',BelowO E.own E.w0 w'->X.I w')->(∀g,E.hid g->g<nP)->∀(w0:my) (H:ah) (U:Bm) (a:Act) (w:my) (Q:X6->Act->my->Prop),SSm X E w0 nt H U s a w->
  (∀e s' a' w',K e s'->SPost X nP E w0 nt H U w s' a' w'->Q e a' w')->c.wpIn (FW ro) 0 X.P Q a w
def sK(X:EX)(nP:Nat)(rd:Bool)(nt:Nat)(y:X5)(K:X6->SS->Prop):X6->SS->Prop
 | .normal,s=>SW X nP rd nt y s K
 |e,s=>K e s
def sB(id:Nat)(K:X6->SS->Prop):X6->SS->Prop
 | .exit i,s=>match Nat.beq i id with
  |true=>K .normal s
  |false=>K (.exit i) s
 |e,s=>K e s
section
variable {X:EX}{nP:Nat}{rd:Bool}{nt:Nat}{s:SS}{K:X6->SS->Prop}
theorem SW.mono{c:X5}{K':X6->SS->Prop}(h:SW X nP rd nt c s K')(hk:∀e s,K' e s->K e s):SW X nP rd nt c s K :=
 fun ro hro E hI hh w0 H U a w Q hS hQ=>h ro hro E hI hh w0 H U a w Q hS fun e s' a' w' k=>hQ e s' a' w' (hk e s' k)
theorem SW.skip(h:K .normal s):SW X nP rd nt .skip s K:=fun ro hro E hI hh w0 H U a w Q hS hQ=>wpIn_skip (hQ _ _ _ _ h (SPost.refl hS))
theorem SW.ret(h:K .ret s):SW X nP rd nt .ret s K:=fun ro hro E hI hh w0 H U a w Q hS hQ=>wpIn_ret (hQ _ _ _ _ h (SPost.refl hS))
theorem SW.exit{id:Nat}(h:K (.exit id) s):SW X nP rd nt (.exit id) s K:=fun ro hro E hI hh w0 H U a w Q hS hQ=>wpIn_exit (hQ _ _ _ _ h (SPost.refl hS))
theorem SW.label{l:Nat}(h:K .normal s):SW X nP rd nt (.label l) s K:=fun ro hro E hI hh w0 H U a w Q hS hQ=>wpIn_label (hQ _ _ _ _ h (SPost.refl hS))
theorem SW.seq{x y:X5}(h:SW X nP rd nt x s (sK X nP rd nt y K)):SW X nP rd nt (.seq x y) s K:=fun ro hro E hI hh w0 H U a w Q hS hQ=>
 wpIn_seq (h ro hro E hI hh w0 H U a w _ hS fun e s1 a1 w1 hk hp=>by
  obtain⟨H1,β1,p1,p2,p3,p4⟩:=hp;cases e with
  |normal=>exact hk ro hro E hI hh w0 H1 β1 a1 w1 Q p3 fun e s' a' w' k hp'=>hQ e s' a' w' k (hp'.trans p1 p2 p4)
  |_=>exact hQ _ _ _ _ hk ⟨H1,β1,p1,p2,p3,p4⟩)
theorem SW.block{id:Nat}{c:X5}(h:SW X nP rd nt c s (sB id K)):SW X nP rd nt (.block id c) s K:=fun ro hro E hI hh w0 H U a w Q hS hQ=>
 wpIn_block (h ro hro E hI hh w0 H U a w _ hS fun e s1 a1 w1 hk hp=>by
  cases e with
  |exit i=>
   simp only[Exit.inBlock];by_cases hi:i=id
   . subst hi;simp only[sB,bh] at hk;simp only[bD];exact hQ _ _ _ _ hk hp
   . simp only[sB,yX hi] at hk;simp only[hi,bG];exact hQ _ _ _ _ hk hp
  |_=>exact hQ _ _ _ _ hk hp)
theorem SW.cond{c:X0}{x y:X5}{t:Bool}(hc:aj s.tm c=.w (.one (.iv (.bool t))))(h1:t=true->SW X nP rd nt x s K)(h2:t=false->SW X nP rd nt y s K):SW X nP rd nt (.cond c x y) s K:=fun ro hro E hI hh w0 H U a w Q hS hQ=>by
 have hv:=bp hS.st c;rw[hc] at hv;refine E5 (SRe.bool hv) (fun e=>?_) (fun e=>?_)
 . subst e;exact h1 rfl ro hro E hI hh w0 H U a w Q hS hQ
 . subst e;exact h2 rfl ro hro E hI hh w0 H U a w Q hS hQ
theorem SW.condT{c:X0}{x y:X5}(hc:aj s.tm c=.w (.one (.iv (.bool true))))(h:SW X nP rd nt x s K):SW X nP rd nt (.cond c x y) s K:=SW.cond hc (fun _=>h) (fun e=>by cases e)
theorem SW.condF{c:X0}{x y:X5}(hc:aj s.tm c=.w (.one (.iv (.bool false))))(h:SW X nP rd nt y s K):SW X nP rd nt (.cond c x y) s K:=SW.cond hc (fun e=>by cases e) (fun _=>h)
end
def ky(X:EX)(all:Array X4):List X4->SS->(SS->Prop)->Prop
 | [],s,K=>K s
 |o::os,s,K=>match jc all s.tm o with
  |some false=>ky X all os ⟨cT s.tm o.dst .und,s.h,s.nx⟩ K
  |none=>False
  |some true=>match o.op with
   | .next x false=>match aj s.tm x with
    | .w (.one (.ptr gi 0 0))=>∃gm since seen last cur es ck,s.h gi=some (.iter gm since seen last cur)/\s.h gm=some (.map es ck)/\(mC since es&&(kZ seen||(kZ es||mB last es)))=true/\
     (fD seen es=[]->ky X all os ⟨cT s.tm o.dst (.tup [.one (.iv (.bool false))]),s.h,s.nx⟩ K)/\
     ∀e∈fD seen es,ky X all os ⟨cT s.tm o.dst (.tup [.one (.iv (.bool true)),e.1,e.2.1]),aB s.h gi (some (.iter gm since (e.2.2::seen) ck (some e.2.2))),s.nx⟩ K
    |_=>False
   | .entry x=>∃r,qt s.h (aj s.tm x)=some (r,[])/\kU r fun r=>ky X all os ⟨cT s.tm o.dst r,s.h,s.nx⟩ K
   |op=>pf X s.nx op s.tm s.h fun r ws b _=>bA (s.nx+b) fun nx=>ky X all os ⟨cT s.tm o.dst r,a8 s.h ws,nx⟩ K
def nE(X:EX)(all:Array X4):List X4->SS->List (Wr×Option (List Nat))->(SS->List (Wr×Option (List Nat))->Prop)->Prop
 | [],s,log,K=>K s log.reverse
 |o::os,s,log,K=>match jc all (jA (fP all o) s.tm) o with
  |some false=>nE X all os ⟨cT s.tm o.dst .und,s.h,s.nx⟩ (([],some [])::log) K
  |none=>False
  |some true=>pf X s.nx o.op (jA (fP all o) s.tm) s.h fun r ws b fp=>bA (s.nx+b) fun nx=>nE X all os ⟨cT s.tm o.dst r,a8 s.h ws,nx⟩ ((ws,fp)::log) K
def EI(a:Nat):List Nat->Prop->Prop
 | [],K=>K
 |b::l,K=>a≠b/\EI a l K
def Et(fp:List Nat):Wr->Prop->Prop
 | [],K=>K
 |p::ws,K=>EI p.1 fp (Et fp ws K)
def Mo(fp:Option (List Nat))(ws:Wr)(K:Prop):Prop:=match fp with
 |none=>False
 |some l=>Et l ws K
def vc(tab:List Nat)(i:Nat)(ws:Wr):List (Wr×Option (List Nat))->Nat->Prop->Prop
 | [],_,K=>K
 |l::ls,j,K=>match dJ tab i j with
  |true=>vc tab i ws ls (j+1) K
  |false=>Mo l.2 ws (vc tab i ws ls (j+1) K)
def sW(tab:List Nat)(all:List (Wr×Option (List Nat))):List (Wr×Option (List Nat))->Nat->Prop->Prop
 | [],_,K=>K
 |l::ls,i,K=>match l.1 with
  | []=>sW tab all ls (i+1) K
  |ws=>vc tab i ws all 0 (sW tab all ls (i+1) K)
def om:List Nat->(List Nat->Prop)->Prop
 | [],k=>k []
 |x::xs,k=>bA x fun x=>om xs fun xs=>k (x::xs)
theorem Be:∀(l:List Nat) (k:List Nat->Prop),om l k=k l
 | [],_=>rfl
 |x::xs,k=>by rw[om,bd,Be xs]
def Ea(X:EX)(all:Array X4)(draw:Bool)(s:SS)(K:SS->Prop):Prop :=
 match draw with
 |false=>ky X all all.toList s K
 |true=>om (kC all.toList) fun tab=>nE X all all.toList s [] fun s' log=>sW tab log log 0 (K s')
def yz(nt:Nat)(all:Array X4)(draw:Bool):Bool:=cJ nt all.toList&&(!draw||oB all (kC all.toList))
section
variable {X:EX}{nP:Nat}
theorem Td{all:Array X4}{K:SS->Prop}:∀{os:List X4} {s:SS},ky X all os s K->
 ∀(ro:Option Nat) (E:EEnv),(∀w',BelowO E.own E.w0 w'->X.I w')->∀(w0:my) (nt:Nat) (Q:X6->Act->my->Prop) (H:ah) (U:Bm) (a:Act) (w:my),cJ nt os=true->SSm X E w0 nt H U s a w->
  (∀s' a' w',K s'->SPost X nP E w0 nt H U w s' a' w'->Q .normal a' w')->wpListIn (FW ro) 0 X.P all Q os a w:=by
 intro os;induction os with
 |nil=>intro s hk ro E hI w0 nt Q H U a w _ hS hQ;exact hQ s a w hk (SPost.refl hS)
 |cons o os ih=>
  intro s hk ro E hI w0 nt Q H U a w hd hS hQ;have hd':cJ nt os=true:=by
   simp only[cJ,cF,az] at hd;exact hd.2
  have hdo:=n9 hd (show o∈o::os by simp);unfold wpListIn;unfold ky at hk;split at hk
  . -- not wanted
    rename_i hy;refine DO hI hdo hS.st hS.mks (r:=.und) (h':=s.h) (.inr ⟨hy,rfl,rfl⟩) fun H' U' a' w' h1 h2 h3 h4 h5=>?_;exact ih hk ro E hI w0 nt Q H' U' a' w' hd' ⟨h3,h4,hS.sm.trans h5,hS.fr⟩ fun s2 a2 w2 k hp=>hQ s2 a2 w2 k (hp.trans h1 (BLeP.of h2) h5)
  . exact hk.elim
  . rename_i hy;have one:∀{r:ES} {ws:Wr} {b:Nat},OneOk X o s.tm s.h r (a8 s.h ws)->(∀p∈ws,p.1<s.nx+b\/s.h p.1≠none)->ky X all os ⟨cT s.tm o.dst r,a8 s.h ws,s.nx+b⟩ K->
     if Region.wanted o (yielded all a.tmps) then o.wpIn (FW ro) 0 X.P a w (wpListIn (FW ro) 0 X.P all Q os) Q else(∀f,o.about X.P w a.eval=some f->(FW ro).fn f)/\wpListIn (FW ro) 0 X.P all Q os (a.put o.dst undef) w:=by
     intro r ws b hone hw hk;refine DO hI hdo hS.st hS.mks (.inl ⟨hy,hone⟩) fun H' U' a' w' h1 h2 h3 h4 h5=>?_;exact ih hk ro E hI w0 nt Q H' U' a' w' hd' ⟨h3,h4,hS.sm.trans h5,DA hS.fr hw⟩ fun s2 a2 w2 k hp=>hQ s2 a2 w2 k (hp.trans h1 (BLeP.of h2) h5)
    split at hk
    . -- a step of an iterator
      rename_i x hop;split at hk
      . rename_i gi hxe;obtain⟨gm,since,seen,last,cur,es,ck,e1,e2,e3,k1,k2⟩:=hk;rw[uK hS.st hy];simp only[bD];have hn:zm s.h (aj s.tm x)=some (match fD seen es with
         | []=>[(.tup [.one (.iv (.bool false))],[])]
         |l=>l.map fun e=>(.tup [.one (.iv (.bool true)),e.1,e.2.1],[(gi,.iter gm since (e.2.2::seen) ck (some e.2.2))])):=by
         rw[hxe];unfold zm;simp only[e1,e2,e3,af];cases fD seen es<;>rfl
        obtain⟨p,hp,v,w',U',hr,b1,b2,b3,b4⟩:=Rk hS.st hop hn;have hcont:∃b,ky X all os ⟨cT s.tm o.dst p.1,a8 s.h p.2,s.nx⟩ K/\(∀q∈p.2,q.1<s.nx+b\/s.h q.1≠none)/\b=0:=by
         refine⟨0,?_,?_,rfl⟩
         . cases hl:fD seen es with
           |nil=>
            rw[hl] at hp;simp only[fL] at hp;subst hp;exact k1 hl
           |cons y l=>
            rw[hl] at hp;obtain⟨e,he,rfl⟩:=List.mem_map.1 hp;exact k2 e (by rw[hl];exact he)
         . intro q hq;cases hl:fD seen es with
           |nil=>
            rw[hl] at hp;simp only[fL] at hp;subst hp;cases hq
           |cons y l=>
            rw[hl] at hp;obtain⟨e,he,rfl⟩:=List.mem_map.1 hp;simp only[fL] at hq;subst hq;exact .inr (by rw[e1];simp)
        obtain⟨b,hc,hfr,rfl⟩:=hcont;have hK:wpListIn (FW ro) 0 X.P all Q os (a.put o.dst v) w':=by
         refine ih hc ro E hI w0 nt Q H U' (a.put o.dst v) w' hd' ⟨hS.st.fin hdo (HLe.refl _) b1 b2 b4,by rw[uh];exact hS.mks.keep b3,hS.sm.trans b3,DA (b:=0) hS.fr hfr⟩ fun s2 a2 w2 k hp2=>hQ s2 a2 w2 k (hp2.trans (HLe.refl _) (BLeP.of b1) b3)
        refine sQ (fun c hc=>by rw[hop] at hc;cases hc) ?_;unfold Oper.wp;rcases hr with hr|⟨rfl,hr⟩
        . rw[hr];exact hK
        . rw[hr];exact hK
      . exact hk.elim
    . rename_i x hop;obtain⟨r,he,hk⟩:=hk;rw[m8] at hk;refine one (ws:=[]) (b:=0) (uC (g:=0) (ws:=[]) ?_) (fun p hp=>(by cases hp)) hk;rw[hop];exact he
    . obtain⟨r,ws,b,fp,h1,h2,_,hk⟩:=JE hS.fr hk;rw[bd] at hk;exact one h2 (fun p hp=>(h1 p hp).1) hk
theorem Te{all:Array X4}{K:SS->List (Wr×Option (List Nat))->Prop}:∀{os:List X4} {s:SS} {log:List (Wr×Option (List Nat))},s.fr->nE X all os s log K->
 ∃(recs:List (ES×Le)) (s':SS),recs.length=os.length/\(∀i o x,os[i]?=some o->recs[i]?=some x->qN X all o (nR s.tm ((os.zip recs).take i)) (nS s.h ((os.zip recs).take i)) x)/\
  s'.tm=nR s.tm (os.zip recs)/\s'.h=nS s.h (os.zip recs)/\s'.fr/\(∃lg:List (Wr×Option (List Nat)),recs.map Prod.snd=lg.map (fun p=>ip p.2 p.1)/\K s' (log.reverse++lg)):=by
 intro os;induction os with
 |nil=>
  intro s log hf hk;exact⟨[],s,rfl,fun i o x h=>(by simp at h),rfl,rfl,hf,[],rfl,by simpa[nE] using hk⟩
 |cons o os ih=>
  intro s log hf hk;unfold nE at hk;have key:∃(r:ES) (ws:Wr) (fp:Option (List Nat)) (b:Nat),qN X all o s.tm s.h (r,ip fp ws)/\(∀p∈ws,p.1<s.nx+b\/s.h p.1≠none)/\nE X all os ⟨cT s.tm o.dst r,a8 s.h ws,s.nx+b⟩ ((ws,fp)::log) K:=by
   split at hk
   . rename_i hy;exact⟨.und,[],some [],0,⟨.inr ⟨hy,rfl,rfl⟩,fun p hp=>(by cases hp)⟩,fun p hp=>(by cases hp),hk⟩
   . exact hk.elim
   . rename_i hy;obtain⟨r,ws,b,fp,h1,_,h2,hk⟩:=JE hf hk;rw[bd] at hk;refine⟨r,ws,fp,b,⟨.inl ⟨hy,?_⟩,fun p hp=>?_⟩,fun p hp=>(h1 p hp).1,hk⟩
     . simp only[sG];exact h2
     . simp only[sG] at hp;exact(h1 p hp).2
  obtain⟨r,ws,fp,b,hfa,hfr,hk'⟩:=key;obtain⟨recs,s',j1,j2,j3,j4,j5,lg,j6,j7⟩:=ih (s:=⟨cT s.tm o.dst r,a8 s.h ws,s.nx+b⟩) (DA hf hfr) hk';refine⟨(r,ip fp ws)::recs,s',by simp[j1],fun i o' x hi hx=>?_,?_,?_,j5,(ws,fp)::lg,by simp[j6],by simpa using j7⟩
  . cases i with
    |zero=>simp at hi hx;subst hi;subst hx;exact hfa
    |succ i=>
     have:=j2 i o' x (by simpa using hi) (by simpa using hx);simpa[nR,nS,sG] using this
  . simpa[nR,nS,sG] using j3
  . simpa[nR,nS,sG] using j4
theorem Du{a:Nat}{K:Prop}:∀{l:List Nat},EI a l K->K/\a∉l
 | [],h=>⟨h,by simp⟩
 |b::l,⟨h1,h2⟩=>⟨(Du h2).1,by simp[h1,(Du h2).2]⟩
theorem Kb{fp:List Nat}{K:Prop}:∀{ws:Wr},Et fp ws K->K/\∀p∈ws,p.1∉fp
 | [],h=>⟨h,fun p hp=>(by cases hp)⟩
 |q::ws,h=>by
  obtain⟨h1,h2⟩:=Du h;obtain⟨h3,h4⟩:=Kb h1;refine⟨h3,fun p hp=>?_⟩;rcases List.mem_cons.1 hp with rfl|hp
  . exact h2
  . exact h4 p hp
theorem Uz{fp:Option (List Nat)}{ws:Wr}{K:Prop}(h:Mo fp ws K):K/\∀p∈ws,∀ws',(ip fp ws').vis p.1=false:=by
 cases fp with
 |none=>exact h.elim
 |some l=>
  obtain⟨h1,h2⟩:=Kb h;refine⟨h1,fun p hp ws'=>?_⟩;unfold ip Le.vis;simp only[af];cases hm:bJ p.1 l with
  |false=>rfl
  |true=>exact absurd (js.1 hm) (h2 p hp)
theorem BL{tab:List Nat}{i:Nat}{ws:Wr}{K:Prop}:∀{ls:List (Wr×Option (List Nat))} {k:Nat},vc tab i ws ls k K->K/\∀j l,ls[j]?=some l->dJ tab i (k+j)=true\/∀p∈ws,∀ws',(ip l.2 ws').vis p.1=false
 | [],_,h=>⟨h,fun j l hj=>by simp at hj⟩
 |x::ls,k,h=>by
  unfold vc at h;split at h
  . rename_i hn;obtain⟨h1,h2⟩:=BL h;refine⟨h1,fun j l hj=>?_⟩;cases j with
    |zero=>exact .inl hn
    |succ j=>have:=h2 j l (by simpa using hj);rwa[show k+1+j=k+(j+1) by omega] at this
  . obtain⟨h0,h3⟩:=Uz h;obtain⟨h1,h2⟩:=BL h0;refine⟨h1,fun j l hj=>?_⟩;cases j with
    |zero=>simp at hj;subst hj;exact .inr h3
    |succ j=>have:=h2 j l (by simpa using hj);rwa[show k+1+j=k+(j+1) by omega] at this
theorem Cg{tab:List Nat}{all:List (Wr×Option (List Nat))}{K:Prop}:∀{ls:List (Wr×Option (List Nat))} {k:Nat},sW tab all ls k K->K/\∀i x,ls[i]?=some x->∀j l,all[j]?=some l->dJ tab (k+i) j=true\/∀p∈x.1,∀ws',(ip l.2 ws').vis p.1=false
 | [],_,h=>⟨h,fun i x hi=>by simp at hi⟩
 |y::ls,k,h=>by
  unfold sW at h;split at h
  . rename_i hw;obtain⟨h1,h2⟩:=Cg h;refine⟨h1,fun i x hi j l hj=>?_⟩;cases i with
    |zero=>simp at hi;subst hi;exact .inr fun p hp=>by rw[hw] at hp;cases hp
    |succ i=>have:=h2 i x (by simpa using hi) j l hj;rwa[show k+1+i=k+(i+1) by omega] at this
  . obtain⟨h0,h3⟩:=BL h;obtain⟨h1,h2⟩:=Cg h0;refine⟨h1,fun i x hi j l hj=>?_⟩;cases i with
    |zero=>simp at hi;subst hi;simpa using h3 j l hj
    |succ i=>have:=h2 i x (by simpa using hi) j l hj;rwa[show k+1+i=k+(i+1) by omega] at this
theorem So{rd:Bool}{nt id:Nat}{all:Array X4}{draw:Bool}{s:SS}{K:SS->Prop}(h0:yz nt all draw=true)(hk:Ea X all draw s K):SW X nP rd nt (.region id all draw) s fun e s'=>e=.normal/\K s':=by
 simp only[yz,az,g6,fy] at h0;obtain⟨hd,hfl⟩:=h0;intro ro hro E hI hh w0 H U a w Q hS hQ;unfold Ea at hk;cases draw with
 |false=>exact wi (Td hk ro E hI w0 nt Q H U a w hd hS fun s' a' w' k hp=>hQ .normal s' a' w' ⟨rfl,k⟩ hp)
 |true=>
  simp only at hk;rw[Be] at hk;have hfl:oB all (kC all.toList)=true:=hfl.resolve_left (by simp);have hflow:=CS hfl;obtain⟨recs,s',e1,e2,e3,e4,hfr',lg,hlg,hk⟩:=Te hS.fr hk;simp only[List.reverse_nil,lM] at hk;obtain⟨hk,hcf⟩:=Cg hk;have hlen:all.toList.length=all.size:=by simp
  let D:Nat->Option Nat:=fun i=>(all[i]?).bind (·.dst)
  have hD:∀i o,all[i]?=some o->D i=o.dst:=fun i o ho=>by simp[D,ho]
  have hD':∀i o,all.toList[i]?=some o->D i=o.dst:=fun i o ho=>hD i o (by simpa using ho);have zf:=LN e1 D hD' s.tm s.h;rw[hlen] at zf;have htk:(all.toList.zip recs).take all.size=all.toList.zip recs:=aC (by simp[e1]);have hall:=zf all.size (ak _);rw[htk] at hall;rw[hall.1] at e3;rw[hall.2] at e4;have t1:jd D (fun i=>recs.getD i default) all.size (fun j=>decide (j<all.size)) s.tm=jd D (fun i=>recs.getD i default) all.size (fun _=>true) s.tm :=
   funext fun t=>lX fun i hi hne=>by have:=List.mem_range.1 hi;simp[this] at hne
  have t2:je (fun i=>recs.getD i default) all.size (fun j=>decide (j<all.size)) s.h=je (fun i=>recs.getD i default) all.size (fun _=>true) s.h :=
   funext fun t=>lX fun i hi hne=>by have:=List.mem_range.1 hi;simp[this] at hne
  rw[t1] at e3;rw[t2] at e4;have hrec:∀i,i<all.size->recs[i]?=some (recs.getD i default):=fun i hi=>by
   have:i<recs.length:=by omega
   simp[this]
  refine Nd X.hm (Mt (tm:=s.tm) (h:=s.h) hI hd hflow hD (fun i=>recs.getD i default) (fun i o ho=>?_) (fun i j hi hj=>?_) all.size _ (fun _=>false) H U a _ (fun j hj=>?_) ?_ ?_ ?_ ?_ fun H' U' a' w' h1 h2 h3 h4 h5=>hQ .normal s' a' w' ⟨rfl,hk⟩ ⟨H',U',h1,BLeP.of h2,⟨by rw[e3,e4];exact h3,h4,hS.sm.trans h5,hfr'⟩,?_⟩)
  . have hlt:i<all.size:=(Array.getElem?_eq_some_iff.1 ho).1;have:=e2 i o _ (by simpa using ho) (hrec i hlt);rw[(zf i (by omega)).1,(zf i (by omega)).2] at this;exact this
  . have hi':(recs.map Prod.snd)[i]?=some (recs.getD i default).2:=by rw[bQ,hrec i hi];rfl
    have hj':(recs.map Prod.snd)[j]?=some (recs.getD j default).2:=by rw[bQ,hrec j hj];rfl
    rw[hlg,bQ] at hi' hj';obtain⟨p,hp,hp2⟩:=Option.map_eq_some_iff.1 hi';obtain⟨q,hq,hq2⟩:=Option.map_eq_some_iff.1 hj';have:=hcf i p hp j q hq;rw[aU] at this;refine this.imp (fun x=>x) fun hh y hy=>?_;rw[<-hq2];rw[<-hp2,sG] at hy;exact hh y hy _
  . simp[hj]
  . exact aY (AF _ _) (by simp)
  . intro j o _ h;cases h
  . have z1:jd D (fun i=>recs.getD i default) all.size (fun _=>false) s.tm=s.tm:=funext fun t=>qg fun _ _=>rfl;have z2:je (fun i=>recs.getD i default) all.size (fun _=>false) s.h=s.h:=funext fun t=>qg fun _ _=>rfl;rw[z1,z2];exact⟨hS.st.sim.sm rfl rfl rfl rfl,hS.st.slot,hS.st.size⟩
  . exact hS.mks.keep fun _ _=>rfl
  . exact fun Dd hD=>h5 Dd hD
def oG(X:EX)(all:Array X4):List X4->(Nat->ES)->Hp->Nat->(SS->Prop)->Prop
 | [],tm,h,nx,K=>K ⟨tm,h,nx⟩
 |o::os,tm,h,nx,K=>match jc all tm o with
  |some false=>oG X all os (cT tm o.dst .und) h nx K
  |none=>False
  |some true=>match o.op with
   | .next x false=>match aj tm x with
    | .w (.one (.ptr gi 0 0))=>∃gm since seen last cur es ck,h gi=some (.iter gm since seen last cur)/\h gm=some (.map es ck)/\(mC since es&&(kZ seen||(kZ es||mB last es)))=true/\
     (fD seen es=[]->oG X all os (cT tm o.dst (.tup [.one (.iv (.bool false))])) h nx K)/\
     ∀e∈fD seen es,oG X all os (cT tm o.dst (.tup [.one (.iv (.bool true)),e.1,e.2.1])) (aB h gi (some (.iter gm since (e.2.2::seen) ck (some e.2.2)))) nx K
    |_=>False
   | .entry x=>∃r,qt h (aj tm x)=some (r,[])/\kU r fun r=>oG X all os (cT tm o.dst r) h nx K
   |op=>pf X nx op tm h fun r ws b _=>bA (nx+b) fun nx=>oG X all os (cT tm o.dst r) (a8 h ws) nx K
theorem JC{all:Array X4}{K:SS->Prop}:∀(os:List X4) (tm:Nat->ES) (h:Hp) (nx:Nat),oG X all os tm h nx K=ky X all os ⟨tm,h,nx⟩ K
 | [],_,_,_=>rfl
 |o::os,tm,h,nx=>by
  unfold oG ky;simp only[JC os]<;>rfl
def vi(X:EX)(all:Array X4):List X4->(Nat->ES)->Hp->Nat->List (Wr×Option (List Nat))->(SS->List (Wr×Option (List Nat))->Prop)->Prop
 | [],tm,h,nx,log,K=>K ⟨tm,h,nx⟩ log.reverse
 |o::os,tm,h,nx,log,K=>om (fP all o) fun l=>match jc all (jA l tm) o with
  |some false=>vi X all os (cT tm o.dst .und) h nx (([],some [])::log) K
  |none=>False
  |some true=>pf X nx o.op (jA l tm) h fun r ws b fp=>bA (nx+b) fun nx=>vi X all os (cT tm o.dst r) (a8 h ws) nx ((ws,fp)::log) K
theorem JD{all:Array X4}{K:SS->List (Wr×Option (List Nat))->Prop}:∀(os:List X4) (tm:Nat->ES) (h:Hp) (nx:Nat) (log:List (Wr×Option (List Nat))),vi X all os tm h nx log K=nE X all os ⟨tm,h,nx⟩ log K
 | [],_,_,_,_=>rfl
 |o::os,tm,h,nx,log=>by
  unfold vi nE;rw[Be];simp only[JD os]<;>rfl
def DT(X:EX)(all:Array X4)(draw:Bool)(s:SS)(K:SS->Prop):Prop :=
 match s,draw with
 |⟨tm,h,nx⟩,false=>oG X all all.toList tm h nx K
 |⟨tm,h,nx⟩,true=>om (kC all.toList) fun tab=>vi X all all.toList tm h nx [] fun s' log=>sW tab log log 0 (K s')
theorem Sp{all:Array X4}{draw:Bool}{s:SS}{K:SS->Prop}:DT X all draw s K=Ea X all draw s K:=by
 cases s with
 |mk tm h nx=>
  cases draw with
  |false=>exact JC _ _ _ _
  |true=>
   show(om _ _)=(om _ _);simp only[JD]
theorem SW.R{rd:Bool}{nt id:Nat}{all:Array X4}{draw:Bool}{s:SS}{K:X6->SS->Prop}(hk:DT X all draw s (K .normal))(h0:yz nt all draw=true:=by kernel_rfl):SW X nP rd nt (.region id all draw) s K :=
 (So h0 (Sp▸hk)).mono fun e s h=>by obtain⟨rfl,h⟩:=h;exact h
theorem SW.RS{rd:Bool}{nt id:Nat}{all:Array X4}{draw:Bool}{y:X5}{s:SS}{K:X6->SS->Prop}(hk:DT X all draw s fun s'=>SW X nP rd nt y s' K)(h0:yz nt all draw=true:=by kernel_rfl):SW X nP rd nt (.seq (.region id all draw) y) s K :=
 SW.seq (SW.R hk h0)
def Mr(X:EX)(nP:Nat)(rd:Bool)(nt:Nat)(s:SS)(K:X6->SS->Prop):X5->Option Prop
 | .seq x y=>some (SW X nP rd nt x s (sK X nP rd nt y K))
 | .block id c=>some (SW X nP rd nt c s (sB id K))
 | .skip=>some (K .normal s)
 | .label _=>some (K .normal s)
 | .ret=>some (K .ret s)
 | .exit id=>some (K (.exit id) s)
 | .cond c x y=>match aj s.tm c with
  | .w (.one (.iv (.bool true)))=>some (SW X nP rd nt x s K)
  | .w (.one (.iv (.bool false)))=>some (SW X nP rd nt y s K)
  |_=>none
 |_=>none
theorem SW.c{rd:Bool}{nt:Nat}{s:SS}{K:X6->SS->Prop}{c:X5}{P:Prop}(h:P)(e:Mr X nP rd nt s K c=some P:=by exact rfl):SW X nP rd nt c s K:=by
 unfold Mr at e;split at e
 . cases e;exact SW.seq h
 . cases e;exact SW.block h
 . cases e;exact SW.skip h
 . cases e;exact SW.label h
 . cases e;exact SW.ret h
 . cases e;exact SW.exit h
 . split at e
   . rename_i hc;cases e;exact SW.condT hc h
   . rename_i hc;cases e;exact SW.condF hc h
   . cases e
 . cases e
end
def bj:EV->List Nat
 | .ptr g _ _=>[g]
 | .slc g _ _ _ _=>[g]
 | .clo _ gs=>gs
 | .yld g=>[g]
 | .mp g=>[g]
 |_=>[]
def eA:EW->List Nat
 | .one c=>bj c
 | .agg cs=>cs.flatMap bj
 | .q _ _=>[]
def eV:ES->List Nat
 | .w x=>eA x
 | .tup xs=>xs.flatMap eA
 |_=>[]
def iG(V:Nat->Nat):EV->EV
 | .ptr g u o=>.ptr (V g) u o
 | .slc g u o n c=>.slc (V g) u o n c
 | .clo f gs=>.clo f (gs.map V)
 | .yld g=>.yld (V g)
 | .mp g=>.mp (V g)
 |x=>x
def gB(V:Nat->Nat):EW->EW
 | .one c=>.one (iG V c)
 | .agg cs=>.agg (cs.map (iG V))
 | .q n d=>.q n d
def iH(V:Nat->Nat):ES->ES
 | .w x=>.w (gB V x)
 | .tup xs=>.tup (xs.map (gB V))
 |x=>x
def dT(V:Nat->Nat):EO->EO
 | .mem e cs fz vs cnt=>.mem e (cs.map (iG V)) fz vs cnt
 | .map es ck=>.map (es.map fun e=>(gB V e.1,gB V e.2.1,e.2.2)) ck
 | .iter gm since seen last cur=>.iter (V gm) since seen last cur
 |o=>o
theorem Cv(V:Nat->Nat)(o:EO):(dT V o).cnt=o.cnt:=by cases o<;>rfl
theorem Cu{V:Nat->Nat}{o:EO}:dT V o=.hid↔o=.hid:=by cases o<;>simp[dT]
def OIds(P:Nat->Prop)(V:Nat->Nat):EO->Prop
 | .mem _ cs _ vs _=>∀u p,(u,p)∈vs->∀i∈(cs.take p).flatMap bj,P i
 | .map es _=>∀e∈es,(∀i∈eA e.1,P i)/\∀i∈eA e.2.1,P i
 | .iter gm _ _ _ _=>P gm
 | .loop _ _ tm _ _ _=>∀t,∀i∈eV (tm.sl t),P i/\V i=i
 | .hid=>True
section
variable {Z:QS}{H H':ah}{U U':Bm}{V:Nat->Nat}
theorem CR.rn{v:X3}:∀{x:EV},(∀i∈bj x,∀u,U' (V i) u=U i u)->(CR Z H U v x↔CR Z H U' v (iG V x))
 | .iv _,_=>gj
 | .qc _ _ _,_=>gj
 | .ptr g u off,hb=>by show(∃k,U g u=some k/\_)↔∃k,U' (V g) u=some k/\_;rw[hb g (by simp[bj])]
 | .slc g u off n cap,hb=>by show(∃k c,U g u=some k/\_)↔∃k c,U' (V g) u=some k/\_;rw[hb g (by simp[bj])]
 | .clo f gs,hb=>by
  have hb:∀i∈gs,∀u,U' (V i) u=U i u:=hb;have e1:(∀g∈gs,∃k,U g 0=some k)↔∀g∈gs.map V,∃k,U' g 0=some k:=by
   simp only[AC,forall_exists_index,and_imp,forall_apply_eq_imp_iff₂];exact⟨fun h g hg=>by rw[hb g hg];exact h g hg,fun h g hg=>by rw[<-hb g hg];exact h g hg⟩
  have e2:gs.map (ii U)=(gs.map V).map (ii U'):=by
   rw[fb];exact rq fun g hg=>by unfold ii;simp only[Function.comp];rw[hb g hg]
  show(_/\v=.func (.func f) #[] (gs.map (ii U)).toArray)↔(_/\v=.func (.func f) #[] ((gs.map V).map (ii U')).toArray);rw[e2,e1]
 | .yld g,hb=>by show(∃k,U g 0=some k/\_)↔∃k,U' (V g) 0=some k/\_;rw[hb g (by simp[bj])]
 | .mp g,hb=>by show(∃k,U g 0=some k/\_)↔∃k,U' (V g) 0=some k/\_;rw[hb g (by simp[bj])]
 | .dp _ _,_=>gj
theorem CRL.rn:∀{vs:List X3} {xs:List EV},(∀i∈xs.flatMap bj,∀u,U' (V i) u=U i u)->(CRL Z H U vs xs↔CRL Z H U' vs (xs.map (iG V)))
 | [],[],_=>gj
 |v::vs,x::xs,hb=>by
  have h1:=CR.rn (Z:=Z) (H:=H) (v:=v) (x:=x) (U:=U) (U':=U') (V:=V) fun i hi=>hb i (by simp[hi]);have h2:=CRL.rn (vs:=vs) (xs:=xs) fun i hi=>hb i (by simp at hi ⊢;exact .inr hi);show(_/\_)↔(_/\_);rw[h1,h2]
 | [],_::_,_=>gj
 |_::_,[],_=>gj
theorem WR.rn{v:X3}{x:EW}(hb:∀i∈eA x,∀u,U' (V i) u=U i u):WR Z H U v x↔WR Z H U' v (gB V x):=by
 cases x with
 |one c=>exact CR.rn hb
 |agg cs=>
  have h:=fun vs=>CRL.rn (Z:=Z) (H:=H) (vs:=vs) (xs:=cs) hb;exact⟨fun⟨vs,e,k⟩=>⟨vs,e,(h vs).1 k⟩,fun⟨vs,e,k⟩=>⟨vs,e,(h vs).2 k⟩⟩
 |q n d=>exact gj
theorem WRL.rn:∀{vs:List X3} {xs:List EW},(∀i∈xs.flatMap eA,∀u,U' (V i) u=U i u)->(WRL Z H U vs xs↔WRL Z H U' vs (xs.map (gB V)))
 | [],[],_=>gj
 |v::vs,x::xs,hb=>by
  have h1:=WR.rn (Z:=Z) (H:=H) (v:=v) (x:=x) (U:=U) (U':=U') (V:=V) fun i hi=>hb i (by simp[hi]);have h2:=WRL.rn (vs:=vs) (xs:=xs) fun i hi=>hb i (by simp at hi ⊢;exact .inr hi);show(_/\_)↔(_/\_);rw[h1,h2]
 | [],_::_,_=>gj
 |_::_,[],_=>gj
theorem SRe.rn{v:X3}{x:ES}(hb:∀i∈eV x,∀u,U' (V i) u=U i u):SRe Z H U v x↔SRe Z H U' v (iH V x):=by
 cases x with
 |unk=>exact gj
 |und=>exact gj
 |w x=>exact WR.rn hb
 |tup xs=>
  have h:=fun vs=>WRL.rn (Z:=Z) (H:=H) (vs:=vs) (xs:=xs) hb;exact⟨fun⟨vs,e,k⟩=>⟨vs,e,(h vs).1 k⟩,fun⟨vs,e,k⟩=>⟨vs,e,(h vs).2 k⟩⟩
theorem SREL.rn:∀{vs:List X3} {xs:List ES},(∀i∈xs.flatMap eV,∀u,U' (V i) u=U i u)->(SREL Z H U vs xs↔SREL Z H U' vs (xs.map (iH V)))
 | [],[],_=>gj
 |v::vs,x::xs,hb=>by
  have h1:=SRe.rn (Z:=Z) (H:=H) (v:=v) (x:=x) (U:=U) (U':=U') (V:=V) fun i hi=>hb i (by simp[hi]);have h2:=SREL.rn (vs:=vs) (xs:=xs) fun i hi=>hb i (by simp at hi ⊢;exact .inr hi);show(_/\_)↔(_/\_);rw[h1,h2]
 | [],_::_,_=>gj
 |_::_,[],_=>gj
theorem MRL.rn:∀{vs:List MapEntry} {xs:List (EW×EW×Nat)},(∀e∈xs,(∀i∈eA e.1,∀u,U' (V i) u=U i u)/\∀i∈eA e.2.1,∀u,U' (V i) u=U i u)->(MRL Z H U vs xs↔MRL Z H U' vs (xs.map fun e=>(gB V e.1,gB V e.2.1,e.2.2)))
 | [],[],_=>gj
 |v::vs,x::xs,hb=>by
  have h1:=WR.rn (Z:=Z) (H:=H) (v:=v.key) (U:=U) (U':=U') (V:=V) (hb x (by simp)).1;have h2:=WR.rn (Z:=Z) (H:=H) (v:=v.val) (U:=U) (U':=U') (V:=V) (hb x (by simp)).2;have h3:=MRL.rn (vs:=vs) (xs:=xs) fun e he=>hb e (by simp[he]);show((_/\_/\_)/\_)↔((_/\_/\_)/\_);rw[h1,h2,h3]
 | [],_::_,_=>gj
 |_::_,[],_=>gj
variable {P:Nat->Prop}
theorem OR.rn{own:Nat->Prop}{w:my}{g g':Nat}{o:EO}(hg:∀u,U' g' u=U g u)(hi:OIds P V o)(hP:∀i,P i->∀u,U' (V i) u=U i u):OR Z own w H U g o↔OR Z own w H U' g' (dT V o):=by
 cases o with
 |mem e cs fz vs cnt=>
  show(_/\_)↔(_/\_);have hc:∀(arr:Array X3) u p,(u,p)∈vs->(CRL Z H U (arr.toList.take p) (cs.take p)↔CRL Z H U' (arr.toList.take p) ((cs.map (iG V)).take p)):=fun arr u p hup=>by
   rw[<-Fq];exact CRL.rn fun i hi'=>hP i (hi u p hup i hi')
  refine⟨fun h=>⟨fun hf u k hk=>h.1 hf u k (by rw[<-hg];exact hk),fun u p hup=>?_⟩,fun h=>⟨fun hf u k hk=>h.1 hf u k (by rw[hg];exact hk),fun u p hup=>?_⟩⟩
  . obtain⟨h1,k,arr,h2,h3,h4,h5,h6,h7,h8,h9⟩:=h.2 u p hup;exact⟨h1,k,arr,by rw[hg];exact h2,h3,h4,h5,h6,by rw[bR];exact h7,h8,(hc arr u p hup).1 h9⟩
  . obtain⟨h1,k,arr,h2,h3,h4,h5,h6,h7,h8,h9⟩:=h.2 u p hup;exact⟨h1,k,arr,by rw[<-hg];exact h2,h3,h4,h5,h6,by rw[bR] at h7;exact h7,h8,(hc arr u p hup).2 h9⟩
 |map es ck=>
  have hm:=fun ents=>MRL.rn (Z:=Z) (H:=H) (vs:=ents) (xs:=es) (U:=U) (U':=U') (V:=V) fun e he=>⟨fun i hi'=>hP i ((hi e he).1 i hi'),fun i hi'=>hP i ((hi e he).2 i hi')⟩;show(∃k ents,U g 0=some k/\_)↔∃k ents,U' g' 0=some k/\_;rw[hg];exact⟨fun⟨k,ents,h1,h2,h3,h4,h5⟩=>⟨k,ents,h1,h2,h3,h4,(hm _).1 h5⟩,fun⟨k,ents,h1,h2,h3,h4,h5⟩=>⟨k,ents,h1,h2,h3,h4,(hm _).2 h5⟩⟩
 |iter gm since seen last cur=>
  show(∃k km sn,U g 0=some k/\U gm 0=some km/\_)↔∃k km sn,U' g' 0=some k/\U' (V gm) 0=some km/\_;rw[hg,hP gm hi]
 |loop busy nt tm ps assign body=>
  show(∃k L,U g 0=some k/\_)↔∃k L,U' g' 0=some k/\_;rw[hg];have hs:∀(t:Nat) (v:X3),SRe Z H U v (tm.sl t)↔SRe Z H U' v (tm.sl t):=fun t v=>by
   have h1:=SRe.rn (Z:=Z) (H:=H) (v:=v) (x:=tm.sl t) (U:=U) (U':=U') (V:=fun i=>i) fun i hi'=>by
    have:=hP i (hi t i hi').1;rwa[(hi t i hi').2] at this
   have h2:∀x:EV,iG (fun i=>i) x=x:=fun x=>by cases x<;>simp[iG]
   have h2':iG (fun i=>i)=id:=funext h2;have h3:∀x:EW,gB (fun i=>i) x=x:=fun x=>by cases x<;>simp[gB,h2']
   have h3':gB (fun i=>i)=id:=funext h3;have h4:∀x:ES,iH (fun i=>i) x=x:=fun x=>by cases x<;>simp[iH,h3']
   rwa[h4] at h1
  exact⟨fun⟨k,L,h1,h2,h3,h4,h5,h6,h7,h8,h9,h10,h11⟩=>⟨k,L,h1,h2,h3,h4,h5,h6,h7,h8,h9,h10,fun t=>(hs t _).1 (h11 t)⟩,fun⟨k,L,h1,h2,h3,h4,h5,h6,h7,h8,h9,h10,h11⟩=>⟨k,L,h1,h2,h3,h4,h5,h6,h7,h8,h9,h10,fun t=>(hs t _).2 (h11 t)⟩⟩
 |hid=>exact gj
end
structure Ren(h h':Hp)(Y:Nat->Option Nat)(V:Nat->Nat):Prop where
 inj:∀g g' x,Y g=some x->Y g'=some x->g=g'
 get:∀g g0,Y g=some g0->h' g=(h g0).map (dT V)
 non:∀g,Y g=none->h' g=none
 ids:∀g g0 o,Y g=some g0->h g0=some o->OIds (fun i=>Y (V i)=some i) V o
theorem ESim.rn{Z:QS}{E:EEnv}{H:ah}{U:Bm}{h h':Hp}{w:my}{Y:Nat->Option Nat}{V:Nat->Nat}(hS:ESim Z E H U h w)(R:Ren h h' Y V)(hE:∀g,E.hid g->Y g=some g) :
 ∃ U',(∀g g0,Y g=some g0->∀u,U' g u=U g0 u)/\ESim Z E H U' h' w:=by
 obtain⟨U',hβ'⟩:∃ U':Bm,∀g u,U' g u=match Y g with|some g0=>U g0 u|none=>none:=⟨_,fun _ _=>rfl⟩
 have hβ:∀g g0,Y g=some g0->∀u,U' g u=U g0 u:=fun g g0 e u=>by rw[hβ',e]
 refine⟨U',hβ,hS.has,hS.below,hS.lo,hS.ext,fun g o hg=>?_,fun g u k hk=>?_,fun g1 g2 u1 u2 k1 k2 e1 e2 he=>?_,fun g hg=>?_⟩
 . cases hσ:Y g with
   |none=>rw[R.non g hσ] at hg;cases hg
   |some g0=>
    rw[R.get g g0 hσ] at hg;cases ho:h g0 with
    |none=>rw[ho] at hg;cases hg
    |some o0=>
     rw[ho] at hg;simp only[fa,ae] at hg;subst hg;exact(OR.rn (hβ g g0 hσ) (R.ids g g0 o0 hσ ho) fun i hi u=>hβ _ _ hi u).1 (hS.obj g0 o0 ho)
 . cases hσ:Y g with
   |none=>rw[hβ',hσ] at hk;cases hk
   |some g0=>
    rw[hβ g g0 hσ] at hk;obtain⟨a,o,b,c⟩:=hS.dom g0 u k hk;exact⟨a,dT V o,by rw[R.get g g0 hσ,b];rfl,c.imp (fun e=>Cu.2 e) fun c=>⟨c.1,by rw[Cv];exact c.2⟩⟩
 . cases h1:Y g1 with
   |none=>rw[hβ',h1] at e1;cases e1
   |some x1=>cases h2:Y g2 with
    |none=>rw[hβ',h2] at e2;cases e2
    |some x2=>
     rw[hβ g1 x1 h1] at e1;rw[hβ g2 x2 h2] at e2;have:=hS.inj _ _ _ _ _ _ e1 e2 he;subst this;exact R.inj g1 g2 x1 h1 h2
 . have hs:=hE g hg;rw[R.get g g hs,(hS.hidb g hg).1];exact⟨rfl,fun u=>by rw[hβ g g hs];exact(hS.hidb g hg).2 u⟩
def ResR(Y:Nat->Option Nat)(rf r:ES):Prop:=∀(Z:QS) (H:ah) (U U':Bm) (v:X3),(∀g g0,Y g=some g0->∀u,U' g u=U g0 u)->SRe Z H U v rf->SRe Z H U' v r
theorem ResR.unk{Y:Nat->Option Nat}{r:ES}:ResR Y r .unk:=fun _ _ _ _ _ _ _=>trivial
theorem ResR.rn{Y:Nat->Option Nat}{V:Nat->Nat}{r:ES}(h:∀i∈eV r,Y (V i)=some i):ResR Y r (iH V r):=fun Z H U U' v hb hv=>(SRe.rn fun i hi=>hb _ _ (h i hi)).1 hv
section
variable {X:EX}{nP:Nat}{rd:Bool}{nt:Nat}{s:SS}{K:X6->SS->Prop}
theorem V4{c:X5}{s':SS}{Y:Nat->Option Nat}{V:Nat->Nat}(R:Ren s.h s'.h Y V)(ht:∀t,ResR Y (s.tm t) (s'.tm t))(hp:∀g,g<nP->Y g=some g)(hf:s'.fr)(h:SW X nP rd nt c s' K):SW X nP rd nt c s K:=fun ro hro E hI hh w0 H U a w Q hS hQ=>by
 obtain⟨U',k1,k2⟩:=hS.st.sim.rn R fun g hg=>hp g (hh g hg);refine h ro hro E hI hh w0 H U' a w Q ⟨⟨k2,fun t=>ht t _ _ _ _ _ k1 (hS.st.slot t),hS.st.size⟩,hS.mks,hS.sm,hf⟩ fun e s2 a' w' k hp'=>hQ e s2 a' w' k ?_;obtain⟨H2,β2,j1,j2,j3,j4⟩:=hp';exact⟨H2,β2,j1,fun g u k hg hk=>j2 g u k hg (by rw[k1 g g (hp g hg)];exact hk),j3,j4⟩
end
def argS(args:List ES)(t:Nat):ES:=args.getD t .und
theorem UI{Z:QS}{H:ah}{U:Bm}{args:List ES}{vs:List X3}{n:Nat}(hv:SREL Z H U vs args):∀t,SRe Z H U ((vs.toArray++Array.replicate (n-vs.toArray.size) undef).getD t undef) (argS args t):=fun t=>by
 have hlen:=hv.length;by_cases ht:t<args.length
 . obtain⟨v,h1,h2⟩:=hv.get t (args[t]) (by simp[ht]);have hlt:t<vs.length:=by omega
   have:(vs.toArray++Array.replicate (n-vs.toArray.size) undef).getD t undef=v:=by
    simp[jp,hlt];exact(List.getElem?_eq_some_iff.1 h1).2
   rw[this];have e2:argS args t=args[t]:=by simp[argS,ht]
   rw[e2];exact h2
 . have e2:argS args t=.und:=by simp[argS,ht]
   rw[e2];show _=undef;have hge:¬t<vs.length:=by omega
   simp[jp,hge,wk];split<;>rfl
def iY(X:EX)(rs:List ResultVar)(F:Hp->ES->Prop):X6->SS->Prop
 | .normal,s=>match gV X.T X.Z s.tm s.h rs with
  |some xs=>F s.h (jE xs)
  |none=>False
 | .ret,s=>match gV X.T X.Z s.tm s.h rs with
  |some xs=>F s.h (jE xs)
  |none=>False
 |_,_=>False
theorem PU{X:EX}{rs:List ResultVar}{F:Hp->ES->Prop}{e:X6}{s:SS}(h:iY X rs F e s):(e=.normal\/e=.ret)/\∃xs,gV X.T X.Z s.tm s.h rs=some xs/\F s.h (jE xs):=by
 cases e with
 |normal=>
  simp only[iY] at h;split at h
  . exact⟨.inl rfl,_,by assumption,h⟩
  . exact h.elim
 |ret=>
  simp only[iY] at h;split at h
  . exact⟨.inr rfl,_,by assumption,h⟩
  . exact h.elim
 |_=>exact h.elim
section
variable {X:EX}{nP:Nat}
theorem zD{f:qe}{fn:Func}{c:X5}(hf:X.P.funcs[f]?=some fn)(hb:fn.body=some c){args:List ES}(hx:args.length<=fn.ntmps){h:Hp}{nx:Nat}(hfr:∀g,nx<=g->h g=none){F:Hp->ES->Prop}
 (hw:SW X nP false fn.ntmps c ⟨argS args,h,nx⟩ (iY X fn.results.toList F)) {E:EEnv} (hI:∀w',BelowO E.own E.w0 w'->X.I w') (hh:∀g,E.hid g->g<nP) {H:ah} {U:Bm} {w:my} {vs:List X3} (hS:ESim X.Z E H U h w) (hv:SREL X.Z H U vs args) {R:Ending->my->Prop}
 (hR:∀v H' U' hp' rf w',HLe H H'->BLeP nP U U'->ESim X.Z E H' U' hp' w'->MarkSame w w'->SRe X.Z H' U' v rf->F hp' rf->R (.returned v) w'):Calls X.P f vs.toArray w R:=by
 have hlen:=hv.length;refine(wc (n:=0)).1 (wj hf hb trivial ?_);refine hw none (fun _=>rfl) E hI hh w H U _ w _ ⟨⟨hS,UI hv,?_⟩,MarksOk.nil _ _,MarkSame.refl _,hfr⟩ fun e s1 a0 w1 hk hp=>?_
 . show(vs.toArray++Array.replicate (fn.ntmps-vs.toArray.size) undef).size=fn.ntmps;simp;omega
 . obtain⟨H1,β1,p1,p2,p3,p4⟩:=hp;obtain⟨hne,xs,hr,hF⟩:=PU hk;have fin:LeavesInM (FW none) 0 X.P fn a0.tmps R a0.defers .returning w1:=by
    refine CJ a0.defers p3.st.sim p3.mks p3.sm fun w' hS' hm'=>?_;obtain⟨us,e1,Vz9⟩:=xR hS' p3.st.slot hr;refine⟨(if h:us.toArray.size=1 then us.toArray[0] else .tuple us.toArray),?_,hR _ H1 β1 s1.h (jE xs) w' p1 p2 hS' hm' (JF Vz9) hF⟩;unfold results;have e0:(fn.results.mapM fun | .tmp t=>pure (a0.tmps.getD t undef) | .cell a t=>do loadVar t (<- asAddr (a0.tmps.getD a undef)):Sem (Array X3))=List.toArray <$> fn.results.toList.mapM (mq a0.tmps):=by
     rw[E7];rfl
    refine(aJ (fun(x:Sem (Array X3))=>(x >>= fun vs=>pure (if h:vs.size=1 then vs[0] else .tuple vs)).run X.P w') e0).trans ?_;simp only[au,E8,e1,ar,aw]
   rcases hne with rfl|rfl
   . exact fin
   . exact fin
def RetR(nP:Nat)(hf:Hp)(rf:ES)(h':Hp)(r:ES):Prop:=∃ Y V,Ren hf h' Y V/\(∀g,g<nP->Y g=some g)/\ResR Y rf r
theorem XJ{f:qe}{fn:Func}{c:X5}(hf:X.P.funcs[f]?=some fn)(hb:fn.body=some c)(hn:(fn.name == "runtime.NumGoroutine")=false){args:List ES}(hx:Nat.ble args.length fn.ntmps=true){h h':Hp}{r:ES}(hfr:∀g,nP<=g->h g=none)
 (hw:SW X nP false fn.ntmps c ⟨argS args,h,nP⟩ (iY X fn.results.toList fun hp rf=>RetR nP hp rf h' r)):CallOk X f args h r h':=by
 refine⟨⟨fn,hf,hn,by rw[hb];rfl⟩,fun E hI H U w vs hS hv=>?_⟩;have hlt:∀g,h g≠none->g<nP:=fun g hg=>by
  rcases fx g nP with h1|h1
  . exact h1
  . exact absurd (hfr g h1) hg
 have hh:∀g,E.hid g->g<nP:=fun g hg=>hlt g (by rw[(hS.hidb g hg).1];simp);refine zD hf hb (aG hx) hfr hw hI hh hS hv fun v H' U' hp' rf w' h1 h2 h3 h4 h5 h6=>?_;obtain⟨Y,V,R,hpin,hr⟩:=h6;obtain⟨β2,k1,k2⟩:=h3.rn R fun g hg=>hpin g (hh g hg);refine⟨v,H',β2,rfl,h1,fun g u k hk=>?_,k2,h4,hr _ _ _ _ _ k1 h5⟩;have hg:g<nP:=by
  obtain⟨_,o,ho,_⟩:=hS.dom g u k hk;exact hlt g (by rw[ho];simp)
 rw[k1 g g (hpin g hg)];exact h2 g u k hg hk
theorem WRL.data{Z:QS}{H:ah}{U:Bm}:∀{vs:List X3} {xs:List IV},(xs.all fun x=>!x.isTup)=true->WRL Z H U vs (xs.map dW)->VRL H vs xs
 | [],[],_,_=>.nil
 |v::vs,x::xs,hn,⟨h1,h2⟩=>by
  simp only[cF,az,fy] at hn;refine VRL.cons _ _ _ _ (C7 (Z:=Z) (U:=U) ?_ hn.1) (WRL.data hn.2 h2);have e:dS x=.w (dW x):=by cases x<;>first|rfl|simp[IV.isTup] at hn
  rw[e];exact h1
 | [],_::_,_,h=>h.elim
 |_::_,[],_,h=>h.elim
theorem RR{Z:QS}{H:ah}{U:Bm}{v:X3}{x:IV}(h:SRe Z H U v (dS x))(ht:pi x=true):VR H v x:=by
 cases hx:x.isTup with
 |false=>exact C7 h hx
 |true=>
  cases x<;>first|(simp[IV.isTup] at hx;done)|skip
  rename_i xs;obtain⟨vs,rfl,h1⟩:=h;exact .tup vs xs (WRL.data ht h1)
theorem SREL.ofData{H:ah}{U:Bm}:∀{vs:List X3} {xs:List IV},VRL H vs xs->jy xs=true->SREL X.Z H U vs (xs.map dS)
 |_,_,.nil,_=>trivial
 |_,_,.cons v x vs xs h t,hn=>by
  simp only[jy,cF,az,fy] at hn;exact⟨zx h hn.1,SREL.ofData t hn.2⟩
theorem We(hbel:∀n w w',X.I w->w.heap.size<=n->Below n w w'->X.I w'){f:qe}{fn:Func}{c:X5}(hf:X.P.funcs[f]?=some fn)(hb:fn.body=some c)(hn:(fn.name == "runtime.NumGoroutine")=false){xs:List IV}{r:IV}(hx:Nat.ble xs.length fn.ntmps=true)(hxt:jy xs=true)(hrt:pi r=true)
 (hw:SW X 0 false fn.ntmps c ⟨argS (xs.map dS),fun _=>none,0⟩ (iY X fn.results.toList fun _ rf=>rf=dS r)):a7 X.P X.I f xs r:=by
 refine⟨⟨fn,hf,hn,by rw[hb];rfl⟩,fun H w args hIw hH hv=>?_⟩;have hS:ESim X.Z ⟨fun k=>w.heap.size<=k,w,H,fun _=>False,fun _ _=>none⟩ H (fun _ _=>none) (fun _=>none) w :=
  ⟨hH,BelowO.refl _ _,fun k hk=>hk,HExtO.refl _ _,fun g o h=>(by cases h),fun g u k h=>(by cases h),fun g g' u u' k k' h=>(by cases h),fun g h=>h.elim⟩
 refine zD hf hb (by simpa using aG hx) (fun _ _=>rfl) hw (fun w' hb'=>hbel _ w w' hIw (ak _) hb'.below) (fun _ (h:False)=>h.elim) hS (SREL.ofData hv hxt) fun v H' U' hp' rf w' h1 h2 h3 h4 h5 h6=>?_;subst h6;exact⟨v,H',rfl,h3.has,h3.ext,RR h5 hrt,h3.below.below⟩
end
theorem AX{Z:QS}{H:ah}{U:Bm}{sz:Nat}:∀{es:List IV} {us:List X3},dI sz es=true->CRL Z H U us ((es.flatMap IV.cells).map .iv)->∃vs,VRL H vs es/\aR vs=us/\∀v∈vs,v.cells.size=sz
 | [],us,_,h=>by
  cases us with
  |nil=>exact⟨[],.nil,rfl,by simp⟩
  |cons=>exact h.elim
 |x::es,us,hs,h=>by
  simp only[dI,cF,az,fy] at hs;obtain⟨⟨h1,h2⟩,h3⟩:=hs;have h1:=av h1;rw[ch,dE] at h;have hl:=h.length;have ht:=h.take sz;have hd:=h.drop sz;have hxl:(x.cells.map EV.iv).length=sz:=by simp[h1]
  rw[jm (by omega),show(x.cells.map EV.iv).take sz=x.cells.map EV.iv from aC (by omega)] at ht;rw[XW (by omega),show(x.cells.map EV.iv).drop sz=[] from pt (by omega),lM] at hd;obtain⟨vs,k1,k2,k3⟩:=AX (es:=es) h3 hd;obtain⟨t1,t2⟩:=uQ ht;have hv:∃v,VR H v x/\v.cells.toList=us.take sz:=by
   cases hx:x.isAgg with
   |true=>
    cases x<;>first|(simp[IV.isAgg] at hx;done)|skip
    rename_i cs;exact⟨.agg (us.take sz).toArray,.agg _ _ t1 t2,by simp[Value.cells]⟩
   |false=>
    have e:x.cells=[x]:=by cases x<;>first|rfl|simp[IV.isAgg] at hx
    rw[e] at t1;obtain⟨v,hv,hvx⟩:∃v,us.take sz=[v]/\VR H v x:=by
     generalize us.take sz=l at t1;cases t1 with
     |cons v _ l _ a b=>cases b;exact⟨v,rfl,a⟩
    refine⟨v,hvx,?_⟩;rw[hv];have:v.oneCell'=true:=t2 v (by rw[hv];simp);rw[(VR.of_one hvx this).1]
  obtain⟨v,hvx,hvc⟩:=hv;refine⟨v::vs,.cons _ _ _ _ hvx k1,?_,fun u hu=>?_⟩
  . show v.cells.toList++aR vs=us;rw[hvc,k2,jQ]
  . rcases List.mem_cons.1 hu with rfl|hu
    . rw[<-h1,hvx.size]
    . exact k3 u hu
theorem ESim.freeze{Z:QS}{E:EEnv}{H:ah}{U:Bm}{h:Hp}{w:my}(hS:ESim Z E H U h w){g u p:Nat}{e:me}{cs:List EV}{vs:List (Nat×Nat)}{cnt:Nat}(hg:h g=some (.mem e cs false vs cnt))(hv:(u,p)∈vs) :
 ∃H' k arr,U g u=some k/\HLe H H'/\ESim Z E H' U (aB h g (some .hid)) w/\H' k.1=some arr/\CRL Z H U (arr.toList.take p) (cs.take p)/\p<=cs.length/\p<=arr.size:=by
 obtain⟨hn,hall⟩:=hS.obj g _ hg;obtain⟨h1,k,arr,h2,h3,h4,h5,h6,h7,h8,h9⟩:=hall u p hv;simp only[dx,bG] at h4;have hsame:aB H k.1 (some arr) k.1=some arr:=aT _ _ _;have hle:HLe H (aB H k.1 (some arr)):=fun b a ha=>by
  by_cases e':b=k.1
  . rw[e',h4] at ha;cases ha
  . rw[aD _ _ _ e'];exact ha
 refine⟨aB H k.1 (some arr),k,arr,h2,hle,⟨fun b a ha=>?_,hS.below,hS.lo,hS.ext.step (own':=fun b=>b=k.1) ⟨hle,fun b a ha=>?_⟩ (fun b hb=>by rw[hb];exact h3),fun g' o hg'=>?_,fun g' u' k' hk'=>?_,hS.inj,fun g' hg'=>?_⟩,hsame,h9,h7,h8⟩
 . by_cases e':b=k.1
   . rw[e',hsame] at ha;cases ha;rw[e'];exact⟨_,_,h5⟩
   . rw[aD _ _ _ e'] at ha;exact hS.has b a ha
 . by_cases e':b=k.1
   . exact .inr e'
   . rw[aD _ _ _ e'] at ha;exact .inl ha
 . by_cases e':g'=g
   . subst e';rw[aT] at hg';cases hg';trivial
   . rw[aD _ _ _ e'] at hg';refine(hS.obj g' o hg').keep (fun _ _ _=>rfl) (fun u' k' hk' hn'=>?_) hle (BLe.refl _) (fun _=>rfl);rw[aD _ _ _ fun e2=>e' (hS.inj _ _ _ _ _ _ hk' h2 e2)];exact hn'
 . obtain⟨a,o,b,c⟩:=hS.dom g' u' k' hk';by_cases e':g'=g
   . subst e';exact⟨a,.hid,aT _ _ _,.inl rfl⟩
   . exact⟨a,o,by rw[aD _ _ _ e'];exact b,c⟩
 . have hne:g'≠g:=fun e'=>by
    have:=(hS.hidb g' hg').1;rw[e',hg] at this;cases this
   exact⟨by rw[aD _ _ _ hne];exact(hS.hidb g' hg').1,(hS.hidb g' hg').2⟩
section
variable {X:EX}{nP:Nat}{rd:Bool}{nt:Nat}{s:SS}{K:X6->SS->Prop}
end
def pd:List (Nat×ES)->Nat->ES
 | [],_=>.unk
 | (k,v)::l,t=>bif Nat.beq t k then v else pd l t
def cV:List (Nat×EO)->Hp
 | [],_=>none
 | (k,o)::l,g=>bif Nat.beq g k then some o else cV l g
def aP(l:List (Nat×ES))(m:List (Nat×EO))(nx:Nat):SS:=⟨pd l,cV m,nx⟩
def eF:List (Nat×Nat)->Nat->Nat
 | [],g=>g
 | (n,o)::r,g=>bif Nat.beq g n then o else eF r g
def iT:List (Nat×Nat)->Nat->Nat
 | [],g=>g
 | (n,o)::r,g=>bif Nat.beq g o then n else iT r g
def fW:List (Nat×EO)->Nat->Bool
 | [],_=>false
 | (k,_)::m,g=>Nat.beq g k||fW m g
def nz(r:List (Nat×Nat))(m:List (Nat×EO))(i:Nat):Bool:=fW m (iT r i)&&Nat.beq (eF r (iT r i)) i
def nA(r:List (Nat×Nat))(m:List (Nat×EO))(g:Nat):Option Nat:=match fW m g with
 |true=>some (eF r g)
 |false=>none
theorem HR{r:List (Nat×Nat)}{m:List (Nat×EO)}{i:Nat}(h:nz r m i=true):nA r m (iT r i)=some i:=by
 simp only[nz,az] at h;unfold nA;rw[h.1,av h.2]
def zk(p:Nat->Bool):EO->Bool
 | .mem _ cs _ _ _=>(cs.flatMap bj).all p
 | .map es _=>es.all fun e=>(eA e.1).all p&&(eA e.2.1).all p
 | .iter gm _ _ _ _=>p gm
 | .loop .. => false
 | .hid=>true
def gM:EO->Prop
 | .mem _ cs _ _ _=>cs.flatMap bj=[]
 | .map es _=>∀e∈es,eA e.1=[]/\eA e.2.1=[]
 | .iter .. => False
 | .loop .. => False
 | .hid=>True
theorem F3{V:Nat->Nat}:∀{x:EV},bj x=[]->iG V x=x
 | .clo f gs,h=>by
  have h:gs=[]:=h;subst h;rfl
 | .iv _,_=>rfl
 | .qc _ _ _,_=>rfl
 | .dp _ _,_=>rfl
 | .ptr _ _ _,h=>by cases h
 | .slc _ _ _ _ _,h=>by cases h
 | .yld _,h=>by cases h
 | .mp _,h=>by cases h
theorem A1{V:Nat->Nat}:∀{cs:List EV},cs.flatMap bj=[]->cs.map (iG V)=cs
 | [],_=>rfl
 |c::cs,h=>by
  simp only[ch,wB] at h;rw[aS,F3 h.1,A1 h.2]
theorem wM{V:Nat->Nat}{x:EW}(h:eA x=[]):gB V x=x:=by
 cases x with
 |one c=>rw[gB,F3 h]
 |agg cs=>rw[gB,A1 h]
 |q=>rfl
theorem FV{V:Nat->Nat}:∀{xs:List EW},xs.flatMap eA=[]->xs.map (gB V)=xs
 | [],_=>rfl
 |c::cs,h=>by
  simp only[ch,wB] at h;rw[aS,wM h.1,FV h.2]
theorem A6{V:Nat->Nat}{x:ES}(h:eV x=[]):iH V x=x:=by
 cases x with
 |unk=>rfl
 |und=>rfl
 |w x=>rw[iH,wM h]
 |tup xs=>rw[iH,FV h]
theorem Bh{V:Nat->Nat}{o:EO}(h:gM o):dT V o=o:=by
 cases o with
 |mem e cs fz vs cnt=>rw[dT,A1 h]
 |map es ck=>
  rw[dT];congr 1;conv=>rhs;rw[<-List.map_id es]
  refine rq fun e he=>?_;rw[wM (h e he).1,wM (h e he).2];rfl
 |iter=>exact h.elim
 |loop=>exact h.elim
 |hid=>rfl
theorem ub{cs:List EV}{p i:Nat}(h:i∈(cs.take p).flatMap bj):i∈cs.flatMap bj:=by
 obtain⟨c,hc,hi⟩:=List.mem_flatMap.1 h;exact List.mem_flatMap.2 ⟨c,dY hc,hi⟩
theorem wQ{P:Nat->Prop}{V:Nat->Nat}{o:EO}(h:gM o):OIds P V o:=by
 cases o with
 |mem e cs fz vs cnt=>
  intro u p _ i hi;have hi:=ub hi;have h:cs.flatMap bj=[]:=h;rw[h] at hi;cases hi
 |map es ck=>exact fun e he=>⟨fun i hi=>(by rw[(h e he).1] at hi;cases hi),fun i hi=>(by rw[(h e he).2] at hi;cases hi)⟩
 |iter=>exact h.elim
 |loop=>exact h.elim
 |hid=>trivial
theorem Hf{p:Nat->Bool}{P:Nat->Prop}{V:Nat->Nat}(hp:∀i,p i=true->P i){o:EO}(h:zk p o=true):OIds P V o:=by
 cases o with
 |mem e cs fz vs cnt=>exact fun u q _ i hi=>hp i (List.all_eq_true.1 h i (ub hi))
 |map es ck=>
  intro e he;have:=List.all_eq_true.1 h e he;simp only[az] at this;exact⟨fun i hi=>hp i (List.all_eq_true.1 this.1 i hi),fun i hi=>hp i (List.all_eq_true.1 this.2 i hi)⟩
 |iter=>exact hp _ h
 |loop=>cases h
 |hid=>trivial
inductive SlotOk(r:List (Nat×Nat))(m:List (Nat×EO)):ES->ES->Prop
 |rn {x y:ES} (h:iH (iT r) x=y) (hi:(eV x).all (nz r m)=true):SlotOk r m x y
 | sm {x y:ES} (h:x=y) (hi:eV x=[]):SlotOk r m x y
inductive BoxOk(r:List (Nat×Nat))(m:List (Nat×EO)):Option EO->EO->Prop
 |rn {x:Option EO} {o0 o:EO} (h:x=some o0) (h2:dT (iT r) o0=o) (hi:zk (nz r m) o0=true):BoxOk r m x o
 | sm {x:Option EO} {o:EO} (h:x=some o) (hc:gM o):BoxOk r m x o
def Df(r:List (Nat×Nat))(m:List (Nat×EO))(tm:Nat->ES):List (Nat×ES)->Prop
 | []=>True
 | (t,v)::l=>SlotOk r m (tm t) v/\Df r m tm l
def yV(r:List (Nat×Nat))(m:List (Nat×EO))(h:Hp):List (Nat×EO)->Prop
 | []=>True
 | (g,o)::l=>BoxOk r m (h (eF r g)) o/\yV r m h l
def zl(x:Nat):List Nat->Bool
 | []=>true
 |y::l=>!Nat.beq x y&&zl x l
def kY:List Nat->Bool
 | []=>true
 |x::l=>zl x l&&kY l
def vh(r:List (Nat×Nat))(m:List (Nat×EO)):Nat->Bool
 |0=>true
 |n+1=>fW m n&&Nat.beq (eF r n) n&&vh r m n
def nn(nx:Nat):List (Nat×EO)->Bool
 | []=>true
 | (g,_)::m=>Nat.blt g nx&&nn nx m
def To(nP:Nat)(s s':SS):Prop:=∃ Y V,Ren s.h s'.h Y V/\(∀t,ResR Y (s.tm t) (s'.tm t))/\(∀g,g<nP->Y g=some g)/\s'.fr
theorem B3{x y:Nat}:∀{l:List Nat},zl x l=true->y∈l->x≠y
 |z::l,h,hy=>by
  simp only[zl,az,fy] at h;rcases List.mem_cons.1 hy with rfl|hy
  . intro e;subst e;rw[bh] at h;cases h.1
  . exact B3 h.2 hy
theorem sj{m:List (Nat×EO)}{g:Nat}(h:fW m g=true):∃o,(g,o)∈m/\cV m g=some o:=by
 induction m with
 |nil=>cases h
 |cons p m ih=>
  obtain⟨k,o⟩:=p;simp only[fW,g6] at h;unfold cV;cases hb:Nat.beq g k with
  |true=>exact⟨o,by rw[av hb];simp,rfl⟩
  |false=>
   rw[hb] at h;obtain⟨o',h1,h2⟩:=ih (h.resolve_left (by simp));exact⟨o',eB _ h1,h2⟩
theorem Ik{m:List (Nat×EO)}{g:Nat}(h:fW m g=false):cV m g=none:=by
 induction m with
 |nil=>rfl
 |cons p m ih=>
  obtain⟨k,o⟩:=p;simp only[fW,NB] at h;unfold cV;rw[h.1,aX];exact ih h.2
theorem Bi{r:List (Nat×Nat)}{m:List (Nat×EO)}{h:Hp}{g:Nat}{o:EO}:∀{l:List (Nat×EO)},yV r m h l->(g,o)∈l->BoxOk r m (h (eF r g)) o
 | (k,o')::l,⟨h1,h2⟩,hm=>by
   rcases List.mem_cons.1 hm with e|hm
   . cases e;exact h1
   . exact Bi h2 hm
theorem By{f:Nat->Nat}:∀{m:List (Nat×EO)},kY (m.map fun p=>f p.1)=true->∀{g g':Nat},fW m g=true->fW m g'=true->f g=f g'->g=g'
 | [],_,g,g',h,_,_=>by cases h
 | (k,o)::m,h,g,g',h1,h2,he=>by
   simp only[aS,kY,az] at h;simp only[fW,g6] at h1 h2;have key:∀{x:Nat},fW m x=true->f k≠f x:=fun{x} hx=>by
    obtain⟨o',hm,_⟩:=sj hx;exact B3 h.1 (List.mem_map.2 ⟨(x,o'),hm,rfl⟩)
   rcases h1 with h1|h1
   . have e1:=av h1;rcases h2 with h2|h2
     . rw[e1,av h2]
     . subst e1;exact absurd he (key h2)
   . rcases h2 with h2|h2
     . have e2:=av h2;subst e2;exact absurd he.symm (key h1)
     . exact By h.2 h1 h2 he
theorem xh{nx:Nat}:∀{m:List (Nat×EO)},nn nx m=true->∀g,nx<=g->cV m g=none
 | [],_,_,_=>rfl
 | (k,o)::m,h,g,hg=>by
   simp only[nn,az] at h;have hk:k<nx:=by have:=h.1;rwa[cY] at this
   unfold cV;rw[ed (by omega),aX];exact xh h.2 g hg
theorem H7{r:List (Nat×Nat)}{m:List (Nat×EO)}:∀{n:Nat},vh r m n=true->∀g,g<n->nA r m g=some g
 |n+1,h,g,hg=>by
  simp only[vh,az] at h;rcases Nat.lt_succ_iff_lt_or_eq.1 hg with h1|h1
  . exact H7 h.2 g h1
  . subst h1;unfold nA;rw[h.1.1,av h.1.2]
theorem To.tab{nP:Nat}{s:SS}(r:List (Nat×Nat)){l:List (Nat×ES)}{m:List (Nat×EO)}{nx:Nat}(h1:Df r m s.tm l)(h2:yV r m s.h m)(h3:(kY (m.map fun p=>eF r p.1)&&(vh r m nP&&nn nx m))=true):To nP s (aP l m nx):=by
 simp only[az] at h3;have hσ:∀{g g0:Nat},nA r m g=some g0->fW m g=true/\eF r g=g0:=fun{g g0} h=>by
  unfold nA at h;split at h
  . rename_i hk;simp only[ae] at h;exact⟨hk,h⟩
  . cases h
 refine⟨nA r m,iT r,⟨fun g g' x e1 e2=>?_,fun g g0 e=>?_,fun g e=>?_,fun g g0 o e ho=>?_⟩,fun t=>?_,H7 h3.2.1,xh h3.2.2⟩
 . obtain⟨a1,a2⟩:=hσ e1;obtain⟨b1,b2⟩:=hσ e2;exact By h3.1 a1 b1 (by rw[a2,b2])
 . obtain⟨a1,rfl⟩:=hσ e;obtain⟨o,hm,ht⟩:=sj a1;show cV m g=_;rw[ht];cases Bi h2 hm with
   |rn h h' hi=>rw[h,<-h'];rfl
   | sm h hc=>rw[h];show _=some _;rw[Bh hc]
 . refine Ik ?_;unfold nA at e;split at e
   . cases e
   . assumption
 . obtain⟨a1,rfl⟩:=hσ e;obtain⟨o',hm,ht⟩:=sj a1;cases Bi h2 hm with
   |rn h h' hi=>rw[h] at ho;cases ho;exact Hf (fun i hi=>HR hi) hi
   | sm h hc=>rw[h] at ho;cases ho;exact wQ hc
 . show ResR _ _ (pd l t);induction l with
   |nil=>exact ResR.unk
   |cons p l ih=>
    obtain⟨k,v⟩:=p;unfold pd;cases hb:Nat.beq t k with
    |true=>
     have:=av hb;subst this;cases h1.1 with
     |rn h hi=>
      rw[af,<-h];exact ResR.rn fun i hi'=>HR (List.all_eq_true.1 hi i hi')
     | sm h hi=>
      rw[af,<-h];have:=ResR.rn (Y:=nA r m) (V:=iT r) (r:=s.tm t) fun i hi'=>by rw[hi] at hi';cases hi'
      rwa[A6 hi] at this
    |false=>exact ih h1.2
section
variable {X:EX}{nP:Nat}{rd:Bool}{nt:Nat}{s:SS}{K:X6->SS->Prop}
theorem SW.to{c:X5}{s':SS}(t:To nP s s')(h:SW X nP rd nt c s' K):SW X nP rd nt c s K:=by
 obtain⟨Y,V,R,ht,hp,hf⟩:=t;exact V4 R ht hp hf h
def sT{G:Type _}(nP:Nat)(inv:G->SS)(μ:G->Nat)(g:G)(K:X6->SS->Prop):X6->SS->Prop
 | .normal,s=>∃g',To nP s (inv g')/\μ g'<μ g
 |e,s=>K e s
theorem SSm.to{E:EEnv}(hh:∀g,E.hid g->g<nP){w0:my}{H:ah}{U:Bm}{a:Act}{w:my}{s s':SS}(t:To nP s s')(hS:SSm X E w0 nt H U s a w):∃ U',(∀g,g<nP->∀u,U' g u=U g u)/\SSm X E w0 nt H U' s' a w:=by
 obtain⟨Y,V,R,ht,hp,hf⟩:=t;obtain⟨U',k1,k2⟩:=hS.st.sim.rn R fun g hg=>hp g (hh g hg);exact⟨U',fun g hg=>k1 g g (hp g hg),⟨k2,fun t=>ht t _ _ _ _ _ k1 (hS.st.slot t),hS.st.size⟩,hS.mks,hS.sm,hf⟩
theorem r6{G:Type _}(inv:G->SS)(μ:G->Nat){c:X5}(g0:G)(h0:To nP s (inv g0))(h:∀g,SW X nP rd nt c (inv g) (sT nP inv μ g K)):SW X nP rd nt (.loop c) s K:=fun ro hro E hI hh w0 H U a w Q hS hQ=>by
 have key:∀(n:Nat) (g:G) (H:ah) (U:Bm) (a:Act) (w:my),μ g<=n->SSm X E w0 nt H U (inv g) a w->(∀e s' a' w',K e s'->SPost X nP E w0 nt H U w s' a' w'->Q e a' w')->Code.roundsIn (FW ro) 0 X.P c Q (n+1) a w:=by
  intro n;induction n with
  |zero=>
   intro g H U a w hn hS hQ;rw[tZ];refine h g ro hro E hI hh w0 H U a w _ hS fun e s1 a1 w1 hk hp=>?_;cases e with
   |normal=>obtain⟨g',_,hg'⟩:=hk;omega
   |_=>exact hQ _ _ _ _ hk hp
  |succ n ih=>
   intro g H U a w hn hS hQ;rw[tZ];refine h g ro hro E hI hh w0 H U a w _ hS fun e s1 a1 w1 hk hp=>?_;cases e with
   |normal=>
    obtain⟨g',ht,hg'⟩:=hk;obtain⟨H1,β1,p1,p2,p3,p4⟩:=hp;obtain⟨β2,k1,k2⟩:=p3.to hh ht;exact ih g' H1 β2 a1 w1 (by omega) k2 fun e s' a' w' k hp'=>hQ e s' a' w' k (hp'.trans p1 (fun g u x hg hx=>by rw[k1 g hg];exact p2 g u x hg hx) p4)
   |_=>exact hQ _ _ _ _ hk hp
 obtain⟨β0,k1,k2⟩:=hS.to hh h0;exact Fu (μ g0+1) (key (μ g0) g0 H β0 a w (ak _) k2 fun e s' a' w' k hp'=>hQ e s' a' w' k (hp'.trans (HLe.refl _) (fun g u x hg hx=>by rw[k1 g hg];exact hx) (MarkSame.refl _)))
def sJ{G:Type _}(nP:Nat)(inv:G->SS)(K:X6->SS->Prop):X6->SS->Prop
 | .normal,s=>∃g,To nP s (inv g)
 |e,s=>K e s
theorem SW.join{G:Type _}(inv:G->SS){x y:X5}(h1:SW X nP rd nt x s (sJ nP inv K))(h2:∀g,SW X nP rd nt y (inv g) K):SW X nP rd nt (.seq x y) s K :=
 SW.seq (h1.mono fun e s h=>by
  cases e with
  |normal=>obtain⟨g,t⟩:=h;exact SW.to t (h2 g)
  |_=>exact h)
end
def fV(zs:List EO):Hp:=fun g=>zs[g]?
def uX:EO->Bool
 | .loop .. => false
 |_=>true
theorem OIds.chg{P Q:Nat->Prop}{V V':Nat->Nat}{o:EO}(hn:uX o=true)(hPQ:∀i,P i->Q i)(h:OIds P V o):OIds Q V' o:=by
 cases o with
 |mem e cs fz vs cnt=>exact fun u p hup i hi=>hPQ i (h u p hup i hi)
 |map es ck=>exact fun e he=>⟨fun i hi=>hPQ i ((h e he).1 i hi),fun i hi=>hPQ i ((h e he).2 i hi)⟩
 |iter=>exact hPQ _ h
 |loop=>cases hn
 |hid=>trivial
def fS(zs:List EO)(i:Nat):Prop:=i<zs.length/\zs[i]?≠some .hid
structure LocC(X:EX)(f:qe)(args:List ES)(zs:List EO)(r:ES)(zs':List EO):Prop where
 call:CallOk X f args (fV zs) r (fV zs')
 le:zs.length<=zs'.length
 a:∀i∈args.flatMap eV,i<zs.length
 z:∀o∈zs,o≠ .hid/\uX o=true/\OIds (fun i=>i<zs.length) id o
 r:∀i∈eV r,fS zs' i
 z':∀o∈zs',uX o=true/\OIds (fS zs') id o
def mF(V:Nat->Nat):Nat->List EO->Wr
 |_,[]=>[]
 |i,o::l=>(V i,dT V o)::mF V (i+1) l
theorem HM{V:Nat->Nat}{n:Nat}(hρ:∀i j,i<n->j<n->V i=V j->i=j):∀{l:List EO} {k:Nat} {h:Hp},k+l.length<=n->(∀j o,l[j]?=some o->a8 h (mF V k l) (V (k+j))=some (dT V o))/\∀g,(∀j,j<l.length->V (k+j)≠g)->a8 h (mF V k l) g=h g
 | [],k,h,_=>⟨fun j o hj=>by simp at hj,fun g _=>rfl⟩
 |o::l,k,h,hl=>by
  simp only[bB] at hl;obtain⟨i1,i2⟩:=HM hρ (l:=l) (k:=k+1) (h:=aB h (V k) (some (dT V o))) (by omega);refine⟨fun j o' hj=>?_,fun g hg=>?_⟩
  . cases j with
    |zero=>
     simp at hj;subst hj;show a8 (aB h (V k) _) (mF V (k+1) l) (V k)=_;rw[i2 (V k) fun j hj e=>by have:=hρ _ _ (by omega) (by omega) e;omega,aT]
    |succ j=>
     have:=i1 j o' (by simpa using hj);rwa[show k+1+j=k+(j+1) by omega] at this
  . show a8 (aB h (V k) _) (mF V (k+1) l) g=_;rw[i2 g fun j hj=>by have:=hg (j+1) (by simp;omega);rwa[show k+(j+1)=k+1+j by omega] at this,aD _ _ _ fun e=>hg 0 (by simp) (by rw[fA];exact e.symm)]
section
variable {X:EX}
open Classical
theorem A3{f:qe}{args:List ES}{zs zs':List EO}{r:ES}(L:LocC X f args zs r zs'){V:Nat->Nat}(hρ:∀i j,i<zs'.length->j<zs'.length->V i=V j->i=j){h:Hp}
 (h1:∀i o,zs[i]?=some o->h (V i)=some (dT V o)) (h2:∀i,zs.length<=i->i<zs'.length->h (V i)=none):CallOk X f (args.map (iH V)) h (iH V r) (a8 h (mF V 0 zs')):=by
 refine⟨L.call.1,fun E hI H U w vs hS hv=>?_⟩;have hle:=L.le;obtain⟨w1,w2⟩:=HM hρ (l:=zs') (k:=0) (h:=h) (by omega);simp only[aU] at w1 w2
 -- the small heap
 let E1:EEnv:=⟨fun k=>E.own k/\∀g u s,(∀i,i<zs.length->V i≠g)->U g u=some s->s.1≠k,w,H,fun _=>False,fun _ _=>none⟩
 let β1:Bm:=fun i u=>if i<zs.length then U (V i) u else none
 have e1:∀i,i<zs.length->∀u,β1 i u=U (V i) u:=fun i hi u=>ay hi;have get:∀{i:Nat} {o:EO},(fV zs) i=some o->i<zs.length/\o∈zs:=fun{i o} ho=>⟨(List.getElem?_eq_some_iff.1 ho).1,bV ho⟩;have hS1:ESim X.Z E1 H β1 (fV zs) w:=by
  refine⟨hS.has,BelowO.refl _ _,fun k hk=>⟨hS.lo k hk,fun g u s _ hs e=>?_⟩,HExtO.refl _ _,fun i o ho=>?_,fun i u k hk=>?_,fun i j u u' k k' hk hk' he=>?_,fun g hg=>hg.elim⟩
  . have:=(hS.dom g u s hs).1;omega
  . obtain⟨hi,hm⟩:=get ho;obtain⟨_,z1,z2⟩:=L.z o hm;have hb:=hS.obj (V i) _ (h1 i o ho);have:=(OR.rn (U:=β1) (U':=U) (g:=i) (g':=V i) (o:=o) (fun u=>(e1 i hi u).symm) (z2.chg (Q:=fun i=>i<zs.length) (V':=V) z1 fun _ h=>h) fun j hj u=>(e1 j hj u).symm).2 hb;refine this.own_mono fun u k hk ho'=>⟨ho',fun g u' s hg hs e=>?_⟩;rw[e1 i hi] at hk;exact hg i hi (hS.inj _ _ _ _ _ _ hk hs e.symm)
  . have hi:i<zs.length:=by
     rcases fx i zs.length with h'|h'
     . exact h'
     . have:β1 i u=none:=am (by omega);rw[this] at hk;cases hk
    rw[e1 i hi] at hk;obtain⟨a,o',b,c⟩:=hS.dom _ u k hk;have hz:zs[i]?=some zs[i]:=by simp[hi]
    have hh:=h1 i _ hz;rw[hh] at b;simp only[ae] at b;subst b;refine⟨a,zs[i],hz,c.imp (fun e=>Cu.1 e) fun c=>⟨⟨c.1,fun g u' s hg hs e=>?_⟩,by rw[Cv] at c;exact c.2⟩⟩;exact hg i hi (hS.inj _ _ _ _ _ _ hk hs e.symm)
  . have lt:∀{i u k},β1 i u=some k->i<zs.length:=fun{i u k} hk=>by
     rcases fx i zs.length with h'|h'
     . exact h'
     . have:β1 i u=none:=am (by omega);rw[this] at hk;cases hk
    have hi:=lt hk;have hj:=lt hk';rw[e1 i hi] at hk;rw[e1 j hj] at hk';exact hρ i j (by omega) (by omega) (hS.inj _ _ _ _ _ _ hk hk' he)
 have hv1:SREL X.Z H β1 vs args:=(SREL.rn fun i hi u=>(e1 i (L.a i hi) u).symm).2 hv;refine(L.call.2 E1 (fun w' hb=>hI w' (hS.below.trans (hb.mono fun k hk=>hk.1))) H β1 w vs hS1 hv1).mono ?_;rintro e w' ⟨v,H',β1',rfl,hh,dK,hS2,hm,hr⟩
 -- the great heap behind the call
 let U':Bm:=fun g u=>if hg:∃i,fS zs' i/\V i=g then β1' hg.choose u else U g u
 have eL:∀i,fS zs' i->∀u,U' (V i) u=β1' i u:=fun i hi u=>by
  have hg:∃j,fS zs' j/\V j=V i:=⟨i,hi,rfl⟩;have hc:=hg.choose_spec;have:hg.choose=i:=hρ _ _ hc.1.1 hi.1 hc.2;show(if hg:∃j,fS zs' j/\V j=V i then β1' hg.choose u else U (V i) u)=_;rw[dif_pos hg,this]
 have eN:∀g,(∀i,fS zs' i->V i≠g)->∀u,U' g u=U g u:=fun g hg u=>dif_neg (fun⟨i,hi,e⟩=>hg i hi e);have hble:BLe U U':=fun g u k hk=>by
  by_cases hg:∃i,fS zs' i/\V i=g
  . obtain⟨i,hi,rfl⟩:=hg;rw[eL i hi];have hlt:i<zs.length:=by
     rcases fx i zs.length with h'|h'
     . exact h'
     . obtain⟨_,o,ho,_⟩:=hS.dom _ u k hk;rw[h2 i h' hi.1] at ho;cases ho
    exact dK i u k (by rw[e1 i hlt];exact hk)
  . rw[eN g fun i hi e=>hg ⟨i,hi,e⟩];exact hk
 have hz':∀{i:Nat} {o:EO},zs'[i]?=some o->o≠ .hid->fS zs' i:=fun{i o} ho hn=>⟨(List.getElem?_eq_some_iff.1 ho).1,by rw[ho];simpa using hn⟩
 -- a block of the small heap against one of the others
 have apart:∀i u k g u' k',fS zs' i->β1' i u=some k->(∀j,fS zs' j->V j≠g)->U g u'=some k'->k.1≠k'.1:=fun i u k g u' k' hi hk hg hk' e=>by
  obtain⟨_,o,ho,hc⟩:=hS2.dom i u k hk;have ho:zs'[i]?=some o:=ho;have hown:=(hc.resolve_left fun e'=>hi.2 (by rw[ho,e'])).1;by_cases hin:∃j,j<zs.length/\V j=g
  . obtain⟨j,hj,rfl⟩:=hin;have:=hS2.inj i j u u' k k' hk (dK j u' k' (by rw[e1 j hj];exact hk')) e;subst this;exact hg i hi rfl
  . exact hown.2 g u' k' (fun j hj e'=>hin ⟨j,hj,e'⟩) hk' e.symm
 have hobj:∀g o,a8 h (mF V 0 zs') g=some o->(∃i,i<zs'.length/\V i=g/\zs'[i]?=some zs'[i]!/\o=dT V zs'[i]!)\/((∀i,i<zs'.length->V i≠g)/\h g=some o):=fun g o ho=>by
  by_cases hin:∃i,i<zs'.length/\V i=g
  . obtain⟨i,hi,rfl⟩:=hin;have hz:zs'[i]?=some zs'[i]!:=by rw[Fv];simp[hi]
    have:=w1 i _ hz;rw[ho] at this;exact .inl ⟨i,hi,rfl,hz,by simpa using this⟩
  . have hin':∀i,i<zs'.length->V i≠g:=fun i hi e=>hin ⟨i,hi,e⟩;rw[w2 g hin'] at ho;exact .inr ⟨hin',ho⟩
 have hsim:ESim X.Z E H' U' (a8 h (mF V 0 zs')) w':=by
  refine⟨hS2.has,hS.below.trans (hS2.below.mono fun k hk=>hk.1),fun k hk=>(hS2.lo k hk).1,hS.ext.step (own':=E1.own) ⟨hh,fun b arr hb=>hS2.ext.2 b arr hb⟩ (fun k hk=>hk.1),fun g o hg=>?_,fun g u k hk=>?_,fun g1 g2 u1 u2 k1 k2 hk1 hk2 he=>?_,fun g hg=>?_⟩
  . rcases hobj g o hg with⟨i,hi,rfl,hz,rfl⟩|⟨hin,ho⟩
    . by_cases hd:zs'[i]! = .hid
      . rw[hd];trivial
      . have hl:=hz' hz hd;obtain⟨z1,z2⟩:=L.z' _ (bV hz);exact((OR.rn (eL i hl) (z2.chg (Q:=fS zs') (V':=V) z1 fun _ h=>h) fun j hj u=>eL j hj u).1 (hS2.obj i _ hz)).own_mono fun _ _ _ ho=>ho.1
    . by_cases hd:o=.hid
      . subst hd;trivial
      . have hno:∀u k,U g u=some k->¬E1.own k.1:=fun u k hk hown=>hown.2 g u k (fun i hi e=>hin i (by omega) e) hk rfl;refine(hS.obj g o ho).keep (fun u k hk=>hS2.below.block _ (hno u k hk)) (fun u k hk hn=>?_) hh hble (eN g fun i hi=>hin i hi.1);cases hx:H' k.1 with
        |none=>rfl
        |some arr=>
         rcases hS2.ext.2 _ _ hx with h'|h'
         . have h':H k.1=some arr:=h';rw[hn] at h';cases h'
         . exact absurd h' (hno u k hk)
  . by_cases hg:∃i,fS zs' i/\V i=g
    . obtain⟨i,hi,rfl⟩:=hg;rw[eL i hi] at hk;obtain⟨a,o,ho,c⟩:=hS2.dom i u k hk;have ho:zs'[i]?=some o:=ho;exact⟨a,dT V o,w1 i o ho,.inr (by
       have c:=c.resolve_left fun e'=>hi.2 (by rw[ho,e']);exact⟨c.1.1,by rw[Cv];exact c.2⟩)⟩
    . have hg':∀i,fS zs' i->V i≠g:=fun i hi e=>hg ⟨i,hi,e⟩;rw[eN g hg'] at hk;obtain⟨a,o,ho,c⟩:=hS.dom g u k hk;by_cases hin:∃i,i<zs'.length/\V i=g
      . obtain⟨i,hi,rfl⟩:=hin;have hz:zs'[i]?=some zs'[i]!:=by rw[Fv];simp[hi]
        have hd:zs'[i]! = .hid:=by
         rcases Classical.em (zs'[i]! = .hid) with e|e
         . exact e
         . exact absurd rfl (hg' i (hz' hz e))
        exact⟨g7 a hS2.below.size,.hid,by rw[w1 i _ hz,hd];rfl,.inl rfl⟩
      . have hin':∀i,i<zs'.length->V i≠g:=fun i hi e=>hin ⟨i,hi,e⟩;exact⟨g7 a hS2.below.size,o,by rw[w2 g hin'];exact ho,c⟩
  . by_cases hg1:∃i,fS zs' i/\V i=g1
    . obtain⟨i,hi,rfl⟩:=hg1;rw[eL i hi] at hk1;by_cases hg2:∃i,fS zs' i/\V i=g2
      . obtain⟨j,hj,rfl⟩:=hg2;rw[eL j hj] at hk2;rw[hS2.inj _ _ _ _ _ _ hk1 hk2 he]
      . have hg2':∀i,fS zs' i->V i≠g2:=fun i hi e=>hg2 ⟨i,hi,e⟩;rw[eN g2 hg2'] at hk2;exact absurd he (apart i u1 k1 g2 u2 k2 hi hk1 hg2' hk2)
    . have hg1':∀i,fS zs' i->V i≠g1:=fun i hi e=>hg1 ⟨i,hi,e⟩;rw[eN g1 hg1'] at hk1;by_cases hg2:∃i,fS zs' i/\V i=g2
      . obtain⟨j,hj,rfl⟩:=hg2;rw[eL j hj] at hk2;exact absurd he.symm (apart j u2 k2 g1 u1 k1 hj hk2 hg1' hk1)
      . rw[eN g2 fun i hi e=>hg2 ⟨i,hi,e⟩] at hk2;exact hS.inj _ _ _ _ _ _ hk1 hk2 he
  . obtain⟨a,b⟩:=hS.hidb g hg;by_cases hin:∃i,i<zs'.length/\V i=g
    . obtain⟨i,hi,rfl⟩:=hin;rcases fx i zs.length with h'|h'
      . have hz:zs[i]?=some zs[i]:=by simp[h']
        have:=h1 i _ hz;rw[a] at this;simp only[ae] at this;exact absurd (Cu.1 this.symm) (L.z _ (eM h')).1
      . have:=h2 i h' hi;rw[a] at this;cases this
    . have hin':∀i,i<zs'.length->V i≠g:=fun i hi e=>hin ⟨i,hi,e⟩;exact⟨by rw[w2 g hin'];exact a,fun u=>(eN g (fun i hi=>hin' i hi.1) u).trans (b u)⟩
 exact⟨v,H',U',rfl,hh,hble,hsim,hm,(SRe.rn fun i hi u=>eL i (L.r i hi) u).1 hr⟩
end
end Go.Proofs.En
namespace Go.Proofs.En
open Go.RowKit Go.Proofs.Fl Go.Shelf Go.Sort
theorem jt{α U:Type}{f:α->List U}{k:Nat}:∀{l:List α},(∀a∈l,(f a).length=k)->(l.flatMap f).length=l.length*k
 | [],_=>by simp
 |a::l,h=>by
  rw[ch,bF,h a (by simp),jt fun b hb=>h b (by simp[hb]),bB,bP];omega
theorem flat_get{α U:Type}{f:α->List U}{k:Nat}:∀{l:List α} {i:Nat} {a:α},(∀a∈l,(f a).length=k)->l[i]?=some a->((l.flatMap f).drop (i*k)).take k=f a
 | [],i,a,_,h=>by simp at h
 |b::l,0,a,hl,h=>by
  simp at h;subst h;rw[mW,bL,ch,jm (by rw[hl b (by simp)];exact ak _),aC (by rw[hl b (by simp)];exact ak _)]
 |b::l,i+1,a,hl,h=>by
  have hb:=hl b (by simp);rw[ch,show(i+1)*k=(f b).length+i*k by rw[hb,bP];omega,MX,Fd,pt (wA _ _),lM];exact flat_get (fun c hc=>hl c (by simp[hc])) (by simpa using h)
section
variable {X:EX}
theorem PN{f g:qe}{k n:Nat}{e:me}(hk0:0<k)(hn:0<n)(hsz:n<4611686018427387904)
 {V:Go.Shelf.Ren} (L:SlLaysF0.n6 X.P V) (hf:V.f 6=f) (hF:zH X f)
 (aE:∀w,(isAgg (V.t 24)).run X.P w=.ok true w) (zE:∀w,(Go.sizeOf (V.t 24)).run X.P w=.ok k w)
 (eg:∀args w,(callFunc g args).run X.P w=.ok (.enter g args) w)
 {rows:Fin n->List EV} (hr:∀i,(rows i).length=k) {xs:Fin n->IV}
 (hv:∀(H:ah) (U:Bm) (vs:List X3) (i:Fin n),CRL X.Z H U vs (rows i)->VR H (.agg vs.toArray) (xs i))
 {cf:Fin n->Fin n->Int} (hc:∀i j,a7 X.P X.I g [xs i,xs j] (.int .i64 (cf i j))) (hO:SWO (ltOf cf))
 {ord:List (Fin n)} (hp:ord.Perm (List.finRange n)) (hs:ord.Pairwise fun i j=>cf i j<0) (ht:∀i j,i≠j->cf i j<0\/cf j i<0)
 {cap:Cap} {cnt:Nat} :
 CallOk X f [.w (.one (.slc 0 0 0 n cap)),ac (.fn g)] (fV [.mem e ((List.finRange n).flatMap rows) false [(0,n*k)] cnt]) (.tup []) (fV [.mem e (ord.flatMap rows) false [(0,n*k)] cnt]):=by
 subst hf;refine⟨hF,fun E hI H U w vs hS hvs=>?_⟩
 match vs,hvs with
 | [v0,v1],⟨h0,h1,_⟩=>
 obtain⟨kk,c,hβ,rfl,hnc,hcap⟩:=h0;obtain⟨_,h1⟩:=h1;cases h1;obtain⟨hnone,hver⟩:=hS.obj 0 _ rfl;obtain⟨hu,kk',arr,hβ',hown,hH',hheap,hsize,hp1,hp2,hcr⟩:=hver 0 (n*k) (by simp);have ekk:kk=kk':=by rw[hβ] at hβ';exact AM hβ'
 subst ekk;have hfl:((List.finRange n).flatMap rows).length=n*k:=by rw[jt fun a _=>hr a,List.length_finRange]
 rw[aC (kM hfl)] at hcr;have hblk:kk.1<w.heap.size:=(Array.getElem?_eq_some_iff.1 hheap).1;have hrow:∀i:Fin n,CRL X.Z H U (vw arr k i) (rows i):=fun i=>by
  have h:=(hcr.drop (i*k)).take k;rw[flat_get (fun a _=>hr a) (a:=i) (by simp)] at h;have hi:(i:Nat)*k+k<=n*k:=by
   have:=bU k (Nat.succ_le_of_lt i.2);rw[n5] at this;exact this
  have e:((arr.toList.take (n*k)).drop (i*k)).take k=vw arr k i:=by
   unfold vw;rw[lJ,ce,cB (by omega)]
  rwa[e] at h
 letI:Inhabited (Fin n):=⟨⟨0,hn⟩⟩
 obtain⟨enc,henc⟩:∃enc:Fin n->List X3,enc=fun i=>vw arr k i.1:=⟨_,rfl⟩;have hrow':∀i:Fin n,CRL X.Z H U (enc i) (rows i):=fun i=>by rw[henc];exact hrow i
 have hke:∀x,(enc x).length=k:=fun i=>(hrow' i).length.trans (hr i);have h1c:∀x,∀v∈enc x,v.oneCell'=true:=fun i=>(hrow' i).one;obtain⟨d,hd⟩:∃d:Array (Fin n),d=(List.finRange n).toArray:=⟨_,rfl⟩;have hds:d.size=n:=by rw[hd];simp
 have hH:HoldsK enc k w kk.1 0 d:=fun t htk=>by
  rw[size_flatK,hds] at htk;have hq:t/k<n:=(mZ hk0).2 htk;have hm:t%k<k:=iy _ hk0;have e1:d[t/k]! = ⟨t/k,hq⟩:=by
   rw[hd,AB _ _ (by simpa using hq)];simp
  have hta:t<arr.size:=g7 htk hp2;have e2:(enc ⟨t/k,hq⟩)[t%k]! = arr[t]:=by
   have:t/k*k+t%k=t:=by rw[dD];exact nY t k
   rw[henc];simp only[vw];rw[Fv,cX,ay hm,ru,this];simp[hta]
  rw[get_flatK _ _ _ _ (by rw[hds];exact htk),e1,e2];refine⟨?_,?_⟩
  . simp[World.cell?,hheap,hta]
  . simp[World.frozen?,hheap]
 have hother:∀(m:Nat) (dk:Array (Fin n)) (os:Array Obj) (b:Nat),b<w.heap.size->b≠kk.1->(sortWorldK enc k w kk.1 0 m dk os).heap[b]?=w.heap[b]?:=fun m dk os b hb hne=>by
  rw[Gx hb,am (kP hne)]
 have hbel:∀(m:Nat) (dk:Array (Fin n)) (os:Array Obj),BelowO E.own w (sortWorldK enc k w kk.1 0 m dk os):=fun m dk os=>
  ⟨rfl,rfl,rfl,Bb,fun b hb=>by
   rcases fx b w.heap.size with h|h
   . exact hother m dk os b h fun e=>hb (by rw[e];exact hown)
   . exact absurd (hS.lo b h) hb⟩
 have hHn:H kk.1=none:=hnone rfl 0 kk hβ;have hhas:∀(m:Nat) (dk:Array (Fin n)) (os:Array Obj),HeapHas (sortWorldK enc k w kk.1 0 m dk os) H:=fun m dk os b a hb=>by
  obtain⟨t,fr,h⟩:=hS.has b a hb;exact⟨t,fr,(hother m dk os b (hS.has.lt hb) fun e=>by rw[e,hHn] at hb;cases hb).trans h⟩
 have hcmp:CmpLays X.P g #[] enc k cf kk.1 0 d.size w:=fun m os dk _ x y=>
  PZ (hc x y) (hI _ (hS.below.trans (hbel m dk os))) (hhas m dk os) (.cons _ _ _ _ (hv H U _ x (hrow' x)) (.cons _ _ _ _ (hv H U _ y (hrow' y)) .nil))
 have key:=AnyQ.slices_SortFunc L k aE zE enc hke h1c cf hO g #[] kk.1 0 c d w eg hcmp hH hblk (by rw[hds];exact hsz);rw[hds] at key;refine key.mono ?_;rintro en w' ⟨rfl,d',m,os,hperm,hsort,rfl⟩;have hd's:d'.size=n:=hperm.1.trans hds;have hordl:ord.length=n:=by rw[hp.length_eq,List.length_finRange]
 have ex:∀a:Array (Fin n),a.size=n->a.extract 0 n=a:=fun a h=>(aJ (fun x=>a.extract 0 x) h.symm).trans Array.extract_size;have hord:ord=d'.toList:=by
  refine KP (R:=fun i j=>cf i j<0) (fun a b h1 h2=>?_) ?_ hs ?_ (hp.nodup_iff.2 (List.nodup_finRange n)) fun a _ b _ hab=>ht a b hab
  . have h3:=hO.trans a b a (aZ h1) (aZ h2);rw[hO.irrefl] at h3;cases h3
  . have h4:=hperm.2.2;rw[ex d' hd's,ex d hds] at h4;refine hp.trans (List.Perm.symm ?_);rwa[hd,List.toList_toArray] at h4
  . rw[List.pairwise_iff_getElem];intro i j hi hj hij h;have hi':i<d'.size:=by simpa using hi
    have hj':j<d'.size:=by simpa using hj
    have h5:=hsort i j (bk _) hij (by omega);rw[AB d' i hi',AB d' j hj'] at h5;have h6:ltOf cf d'[j] d'[i]=true:=aZ h;rw[h5] at h6;cases h6
 have harr:(putCells id 0 (flatK enc k d') arr).toList.take (n*k)=d'.toList.flatMap enc:=by
  have hl:(d'.toList.flatMap enc).length=n*k:=by rw[jt fun a _=>hke a];simp[hd's]
  apply px;intro t;rcases fx t (n*k) with h|h
  . have hq:t/k<n:=(mZ hk0).2 h;have hm:t%k<k:=iy _ hk0;have htt:t/k*k+t%k=t:=by rw[dD];exact nY t k
    have hta:t<arr.size:=g7 h hp2;have e1:(d'.toList.flatMap enc)[t]?=(enc d'[t/k]!)[t%k]?:=by
     have h7:=flat_get (l:=d'.toList) (i:=t/k) (a:=d'[t/k]!) (fun a _=>hke a) (by
      rw[tL,AB _ _ (by omega)];simp[hd's,hq])
     rw[<-h7,cX,ay hm,ru,htt]
    rw[e1,cX,ay h];unfold putCells;have h8:t<(enc d'[t/k]!).length->True:=fun _=>trivial;rw[tL,Array.getElem?_mapIdx];simp only[size_flatK,hd's,aU,bk,true_and,h,bD,tX,hta,Array.getElem?_eq_getElem,fa,id];rw[get_flatK _ _ _ _ (by rw[hd's];exact h)];have hlt:t%k<(enc d'[t/k]!).length:=by rw[hke];exact hm
    rw[Fv,a6 hlt];rfl
  . rw[ry (by rw[cy];omega),ry (by rw[hl];exact h)]
 have hheap':(sortWorldK enc k w kk.1 0 m d' os).heap[kk.1]?=some (.cells (putCells id 0 (flatK enc k d') arr) e (0,0)):=by
  rw[Gx hblk,ay rfl,hheap];rfl
 have hsz':(putCells id 0 (flatK enc k d') arr).size=arr.size:=by unfold putCells;simp
 refine⟨.tuple #[],H,U,rfl,HLe.refl _,BLe.refl _,?_,fun D hD=>hother m d' os D (Array.getElem?_eq_some_iff.1 hD).1 fun e'=>(by rw[e',hheap] at hD;cases hD),⟨[],rfl,ab⟩⟩;have T:=hS.turn (g:=0) (o:=.mem e (ord.flatMap rows) false [(0,n*k)] cnt) (w':=sortWorldK enc k w kk.1 0 m d' os) (U':=U) (fun h=>by cases h) rfl rfl rfl Bb
  (fun j hj h=>hother m d' os j hj fun e'=>h 0 kk hβ e'.symm) (fun u s hs=>hnone rfl u s hs) (BLe.refl _) (fun _ _ _=>rfl)
  (fun u s hs=>by
    obtain⟨a,o',b,c'⟩:=hS.dom 0 u s hs;cases b;rcases c' with c'|c'
    . cases c'
    . exact⟨c'.2,g7 a Bb,c'.1,.inl ⟨u,s,hs,rfl⟩⟩)
  ⟨fun _=>hnone rfl,fun u p hup=>by
   rw[fL] at hup;cases hup;refine⟨hu,kk,putCells id 0 (flatK enc k d') arr,hβ,hown,hH',hheap',by rw[hsz'];exact hsize,?_,by rw[hsz'];exact hp2,?_⟩
   . rw[jt fun a _=>hr a,hordl];exact ak _
   . rw[harr,<-hord,aC (by rw[jt fun a _=>hr a,hordl];exact ak _)];exact CRL.flatMap fun a _=>hrow' a⟩
 have e9:aB (fV [.mem e ((List.finRange n).flatMap rows) false [(0,n*k)] cnt]) 0 (some (.mem e (ord.flatMap rows) false [(0,n*k)] cnt))=fV [.mem e (ord.flatMap rows) false [(0,n*k)] cnt]:=by
  funext g';cases g' with
  |zero=>rw[aT];rfl
  |succ g'=>rw[aD _ _ _ (Nat.succ_ne_zero _)];rfl
 rw[e9] at T;exact T
end
end Go.Proofs.En
namespace Go.Proofs
open Go.Shelf
def Tryz.sortTerm_ren:Go.Shelf.Ren:=⟨fun|6=>133|15=>178|14=>177|28=>216|29=>217|20=>208|21=>209|22=>210|23=>211|24=>212|25=>213|26=>214|27=>215|46=>242|47=>243|48=>244|49=>245|50=>246|57=>257|n=>n,fun|22=>84|24=>83|25=>200|3=>3|39=>229|0=>0|53=>173|55=>181|4=>4|46=>275|45=>274|50=>244|5=>5|9=>9|66=>300|70=>303|76=>313|77=>314|n=>n,fun|n=>n⟩
theorem Tryz.sortTerm:Go.Proofs.SlLaysF0.n6 Tryz.prog Tryz.sortTerm_ren:={
 mixed:=by kernel_rfl
 f6:=⟨Tryz.f133.name,by decide,Tryz.func133.trans (aJ some (by kernel_rfl))⟩
 f14:=⟨Tryz.f177.name,by decide,Tryz.func177.trans (aJ some (by kernel_rfl))⟩
 f15:=Tryz.func178.trans (aJ some (by kernel_rfl))
 f20:=⟨Tryz.f208.name,by decide,Tryz.func208.trans (aJ some (by kernel_rfl))⟩
 f21:=⟨Tryz.f209.name,by decide,Tryz.func209.trans (aJ some (by kernel_rfl))⟩
 f22:=⟨Tryz.f210.name,by decide,Tryz.func210.trans (aJ some (by kernel_rfl))⟩
 f23:=⟨Tryz.f211.name,by decide,Tryz.func211.trans (aJ some (by kernel_rfl))⟩
 f24:=⟨Tryz.f212.name,by decide,Tryz.func212.trans (aJ some (by kernel_rfl))⟩
 f25:=⟨Tryz.f213.name,by decide,Tryz.func213.trans (aJ some (by kernel_rfl))⟩
 f26:=⟨Tryz.f214.name,by decide,Tryz.func214.trans (aJ some (by kernel_rfl))⟩
 f27:=⟨Tryz.f215.name,by decide,Tryz.func215.trans (aJ some (by kernel_rfl))⟩
 f28:=Tryz.func216.trans (aJ some (by kernel_rfl))
 f29:=Tryz.func217.trans (aJ some (by kernel_rfl))
 f46:=⟨Tryz.f242.name,by decide,Tryz.func242.trans (aJ some (by kernel_rfl))⟩
 f47:=Tryz.func243.trans (aJ some (by kernel_rfl))
 f48:=Tryz.func244.trans (aJ some (by kernel_rfl))
 f49:=⟨Tryz.f245.name,by decide,Tryz.func245.trans (aJ some (by kernel_rfl))⟩
 f50:=⟨Tryz.f246.name,by decide,Tryz.func246.trans (aJ some (by kernel_rfl))⟩
 f57:=⟨Tryz.f257.name,by decide,Tryz.func257.trans (aJ some (by kernel_rfl))⟩
 t0:=Tryz.underlying0
 a0:=Tryz.isAgg0
 z0:=Tryz.sizeOf0
 v0:=Tryz.zeroValue0
 t3:=Tryz.underlying3
 a3:=Tryz.isAgg3
 z3:=Tryz.sizeOf3
 v3:=Tryz.zeroValue3
 t4:=Tryz.underlying4
 a4:=Tryz.isAgg4
 z4:=Tryz.sizeOf4
 v4:=Tryz.zeroValue4
 t5:=Tryz.underlying5
 a5:=Tryz.isAgg5
 z5:=Tryz.sizeOf5
 v5:=Tryz.zeroValue5
 t9:=Tryz.underlying9
 a9:=Tryz.isAgg9
 z9:=Tryz.sizeOf9
 v9:=Tryz.zeroValue9
 t22:=Tryz.underlying84
 a22:=Tryz.isAgg84
 z22:=Tryz.sizeOf84
 v22:=Tryz.zeroValue84
 t25:=Tryz.underlying200
 a25:=Tryz.isAgg200
 z25:=Tryz.sizeOf200
 v25:=Tryz.zeroValue200
 t39:=Tryz.underlying229
 a39:=Tryz.isAgg229
 z39:=Tryz.sizeOf229
 v39:=Tryz.zeroValue229
 t45:=Tryz.underlying274
 a45:=Tryz.isAgg274
 z45:=Tryz.sizeOf274
 v45:=Tryz.zeroValue274
 t46:=Tryz.underlying275
 a46:=Tryz.isAgg275
 z46:=Tryz.sizeOf275
 v46:=Tryz.zeroValue275
 t50:=Tryz.underlying244
 a50:=Tryz.isAgg244
 z50:=Tryz.sizeOf244
 v50:=Tryz.zeroValue244
 t53:=Tryz.underlying173
 a53:=Tryz.isAgg173
 z53:=Tryz.sizeOf173
 v53:=Tryz.zeroValue173
 t55:=Tryz.underlying181
 a55:=Tryz.isAgg181
 z55:=Tryz.sizeOf181
 v55:=Tryz.zeroValue181
 t66:=Tryz.underlying300
 a66:=Tryz.isAgg300
 z66:=Tryz.sizeOf300
 v66:=Tryz.zeroValue300
 t70:=Tryz.underlying303
 a70:=Tryz.isAgg303
 z70:=Tryz.sizeOf303
 v70:=Tryz.zeroValue303
 t76:=Tryz.underlying313
 a76:=Tryz.isAgg313
 z76:=Tryz.sizeOf313
 v76:=Tryz.zeroValue313
 t77:=Tryz.underlying314
 a77:=Tryz.isAgg314
 z77:=Tryz.sizeOf314
 v77:=Tryz.zeroValue314 }
end Go.Proofs
namespace Go.Proofs.En
open Go.RowKit Go.Proofs.Fl Go.Proofs.Dig
noncomputable def ZZ:QS:=⟨fun n d=>qr (mkRat n d),3,fun n d=>⟨_,rfl,rfl⟩⟩
def mO:Nat:=79228162514264337593543950336
def io(n:Int)(d:Nat):Bool:=Nat.blt n.natAbs mO&&(Nat.blt 0 d&&Nat.blt d mO)
theorem ml{a b:Nat}(h:Nat.blt a b=true):a<b:=by rwa[cY] at h
theorem yH{n:Int}{d:Nat}(h:io n d=true):n.natAbs<mO/\0<d/\d<mO:=by
 simp only[io,az] at h;exact⟨ml h.1,ml h.2.1,ml h.2.2⟩
theorem yI{n:Nat}(h:n<mO):ln n<=4:=li (iN h (by decide))
theorem Do{n:Int}{d:Nat}(h:io n d=true):al (mkRat n d)<=8:=by
 obtain⟨h1,h2,h3⟩:=yH h;have e1:=pM (z:=n) h2;have e2:=rT (z:=n) h2;have e3:(mkRat n d).num.natAbs=n.natAbs/Nat.gcd n.natAbs d:=by
  rw[e1];have hs:∀(b:Bool) (k:Nat),(sv b k).natAbs=k:=by intro b k;cases b<;>simp[sv]
  exact hs _ _
 unfold al;rw[e3,e2];have a1:=yI (n:=n.natAbs/Nat.gcd n.natAbs d) (jP (m5 _ _) h1);have a2:=yI (n:=d/Nat.gcd n.natAbs d) (jP (m5 _ _) h3);omega
theorem lZ{n:Int}{d:Nat}(h:io n d=true):al (mkRat n d)<2^38:=by have:=Do h;omega
def iJ(n:Int)(d:Nat):Option EW :=
 yO n fun n=>bA d fun d=>bA (Nat.gcd n.natAbs d) fun g=>match n with
  | .ofNat m=>bA (m/g) fun m'=>bA (d/g) fun d'=>bif Nat.beq (m'*d) (m*d')&&Nat.blt 0 d' then some (.q (.ofNat m') d') else none
  | .negSucc m=>bA ((m+1)/g-1) fun m'=>bA (d/g) fun d'=>bif Nat.beq ((m'+1)*d) ((m+1)*d')&&Nat.blt 0 d' then some (.q (.negSucc m') d') else none
theorem KS{n:Int}{d:Nat}{x:EW}(hd:d≠0)(h:iJ n d=some x):∃n' d',x=.q n' d'/\mkRat n' d'=mkRat n d:=by
 unfold iJ at h;rw[BI,bd,bd] at h;split at h
 . rename_i m;rw[bd,bd,Bool.cond_eq_ite] at h;split at h
   . rename_i hc;simp only[ae] at h;simp only[az] at hc;obtain⟨c1,c2⟩:=hc;have c1:=av c1;have c2:=ml c2;refine⟨_,_,h.symm,(Fw (by omega) hd).2 ?_⟩;rw[g8,g8]
     exact_mod_cast c1
   . cases h
 . rename_i m;rw[bd,bd,Bool.cond_eq_ite] at h;split at h
   . rename_i hc;simp only[ae] at h;simp only[az] at hc;obtain⟨c1,c2⟩:=hc;have c1:=av c1;have c2:=ml c2;refine⟨_,_,h.symm,(Fw (by omega) hd).2 ?_⟩;rw[Int.negSucc_eq,Int.negSucc_eq,kQ,kQ];congr 1
     exact_mod_cast c1
   . cases h
noncomputable def An:ES->Option IV
 | .w (.q n d)=>some (qr (mkRat n d))
 | .w (.one (.iv x))=>some x
 |_=>none
theorem Kv{H:ah}{U:Bm}:∀{vs:List X3} {args:List ES} {xs:List IV},args.map An=xs.map some->SREL ZZ H U vs args->VRL H vs xs
 | [],[],[],_,_=>.nil
 |v::vs,a::args,x::xs,he,⟨h1,h2⟩=>by
  simp only[aS,pE] at he;refine .cons _ _ _ _ ?_ (Kv he.2 h2);have he:=he.1;unfold An at he;split at he
  . simp only[ae] at he;subst he;exact h1
  . simp only[ae] at he;subst he;exact h1.2
  . cases he
 | [],_::_,_,_,h=>h.elim
 |_::_,[],_,_,h=>h.elim
 | [],[],_::_,he,_=>by simp at he
 |_::_,_::_,[],he,_=>by simp at he
def RetE(r:IV)(res:ES):Prop:=∀H U v,VR H v r->SRe ZZ H U v res
theorem RetE.q{n:Int}{d:Nat}{q:Rat}(h:mkRat n d=q):RetE (qr q) (.w (.q n d)):=fun H U v hv=>by subst h;exact hv
theorem RetE.int(k:IntKind)(n:Int):RetE (.int k n) (ac (.int k n)):=fun H U v hv=>by
 have:=hv.asInt;subst this;exact⟨rfl,hv⟩
theorem RetE.str(s:List UInt8):RetE (.str s) (ac (.str s)):=fun H U v hv=>by
 obtain⟨t,rfl,_⟩:=ju hv;exact⟨rfl,hv⟩
theorem VY{H:ah}{v:X3}{x y:IV}(h:VR H v (.tup [x,y])):∃a b,v=.tuple #[a,b]/\VR H a x/\VR H b y:=by
 cases h with
 |tup vs xs hs=>
  obtain⟨a,b,rfl,h1,h2⟩:=hs.two;exact⟨a,b,rfl,h1,h2⟩
def MB:EW:=.one (.iv (.int .i64 0))
theorem UL{n:Int}{d:Nat}{q:Rat}(h:mkRat n d=q):RetE (.tup [qr q,.int .i64 0]) (.tup [.q n d,MB]):=fun H U v hv=>by
 subst h;obtain⟨a,b,rfl,h1,h2⟩:=VY hv;have:=h2.asInt;subst this;exact⟨[a,.int .i64 0],rfl,h1,⟨rfl,h2⟩,ab⟩
section
variable (J:Keep)
theorem Od{X:EX}(hZ:X.Z=ZZ){f:qe}{xs:List IV}{r:IV}{args:List ES}{res:ES}{h:Hp}(hc:a7 X.P X.I f xs r)(ha:args.map An=xs.map some)(hr:RetE r res):CallOk X f args h res h:=by
 refine⟨hc.1,fun E hI H U w vs hs hv=>?_⟩;rw[hZ] at hv;refine(hc.2 H w vs (hI w hs.below) hs.has (Kv ha hv)).mono ?_;rintro e w' ⟨v,H',rfl,h1,h2,h3,h4⟩;refine⟨v,H',U,rfl,h2.1,BLe.refl _,hs.grow h4 h1 h2,MarkSame.below h4,?_⟩;rw[hZ];exact hr _ _ _ h3
def gu(f:qe)(o:List ES->Option ES):Prop:=∀args res,o args=some res->∃xs r,C J f xs r/\args.map An=xs.map some/\RetE r res
def rg(k:Int->Nat->Int->Nat->Option ES):List ES->Option ES
 | [.w (.q a b),.w (.q c d)]=>bif io a b&&io c d then k a b c d else none
 |_=>none
def tA(k:Int->Nat->Option ES):List ES->Option ES
 | [.w (.q a b)]=>bif io a b then k a b else none
 |_=>none
def nB:Option EW->Option ES
 |some x=>some (.w x)
 |none=>none
def zK:Option EW->Option ES
 |some x=>some (.tup [x,MB])
 |none=>none
theorem uW{f:qe}{k:Int->Nat->Int->Nat->Option ES}(h:∀a b c d res,io a b=true->io c d=true->k a b c d=some res->∃r,C J f [qr (mkRat a b),qr (mkRat c d)] r/\RetE r res):gu J f (rg k):=by
 intro args res he;unfold rg at he;split at he
 . rename_i a b c d;cases hc:(io a b&&io c d) with
   |false=>rw[hc] at he;cases he
   |true=>
    rw[hc] at he;simp only[az] at hc;obtain⟨r,h1,h2⟩:=h a b c d res hc.1 hc.2 he;exact⟨_,r,h1,rfl,h2⟩
 . cases he
theorem yG{f:qe}{k:Int->Nat->Option ES}(h:∀a b res,io a b=true->k a b=some res->∃r,C J f [qr (mkRat a b)] r/\RetE r res):gu J f (tA k):=by
 intro args res he;unfold tA at he;split at he
 . rename_i a b;cases hc:io a b with
   |false=>rw[hc] at he;cases he
   |true=>
    rw[hc] at he;obtain⟨r,h1,h2⟩:=h a b res hc he;exact⟨_,r,h1,rfl,h2⟩
 . cases he
theorem pY{n:Int}{d:Nat}{res:ES}{q:Rat}(hd:d≠0)(he:nB (iJ n d)=some res)(hq:mkRat n d=q):RetE (qr q) res:=by
 cases hm:iJ n d with
 |none=>rw[hm] at he;cases he
 |some x=>
  rw[hm] at he;simp only[nB,ae] at he;subst he;obtain⟨n',d',rfl,e⟩:=KS hd hm;exact RetE.q (e.trans hq)
theorem Jp{n:Int}{d:Nat}{res:ES}{q:Rat}(hd:d≠0)(he:zK (iJ n d)=some res)(hq:mkRat n d=q):RetE (.tup [qr q,.int .i64 0]) res:=by
 cases hm:iJ n d with
 |none=>rw[hm] at he;cases he
 |some x=>
  rw[hm] at he;simp only[zK,ae] at he;subst he;obtain⟨n',d',rfl,e⟩:=KS hd hm;exact UL (e.trans hq)
theorem gt{n:Int}{d:Nat}(h:io n d=true):d≠0:=by have:=(yH h).2.1;omega
def Mf:List ES->Option ES:=rg fun a b c d=>nB (iJ (a*c) (b*d))
def Mi:List ES->Option ES:=rg fun a b c d=>nB (iJ (a*d+c*b) (b*d))
def Md:List ES->Option ES:=rg fun a b c d=>nB (iJ (a*d-c*b) (b*d))
def Me:List ES->Option ES:=tA fun a b=>nB (iJ (-a) b)
def Mj:List ES->Option ES:=tA fun a b=>nB (iJ a.natAbs b)
theorem Tq(B:Base J):gu J 55 Mf:=uW J fun a b c d res h1 h2 he=>
 ⟨_,ka B (lZ h1) (lZ h2),pY (rF (gt h1) (gt h2)) he (AQ _ _ _ _).symm⟩
theorem Tw(B:Base J):gu J 71 Mi:=uW J fun a b c d res h1 h2 he=>
 ⟨_,mi B (lZ h1) (lZ h2),pY (rF (gt h1) (gt h2)) he (NC _ _ (gt h1) (gt h2)).symm⟩
theorem Tl(B:Base J):gu J 136 Md:=uW J fun a b c d res h1 h2 he=>
 ⟨_,qp B (lZ h1) (lZ h2),pY (rF (gt h1) (gt h2)) he (by
  rw[Fo,Rat.neg_mkRat,NC _ _ (gt h1) (gt h2),kQ,<-Int.sub_eq_add_neg])⟩
theorem Tp:gu J 181 Me:=yG J fun a b res h1 he=>
 ⟨_,K4 J _,pY (gt h1) he (Rat.neg_mkRat _ _).symm⟩
theorem V3{a:Int}{b:Nat}(hb:0<b):qd ((mkRat a b).num.natAbs:Int) (mkRat a b).den=qr (mkRat (a.natAbs:Int) b):=by
 have key:∀c:Int,0<=c->qd ((mkRat c b).num.natAbs:Int) (mkRat c b).den=qr (mkRat c b):=fun c hc=>by
  have hn:0<=(mkRat c b).num:=by
   rw[pM hb,bl (by omega)];exact Int.natCast_nonneg _
  show qd _ _=qd _ _;rw[Int.natAbs_of_nonneg hn]
 by_cases h:0<=a
 . rw[Int.natAbs_of_nonneg h];exact key a h
 . have e:a = -(a.natAbs:Int):=by omega
   rw[e,<-Rat.neg_mkRat,Fm,ww,Rat.neg_den,key _ (by omega)];congr 2<;>(congr 1;omega)
theorem Tx:gu J 138 Mj:=yG J fun a b res h1 he=>by
 refine⟨_,?_,pY (gt h1) he rfl⟩;rw[<-V3 (yH h1).2.1];exact K7 J _
end
section
variable (J:Keep)
theorem wW{x y k:Int}(hk:0<k):aN (x*k) (y*k)=aN x y:=by
 unfold aN;have h1:(x*k<y*k)=(x<y):=propext ⟨fun h=>Int.lt_of_mul_lt_mul_right h (by omega),fun h=>XX h hk⟩;have h2:(y*k<x*k)=(y<x):=propext ⟨fun h=>Int.lt_of_mul_lt_mul_right h (by omega),fun h=>XX h hk⟩;simp only[h1,h2]
theorem Dt{a:Int}{b:Nat}(hb:b≠0):a*((mkRat a b).den:Int)=(mkRat a b).num*(b:Int):=by
 refine(Fw hb (mkRat a b).den_nz).1 ?_;rw[Rat.mkRat_self]
theorem Sa{a:Int}{b:Nat}(hb:b≠0):aN (mkRat a b).num 0=aN a 0:=by
 have h:=Dt (a:=a) hb;have hd:=fh (mkRat a b);rw[<-wW (x:=(mkRat a b).num) (k:=(b:Int)) (by omega),<-h,<-wW (x:=a) (y:=0) (k:=((mkRat a b).den:Int)) (by omega),rE,rE]
theorem VU{a c:Int}{b d:Nat}(hb:b≠0)(hd:d≠0):bT (mkRat a b) (mkRat c d)=aN (a*d) (c*b):=by
 have h1:=Dt (a:=a) hb;have h2:=Dt (a:=c) hd;have d1:=fh (mkRat a b);have d2:=fh (mkRat c d);unfold bT;generalize (mkRat a b).num=p at h1 ⊢;generalize (mkRat a b).den=q at h1 d1 ⊢;generalize (mkRat c d).num=r at h2 ⊢;generalize (mkRat c d).den=s at h2 d2 ⊢;rw[<-wW (x:=p*(s:Int)) (k:=(b:Int)*(d:Int)) (wx (by omega) (by omega)),<-wW (x:=a*(d:Int)) (k:=(q:Int)*(s:Int)) (wx (by omega) (by omega))];congr 1
 . calc p*(s:Int)*((b:Int)*d)=(p*b)*(s*d):=by ac_rfl
    _=(a*q)*(s*d):=by rw[h1]
    _=_:=by ac_rfl
 . calc r*(q:Int)*((b:Int)*d)=(r*d)*(q*b):=by ac_rfl
    _=(c*s)*(q*b):=by rw[h2]
    _=_:=by ac_rfl
def Mh:List ES->Option ES:=rg fun a b c d=>some (ac (.int .i64 (bif decide (a*d<c*b) then -1 else bif decide (c*b<a*d) then 1 else 0)))
theorem Tv:gu J 32 Mh:=uW J fun a b c d res h1 h2 he=>by
 simp only[ae] at he;subst he;refine⟨_,DC (lZ h1) (lZ h2),?_⟩;rw[VU (gt h1) (gt h2)];have e:aN (a*d) (c*b)=(bif decide (a*d<c*b) then -1 else bif decide (c*b<a*d) then 1 else 0):=by
  unfold aN;by_cases h:a*(d:Int)<c*b
  . rw[ay h,aZ h];rfl
  . rw[am h,bl h];by_cases h':c*(b:Int)<a*d
    . rw[ay h',aZ h'];rfl
    . rw[am h',bl h'];rfl
 rw[e];exact RetE.int _ _
def L8:Int->Int
 | .ofNat n=>bif Nat.beq n 0 then 0 else 1
 | .negSucc _ => -1
def LE:List ES->Option ES:=tA fun a b=>some (ac (.int .i64 (L8 a)))
theorem Ri:gu J 52 LE:=yG J fun a b res h1 he=>by
 simp only[ae] at he;subst he;refine⟨_,qq J _,?_⟩;rw[Sa (gt h1)];have e:aN a 0=L8 a:=by
  unfold aN;cases a with
  |ofNat n=>
   have h0:¬(Int.ofNat n<0):=by rw[g8];omega
   rw[am h0];cases n with
   |zero=>rfl
   |succ n=>
    have h2:(0:Int)<Int.ofNat (n+1):=by rw[g8];omega
    rw[ay h2];rfl
  |negSucc n=>rw[ay (Int.negSucc_lt_zero n)];rfl
 rw[e];exact RetE.int _ _
def i64(n:Int):Bool:=Nat.blt n.natAbs 9223372036854775808
theorem yL{n:Int}(h:i64 n=true) : -9223372036854775808<=n/\n<=9223372036854775807:=by
 have:=ml h;omega
def Ei:List ES->Option ES
 | [.w (.one (.iv (.int .i64 n)))]=>bif i64 n then nB (iJ n 1) else none
 |_=>none
theorem Tt:gu J 36 Ei:=by
 intro args res he;unfold Ei at he;split at he
 . rename_i n;cases hn:i64 n with
   |false=>rw[hn] at he;cases he
   |true=>
    rw[hn] at he;have:=yL hn;refine⟨_,_,yP J this.1 this.2,rfl,pY (by decide) he (Rat.mkRat_one n)⟩
 . cases he
def qE(c a:Int):Int:=match c with
 | .ofNat _=>a
 | .negSucc _ => -a
theorem KU{n m:Int}:mkRat (qE m n) m.natAbs=(n:Rat)/(m:Rat):=by
 rw[<-Rat.divInt_eq_div];cases m with
 |ofNat k=>rw[g8,Nv];rfl
 |negSucc k=>
  show mkRat (-n) (k+1)=Rat.normalize (-n) (k+1) (by simp);rw[Rat.normalize_eq_mkRat]
def ED:List ES->Option ES
 | [.w (.one (.iv (.int .i64 n))),.w (.one (.iv (.int .i64 m)))]=>bif i64 n&&(i64 m&&Nat.blt 0 m.natAbs) then zK (iJ (qE m n) m.natAbs) else none
 |_=>none
theorem Vv(B:Base J):gu J 17 ED:=by
 intro args res he;unfold ED at he;split at he
 . rename_i n m;cases hn:(i64 n&&(i64 m&&Nat.blt 0 m.natAbs)) with
   |false=>rw[hn] at he;cases he
   |true=>
    rw[hn] at he;simp only[az] at hn;have h1:=yL hn.1;have h2:=yL hn.2.1;have h3:=ml hn.2.2;exact⟨_,_,K6 B h1.1 h1.2 h2.1 h2.2 (by omega),rfl,Jp (by omega) he KU⟩
 . cases he
theorem PQ(c a:Int):qE c a*c=a*(c.natAbs:Int):=by
 cases c with
 |ofNat n=>rfl
 |negSucc n=>
  show -a*Int.negSucc n=a*((n+1:Nat):Int);rw[Int.negSucc_eq,Fj];rfl
def Mg:List ES->Option ES:=rg fun a b c d=>bif Nat.blt 0 c.natAbs then zK (iJ (qE c (a*d)) (b*c.natAbs)) else none
theorem Tu(B:Base J):gu J 38 Mg:=uW J fun a b c d res h1 h2 he=>by
 cases hc:Nat.blt 0 c.natAbs with
 |false=>rw[hc] at he;cases he
 |true=>
  rw[hc] at he;have hc:=ml hc;have h1':=gt h1;have h2':=gt h2;have hz:mkRat c d≠0:=by rw[Rat.mkRat_ne_zero h2'];omega
  refine⟨_,DB B (lZ h1) (lZ h2) hz,Jp (rF h1' (by omega)) he ?_⟩;have e:mkRat (qE c (a*d)) (b*c.natAbs)*mkRat c d=mkRat a b:=by
   rw[AQ,PQ];refine(Fw (rF (rF h1' (by omega)) h2') h1').2 ?_;rw[kN,kN]
   ac_rfl
  rw[<-e,Rat.mul_div_cancel hz]
theorem KT(a:Int)(b:Nat):∀n:Nat,mkRat a b^n=mkRat (a^n) (b^n)
 |0=>by simp;rfl
 |n+1=>by rw[wC,KT a b n,AQ,lQ,cr]
def Eg:List ES->Option ES
 | [.w (.q a b),.w (.one (.iv (.int .i64 (.ofNat n))))]=>bif io a b&&Nat.ble n 1000 then nB (iJ (a^n) (b^n)) else none
 |_=>none
theorem Tn:gu J 111 Eg:=by
 intro args res he;unfold Eg at he;split at he
 . rename_i a b n;cases hn:(io a b&&Nat.ble n 1000) with
   |false=>rw[hn] at he;cases he
   |true=>
    rw[hn] at he;simp only[az] at hn;have h1:=gt hn.1;have h2:=aG hn.2;have hq:=Do hn.1;refine⟨_,_,yQ (J:=J) (a:=mkRat a b) (by omega) (Int.ofNat n),rfl,pY (gh (by omega) |> Nat.pos_iff_ne_zero.1) he ?_⟩;have e:kh (Int.ofNat n) 1000=n:=by unfold kh;rw[g8];omega
    rw[e,KT]
 . cases he
def digs:Nat->Nat->List UInt8->List UInt8
 |0,n,acc=>mH n::acc
 |f+1,n,acc=>bif Nat.blt n 10 then mH n::acc else digs f (n/10) (mH (n%10)::acc)
theorem yk:∀(f n:Nat) (acc:List UInt8),n<10^(f+1)->digs f n acc=bK n++acc
 |0,n,acc,h=>by
  rw[digs,rR (by simpa using h)];rfl
 |f+1,n,acc,h=>by
  rw[digs];cases hb:Nat.blt n 10 with
  |true=>rw[rR (ml hb)];rfl
  |false=>
   have h10:10<=n:=by
    rcases fx n 10 with h|h
    . have:Nat.blt n 10=true:=by rw[cY];exact h
      rw[this] at hb;cases hb
    . exact h
   rw[aX,yk f _ _ (by rw[cr] at h;omega),xE h10,dX];rfl
def DM(n:Int)(d:Nat):List UInt8 :=
 let t:=bif Nat.beq d 1 then [] else 47::digs 40 d []
 match n with
 | .ofNat m=>digs 40 m t
 | .negSucc m=>45::digs 40 (m+1) t
def LD:List ES->Option ES:=tA fun a b=>bif Nat.beq (Nat.gcd a.natAbs b) 1 then fY (DM a b) fun l=>some (ac (.str l)) else none
theorem R3{a:Int}{b:Nat}(hb:0<b)(ha:a.natAbs<mO)(hb':b<mO)(hg:Nat.gcd a.natAbs b=1):y9 (mkRat a b)=DM a b:=by
 have e1:=pM (z:=a) hb;have e2:=rT (z:=a) hb;rw[hg,rD] at e1 e2;rw[ou] at e1;have hl:mO<10^(40+1):=by decide
 unfold y9 DM qB;rw[e1,e2,yk 40 b [] (by omega),iw];have key:(if b=1 then(if a<0 then [45] else [])++bK a.natAbs else(if a<0 then [45] else [])++bK a.natAbs ++ [47]++bK b)=(if a<0 then [45] else [])++(bK a.natAbs++bif Nat.beq b 1 then [] else 47::bK b):=by
  by_cases h:b=1
  . subst h;simp
  . rw[am h,ed h];simp
 rw[key];cases a with
 |ofNat m=>
  have h0:¬(Int.ofNat m<0):=by rw[g8];omega
  rw[am h0];show _=digs 40 m _;rw[yk 40 m _ (by have:m<mO:=ha;omega)];rfl
 |negSucc m=>
  rw[ay (Int.negSucc_lt_zero m)];show _=45::digs 40 (m+1) _;rw[yk 40 (m+1) _ (by have:m+1<mO:=ha;omega)];rfl
theorem Rh(L:LibI J):gu J 21 LD:=yG J fun a b res h1 he=>by
 cases hg:Nat.beq (Nat.gcd a.natAbs b) 1 with
 |false=>rw[hg] at he;cases he
 |true=>
  rw[hg,af,cZ] at he;simp only[ae] at he;subst he;have:=Do h1;obtain⟨c1,c2,c3⟩:=yH h1;refine⟨_,VG L (q:=mkRat a b) (by omega),?_⟩;rw[R3 c2 c1 c3 (av hg)];exact RetE.str _
def Eh:List ES->Option ES
 | [.w (.one (.iv (.int .u64 (.ofNat n))))]=>bif Nat.ble n 18446744073709551615 then bA (Lib.bitLen n) fun m=>some (ac (.int .i64 (.ofNat m))) else none
 |_=>none
theorem Ts:gu J 178 Eh:=by
 intro args res he;unfold Eh at he;split at he
 . rename_i n;cases hn:Nat.ble n 18446744073709551615 with
   |false=>rw[hn] at he;cases he
   |true=>
    rw[hn,af,bd] at he;simp only[ae] at he;subst he;have hn:=aG hn;refine⟨[.int .u64 (Int.ofNat n)],.int .i64 (Int.ofNat (Lib.bitLen n)),xp ⟨_,Tryz.func178,rfl,rfl⟩ fun H w args hI hargs=>?_,rfl,RetE.int _ _⟩;obtain⟨u,rfl,hu⟩:=hargs.one;rw[VR.asInt hu];refine(Tryz.bits_Len (Int.ofNat n) w (by rw[g8];omega) (by rw[g8];omega)).mono ?_;rintro e w' ⟨rfl,rfl⟩;exact⟨_,rfl,fun H=>.int _ _,lK _ _⟩
 . cases he
def Ed:List (Nat×(List ES->Option ES)):=[(55,Mf),(71,Mi),(136,Md),(32,Mh),(52,LE),(36,Ei),(17,ED),(38,Mg),(181,Me),(111,Eg),(138,Mj),(21,LD),(178,Eh)]
def zM(f:Nat)(args:List ES):List (Nat×(List ES->Option ES))->Option ES
 | []=>none
 | (g,o)::l=>bif Nat.beq f g then o args else zM f args l
def Ec(f:qe)(args:List ES)(s:Hs):Option (ES×Hs):=match zM f args Ed with
 |some r=>some (r,s)
 |none=>none
theorem JA{f:Nat}{args:List ES}{res:ES}:∀{l:List (Nat×(List ES->Option ES))},(∀p∈l,gu J p.1 p.2)->zM f args l=some res->∃o,gu J f o/\o args=some res
 | [],_,h=>by cases h
 | (g,o)::l,hl,h=>by
   rw[zM] at h;cases hb:Nat.beq f g with
   |true=>
    rw[hb] at h;have:=av hb;subst this;exact⟨o,hl (f,o) (by simp),h⟩
   |false=>
    rw[hb] at h;exact JA (fun p hp=>hl p (by simp[hp])) h
theorem Ta(L:LibI J):∀p∈Ed,gu J p.1 p.2:=by
 have B:=base J;intro p hp;simp only[Ed,eZ,bt,or_false] at hp;rcases hp with rfl|rfl|rfl|rfl|rfl|rfl|rfl|rfl|rfl|rfl|rfl|rfl|rfl
 . exact Tq J B
 . exact Tw J B
 . exact Tl J B
 . exact Tv J
 . exact Ri J
 . exact Tt J
 . exact Vv J B
 . exact Tu J B
 . exact Tp J
 . exact Tn J
 . exact Tx J
 . exact Rh J L
 . exact Ts J
theorem S9(L:LibI J){X:EX}(hP:X.P=Tryz.prog)(hI:X.I=J.I)(hZ:X.Z=ZZ):iX X Ec:=by
 intro f args s r s' he;unfold Ec at he;split at he
 . rename_i r0 hr;simp only[ae,aA] at he;obtain⟨rfl,rfl⟩:=he;obtain⟨o,h1,h2⟩:=JA J (Ta J L) hr;obtain⟨xs,r,h3,h4,h5⟩:=h1 args r0 h2;exact⟨LogOk.refl _,Od hZ (by rw[hP,hI];exact h3) h4 h5⟩
 . cases he
end
def tu:List IV->List EV
 | .sl [] :: .bool false :: .sl []::l=>.iv (.sl []) :: .iv (.bool false) :: .iv (.sl [])::tu l
 | .sl []::l=>.iv (.nil 3)::tu l
 |x::l=>.iv x::tu l
 | []=>[]
def DJ:IV->EW
 | .agg cs=>.agg (tu cs)
 | .sl []=>.one (.iv (.nil 3))
 |x=>.one (.iv x)
def tv:List IV->List EV
 | .sl [] :: .bool false :: .sl []::l=>.qc 0 1 0 :: .qc 0 1 1 :: .qc 0 1 2::tv l
 | .sl []::l=>.iv (.nil 3)::tv l
 |x::l=>.iv x::tv l
 | []=>[]
def DK:IV->EW
 | .agg cs=>(match tv cs with
  | [.qc 0 1 0,.qc 0 1 1,.qc 0 1 2]=>.q 0 1
  |l=>.agg l)
 | .sl []=>.one (.iv (.nil 3))
 |x=>.one (.iv x)
theorem kT{Z:QS}{H:ah}{U:Bm}{v:X3}{x:IV}(h:oL false v=some x):CR Z H U v (.iv x)/\(x=.sl []->CR Z H U v (.iv (.nil 3))):=by
 obtain⟨h1,h2,_⟩:=Cs h;refine⟨⟨h2,h1 H⟩,fun e=>?_⟩;subst e;unfold oL at h;split at h<;>first|(simp at h;done)|exact⟨rfl,.nilS⟩
theorem lU{vs:List X3}{x:IV}{xs:List IV}(h:gT false vs=some (x::xs)):∃v vs',vs=v::vs'/\oL false v=some x/\gT false vs'=some xs:=by
 cases vs with
 |nil=>simp[gT] at h
 |cons v vs=>
  simp only[gT] at h;split at h
  . rename_i y ys h1 h2;simp only[ae,pE] at h;obtain⟨rfl,rfl⟩:=h;exact⟨v,vs,rfl,h1,h2⟩
  . cases h
theorem HL{vs:List X3}(h:gT false vs=some []):vs=[]:=by
 cases vs with
 |nil=>rfl
 |cons v vs=>
  simp only[gT] at h;split at h<;>simp at h
theorem UM{Z:QS}{H:ah}{U:Bm}{xs:List IV}:∀{vs:List X3},gT false vs=some xs->CRL Z H U vs (tu xs):=by
 fun_induction tu xs with
 |case1 l ih=>
  intro vs h;obtain⟨v1,vs,rfl,h1,h⟩:=lU h;obtain⟨v2,vs,rfl,h2,h⟩:=lU h;obtain⟨v3,vs,rfl,h3,h⟩:=lU h;exact⟨(kT h1).1,(kT h2).1,(kT h3).1,ih h⟩
 |case2 l _ ih=>
  intro vs h;obtain⟨v1,vs,rfl,h1,h⟩:=lU h;exact⟨(kT h1).2 rfl,ih h⟩
 |case3 x l _ _ ih=>
  intro vs h;obtain⟨v1,vs,rfl,h1,h⟩:=lU h;exact⟨(kT h1).1,ih h⟩
 |case4=>
  intro vs h;rw[HL h];exact trivial
theorem Dp{H:ah}{U:Bm}{v:X3}{j:Nat}{x:IV}(hj:(IV.agg [.sl [],.bool false,.sl []]).cells[j]?=some x)(h:CR ZZ H U v (.iv x)):CR ZZ H U v (.qc 0 1 j):=by
 refine⟨h.1,x,?_,h.2⟩;have:ZZ.qv 0 1=.agg [.sl [],.bool false,.sl []]:=by
  show qr (mkRat 0 1)=_;rw[show mkRat 0 1=0 by rfl];exact um
 rw[this];exact hj
theorem UN{H:ah}{U:Bm}{xs:List IV}:∀{vs:List X3},gT false vs=some xs->CRL ZZ H U vs (tv xs):=by
 fun_induction tv xs with
 |case1 l ih=>
  intro vs h;obtain⟨v1,vs,rfl,h1,h⟩:=lU h;obtain⟨v2,vs,rfl,h2,h⟩:=lU h;obtain⟨v3,vs,rfl,h3,h⟩:=lU h;exact⟨Dp rfl (kT h1).1,Dp rfl (kT h2).1,Dp rfl (kT h3).1,ih h⟩
 |case2 l _ ih=>
  intro vs h;obtain⟨v1,vs,rfl,h1,h⟩:=lU h;exact⟨(kT h1).2 rfl,ih h⟩
 |case3 x l _ _ ih=>
  intro vs h;obtain⟨v1,vs,rfl,h1,h⟩:=lU h;exact⟨(kT h1).1,ih h⟩
 |case4=>
  intro vs h;rw[HL h];exact trivial
theorem xq{Z:QS}{H:ah}{U:Bm}{v:X3}{x:IV}(hx:x.isAgg=false)(h:mJ false v=some x):CR Z H U v (.iv x)/\(x=.sl []->CR Z H U v (.iv (.nil 3))):=by
 unfold mJ at h;split at h
 . rename_i cs;cases hz:gT false cs.toList with
   |none=>rw[hz] at h;simp at h
   |some ys=>rw[hz] at h;simp at h;subst h;simp[IV.isAgg] at hx
 . exact kT h
theorem I4{v:X3}{cs:List IV}(h:mJ false v=some (.agg cs)):∃us:List X3,v=.agg us.toArray/\gT false us=some cs:=by
 unfold mJ at h;split at h
 . rename_i us;cases hz:gT false us.toList with
   |none=>rw[hz] at h;simp at h
   |some ys=>rw[hz] at h;simp at h;subst h;exact⟨us.toList,by simp,hz⟩
 . rename_i hn;unfold oL at h;split at h<;>simp at h
theorem HK{Z:QS}{H:ah}{U:Bm}{v:X3}{x:IV}(h:mJ false v=some x):WR Z H U v (DJ x):=by
 unfold DJ;split
 . obtain⟨us,rfl,hu⟩:=I4 h;exact⟨us,rfl,UM hu⟩
 . exact(xq (Z:=Z) (H:=H) (U:=U) rfl h).2 rfl
 . rename_i h1 h2;exact(xq (Z:=Z) (H:=H) (U:=U) (by cases x<;>first|rfl|exact absurd rfl (h1 _)) h).1
theorem QK{H:ah}{U:Bm}{v:X3}{x:IV}(h:mJ false v=some x):WR ZZ H U v (DK x):=by
 unfold DK;split
 . obtain⟨us,rfl,hu⟩:=I4 h;have hc:=UN (H:=H) (U:=U) hu;split
   . rename_i he;rw[he] at hc;exact HW (Z:=ZZ) (r:=0) (d:=1) hc
   . exact⟨us,rfl,hc⟩
 . exact(xq (Z:=ZZ) (H:=H) (U:=U) rfl h).2 rfl
 . rename_i h1 h2;exact(xq (Z:=ZZ) (H:=H) (U:=U) (by cases x<;>first|rfl|exact absurd rfl (h1 _)) h).1
noncomputable def ot(t:me):Option EW:=match TT t with
 |some ty=>bif qR t then none else some (DJ ty.zero)
 |none=>none
noncomputable def C9(t:me):Option EW:=match TT t with
 |some ty=>bif qR t then none else some (DK ty.zero)
 |none=>none
theorem Bn{t:me}{ty:TY}(h:TT t=some ty)(hn:qR t=false):∃i z,Tryz.prog.info? t=some i/\i.zero=some z/\mJ false z=some ty.zero:=by
 have h':=vo t ty h;unfold vq at h';split at h'
 . rename_i i d h1 h2;split at h'
   . rename_i z h3;split at h'
     . rename_i zz fs h4 h5;simp only[ae] at h';subst h';rw[hn] at h4;exact⟨i,z,h1,h3,h4⟩
     . cases h'
   . cases h'
 . cases h'
theorem PG(t:me)(y:EW)(h:ot t=some y):∃i z,Tryz.prog.info? t=some i/\i.zero=some z/\∀H U,WR ZZ H U z y:=by
 unfold ot at h;split at h
 . rename_i ty ht;cases hn:qR t with
   |true=>rw[hn] at h;cases h
   |false=>
    rw[hn] at h;simp only[aX,ae] at h;subst h;obtain⟨i,z,h1,h2,h3⟩:=Bn ht hn;exact⟨i,z,h1,h2,fun H U=>HK h3⟩
 . cases h
theorem PH(t:me)(y:EW)(h:C9 t=some y):∃i z,Tryz.prog.info? t=some i/\i.zero=some z/\∀H U,WR ZZ H U z y:=by
 unfold C9 at h;split at h
 . rename_i ty ht;cases hn:qR t with
   |true=>rw[hn] at h;cases h
   |false=>
    rw[hn] at h;simp only[aX,ae] at h;subst h;obtain⟨i,z,h1,h2,h3⟩:=Bn ht hn;exact⟨i,z,h1,h2,fun H U=>QK h3⟩
 . cases h
def mD(n:Int):Bool:=Nat.blt n.natAbs 9223372036854775808
def fO(n:Nat):KV->Bool
 | .ints l=>Nat.beq l.length n&&l.all mD
 |_=>false
def Wg:KV->Bool
 | .str s=>Nat.ble s.length 1000000
 |_=>false
def nF(t:me):Option (me×me×(KV->Bool)) :=
 bif Nat.beq t 205 then some (203,54,fO 5) else
 bif Nat.beq t 252 then some (9,3,Wg) else
 bif Nat.beq t 243 then some (195,3,fO 4) else none
theorem RW{n:Int}(h:mD n=true):(Lit.int .i64 n).wf=true:=by
 have h:=ml h;have e1:IntKind.i64.min = -9223372036854775808:=rfl;have e2:IntKind.i64.max=9223372036854775807:=rfl;simp only[Lit.wf,az,dL];rw[e1,e2];omega
theorem OI{P:Tz}{k e:me}{n d:Nat}(hk:P.underlying k=some (.array n e))(he:P.underlying e=some (.int .i64))(c1:P.cellsOf k=n)(c2:P.cellsOf e=1){l:List Int}(hl:l.length=n)(hw:∀x∈l,mD x=true) :
 ∃r,P.keyLits (d+2) k (l.map (Value.int .i64))=some r:=by
 have one:∀x,mD x=true->P.keyLits (d+1) e [Value.int .i64 x]=some [.int .i64 x]:=fun x hx=>by
  unfold Program.keyLits;rw[he];simp only[true_and,RW hx,bD]
 have key:∀(is:List Nat),(∀i∈is,i<n)->∃rs,(is.mapM fun i=>P.keyLits (d+1) e (((l.map (Value.int .i64)).drop (i*P.cellsOf e)).take (P.cellsOf e)))=some rs:=by
  intro is;induction is with
  |nil=>intro _;exact⟨[],rfl⟩
  |cons i is ih=>
   intro hi;obtain⟨rs,hr⟩:=ih fun j hj=>hi j (by simp[hj]);have hlt:i<l.length:=by rw[hl];exact hi i (by simp)
   have ec:((l.map (Value.int .i64)).drop (i*P.cellsOf e)).take (P.cellsOf e)=[Value.int .i64 l[i]]:=by
    rw[c2,iK,gJ (by simpa using hlt)];simp
   refine⟨[.int .i64 l[i]]::rs,?_⟩;rw[AG,ec,one _ (hw _ (eM hlt)),hr];rfl
 obtain⟨rs,hr⟩:=key (List.range n) fun i hi=>List.mem_range.1 hi;refine⟨rs.flatten,?_⟩;unfold Program.keyLits;rw[hk];simp only[bR,hl,c1,bD,hr,fa]
theorem Qk{P:Tz}{k e:me}{n:Nat}(A:WideMaps.ArrKey P k e n)(he:P.underlying e=some (.int .i64))(hsz:∃m,P.types.size=m+1){l:List Int}(hl:l.length=n)(hw:∀x∈l,mD x=true):∃r,keyOf P k (.agg (l.map (Value.int .i64)).toArray)=some r:=by
 obtain⟨m,hm⟩:=hsz;obtain⟨r,hr⟩:=OI (d:=m) A.hu he A.size A.one hl hw;refine⟨.string (keyBytes r),?_⟩;unfold keyOf;rw[A.hu];have hf:Value.formed P k (.agg (l.map (Value.int .i64)).toArray)=true:=by
  unfold Value.formed;rw[A.hu];simp[hl,A.size]
 simp only[A.keyType ⟨m,hm⟩,hf,lS,bD];rw[hm];show Option.map _ (P.keyLits (m+1+1) k (l.map (Value.int .i64)))=_;rw[hr];rfl
theorem Lm:WideMaps.ArrKey Tryz.prog 203 3 5:=⟨by kernel_rfl,by kernel_rfl,by kernel_rfl,by kernel_rfl⟩
theorem Ln:WideMaps.ArrKey Tryz.prog 195 3 4:=⟨by kernel_rfl,by kernel_rfl,by kernel_rfl,by kernel_rfl⟩
theorem WI:Tryz.prog.underlying 3=some (.int .i64):=by kernel_rfl
theorem W8:∃m,Tryz.prog.types.size=m+1:=⟨_,(by kernel_rfl:Tryz.prog.types.size=331+1)⟩
theorem Gm{k e:me}{n:Nat}(A:WideMaps.ArrKey Tryz.prog k e n)(he:e=3)(v:X3)(kv:KV)(h1:KVR v kv)(h2:fO n kv=true):∃l,keyOf Tryz.prog k v=some l:=by
 subst he;cases h1 with
 |str s=>cases h2
 |ints l=>
  simp only[fO,az] at h2;exact Qk A WI W8 (av h2.1) (List.all_eq_true.1 h2.2)
theorem CI(t k e:me)(ok:KV->Bool)(h:nF t=some (k,e,ok)):Tryz.prog.underlying t=some (.map k e)/\Maps.Keyed Tryz.prog k/\∀v kv,KVR v kv->ok kv=true->∃l,keyOf Tryz.prog k v=some l:=by
 unfold nF at h;cases h1:Nat.beq t 205 with
 |true=>
  rw[h1] at h;simp only[af,ae,aA] at h;obtain⟨rfl,rfl,rfl⟩:=h;have:=av h1;subst this;exact⟨by kernel_rfl,ND Lm.law,Gm Lm rfl⟩
 |false=>
  rw[h1,aX] at h;cases h2:Nat.beq t 252 with
  |true=>
   rw[h2] at h;simp only[af,ae,aA] at h;obtain⟨rfl,rfl,rfl⟩:=h;have:=av h2;subst this;have hs:Tryz.prog.underlying 9=some .string:=by kernel_rfl
   refine⟨by kernel_rfl,ND (WideMaps.string_law hs),fun v kv k1 k2=>?_⟩;cases k1 with
   |ints l=>cases k2
   |str s=>
    refine⟨.string s.data.toList,?_⟩;have hle:=aG k2;unfold keyOf;rw[hs];simp only[mapKey,hs];rw[ay];have:s.size=s.data.toList.length:=by rw[eY];rfl
    unfold maxLen;omega
  |false=>
   rw[h2,aX] at h;cases h3:Nat.beq t 243 with
   |true=>
    rw[h3] at h;simp only[af,ae,aA] at h;obtain⟨rfl,rfl,rfl⟩:=h;have:=av h3;subst this;exact⟨by kernel_rfl,ND Ln.law,Gm Ln rfl⟩
   |false=>rw[h3] at h;cases h
noncomputable def BS:Tab:=⟨TT,ot,nF⟩
noncomputable def BE:Tab:=⟨TT,C9,nF⟩
theorem mixed:Tryz.prog.follows .mixedOrders=true:=by kernel_rfl
noncomputable def XS(J:Keep):EX:=⟨Tryz.prog,BS,vo,mixed,J.I,ZZ,PG,CI⟩
noncomputable def XE(J:Keep):EX:=⟨Tryz.prog,BE,vo,mixed,J.I,ZZ,PH,CI⟩
end Go.Proofs.En
namespace Go.Proofs.En
open Go.RowKit Go.Proofs.Fl
def mw:Nat->List EO->List (Nat×EO)
 |_,[]=>[]
 |i,o::l=>(i,o)::mw (i+1) l
theorem HP:∀{l:List EO} {i g:Nat},cV (mw i l) g=if i<=g then l[g-i]? else none
 | [],i,g=>by simp[mw,cV]
 |o::l,i,g=>by
  unfold mw cV;by_cases h:g=i
  . subst h;simp[bh]
  . rw[ed h,aX,HP];by_cases h1:i+1<=g
    . rw[ay h1,ay (by omega),show g-i=(g-(i+1))+1 by omega];simp
    . rw[am h1,am (by omega)]
theorem QN(l:List EO):cV (mw 0 l)=fV l:=by
 funext g;rw[HP];simp[fV]
inductive ArgOk(k:Nat):ES->Prop
 |c {x:ES} (h:(eV x).all (fun i=>Nat.blt i k)=true):ArgOk k x
 |d {x:ES} (h:eV x=[]):ArgOk k x
def yY(k:Nat):List ES->Prop
 | []=>True
 |x::l=>ArgOk k x/\yY k l
inductive ObjOk(p:Nat->Bool):EO->Prop
 |c {o:EO} (h:zk p o=true):ObjOk p o
 |d {o:EO} (h:gM o):ObjOk p o
def sE(p:Nat->Bool):List EO->Prop
 | []=>True
 |o::l=>ObjOk p o/\sE p l
def LK:EO->Bool
 | .hid=>true
 |_=>false
def sS(zs:List EO)(i:Nat):Bool:=match zs[i]? with
 |some .hid=>false
 |some _=>true
 |none=>false
theorem If{zs:List EO}{i:Nat}(h:sS zs i=true):fS zs i:=by
 unfold sS at h;split at h
 . cases h
 . rename_i o hn ho;exact⟨(List.getElem?_eq_some_iff.1 ho).1,fun e=>by rw[ho] at e;cases e;exact absurd rfl (hn)⟩
 . cases h
theorem HG{k:Nat}:∀{l:List ES},yY k l->∀i∈l.flatMap eV,i<k
 | [],_,i,hi=>by cases hi
 |x::l,⟨h1,h2⟩,i,hi=>by
  simp only[ch,rt] at hi;rcases hi with hi|hi
  . cases h1 with
    |c h=>have:=List.all_eq_true.1 h i hi;rwa[cY] at this
    |d h=>rw[h] at hi;cases hi
  . exact HG h2 i hi
theorem Rg{p:Nat->Bool}{P:Nat->Prop}(hp:∀i,p i=true->P i){o:EO}(h:ObjOk p o):uX o=true/\OIds P id o:=by
 cases h with
 |c h=>exact⟨(by cases o<;>first|rfl|cases h),Hf hp h⟩
 |d h=>exact⟨(by cases o<;>first|rfl|exact h.elim),wQ h⟩
theorem Bv{p:Nat->Bool}{P:Nat->Prop}(hp:∀i,p i=true->P i):∀{l:List EO},sE p l->∀o∈l,uX o=true/\OIds P id o
 |x::l,⟨h1,h2⟩,o,ho=>by
  rcases List.mem_cons.1 ho with rfl|ho
  . exact Rg hp h1
  . exact Bv hp h2 o ho
section
variable {X:EX}
def co(ids:List Nat)(i:Nat):Nat:=ids.getD i 0
inductive MZ(V:Nat->Nat):Option EO->EO->Prop
 |c {x:Option EO} {o:EO} (h:x=some (dT V o)):MZ V x o
 |d {x:Option EO} {o:EO} (h:x=some o) (hc:gM o):MZ V x o
def oA(h:Hp)(V:Nat->Nat):Nat->List EO->Prop
 |_,[]=>True
 |i,o::l=>MZ V (h (V i)) o/\oA h V (i+1) l
def oT(h:Hp)(V:Nat->Nat):Nat->Nat->Prop
 |_,0=>True
 |i,n+1=>h (V i)=none/\oT h V (i+1) n
inductive OZ(V:Nat->Nat):EO->EO->Prop
 |c {o o':EO} (h:dT V o=o'):OZ V o o'
 |d {o:EO} (hc:gM o):OZ V o o
def oR(V:Nat->Nat):List EO->List EO->Prop
 | [],[]=>True
 |o::l,o'::l'=>OZ V o o'/\oR V l l'
 |_,_=>False
inductive RZ(V:Nat->Nat):ES->ES->Prop
 |c {x y:ES} (h:iH V x=y):RZ V x y
 |d {x:ES} (hc:eV x=[]):RZ V x x
def argZ(V:Nat->Nat):List ES->List ES->Prop
 | [],[]=>True
 |o::l,o'::l'=>RZ V o o'/\argZ V l l'
 |_,_=>False
def ll:List Nat->List EO->Wr
 |g::gs,o::l=>(g,o)::ll gs l
 |_,_=>[]
theorem RZ.eq{V:Nat->Nat}{x y:ES}(h:RZ V x y):iH V x=y:=by
 cases h with
 |c h=>exact h
 |d h=>exact A6 h
theorem argZ.eq{V:Nat->Nat}:∀{l l':List ES},argZ V l l'->l.map (iH V)=l'
 | [],[],_=>rfl
 |_::_,_::_,⟨h1,h2⟩=>by rw[aS,h1.eq,argZ.eq h2]
 | [],_::_,h=>h.elim
 |_::_,[],h=>h.elim
theorem xd{h:Hp}{V:Nat->Nat}:∀{l:List EO} {k:Nat},oA h V k l->∀i o,l[i]?=some o->h (V (k+i))=some (dT V o)
 |o::l,k,⟨h1,h2⟩,0,o',hi=>by
  simp at hi;subst hi;cases h1 with
  |c h=>exact h
  |d h hc=>rw[Bh hc];exact h
 |o::l,k,⟨h1,h2⟩,i+1,o',hi=>by
  have:=xd h2 i o' (by simpa using hi);rwa[show k+1+i=k+(i+1) by omega] at this
theorem xX{h:Hp}{V:Nat->Nat}:∀{n k:Nat},oT h V k n->∀i,i<n->h (V (k+i))=none
 |n+1,k,⟨h1,h2⟩,0,_=>h1
 |n+1,k,⟨h1,h2⟩,i+1,hi=>by
  have:=xX h2 i (by omega);rwa[show k+1+i=k+(i+1) by omega] at this
theorem wU:∀{ids:List Nat},kY ids=true->∀i j,i<ids.length->j<ids.length->ids.getD i 0=ids.getD j 0->i=j
 | [],_,i,_,h,_,_=>by simp at h
 |x::l,h,i,j,hi,hj,e=>by
  simp only[kY,az] at h;have key:∀{k:Nat},k<l.length->x≠l.getD k 0:=fun{k} hk=>B3 h.1 (by rw[br,a6 hk];exact eM hk);cases i with
  |zero=>cases j with
   |zero=>rfl
   |succ j=>simp only[List.getD_cons_zero,wq] at e;exact absurd e (key (by simpa using hj))
  |succ i=>cases j with
   |zero=>simp only[List.getD_cons_zero,wq] at e;exact absurd e.symm (key (by simpa using hi))
   |succ j=>
    simp only[wq] at e;rw[wU h.2 i j (by simpa using hi) (by simpa using hj) e]
theorem xV{ids:List Nat}:∀{l l':List EO} {k:Nat},k+l.length=ids.length->oR (co ids) l l'->mF (co ids) k l=ll (ids.drop k) l'
 | [],[],k,_,_=>by
  cases ids.drop k<;>rfl
 |o::l,o'::l',k,hl,⟨h1,h2⟩=>by
  simp only[bB] at hl;have hk:k<ids.length:=by omega
  rw[gJ hk];have e1:co ids k=ids[k]:=by simp[co,hk]
  have e2:dT (co ids) o=o':=by
   cases h1 with
   |c h=>exact h
   |d h=>exact Bh h
  show(co ids k,dT (co ids) o)::mF (co ids) (k+1) l=(ids[k],o')::ll (ids.drop (k+1)) l';rw[e1,e2,xV (k:=k+1) (by omega) h2]
 | [],_::_,_,_,h=>h.elim
 |_::_,[],_,_,h=>h.elim
theorem uD:∀{ids:List Nat} {l:List EO} {p:Nat×EO},p∈ll ids l->p.1∈ids
 |g::gs,o::l,p,h=>by
  rcases List.mem_cons.1 h with rfl|h
  . simp
  . exact eB _ (uD h)
 | [],_,_,h=>by cases h
 |_::_,[],_,h=>by cases h
theorem dN{nx:Nat}{f:qe}{args args0:List ES}{zs zs' zo:List EO}{r0 r:ES}{h:Hp}{K:ES->Wr->Nat->Option (List Nat)->Prop}(L:LocC X f args0 zs r0 zs')(ids:List Nat)(b:Nat)
 (hn:(Nat.beq ids.length zs'.length&&(kY ids&&ids.all fun i=>Nat.blt i (nx+b)))=true) (ha:argZ (co ids) args0 args) (hz:oA h (co ids) 0 zs) (hnew:oT h (co ids) zs.length (zs'.length-zs.length)) (ho:oR (co ids) zs' zo) (hr:RZ (co ids) r0 r)
 (hK:K r (ll ids zo) b none):eG X nx f args h K:=by
 simp only[az] at hn;have hlen:=av hn.1;have hle:=L.le;have hc:=A3 L (V:=co ids) (fun i j hi hj e=>wU hn.2.1 i j (by omega) (by omega) e) (h:=h) (fun i o hi=>by have:=xd hz i o hi;rwa[aU] at this) fun i h1 h2=>by
  have:=xX hnew (i-zs.length) (by omega);rwa[show zs.length+(i-zs.length)=i by omega] at this
 rw[ha.eq,hr.eq,xV (by omega) ho,bL] at hc;refine .inr (.inl ⟨r,ll ids zo,b,hc,fun p hp=>.inl ?_,hK⟩);have:=List.all_eq_true.1 hn.2.2 p.1 (uD hp);rwa[cY] at this
theorem Py{nx:Nat}{f:qe}{args args0:List ES}{zs zs' zo:List EO}{r0 r:ES}{h:Hp}{K:ES->Wr->Nat->Option (List Nat)->Prop}(L:LocC X f args0 zs r0 zs')(ids:List Nat)(b:Nat)
 (hn:(Nat.beq ids.length zs'.length&&(kY ids&&ids.all fun i=>Nat.blt i (nx+b)))=true) (ha:argZ (co ids) args0 args) (hz:oA h (co ids) 0 zs) (hnew:oT h (co ids) zs.length (zs'.length-zs.length)) (ho:oR (co ids) zs' zo) (hr:RZ (co ids) r0 r)
 (hK:K r (ll ids zo) b (some ids)):eG X nx f args h K:=by
 simp only[az] at hn;have hlen:=av hn.1;have hle:=L.le;have hmem:∀i,i<zs'.length->co ids i∈ids:=fun i hi=>by
  unfold co;rw[br,a6 (by omega)];exact eM _
 have key:∀h:Hp,oA h (co ids) 0 zs->oT h (co ids) zs.length (zs'.length-zs.length)->CallOk X f args h r (a8 h (ll ids zo)):=fun h hz hnew=>by
  have hc:=A3 L (V:=co ids) (fun i j hi hj e=>wU hn.2.1 i j (by omega) (by omega) e) (h:=h) (fun i o hi=>by have:=xd hz i o hi;rwa[aU] at this) fun i h1 h2=>by
   have:=xX hnew (i-zs.length) (by omega);rwa[show zs.length+(i-zs.length)=i by omega] at this
  rwa[ha.eq,hr.eq,xV (by omega) ho,bL] at hc
 have hv:∀i,i<zs'.length->dj (fun g=>bJ g ids) h (co ids i)=h (co ids i):=fun i hi=>pN (js.2 (hmem i hi));have m2:∀{l:List EO} {k:Nat},k+l.length<=zs'.length->oA h (co ids) k l->oA (dj (fun g=>bJ g ids) h) (co ids) k l:=by
  intro l;induction l with
  |nil=>intro k _ _;trivial
  |cons o l ih=>
   intro k hk hm;simp only[bB] at hk;exact⟨by rw[hv k (by omega)];exact hm.1,ih (by omega) hm.2⟩
 have n2:∀{n k:Nat},k+n<=zs'.length->oT h (co ids) k n->oT (dj (fun g=>bJ g ids) h) (co ids) k n:=by
  intro n;induction n with
  |zero=>intro k _ _;trivial
  |succ n ih=>intro k hk hm;exact⟨by rw[hv k (by omega)];exact hm.1,ih (by omega) hm.2⟩
 refine .inr (.inr ⟨r,ll ids zo,b,ids,key h hz hnew,key _ (m2 (by omega) hz) (n2 (by omega) hnew),fun p hp=>⟨.inl ?_,uD hp⟩,hK⟩);have:=List.all_eq_true.1 hn.2.2 p.1 (uD hp);rwa[cY] at this
end
def SWr(X:EX)(nP:Nat)(rd:Bool)(nt:Nat)(m:Nat)(c:X5)(s:SS)(K:X6->SS->Prop):Prop :=
 ∀ro,(rd=false->ro=none)->∀(E:EEnv),(∀w',BelowO E.own E.w0 w'->X.I w')->(∀g,E.hid g->g<nP)->∀(w0:my) (H:ah) (U:Bm) (a:Act) (w:my) (Q:X6->Act->my->Prop),SSm X E w0 nt H U s a w->
  (∀e s' a' w',K e s'->SPost X nP E w0 nt H U w s' a' w'->Q e a' w')->Code.roundsIn (FW ro) 0 X.P c Q m a w
def sR(X:EX)(nP:Nat)(rd:Bool)(nt:Nat)(m:Nat)(c:X5)(K:X6->SS->Prop):X6->SS->Prop
 | .normal,s=>SWr X nP rd nt m c s K
 |e,s=>K e s
section
variable {X:EX}{nP:Nat}{rd:Bool}{nt:Nat}{s:SS}{K:X6->SS->Prop}
theorem BP{c:X5}(m:Nat)(h:SWr X nP rd nt m c s K):SW X nP rd nt (.loop c) s K:=fun ro hro E hI hh w0 H U a w Q hS hQ=>
 Fu m (h ro hro E hI hh w0 H U a w Q hS hQ)
theorem SWr.step{c:X5}{m:Nat}(h:SW X nP rd nt c s (sR X nP rd nt m c K)):SWr X nP rd nt (m+1) c s K:=fun ro hro E hI hh w0 H U a w Q hS hQ=>by
 rw[tZ];refine h ro hro E hI hh w0 H U a w _ hS fun e s1 a1 w1 hk hp=>?_;cases e with
 |normal=>
  obtain⟨H1,β1,p1,p2,p3,p4⟩:=hp;exact hk ro hro E hI hh w0 H1 β1 a1 w1 Q p3 fun e s' a' w' k hp'=>hQ e s' a' w' k (hp'.trans p1 p2 p4)
 |_=>exact hQ _ _ _ _ hk hp
theorem SWr.to{c:X5}{m:Nat}{s':SS}(t:To nP s s')(h:SWr X nP rd nt m c s' K):SWr X nP rd nt m c s K:=fun ro hro E hI hh w0 H U a w Q hS hQ=>by
 obtain⟨U',k1,k2⟩:=hS.to hh t;refine h ro hro E hI hh w0 H U' a w Q k2 fun e s2 a' w' k hp'=>hQ e s2 a' w' k ?_;obtain⟨H2,β2,j1,j2,j3,j4⟩:=hp';exact⟨H2,β2,j1,fun g u k hg hk=>j2 g u k hg (by rw[k1 g hg];exact hk),j3,j4⟩
end
theorem XK{a:Int}{j:Nat}{K:Nat->Prop}(h:a=(j:Int))(k:K j):∃m:Nat,a=(m:Int)/\K m:=⟨j,h,k⟩
theorem WN{l u n:Nat}{z:Bool}{K:Prop}(h1:l<=u)(h2:u<=n)(h3:l=0\/z=true)(k:K):l<=u/\u<=n/\(l=0\/z=true)/\K:=⟨h1,h2,h3,k⟩
theorem lC{a:Nat->bS}{nx:Nat}{r:ES}{ws:Wr}{K:Nat->Nat->ES->Wr->Prop}(h:a nx=some (r,ws))(k:K nx 1 r ws):∃g b r ws,a g=some (r,ws)/\g<nx+b/\K g b r ws:=⟨nx,1,r,ws,h,tY _,k⟩
variable {J:Keep}
theorem pS{f:qe}{fn:Func}{c:X5}(hf:Tryz.prog.funcs[f]?=some fn)(hb:fn.body=some c)(hn:(fn.name == "runtime.NumGoroutine")=false){xs:List IV}{r:IV}(hx:Nat.ble xs.length fn.ntmps=true)(hxt:jy xs=true)(hrt:pi r=true)
 (hw:SW (XS J) 0 false fn.ntmps c ⟨argS (xs.map dS),fun _=>none,0⟩ (iY (XS J) fn.results.toList fun _ rf=>rf=dS r)):C J f xs r :=
 We (X:=XS J) J.bel hf hb hn hx hxt hrt hw
theorem eU{a b:Bool}{K:Bool->Prop}(h:a=b)(k:K b):∃n,a=n/\K n:=⟨b,h,k⟩
theorem yT{α:Sort _}{a:α}{p:Prop}[Decidable p]{K:Bool->Prop}(h:p)(k:K true):a=a/\∃n,decide p=n/\K n:=⟨rfl,true,aZ h,k⟩
theorem yF{α:Sort _}{a:α}{p:Prop}[Decidable p]{K:Bool->Prop}(h:¬p)(k:K false):a=a/\∃n,decide p=n/\K n:=⟨rfl,false,bl h,k⟩
theorem bc{a b:Int}{K:Int->Prop}(h:a=b)(k:K b):∃n,a=n/\K n:=⟨b,h,k⟩
theorem cn{a b:Nat}{K:Nat->Prop}(h:a=b)(k:K b):∃n,a=n/\K n:=⟨b,h,k⟩
theorem bg{a:Option EO}{o:EO}{K:EO->Prop}(h:a=some o)(k:K o):∃o,a=some o/\K o:=⟨o,h,k⟩
theorem aM{a:Option (List EV)}{o:List EV}{K:List EV->Prop}(h:a=some o)(k:K o):∃o,a=some o/\K o:=⟨o,h,k⟩
theorem kI{a:bS}{r:ES}{K:ES->Prop}(h:a=some (r,[]))(k:K r):∃r,a=some (r,[])/\K r:=⟨r,h,k⟩
theorem vU{a:bS}{r:ES}{ws:Wr}{K:ES->Wr->Prop}(h:a=some (r,ws))(k:K r ws):∃r ws,a=some (r,ws)/\K r ws:=⟨r,ws,h,k⟩
theorem po{a:bS}{g:Nat}{o:EO}{K:Nat->EO->Prop}(h:a=some (.und,[(g,o)]))(k:K g o):∃g o,a=some (.und,[(g,o)])/\K g o:=⟨g,o,h,k⟩
theorem Mm{a:Option EO}{es:List (EW×EW×Nat)}{ck:Nat}{K:Nat->Prop}(h:a=some (.map es ck))(k:K ck):∃es ck,a=some (.map es ck)/\K ck:=⟨es,ck,h,k⟩
theorem bz{a:Int}{es:List IV}{sz j:Nat}{y:IV}{K:IV->Prop}(h:a=(j:Int))(h1:es[j]?=some y)(h2:y.cells.length=sz)(k:K y):∃(j:Nat) (y:IV),a=(j:Int)/\es[j]?=some y/\y.cells.length=sz/\K y:=⟨j,y,h,h1,h2,k⟩
theorem jI{a:Int}{n off sz j o:Nat}{K:Nat->Prop}(h:a=(j:Int))(h1:j<n)(h2:off+j*sz=o)(k:K o):∃j:Nat,a=(j:Int)/\j<n/\∃o,off+j*sz=o/\K o:=⟨j,h,h1,o,h2,k⟩
theorem vI{a:Int}{n j:Nat}{cs:List EV}{c:EV}{K:EV->Prop}(h:a=(j:Int))(h1:j<n)(h2:cs[j]?=some c)(k:K c):∃(j:Nat) (c:EV),a=(j:Int)/\j<n/\cs[j]?=some c/\K c:=⟨j,c,h,h1,h2,k⟩
theorem mv{a:Nat->bS}{nx:Nat}{g b:Nat}{r:ES}{ws:Wr}{K:Nat->Nat->ES->Wr->Prop}(h:a g=some (r,ws))(h1:g<nx+b)(k:K g b r ws):∃g b r ws,a g=some (r,ws)/\g<nx+b/\K g b r ws:=⟨g,b,r,ws,h,h1,k⟩
def EN(ag:Bool)(sz:Nat)(cs:List IV):IV:=match ag with
 |true=>.agg (cs.take sz)
 |false=>cs.headD (.bool false)
def eS(ag:Bool)(sz:Nat):Nat->List IV->List IV
 |0,_=>[]
 |n+1,cs=>EN ag sz cs::eS ag sz n (cs.drop sz)
def cK{α U:Type}(f:α->Option U):List α->Option (List U)
 | []=>some []
 |a::l=>match f a with
  |some b=>match cK f l with
   |some bs=>some (b::bs)
   |none=>none
  |none=>none
def bZ(T:me->Option TY)(Z:QS)(S:Nat->Bool)(h:Hp):Nat->EV->Option IV
 |_,.iv x=>match x with
  | .nil 3=>some (.sl [])
  |x=>some x
 |_,.qc n d j=>(Z.qv n d).cells[j]?
 |f+1,.slc g u off n _=>match S g with
  |true=>match h g with
   |some (.mem e cs _ vs _)=>match T e,dl u vs with
    |some te,some p=>bif Nat.ble (off+n*te.size) p then(match cK (bZ T Z S h f) ((cs.drop off).take (n*te.size)) with
     |some xs=>bif dI te.size (eS te.sh.agg te.size n xs)&&(te.sh.agg||(Nat.beq te.size 1&&xs.all fun x=>!x.isAgg)) then some (.sl (eS te.sh.agg te.size n xs)) else none
     |none=>none) else none
    |_,_=>none
   |_=>none
  |false=>none
 |_,_=>none
def qU(T:me->Option TY)(Z:QS)(S:Nat->Bool)(h:Hp)(f:Nat):EW->Option IV
 | .one c=>bZ T Z S h f c
 | .agg cs=>match cK (bZ T Z S h f) cs with
  |some xs=>some (.agg xs)
  |none=>none
 | .q n d=>some (Z.qv n d)
def gE(T:me->Option TY)(Z:QS)(S:Nat->Bool)(h:Hp)(f:Nat):ES->Option IV
 | .w x=>qU T Z S h f x
 | .tup xs=>match cK (qU T Z S h f) xs with
  |some ys=>some (.tup ys)
  |none=>none
 |_=>none
theorem Cb(ag:Bool)(sz:Nat):∀(n:Nat) (cs:List IV),(eS ag sz n cs).length=n
 |0,_=>rfl
 |n+1,cs=>by rw[eS,bB,Cb ag sz n]
theorem Gy{ag:Bool}{sz:Nat}:∀{n:Nat} {cs:List IV},cs.length=n*sz->(ag=true\/(sz=1/\∀x∈cs,x.isAgg=false))->(eS ag sz n cs).flatMap IV.cells=cs
 |0,cs,h,_=>by
  rw[mW] at h;rw[rA h];rfl
 |n+1,cs,h,ha=>by
  rw[n5] at h;have ih:=Gy (ag:=ag) (sz:=sz) (n:=n) (cs:=cs.drop sz) (by rw[mX];omega) (ha.imp id fun k=>⟨k.1,fun x hx=>k.2 x (jn hx)⟩);rw[eS,ch,ih];cases ag with
  |true=>exact jQ _ _
  |false=>
   obtain⟨h1,hb⟩:sz=1/\∀x∈cs,x.isAgg=false:=ha.resolve_left (by simp);subst h1;cases cs with
   |nil=>simp at h
   |cons x cs=>
    have:=hb x (by simp);have e:x.cells=[x]:=by cases x<;>first|rfl|simp[IV.isAgg] at this
    show x.cells++cs=x::cs;rw[e];rfl
noncomputable def gc(U:Bm)(S:Nat->Bool)(h:Hp)(H:ah)(w:my):ah:=fun b=>match H b with
 |some a=>some a
 |none=>open Classical in if ∃g u k e cs fz vs cnt p,S g=true/\h g=some (.mem e cs fz vs cnt)/\(u,p)∈vs/\U g u=some k/\k.1=b then(match w.heap[b]? with
  |some (.cells arr _ _)=>some arr
  |_=>none) else none
section
variable {Z:QS}{E:EEnv}{H:ah}{U:Bm}{h:Hp}{w:my}{T:me->Option TY}{S:Nat->Bool}
theorem ng:HLe H (gc U S h H w):=fun b arr hb=>by unfold gc;rw[hb]
theorem Hv(hh:HeapHas w H):HeapHas w (gc U S h H w):=fun b arr hb=>by
 unfold gc at hb;split at hb
 . rename_i a ha;simp only[ae] at hb;subst hb;exact hh b a ha
 . split at hb
   . split at hb
     . rename_i arr' e fr he;simp only[ae] at hb;subst hb;exact⟨_,_,he⟩
     . cases hb
   . cases hb
theorem Qp(hS:ESim Z E H U h w){g u p:Nat}{e:me}{cs:List EV}{fz:Bool}{vs:List (Nat×Nat)}{cnt:Nat}(hs:S g=true)(hg:h g=some (.mem e cs fz vs cnt))(hv:(u,p)∈vs) :
 ∃k arr,U g u=some k/\gc U S h H w k.1=some arr/\E.own k.1/\w.heap[k.1]?=some (.cells arr e (0,0))/\p<=arr.size/\p<=cs.length/\CRL Z H U (arr.toList.take p) (cs.take p):=by
 obtain⟨_,hall⟩:=hS.obj g _ hg;obtain⟨h1,k,arr,h2,h3,h4,h5,h6,h7,h8,h9⟩:=hall u p hv;refine⟨k,arr,h2,?_,h3,h5,h8,h7,h9⟩;unfold gc;cases fz with
 |true=>rw[ay rfl] at h4;rw[h4]
 |false=>
  rw[am (by simp)] at h4;rw[h4];simp only;rw[ay ⟨g,u,k,e,cs,false,vs,cnt,p,hs,hg,hv,h2,rfl⟩,h5]
theorem BH(hS:ESim Z E H U h w){b:Nat}{arr:Array X3}(hb:gc U S h H w b=some arr):H b=some arr\/(E.own b/\∃g u k e cs fz vs cnt p,S g=true/\h g=some (.mem e cs fz vs cnt)/\(u,p)∈vs/\U g u=some k/\k.1=b):=by
 unfold gc at hb;split at hb
 . rename_i a ha;simp only[ae] at hb;subst hb;exact .inl ha
 . split at hb
   . rename_i hx;obtain⟨g,u,k,e,cs,fz,vs,cnt,p,h1,h2,h3,h4,h5⟩:=hx;obtain⟨_,hall⟩:=hS.obj g _ h2;obtain⟨_,k',arr',k1,k2,_⟩:=hall u p h3;rw[h4] at k1;cases k1;exact .inr ⟨by rw[<-h5];exact k2,g,u,k,e,cs,fz,vs,cnt,p,h1,h2,h3,h4,h5⟩
   . cases hb
theorem C6{H':ah}{f:EV->Option IV}:∀{cs:List EV} {us:List X3} {xs:List IV},(∀v x y,CR Z H U v x->f x=some y->VR H' v y)->CRL Z H U us cs->cK f cs=some xs->CRL Z H' U us (xs.map .iv)/\xs.length=cs.length
 | [],[],xs,_,_,h=>by
  simp only[cK,ae] at h;subst h;exact⟨trivial,rfl⟩
 |c::cs,u::us,xs,hf,⟨h1,h2⟩,h=>by
  unfold cK at h;split at h
  . rename_i b hb;split at h
    . rename_i bs hbs;simp only[ae] at h;subst h;obtain⟨i1,i2⟩:=C6 hf h2 hbs;exact⟨⟨⟨h1.one,hf _ _ _ h1 hb⟩,i1⟩,by simp[i2]⟩
    . cases h
  . cases h
 | [],_::_,_,_,h,_=>h.elim
 |_::_,[],_,_,h,_=>h.elim
theorem Ke(hS:ESim Z E H U h w):∀{f:Nat} {x:EV} {v:X3} {y:IV},CR Z H U v x->bZ T Z S h f x=some y->VR (gc U S h H w) v y:=by
 intro f;induction f with
 |zero=>
  intro x v y hv hd;unfold bZ at hd;split at hd
  . split at hd
    . simp only[ae] at hd;subst hd;have:=hv.2;cases this;exact .sl0 _ _
    . simp only[ae] at hd;subst hd;exact hv.2.mono ng
  . obtain⟨_,x,h1,h2⟩:=hv;rw[h1] at hd;simp only[ae] at hd;subst hd;exact h2.mono ng
  . contradiction
  . cases hd
 |succ f ih=>
  intro x v y hv hd;unfold bZ at hd;split at hd
  . split at hd
    . simp only[ae] at hd;subst hd;have:=hv.2;cases this;exact .sl0 _ _
    . simp only[ae] at hd;subst hd;exact hv.2.mono ng
  . obtain⟨_,x,h1,h2⟩:=hv;rw[h1] at hd;simp only[ae] at hd;subst hd;exact h2.mono ng
  . rename_i f' g u off n cap hf;cases hf;split at hd
    . rename_i hs;split at hd
      . rename_i e cs fz vs cnt hg;split at hd
        . rename_i te p ht hp;cases hb:Nat.ble (off+n*te.size) p with
          |false=>rw[hb] at hd;cases hd
          |true=>
           rw[hb,af] at hd;have hb:=aG hb;split at hd
           . rename_i xs hxs;cases hc:(dI te.size (eS te.sh.agg te.size n xs)&&(te.sh.agg||(Nat.beq te.size 1&&xs.all fun x=>!x.isAgg))) with
             |false=>rw[hc] at hd;cases hd
             |true=>
              rw[hc,af] at hd;simp only[ae] at hd;subst hd;simp only[az,g6,kO,fy] at hc;obtain⟨k,arr,k1,k2,_,k3,k4,k5,k6⟩:=Qp (S:=S) hS hs hg (oi hp);obtain⟨k',c,e1,rfl,e2,e3⟩:=hv;rw[k1] at e1;cases e1;have h5:=(k6.drop off).take (n*te.size);rw[lJ,lJ,ce,ce,cB (by omega)] at h5;obtain⟨a1,a2⟩:=C6 (H':=gc U S h H w) (fun v x y hv hd=>ih hv hd) h5 hxs;have hl:xs.length=n*te.size:=by rw[a2,cy,mX];omega
              have hcells:=Gy (ag:=te.sh.agg) hl (hc.2.imp id fun k=>⟨av k.1,k.2⟩);rw[<-hcells] at a1;obtain⟨vs',v1,v2,v3⟩:=AX hc.1 a1;have hln:=v1.length;rw[Cb] at hln;refine VR.sl k.1 off n c te.size arr vs' _ k2 v1 (Cb _ _ _ _).symm e2 v3 ?_;rw[v2,hln]
           . cases hd
        . cases hd
      . cases hd
    . cases hd
  . cases hd
theorem Kd(hS:ESim Z E H U h w){f:Nat}{x:EW}{v:X3}{y:IV}(hv:WR Z H U v x)(hd:qU T Z S h f x=some y):VR (gc U S h H w) v y:=by
 unfold qU at hd;split at hd
 . exact Ke hS hv hd
 . split at hd
   . rename_i cs xs hxs;simp only[ae] at hd;subst hd;obtain⟨us,rfl,hu⟩:=hv;obtain⟨a1,a2⟩:=C6 (H':=gc U S h H w) (fun v x y hv hd=>Ke hS hv hd) hu hxs;obtain⟨b1,b2⟩:=uQ a1;exact .agg _ _ b1 b2
   . cases hd
 . simp only[ae] at hd;subst hd;exact VR.mono ng hv
theorem Ks(hS:ESim Z E H U h w){f:Nat}:∀{xs:List EW} {us:List X3} {ys:List IV},WRL Z H U us xs->cK (qU T Z S h f) xs=some ys->VRL (gc U S h H w) us ys
 | [],[],ys,_,hd=>by
  simp only[cK,ae] at hd;subst hd;exact .nil
 |x::xs,u::us,ys,⟨h1,h2⟩,hd=>by
  unfold cK at hd;split at hd
  . rename_i b hb;split at hd
    . rename_i bs hbs;simp only[ae] at hd;subst hd;exact .cons _ _ _ _ (Kd hS h1 hb) (Ks hS h2 hbs)
    . cases hd
  . cases hd
 | [],_::_,_,h,_=>h.elim
 |_::_,[],_,h,_=>h.elim
theorem Kg(hS:ESim Z E H U h w){f:Nat}{x:ES}{v:X3}{y:IV}(hv:SRe Z H U v x)(hd:gE T Z S h f x=some y):VR (gc U S h H w) v y:=by
 unfold gE at hd;split at hd
 . exact Kd hS hv hd
 . split at hd
   . rename_i ys hys;simp only[ae] at hd;subst hd;obtain⟨us,rfl,hu⟩:=hv;exact .tup _ _ (Ks hS hu hys)
   . cases hd
 . cases hd
end
def vp:Nat->PT ES
 |0=>.nil
 |n+1=>(vp n).set n .unk
def pe(nt:Nat):List (Nat×ES)->PT ES
 | []=>vp nt
 | (n,x)::l=>(pe nt l).set n x
def nL:List (Nat×EO)->PT EO
 | []=>.nil
 | (n,x)::l=>(nL l).set n x
theorem Jd:∀{nt n:Nat},(vp nt).sl n=if n<nt then .unk else .und
 |0,n=>by simp[vp,PT.sl,PT.get]
 |k+1,n=>by
  have ih:=Jd (nt:=k) (n:=n);unfold PT.sl at ih ⊢;rw[vp,na];by_cases h:n=k
  . subst h;simp
  . rw[am h,ih];by_cases h2:n<k
    . rw[ay h2,ay (by omega)]
    . rw[am h2,am (by omega)]
theorem KO{nt:Nat}{Z:QS}{H:ah}{U:Bm}{f:Nat->X3}(hf:∀t,nt<=t->f t=undef):∀{l:List (Nat×ES)} {t:Nat},SRe Z H U (f t) (pd l t)->SRe Z H U (f t) ((pe nt l).sl t)
 | [],t,h=>by
  rw[pe,Jd];by_cases h:t<nt
  . rw[ay h];exact trivial
  . rw[am h];exact hf t (by omega)
 | (n,x)::l,t,h=>by
   unfold PT.sl;rw[pe,na];rw[pd] at h;by_cases h2:t=n
   . subst h2;rw[bh,af] at h;simp only[bD];exact h
   . rw[ed h2,aX] at h;rw[am h2];exact KO hf h
theorem CC:∀(l:List (Nat×EO)),(nL l).get=cV l
 | []=>by funext n;simp[nL,PT.get,cV]
 | (n,x)::l=>by
   funext m;have ih:=congrFun (CC l) m;rw[nL,na,cV];by_cases h:m=n
   . subst h;simp[bh]
   . rw[am h,ed h,aX];exact ih
def pc(nx:Nat):List Nat->Bool
 | []=>true
 |g::l=>Nat.blt g nx&&pc nx l
theorem KB{nx:Nat}:∀{l:List Nat},pc nx l=true->∀g∈l,g<nx
 |x::l,h,g,hg=>by
  simp only[pc,az] at h;rcases List.mem_cons.1 hg with rfl|hg
  . have:=h.1;rwa[cY] at this
  . exact KB h.2 g hg
section
variable {X:EX}{nP:Nat}{rd:Bool}{nt:Nat}{K:X6->SS->Prop}
theorem BQ{F:qe->Option FnE}{orc:qe->List ES->Hs->Option (ES×Hs)}(hF:∀f q,F f=some q->∃fn,FnOk X f q fn)(horc:iX X orc)(n:Nat){code:X5}{l:List (Nat×ES)}{m:List (Nat×EO)}{nx:Nat}{e:X6}{s':Sg}
 (he:Aq (X.ee F orc) n rd nt code ⟨pe nt l,⟨nL m,nx,[]⟩⟩=some (e,s')) (hw:pc (s'.s.nx+nx) s'.s.wl=true) (hfr:nn nx m=true) (hk:K e ⟨s'.tm.sl,s'.s.h.get,s'.s.nx+nx⟩):SW X nP rd nt code (aP l m nx) K:=fun ro hro E hI hh w0 H U a w Q hS hQ=>by
 have ho:=(VL hF horc n rd nt code _ e s' he).1;refine ho.2 ro hro E hI w0 H U a w Q ⟨?_,hS.mks,hS.sm⟩ fun a' w' hp=>hQ e _ a' w' hk ?_
 . show ESt X E nt H U (pe nt l).sl (nL m).get a w;rw[CC];exact⟨hS.st.sim,fun t=>KO (f:=fun t=>a.tmps.getD t undef) (fun t ht=>by
    have:=hS.st.size;simp[ER,tP (show a.tmps.size<=t by omega)]) (hS.st.slot t),hS.st.size⟩
 . obtain⟨H',U',h1,h2,⟨h3,h4,h5⟩,h6⟩:=hp;refine⟨H',U',h1,BLeP.of h2,⟨h3,h4,h5,fun g hg=>?_⟩,h6⟩;show s'.s.h.get g=none;have hg':s'.s.nx+nx<=g:=hg;rw[ho.1.1 g fun hm=>?_]
   . show(nL m).get g=none;rw[CC];exact xh hfr g (by omega)
   . have:=KB hw g hm;omega
end
section
variable {X:EX}
theorem DU(hbel:∀n w w',X.I w->w.heap.size<=n->Below n w w'->X.I w'){f:qe}{fn:Func}{c:X5}(hf:X.P.funcs[f]?=some fn)(hb:fn.body=some c)(hn:(fn.name == "runtime.NumGoroutine")=false){xs:List IV}{r:IV}(hx:Nat.ble xs.length fn.ntmps=true)(hxt:jy xs=true)(fu:Nat)
 (hw:SW X 0 false fn.ntmps c ⟨argS (xs.map dS),fun _=>none,0⟩ (iY X fn.results.toList fun h rf=>gE X.T X.Z (fun _=>true) h fu rf=some r)):a7 X.P X.I f xs r:=by
 refine⟨⟨fn,hf,hn,by rw[hb];rfl⟩,fun H w args hIw hH hv=>?_⟩;have hS:ESim X.Z ⟨fun k=>w.heap.size<=k,w,H,fun _=>False,fun _ _=>none⟩ H (fun _ _=>none) (fun _=>none) w :=
  ⟨hH,BelowO.refl _ _,fun k hk=>hk,HExtO.refl _ _,fun g o h=>(by cases h),fun g u k h=>(by cases h),fun g g' u u' k k' h=>(by cases h),fun g h=>h.elim⟩
 refine zD hf hb (by simpa using aG hx) (fun _ _=>rfl) hw (fun w' hb'=>hbel _ w w' hIw (ak _) hb'.below) (fun _ (h:False)=>h.elim) hS (SREL.ofData hv hxt) fun v H' U' hp' rf w' h1 h2 h3 h4 h5 h6=>?_;refine⟨v,gc U' (fun _=>true) hp' H' w',rfl,Hv h3.has,⟨h1.trans ng,fun b arr hb=>?_⟩,Kg h3 h5 h6,h3.below.below⟩;rcases BH h3 hb with e|e
 . exact h3.ext.2 b arr e
 . exact .inr e.1
end
end Go.Proofs.En
