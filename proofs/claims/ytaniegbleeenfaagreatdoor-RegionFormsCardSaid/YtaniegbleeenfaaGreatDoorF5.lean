/-
  A part of the proof of regionForms_card.
-/
import Derived.Test.YtaniegbleeenfaaGreatDoorF4
import Derived.LoopNIn
import Derived.Shelf.SlSortCmp.WholeK
import Derived.Ground.SlsfProg
import Derived.Test.YtaniegbleeenfaaGreatDoorProg
import Derived.WideKeyArr
import Derived.StringKeys
set_option maxHeartbeats 1000000
namespace Go.Proofs
open Go
abbrev EA:=@Rat.mkRat_add_mkRat
abbrev Ex:=@Go.wpIn_loop_rounds
abbrev Ey:=@List.getElem!_eq_getElem?_getD
abbrev Ez:=@Rat.mkRat_eq_iff
abbrev MH:=@decide_true
abbrev MI:=@List.map_id
abbrev MJ:=@Bool.or_eq_false_iff
abbrev ML:=@Int.negSucc_eq
abbrev MM:=@Rat.neg_mkRat
abbrev MN:=@Rat.mkRat_one
abbrev MO:=@Go.Maps.Keyed.of_law
abbrev Xt:=@List.length_finRange
abbrev Xu:=@Int.natAbs_of_nonneg
abbrev Xv:=@Int.lt_of_mul_lt_mul_right
abbrev Xw:=@Int.mul_lt_mul_of_pos_right
abbrev Xx:=@Int.negSucc_lt_zero
abbrev Xy:=@List.getD_cons_zero
abbrev kz:=@Nat.succ_ne_zero
abbrev mF:=@Bool.and_self
abbrev qX:=@Nat.succ_mul
abbrev qY:=@Nat.mul_ne_zero
abbrev tv:=@Go.roundsIn_succ
abbrev tw:=@Rat.pow_succ
abbrev vQ:=@List.append_eq_nil_iff
abbrev zR:=@Rat.mkRat_mul_mkRat
end Go.Proofs
namespace Go.Proofs.En
open Go.RowKit Go.Proofs.Fl
section
variable {X:EX}
def LoopS(X:EX)(rd:Bool)(nt:Nat)(b:Code)(s:Sg)(e:Exit)(s':Sg):Prop :=
 ∃m,∀(ro:Option Nat),(rd=false->ro=none)->∀(E:EEnv),(∀w',BelowO E.own E.w0 w'->X.I w')->∀(w0:World) (H:ah) (U:Bm) (a:Act) (w:World) (Q:Exit->Act->World->Prop),vl X E w0 nt H U s a w->
  (∀a' w',EPost X E w0 nt H U w s' a' w'->Q e a' w')->Code.roundsIn (FW ro) 0 X.P b Q m a w
def sM(X:EX)(ev:Bool->Nat->Code->Sg->Option (Exit×Sg)):Prop:=∀rd nt c s e s',ev rd nt c s=some (e,s')->Sound X rd nt c s e s'/\∀b,c=.loop b->LoopS X rd nt b s e s'
theorem Ny{rd:Bool}{nt:Nat}{b:Code}{s s':Sg}{e:Exit}(hl:LogOk s.s s'.s)(h:LoopS X rd nt b s e s'):Sound X rd nt (.loop b) s e s':=by
 obtain⟨m,h⟩:=h;exact⟨hl,fun ro hro E hI w0 H U a w Q hS hQ=>Ex m (h ro hro E hI w0 H U a w Q hS hQ)⟩
theorem Sound.seq{rd:Bool}{nt:Nat}{x y:Code}{s s1 s':Sg}{e:Exit}(h1:Sound X rd nt x s .normal s1)(h2:Sound X rd nt y s1 e s'):Sound X rd nt (.seq x y) s e s' :=
 ⟨h1.1.trans h2.1,fun ro hro E hI w0 H U a w Q hS hQ=>zt (h1.2 ro hro E hI w0 H U a w _ hS fun a1 w1 hp=>by
  obtain⟨H1,β1,p1,p2,p3,p4⟩:=hp;exact h2.2 ro hro E hI w0 H1 β1 a1 w1 Q p3 fun a' w' hp'=>hQ a' w' (hp'.trans p1 p2 p4))⟩
theorem XK{rd:Bool}{nt:Nat}{x y:Code}{s s':Sg}{e:Exit}(h1:Sound X rd nt x s e s')(he:e≠ .normal):Sound X rd nt (.seq x y) s e s' :=
 ⟨h1.1,fun ro hro E hI w0 H U a w Q hS hQ=>zt (h1.2 ro hro E hI w0 H U a w _ hS fun a1 w1 hp=>by
  cases e<;>first|exact absurd rfl he|exact hQ _ _ hp)⟩
theorem Sound.block{rd:Bool}{nt id:Nat}{c:Code}{s s':Sg}{e:Exit}(h:Sound X rd nt c s e s'):Sound X rd nt (.block id c) s (match e with | .exit i=>bif Nat.beq i id then .normal else .exit i|e=>e) s' :=
 ⟨h.1,fun ro hro E hI w0 H U a w Q hS hQ=>Ec (h.2 ro hro E hI w0 H U a w _ hS fun a1 w1 hp=>by
  have hq:=hQ a1 w1 hp;cases e with
  |exit i=>
   simp only[Exit.inBlock];by_cases hi:i=id
   . subst hi;simp only[bj,ai] at hq;simp only[bD];exact hq
   . simp only[yd hi,aW] at hq;simp only[hi,bE];exact hq
  |_=>exact hq)⟩
theorem Sound.cond{rd:Bool}{nt:Nat}{c:Operand}{x y:Code}{t:Bool}{s s':Sg}{e:Exit}(hc:aj s.tm.sl c=.w (.one (.iv (.bool t))))(h:Sound X rd nt (match t with|true=>x|false=>y) s e s'):Sound X rd nt (.cond c x y) s e s' :=
 ⟨h.1,fun ro hro E hI w0 H U a w Q hS hQ=>by
  have hv:=bn hS.1 c;rw[hc] at hv;refine Eb (SRe.bool hv) (fun e=>?_) (fun e=>?_)
  . subst e;exact h.2 ro hro E hI w0 H U a w Q hS hQ
  . subst e;exact h.2 ro hro E hI w0 H U a w Q hS hQ⟩
theorem OT{rd:Bool}{nt:Nat}{b:Code}{s s1 s':Sg}{e:Exit}(h1:Sound X rd nt b s .normal s1)(h2:LoopS X rd nt b s1 e s'):LoopS X rd nt b s e s':=by
 obtain⟨m,h2⟩:=h2;refine⟨m+1,fun ro hro E hI w0 H U a w Q hS hQ=>?_⟩;rw[tv];refine h1.2 ro hro E hI w0 H U a w _ hS fun a1 w1 hp=>?_;obtain⟨H1,β1,p1,p2,p3,p4⟩:=hp;exact h2 ro hro E hI w0 H1 β1 a1 w1 Q p3 fun a' w' hp'=>hQ a' w' (hp'.trans p1 p2 p4)
theorem P4{rd:Bool}{nt:Nat}{b:Code}{s s':Sg}{e:Exit}(h1:Sound X rd nt b s e s')(he:e≠ .normal):LoopS X rd nt b s e s':=by
 refine⟨1,fun ro hro E hI w0 H U a w Q hS hQ=>?_⟩;rw[tv];refine h1.2 ro hro E hI w0 H U a w _ hS fun a1 w1 hp=>?_;cases e<;>first|exact absurd rfl he|exact hQ _ _ hp
theorem OR.poke{Z:QS}{own:Nat->Prop}{w w':World}{H:ah}{U:Bm}{g:Nat}{o:EO}(hw:∀(k:Nat) x,w.heap[k]?=some x->(∀d,x≠ .deferred d)->w'.heap[k]?=some x)(h:OR Z own w H U g o):OR Z own w' H U g o:=by
 cases o with
 |mem e cs fz vs cnt=>exact⟨h.1,fun u p hup=>by
  obtain⟨h1,k,arr,h2,h3,h4,h5,h6⟩:=h.2 u p hup;exact⟨h1,k,arr,h2,h3,h4,hw _ _ h5 (by simp),h6⟩⟩
 |map es ck=>obtain⟨k,ents,h1,h2,h3,h4,h5⟩:=h;exact⟨k,ents,h1,h2,h3,hw _ _ h4 (by simp),h5⟩
 |iter gm since seen last cur=>obtain⟨k,km,sn,h1,h2,h3,h4,h5,h6⟩:=h;exact⟨k,km,sn,h1,h2,h3,h4,hw _ _ h5 (by simp),h6⟩
 |loop busy nt tm ps assign body=>obtain⟨k,L,h1,h2,h3,h4,h5⟩:=h;exact⟨k,L,h1,h2,h3,hw _ _ h4 (by simp),h5⟩
 |hid=>trivial
theorem ESim.poke{Z:QS}{E:EEnv}{H:ah}{U:Bm}{h:Hp}{w:World}(hS:ESim Z E H U h w){D:Nat}{d d':Option (List Deferred)}(hD:w.heap[D]?=some (.deferred d))(ho:E.own D):ESim Z E H U h (w.putObj D (.deferred d')):=by
 have hw:∀(k:Nat) x,w.heap[k]?=some x->(∀d,x≠ .deferred d)->(w.putObj D (.deferred d')).heap[k]?=some x:=fun k x hk hx=>by
  refine(cl fun e=>?_).trans hk;subst e;rw[hD] at hk;cases hk;exact hx _ rfl
 refine⟨fun b arr hb=>?_,hS.below.trans ⟨rfl,rfl,rfl,by simp,fun k hk=>cl fun e=>hk (by rw[e];exact ho)⟩,fun k hk=>hS.lo k (by simpa using hk),hS.ext,fun g o hg=>(hS.obj g o hg).poke hw,fun g u k hk=>?_,hS.inj,hS.hidb⟩
 . obtain⟨t,fr,ht⟩:=hS.has b arr hb;exact⟨t,fr,hw _ _ ht (by simp)⟩
 . obtain⟨a,b⟩:=hS.dom g u k hk;exact⟨by simpa using a,b⟩
theorem BX{Z:QS}{P:Program}{fn:Func}{tmps:Array Value}{R:Ending->World->Prop}{E:EEnv}{H:ah}{U:Bm}{h:Hp}{w0:World}:∀(M:List Deferred) {w:World},ESim Z E H U h w->MarksOk (mo E w0) M w->MarkSame w0 w->
 (∀w',ESim Z E H U h w'->MarkSame w0 w'->∃v,(results fn tmps).run P w'=.ok v w'/\R (.returned v) w')->LeavesInM (FW none) 0 P fn tmps R M .returning w
 | [],w,hS,_,hm,hk=>hk w hS hm
 |d::M,w,hS,hM,hm,hk=>by
  obtain⟨D,e,ho,hb⟩:=hM.2 d (by simp);have hp:=hM.1;refine⟨by simp,.inl ⟨D,w.putObj D (.deferred none),by rw[e],Mh hb,?_⟩⟩;refine BX M (hS.poke hb ho.1) ⟨(List.pairwise_cons.1 hp).2,fun d' hd'=>?_⟩ (fun D0 hD0=>?_) hk
  . obtain⟨D',e',ho',hb'⟩:=hM.2 d' (dx _ hd');refine⟨D',e',ho',(cl fun e0=>(List.pairwise_cons.1 hp).1 d' hd' (by rw[e,e',e0])).trans hb'⟩
  . refine(cl fun e0=>ho.2 (by rw[<-e0];exact hD0)).trans (hm D0 hD0)
theorem QJ{E:EEnv}{H:ah}{U:Bm}{h:Hp}{w:World}(hS:ESim X.Z E H U h w){t:TypeId}{v:Value}{x r:ES}{ws:Wr}(hx:SRe X.Z H U v x)(he:jq X.T X.Z h t x=some (r,ws)) :
 ∃p u,v=.pointer (some p)/\(loadVar t p).run X.P w=.ok u w/\SRe X.Z H U u r:=by
 unfold jq at he;split at he
 . rename_i ty g u off ht;obtain⟨k,hk,hx⟩:=hx;obtain⟨i,d,z,ok⟩:=aM (X.hT t ty ht);split at he
   . rename_i cs hrd;rw[cC] at he;obtain⟨k',arr,e,h1,h2,h3,h4,h5,h6⟩:=xI hS hrd;rw[hk] at h1;cases h1;split at he
     . rename_i y hv;simp only[ae,aA] at he;obtain⟨rfl,rfl⟩:=he;have hcell:∀j c,((arr.toList.drop off).take ty.size)[j]?=some c->w.cell? ⟨k.1,off+j,none⟩=some c:=fun j c hc=>by
        rw[oO w _ _ arr e (0,0) h2];rw[cL] at hc;split at hc
        . simpa using hc
        . simp at hc
       rcases mkV_ok hv h4 with⟨q1,q2⟩|⟨q1,v,q2,q3⟩
       . refine⟨_,.agg ((arr.toList.drop off).take ty.size).toArray,hx,?_,q2⟩;have hl:=L4 (P:=X.P) w ⟨k.1,off,none⟩ ((arr.toList.drop off).take ty.size) (fun j c hc=>by rw[dQ];exact hcell j c hc);have hlen:((arr.toList.drop off).take ty.size).length=ty.size:=by simp;omega
         rw[hlen] at hl;simp only[loadVar,av,ok.run_agg,q1,au,bD,ok.run_size,hl,ay]
       . refine⟨_,v,hx,?_,q3⟩;have h0:=hcell 0 v (by rw[q2];rfl);rw[eG] at h0;simp only[loadVar,av,ok.run_agg,q1,au,cM,bE,run_load,h0]
     . cases he
   . cases he
 . rename_i ty y off ht;obtain⟨b,base,u,arr,hxv,hb,h4,h6⟩:=hx;obtain⟨i,d,z,ok⟩:=aM (X.hT t ty ht);obtain⟨e,fr,h5⟩:=hS.has b arr hb;split at he
   . rename_i r0 hl;cases hrt:r0.isTup with
     |true=>rw[hrt] at he;cases he
     |false=>
      rw[hrt] at he;simp only[aW,ae,aA] at he;obtain⟨rfl,rfl⟩:=he;obtain⟨v',hr,hu⟩:=rb ok h5 h4 h6 hl;exact⟨_,v',hxv,hr,yu hu hrt⟩
   . cases he
 . cases he
theorem xb{E:EEnv}{H:ah}{U:Bm}{h:Hp}{w:World}(hS:ESim X.Z E H U h w){tmps:Array Value}{tm:Nat->ES}(hsl:∀t,SRe X.Z H U (tmps.getD t undef) (tm t)):∀{rs:List ResultVar} {xs:List EW},gC X.T X.Z tm h rs=some xs->
 ∃vs:List Value,(rs.mapM (lY tmps)).run X.P w=.ok vs w/\WRL X.Z H U vs xs
 | [],xs,he=>by
  simp only[gC,ae] at he;subst he;exact⟨[],by simp,ab⟩
 | .tmp t::rs,xs,he=>by
  unfold gC at he;split at he
  . rename_i x ys hx hr;simp only[ae] at he;subst he;obtain⟨vs,e,Vz9⟩:=xb hS hsl hr;have hv:=hsl t;rw[hx] at hv;refine⟨tmps.getD t undef::vs,?_,hv,Vz9⟩;simp only[zu,lY,av,ay,au,e]
  . cases he
 | .cell a t::rs,xs,he=>by
  unfold gC at he;split at he
  . rename_i x ys hx hr;simp only[ae] at he;subst he;obtain⟨vs,e,Vz9⟩:=xb hS hsl hr;obtain⟨p,u,h1,h2,h3⟩:=QJ hS (hsl a) hx;refine⟨u::vs,?_,h3,Vz9⟩;simp only[zu,lY,h1,asAddr,av,ay,au,h2,e]
  . cases he
theorem IU{H:ah}{U:Bm}{vs:List Value}{xs:List EW}(h:WRL X.Z H U vs xs):SRe X.Z H U (if h:vs.toArray.size=1 then vs.toArray[0] else .tuple vs.toArray) (ju xs):=by
 cases vs with
 |nil=>cases xs with
  |nil=>exact⟨[],rfl,ab⟩
  |cons=>exact h.elim
 |cons v vs=>cases xs with
  |nil=>exact h.elim
  |cons x xs=>
   cases vs with
   |nil=>cases xs with
    |nil=>exact h.1
    |cons=>exact h.2.elim
   |cons v' vs=>cases xs with
    |nil=>exact h.2.elim
    |cons x' xs=>
     have:¬(v::v'::vs).toArray.size=1:=by simp
     rw[vC this];exact⟨_,rfl,h⟩
theorem JF:∀(xs:List ES) (i:Nat) (t:PT ES) (m:Nat),(qx xs i t).sl m=if i<=m/\m<i+xs.length then xs.getD (m-i) .und else t.sl m
 | [],i,t,m=>by simp[qx];intro h1 h2;omega
 |x::xs,i,t,m=>by
  rw[qx,JF xs (i+1)];have e:(t.set i x).sl m=if m=i then x else t.sl m:=by
   unfold PT.sl;rw[mK];split<;>rfl
  rw[e];by_cases h1:m=i
  . subst h1;rw[al (by omega),ar rfl,ar (by simp)];simp
  . rw[al h1];by_cases h2:i+1<=m/\m<i+1+xs.length
    . rw[ar h2,ar (by simp;omega)];rw[show m-i=(m-(i+1))+1 by omega];rfl
    . rw[al h2,al (by simp;omega)]
theorem HZ{F:FuncId->Option FnE}{orc:FuncId->List ES->Hs->Option (ES×Hs)}{ev:Bool->Nat->Code->Sg->Option (Exit×Sg)}(hF:∀f q,F f=some q->∃fn,FnOk X f q fn)(hev:sM X ev):nY X (sq (X.ee F orc) ev):=by
 intro f args s r s' he;unfold sq at he;split at he
 . rename_i q hq;obtain⟨fn,ok⟩:=hF f q hq;cases hb:Nat.ble args.length q.nt with
   |false=>rw[hb] at he;cases he
   |true=>
    rw[hb] at he;simp only[ai] at he;have hle:=aB hb;have key:∃e s1 xs,(e=.normal\/e=.ret)/\ev false q.nt q.body ⟨qx args 0 .nil,s⟩=some (e,s1)/\gC X.T X.Z s1.tm.sl s1.s.h.get q.rs=some xs/\r=ju xs/\s'=s1.s:=by
     split at he
     . rename_i s1 hev1;split at he
       . rename_i xs hr;simp only[ae,aA] at he;exact⟨_,s1,xs,.inl rfl,hev1,hr,he.1.symm,he.2.symm⟩
       . cases he
     . rename_i s1 hev1;split at he
       . rename_i xs hr;simp only[ae,aA] at he;exact⟨_,s1,xs,.inr rfl,hev1,hr,he.1.symm,he.2.symm⟩
       . cases he
     . cases he
    obtain⟨e,s1,xs,hne,hev1,hr,rfl,rfl⟩:=key;obtain⟨⟨l1,hsound⟩,_⟩:=hev _ _ _ _ _ _ hev1;refine⟨l1,⟨fn,ok.has,ok.name,by rw[ok.body];rfl⟩,fun E hI H U w vs hS hargs=>?_⟩;have hlen:=hargs.length;refine(vw (n:=0)).1 (vB ok.has ok.body trivial ?_);refine hsound none (fun _=>rfl) E hI w H U _ w _ ⟨⟨hS,fun t=>?_,?_⟩,MarksOk.nil _ _,MarkSame.refl _⟩ fun a0 w1 hp=>?_
    . show SRe _ _ _ _ ((qx args 0 .nil).sl t);rw[JF];by_cases ht:t<args.length
      . rw[ar ⟨bb _,by omega⟩,tn];obtain⟨v,h1,h2⟩:=hargs.get t (args[t]) (by simp[ht]);have hlt:t<vs.length:=by omega
        have:(vs.toArray++Array.replicate (fn.ntmps-vs.toArray.size) undef).getD t undef=v:=by
         simp[jd,hlt];exact(List.getElem?_eq_some_iff.1 h1).2
        rw[this];have e2:args.getD t .und=args[t]:=by simp[ht]
        rw[e2];exact h2
      . rw[al (by omega)];show _=undef;have hge:¬t<vs.length:=by omega
        simp[jd,hge,vE];split<;>rfl
    . show(vs.toArray++Array.replicate (fn.ntmps-vs.toArray.size) undef).size=q.nt;rw[<-ok.nt] at hle ⊢;simp;omega
    . obtain⟨H1,β1,p1,p2,p3,p4⟩:=hp;have fin:LeavesInM (FW none) 0 X.P fn a0.tmps (Cl X E H U w s1.s.h.get (ju xs)) a0.defers .returning w1:=by
       refine BX a0.defers p3.1.sim p3.2.1 p3.2.2 fun w' hS' hm'=>?_;obtain⟨us,e1,Vz9⟩:=xb hS' p3.1.slot hr;refine⟨(if h:us.toArray.size=1 then us.toArray[0] else .tuple us.toArray),?_,_,H1,β1,rfl,p1,p2,hS',hm',IU Vz9⟩;unfold results;have e0:(fn.results.mapM fun | .tmp t=>pure (a0.tmps.getD t undef) | .cell a t=>do loadVar t (<- asAddr (a0.tmps.getD a undef)):Sem (Array Value))=List.toArray <$> q.rs.mapM (lY a0.tmps):=by
        rw[Ee,ok.rs];rfl
       refine(congrArg (fun(x:Sem (Array Value))=>(x >>= fun vs=>pure (if h:vs.size=1 then vs[0] else .tuple vs)).run X.P w') e0).trans ?_;simp only[av,Ef,e1,au,ay]
      rcases hne with rfl|rfl
      . exact fin
      . exact fin
 . cases he
end
section
variable {X:EX}
theorem ESim.loopPut{E:EEnv}{H:ah}{U:Bm}{h:Hp}{w:World}(hS:ESim X.Z E H U h w){g:Nat}{b:Bool}{nt:Nat}{tm:PT ES}{ps:List Nat}{ax bo:Code}(hg:h g=some (.loop b nt tm ps ax bo)){k:Nat×Nat}(hk:U g 0=some k){L L':Loop}(hw:w.heap[k.1]?=some (.loop L)){o':EO}(hc:o'.cnt=1)
 (ho:OR X.Z E.own (w.putObj k.1 (.loop L')) H U g o'):ESim X.Z E H U (aD h g (some o')) (w.putObj k.1 (.loop L'))/\MarkSame w (w.putObj k.1 (.loop L')):=by
 have hn:H k.1=none:=by
  obtain⟨k2,L2,h1,h2,h3,_⟩:=hS.obj g _ hg;rw[hk] at h1;cases h1;exact h3
 refine⟨hS.turn (by rw[hg];simp) rfl rfl rfl (by simp) (fun k' _ hk'=>cl (fun e=>hk' 0 k hk e.symm)) (fun u s hs=>?_) (BLe.refl _) (fun _ _ _=>rfl) (fun u k' hk'=>?_) ho,fun D hD=>cl (fun e=>?_)⟩
 . obtain⟨_,_,o2,ho2,hc2⟩:=hS.domN hg (by simp) u s hs;rw[hg] at ho2;cases ho2;have:u=0:=by simp only[EO.cnt] at hc2;omega
   subst this;rw[hk] at hs;cases hs;exact hn
 . obtain⟨a,b,o2,ho2,hc2⟩:=hS.domN hg (by simp) u k' hk';rw[hg] at ho2;cases ho2;exact⟨by rw[hc];exact hc2,by simpa using a,b,.inl ⟨u,k',hk',rfl⟩⟩
 . subst e;rw[hw] at hD;cases hD
theorem G4{H:ah}{U:Bm}{nt:Nat}:∀{ps:List Nat} {args:List ES} {vs:List Value} {tm tm':PT ES} {tmps:Array Value},pX nt tm ps args=some tm'->SREL X.Z H U vs args->(∀t,SRe X.Z H U (tmps.getD t undef) (tm.sl t))->tmps.size=nt->
 ps.length=args.length/\(∀t,SRe X.Z H U (((ps.zip vs).foldl (fun tmps p=>tmps.setIfInBounds p.1 p.2) tmps).getD t undef) (tm'.sl t))/\((ps.zip vs).foldl (fun tmps p=>tmps.setIfInBounds p.1 p.2) tmps).size=nt
 | [],[],vs,tm,tm',tmps,he,hv,hs,hn=>by
  simp only[pX,ae] at he;subst he;exact⟨rfl,by simpa using hs,by simpa using hn⟩
 | [],_::_,_,_,_,_,he,_,_,_=>by simp[pX] at he
 |_::_,[],_,_,_,_,he,_,_,_=>by simp[pX] at he
 |p::ps,x::args,[],_,_,_,_,hv,_,_=>hv.elim
 |p::ps,x::args,v::vs,tm,tm',tmps,he,hv,hs,hn=>by
  unfold pX at he;cases hb:Nat.blt p nt with
  |false=>rw[hb] at he;cases he
  |true=>
   rw[hb] at he;simp only[ai] at he;have hlt:p<nt:=by simpa[cR] using hb
   obtain⟨h1,h2,h3⟩:=G4 (tmps:=tmps.setIfInBounds p v) he hv.2 (fun t=>by
    have e:(tm.set p x).sl t=if t=p then x else tm.sl t:=by
     unfold PT.sl;rw[mK];split<;>rfl
    rw[e];by_cases ht:t=p
    . subst ht;rw[ar rfl];have:(tmps.setIfInBounds t v).getD t undef=v:=by simp[Array.getD,hn,hlt]
      rw[this];exact hv.1
    . rw[al ht];have:(tmps.setIfInBounds p v).getD t undef=tmps.getD t undef:=by
       simp only[DX,LX];rw[al (by omega)]
      rw[this];exact hs t) (by rw[D5];exact hn)
   exact⟨by simp[h1],by simpa using h2,by simpa using h3⟩
theorem O1{ev:Bool->Nat->Code->Sg->Option (Exit×Sg)}(hev:sM X ev):pT X (Cn ev):=by
 intro g args s s' he;unfold Cn at he;split at he
 . rename_i nt tm ps assign body hg;split at he
   . rename_i tm' hp;split at he
     . rename_i s1 he1;split at he
       . rename_i nt1 tm1 ps1 as1 bo1 hg1;split at he
         . rename_i s2 he2;split at he
           . rename_i nt2 tm2 ps2 as2 bo2 hg2;simp only[ae] at he;subst he;obtain⟨⟨l1,snd1⟩,_⟩:=hev _ _ _ _ _ _ he1;obtain⟨⟨l2,snd2⟩,_⟩:=hev _ _ _ _ _ _ he2;refine⟨((l1.trans (LogOk.put _ _ _)).trans l2).trans (LogOk.put _ _ _),fun ro E hI H U w vs k hS hargs hk=>?_⟩;obtain⟨k0,L,o1,o2,o3,o4,o5,o6,o8,o9,ve,vd,DO⟩:=hS.obj g _ hg;rw[hk] at o1;cases o1;simp only[cM,bE] at o5;obtain⟨q1,q2,q3⟩:=G4 (X:=X) (H:=H) (U:=U) (vs:=vs) (tmps:=L.tmps) hp hargs DO o8;have hlen:=hargs.length;have hsz:vs.toArray.size=L.params.size:=by
              rw[<-o9] at q1;simp at q1;simp;omega
             have etm:(L.params.zip vs.toArray).foldl (fun tmps (t,a)=>tmps.setIfInBounds t a) L.tmps=(ps.zip vs).foldl (fun tmps p=>tmps.setIfInBounds p.1 p.2) L.tmps:=by
              rw[<-Xg,Array.toList_zip,o9]
             refine⟨L.fn,_,L.assign,L.body,run_yield o4 hsz,roundIn_of_wpIn trivial ?_⟩;rw[ve,vd,etm];refine snd1 (some k.1) (fun e=>by cases e) E hI w H U _ w _ ⟨⟨hS,q2,q3⟩,MarksOk.nil _ _,MarkSame.refl _⟩ fun a1 w1 hp1=>?_;obtain⟨H1,β1,p1,p2,p3,p4⟩:=hp1;have hk1:β1 g 0=some k:=p2 _ _ _ hk;obtain⟨k0,L1,u1,u2,u3,u4,u5,u6,u8,u9,u10,u11,u12⟩:=p3.1.sim.obj g _ hg1;rw[hk1] at u1;cases u1;simp only[cM,bE] at u5;refine⟨_,run_beginRound u4 u5,?_⟩;have hlt1:=(Array.getElem?_eq_some_iff.1 u4).1;obtain⟨t1,t2⟩:=p3.1.sim.loopPut hg1 hk1 u4 (L':={ L1 with state:=.busy }) (o':=.loop true nt1 tm1 ps1 as1 bo1) rfl
              ⟨k,{ L1 with state:=.busy },hk1,u2,u3,vF hlt1,by simp,u6,u8,u9,u10,u11,u12⟩
             have hm2:MarkSame w (w1.putObj k.1 (.loop { L1 with state:=.busy })):=p4.trans t2;refine snd2 (some k.1) (fun e=>by cases e) E hI w H1 β1 a1 _ _ ⟨⟨by rw[wq];exact t1,p3.1.slot,p3.1.size⟩,p3.2.1.keep t2,hm2⟩ fun a2 w3 hp2=>?_;obtain⟨H3,β3,r1,r2,r3,r4⟩:=hp2;have hk3:β3 g 0=some k:=r2 _ _ _ hk1;obtain⟨k0,L3,v1,v2,v3,v4,v5,v6,v8,v9,v10,v11,v12⟩:=r3.1.sim.obj g _ hg2;rw[hk3] at v1;cases v1;refine⟨_,_,run_endRound none v4,?_⟩;have hlt3:=(Array.getElem?_eq_some_iff.1 v4).1;obtain⟨t3,t4⟩:=r3.1.sim.loopPut hg2 hk3 v4 (L':={ L3 with state:=if(none:Option Code).isNone then .ready else .done,pending:=none }) (o':=.loop false nt2 tm2 ps2 as2 bo2) rfl
              ⟨k,{ L3 with state:=if(none:Option Code).isNone then .ready else .done,pending:=none },hk3,v2,v3,vF hlt3,by simp,rfl,v8,v9,v10,v11,v12⟩
             refine⟨.bool true,H3,β3,rfl,p1.trans r1,p2.trans r2,by rw[wq];exact t3,(hm2.trans r4).trans t4,⟨rfl,VR.bool _⟩⟩
           . cases he
         . cases he
       . cases he
     . cases he
   . cases he
 . cases he
theorem TX{H:ah}{U:Bm}{v:Value}{f:FuncId}{gs:List Nat}{fo:ES}(hf:(fo=.w (.one (.iv (.fn f)))/\gs=[])\/fo=.w (.one (.clo f gs)))(hv:SRe X.Z H U v fo):∃cs:List Value,v=.func (.func f) #[] cs.toArray/\SREL X.Z H U cs (jY gs):=by
 rcases hf with⟨rfl,rfl⟩|rfl
 . exact⟨[],rT hv.2,ab⟩
 . obtain⟨h1,h2⟩:=hv;refine⟨_,h2,?_⟩;clear h2;induction gs with
   |nil=>trivial
   |cons g gs ih=>
    obtain⟨k,hk⟩:=h1 g (by simp);refine⟨⟨k,hk,?_⟩,ih fun g hg=>h1 g (by simp[hg])⟩;unfold gZ;rw[hk]
theorem Pd{F:FuncId->Option FnE}{orc:FuncId->List ES->Hs->Option (ES×Hs)}{ev:Bool->Nat->Code->Sg->Option (Exit×Sg)}(hF:∀f q,F f=some q->∃fn,FnOk X f q fn)(hev:sM X ev){nt:Nat}{g:Operand}{ps:Array Tmp}{assign body:Code}{s s':Sg}
 (he:Cu (X.ee F orc) ev nt (aj s.tm.sl g) ps.toList assign body s=some s'):Sound X false nt (.rangeFunc g ps assign body) s .normal s':=by
 unfold Cu at he;split at he
 . rename_i hgl;rw[bc,bc] at he;simp only at he;have key:∃f gs r hs' b' nt' tm' ps' as' bo',((aj s.tm.sl g=.w (.one (.iv (.fn f)))/\gs=[])\/aj s.tm.sl g=.w (.one (.clo f gs)))/\sq (X.ee F orc) ev f (.w (.one (.yld s.s.nx))::jY gs) ⟨s.s.h.set s.s.nx (.loop false nt s.tm ps.toList assign body),s.s.nx+1,s.s.nx::s.s.wl⟩=some (r,hs')/\
    hs'.h.get s.s.nx=some (.loop b' nt' tm' ps' as' bo')/\b'=false/\s'=⟨s.tm,hs'.put s.s.nx .hid⟩:=by
    split at he
    . rename_i r hs' hcall;split at he
      . rename_i nt' tm' ps' as' bo' hl;simp only[ae] at he;split at hcall
        . rename_i f gs hf;exact⟨f,gs,r,hs',_,nt',tm',ps',as',bo',.inr hf,hcall,hl,rfl,he.symm⟩
        . rename_i f hf;exact⟨f,[],r,hs',_,nt',tm',ps',as',bo',.inl ⟨hf,rfl⟩,hcall,hl,rfl,he.symm⟩
        . cases hcall
      . cases he
    . cases he
   obtain⟨f,gs,r,hs',b',nt',tm',ps',as',bo',hf,hcall,hl,rfl,rfl⟩:=key;obtain⟨l1,⟨⟨fn',hf1,hf2,hf3⟩,hcl⟩⟩:=HZ hF hev _ _ _ _ _ hcall;have l0:LogOk s.s ⟨s.s.h.set s.s.nx (.loop false nt s.tm ps.toList assign body),s.s.nx+1,s.s.nx::s.s.wl⟩:=LogOk.wr s.s [(s.s.nx,.loop false nt s.tm ps.toList assign body)] _;refine⟨(l0.trans l1).trans (LogOk.put _ _ _),fun ro hro E hI w0 H U a w Q hS hQ=>?_⟩;rw[hro rfl];refine wpIn_rangeFunc fun fn _=>?_
   let L:Loop:={ state:=.ready,pending:=none,fn,tmps:=a.tmps,params:=ps,assign,body,defers:=w.heap.size }
   let wd:World:=w.alloc (.deferred (some []))
   let w1:World:=wd.alloc (.loop L)
   have hbd:Below w.heap.size w wd:=(mr _ _).alloc (ak _) _;have hszd:wd.heap.size=w.heap.size+1:=by simp[wd]
   have S1:ESim X.Z E H U s.s.h.get wd:=hS.1.sim.grow hbd (fun b arr hb=>by
    obtain⟨t,fr,ht⟩:=hS.1.sim.has b arr hb;exact⟨t,fr,(hbd.block b (hS.1.sim.has.lt hb)).trans ht⟩) (HExt.refl _ _)
   have hnew:H wd.heap.size=none:=by
    cases hx:H wd.heap.size with
    |none=>rfl
    |some arr'=>have:=S1.has.lt hx;omega
   obtain⟨hb1,S2⟩:=S1.alloc hgl (b:=.loop L) (s:=0) (o:=.loop false nt s.tm ps.toList assign body) Nat.one_pos
    ⟨_,L,fI _ _ _ _,S1.lo _ (ak _),hnew,nD _ _,by simp[L],rfl,hS.1.size,rfl,rfl,rfl,fun t=>(hS.1.slot t).mono (HLe.refl _) (jI (S1.noB hgl 0))⟩
   have hbe:Below wd.heap.size wd w1:=(mr _ _).alloc (ak _) _;have hm1:MarkSame w w1:=(MarkSame.below hbd).trans (MarkSame.below hbe);have hD1:w1.heap[w.heap.size]?=some (.deferred (some [])) :=
    (Below.heap_alloc wd _ w.heap.size (by omega)).trans (Mj w _)
   obtain⟨cs,e1,hcs⟩:=TX hf (bn hS.1 g);have hyv:SRe X.Z H (kP U s.s.nx 0 (wd.heap.size,0)) (jM (w.heap.size+1)) (.w (.one (.yld s.s.nx))):=⟨_,fI _ _ _ _,by rw[hszd];rfl⟩;have eh:(⟨s.s.h.set s.s.nx (.loop false nt s.tm ps.toList assign body),s.s.nx+1,s.s.nx::s.s.wl⟩:Hs).h.get=aD s.s.h.get s.s.nx (some (.loop false nt s.tm ps.toList assign body)):=wq s.s s.s.nx _;have hc:=hcl E hI H _ w1 (jM (w.heap.size+1)::cs) (by rw[eh];exact S2) ⟨hyv,hcs.mono (HLe.refl _) hb1⟩;refine⟨w.heap.size+1,[{ target:=.collected w.heap.size,args := #[] }],w1,{ target:=.fn (.func f) cs.toArray,args := #[jM (w.heap.size+1)] },w1,f,(jM (w.heap.size+1)::cs).toArray,w1,?_,?_,fun _ _=>trivial,?_,fun e=>(by cases e),?_⟩
   . exact run_enterLoop_outer fn a.tmps ps assign body
   . simp only[resolve,rangeCall,e1,Deferred.ofValue,ay];simp[Act.eval,jM]
   . simp only[invoke,callFunc,av,tf,au,hf1,hf2,hf3,cM,bE,ay];congr 2;apply dZ;simp
   . refine Kt (hc.mono ?_);rintro e w3 ⟨v,H3,β3,rfl,c1,c2,c3,c4,c5⟩;have hk3:β3 s.s.nx 0=some (wd.heap.size,0):=c2 _ _ _ (fI _ _ _ _);obtain⟨k0,L3,v1,v2,v3,v4,v5,v6,v8,v9,v10,v11,v12⟩:=c3.obj _ _ hl;rw[hk3] at v1;cases v1;simp only[cM,bE] at v5;have v4':w3.heap[w.heap.size+1]?=some (.loop L3):=by rw[<-hszd];exact v4
     refine⟨L3.pending,_,run_endLoop v4' (by rw[v5];simp),?_⟩;have hpn:L3.pending=none:=by
      cases hx:L3.pending with
      |none=>rfl
      |some c=>rw[hx] at v6;cases v6
     rw[hpn];obtain⟨t1,t2⟩:=c3.loopPut hl hk3 v4 (L':={ L3 with state:=.exhausted }) (o':=.hid) rfl trivial;rw[hszd] at t1 t2;have hm4:MarkSame w (w3.putObj (w.heap.size+1) (.loop { L3 with state:=.exhausted })):=(hm1.trans c4).trans t2;have hb3:BLe U β3:=hb1.trans c2;refine hQ _ _ ⟨H3,β3,c1,hb3,⟨⟨by rw[wq];rw[hpn] at t1;exact t1,fun t=>(hS.1.slot t).mono c1 hb3,hS.1.size⟩,⟨?_,?_⟩,by rw[hpn] at hm4;exact hS.2.2.trans hm4⟩,by rw[hpn] at hm4;exact hm4⟩
     . refine List.pairwise_cons.2 ⟨fun d hd e=>?_,hS.2.1.1⟩;obtain⟨D,e',_,hb⟩:=hS.2.1.2 d hd;rw[<-e] at e';cases e';have:=(Array.getElem?_eq_some_iff.1 hb).1;omega
     . intro d hd;rcases List.mem_cons.1 hd with rfl|hd
       . refine⟨_,rfl,⟨hS.1.sim.lo _ (ak _),fun e=>?_⟩,?_⟩
         . have:=hS.2.2 _ e;rw[e] at this;have:=(Array.getElem?_eq_some_iff.1 this).1;omega
         . refine(cl (by omega)).trans ?_;rw[c4 _ hD1];exact hD1
       . rw[hpn] at hm4;exact(hS.2.1.keep hm4).2 d hd
 . cases he
theorem Qi{F:FuncId->Option FnE}{orc:FuncId->List ES->Hs->Option (ES×Hs)}{ev:Bool->Nat->Code->Sg->Option (Exit×Sg)}(hF:∀f q,F f=some q->∃fn,FnOk X f q fn)(horc:iH X orc)(hev:sM X ev):sM X (C4 (X.ee F orc) ev):=by
 intro rd nt c s e s' he;unfold C4 at he;split at he
 . simp only[ae,aA] at he;obtain⟨rfl,rfl⟩:=he;exact⟨⟨LogOk.refl _,fun ro hro E hI w0 H U a w Q hS hQ=>D9 (hQ a w (EPost.refl hS))⟩,fun b hb=>by cases hb⟩
 . simp only[ae,aA] at he;obtain⟨rfl,rfl⟩:=he;exact⟨⟨LogOk.refl _,fun ro hro E hI w0 H U a w Q hS hQ=>wpIn_label (hQ a w (EPost.refl hS))⟩,fun b hb=>by cases hb⟩
 . simp only[ae,aA] at he;obtain⟨rfl,rfl⟩:=he;exact⟨⟨LogOk.refl _,fun ro hro E hI w0 H U a w Q hS hQ=>wpIn_ret (hQ a w (EPost.refl hS))⟩,fun b hb=>by cases hb⟩
 . simp only[ae,aA] at he;obtain⟨rfl,rfl⟩:=he;exact⟨⟨LogOk.refl _,fun ro hro E hI w0 H U a w Q hS hQ=>Ea (hQ a w (EPost.refl hS))⟩,fun b hb=>by cases hb⟩
 . refine⟨?_,fun b hb=>by cases hb⟩;split at he
   . rename_i s1 h1;exact(hev _ _ _ _ _ _ h1).1.seq (hev _ _ _ _ _ _ he).1
   . rename_i hn;refine XK (hev _ _ _ _ _ _ he).1 fun e'=>?_;subst e';exact hn _ he
 . refine⟨?_,fun b hb=>by cases hb⟩;split at he
   . rename_i hc;exact Sound.cond hc (hev _ _ _ _ _ _ he).1
   . rename_i hc;exact Sound.cond hc (hev _ _ _ _ _ _ he).1
   . cases he
 . refine⟨?_,fun b hb=>by cases hb⟩;rename_i id b;split at he
   . rename_i i s1 h1;have hs:=(hev _ _ _ _ _ _ h1).1.block (id:=id);simp only at hs;cases hb:Nat.beq i id with
     |true=>
      rw[hb] at he hs;simp only[ai,ae,aA] at he hs;obtain⟨rfl,rfl⟩:=he;exact hs
     |false=>
      rw[hb] at he hs;simp only[aW,ae,aA] at he hs;obtain⟨rfl,rfl⟩:=he;exact hs
   . rename_i hn;have hs:=(hev _ _ _ _ _ _ he).1.block (id:=id);cases e with
     |exit i=>exact absurd he (hn i s')
     |_=>exact hs
 . rename_i b;have key:LogOk s.s s'.s/\LoopS X rd nt b s e s':=by
    split at he
    . rename_i s1 h1;have a1:=(hev _ _ _ _ _ _ h1).1;have a2:=hev _ _ _ _ _ _ he;exact⟨a1.1.trans a2.1.1,OT a1 (a2.2 b rfl)⟩
    . rename_i hn;have a1:=(hev _ _ _ _ _ _ he).1;exact⟨a1.1,P4 a1 fun e'=>by subst e';exact hn _ he⟩
   exact⟨Ny key.1 key.2,fun b' hb=>by cases hb;exact key.2⟩
 . refine⟨?_,fun b hb=>by cases hb⟩;split at he
   . rename_i s1 h1;simp only[ae,aA] at he;obtain⟨rfl,rfl⟩:=he;exact Q2 horc (HZ hF hev) (O1 hev) h1
   . cases he
 . refine⟨?_,fun b hb=>by cases hb⟩;split at he
   . split at he
     . rename_i s1 h1;simp only[ae,aA] at he;obtain⟨rfl,rfl⟩:=he;exact Pd hF hev h1
     . cases he
   . cases he
 . cases he
theorem U6{F:FuncId->Option FnE}{orc:FuncId->List ES->Hs->Option (ES×Hs)}(hF:∀f q,F f=some q->∃fn,FnOk X f q fn)(horc:iH X orc):∀n,sM X (y6 (X.ee F orc) n):=by
 intro n;induction n with
 |zero=>intro rd nt c s e s' he;cases he
 |succ n ih=>exact Qi hF horc ih
end
def kG{α:Type _}:List α->Bool
 | []=>true
 |_=>false
def eW(seen:List Nat):List (EW×EW×Nat)->List (EW×EW×Nat)
 | []=>[]
 |e::l=>bif bL e.2.2 seen then eW seen l else e::eW seen l
def l9(n:Nat):List (EW×EW×Nat)->Bool
 | []=>true
 |e::l=>Nat.blt e.2.2 n&&l9 n l
def l7(n:Nat):List (EW×EW×Nat)->Bool
 | []=>false
 |e::l=>Nat.blt e.2.2 n||l7 n l
def yn(h:Hp)(x:ES):Option (List (ES×Wr)) :=
 match x with
 | .w (.one (.ptr gi 0 0))=>match h gi with
  |some (.iter gm since seen last _)=>match h gm with
   |some (.map es ck)=>
    bif l9 since es&&(kG seen||(kG es||l7 last es)) then
     (match eW seen es with
     | []=>some [(.tup [.one (.iv (.bool false))],[])]
     |l=>some (l.map fun e=>(.tup [.one (.iv (.bool true)),e.1,e.2.1],[(gi,.iter gm since (e.2.2::seen) ck (some e.2.2))])))
    else none
   |_=>none
  |_=>none
 |_=>none
section
variable {X:EX}{E:EEnv}{nt:Nat}{H:ah}{U:Bm}{tm:Nat->ES}{h:Hp}{a:Act}{w:World}{o:Oper}
theorem F3{n:Nat}:∀{es:List (EW×EW×Nat)},l9 n es=true->∀e∈es,e.2.2<n
 | [],_,e,he=>by cases he
 |x::l,h,e,he=>by
  simp only[l9,aC] at h;rcases List.mem_cons.1 he with rfl|he
  . have:=h.1;rwa[cR] at this
  . exact F3 h.2 e he
theorem F2{n:Nat}:∀{es:List (EW×EW×Nat)},l7 n es=true->∃e∈es,e.2.2<n
 | [],h=>by cases h
 |x::l,h=>by
  simp only[l7,fO] at h;rcases h with h|h
  . rw[cR] at h;exact⟨x,by simp,h⟩
  . obtain⟨e,h1,h2⟩:=F2 h;exact⟨e,by simp[h1],h2⟩
theorem wy{seen:List Nat}{e:EW×EW×Nat}:∀{es:List (EW×EW×Nat)},e∈eW seen es↔e∈es/\e.2.2∉seen
 | []=>by simp[eW]
 |x::l=>by
  unfold eW;cases hm:bL x.2.2 seen with
  |true=>
   have:=ji.1 hm;rw[ai,wy (es:=l),eT];refine⟨fun h=>⟨.inr h.1,h.2⟩,fun h=>⟨h.1.resolve_left fun e'=>?_,h.2⟩⟩;subst e';exact h.2 this
  |false=>
   have:x.2.2∉seen:=fun h'=>by rw[ji.2 h'] at hm;cases hm
   rw[aW,eT,wy (es:=l),eT];refine⟨?_,?_⟩
   . rintro(rfl|h)
     . exact⟨.inl rfl,this⟩
     . exact⟨.inr h.1,h.2⟩
   . rintro⟨rfl|h,h2⟩
     . exact .inl rfl
     . exact .inr ⟨h,h2⟩
theorem MRL.mem{Z:QS}:∀{vs:List MapEntry} {xs:List (EW×EW×Nat)},MRL Z H U vs xs->(∀e∈vs,∃x∈xs,MR Z H U e x)/\∀x∈xs,∃e∈vs,MR Z H U e x
 | [],[],_=>⟨fun e he=>(by cases he),fun e he=>(by cases he)⟩
 |e::es,x::xs,⟨h1,h2⟩=>by
  obtain⟨i1,i2⟩:=MRL.mem h2;refine⟨fun e' he'=>?_,fun x' hx'=>?_⟩
  . rcases List.mem_cons.1 he' with rfl|he'
    . exact⟨x,by simp,h1⟩
    . obtain⟨x',a,b⟩:=i1 e' he';exact⟨x',by simp[a],b⟩
  . rcases List.mem_cons.1 hx' with rfl|hx'
    . exact⟨e,by simp,h1⟩
    . obtain⟨e',a,b⟩:=i2 x' hx';exact⟨e',by simp[a],b⟩
 | [],_::_,h=>h.elim
 |_::_,[],h=>h.elim
theorem Qn{P:Program}{w:World}{k m:Nat}{sp:Option Nat}{since last ck t:Nat}{sn:Array Nat}{ents:Array MapEntry}(hk:w.heap[k]?=some (.mapIter (some m) since sn last))(hm:w.heap[m]?=some (.map ents ck))
 (hc:(!sn.isEmpty && !ents.isEmpty&&ents.all (·.born>=last))=false) (hlt:∀e∈ents.toList,e.born<since) :
 ((ents.filter fun e=>!sn.contains e.born).toList=[]/\(Instr.next (.pointer (some ⟨k,0,sp⟩)) false t).run P w=.ok (.tuple #[.bool false]) w)\/
 ∃e w1,e∈(ents.filter fun e=>!sn.contains e.born).toList/\(w1=w\/w1=w.drew)/\(Instr.next (.pointer (some ⟨k,0,sp⟩)) false t).run P w=.ok (.tuple #[.bool true,e.key,e.val]) (w1.putObj k (.mapIter (some m) since (sn.push e.born) ck)):=by
 have g1:(getObj k).run P w=.ok (.mapIter (some m) since sn last) w:=by simp[getObj,Sem.run,hk]
 have g2:(getObj m).run P w=.ok (.map ents ck) w:=Xr hm;obtain⟨left,hleft⟩:∃left,ents.filter (fun e=>!sn.contains e.born)=left:=⟨_,rfl⟩;have hin:∀e∈left,e.born<since:=fun e he=>by
  rw[<-hleft] at he;exact hlt e (by simpa using(Array.mem_filter.1 he).1)
 have ho:left.filter (·.born<since)=left:=by
  apply Array.filter_eq_self.2;intro e he;simpa using hin e he
 have hn:left.filter (·.born>=since) = #[]:=by
  apply Array.filter_eq_empty_iff.2;intro e he;have:=hin e he;simp;omega
 rw[hleft];by_cases he:left.toList=[]
 . left;refine⟨he,?_⟩;have he':left = #[]:=by cases left;simp at he;subst he;rfl
   unfold Instr.next;simp only[av,g1,au,g2,hc,cM,bE,ay,hleft,he'];simp[run_choose_drew,Question.forced]
 . right;have he':left.isEmpty=false:=by
    cases hl:left.isEmpty with
    |false=>rfl
    |true=>rw[Array.isEmpty_iff] at hl;subst hl;exact absurd rfl he
   have hcand:(if left.isEmpty then #[none] else #[])++(left ++ #[]).map some=left.map some:=by
    rw[he'];simp
   have hch:∃i w1,(choose (.mapNext (left.map some).size)).run P w=.ok i w1/\(w1=w\/w1=w.drew)/\i<left.size:=by
    have hpos:0<left.size:=by
     cases left with
     |mk l=>cases l with
      |nil=>exact absurd rfl he
      |cons=>simp
    rw[run_choose_drew];by_cases hf:(Question.mapNext (left.map some).size).forced=true
    . rw[ar hf];exact⟨0,w,rfl,.inl rfl,hpos⟩
    . rw[al hf];refine⟨_,_,rfl,.inr rfl,?_⟩;show _%_<_;rw[Array.size_map];exact gh _ hpos
   obtain⟨i,w1,hch,hw1,hi⟩:=hch;refine⟨left[i],w1,by simp,hw1,?_⟩;have hh:w1.heap=w.heap:=by rcases hw1 with rfl|rfl<;>rfl
   have gi:(left.map some)[i]?=some (some left[i]):=by simp[hi]
   have hset:(setObj k (.mapIter (some m) since (sn.push left[i].born) ck)).run P w1=.ok () (w1.putObj k (.mapIter (some m) since (sn.push left[i].born) ck)):=by
    have:w1.heap[k]?=some (.mapIter (some m) since sn last):=by rw[hh];exact hk
    simp[setObj,Sem.run,this,World.putObj]
   unfold Instr.next;simp only[av,g1,au,g2,hc,cM,bE,ay,hleft,ho,hn,hcand,hch,gi,hset]
theorem QG(hS:ESt X E nt H U tm h a w){x:Operand}(ho:o.op=.next x false){outs:List (ES×Wr)}(he:yn h (aj tm x)=some outs):∃p∈outs,OpOk X E H U h a w o p.1 p.2:=by
 have hx:=bn hS x;unfold yn at he;split at he
 . rename_i gi hxe;rw[hxe] at hx;obtain⟨ki,hki,hxv⟩:=hx;split at he
   . rename_i gm since seen last cur hgi;obtain⟨ki',km,sn,p1,p2,p3,p4,p5,p6,p7⟩:=hS.sim.obj gi _ hgi;rw[hki] at p1;cases p1;split at he
     . rename_i es ck hgm;obtain⟨km',ents,q1,q2,q3,q4,q5⟩:=hS.sim.obj gm _ hgm;rw[p2] at q1;cases q1;cases hb:(l9 since es&&(kG seen||(kG es||l7 last es))) with
       |false=>rw[hb] at he;cases he
       |true=>
        rw[hb] at he;simp only[ai] at he;simp only[aC,fO] at hb;obtain⟨b1,b2⟩:=hb;obtain⟨m1,m2⟩:=q5.mem;have hlt:∀e∈ents.toList,e.born<since:=fun e he=>by
         obtain⟨y,hy,hm⟩:=m1 e he;rw[hm.2.2];exact F3 b1 y hy
        have hc:(!sn.isEmpty && !ents.isEmpty&&ents.all (·.born>=last))=false:=by
         rcases b2 with b2|b2|b2
         . cases seen with
           |cons=>cases b2
           |nil=>
            have:sn = #[]:=by
             cases sn with
             |mk l=>cases l with
              |nil=>rfl
              |cons c l=>have:=(p6 c).1 (by simp);cases this
            subst this;rfl
         . cases es with
           |cons=>cases b2
           |nil=>
            have:ents = #[]:=by
             cases ents with
             |mk l=>cases l with
              |nil=>rfl
              |cons c l=>exact q5.elim
            subst this;simp
         . obtain⟨y,hy,hyl⟩:=F2 b2;obtain⟨e,he,hm⟩:=m2 y hy;have:ents.all (·.born>=last)=false:=by
            rw[Array.all_eq_false];obtain⟨i,hi,rfl⟩:=List.mem_iff_getElem.1 he;exact⟨i,by simpa using hi,by have:=hm.2.2;simp at this ⊢;omega⟩
           rw[this];simp
        have hrun:∀v w',(Instr.next (a.eval x) false o.type).run X.P w=.ok v w'->(execOp a.eval o).run X.P w=.ok (.value v) w':=fun v w' hr=>by
         simp only[execOp,ho,av,hr,au,ay]
        have hrn:=Qn (P:=X.P) (sp:=none) (t:=o.type) p5 q4 hc hlt;rw[<-hxv] at hrn;have hfilt:∀e,e∈(ents.filter fun e=>!sn.contains e.born).toList↔e∈ents.toList/\e.born∉seen:=fun e=>by
         rw[Array.toList_filter,List.mem_filter];have:(!sn.contains e.born)=true↔e.born∉seen:=by
          rw[<-p6 e.born];simp
         rw[this]
        rcases hrn with⟨r1,r2⟩|⟨e,w1,r1,r2,r3⟩
        . have hl:eW seen es=[]:=by
           cases hl:eW seen es with
           |nil=>rfl
           |cons y l=>
            have hy:y∈eW seen es:=by rw[hl];simp
            obtain⟨y1,y2⟩:=wy.1 hy;obtain⟨e,e1,e2⟩:=m2 y y1;have:=(hfilt e).2 ⟨e1,by rw[e2.2.2];exact y2⟩;rw[r1] at this;cases this
          rw[hl] at he;simp only[ae] at he;subst he;refine⟨_,List.mem_singleton.2 rfl,OpOk.pure hS (hrun _ _ r2) ⟨[.bool false],rfl,⟨rfl,VR.bool _⟩,ab⟩⟩
        . obtain⟨e1,e2⟩:=(hfilt e).1 r1;obtain⟨y,y1,y2⟩:=m1 e e1;have hy:y∈eW seen es:=wy.2 ⟨y1,by rw[<-y2.2.2];exact e2⟩;have hh:w1.heap=w.heap:=by rcases r2 with rfl|rfl<;>rfl
          have hne:∀l:List (EW×EW×Nat),eW seen es=l->(match l with
           | []=>some [((.tup [.one (.iv (.bool false))],[]):ES×Wr)]
           |l=>some (l.map fun e=>(.tup [.one (.iv (.bool true)),e.1,e.2.1],[(gi,.iter gm since (e.2.2::seen) ck (some e.2.2))])))=some outs->(ES.tup [.one (.iv (.bool true)),y.1,y.2.1],[(gi,EO.iter gm since (y.2.2::seen) ck (some y.2.2))])∈outs:=fun l hl he=>by
           cases l with
           |nil=>rw[hl] at hy;cases hy
           |cons z l=>
            simp only[ae] at he;subst he;rw[hl] at hy;exact List.mem_map.2 ⟨y,hy,rfl⟩
          refine⟨_,hne _ rfl he,.tuple #[.bool true,e.key,e.val],_,U,.inl (hrun _ _ r3),BLe.refl _,?_,?_,⟨[.bool true,e.key,e.val],rfl,⟨rfl,VR.bool _⟩,y2.1,y2.2.1,ab⟩⟩
          . have hsize:w1.heap.size=w.heap.size:=by rw[hh]
            have hklt:ki.1<w1.heap.size:=by rw[hsize];exact(Array.getElem?_eq_some_iff.1 p5).1
            have hos:w1.os=w.os/\w1.tape=w.tape/\w1.output=w.output:=by rcases r2 with rfl|rfl<;>exact⟨rfl,rfl,rfl⟩
            refine hS.sim.turn (by rw[hgi];simp) hos.1 hos.2.1 hos.2.2 (by simp[hsize]) (fun k' _ hk'=>(cl (fun e=>hk' 0 ki hki e.symm)).trans (by rw[hh])) (fun u s hs=>?_) (BLe.refl _) (fun _ _ _=>rfl) (fun u k' hk'=>?_) ⟨ki,km,sn.push e.born,hki,p2,p3,p4,vF hklt,fun b=>?_,fun b hb=>?_⟩
            . obtain⟨_,_,o2,ho2,hc⟩:=hS.sim.domN hgi (by simp) u s hs;rw[hgi] at ho2;cases ho2;have:u=0:=by simp only[EO.cnt] at hc;omega
              subst this;rw[hki] at hs;cases hs;exact p4
            . obtain⟨a1,b1,o2,ho2,hc⟩:=hS.sim.domN hgi (by simp) u k' hk';rw[hgi] at ho2;cases ho2;exact⟨hc,by simpa[hsize] using a1,b1,.inl ⟨u,k',hk',rfl⟩⟩
            . rw[Array.toList_push,vn,fQ,p6 b,eT,y2.2.2];exact Or.comm
            . simp only[ae] at hb;subst hb;simp[y2.2.2]
          . intro D hD;refine(cl (fun e'=>?_)).trans (by rw[hh]);subst e';rw[p5] at hD;cases hD
     . cases he
   . cases he
 . cases he
end
def qG:IV->Bool
 | .tup xs=>xs.all fun x=>!x.isTup
 |_=>true
def jn(xs:List IV):Bool:=xs.all fun x=>!x.isTup
section
variable {X:EX}{H:ah}{U:Bm}
theorem Ks:∀{vs:List Value} {xs:List IV},VRL H vs xs->(xs.all fun x=>!x.isTup)=true->WRL X.Z H U vs (xs.map dW)
 |_,_,.nil,_=>trivial
 |_,_,.cons v x vs xs h t,ha=>by
  simp only[ed,aC,eF] at ha;exact⟨KW h ha.1,Ks t ha.2⟩
theorem Vd{v:Value}{x:IV}(h:VR H v x)(ht:qG x=true):SRe X.Z H U v (dS x):=by
 cases hx:x.isTup with
 |false=>exact yu h hx
 |true=>
  cases x<;>first|(simp[IV.isTup] at hx;done)|skip
  rename_i xs;obtain⟨vs,rfl,h1⟩:=h.asTup;exact⟨vs,rfl,Ks h1 ht⟩
theorem ui{Z:QS}:∀{vs:List Value} {cs:List IV},CRL Z H U vs (cs.map .iv)->VRL H vs cs/\∀u∈vs,u.oneCell'=true
 | [],[],_=>⟨.nil,by simp⟩
 |v::vs,c::cs,⟨h1,h2⟩=>by
  obtain⟨i1,i2⟩:=ui (vs:=vs) (cs:=cs) h2;refine⟨.cons _ _ _ _ h1.2 i1,fun u hu=>?_⟩;rcases List.mem_cons.1 hu with rfl|hu
  . exact h1.1
  . exact i2 u hu
 | [],_::_,h=>h.elim
 |_::_,[],h=>h.elim
theorem Ck{Z:QS}{v:Value}{x:IV}(h:SRe Z H U v (dS x))(ht:x.isTup=false):VR H v x:=by
 cases x<;>first|(simp[IV.isTup] at ht;done)|exact h.2|skip
 rename_i cs;obtain⟨vs,rfl,h1⟩:=h;obtain⟨h2,h3⟩:=ui h1;exact .agg vs cs h2 h3
theorem SREL.data{Z:QS}:∀{vs:List Value} {xs:List IV},jn xs=true->SREL Z H U vs (xs.map dS)->VRL H vs xs
 | [],[],_,_=>.nil
 |v::vs,x::xs,hn,⟨h1,h2⟩=>by
  simp only[jn,ed,aC,eF] at hn;exact .cons _ _ _ _ (Ck h1 hn.1) (SREL.data hn.2 h2)
 | [],_::_,_,h=>h.elim
 |_::_,[],_,h=>h.elim
end
def eX(X:EX)(nx:Nat)(f:FuncId)(args:List ES)(h:Hp)(K:ES->Wr->Nat->Option (List Nat)->Prop):Prop :=
 (∃xs r,aY X.P X.I f xs r/\args=xs.map dS/\jn xs=true/\qG r=true/\K (dS r) [] 0 (some []))\/
 (∃r ws b,CallOk X f args h r (a7 h ws)/\(∀p∈ws,p.1<nx+b\/h p.1≠none)/\K r ws b none)\/
 ∃r ws b l,CallOk X f args h r (a7 h ws)/\CallOk X f args (cO (fun g=>bL g l) h) r (a7 (cO (fun g=>bL g l) h) ws)/\(∀p∈ws,(p.1<nx+b\/h p.1≠none)/\p.1∈l)/\K r ws b (some l)
def gU:Op->List Operand
 | .load _ x | .slice _ x _ _ _ | .range _ x=>[x]
 | .store _ x _=>[x]
 | .lookup _ x _ _=>[x]
 | .mapUpdate _ x _ _ | .insert _ x _ _=>[x]
 | .call { callee:=.builtin _,args,argTypes:=_ }=>args.toList
 |_=>[]
def bU(o:Op)(V:Operand->ES):List Nat:=(gU o).flatMap fun x=>bT (V x)
def kU(o:Op)(V:Operand->ES)(g:Nat):List Nat:=g::bU o V
def pL:Op->Bool
 | .range _ _=>true
 |o=>KM o
def yP(v:Option ES)(d:Nat)(K:Nat->Prop):Prop :=
 match v with
 |none=>K d
 |some (.w (.one (.iv (.int _ n))))=>∃m:Nat,n=(m:Int)/\K m
 |_=>False
def yE:ES->Option Nat
 | .w (.one (.slc _ _ _ n _))=>some n
 | .w (.one (.iv (.sl es)))=>some es.length
 | .w (.one (.iv (.str l)))=>some l.length
 | .w (.one (.iv (.nil 3)))=>some 0
 |_=>none
def xK(X:EX)(nx:Nat)(o:Op)(tm:Nat->ES)(h:Hp)(K:ES->Wr->Nat->Option (List Nat)->Prop):Prop :=
 match eOp X.Z X.B o (aj tm) h nx with
 |some (r,ws)=>kE r fun r=>match pL o with
  |true=>K r ws 1 (some (kU o (aj tm) nx))
  |false=>K r ws 0 (some (bU o (aj tm)))
 |none=>False
def oI(X:EX)(nx:Nat)(o:Op)(tm:Nat->ES)(h:Hp)(K:ES->Wr->Nat->Option (List Nat)->Prop):Prop :=
 match o with
 | .move x | .assign x=>kE (aj tm x) fun r=>K r [] 0 (some (bU o (aj tm)))
 | .pick c a b=>match aj tm c with
  | .w (.one (.iv (.bool c)))=>∃r,(c=true->aj tm a=r)/\(c=false->aj tm b=r)/\K r [] 0 (some (bU o (aj tm)))
  |_=>False
 | .alloc t=>match X.B.zw t with
  |some z=>K (.w (.one (.ptr nx 0 0))) [(nx,.mem t (z.cells X.Z) false [(0,(z.cells X.Z).length)] 1)] 1 (some (kU o (aj tm) nx))
  |none=>False
 | .box t x=>match aj tm x with
  | .w y=>K (.w (.one (.ptr nx 0 0))) [(nx,.mem t (y.cells X.Z) false [(0,(y.cells X.Z).length)] 1)] 1 (some (kU o (aj tm) nx))
  |_=>False
 | .binOp op t x y _=>match aj tm x,aj tm y with
  | .w (.one (.iv (.int k a))),.w (.one (.iv (.int k' b)))=>k=k'/\lU op k a b fun r=>K (ac r) [] 0 (some (bU o (aj tm)))
  | .w (.one (.iv (.str a))),.w (.one (.iv (.str b)))=>a.length+b.length<=1000000/\lP op a b fun r=>K (ac r) [] 0 (some (bU o (aj tm)))
  |_,_=>xK X nx o tm h K
 | .unOp op _ x=>match op,aj tm x with
  | .not,.w (.one (.iv (.bool a)))=>∃c,(!a)=c/\K (ac (.bool c)) [] 0 (some (bU o (aj tm)))
  | .neg,.w (.one (.iv (.int k a)))=>∃n,k.wrap (0-a)=n/\K (ac (.int k n)) [] 0 (some (bU o (aj tm)))
  |_,_=>False
 | .convert s d x=>match X.B.T s,X.B.T d,aj tm x with
  |some ts,some td,.w (.one (.iv (.int _ a)))=>match ts.sh,td.sh with
   | .int _,.int k=>∃n,k.wrap a=n/\K (ac (.int k n)) [] 0 (some (bU o (aj tm)))
   |_,_=>False
  |_,_,_=>False
 | .load t x=>match X.B.T t with
  |some ty=>match aj tm x with
   | .w (.one (.dp y off))=>match iV ty.sh.agg ty.size y off with
    |some r=>match r.isTup with
     |false=>K (dS r) [] 0 (some (bU o (aj tm)))
     |true=>False
    |none=>False
   | .w (.one (.ptr g u off))=>∃cs,gf (h g) u off ty.size=some cs/\(match mkV X.Z ty.sh.agg cs with
    |some r=>kE (.w r) fun r=>K r [] 0 (some (bU o (aj tm)))
    |none=>False)
   |_=>False
  |none=>False
 | .store t x y=>match X.B.T t,aj tm x,aj tm y with
  |some ty,.w (.one (.ptr g u off)),.w z=>bif Nat.beq (z.cells X.Z).length ty.size then(∃o',ge (h g) u off (z.cells X.Z)=some o'/\K .und [(g,o')] 0 (some (bU o (aj tm)))) else False
  |_,_,_=>False
 | .makeSlice t l c=>match X.B.T t,aj tm l,aj tm c with
  |some ty,.w (.one (.iv (.int _ a))),.w (.one (.iv (.int _ b)))=>match ty.sh with
   | .slice e=>match X.B.T e,X.B.ze X.Z e with
    |some te,some zs=>bif Nat.blt 0 te.size&&Nat.beq zs.length te.size then(a=b/\∃m:Nat,a=(m:Int)/\te.bytes*m<=281474976710656/\m<=1000000/\
     K (.w (.one (.slc nx 0 0 m (.ex m)))) [(nx,.mem e (fX zs m) false [(0,(fX zs m).length)] 1)] 1 (some (kU o (aj tm) nx))) else False
    |_,_=>False
   |_=>False
  |_,_,_=>False
 | .slice t x lo hi mx=>match X.B.T t with
  |some ty=>match ty.sh,aj tm x with
   | .slice e,.w (.one (.iv (.sl es)))=>match X.B.T e,mx with
    |some te,none=>yP (hi.map (aj tm)) es.length fun u=>yP (lo.map (aj tm)) 0 fun l=>l<=u/\u<=es.length/\(l=0\/dT te.size es=true)/\K (ac (.sl ((es.take u).drop l))) [] 0 (some (bU o (aj tm)))
    |_,_=>False
   | .slice e,.w (.one (.slc g u off n cap))=>∃r,ij X.B.T h t (aj tm x) (lo.map (aj tm)) (hi.map (aj tm)) (mx.map (aj tm))=some (r,[])/\kE r fun r=>K r [] 0 (some (bU o (aj tm)))
   | .array n e,.w (.one (.ptr g u off))=>match X.B.T e,lo,hi,mx with
    |some _,none,none,none=>K (.w (.one (.slc g u off n (.ex n)))) [] 0 (some (bU o (aj tm)))
    |_,_,_,_=>False
   |_,_=>False
  |none=>False
 | .fieldAddr s x j=>match X.B.T s with
  |some ty=>match ty.sh,ty.fields[j]? with
   | .struct,some (fo,_,sz)=>bif Nat.blt 0 sz then(match aj tm x with
    | .w (.one (.ptr g u off))=>∃o',off+fo=o'/\K (.w (.one (.ptr g u o'))) [] 0 (some (bU o (aj tm)))
    | .w (.one (.dp y off))=>K (.w (.one (.dp y (off+fo)))) [] 0 (some (bU o (aj tm)))
    |_=>False) else False
   |_,_=>False
  |none=>False
 | .indexAddr t x ix=>match X.B.T t with
  |some ty=>match ty.sh,aj tm x,aj tm ix with
   | .slice e,.w (.one (.iv (.sl es))),.w (.one (.iv (.int _ a)))=>match X.B.T e with
    |some te=>∃(j:Nat) (y:IV),a=(j:Int)/\es[j]?=some y/\y.cells.length=te.size/\K (.w (.one (.dp y 0))) [] 0 (some (bU o (aj tm)))
    |none=>False
   | .slice e,.w (.one (.slc g u off n _)),.w (.one (.iv (.int _ a)))=>match X.B.T e with
    |some te=>∃j:Nat,a=(j:Int)/\j<n/\∃o',off+j*te.size=o'/\K (.w (.one (.ptr g u o'))) [] 0 (some (bU o (aj tm)))
    |none=>False
   | .array n e,.w (.one (.ptr g u off)),.w (.one (.iv (.int _ a)))=>match X.B.T e with
    |some te=>∃j:Nat,a=(j:Int)/\j<n/\∃o',off+j*te.size=o'/\K (.w (.one (.ptr g u o'))) [] 0 (some (bU o (aj tm)))
    |none=>False
   |_,_,_=>False
  |none=>False
 | .index t x ix=>match X.B.T t with
  |some ty=>match ty.sh,aj tm x,aj tm ix with
   | .array n e,.w (.agg cs),.w (.one (.iv (.int _ a)))=>match X.B.T e with
    |some te=>bif Nat.beq te.size 1 && !te.sh.agg then(∃(j:Nat) (c:EV),a=(j:Int)/\j<n/\cs[j]?=some c/\K (.w (.one c)) [] 0 (some (bU o (aj tm)))) else False
    |none=>False
   |_,_,_=>False
  |none=>False
 | .call { callee:=.builtin b,args,argTypes }=>match b,args.toList,argTypes.toList with
  | .len,[x],[t]=>match X.B.T t with
   |some ty=>match ty.sh,aj tm x,yE (aj tm x) with
    | .string,.w (.one (.iv (.str _))),some n=>∃m:Int,(n:Int)=m/\K (ac (.int .i64 m)) [] 0 (some (bU o (aj tm)))
    | .slice _,.w (.one (.iv (.sl _))),some n=>∃m:Int,(n:Int)=m/\K (ac (.int .i64 m)) [] 0 (some (bU o (aj tm)))
    | .slice _,.w (.one (.slc ..)),some n=>∃m:Int,(n:Int)=m/\K (ac (.int .i64 m)) [] 0 (some (bU o (aj tm)))
    | .slice _,.w (.one (.iv (.nil 3))),some _=>K (ac (.int .i64 0)) [] 0 (some (bU o (aj tm)))
    |_,_,_=>False
   |none=>False
  | .max,[x,y],_=>match aj tm x,aj tm y with
   | .w (.one (.iv (.int k a))),.w (.one (.iv (.int _ c)))=>∃n,(if c>a then c else a)=n/\K (ac (.int k n)) [] 0 (some (bU o (aj tm)))
   |_,_=>False
  | .min,[x,y],_=>match aj tm x,aj tm y with
   | .w (.one (.iv (.int k a))),.w (.one (.iv (.int _ c)))=>∃n,(if c<a then c else a)=n/\K (ac (.int k n)) [] 0 (some (bU o (aj tm)))
   |_,_=>False
  | .append,[s,x],[t,t']=>bif Nat.beq t t' then(∃g b r ws,jl X.B.T h g t (aj tm s) (aj tm x)=some (r,ws)/\g<nx+b/\K r ws b (some (kU o (aj tm) g))) else False
  | .copy,[d,x],[t,_]=>∃r ws,mY X.B.T h t (aj tm d) (aj tm x)=some (r,ws)/\K r ws 0 (some (bU o (aj tm)))
  | .clear,[d],[t]=>∃r ws,kH X.B.T (X.B.ze X.Z) h t (aj tm d)=some (r,ws)/\K r ws 0 (some (bU o (aj tm)))
  |_,_,_=>False
 | .lookup t x ix c=>∃r,lK X.B.mp X.B.zw h t (aj tm x) (aj tm ix) c=some (r,[])/\K r [] 0 (some (bU o (aj tm)))
 | .mapUpdate t m k v | .insert t m k v=>∃g o',jg X.B.mp h t (aj tm m) (aj tm k) (aj tm v)=some (.und,[(g,o')])/\K .und [(g,o')] 0 (some (bU o (aj tm)))
 | .range t x=>match X.B.mp t,aj tm x with
  |some _,.w (.one (.mp gm))=>∃es ck,h gm=some (.map es ck)/\K (.w (.one (.ptr nx 0 0))) [(nx,.iter gm ck [] ck none)] 1 (some (kU o (aj tm) nx))
  |_,_=>False
 | .call { callee:=.value fo,args,argTypes:=_ }=>match aj tm fo with
  | .w (.one (.iv (.fn f)))=>eX X nx f (args.toList.map (aj tm)) h K
  | .w (.one (.clo f gs))=>eX X nx f (args.toList.map (aj tm)++jY gs) h K
  |_=>False
 | .build _ _ | .buildSlice _ _ _ | .nilCheck _ | .makeFunc _ _ _ | .field _ _ _ | .extract _ _ | .makeMap _ _=>xK X nx o tm h K
 |_=>False
theorem RT{V:Operand->ES}{x:Operand}{g u off:Nat}(h:V x=.w (.one (.ptr g u off))):g∈bT (V x):=by rw[h];simp[bT]
theorem Fs{h h':Hp}{sz:Nat}{x:ES}(he:∀i∈bT x,h' i=h i):iI h' sz x=iI h sz x:=by
 unfold iI;split
 . rw[he _ (by simp[bT])]
 . rfl
 . rfl
 . rfl
theorem tL{h h':Hp}{g:Nat}{e:TypeId}{cs:List EV}{k:Nat->Nat->ES}(he:h' g=h g):gD h' g e cs k=gD h g e cs k:=by
 unfold gD;rw[he]
theorem N7{T:TypeId->Option TY}{Z:QS}{h h':Hp}{t:TypeId}{x:ES}(he:∀i∈bT x,h' i=h i):jq T Z h' t x=jq T Z h t x:=by
 unfold jq;split
 . rw[he _ (by simp[bT])]
 . rfl
 . rfl
theorem NJ{T:TypeId->Option TY}{Z:QS}{h h':Hp}{t:TypeId}{x y:ES}(he:∀i∈bT x,h' i=h i):n9 T Z h' t x y=n9 T Z h t x y:=by
 unfold n9;split
 . rw[he _ (by simp[bT])]
 . rfl
theorem NK{T:TypeId->Option TY}{h h':Hp}{t:TypeId}{x:ES}{lo hi mx:Option ES}(he:∀i∈bT x,h' i=h i):ij T h' t x lo hi mx=ij T h t x lo hi mx:=by
 unfold ij;split
 . split
   . rw[he _ (by simp[bT])]
   . rfl
   . rfl
   . rfl
 . rfl
theorem Nx{T:TypeId->Option TY}{h h':Hp}{g:Nat}{t:TypeId}{s x:ES}(hg:h' g=h g)(hs:∀i∈bT s,h' i=h i)(hx:∀i∈bT x,h' i=h i):jl T h' g t s x=jl T h g t s x:=by
 unfold jl;have hsr:∀sz,iI h' sz x=iI h sz x:=fun sz=>Fs hx;simp only[hsr];have hn:∀e cs k,gD h' g e cs k=gD h g e cs k:=fun e cs k=>tL hg;simp only[hn];by_cases hsl:∃g1 u1 off1 n1 cap,s=.w (.one (.slc g1 u1 off1 n1 cap))
 . obtain⟨g1,u1,off1,n1,cap,rfl⟩:=hsl;have e1:h' g1=h g1:=hs g1 (by simp[bT]);simp only[e1]
 . repeat' split
   all_goals first|rfl|exact absurd ⟨_,_,_,_,_,rfl⟩ hsl
theorem N8{T:TypeId->Option TY}{h h':Hp}{t:TypeId}{s x:ES}(hs:∀i∈bT s,h' i=h i)(hx:∀i∈bT x,h' i=h i):mY T h' t s x=mY T h t s x:=by
 unfold mY;have hsr:∀sz,iI h' sz x=iI h sz x:=fun sz=>Fs hx;simp only[hsr];split
 . split
   . split
     . split
       . rename_i news m g1 u1 off1 n1 cap _;have e1:h' g1=h g1:=hs g1 (by simp[bT]);simp only[e1]
       . rfl
     . rfl
   . rfl
 . rfl
theorem NM{T:TypeId->Option TY}{ze:TypeId->Option (List EV)}{h h':Hp}{t:TypeId}{s:ES}(hs:∀i∈bT s,h' i=h i):kH T ze h' t s=kH T ze h t s:=by
 unfold kH;split
 . split
   . split
     . split
       . rename_i g1 u1 off1 n1 cap;have e1:h' g1=h g1:=hs g1 (by simp[bT]);simp only[e1]
       . rfl
       . rfl
       . rfl
     . rfl
   . rfl
 . rfl
theorem Nw{mk:TypeId->Option (TypeId×TypeId×(KV->Bool))}{zw:TypeId->Option EW}{h h':Hp}{t:TypeId}{x ix:ES}{c:Bool}(hs:∀i∈bT x,h' i=h i):lK mk zw h' t x ix c=lK mk zw h t x ix c:=by
 unfold lK;split
 . rw[hs _ (by simp[bT])]
 . rfl
theorem EI{mk:TypeId->Option (TypeId×TypeId×(KV->Bool))}{h h':Hp}{t:TypeId}{x ix y:ES}(hs:∀i∈bT x,h' i=h i):jg mk h' t x ix y=jg mk h t x ix y:=by
 unfold jg;split
 . rw[hs _ (by simp[bT])]
 . rfl
theorem NL{mk:TypeId->Option (TypeId×TypeId×(KV->Bool))}{h h':Hp}{g:Nat}{t:TypeId}{x:ES}(hg:h' g=h g)(hs:∀i∈bT x,h' i=h i):oa mk h' g t x=oa mk h g t x:=by
 unfold oa;split
 . rw[hs _ (by simp[bT]),hg]
 . rfl
theorem Nq{T:TypeId->Option TY}{ze:TypeId->Option (List EV)}{h h':Hp}{g:Nat}{b:Builtin}{ats:List TypeId}{args:List ES}(hg:b=.append->h' g=h g)(hs:∀x∈args,∀i∈bT x,h' i=h i):fk T ze h' g b ats args=fk T ze h g b ats args:=by
 unfold fk;split
 . rfl
 . rfl
 . rfl
 . rw[Nx (hg rfl) (hs _ (by simp)) (hs _ (by simp))]
 . rw[N8 (hs _ (by simp)) (hs _ (by simp))]
 . rw[NM (hs _ (by simp))]
 . rfl
theorem PP{Z:QS}{B:Tab}{o:Op}{V:Operand->ES}{h h':Hp}{g:Nat}(hne:∀x,o≠ .entry x)(hg:pL o=true->h' g=h g)(hs:∀i∈bU o V,h' i=h i):eOp Z B o V h' g=eOp Z B o V h g:=by
 have hx:∀x∈gU o,∀i∈bT (V x),h' i=h i:=fun x hx i hi=>hs i (List.mem_flatMap.2 ⟨x,hx,hi⟩);unfold eOp;split
 . rfl
 . rfl
 . rfl
 . unfold r6;simp only[tL (hg rfl)]
 . unfold sG;simp only[tL (hg rfl)]
 . rfl
 . unfold tF;simp only[tL (hg rfl)]
 . exact N7 (hx _ (by simp[gU]))
 . exact NJ (hx _ (by simp[gU]))
 . rfl
 . rfl
 . rfl
 . rfl
 . rfl
 . unfold rm;simp only[tL (hg rfl)]
 . exact NK (hx _ (by simp[gU]))
 . rfl
 . rfl
 . rfl
 . rfl
 . rename_i b args ats;refine Nq (fun e=>?_) (fun x hx'=>?_)
   . subst e;exact hg rfl
   . obtain⟨y,hy,rfl⟩:=List.mem_map.1 hx';exact hx y (by simpa[gU] using hy)
 . unfold ub;rw[hg rfl]
 . exact Nw (hx _ (by simp[gU]))
 . exact EI (hx _ (by simp[gU]))
 . exact EI (hx _ (by simp[gU]))
 . exact NL (hg rfl) (hx _ (by simp[gU]))
 . rename_i x;exact absurd rfl (hne x)
 . rfl
 . rfl
def Wok(h:Hp)(g:Nat)(l:List Nat)(ws:Wr):Prop:=∀p∈ws,p.1=g\/(h p.1≠none/\p.1∈l)
theorem Wok.nil{h:Hp}{g:Nat}{l:List Nat}:Wok h g l []:=fun _ hp=>by cases hp
theorem Wok.one{h:Hp}{g g':Nat}{l:List Nat}{o:EO}(h1:h g'≠none)(h2:g'∈l):Wok h g l [(g',o)]:=fun p hp=>by
 simp only[fQ] at hp;subst hp;exact .inr ⟨h1,h2⟩
theorem t6{o:Option EO}{u off:Nat}{new:List EV}{o':EO}(h:ge o u off new=some o'):o≠none:=by
 intro e;subst e;simp[ge] at h
theorem A9{h:Hp}{g:Nat}{e:TypeId}{cs:List EV}{k:Nat->Nat->ES}{r:ES}{ws:Wr}{l:List Nat}(he:gD h g e cs k=some (r,ws)):Wok h g l ws:=by
 unfold gD at he;split at he
 . rw[cC,bc] at he;simp only[ae,aA] at he;obtain⟨_,rfl⟩:=he;intro p hp;simp only[fQ] at hp;subst hp;exact .inl rfl
 . cases he
theorem N9{T:TypeId->Option TY}{h:Hp}{g:Nat}{t:TypeId}{s x:ES}{r:ES}{ws:Wr}(he:jl T h g t s x=some (r,ws)):Wok h g (bT s) ws:=by
 unfold jl at he;split at he
 . split at he
   . split at he
     . rename_i te _;cases hb:(Nat.blt 0 te.size&&Nat.beq te.zero.cells.length te.size) with
       |false=>rw[hb] at he;cases he
       |true=>
        rw[hb] at he;simp only[ai] at he;split at he
        . rename_i news m _;split at he
          . cases h1:Nat.beq m 0 with
            |true=>rw[h1] at he;simp only[ai,ae,aA] at he;rw[<-he.2];exact Wok.nil
            |false=>
             rw[h1] at he;simp only[aW] at he;generalize (Nat.ble m 1000000&&Nat.ble (m*te.bytes) 140737488355328)=b2 at he;cases b2 with
             |false=>cases he
             |true=>simp only[ai] at he;exact A9 he
          . rename_i g1 u1 off1 n1 cap;cases h1:Nat.beq m 0 with
            |true=>rw[h1] at he;simp only[ai,ae,aA] at he;rw[<-he.2];exact Wok.nil
            |false=>
             rw[h1] at he;simp only[aW] at he;generalize (Nat.ble (n1+m) 1000000&&Nat.ble ((n1+m)*te.bytes) 140737488355328)=b2 at he;cases b2 with
             |false=>cases he
             |true=>
              simp only[ai] at he;split at he
              . rename_i c;generalize Nat.ble (n1+m) c=b3 at he;cases b3 with
                |true=>
                 simp only[ai] at he;split at he
                 . rename_i o hw;rw[bc] at he;simp only[ae,aA] at he;rw[<-he.2];exact Wok.one (t6 hw) (by simp[bT])
                 . cases he
                |false=>
                 simp only[aW] at he;split at he
                 . exact A9 he
                 . cases he
              . rename_i sz;split at he
                . rename_i e1 cs vs cnt hg1;generalize (Nat.beq sz te.size&&Nat.beq e1 _&&Nat.beq off1 0)=b3 at he;cases b3 with
                  |false=>cases he
                  |true=>
                   simp only[ai] at he;split at he
                   . rename_i p hv;generalize Nat.ble ((n1+m)*te.size) p=b4 at he;cases b4 with
                     |true=>
                      simp only[ai] at he;split at he
                      . rename_i o hw;rw[bc] at he;simp only[ae,aA] at he;rw[<-he.2];exact Wok.one (t6 hw) (by simp[bT])
                      . cases he
                     |false=>
                      simp only[aW] at he;generalize Nat.ble (n1*te.size) p=b5 at he;cases b5 with
                      |true=>
                       simp only[ai,cC,bc,ae,aA] at he;rw[<-he.2];exact Wok.one (by rw[hg1];simp) (by simp[bT])
                      |false=>cases he
                   . cases he
                . cases he
          . cases he
        . cases he
     . cases he
   . cases he
 . cases he
theorem PQ{T:TypeId->Option TY}{h:Hp}{g:Nat}{t:TypeId}{d x:ES}{r:ES}{ws:Wr}(he:mY T h t d x=some (r,ws)):Wok h g (bT d) ws:=by
 unfold mY at he;split at he
 . split at he
   . split at he
     . split at he
       . rw[bc] at he;split at he
         . rename_i o hw;simp only[ae,aA] at he;rw[<-he.2];exact Wok.one (t6 hw) (by simp[bT])
         . cases he
       . cases he
     . cases he
   . cases he
 . cases he
theorem OF{T:TypeId->Option TY}{ze:TypeId->Option (List EV)}{h:Hp}{g:Nat}{t:TypeId}{d:ES}{r:ES}{ws:Wr}(he:kH T ze h t d=some (r,ws)):Wok h g (bT d) ws:=by
 unfold kH at he;split at he
 . split at he
   . split at he
     . rename_i te zs _ _;cases hb:Nat.beq zs.length te.size with
       |false=>rw[hb] at he;cases he
       |true=>
        rw[hb] at he;simp only[ai] at he;split at he
        . split at he
          . rename_i o hw;simp only[ae,aA] at he;rw[<-he.2];exact Wok.one (t6 hw) (by simp[bT])
          . cases he
        . simp only[ae,aA] at he;rw[<-he.2];exact Wok.nil
        . simp only[ae,aA] at he;rw[<-he.2];exact Wok.nil
        . cases he
     . cases he
   . cases he
 . cases he
theorem EN{mk:TypeId->Option (TypeId×TypeId×(KV->Bool))}{h:Hp}{g:Nat}{t:TypeId}{x ix y:ES}{r:ES}{ws:Wr}(he:jg mk h t x ix y=some (r,ws)):Wok h g (bT x) ws:=by
 unfold jg at he;split at he
 . rename_i k0 e0 ok g1 kx v hmk;split at he
   . rename_i es ck k hg1 hk;cases hb:ok k with
     |false=>rw[hb] at he;cases he
     |true=>
      rw[hb] at he;simp only[ai] at he;split at he
      . rw[bc,cC] at he;simp only[ae,aA] at he;rw[<-he.2];exact Wok.one (by rw[hg1];simp) (by simp[bT])
      . rw[cC] at he;simp only[ae,aA] at he;rw[<-he.2];exact Wok.one (by rw[hg1];simp) (by simp[bT])
      . cases he
   . cases he
 . cases he
theorem lw(k:IntKind)(n:Int):gY k n=some (ac (.int k n),[]):=by unfold gY;rw[AP]
theorem Aq(b:Bool):iG b=some (ac (.bool b),[]):=by cases b<;>rfl
theorem QP{op:BinOp}{k:IntKind}{p q:Int}{J:IV->Prop}(h:lU op k p q J):∃r,sC op k p q=some (ac r,[])/\J r:=by
 cases op<;>simp only[lU] at h<;>first
  |exact h.elim
  | (obtain⟨n,rfl,hJ⟩:=h
     simp only[sC,lw,Aq];exact⟨_,rfl,hJ⟩)
  | (obtain⟨hq,n,rfl,hJ⟩:=h
     simp only[sC,bz hq,aW,lw];exact⟨_,rfl,hJ⟩)
theorem Qf{op:BinOp}{p q:List UInt8}(hl:p.length+q.length<=1000000){J:IV->Prop}(h:lP op p q J):∃r,strE op p q=some (ac r,[])/\J r:=by
 cases op<;>simp only[lP] at h<;>first
  |exact h.elim
  | (simp only[strE,fh hl,ai,cC]
     exact⟨_,rfl,h.2⟩)
  | (obtain⟨n,rfl,hJ⟩:=h
     simp only[strE,Aq];exact⟨_,rfl,hJ⟩)
theorem Kv{v:Option ES}{d:Nat}{K:Nat->Prop}(h:yP v d K):∃m,jC v d=some m/\K m:=by
 unfold yP at h;split at h
 . exact⟨d,rfl,h⟩
 . rename_i k n;obtain⟨m,rfl,hK⟩:=h;exact⟨m,rfl,hK⟩
 . exact h.elim
structure OpS(X:EX)(nx:Nat)(o:Op)(tm:Nat->ES)(h:Hp)(K:ES->Wr->Nat->Option (List Nat)->Prop):Prop where
 res:∃g b r ws fp,eOp X.Z X.B o (aj tm) h g=some (r,ws)/\(pL o=true->g∈fp)/\(∀i∈bU o (aj tm),i∈fp)/\(∀p∈ws,(p.1<nx+b\/h p.1≠none)/\p.1∈fp)/\K r ws b (some fp)
 ne:∀x,o≠ .entry x
section
variable {X:EX}{nx:Nat}{o:Op}{tm:Nat->ES}{h:Hp}{K:ES->Wr->Nat->Option (List Nat)->Prop}
theorem OpS.pure{r:ES}(hm:pL o=false)(hne:∀x,o≠ .entry x)(he:∀g,eOp X.Z X.B o (aj tm) h g=some (r,[]))(hK:K r [] 0 (some (bU o (aj tm)))):OpS X nx o tm h K :=
 ⟨⟨nx,0,r,[],_,he nx,fun e=>(by rw[hm] at e;cases e),fun i hi=>hi,fun p hp=>(by cases hp),hK⟩,hne⟩
theorem pJ{g b:Nat}{r:ES}{ws:Wr}(hne:∀x,o≠ .entry x)(hg:g<nx+b)(he:eOp X.Z X.B o (aj tm) h g=some (r,ws))(hw:Wok h g (bU o (aj tm)) ws)(hK:K r ws b (some (kU o (aj tm) g))):OpS X nx o tm h K :=
 ⟨⟨g,b,r,ws,_,he,fun _=>(by simp[kU]),fun i hi=>(by simp[kU,hi]),fun p hp=>(hw p hp).elim (fun e=>by rw[e];exact⟨.inl hg,by simp[kU]⟩) (fun e=>⟨.inr e.1,by simp[kU,e.2]⟩),hK⟩,hne⟩
theorem OpS.wr{r:ES}{ws:Wr}(hm:pL o=false)(hne:∀x,o≠ .entry x)(he:∀g,eOp X.Z X.B o (aj tm) h g=some (r,ws))(hw:∀p∈ws,h p.1≠none/\p.1∈bU o (aj tm))(hK:K r ws 0 (some (bU o (aj tm)))):OpS X nx o tm h K :=
 ⟨⟨nx,0,r,ws,_,he nx,fun e=>(by rw[hm] at e;cases e),fun i hi=>hi,fun p hp=>⟨.inr (hw p hp).1,(hw p hp).2⟩,hK⟩,hne⟩
def BO:Op->Bool
 | .build _ _ | .buildSlice _ _ _ | .nilCheck _ | .makeFunc _ _ _ | .field _ _ _ | .extract _ _ | .makeMap _ _ | .binOp _ _ _ _ _=>true
 |_=>false
theorem Pk{g:Nat}{r:ES}{ws:Wr}(hp:BO o=true)(he:eOp X.Z X.B o (aj tm) h g=some (r,ws)):(pL o=true/\Wok h g (bU o (aj tm)) ws)\/ws=[]:=by
 unfold eOp at he;split at he<;>first|(simp[BO] at hp;done)|skip
 . unfold xZ at he;split at he
   . split at he
     . split at he
       . rw[cC] at he;simp only[ae,aA] at he;exact .inr he.2.symm
       . cases he
     . split at he
       . split at he
         . rw[cC] at he;simp only[ae,aA] at he;exact .inr he.2.symm
         . cases he
       . cases he
     . cases he
   . cases he
 . unfold tF at he;split at he
   . split at he
     . split at he
       . rename_i te zs _ _;generalize (Nat.blt 0 te.size&&Nat.ble _ 16777216&&Nat.beq zs.length te.size)=b at he;cases b with
         |false=>cases he
         |true=>
          simp only[ai] at he;split at he
          . exact .inl ⟨rfl,A9 he⟩
          . cases he
       . cases he
     . cases he
   . cases he
 . unfold yJ at he;split at he
   . simp only[ae,aA] at he;exact .inr he.2.symm
   . simp only[ae,aA] at he;exact .inr he.2.symm
   . cases he
 . unfold ox at he;split at he
   . rename_i k a k' b _ _;cases hd:decide (k=k') with
     |false=>rw[hd] at he;cases he
     |true=>rw[hd] at he;exact .inr (Hr he).1
   . exact .inr (GU he).1
   . split at he
     . split at he
       . exact .inr (pA he).2
       . cases he
     . split at he
       . exact .inr (pA he).2
       . cases he
     . cases he
   . cases he
 . unfold wB at he;split at he
   . simp only[ae,aA] at he;exact .inr he.2.symm
   . simp only[ae,aA] at he;exact .inr he.2.symm
   . cases he
 . unfold xY at he;split at he
   . split at he
     . rename_i fo ag sz _ _;generalize Nat.ble (fo+sz) _=b at he;cases b with
       |false=>cases he
       |true=>
        simp only[ai,cC] at he;split at he
        . simp only[ae,aA] at he;exact .inr he.2.symm
        . cases he
     . cases he
   . cases he
 . unfold wR at he;split at he
   . split at he
     . simp only[ae,aA] at he;exact .inr he.2.symm
     . cases he
   . cases he
 . unfold ub at he;split at he
   . rename_i hg;simp only[ae,aA] at he;refine .inl ⟨rfl,?_⟩;rw[<-he.2];intro p hp;simp only[fQ] at hp;subst hp;exact .inl rfl
   . cases he
theorem Gk(hp:BO o=true)(hK:xK X nx o tm h K):OpS X nx o tm h K:=by
 have hne:∀x,o≠ .entry x:=fun x e=>by subst e;cases hp
 unfold xK at hK;split at hK
 . rename_i r ws he;rw[mI] at hK;rcases Pk hp he with⟨hm,hw⟩|hw
   . rw[hm] at hK;exact pJ hne (by omega) he hw hK
   . subst hw;cases hm:pL o with
     |true=>
      rw[hm] at hK;exact pJ hne (by omega) he Wok.nil hK
     |false=>
      rw[hm] at hK;exact⟨⟨nx,0,r,[],_,he,fun e=>(by rw[hm] at e;cases e),fun i hi=>hi,fun p hp=>(by cases hp),hK⟩,hne⟩
 . exact hK.elim
theorem wx{g:Nat}{e:TypeId}{cs:List EV}{k:Nat->Nat->ES}(hg:h g=none):gD h g e cs k=some (k g cs.length,[(g,.mem e cs false [(0,cs.length)] 1)]):=by
 unfold gD;rw[hg];simp only[cC,bc]
theorem w6{g:Nat}{o':EO}{l:List Nat}:Wok h g l [(g,o')]:=fun p hp=>by
 simp only[fQ] at hp;subst hp;exact .inl rfl
theorem UK(hf:∀g,nx<=g->h g=none)(hcall:pO o=none)(hK:oI X nx o tm h K):OpS X nx o tm h K:=by
 have hnx:=hf nx (ak _);unfold oI at hK;split at hK
 . rw[mI] at hK;exact OpS.pure rfl (by intro _ e;cases e) (fun _=>rfl) hK
 . rw[mI] at hK;exact OpS.pure rfl (by intro _ e;cases e) (fun _=>rfl) hK
 . -- pick
   split at hK
   . rename_i b hc;obtain⟨r,h1,h2,hK⟩:=hK;refine OpS.pure rfl (by intro _ e;cases e) (fun _=>?_) hK;show uI _ _ _=_;unfold uI;rw[hc];cases b with
     |true=>simp only[h1 rfl]
     |false=>simp only[h2 rfl]
   . exact hK.elim
 . -- alloc
   rename_i t;split at hK
   . rename_i z hz;refine pJ (by intro _ e;cases e) (by omega) ?_ w6 hK;show r6 _ _ _ _=_;unfold r6 Tab.ze;rw[hz];simp only[eU,wx hnx]
   . exact hK.elim
 . -- box
   rename_i t x;split at hK
   . rename_i y hx;refine pJ (by intro _ e;cases e) (by omega) ?_ w6 hK;show sG _ _ _ _ _=_;unfold sG;rw[hx];simp only[wx hnx]
   . exact hK.elim
 . -- binOp
   rename_i op t x y t';split at hK
   . rename_i k a k' b hx hy;obtain⟨rfl,hK⟩:=hK;obtain⟨r,he,hK⟩:=QP hK;refine OpS.pure rfl (by intro _ e;cases e) (fun _=>?_) hK;show ox _ _ _ _ _=_;unfold ox;rw[hx,hy];simp only[MH,ai,he]
   . rename_i a b hx hy;obtain⟨hl,hK⟩:=hK;obtain⟨r,he,hK⟩:=Qf hl hK;refine OpS.pure rfl (by intro _ e;cases e) (fun _=>?_) hK;show ox _ _ _ _ _=_;unfold ox;rw[hx,hy];simp only[he]
   . exact Gk rfl hK
 . -- unOp
   rename_i op t x;split at hK
   . rename_i a hx;obtain⟨c,rfl,hK⟩:=hK;refine OpS.pure rfl (by intro _ e;cases e) (fun _=>?_) hK;show qK _ _=_;unfold qK;rw[hx];simp only[Aq]
   . rename_i k a hx;obtain⟨c,rfl,hK⟩:=hK;refine OpS.pure rfl (by intro _ e;cases e) (fun _=>?_) hK;show qK _ _=_;unfold qK;rw[hx];simp only[lw]
   . exact hK.elim
 . -- convert
   rename_i s d x;split at hK
   . rename_i ts td k0 a hs hd hx;split at hK
     . rename_i k1 k h1 h2;obtain⟨n,rfl,hK⟩:=hK;refine OpS.pure rfl (by intro _ e;cases e) (fun _=>?_) hK;show uJ _ _ _ _=_;unfold uJ;rw[hs,hd,hx];simp only[h1,h2,lw]
     . exact hK.elim
   . exact hK.elim
 . -- load
   rename_i t x;split at hK
   . rename_i ty ht;split at hK
     . rename_i y off hx;split at hK
       . rename_i r hl;split at hK
         . rename_i hr;refine OpS.pure rfl (by intro _ e;cases e) (fun _=>?_) hK;show jq _ _ _ _ _=_;unfold jq;rw[ht,hx];simp only[hl,hr,aW]
         . exact hK.elim
       . exact hK.elim
     . rename_i g u off hx;obtain⟨cs,hrd,hK⟩:=hK;split at hK
       . rename_i r hv;rw[mI] at hK;refine OpS.pure rfl (by intro _ e;cases e) (fun _=>?_) hK;show jq _ _ _ _ _=_;unfold jq;rw[ht,hx];simp only[hrd,cC,hv]
       . exact hK.elim
     . exact hK.elim
   . exact hK.elim
 . -- store
   rename_i t x y;split at hK
   . rename_i ty g u off z ht hx hy;cases hb:Nat.beq (z.cells X.Z).length ty.size with
     |false=>rw[hb] at hK;exact hK.elim
     |true=>
      rw[hb] at hK;simp only[ai] at hK;obtain⟨o',hw,hK⟩:=hK;refine OpS.wr rfl (by intro _ e;cases e) (fun _=>?_) (fun p hp=>?_) hK
      . show n9 _ _ _ _ _ _=_;unfold n9;rw[ht,hx,hy];simp only[hb,ai,hw]
      . simp only[fQ] at hp;subst hp;exact⟨t6 hw,List.mem_flatMap.2 ⟨x,by simp[gU],RT hx⟩⟩
   . exact hK.elim
 . -- makeSlice
   rename_i t l c;split at hK
   . rename_i ty k a k' b ht hl hc;split at hK
     . rename_i e hsh;split at hK
       . rename_i te zs hte hze;cases hb:(Nat.blt 0 te.size&&Nat.beq zs.length te.size) with
         |false=>rw[hb] at hK;exact hK.elim
         |true=>
          rw[hb] at hK;simp only[ai] at hK;obtain⟨rfl,m,rfl,h1,h2,hK⟩:=hK;simp only[aC] at hb;have hl':aj tm l=.w (.one (.iv (.int k (Int.ofNat m)))):=hl;have hc':aj tm c=.w (.one (.iv (.int k' (Int.ofNat m)))):=hc;refine pJ (by intro _ e;cases e) (by omega) ?_ w6 hK;show rm _ _ _ _ _ _ _=_;unfold rm;rw[ht,hl',hc'];simp only[hsh,hte,hze,bj,hb.1,hb.2,fh h1,fh h2,mF,ai,wx hnx]
       . exact hK.elim
     . exact hK.elim
   . exact hK.elim
 . -- slice
   rename_i t x lo hi mx;split at hK
   . rename_i ty ht;split at hK
     . rename_i e es hsh hx;split at hK
       . rename_i te hte;obtain⟨u,hu,hK⟩:=Kv hK;obtain⟨l,hl,hK⟩:=Kv hK;obtain⟨h1,h2,h3,hK⟩:=hK;refine OpS.pure rfl (by intro _ e;cases e) (fun _=>?_) hK;show ij _ _ _ _ _ _ _=_;unfold ij;have h3':(Nat.beq l 0||dT te.size es)=true:=by
          rcases h3 with rfl|h3
          . rfl
          . rw[h3,Bool.or_true]
         rw[ht];simp only[hsh,hx,hte,hl,hu,vu,fh h1,fh h2,h3',mF,ai]
       . exact hK.elim
     . rename_i e g u off n cap hsh hx;obtain⟨r,he,hK⟩:=hK;rw[mI] at hK;exact OpS.pure rfl (by intro _ e;cases e) (fun _=>he) hK
     . rename_i n e g u off hsh hx;split at hK
       . rename_i te hte;refine OpS.pure rfl (by intro _ e;cases e) (fun _=>?_) hK;show ij X.B.T h t (aj tm x) none none none=_;unfold ij;rw[ht];simp only[hsh,hx,hte]
       . exact hK.elim
     . exact hK.elim
   . exact hK.elim
 . -- fieldAddr
   rename_i s x j;split at hK
   . rename_i ty ht;split at hK
     . rename_i fo ag sz hsh hf0;cases hb:Nat.blt 0 sz with
       |false=>rw[hb] at hK;exact hK.elim
       |true=>
        rw[hb] at hK;simp only[ai] at hK;split at hK
        . rename_i g u off hx;obtain⟨o',rfl,hK⟩:=hK;refine OpS.pure rfl (by intro _ e;cases e) (fun _=>?_) hK;show pd _ _ _ _=_;unfold pd;rw[ht,hx];simp only[hsh,hf0,hb,ai,bc]
        . rename_i y off hx;refine OpS.pure rfl (by intro _ e;cases e) (fun _=>?_) hK;show pd _ _ _ _=_;unfold pd;rw[ht,hx];simp only[hsh,hf0,hb,ai,bc]
        . exact hK.elim
     . exact hK.elim
   . exact hK.elim
 . -- indexAddr
   rename_i t x ix;split at hK
   . rename_i ty ht;split at hK
     . rename_i e es k a hsh hx hi;split at hK
       . rename_i te hte;obtain⟨j,y,rfl,hj,hy,hK⟩:=hK;have hi':aj tm ix=.w (.one (.iv (.int k (Int.ofNat j)))):=hi;refine OpS.pure rfl (by intro _ e;cases e) (fun _=>?_) hK;show mJ _ _ _ _=_;unfold mJ;rw[ht,hx,hi'];simp only[hsh,hte,hj,hy,bj,ai]
       . exact hK.elim
     . rename_i e g u off n cap k a hsh hx hi;split at hK
       . rename_i te hte;obtain⟨j,rfl,hj,o',rfl,hK⟩:=hK;have hi':aj tm ix=.w (.one (.iv (.int k (Int.ofNat j)))):=hi;refine OpS.pure rfl (by intro _ e;cases e) (fun _=>?_) hK;show mJ _ _ _ _=_;unfold mJ;rw[ht,hx,hi'];have hb:Nat.blt j n=true:=by rw[cR];exact hj
         simp only[hsh,hte,hb,ai,bc]
       . exact hK.elim
     . rename_i n e g u off k a hsh hx hi;split at hK
       . rename_i te hte;obtain⟨j,rfl,hj,o',rfl,hK⟩:=hK;have hi':aj tm ix=.w (.one (.iv (.int k (Int.ofNat j)))):=hi;refine OpS.pure rfl (by intro _ e;cases e) (fun _=>?_) hK;show mJ _ _ _ _=_;unfold mJ;rw[ht,hx,hi'];have hb:Nat.blt j n=true:=by rw[cR];exact hj
         simp only[hsh,hte,hb,ai,bc]
       . exact hK.elim
     . exact hK.elim
   . exact hK.elim
 . -- index
   rename_i t x ix;split at hK
   . rename_i ty ht;split at hK
     . rename_i n e cs k a hsh hx hi;split at hK
       . rename_i te hte;cases hb:(Nat.beq te.size 1 && !te.sh.agg) with
         |false=>rw[hb] at hK;exact hK.elim
         |true=>
          rw[hb] at hK;simp only[ai] at hK;obtain⟨j,c,rfl,hj,hc,hK⟩:=hK;have hi':aj tm ix=.w (.one (.iv (.int k (Int.ofNat j)))):=hi;refine OpS.pure rfl (by intro _ e;cases e) (fun _=>?_) hK;show uy _ _ _ _=_;unfold uy;rw[ht,hx,hi'];have hb2:Nat.blt j n=true:=by rw[cR];exact hj
          simp only[hsh,hte,hb,hb2,mF,ai,hc]
       . exact hK.elim
     . exact hK.elim
   . exact hK.elim
 . -- builtins
   rename_i b args ats;split at hK
   . rename_i x t ha hts;split at hK
     . rename_i ty ht;have key:∀{n:Nat} {m:Int},(n:Int)=m->(∀e:TypeId,ty.sh=.slice e->ni X.B.T t (aj tm x)=gY .i64 (.ofNat n))->∀e:TypeId,ty.sh=.slice e->K (ac (.int .i64 m)) [] 0 (some (bU (.call { callee:=.builtin .len,args:=args,argTypes:=ats }) (aj tm)))->OpS X nx (.call { callee:=.builtin .len,args:=args,argTypes:=ats }) tm h K:=by
        intro n m hm hl e hsh hK;subst hm;refine OpS.pure rfl (by intro _ e;cases e) (fun _=>?_) hK;show fk _ _ _ _ _ _ _=_;unfold fk;rw[hts,ha];simp only[aS,dO,hl e hsh,lw,gM]
       split at hK
       . rename_i l n hsh hx hn;obtain⟨m,rfl,hK⟩:=hK;refine OpS.pure rfl (by intro _ e;cases e) (fun _=>?_) hK;show fk _ _ _ _ _ _ _=_;unfold fk;rw[hts,ha];rw[hx] at hn;simp only[yE,ae] at hn;subst hn;show ni _ _ _=_;unfold ni;rw[ht,hx];simp only[hsh,lw,gM]
       . rename_i e es n hsh hx hn;obtain⟨m,hm,hK⟩:=hK;rw[hx] at hn;simp only[yE,ae] at hn;subst hn;refine key hm (fun e he=>?_) e hsh hK;unfold ni;rw[ht,hx];simp only[he]
       . rename_i e g u off n' c n hsh hx hn;obtain⟨m,hm,hK⟩:=hK;rw[hx] at hn;simp only[yE,ae] at hn;subst hn;refine key hm (fun e he=>?_) e hsh hK;unfold ni;rw[ht,hx];simp only[he,lw,gM]
       . rename_i e n hsh hx hn;refine key (n:=0) (m:=0) rfl (fun e he=>?_) e hsh hK;unfold ni;rw[ht,hx];simp only[he,lw];rfl
       . exact hK.elim
     . exact hK.elim
   . rename_i x y ha;split at hK
     . rename_i k a k' c hx hy;obtain⟨n,rfl,hK⟩:=hK;refine OpS.pure rfl (by intro _ e;cases e) (fun _=>?_) hK;show fk _ _ _ _ _ _ _=_;unfold fk;rw[ha];simp only[aS,dO,hx,hy,s6,ai,lw]
     . exact hK.elim
   . rename_i x y ha;split at hK
     . rename_i k a k' c hx hy;obtain⟨n,rfl,hK⟩:=hK;refine OpS.pure rfl (by intro _ e;cases e) (fun _=>?_) hK;show fk _ _ _ _ _ _ _=_;unfold fk;rw[ha];simp only[aS,dO,hx,hy,s6,aW,lw]
     . exact hK.elim
   . rename_i s x t t' ha hts;cases hb:Nat.beq t t' with
     |false=>rw[hb] at hK;exact hK.elim
     |true=>
      rw[hb] at hK;simp only[ai] at hK;obtain⟨g,b,r,ws,he,hg,hK⟩:=hK;refine pJ (by intro _ e;cases e) hg ?_ (fun p hp=>(N9 he p hp).imp id fun e=>⟨e.1,List.mem_flatMap.2 ⟨s,by simp[gU,ha],e.2⟩⟩) hK;show fk _ _ _ _ _ _ _=_;unfold fk;rw[ha,hts];simp only[aS,dO,hb,ai,he]
   . rename_i d x t t' ha hts;obtain⟨r,ws,he,hK⟩:=hK;refine OpS.wr rfl (by intro _ e;cases e) (fun _=>?_) (fun p hp=>?_) hK
     . show fk _ _ _ _ _ _ _=_;unfold fk;rw[ha,hts];simp only[aS,dO,he]
     . rcases PQ (g:=p.1+1) he p hp with e|e
       . omega
       . exact⟨e.1,List.mem_flatMap.2 ⟨d,by simp[gU,ha],e.2⟩⟩
   . rename_i d t ha hts;obtain⟨r,ws,he,hK⟩:=hK;refine OpS.wr rfl (by intro _ e;cases e) (fun _=>?_) (fun p hp=>?_) hK
     . show fk _ _ _ _ _ _ _=_;unfold fk;rw[ha,hts];simp only[aS,dO,he]
     . rcases OF (g:=p.1+1) he p hp with e|e
       . omega
       . exact⟨e.1,List.mem_flatMap.2 ⟨d,by simp[gU,ha],e.2⟩⟩
   . exact hK.elim
 . -- lookup
   obtain⟨r,he,hK⟩:=hK;exact OpS.pure rfl (by intro _ e;cases e) (fun _=>he) hK
 . rename_i t m k v;obtain⟨g,o',he,hK⟩:=hK;refine OpS.wr rfl (by intro _ e;cases e) (fun _=>he) (fun p hp=>?_) hK;rcases EN (g:=p.1+1) he p hp with e|e
   . omega
   . exact⟨e.1,List.mem_flatMap.2 ⟨m,by simp[gU],e.2⟩⟩
 . rename_i t m k v;obtain⟨g,o',he,hK⟩:=hK;refine OpS.wr rfl (by intro _ e;cases e) (fun _=>he) (fun p hp=>?_) hK;rcases EN (g:=p.1+1) he p hp with e|e
   . omega
   . exact⟨e.1,List.mem_flatMap.2 ⟨m,by simp[gU],e.2⟩⟩
 . -- range
   rename_i t x;split at hK
   . rename_i kd gm hmk hx;obtain⟨es,ck,hg,hK⟩:=hK;refine pJ (by intro _ e;cases e) (by omega) ?_ w6 hK;show oa _ _ _ _ _=_;unfold oa;rw[hmk,hx];simp only[hg,hnx,bc]
   . exact hK.elim
 . rename_i fo args ats;simp[pO] at hcall
 all_goals first|exact Gk rfl hK|exact hK.elim
end
theorem EP{X:EX}{f:FuncId}{xs:List IV}{r:IV}{h:Hp}(hc:aY X.P X.I f xs r)(hn:jn xs=true)(hr:qG r=true):CallOk X f (xs.map dS) h (dS r) h:=by
 refine⟨hc.1,fun E hI H U w vs hs hv=>?_⟩;refine(hc.2 H w vs (hI w hs.below) hs.has (SREL.data hn hv)).mono ?_;rintro e w' ⟨v,H',rfl,h1,h2,h3,h4⟩;exact⟨v,H',U,rfl,h2.1,BLe.refl _,hs.grow h4 h1 h2,MarkSame.below h4,Vd h3 hr⟩
def g6(fp:Option (List Nat))(ws:Wr):Le:=match fp with
 |none=>⟨false,[],ws⟩
 |some l=>⟨true,l,ws⟩
theorem rW(fp:Option (List Nat))(ws:Wr):(g6 fp ws).wr=ws:=by cases fp<;>rfl
def LB(X:EX)(nx:Nat)(o:Oper)(tm:Nat->ES)(h:Hp)(K:ES->Wr->Nat->Option (List Nat)->Prop):Prop :=
 ∃r ws b fp,(∀p∈ws,(p.1<nx+b\/h p.1≠none)/\(g6 fp ws).vis p.1=true)/\OneOk X o tm h r (a7 h ws)/\OneOk X o tm (cO (g6 fp ws).vis h) r (a7 (cO (g6 fp ws).vis h) ws)/\K r ws b fp
section
variable {X:EX}{nx:Nat}{o:Oper}{tm:Nat->ES}{h:Hp}{K:ES->Wr->Nat->Option (List Nat)->Prop}
theorem HY{fo:Operand}{ax:Array Operand}{ats:Array TypeId}{f:FuncId}{gs:List Nat}(ho:o.op=.call { callee:=.value fo,args:=ax,argTypes:=ats })
 (hf:(aj tm fo=.w (.one (.iv (.fn f)))/\gs=[])\/aj tm fo=.w (.one (.clo f gs))) (hK:eX X nx f (ax.toList.map (aj tm)++jY gs) h K):LB X nx o tm h K:=by
 rcases hK with⟨xs,r,hc,ha,hn,hr,hK⟩|⟨r,ws,b,h2,h3,hK⟩|⟨r,ws,b,l,h1,h2,h3,hK⟩
 rotate_right
 . exact⟨r,ws,b,some l,fun p hp=>⟨(h3 p hp).1,ji.2 (h3 p hp).2⟩,OneOk.call ho hf h1,OneOk.call ho hf h2,hK⟩
 . refine⟨dS r,[],0,some [],fun p hp=>(by cases hp),OneOk.call ho hf ?_,OneOk.call ho hf ?_,hK⟩
   . rw[ha];exact EP hc hn hr
   . rw[ha];exact EP hc hn hr
 . have e:cO (g6 none ws).vis h=h:=by
    funext g;unfold cO g6 Le.vis;simp[bL]
   refine⟨r,ws,b,none,fun p hp=>⟨h3 p hp,?_⟩,OneOk.call ho hf h2,?_,hK⟩
   . unfold g6 Le.vis;simp[bL]
   . rw[e];exact OneOk.call ho hf h2
theorem IS(hf:∀g,nx<=g->h g=none)(hK:oI X nx o.op tm h K):LB X nx o tm h K:=by
 cases hc:pO o.op with
 |none=>
  obtain⟨⟨g,b,r,ws,fp,he,h1,h2,h3,hK⟩,hne⟩:=UK hf hc hK;have hv:∀i∈fp,(g6 (some fp) ws).vis i=true:=fun i hi=>by
   unfold g6 Le.vis;simp only[ai];exact ji.2 hi
  refine⟨r,ws,b,some fp,fun p hp=>⟨(h3 p hp).1,hv _ (h3 p hp).2⟩,tZ he,tZ (g:=g) ?_,hK⟩;rw[PP hne (fun e=>pi (hv g (h1 e))) (fun i hi=>pi (hv i (h2 i hi)))];exact he
 |some p=>
  obtain⟨fo,args⟩:=p;obtain⟨ax,ats,ho,rfl⟩:=Ae hc;rw[ho] at hK;simp only[oI] at hK;split at hK
  . rename_i f hfo;refine HY ho (.inl ⟨hfo,rfl⟩) ?_;simpa[jY] using hK
  . rename_i f gs hfo;exact HY ho (.inr hfo) hK
  . exact hK.elim
end
structure SS where
 tm:Nat->ES
 h:Hp
 nx:Nat
def SS.fr(s:SS):Prop:=∀g,s.nx<=g->s.h g=none
structure SSm(X:EX)(E:EEnv)(w0:World)(nt:Nat)(H:ah)(U:Bm)(s:SS)(a:Act)(w:World):Prop where
 st:ESt X E nt H U s.tm s.h a w
 mks:MarksOk (mo E w0) a.defers w
 sm:MarkSame w0 w
 fr:s.fr
def BLeP(nP:Nat)(U U':Bm):Prop:=∀g u k,g<nP->U g u=some k->U' g u=some k
theorem BLeP.refl(n:Nat)(U:Bm):BLeP n U U:=fun _ _ _ _ h=>h
theorem BLeP.of{n:Nat}{U U':Bm}(h:BLe U U'):BLeP n U U':=fun g u k _ e=>h g u k e
theorem BLeP.trans{n:Nat}{a b c:Bm}(h:BLeP n a b)(k:BLeP n b c):BLeP n a c:=fun g u x l e=>k g u x l (h g u x l e)
def SPost(X:EX)(nP:Nat)(E:EEnv)(w0:World)(nt:Nat)(H:ah)(U:Bm)(w:World)(s':SS)(a':Act)(w':World):Prop :=
 ∃H' U',HLe H H'/\BLeP nP U U'/\SSm X E w0 nt H' U' s' a' w'/\MarkSame w w'
theorem SPost.refl{X:EX}{nP:Nat}{E:EEnv}{w0:World}{nt:Nat}{H:ah}{U:Bm}{s:SS}{a:Act}{w:World}(h:SSm X E w0 nt H U s a w):SPost X nP E w0 nt H U w s a w :=
 ⟨H,U,HLe.refl _,BLeP.refl _ _,h,MarkSame.refl _⟩
theorem SPost.trans{X:EX}{nP:Nat}{E:EEnv}{wm:World}{nt:Nat}{H H':ah}{U U':Bm}{s':SS}{a':Act}{w w0 w':World}(hh:HLe H H')(hb:BLeP nP U U')(hm:MarkSame w w0)(k:SPost X nP E wm nt H' U' w0 s' a' w'):SPost X nP E wm nt H U w s' a' w':=by
 obtain⟨H2,β2,k1,k2,k3,k4⟩:=k;exact⟨H2,β2,hh.trans k1,hb.trans k2,k3,hm.trans k4⟩
theorem CN{nx b:Nat}{h:Hp}{ws:Wr}(hf:∀g,nx<=g->h g=none)(hw:∀p∈ws,p.1<nx+b\/h p.1≠none):∀g,nx+b<=g->a7 h ws g=none:=fun g hg=>by
 rw[rt fun p hp e=>?_]
 . exact hf g (by omega)
 . rcases hw p hp with e'|e'
   . omega
   . exact e' (hf _ (by omega))
def SW(X:EX)(nP:Nat)(rd:Bool)(nt:Nat)(c:Code)(s:SS)(K:Exit->SS->Prop):Prop :=
 ∀ro,(rd=false->ro=none)->∀(E:EEnv),(∀w',BelowO E.own E.w0 w'->X.I w')->(∀g,E.hid g->g<nP)->∀(w0:World) (H:ah) (U:Bm) (a:Act) (w:World) (Q:Exit->Act->World->Prop),SSm X E w0 nt H U s a w->
  (∀e s' a' w',K e s'->SPost X nP E w0 nt H U w s' a' w'->Q e a' w')->c.wpIn (FW ro) 0 X.P Q a w
def sK(X:EX)(nP:Nat)(rd:Bool)(nt:Nat)(y:Code)(K:Exit->SS->Prop):Exit->SS->Prop
 | .normal,s=>SW X nP rd nt y s K
 |e,s=>K e s
def sB(id:Nat)(K:Exit->SS->Prop):Exit->SS->Prop
 | .exit i,s=>match Nat.beq i id with
  |true=>K .normal s
  |false=>K (.exit i) s
 |e,s=>K e s
section
variable {X:EX}{nP:Nat}{rd:Bool}{nt:Nat}{s:SS}{K:Exit->SS->Prop}
theorem SW.mono{c:Code}{K':Exit->SS->Prop}(h:SW X nP rd nt c s K')(hk:∀e s,K' e s->K e s):SW X nP rd nt c s K :=
 fun ro hro E hI hh w0 H U a w Q hS hQ=>h ro hro E hI hh w0 H U a w Q hS fun e s' a' w' k=>hQ e s' a' w' (hk e s' k)
theorem SW.skip(h:K .normal s):SW X nP rd nt .skip s K:=fun ro hro E hI hh w0 H U a w Q hS hQ=>D9 (hQ _ _ _ _ h (SPost.refl hS))
theorem SW.ret(h:K .ret s):SW X nP rd nt .ret s K:=fun ro hro E hI hh w0 H U a w Q hS hQ=>wpIn_ret (hQ _ _ _ _ h (SPost.refl hS))
theorem SW.exit{id:Nat}(h:K (.exit id) s):SW X nP rd nt (.exit id) s K:=fun ro hro E hI hh w0 H U a w Q hS hQ=>Ea (hQ _ _ _ _ h (SPost.refl hS))
theorem SW.label{l:Nat}(h:K .normal s):SW X nP rd nt (.label l) s K:=fun ro hro E hI hh w0 H U a w Q hS hQ=>wpIn_label (hQ _ _ _ _ h (SPost.refl hS))
theorem SW.seq{x y:Code}(h:SW X nP rd nt x s (sK X nP rd nt y K)):SW X nP rd nt (.seq x y) s K:=fun ro hro E hI hh w0 H U a w Q hS hQ=>
 zt (h ro hro E hI hh w0 H U a w _ hS fun e s1 a1 w1 hk hp=>by
  obtain⟨H1,β1,p1,p2,p3,p4⟩:=hp;cases e with
  |normal=>exact hk ro hro E hI hh w0 H1 β1 a1 w1 Q p3 fun e s' a' w' k hp'=>hQ e s' a' w' k (hp'.trans p1 p2 p4)
  |_=>exact hQ _ _ _ _ hk ⟨H1,β1,p1,p2,p3,p4⟩)
theorem SW.block{id:Nat}{c:Code}(h:SW X nP rd nt c s (sB id K)):SW X nP rd nt (.block id c) s K:=fun ro hro E hI hh w0 H U a w Q hS hQ=>
 Ec (h ro hro E hI hh w0 H U a w _ hS fun e s1 a1 w1 hk hp=>by
  cases e with
  |exit i=>
   simp only[Exit.inBlock];by_cases hi:i=id
   . subst hi;simp only[sB,bj] at hk;simp only[bD];exact hQ _ _ _ _ hk hp
   . simp only[sB,yd hi] at hk;simp only[hi,bE];exact hQ _ _ _ _ hk hp
  |_=>exact hQ _ _ _ _ hk hp)
theorem SW.cond{c:Operand}{x y:Code}{t:Bool}(hc:aj s.tm c=.w (.one (.iv (.bool t))))(h1:t=true->SW X nP rd nt x s K)(h2:t=false->SW X nP rd nt y s K):SW X nP rd nt (.cond c x y) s K:=fun ro hro E hI hh w0 H U a w Q hS hQ=>by
 have hv:=bn hS.st c;rw[hc] at hv;refine Eb (SRe.bool hv) (fun e=>?_) (fun e=>?_)
 . subst e;exact h1 rfl ro hro E hI hh w0 H U a w Q hS hQ
 . subst e;exact h2 rfl ro hro E hI hh w0 H U a w Q hS hQ
theorem SW.condT{c:Operand}{x y:Code}(hc:aj s.tm c=.w (.one (.iv (.bool true))))(h:SW X nP rd nt x s K):SW X nP rd nt (.cond c x y) s K:=SW.cond hc (fun _=>h) (fun e=>by cases e)
theorem SW.condF{c:Operand}{x y:Code}(hc:aj s.tm c=.w (.one (.iv (.bool false))))(h:SW X nP rd nt y s K):SW X nP rd nt (.cond c x y) s K:=SW.cond hc (fun e=>by cases e) (fun _=>h)
end
def jV(X:EX)(all:Array Oper):List Oper->SS->(SS->Prop)->Prop
 | [],s,K=>K s
 |o::os,s,K=>match iQ all s.tm o with
  |some false=>jV X all os ⟨cI s.tm o.dst .und,s.h,s.nx⟩ K
  |none=>False
  |some true=>match o.op with
   | .next x false=>match aj s.tm x with
    | .w (.one (.ptr gi 0 0))=>∃gm since seen last cur es ck,s.h gi=some (.iter gm since seen last cur)/\s.h gm=some (.map es ck)/\(l9 since es&&(kG seen||(kG es||l7 last es)))=true/\
     (eW seen es=[]->jV X all os ⟨cI s.tm o.dst (.tup [.one (.iv (.bool false))]),s.h,s.nx⟩ K)/\
     ∀e∈eW seen es,jV X all os ⟨cI s.tm o.dst (.tup [.one (.iv (.bool true)),e.1,e.2.1]),aD s.h gi (some (.iter gm since (e.2.2::seen) ck (some e.2.2))),s.nx⟩ K
    |_=>False
   | .entry x=>∃r,pR s.h (aj s.tm x)=some (r,[])/\kE r fun r=>jV X all os ⟨cI s.tm o.dst r,s.h,s.nx⟩ K
   |op=>oI X s.nx op s.tm s.h fun r ws b _=>bA (s.nx+b) fun nx=>jV X all os ⟨cI s.tm o.dst r,a7 s.h ws,nx⟩ K
def nb(X:EX)(all:Array Oper):List Oper->SS->List (Wr×Option (List Nat))->(SS->List (Wr×Option (List Nat))->Prop)->Prop
 | [],s,log,K=>K s log.reverse
 |o::os,s,log,K=>match iQ all (jo (fq all o) s.tm) o with
  |some false=>nb X all os ⟨cI s.tm o.dst .und,s.h,s.nx⟩ (([],some [])::log) K
  |none=>False
  |some true=>oI X s.nx o.op (jo (fq all o) s.tm) s.h fun r ws b fp=>bA (s.nx+b) fun nx=>nb X all os ⟨cI s.tm o.dst r,a7 s.h ws,nx⟩ ((ws,fp)::log) K
def DQ(a:Nat):List Nat->Prop->Prop
 | [],K=>K
 |b::l,K=>a≠b/\DQ a l K
def DF(fp:List Nat):Wr->Prop->Prop
 | [],K=>K
 |p::ws,K=>DQ p.1 fp (DF fp ws K)
def Lv(fp:Option (List Nat))(ws:Wr)(K:Prop):Prop:=match fp with
 |none=>False
 |some l=>DF l ws K
def uz(tab:List Nat)(i:Nat)(ws:Wr):List (Wr×Option (List Nat))->Nat->Prop->Prop
 | [],_,K=>K
 |l::ls,j,K=>match dt tab i j with
  |true=>uz tab i ws ls (j+1) K
  |false=>Lv l.2 ws (uz tab i ws ls (j+1) K)
def sk(tab:List Nat)(all:List (Wr×Option (List Nat))):List (Wr×Option (List Nat))->Nat->Prop->Prop
 | [],_,K=>K
 |l::ls,i,K=>match l.1 with
  | []=>sk tab all ls (i+1) K
  |ws=>uz tab i ws all 0 (sk tab all ls (i+1) K)
def nW:List Nat->(List Nat->Prop)->Prop
 | [],k=>k []
 |x::xs,k=>bA x fun x=>nW xs fun xs=>k (x::xs)
theorem Al:∀(l:List Nat) (k:List Nat->Prop),nW l k=k l
 | [],_=>rfl
 |x::xs,k=>by rw[nW,bc,Al xs]
def Dn(X:EX)(all:Array Oper)(draw:Bool)(s:SS)(K:SS->Prop):Prop :=
 match draw with
 |false=>jV X all all.toList s K
 |true=>nW (jZ all.toList) fun tab=>nb X all all.toList s [] fun s' log=>sk tab log log 0 (K s')
def xG(nt:Nat)(all:Array Oper)(draw:Bool):Bool:=cn nt all.toList&&(!draw||n7 all (jZ all.toList))
section
variable {X:EX}{nP:Nat}
theorem Sp{all:Array Oper}{K:SS->Prop}:∀{os:List Oper} {s:SS},jV X all os s K->
 ∀(ro:Option Nat) (E:EEnv),(∀w',BelowO E.own E.w0 w'->X.I w')->∀(w0:World) (nt:Nat) (Q:Exit->Act->World->Prop) (H:ah) (U:Bm) (a:Act) (w:World),cn nt os=true->SSm X E w0 nt H U s a w->
  (∀s' a' w',K s'->SPost X nP E w0 nt H U w s' a' w'->Q .normal a' w')->wpListIn (FW ro) 0 X.P all Q os a w:=by
 intro os;induction os with
 |nil=>intro s hk ro E hI w0 nt Q H U a w _ hS hQ;exact hQ s a w hk (SPost.refl hS)
 |cons o os ih=>
  intro s hk ro E hI w0 nt Q H U a w hd hS hQ;have hd':cn nt os=true:=by
   simp only[cn,ed,aC] at hd;exact hd.2
  have hdo:=nJ hd (show o∈o::os by simp);unfold wpListIn;unfold jV at hk;split at hk
  . -- not wanted
    rename_i hy;refine C3 hI hdo hS.st hS.mks (r:=.und) (h':=s.h) (.inr ⟨hy,rfl,rfl⟩) fun H' U' a' w' h1 h2 h3 h4 h5=>?_;exact ih hk ro E hI w0 nt Q H' U' a' w' hd' ⟨h3,h4,hS.sm.trans h5,hS.fr⟩ fun s2 a2 w2 k hp=>hQ s2 a2 w2 k (hp.trans h1 (BLeP.of h2) h5)
  . exact hk.elim
  . rename_i hy;have one:∀{r:ES} {ws:Wr} {b:Nat},OneOk X o s.tm s.h r (a7 s.h ws)->(∀p∈ws,p.1<s.nx+b\/s.h p.1≠none)->jV X all os ⟨cI s.tm o.dst r,a7 s.h ws,s.nx+b⟩ K->
     if Region.wanted o (yielded all a.tmps) then o.wpIn (FW ro) 0 X.P a w (wpListIn (FW ro) 0 X.P all Q os) Q else(∀f,o.about X.P w a.eval=some f->(FW ro).fn f)/\wpListIn (FW ro) 0 X.P all Q os (a.put o.dst undef) w:=by
     intro r ws b hone hw hk;refine C3 hI hdo hS.st hS.mks (.inl ⟨hy,hone⟩) fun H' U' a' w' h1 h2 h3 h4 h5=>?_;exact ih hk ro E hI w0 nt Q H' U' a' w' hd' ⟨h3,h4,hS.sm.trans h5,CN hS.fr hw⟩ fun s2 a2 w2 k hp=>hQ s2 a2 w2 k (hp.trans h1 (BLeP.of h2) h5)
    split at hk
    . -- a step of an iterator
      rename_i x hop;split at hk
      . rename_i gi hxe;obtain⟨gm,since,seen,last,cur,es,ck,e1,e2,e3,k1,k2⟩:=hk;rw[uc hS.st hy];simp only[bD];have hn:yn s.h (aj s.tm x)=some (match eW seen es with
         | []=>[(.tup [.one (.iv (.bool false))],[])]
         |l=>l.map fun e=>(.tup [.one (.iv (.bool true)),e.1,e.2.1],[(gi,.iter gm since (e.2.2::seen) ck (some e.2.2))])):=by
         rw[hxe];unfold yn;simp only[e1,e2,e3,ai];cases eW seen es<;>rfl
        obtain⟨p,hp,v,w',U',hr,b1,b2,b3,b4⟩:=QG hS.st hop hn;have hcont:∃b,jV X all os ⟨cI s.tm o.dst p.1,a7 s.h p.2,s.nx⟩ K/\(∀q∈p.2,q.1<s.nx+b\/s.h q.1≠none)/\b=0:=by
         refine⟨0,?_,?_,rfl⟩
         . cases hl:eW seen es with
           |nil=>
            rw[hl] at hp;simp only[fQ] at hp;subst hp;exact k1 hl
           |cons y l=>
            rw[hl] at hp;obtain⟨e,he,rfl⟩:=List.mem_map.1 hp;exact k2 e (by rw[hl];exact he)
         . intro q hq;cases hl:eW seen es with
           |nil=>
            rw[hl] at hp;simp only[fQ] at hp;subst hp;cases hq
           |cons y l=>
            rw[hl] at hp;obtain⟨e,he,rfl⟩:=List.mem_map.1 hp;simp only[fQ] at hq;subst hq;exact .inr (by rw[e1];simp)
        obtain⟨b,hc,hfr,rfl⟩:=hcont;have hK:wpListIn (FW ro) 0 X.P all Q os (a.put o.dst v) w':=by
         refine ih hc ro E hI w0 nt Q H U' (a.put o.dst v) w' hd' ⟨hS.st.fin hdo (HLe.refl _) b1 b2 b4,by rw[tI];exact hS.mks.keep b3,hS.sm.trans b3,CN (b:=0) hS.fr hfr⟩ fun s2 a2 w2 k hp2=>hQ s2 a2 w2 k (hp2.trans (HLe.refl _) (BLeP.of b1) b3)
        refine sf (fun c hc=>by rw[hop] at hc;cases hc) ?_;unfold Oper.wp;rcases hr with hr|⟨rfl,hr⟩
        . rw[hr];exact hK
        . rw[hr];exact hK
      . exact hk.elim
    . rename_i x hop;obtain⟨r,he,hk⟩:=hk;rw[mI] at hk;refine one (ws:=[]) (b:=0) (tZ (g:=0) (ws:=[]) ?_) (fun p hp=>(by cases hp)) hk;rw[hop];exact he
    . obtain⟨r,ws,b,fp,h1,h2,_,hk⟩:=IS hS.fr hk;rw[bc] at hk;exact one h2 (fun p hp=>(h1 p hp).1) hk
theorem Sq{all:Array Oper}{K:SS->List (Wr×Option (List Nat))->Prop}:∀{os:List Oper} {s:SS} {log:List (Wr×Option (List Nat))},s.fr->nb X all os s log K->
 ∃(recs:List (ES×Le)) (s':SS),recs.length=os.length/\(∀i o x,os[i]?=some o->recs[i]?=some x->qi X all o (ny s.tm ((os.zip recs).take i)) (nA s.h ((os.zip recs).take i)) x)/\
  s'.tm=ny s.tm (os.zip recs)/\s'.h=nA s.h (os.zip recs)/\s'.fr/\(∃lg:List (Wr×Option (List Nat)),recs.map Prod.snd=lg.map (fun p=>g6 p.2 p.1)/\K s' (log.reverse++lg)):=by
 intro os;induction os with
 |nil=>
  intro s log hf hk;exact⟨[],s,rfl,fun i o x h=>(by simp at h),rfl,rfl,hf,[],rfl,by simpa[nb] using hk⟩
 |cons o os ih=>
  intro s log hf hk;unfold nb at hk;have key:∃(r:ES) (ws:Wr) (fp:Option (List Nat)) (b:Nat),qi X all o s.tm s.h (r,g6 fp ws)/\(∀p∈ws,p.1<s.nx+b\/s.h p.1≠none)/\nb X all os ⟨cI s.tm o.dst r,a7 s.h ws,s.nx+b⟩ ((ws,fp)::log) K:=by
   split at hk
   . rename_i hy;exact⟨.und,[],some [],0,⟨.inr ⟨hy,rfl,rfl⟩,fun p hp=>(by cases hp)⟩,fun p hp=>(by cases hp),hk⟩
   . exact hk.elim
   . rename_i hy;obtain⟨r,ws,b,fp,h1,_,h2,hk⟩:=IS hf hk;rw[bc] at hk;refine⟨r,ws,fp,b,⟨.inl ⟨hy,?_⟩,fun p hp=>?_⟩,fun p hp=>(h1 p hp).1,hk⟩
     . simp only[rW];exact h2
     . simp only[rW] at hp;exact(h1 p hp).2
  obtain⟨r,ws,fp,b,hfa,hfr,hk'⟩:=key;obtain⟨recs,s',j1,j2,j3,j4,j5,lg,j6,j7⟩:=ih (s:=⟨cI s.tm o.dst r,a7 s.h ws,s.nx+b⟩) (CN hf hfr) hk';refine⟨(r,g6 fp ws)::recs,s',by simp[j1],fun i o' x hi hx=>?_,?_,?_,j5,(ws,fp)::lg,by simp[j6],by simpa using j7⟩
  . cases i with
    |zero=>simp at hi hx;subst hi;subst hx;exact hfa
    |succ i=>
     have:=j2 i o' x (by simpa using hi) (by simpa using hx);simpa[ny,nA,rW] using this
  . simpa[ny,nA,rW] using j3
  . simpa[ny,nA,rW] using j4
theorem CH{a:Nat}{K:Prop}:∀{l:List Nat},DQ a l K->K/\a∉l
 | [],h=>⟨h,by simp⟩
 |b::l,⟨h1,h2⟩=>⟨(CH h2).1,by simp[h1,(CH h2).2]⟩
theorem Jr{fp:List Nat}{K:Prop}:∀{ws:Wr},DF fp ws K->K/\∀p∈ws,p.1∉fp
 | [],h=>⟨h,fun p hp=>(by cases hp)⟩
 |q::ws,h=>by
  obtain⟨h1,h2⟩:=CH h;obtain⟨h3,h4⟩:=Jr h1;refine⟨h3,fun p hp=>?_⟩;rcases List.mem_cons.1 hp with rfl|hp
  . exact h2
  . exact h4 p hp
theorem TS{fp:Option (List Nat)}{ws:Wr}{K:Prop}(h:Lv fp ws K):K/\∀p∈ws,∀ws',(g6 fp ws').vis p.1=false:=by
 cases fp with
 |none=>exact h.elim
 |some l=>
  obtain⟨h1,h2⟩:=Jr h;refine⟨h1,fun p hp ws'=>?_⟩;unfold g6 Le.vis;simp only[ai];cases hm:bL p.1 l with
  |false=>rfl
  |true=>exact absurd (ji.1 hm) (h2 p hp)
theorem AT{tab:List Nat}{i:Nat}{ws:Wr}{K:Prop}:∀{ls:List (Wr×Option (List Nat))} {k:Nat},uz tab i ws ls k K->K/\∀j l,ls[j]?=some l->dt tab i (k+j)=true\/∀p∈ws,∀ws',(g6 l.2 ws').vis p.1=false
 | [],_,h=>⟨h,fun j l hj=>by simp at hj⟩
 |x::ls,k,h=>by
  unfold uz at h;split at h
  . rename_i hn;obtain⟨h1,h2⟩:=AT h;refine⟨h1,fun j l hj=>?_⟩;cases j with
    |zero=>exact .inl hn
    |succ j=>have:=h2 j l (by simpa using hj);rwa[show k+1+j=k+(j+1) by omega] at this
  . obtain⟨h0,h3⟩:=TS h;obtain⟨h1,h2⟩:=AT h0;refine⟨h1,fun j l hj=>?_⟩;cases j with
    |zero=>simp at hj;subst hj;exact .inr h3
    |succ j=>have:=h2 j l (by simpa using hj);rwa[show k+1+j=k+(j+1) by omega] at this
theorem Bn{tab:List Nat}{all:List (Wr×Option (List Nat))}{K:Prop}:∀{ls:List (Wr×Option (List Nat))} {k:Nat},sk tab all ls k K->K/\∀i x,ls[i]?=some x->∀j l,all[j]?=some l->dt tab (k+i) j=true\/∀p∈x.1,∀ws',(g6 l.2 ws').vis p.1=false
 | [],_,h=>⟨h,fun i x hi=>by simp at hi⟩
 |y::ls,k,h=>by
  unfold sk at h;split at h
  . rename_i hw;obtain⟨h1,h2⟩:=Bn h;refine⟨h1,fun i x hi j l hj=>?_⟩;cases i with
    |zero=>simp at hi;subst hi;exact .inr fun p hp=>by rw[hw] at hp;cases hp
    |succ i=>have:=h2 i x (by simpa using hi) j l hj;rwa[show k+1+i=k+(i+1) by omega] at this
  . obtain⟨h0,h3⟩:=AT h;obtain⟨h1,h2⟩:=Bn h0;refine⟨h1,fun i x hi j l hj=>?_⟩;cases i with
    |zero=>simp at hi;subst hi;simpa using h3 j l hj
    |succ i=>have:=h2 i x (by simpa using hi) j l hj;rwa[show k+1+i=k+(i+1) by omega] at this
theorem RP{rd:Bool}{nt id:Nat}{all:Array Oper}{draw:Bool}{s:SS}{K:SS->Prop}(h0:xG nt all draw=true)(hk:Dn X all draw s K):SW X nP rd nt (.region id all draw) s fun e s'=>e=.normal/\K s':=by
 simp only[xG,aC,fO,eF] at h0;obtain⟨hd,hfl⟩:=h0;intro ro hro E hI hh w0 H U a w Q hS hQ;unfold Dn at hk;cases draw with
 |false=>exact vA (Sp hk ro E hI w0 nt Q H U a w hd hS fun s' a' w' k hp=>hQ .normal s' a' w' ⟨rfl,k⟩ hp)
 |true=>
  simp only at hk;rw[Al] at hk;have hfl:n7 all (jZ all.toList)=true:=hfl.resolve_left (by simp);have hflow:=B5 hfl;obtain⟨recs,s',e1,e2,e3,e4,hfr',lg,hlg,hk⟩:=Sq hS.fr hk;simp only[List.reverse_nil,ku] at hk;obtain⟨hk,hcf⟩:=Bn hk;have hlen:all.toList.length=all.size:=by simp
  let D:Nat->Option Nat:=fun i=>(all[i]?).bind (·.dst)
  have hD:∀i o,all[i]?=some o->D i=o.dst:=fun i o ho=>by simp[D,ho]
  have hD':∀i o,all.toList[i]?=some o->D i=o.dst:=fun i o ho=>hD i o (by simpa using ho);have zf:=KS e1 D hD' s.tm s.h;rw[hlen] at zf;have htk:(all.toList.zip recs).take all.size=all.toList.zip recs:=aH (by simp[e1]);have hall:=zf all.size (ak _);rw[htk] at hall;rw[hall.1] at e3;rw[hall.2] at e4;have t1:iR D (fun i=>recs.getD i default) all.size (fun j=>decide (j<all.size)) s.tm=iR D (fun i=>recs.getD i default) all.size (fun _=>true) s.tm :=
   funext fun t=>lE fun i hi hne=>by have:=List.mem_range.1 hi;simp[this] at hne
  have t2:iS (fun i=>recs.getD i default) all.size (fun j=>decide (j<all.size)) s.h=iS (fun i=>recs.getD i default) all.size (fun _=>true) s.h :=
   funext fun t=>lE fun i hi hne=>by have:=List.mem_range.1 hi;simp[this] at hne
  rw[t1] at e3;rw[t2] at e4;have hrec:∀i,i<all.size->recs[i]?=some (recs.getD i default):=fun i hi=>by
   have:i<recs.length:=by omega
   simp[this]
  refine Mg X.hm (LA (tm:=s.tm) (h:=s.h) hI hd hflow hD (fun i=>recs.getD i default) (fun i o ho=>?_) (fun i j hi hj=>?_) all.size _ (fun _=>false) H U a _ (fun j hj=>?_) ?_ ?_ ?_ ?_ fun H' U' a' w' h1 h2 h3 h4 h5=>hQ .normal s' a' w' ⟨rfl,hk⟩ ⟨H',U',h1,BLeP.of h2,⟨by rw[e3,e4];exact h3,h4,hS.sm.trans h5,hfr'⟩,?_⟩)
  . have hlt:i<all.size:=(Array.getElem?_eq_some_iff.1 ho).1;have:=e2 i o _ (by simpa using ho) (hrec i hlt);rw[(zf i (by omega)).1,(zf i (by omega)).2] at this;exact this
  . have hi':(recs.map Prod.snd)[i]?=some (recs.getD i default).2:=by rw[dw,hrec i hi];rfl
    have hj':(recs.map Prod.snd)[j]?=some (recs.getD j default).2:=by rw[dw,hrec j hj];rfl
    rw[hlg,dw] at hi' hj';obtain⟨p,hp,hp2⟩:=Option.map_eq_some_iff.1 hi';obtain⟨q,hq,hq2⟩:=Option.map_eq_some_iff.1 hj';have:=hcf i p hp j q hq;rw[aX] at this;refine this.imp (fun x=>x) fun hh y hy=>?_;rw[<-hq2];rw[<-hp2,rW] at hy;exact hh y hy _
  . simp[hj]
  . exact aP (oV _ _) (by simp)
  . intro j o _ h;cases h
  . have z1:iR D (fun i=>recs.getD i default) all.size (fun _=>false) s.tm=s.tm:=funext fun t=>pG fun _ _=>rfl;have z2:iS (fun i=>recs.getD i default) all.size (fun _=>false) s.h=s.h:=funext fun t=>pG fun _ _=>rfl;rw[z1,z2];exact⟨hS.st.sim.same rfl rfl rfl rfl,hS.st.slot,hS.st.size⟩
  . exact hS.mks.keep fun _ _=>rfl
  . exact fun Dd hD=>h5 Dd hD
def oe(X:EX)(all:Array Oper):List Oper->(Nat->ES)->Hp->Nat->(SS->Prop)->Prop
 | [],tm,h,nx,K=>K ⟨tm,h,nx⟩
 |o::os,tm,h,nx,K=>match iQ all tm o with
  |some false=>oe X all os (cI tm o.dst .und) h nx K
  |none=>False
  |some true=>match o.op with
   | .next x false=>match aj tm x with
    | .w (.one (.ptr gi 0 0))=>∃gm since seen last cur es ck,h gi=some (.iter gm since seen last cur)/\h gm=some (.map es ck)/\(l9 since es&&(kG seen||(kG es||l7 last es)))=true/\
     (eW seen es=[]->oe X all os (cI tm o.dst (.tup [.one (.iv (.bool false))])) h nx K)/\
     ∀e∈eW seen es,oe X all os (cI tm o.dst (.tup [.one (.iv (.bool true)),e.1,e.2.1])) (aD h gi (some (.iter gm since (e.2.2::seen) ck (some e.2.2)))) nx K
    |_=>False
   | .entry x=>∃r,pR h (aj tm x)=some (r,[])/\kE r fun r=>oe X all os (cI tm o.dst r) h nx K
   |op=>oI X nx op tm h fun r ws b _=>bA (nx+b) fun nx=>oe X all os (cI tm o.dst r) (a7 h ws) nx K
theorem IQ{all:Array Oper}{K:SS->Prop}:∀(os:List Oper) (tm:Nat->ES) (h:Hp) (nx:Nat),oe X all os tm h nx K=jV X all os ⟨tm,h,nx⟩ K
 | [],_,_,_=>rfl
 |o::os,tm,h,nx=>by
  unfold oe jV;simp only[IQ os]<;>rfl
def uG(X:EX)(all:Array Oper):List Oper->(Nat->ES)->Hp->Nat->List (Wr×Option (List Nat))->(SS->List (Wr×Option (List Nat))->Prop)->Prop
 | [],tm,h,nx,log,K=>K ⟨tm,h,nx⟩ log.reverse
 |o::os,tm,h,nx,log,K=>nW (fq all o) fun l=>match iQ all (jo l tm) o with
  |some false=>uG X all os (cI tm o.dst .und) h nx (([],some [])::log) K
  |none=>False
  |some true=>oI X nx o.op (jo l tm) h fun r ws b fp=>bA (nx+b) fun nx=>uG X all os (cI tm o.dst r) (a7 h ws) nx ((ws,fp)::log) K
theorem IR{all:Array Oper}{K:SS->List (Wr×Option (List Nat))->Prop}:∀(os:List Oper) (tm:Nat->ES) (h:Hp) (nx:Nat) (log:List (Wr×Option (List Nat))),uG X all os tm h nx log K=nb X all os ⟨tm,h,nx⟩ log K
 | [],_,_,_,_=>rfl
 |o::os,tm,h,nx,log=>by
  unfold uG nb;rw[Al];simp only[IR os]<;>rfl
def C7(X:EX)(all:Array Oper)(draw:Bool)(s:SS)(K:SS->Prop):Prop :=
 match s,draw with
 |⟨tm,h,nx⟩,false=>oe X all all.toList tm h nx K
 |⟨tm,h,nx⟩,true=>nW (jZ all.toList) fun tab=>uG X all all.toList tm h nx [] fun s' log=>sk tab log log 0 (K s')
theorem RQ{all:Array Oper}{draw:Bool}{s:SS}{K:SS->Prop}:C7 X all draw s K=Dn X all draw s K:=by
 cases s with
 |mk tm h nx=>
  cases draw with
  |false=>exact IQ _ _ _ _
  |true=>
   show(nW _ _)=(nW _ _);simp only[IR]
theorem SW.R{rd:Bool}{nt id:Nat}{all:Array Oper}{draw:Bool}{s:SS}{K:Exit->SS->Prop}(h0:xG nt all draw=true)(hk:C7 X all draw s (K .normal)):SW X nP rd nt (.region id all draw) s K :=
 (RP h0 (RQ▸hk)).mono fun e s h=>by obtain⟨rfl,h⟩:=h;exact h
theorem SW.RS{rd:Bool}{nt id:Nat}{all:Array Oper}{draw:Bool}{y:Code}{s:SS}{K:Exit->SS->Prop}(h0:xG nt all draw=true)(hk:C7 X all draw s fun s'=>SW X nP rd nt y s' K):SW X nP rd nt (.seq (.region id all draw) y) s K :=
 SW.seq (SW.R h0 hk)
def Lx(X:EX)(nP:Nat)(rd:Bool)(nt:Nat)(s:SS)(K:Exit->SS->Prop):Code->Option Prop
 | .seq x y=>some (SW X nP rd nt x s (sK X nP rd nt y K))
 | .block id c=>some (SW X nP rd nt c s (sB id K))
 | .skip=>some (K .normal s)
 | .label _=>some (K .normal s)
 | .ret=>some (K .ret s)
 | .exit id=>some (K (.exit id) s)
 | .cond c x y=>match aj s.tm c with
  | .w (.one (.iv (.bool true)))=>some (SW X nP rd nt x s K)
  | .w (.one (.iv (.bool false)))=>some (SW X nP rd nt y s K)
  |_=>none
 |_=>none
theorem SW.c{rd:Bool}{nt:Nat}{s:SS}{K:Exit->SS->Prop}{c:Code}{P:Prop}(e:Lx X nP rd nt s K c=some P)(h:P):SW X nP rd nt c s K:=by
 unfold Lx at e;split at e
 . cases e;exact SW.seq h
 . cases e;exact SW.block h
 . cases e;exact SW.skip h
 . cases e;exact SW.label h
 . cases e;exact SW.ret h
 . cases e;exact SW.exit h
 . split at e
   . rename_i hc;cases e;exact SW.condT hc h
   . rename_i hc;cases e;exact SW.condF hc h
   . cases e
 . cases e
end
def bB:EV->List Nat
 | .ptr g _ _=>[g]
 | .slc g _ _ _ _=>[g]
 | .clo _ gs=>gs
 | .yld g=>[g]
 | .mp g=>[g]
 |_=>[]
def eB:EW->List Nat
 | .one c=>bB c
 | .agg cs=>cs.flatMap bB
 | .q _ _=>[]
def fb:ES->List Nat
 | .w x=>eB x
 | .tup xs=>xs.flatMap eB
 |_=>[]
def ik(V:Nat->Nat):EV->EV
 | .ptr g u o=>.ptr (V g) u o
 | .slc g u o n c=>.slc (V g) u o n c
 | .clo f gs=>.clo f (gs.map V)
 | .yld g=>.yld (V g)
 | .mp g=>.mp (V g)
 |x=>x
def fW(V:Nat->Nat):EW->EW
 | .one c=>.one (ik V c)
 | .agg cs=>.agg (cs.map (ik V))
 | .q n d=>.q n d
def il(V:Nat->Nat):ES->ES
 | .w x=>.w (fW V x)
 | .tup xs=>.tup (xs.map (fW V))
 |x=>x
def dN(V:Nat->Nat):EO->EO
 | .mem e cs fz vs cnt=>.mem e (cs.map (ik V)) fz vs cnt
 | .map es ck=>.map (es.map fun e=>(fW V e.1,fW V e.2.1,e.2.2)) ck
 | .iter gm since seen last cur=>.iter (V gm) since seen last cur
 |o=>o
theorem BG(V:Nat->Nat)(o:EO):(dN V o).cnt=o.cnt:=by cases o<;>rfl
theorem BF{V:Nat->Nat}{o:EO}:dN V o=.hid↔o=.hid:=by cases o<;>simp[dN]
def OIds(P:Nat->Prop)(V:Nat->Nat):EO->Prop
 | .mem _ cs _ vs _=>∀u p,(u,p)∈vs->∀i∈(cs.take p).flatMap bB,P i
 | .map es _=>∀e∈es,(∀i∈eB e.1,P i)/\∀i∈eB e.2.1,P i
 | .iter gm _ _ _ _=>P gm
 | .loop _ _ tm _ _ _=>∀t,∀i∈fb (tm.sl t),P i/\V i=i
 | .hid=>True
section
variable {Z:QS}{H H':ah}{U U':Bm}{V:Nat->Nat}
theorem CR.rn{v:Value}:∀{x:EV},(∀i∈bB x,∀u,U' (V i) u=U i u)->(CR Z H U v x↔CR Z H U' v (ik V x))
 | .iv _,_=>fR
 | .qc _ _ _,_=>fR
 | .ptr g u off,hb=>by show(∃k,U g u=some k/\_)↔∃k,U' (V g) u=some k/\_;rw[hb g (by simp[bB])]
 | .slc g u off n cap,hb=>by show(∃k c,U g u=some k/\_)↔∃k c,U' (V g) u=some k/\_;rw[hb g (by simp[bB])]
 | .clo f gs,hb=>by
  have hb:∀i∈gs,∀u,U' (V i) u=U i u:=hb;have e1:(∀g∈gs,∃k,U g 0=some k)↔∀g∈gs.map V,∃k,U' g 0=some k:=by
   simp only[D6,forall_exists_index,and_imp,forall_apply_eq_imp_iff₂];exact⟨fun h g hg=>by rw[hb g hg];exact h g hg,fun h g hg=>by rw[<-hb g hg];exact h g hg⟩
  have e2:gs.map (gZ U)=(gs.map V).map (gZ U'):=by
   rw[jF];exact qO fun g hg=>by unfold gZ;simp only[Function.comp];rw[hb g hg]
  show(_/\v=.func (.func f) #[] (gs.map (gZ U)).toArray)↔(_/\v=.func (.func f) #[] ((gs.map V).map (gZ U')).toArray);rw[e2,e1]
 | .yld g,hb=>by show(∃k,U g 0=some k/\_)↔∃k,U' (V g) 0=some k/\_;rw[hb g (by simp[bB])]
 | .mp g,hb=>by show(∃k,U g 0=some k/\_)↔∃k,U' (V g) 0=some k/\_;rw[hb g (by simp[bB])]
 | .dp _ _,_=>fR
theorem CRL.rn:∀{vs:List Value} {xs:List EV},(∀i∈xs.flatMap bB,∀u,U' (V i) u=U i u)->(CRL Z H U vs xs↔CRL Z H U' vs (xs.map (ik V)))
 | [],[],_=>fR
 |v::vs,x::xs,hb=>by
  have h1:=CR.rn (Z:=Z) (H:=H) (v:=v) (x:=x) (U:=U) (U':=U') (V:=V) fun i hi=>hb i (by simp[hi]);have h2:=CRL.rn (vs:=vs) (xs:=xs) fun i hi=>hb i (by simp at hi ⊢;exact .inr hi);show(_/\_)↔(_/\_);rw[h1,h2]
 | [],_::_,_=>fR
 |_::_,[],_=>fR
theorem WR.rn{v:Value}{x:EW}(hb:∀i∈eB x,∀u,U' (V i) u=U i u):WR Z H U v x↔WR Z H U' v (fW V x):=by
 cases x with
 |one c=>exact CR.rn hb
 |agg cs=>
  have h:=fun vs=>CRL.rn (Z:=Z) (H:=H) (vs:=vs) (xs:=cs) hb;exact⟨fun⟨vs,e,k⟩=>⟨vs,e,(h vs).1 k⟩,fun⟨vs,e,k⟩=>⟨vs,e,(h vs).2 k⟩⟩
 |q n d=>exact fR
theorem WRL.rn:∀{vs:List Value} {xs:List EW},(∀i∈xs.flatMap eB,∀u,U' (V i) u=U i u)->(WRL Z H U vs xs↔WRL Z H U' vs (xs.map (fW V)))
 | [],[],_=>fR
 |v::vs,x::xs,hb=>by
  have h1:=WR.rn (Z:=Z) (H:=H) (v:=v) (x:=x) (U:=U) (U':=U') (V:=V) fun i hi=>hb i (by simp[hi]);have h2:=WRL.rn (vs:=vs) (xs:=xs) fun i hi=>hb i (by simp at hi ⊢;exact .inr hi);show(_/\_)↔(_/\_);rw[h1,h2]
 | [],_::_,_=>fR
 |_::_,[],_=>fR
theorem SRe.rn{v:Value}{x:ES}(hb:∀i∈fb x,∀u,U' (V i) u=U i u):SRe Z H U v x↔SRe Z H U' v (il V x):=by
 cases x with
 |unk=>exact fR
 |und=>exact fR
 |w x=>exact WR.rn hb
 |tup xs=>
  have h:=fun vs=>WRL.rn (Z:=Z) (H:=H) (vs:=vs) (xs:=xs) hb;exact⟨fun⟨vs,e,k⟩=>⟨vs,e,(h vs).1 k⟩,fun⟨vs,e,k⟩=>⟨vs,e,(h vs).2 k⟩⟩
theorem SREL.rn:∀{vs:List Value} {xs:List ES},(∀i∈xs.flatMap fb,∀u,U' (V i) u=U i u)->(SREL Z H U vs xs↔SREL Z H U' vs (xs.map (il V)))
 | [],[],_=>fR
 |v::vs,x::xs,hb=>by
  have h1:=SRe.rn (Z:=Z) (H:=H) (v:=v) (x:=x) (U:=U) (U':=U') (V:=V) fun i hi=>hb i (by simp[hi]);have h2:=SREL.rn (vs:=vs) (xs:=xs) fun i hi=>hb i (by simp at hi ⊢;exact .inr hi);show(_/\_)↔(_/\_);rw[h1,h2]
 | [],_::_,_=>fR
 |_::_,[],_=>fR
theorem MRL.rn:∀{vs:List MapEntry} {xs:List (EW×EW×Nat)},(∀e∈xs,(∀i∈eB e.1,∀u,U' (V i) u=U i u)/\∀i∈eB e.2.1,∀u,U' (V i) u=U i u)->(MRL Z H U vs xs↔MRL Z H U' vs (xs.map fun e=>(fW V e.1,fW V e.2.1,e.2.2)))
 | [],[],_=>fR
 |v::vs,x::xs,hb=>by
  have h1:=WR.rn (Z:=Z) (H:=H) (v:=v.key) (U:=U) (U':=U') (V:=V) (hb x (by simp)).1;have h2:=WR.rn (Z:=Z) (H:=H) (v:=v.val) (U:=U) (U':=U') (V:=V) (hb x (by simp)).2;have h3:=MRL.rn (vs:=vs) (xs:=xs) fun e he=>hb e (by simp[he]);show((_/\_/\_)/\_)↔((_/\_/\_)/\_);rw[h1,h2,h3]
 | [],_::_,_=>fR
 |_::_,[],_=>fR
variable {P:Nat->Prop}
theorem OR.rn{own:Nat->Prop}{w:World}{g g':Nat}{o:EO}(hg:∀u,U' g' u=U g u)(hi:OIds P V o)(hP:∀i,P i->∀u,U' (V i) u=U i u):OR Z own w H U g o↔OR Z own w H U' g' (dN V o):=by
 cases o with
 |mem e cs fz vs cnt=>
  show(_/\_)↔(_/\_);have hc:∀(arr:Array Value) u p,(u,p)∈vs->(CRL Z H U (arr.toList.take p) (cs.take p)↔CRL Z H U' (arr.toList.take p) ((cs.map (ik V)).take p)):=fun arr u p hup=>by
   rw[<-zL];exact CRL.rn fun i hi'=>hP i (hi u p hup i hi')
  refine⟨fun h=>⟨fun hf u k hk=>h.1 hf u k (by rw[<-hg];exact hk),fun u p hup=>?_⟩,fun h=>⟨fun hf u k hk=>h.1 hf u k (by rw[hg];exact hk),fun u p hup=>?_⟩⟩
  . obtain⟨h1,k,arr,h2,h3,h4,h5,h6,h7,h8,h9⟩:=h.2 u p hup;exact⟨h1,k,arr,by rw[hg];exact h2,h3,h4,h5,h6,by rw[cT];exact h7,h8,(hc arr u p hup).1 h9⟩
  . obtain⟨h1,k,arr,h2,h3,h4,h5,h6,h7,h8,h9⟩:=h.2 u p hup;exact⟨h1,k,arr,by rw[<-hg];exact h2,h3,h4,h5,h6,by rw[cT] at h7;exact h7,h8,(hc arr u p hup).2 h9⟩
 |map es ck=>
  have hm:=fun ents=>MRL.rn (Z:=Z) (H:=H) (vs:=ents) (xs:=es) (U:=U) (U':=U') (V:=V) fun e he=>⟨fun i hi'=>hP i ((hi e he).1 i hi'),fun i hi'=>hP i ((hi e he).2 i hi')⟩;show(∃k ents,U g 0=some k/\_)↔∃k ents,U' g' 0=some k/\_;rw[hg];exact⟨fun⟨k,ents,h1,h2,h3,h4,h5⟩=>⟨k,ents,h1,h2,h3,h4,(hm _).1 h5⟩,fun⟨k,ents,h1,h2,h3,h4,h5⟩=>⟨k,ents,h1,h2,h3,h4,(hm _).2 h5⟩⟩
 |iter gm since seen last cur=>
  show(∃k km sn,U g 0=some k/\U gm 0=some km/\_)↔∃k km sn,U' g' 0=some k/\U' (V gm) 0=some km/\_;rw[hg,hP gm hi]
 |loop busy nt tm ps assign body=>
  show(∃k L,U g 0=some k/\_)↔∃k L,U' g' 0=some k/\_;rw[hg];have hs:∀(t:Nat) (v:Value),SRe Z H U v (tm.sl t)↔SRe Z H U' v (tm.sl t):=fun t v=>by
   have h1:=SRe.rn (Z:=Z) (H:=H) (v:=v) (x:=tm.sl t) (U:=U) (U':=U') (V:=fun i=>i) fun i hi'=>by
    have:=hP i (hi t i hi').1;rwa[(hi t i hi').2] at this
   have h2:∀x:EV,ik (fun i=>i) x=x:=fun x=>by cases x<;>simp[ik]
   have h2':ik (fun i=>i)=id:=funext h2;have h3:∀x:EW,fW (fun i=>i) x=x:=fun x=>by cases x<;>simp[fW,h2']
   have h3':fW (fun i=>i)=id:=funext h3;have h4:∀x:ES,il (fun i=>i) x=x:=fun x=>by cases x<;>simp[il,h3']
   rwa[h4] at h1
  exact⟨fun⟨k,L,h1,h2,h3,h4,h5,h6,h7,h8,h9,h10,h11⟩=>⟨k,L,h1,h2,h3,h4,h5,h6,h7,h8,h9,h10,fun t=>(hs t _).1 (h11 t)⟩,fun⟨k,L,h1,h2,h3,h4,h5,h6,h7,h8,h9,h10,h11⟩=>⟨k,L,h1,h2,h3,h4,h5,h6,h7,h8,h9,h10,fun t=>(hs t _).2 (h11 t)⟩⟩
 |hid=>exact fR
end
structure Ren(h h':Hp)(Y:Nat->Option Nat)(V:Nat->Nat):Prop where
 inj:∀g g' x,Y g=some x->Y g'=some x->g=g'
 get:∀g g0,Y g=some g0->h' g=(h g0).map (dN V)
 non:∀g,Y g=none->h' g=none
 ids:∀g g0 o,Y g=some g0->h g0=some o->OIds (fun i=>Y (V i)=some i) V o
theorem ESim.rn{Z:QS}{E:EEnv}{H:ah}{U:Bm}{h h':Hp}{w:World}{Y:Nat->Option Nat}{V:Nat->Nat}(hS:ESim Z E H U h w)(R:Ren h h' Y V)(hE:∀g,E.hid g->Y g=some g) :
 ∃ U',(∀g g0,Y g=some g0->∀u,U' g u=U g0 u)/\ESim Z E H U' h' w:=by
 obtain⟨U',hβ'⟩:∃ U':Bm,∀g u,U' g u=match Y g with|some g0=>U g0 u|none=>none:=⟨_,fun _ _=>rfl⟩
 have hβ:∀g g0,Y g=some g0->∀u,U' g u=U g0 u:=fun g g0 e u=>by rw[hβ',e]
 refine⟨U',hβ,hS.has,hS.below,hS.lo,hS.ext,fun g o hg=>?_,fun g u k hk=>?_,fun g1 g2 u1 u2 k1 k2 e1 e2 he=>?_,fun g hg=>?_⟩
 . cases hσ:Y g with
   |none=>rw[R.non g hσ] at hg;cases hg
   |some g0=>
    rw[R.get g g0 hσ] at hg;cases ho:h g0 with
    |none=>rw[ho] at hg;cases hg
    |some o0=>
     rw[ho] at hg;simp only[eU,ae] at hg;subst hg;exact(OR.rn (hβ g g0 hσ) (R.ids g g0 o0 hσ ho) fun i hi u=>hβ _ _ hi u).1 (hS.obj g0 o0 ho)
 . cases hσ:Y g with
   |none=>rw[hβ',hσ] at hk;cases hk
   |some g0=>
    rw[hβ g g0 hσ] at hk;obtain⟨a,o,b,c⟩:=hS.dom g0 u k hk;exact⟨a,dN V o,by rw[R.get g g0 hσ,b];rfl,c.imp (fun e=>BF.2 e) fun c=>⟨c.1,by rw[BG];exact c.2⟩⟩
 . cases h1:Y g1 with
   |none=>rw[hβ',h1] at e1;cases e1
   |some x1=>cases h2:Y g2 with
    |none=>rw[hβ',h2] at e2;cases e2
    |some x2=>
     rw[hβ g1 x1 h1] at e1;rw[hβ g2 x2 h2] at e2;have:=hS.inj _ _ _ _ _ _ e1 e2 he;subst this;exact R.inj g1 g2 x1 h1 h2
 . have hs:=hE g hg;rw[R.get g g hs,(hS.hidb g hg).1];exact⟨rfl,fun u=>by rw[hβ g g hs];exact(hS.hidb g hg).2 u⟩
def ResR(Y:Nat->Option Nat)(rf r:ES):Prop:=∀(Z:QS) (H:ah) (U U':Bm) (v:Value),(∀g g0,Y g=some g0->∀u,U' g u=U g0 u)->SRe Z H U v rf->SRe Z H U' v r
theorem ResR.unk{Y:Nat->Option Nat}{r:ES}:ResR Y r .unk:=fun _ _ _ _ _ _ _=>trivial
theorem ResR.rn{Y:Nat->Option Nat}{V:Nat->Nat}{r:ES}(h:∀i∈fb r,Y (V i)=some i):ResR Y r (il V r):=fun Z H U U' v hb hv=>(SRe.rn fun i hi=>hb _ _ (h i hi)).1 hv
section
variable {X:EX}{nP:Nat}{rd:Bool}{nt:Nat}{s:SS}{K:Exit->SS->Prop}
theorem Vn{c:Code}{s':SS}{Y:Nat->Option Nat}{V:Nat->Nat}(R:Ren s.h s'.h Y V)(ht:∀t,ResR Y (s.tm t) (s'.tm t))(hp:∀g,g<nP->Y g=some g)(hf:s'.fr)(h:SW X nP rd nt c s' K):SW X nP rd nt c s K:=fun ro hro E hI hh w0 H U a w Q hS hQ=>by
 obtain⟨U',k1,k2⟩:=hS.st.sim.rn R fun g hg=>hp g (hh g hg);refine h ro hro E hI hh w0 H U' a w Q ⟨⟨k2,fun t=>ht t _ _ _ _ _ k1 (hS.st.slot t),hS.st.size⟩,hS.mks,hS.sm,hf⟩ fun e s2 a' w' k hp'=>hQ e s2 a' w' k ?_;obtain⟨H2,β2,j1,j2,j3,j4⟩:=hp';exact⟨H2,β2,j1,fun g u k hg hk=>j2 g u k hg (by rw[k1 g g (hp g hg)];exact hk),j3,j4⟩
end
def argS(args:List ES)(t:Nat):ES:=args.getD t .und
theorem T0{Z:QS}{H:ah}{U:Bm}{args:List ES}{vs:List Value}{n:Nat}(hv:SREL Z H U vs args):∀t,SRe Z H U ((vs.toArray++Array.replicate (n-vs.toArray.size) undef).getD t undef) (argS args t):=fun t=>by
 have hlen:=hv.length;by_cases ht:t<args.length
 . obtain⟨v,h1,h2⟩:=hv.get t (args[t]) (by simp[ht]);have hlt:t<vs.length:=by omega
   have:(vs.toArray++Array.replicate (n-vs.toArray.size) undef).getD t undef=v:=by
    simp[jd,hlt];exact(List.getElem?_eq_some_iff.1 h1).2
   rw[this];have e2:argS args t=args[t]:=by simp[argS,ht]
   rw[e2];exact h2
 . have e2:argS args t=.und:=by simp[argS,ht]
   rw[e2];show _=undef;have hge:¬t<vs.length:=by omega
   simp[jd,hge,vE];split<;>rfl
def iJ(X:EX)(rs:List ResultVar)(F:Hp->ES->Prop):Exit->SS->Prop
 | .normal,s=>match gC X.T X.Z s.tm s.h rs with
  |some xs=>F s.h (ju xs)
  |none=>False
 | .ret,s=>match gC X.T X.Z s.tm s.h rs with
  |some xs=>F s.h (ju xs)
  |none=>False
 |_,_=>False
theorem Pb{X:EX}{rs:List ResultVar}{F:Hp->ES->Prop}{e:Exit}{s:SS}(h:iJ X rs F e s):(e=.normal\/e=.ret)/\∃xs,gC X.T X.Z s.tm s.h rs=some xs/\F s.h (ju xs):=by
 cases e with
 |normal=>
  simp only[iJ] at h;split at h
  . exact⟨.inl rfl,_,by assumption,h⟩
  . exact h.elim
 |ret=>
  simp only[iJ] at h;split at h
  . exact⟨.inr rfl,_,by assumption,h⟩
  . exact h.elim
 |_=>exact h.elim
section
variable {X:EX}{nP:Nat}
theorem yx{f:FuncId}{fn:Func}{c:Code}(hf:X.P.funcs[f]?=some fn)(hb:fn.body=some c){args:List ES}(hx:args.length<=fn.ntmps){h:Hp}{nx:Nat}(hfr:∀g,nx<=g->h g=none){F:Hp->ES->Prop}
 (hw:SW X nP false fn.ntmps c ⟨argS args,h,nx⟩ (iJ X fn.results.toList F)) {E:EEnv} (hI:∀w',BelowO E.own E.w0 w'->X.I w') (hh:∀g,E.hid g->g<nP) {H:ah} {U:Bm} {w:World} {vs:List Value} (hS:ESim X.Z E H U h w) (hv:SREL X.Z H U vs args) {R:Ending->World->Prop}
 (hR:∀v H' U' hp' rf w',HLe H H'->BLeP nP U U'->ESim X.Z E H' U' hp' w'->MarkSame w w'->SRe X.Z H' U' v rf->F hp' rf->R (.returned v) w'):Calls X.P f vs.toArray w R:=by
 have hlen:=hv.length;refine(vw (n:=0)).1 (vB hf hb trivial ?_);refine hw none (fun _=>rfl) E hI hh w H U _ w _ ⟨⟨hS,T0 hv,?_⟩,MarksOk.nil _ _,MarkSame.refl _,hfr⟩ fun e s1 a0 w1 hk hp=>?_
 . show(vs.toArray++Array.replicate (fn.ntmps-vs.toArray.size) undef).size=fn.ntmps;simp;omega
 . obtain⟨H1,β1,p1,p2,p3,p4⟩:=hp;obtain⟨hne,xs,hr,hF⟩:=Pb hk;have fin:LeavesInM (FW none) 0 X.P fn a0.tmps R a0.defers .returning w1:=by
    refine BX a0.defers p3.st.sim p3.mks p3.sm fun w' hS' hm'=>?_;obtain⟨us,e1,Vz9⟩:=xb hS' p3.st.slot hr;refine⟨(if h:us.toArray.size=1 then us.toArray[0] else .tuple us.toArray),?_,hR _ H1 β1 s1.h (ju xs) w' p1 p2 hS' hm' (IU Vz9) hF⟩;unfold results;have e0:(fn.results.mapM fun | .tmp t=>pure (a0.tmps.getD t undef) | .cell a t=>do loadVar t (<- asAddr (a0.tmps.getD a undef)):Sem (Array Value))=List.toArray <$> fn.results.toList.mapM (lY a0.tmps):=by
     rw[Ee];rfl
    refine(congrArg (fun(x:Sem (Array Value))=>(x >>= fun vs=>pure (if h:vs.size=1 then vs[0] else .tuple vs)).run X.P w') e0).trans ?_;simp only[av,Ef,e1,au,ay]
   rcases hne with rfl|rfl
   . exact fin
   . exact fin
def RetR(nP:Nat)(hf:Hp)(rf:ES)(h':Hp)(r:ES):Prop:=∃ Y V,Ren hf h' Y V/\(∀g,g<nP->Y g=some g)/\ResR Y rf r
theorem W1{f:FuncId}{fn:Func}{c:Code}(hf:X.P.funcs[f]?=some fn)(hb:fn.body=some c)(hn:(fn.name == "runtime.NumGoroutine")=false){args:List ES}(hx:Nat.ble args.length fn.ntmps=true){h h':Hp}{r:ES}(hfr:∀g,nP<=g->h g=none)
 (hw:SW X nP false fn.ntmps c ⟨argS args,h,nP⟩ (iJ X fn.results.toList fun hp rf=>RetR nP hp rf h' r)):CallOk X f args h r h':=by
 refine⟨⟨fn,hf,hn,by rw[hb];rfl⟩,fun E hI H U w vs hS hv=>?_⟩;have hlt:∀g,h g≠none->g<nP:=fun g hg=>by
  rcases eS g nP with h1|h1
  . exact h1
  . exact absurd (hfr g h1) hg
 have hh:∀g,E.hid g->g<nP:=fun g hg=>hlt g (by rw[(hS.hidb g hg).1];simp);refine yx hf hb (aB hx) hfr hw hI hh hS hv fun v H' U' hp' rf w' h1 h2 h3 h4 h5 h6=>?_;obtain⟨Y,V,R,hpin,hr⟩:=h6;obtain⟨β2,k1,k2⟩:=h3.rn R fun g hg=>hpin g (hh g hg);refine⟨v,H',β2,rfl,h1,fun g u k hk=>?_,k2,h4,hr _ _ _ _ _ k1 h5⟩;have hg:g<nP:=by
  obtain⟨_,o,ho,_⟩:=hS.dom g u k hk;exact hlt g (by rw[ho];simp)
 rw[k1 g g (hpin g hg)];exact h2 g u k hg hk
theorem WRL.data{Z:QS}{H:ah}{U:Bm}:∀{vs:List Value} {xs:List IV},(xs.all fun x=>!x.isTup)=true->WRL Z H U vs (xs.map dW)->VRL H vs xs
 | [],[],_,_=>.nil
 |v::vs,x::xs,hn,⟨h1,h2⟩=>by
  simp only[ed,aC,eF] at hn;refine VRL.cons _ _ _ _ (Ck (Z:=Z) (U:=U) ?_ hn.1) (WRL.data hn.2 h2);have e:dS x=.w (dW x):=by cases x<;>first|rfl|simp[IV.isTup] at hn
  rw[e];exact h1
 | [],_::_,_,h=>h.elim
 |_::_,[],_,h=>h.elim
theorem Rm{Z:QS}{H:ah}{U:Bm}{v:Value}{x:IV}(h:SRe Z H U v (dS x))(ht:qG x=true):VR H v x:=by
 cases hx:x.isTup with
 |false=>exact Ck h hx
 |true=>
  cases x<;>first|(simp[IV.isTup] at hx;done)|skip
  rename_i xs;obtain⟨vs,rfl,h1⟩:=h;exact .tup vs xs (WRL.data ht h1)
theorem SREL.ofData{H:ah}{U:Bm}:∀{vs:List Value} {xs:List IV},VRL H vs xs->jn xs=true->SREL X.Z H U vs (xs.map dS)
 |_,_,.nil,_=>trivial
 |_,_,.cons v x vs xs h t,hn=>by
  simp only[jn,ed,aC,eF] at hn;exact⟨yu h hn.1,SREL.ofData t hn.2⟩
theorem Vz(hbel:∀n w w',X.I w->w.heap.size<=n->Below n w w'->X.I w'){f:FuncId}{fn:Func}{c:Code}(hf:X.P.funcs[f]?=some fn)(hb:fn.body=some c)(hn:(fn.name == "runtime.NumGoroutine")=false){xs:List IV}{r:IV}(hx:Nat.ble xs.length fn.ntmps=true)(hxt:jn xs=true)(hrt:qG r=true)
 (hw:SW X 0 false fn.ntmps c ⟨argS (xs.map dS),fun _=>none,0⟩ (iJ X fn.results.toList fun _ rf=>rf=dS r)):aY X.P X.I f xs r:=by
 refine⟨⟨fn,hf,hn,by rw[hb];rfl⟩,fun H w args hIw hH hv=>?_⟩;have hS:ESim X.Z ⟨fun k=>w.heap.size<=k,w,H,fun _=>False,fun _ _=>none⟩ H (fun _ _=>none) (fun _=>none) w :=
  ⟨hH,BelowO.refl _ _,fun k hk=>hk,HExtO.refl _ _,fun g o h=>(by cases h),fun g u k h=>(by cases h),fun g g' u u' k k' h=>(by cases h),fun g h=>h.elim⟩
 refine yx hf hb (by simpa using aB hx) (fun _ _=>rfl) hw (fun w' hb'=>hbel _ w w' hIw (ak _) hb'.below) (fun _ (h:False)=>h.elim) hS (SREL.ofData hv hxt) fun v H' U' hp' rf w' h1 h2 h3 h4 h5 h6=>?_;subst h6;exact⟨v,H',rfl,h3.has,h3.ext,Rm h5 hrt,h3.below.below⟩
end
theorem zY{Z:QS}{H:ah}{U:Bm}{sz:Nat}:∀{es:List IV} {us:List Value},dT sz es=true->CRL Z H U us ((es.flatMap IV.cells).map .iv)->∃vs,VRL H vs es/\aO vs=us/\∀v∈vs,v.cells.size=sz
 | [],us,_,h=>by
  cases us with
  |nil=>exact⟨[],.nil,rfl,by simp⟩
  |cons=>exact h.elim
 |x::es,us,hs,h=>by
  simp only[dT,ed,aC,eF] at hs;obtain⟨⟨h1,h2⟩,h3⟩:=hs;have h1:=aw h1;rw[dz,ch] at h;have hl:=h.length;have ht:=h.take sz;have hd:=h.drop sz;have hxl:(x.cells.map EV.iv).length=sz:=by simp[h1]
  rw[jD (by omega),show(x.cells.map EV.iv).take sz=x.cells.map EV.iv from aH (by omega)] at ht;rw[Xm (by omega),show(x.cells.map EV.iv).drop sz=[] from kW (by omega),ku] at hd;obtain⟨vs,k1,k2,k3⟩:=zY (es:=es) h3 hd;obtain⟨t1,t2⟩:=ui ht;have hv:∃v,VR H v x/\v.cells.toList=us.take sz:=by
   cases hx:x.isAgg with
   |true=>
    cases x<;>first|(simp[IV.isAgg] at hx;done)|skip
    rename_i cs;exact⟨.agg (us.take sz).toArray,.agg _ _ t1 t2,by simp[Value.cells]⟩
   |false=>
    have e:x.cells=[x]:=by cases x<;>first|rfl|simp[IV.isAgg] at hx
    rw[e] at t1;obtain⟨v,hv,hvx⟩:∃v,us.take sz=[v]/\VR H v x:=by
     generalize us.take sz=l at t1;cases t1 with
     |cons v _ l _ a b=>cases b;exact⟨v,rfl,a⟩
    refine⟨v,hvx,?_⟩;rw[hv];have:v.oneCell'=true:=t2 v (by rw[hv];simp);rw[(VR.of_one hvx this).1]
  obtain⟨v,hvx,hvc⟩:=hv;refine⟨v::vs,.cons _ _ _ _ hvx k1,?_,fun u hu=>?_⟩
  . show v.cells.toList++aO vs=us;rw[hvc,k2,ks]
  . rcases List.mem_cons.1 hu with rfl|hu
    . rw[<-h1,hvx.size]
    . exact k3 u hu
theorem ESim.freeze{Z:QS}{E:EEnv}{H:ah}{U:Bm}{h:Hp}{w:World}(hS:ESim Z E H U h w){g u p:Nat}{e:TypeId}{cs:List EV}{vs:List (Nat×Nat)}{cnt:Nat}(hg:h g=some (.mem e cs false vs cnt))(hv:(u,p)∈vs) :
 ∃H' k arr,U g u=some k/\HLe H H'/\ESim Z E H' U (aD h g (some .hid)) w/\H' k.1=some arr/\CRL Z H U (arr.toList.take p) (cs.take p)/\p<=cs.length/\p<=arr.size:=by
 obtain⟨hn,hall⟩:=hS.obj g _ hg;obtain⟨h1,k,arr,h2,h3,h4,h5,h6,h7,h8,h9⟩:=hall u p hv;simp only[cM,bE] at h4;have hsame:aD H k.1 (some arr) k.1=some arr:=aT _ _ _;have hle:HLe H (aD H k.1 (some arr)):=fun b a ha=>by
  by_cases e':b=k.1
  . rw[e',h4] at ha;cases ha
  . rw[aG _ _ _ e'];exact ha
 refine⟨aD H k.1 (some arr),k,arr,h2,hle,⟨fun b a ha=>?_,hS.below,hS.lo,hS.ext.step (own':=fun b=>b=k.1) ⟨hle,fun b a ha=>?_⟩ (fun b hb=>by rw[hb];exact h3),fun g' o hg'=>?_,fun g' u' k' hk'=>?_,hS.inj,fun g' hg'=>?_⟩,hsame,h9,h7,h8⟩
 . by_cases e':b=k.1
   . rw[e',hsame] at ha;cases ha;rw[e'];exact⟨_,_,h5⟩
   . rw[aG _ _ _ e'] at ha;exact hS.has b a ha
 . by_cases e':b=k.1
   . exact .inr e'
   . rw[aG _ _ _ e'] at ha;exact .inl ha
 . by_cases e':g'=g
   . subst e';rw[aT] at hg';cases hg';trivial
   . rw[aG _ _ _ e'] at hg';refine(hS.obj g' o hg').keep (fun _ _ _=>rfl) (fun u' k' hk' hn'=>?_) hle (BLe.refl _) (fun _=>rfl);rw[aG _ _ _ fun e2=>e' (hS.inj _ _ _ _ _ _ hk' h2 e2)];exact hn'
 . obtain⟨a,o,b,c⟩:=hS.dom g' u' k' hk';by_cases e':g'=g
   . subst e';exact⟨a,.hid,aT _ _ _,.inl rfl⟩
   . exact⟨a,o,by rw[aG _ _ _ e'];exact b,c⟩
 . have hne:g'≠g:=fun e'=>by
    have:=(hS.hidb g' hg').1;rw[e',hg] at this;cases this
   exact⟨by rw[aG _ _ _ hne];exact(hS.hidb g' hg').1,(hS.hidb g' hg').2⟩
section
variable {X:EX}{nP:Nat}{rd:Bool}{nt:Nat}{s:SS}{K:Exit->SS->Prop}
end
def oF:List (Nat×ES)->Nat->ES
 | [],_=>.unk
 | (k,v)::l,t=>bif Nat.beq t k then v else oF l t
def cJ:List (Nat×EO)->Hp
 | [],_=>none
 | (k,o)::l,g=>bif Nat.beq g k then some o else cJ l g
def ba(l:List (Nat×ES))(m:List (Nat×EO))(nx:Nat):SS:=⟨oF l,cJ m,nx⟩
def dR:List (Nat×Nat)->Nat->Nat
 | [],g=>g
 | (n,o)::r,g=>bif Nat.beq g n then o else dR r g
def iE:List (Nat×Nat)->Nat->Nat
 | [],g=>g
 | (n,o)::r,g=>bif Nat.beq g o then n else iE r g
def fE:List (Nat×EO)->Nat->Bool
 | [],_=>false
 | (k,_)::m,g=>Nat.beq g k||fE m g
def m6(r:List (Nat×Nat))(m:List (Nat×EO))(i:Nat):Bool:=fE m (iE r i)&&Nat.beq (dR r (iE r i)) i
def m7(r:List (Nat×Nat))(m:List (Nat×EO))(g:Nat):Option Nat:=match fE m g with
 |true=>some (dR r g)
 |false=>none
theorem GV{r:List (Nat×Nat)}{m:List (Nat×EO)}{i:Nat}(h:m6 r m i=true):m7 r m (iE r i)=some i:=by
 simp only[m6,aC] at h;unfold m7;rw[h.1,aw h.2]
def yl(p:Nat->Bool):EO->Bool
 | .mem _ cs _ _ _=>(cs.flatMap bB).all p
 | .map es _=>es.all fun e=>(eB e.1).all p&&(eB e.2.1).all p
 | .iter gm _ _ _ _=>p gm
 | .loop .. => false
 | .hid=>true
def ig:EO->Prop
 | .mem _ cs _ _ _=>cs.flatMap bB=[]
 | .map es _=>∀e∈es,eB e.1=[]/\eB e.2.1=[]
 | .iter .. => False
 | .loop .. => False
 | .hid=>True
theorem Fe{V:Nat->Nat}:∀{x:EV},bB x=[]->ik V x=x
 | .clo f gs,h=>by
  have h:gs=[]:=h;subst h;rfl
 | .iv _,_=>rfl
 | .qc _ _ _,_=>rfl
 | .dp _ _,_=>rfl
 | .ptr _ _ _,h=>by cases h
 | .slc _ _ _ _ _,h=>by cases h
 | .yld _,h=>by cases h
 | .mp _,h=>by cases h
theorem z8{V:Nat->Nat}:∀{cs:List EV},cs.flatMap bB=[]->cs.map (ik V)=cs
 | [],_=>rfl
 |c::cs,h=>by
  simp only[dz,vQ] at h;rw[aS,Fe h.1,z8 h.2]
theorem v7{V:Nat->Nat}{x:EW}(h:eB x=[]):fW V x=x:=by
 cases x with
 |one c=>rw[fW,Fe h]
 |agg cs=>rw[fW,z8 h]
 |q=>rfl
theorem E5{V:Nat->Nat}:∀{xs:List EW},xs.flatMap eB=[]->xs.map (fW V)=xs
 | [],_=>rfl
 |c::cs,h=>by
  simp only[dz,vQ] at h;rw[aS,v7 h.1,E5 h.2]
theorem Ac{V:Nat->Nat}{x:ES}(h:fb x=[]):il V x=x:=by
 cases x with
 |unk=>rfl
 |und=>rfl
 |w x=>rw[il,v7 h]
 |tup xs=>rw[il,E5 h]
theorem Ao{V:Nat->Nat}{o:EO}(h:ig o):dN V o=o:=by
 cases o with
 |mem e cs fz vs cnt=>rw[dN,z8 h]
 |map es ck=>
  rw[dN];congr 1;conv=>rhs;rw[<-MI es]
  refine qO fun e he=>?_;rw[v7 (h e he).1,v7 (h e he).2];rfl
 |iter=>exact h.elim
 |loop=>exact h.elim
 |hid=>rfl
theorem tC{cs:List EV}{p i:Nat}(h:i∈(cs.take p).flatMap bB):i∈cs.flatMap bB:=by
 obtain⟨c,hc,hi⟩:=List.mem_flatMap.1 h;exact List.mem_flatMap.2 ⟨c,dH hc,hi⟩
theorem wg{P:Nat->Prop}{V:Nat->Nat}{o:EO}(h:ig o):OIds P V o:=by
 cases o with
 |mem e cs fz vs cnt=>
  intro u p _ i hi;have hi:=tC hi;have h:cs.flatMap bB=[]:=h;rw[h] at hi;cases hi
 |map es ck=>exact fun e he=>⟨fun i hi=>(by rw[(h e he).1] at hi;cases hi),fun i hi=>(by rw[(h e he).2] at hi;cases hi)⟩
 |iter=>exact h.elim
 |loop=>exact h.elim
 |hid=>trivial
theorem Gm{p:Nat->Bool}{P:Nat->Prop}{V:Nat->Nat}(hp:∀i,p i=true->P i){o:EO}(h:yl p o=true):OIds P V o:=by
 cases o with
 |mem e cs fz vs cnt=>exact fun u q _ i hi=>hp i (List.all_eq_true.1 h i (tC hi))
 |map es ck=>
  intro e he;have:=List.all_eq_true.1 h e he;simp only[aC] at this;exact⟨fun i hi=>hp i (List.all_eq_true.1 this.1 i hi),fun i hi=>hp i (List.all_eq_true.1 this.2 i hi)⟩
 |iter=>exact hp _ h
 |loop=>cases h
 |hid=>trivial
inductive SlotOk(r:List (Nat×Nat))(m:List (Nat×EO)):ES->ES->Prop
 |rn {x y:ES} (h:il (iE r) x=y) (hi:(fb x).all (m6 r m)=true):SlotOk r m x y
 |same {x y:ES} (h:x=y) (hi:fb x=[]):SlotOk r m x y
inductive BoxOk(r:List (Nat×Nat))(m:List (Nat×EO)):Option EO->EO->Prop
 |rn {x:Option EO} {o0 o:EO} (h:x=some o0) (h2:dN (iE r) o0=o) (hi:yl (m6 r m) o0=true):BoxOk r m x o
 |same {x:Option EO} {o:EO} (h:x=some o) (hc:ig o):BoxOk r m x o
def Cr(r:List (Nat×Nat))(m:List (Nat×EO))(tm:Nat->ES):List (Nat×ES)->Prop
 | []=>True
 | (t,v)::l=>SlotOk r m (tm t) v/\Cr r m tm l
def yb(r:List (Nat×Nat))(m:List (Nat×EO))(h:Hp):List (Nat×EO)->Prop
 | []=>True
 | (g,o)::l=>BoxOk r m (h (dR r g)) o/\yb r m h l
def ym(x:Nat):List Nat->Bool
 | []=>true
 |y::l=>!Nat.beq x y&&ym x l
def lQ:List Nat->Bool
 | []=>true
 |x::l=>ym x l&&lQ l
def uF(r:List (Nat×Nat))(m:List (Nat×EO)):Nat->Bool
 |0=>true
 |n+1=>fE m n&&Nat.beq (dR r n) n&&uF r m n
def mR(nx:Nat):List (Nat×EO)->Bool
 | []=>true
 | (g,_)::m=>Nat.blt g nx&&mR nx m
def To(nP:Nat)(s s':SS):Prop:=∃ Y V,Ren s.h s'.h Y V/\(∀t,ResR Y (s.tm t) (s'.tm t))/\(∀g,g<nP->Y g=some g)/\s'.fr
theorem A8{x y:Nat}:∀{l:List Nat},ym x l=true->y∈l->x≠y
 |z::l,h,hy=>by
  simp only[ym,aC,eF] at h;rcases List.mem_cons.1 hy with rfl|hy
  . intro e;subst e;rw[bj] at h;cases h.1
  . exact A8 h.2 hy
theorem rK{m:List (Nat×EO)}{g:Nat}(h:fE m g=true):∃o,(g,o)∈m/\cJ m g=some o:=by
 induction m with
 |nil=>cases h
 |cons p m ih=>
  obtain⟨k,o⟩:=p;simp only[fE,fO] at h;unfold cJ;cases hb:Nat.beq g k with
  |true=>exact⟨o,by rw[aw hb];simp,rfl⟩
  |false=>
   rw[hb] at h;obtain⟨o',h1,h2⟩:=ih (h.resolve_left (by simp));exact⟨o',dx _ h1,h2⟩
theorem Hy{m:List (Nat×EO)}{g:Nat}(h:fE m g=false):cJ m g=none:=by
 induction m with
 |nil=>rfl
 |cons p m ih=>
  obtain⟨k,o⟩:=p;simp only[fE,MJ] at h;unfold cJ;rw[h.1,aW];exact ih h.2
theorem Ap{r:List (Nat×Nat)}{m:List (Nat×EO)}{h:Hp}{g:Nat}{o:EO}:∀{l:List (Nat×EO)},yb r m h l->(g,o)∈l->BoxOk r m (h (dR r g)) o
 | (k,o')::l,⟨h1,h2⟩,hm=>by
   rcases List.mem_cons.1 hm with e|hm
   . cases e;exact h1
   . exact Ap h2 hm
theorem AD{f:Nat->Nat}:∀{m:List (Nat×EO)},lQ (m.map fun p=>f p.1)=true->∀{g g':Nat},fE m g=true->fE m g'=true->f g=f g'->g=g'
 | [],_,g,g',h,_,_=>by cases h
 | (k,o)::m,h,g,g',h1,h2,he=>by
   simp only[aS,lQ,aC] at h;simp only[fE,fO] at h1 h2;have key:∀{x:Nat},fE m x=true->f k≠f x:=fun{x} hx=>by
    obtain⟨o',hm,_⟩:=rK hx;exact A8 h.1 (List.mem_map.2 ⟨(x,o'),hm,rfl⟩)
   rcases h1 with h1|h1
   . have e1:=aw h1;rcases h2 with h2|h2
     . rw[e1,aw h2]
     . subst e1;exact absurd he (key h2)
   . rcases h2 with h2|h2
     . have e2:=aw h2;subst e2;exact absurd he.symm (key h1)
     . exact AD h.2 h1 h2 he
theorem wA{nx:Nat}:∀{m:List (Nat×EO)},mR nx m=true->∀g,nx<=g->cJ m g=none
 | [],_,_,_=>rfl
 | (k,o)::m,h,g,hg=>by
   simp only[mR,aC] at h;have hk:k<nx:=by have:=h.1;rwa[cR] at this
   unfold cJ;rw[eO (by omega),aW];exact wA h.2 g hg
theorem G8{r:List (Nat×Nat)}{m:List (Nat×EO)}:∀{n:Nat},uF r m n=true->∀g,g<n->m7 r m g=some g
 |n+1,h,g,hg=>by
  simp only[uF,aC] at h;rcases Nat.lt_succ_iff_lt_or_eq.1 hg with h1|h1
  . exact G8 h.2 g h1
  . subst h1;unfold m7;rw[h.1.1,aw h.1.2]
theorem To.tab{nP:Nat}{s:SS}(r:List (Nat×Nat)){l:List (Nat×ES)}{m:List (Nat×EO)}{nx:Nat}(h1:Cr r m s.tm l)(h2:yb r m s.h m)(h3:(lQ (m.map fun p=>dR r p.1)&&(uF r m nP&&mR nx m))=true):To nP s (ba l m nx):=by
 simp only[aC] at h3;have hσ:∀{g g0:Nat},m7 r m g=some g0->fE m g=true/\dR r g=g0:=fun{g g0} h=>by
  unfold m7 at h;split at h
  . rename_i hk;simp only[ae] at h;exact⟨hk,h⟩
  . cases h
 refine⟨m7 r m,iE r,⟨fun g g' x e1 e2=>?_,fun g g0 e=>?_,fun g e=>?_,fun g g0 o e ho=>?_⟩,fun t=>?_,G8 h3.2.1,wA h3.2.2⟩
 . obtain⟨a1,a2⟩:=hσ e1;obtain⟨b1,b2⟩:=hσ e2;exact AD h3.1 a1 b1 (by rw[a2,b2])
 . obtain⟨a1,rfl⟩:=hσ e;obtain⟨o,hm,ht⟩:=rK a1;show cJ m g=_;rw[ht];cases Ap h2 hm with
   |rn h h' hi=>rw[h,<-h'];rfl
   |same h hc=>rw[h];show _=some _;rw[Ao hc]
 . refine Hy ?_;unfold m7 at e;split at e
   . cases e
   . assumption
 . obtain⟨a1,rfl⟩:=hσ e;obtain⟨o',hm,ht⟩:=rK a1;cases Ap h2 hm with
   |rn h h' hi=>rw[h] at ho;cases ho;exact Gm (fun i hi=>GV hi) hi
   |same h hc=>rw[h] at ho;cases ho;exact wg hc
 . show ResR _ _ (oF l t);induction l with
   |nil=>exact ResR.unk
   |cons p l ih=>
    obtain⟨k,v⟩:=p;unfold oF;cases hb:Nat.beq t k with
    |true=>
     have:=aw hb;subst this;cases h1.1 with
     |rn h hi=>
      rw[ai,<-h];exact ResR.rn fun i hi'=>GV (List.all_eq_true.1 hi i hi')
     |same h hi=>
      rw[ai,<-h];have:=ResR.rn (Y:=m7 r m) (V:=iE r) (r:=s.tm t) fun i hi'=>by rw[hi] at hi';cases hi'
      rwa[Ac hi] at this
    |false=>exact ih h1.2
section
variable {X:EX}{nP:Nat}{rd:Bool}{nt:Nat}{s:SS}{K:Exit->SS->Prop}
theorem SW.to{c:Code}{s':SS}(t:To nP s s')(h:SW X nP rd nt c s' K):SW X nP rd nt c s K:=by
 obtain⟨Y,V,R,ht,hp,hf⟩:=t;exact Vn R ht hp hf h
def sT{G:Type _}(nP:Nat)(inv:G->SS)(μ:G->Nat)(g:G)(K:Exit->SS->Prop):Exit->SS->Prop
 | .normal,s=>∃g',To nP s (inv g')/\μ g'<μ g
 |e,s=>K e s
theorem SSm.to{E:EEnv}(hh:∀g,E.hid g->g<nP){w0:World}{H:ah}{U:Bm}{a:Act}{w:World}{s s':SS}(t:To nP s s')(hS:SSm X E w0 nt H U s a w):∃ U',(∀g,g<nP->∀u,U' g u=U g u)/\SSm X E w0 nt H U' s' a w:=by
 obtain⟨Y,V,R,ht,hp,hf⟩:=t;obtain⟨U',k1,k2⟩:=hS.st.sim.rn R fun g hg=>hp g (hh g hg);exact⟨U',fun g hg=>k1 g g (hp g hg),⟨k2,fun t=>ht t _ _ _ _ _ k1 (hS.st.slot t),hS.st.size⟩,hS.mks,hS.sm,hf⟩
theorem rG{G:Type _}(inv:G->SS)(μ:G->Nat){c:Code}(g0:G)(h0:To nP s (inv g0))(h:∀g,SW X nP rd nt c (inv g) (sT nP inv μ g K)):SW X nP rd nt (.loop c) s K:=fun ro hro E hI hh w0 H U a w Q hS hQ=>by
 have key:∀(n:Nat) (g:G) (H:ah) (U:Bm) (a:Act) (w:World),μ g<=n->SSm X E w0 nt H U (inv g) a w->(∀e s' a' w',K e s'->SPost X nP E w0 nt H U w s' a' w'->Q e a' w')->Code.roundsIn (FW ro) 0 X.P c Q (n+1) a w:=by
  intro n;induction n with
  |zero=>
   intro g H U a w hn hS hQ;rw[tv];refine h g ro hro E hI hh w0 H U a w _ hS fun e s1 a1 w1 hk hp=>?_;cases e with
   |normal=>obtain⟨g',_,hg'⟩:=hk;omega
   |_=>exact hQ _ _ _ _ hk hp
  |succ n ih=>
   intro g H U a w hn hS hQ;rw[tv];refine h g ro hro E hI hh w0 H U a w _ hS fun e s1 a1 w1 hk hp=>?_;cases e with
   |normal=>
    obtain⟨g',ht,hg'⟩:=hk;obtain⟨H1,β1,p1,p2,p3,p4⟩:=hp;obtain⟨β2,k1,k2⟩:=p3.to hh ht;exact ih g' H1 β2 a1 w1 (by omega) k2 fun e s' a' w' k hp'=>hQ e s' a' w' k (hp'.trans p1 (fun g u x hg hx=>by rw[k1 g hg];exact p2 g u x hg hx) p4)
   |_=>exact hQ _ _ _ _ hk hp
 obtain⟨β0,k1,k2⟩:=hS.to hh h0;exact Ex (μ g0+1) (key (μ g0) g0 H β0 a w (ak _) k2 fun e s' a' w' k hp'=>hQ e s' a' w' k (hp'.trans (HLe.refl _) (fun g u x hg hx=>by rw[k1 g hg];exact hx) (MarkSame.refl _)))
def sJ{G:Type _}(nP:Nat)(inv:G->SS)(K:Exit->SS->Prop):Exit->SS->Prop
 | .normal,s=>∃g,To nP s (inv g)
 |e,s=>K e s
theorem SW.join{G:Type _}(inv:G->SS){x y:Code}(h1:SW X nP rd nt x s (sJ nP inv K))(h2:∀g,SW X nP rd nt y (inv g) K):SW X nP rd nt (.seq x y) s K :=
 SW.seq (h1.mono fun e s h=>by
  cases e with
  |normal=>obtain⟨g,t⟩:=h;exact SW.to t (h2 g)
  |_=>exact h)
end
def g3(zs:List EO):Hp:=fun g=>zs[g]?
def ut:EO->Bool
 | .loop .. => false
 |_=>true
theorem OIds.chg{P Q:Nat->Prop}{V V':Nat->Nat}{o:EO}(hn:ut o=true)(hPQ:∀i,P i->Q i)(h:OIds P V o):OIds Q V' o:=by
 cases o with
 |mem e cs fz vs cnt=>exact fun u p hup i hi=>hPQ i (h u p hup i hi)
 |map es ck=>exact fun e he=>⟨fun i hi=>hPQ i ((h e he).1 i hi),fun i hi=>hPQ i ((h e he).2 i hi)⟩
 |iter=>exact hPQ _ h
 |loop=>cases hn
 |hid=>trivial
def fy(zs:List EO)(i:Nat):Prop:=i<zs.length/\zs[i]?≠some .hid
structure LocC(X:EX)(f:FuncId)(args:List ES)(zs:List EO)(r:ES)(zs':List EO):Prop where
 call:CallOk X f args (g3 zs) r (g3 zs')
 le:zs.length<=zs'.length
 a:∀i∈args.flatMap fb,i<zs.length
 z:∀o∈zs,o≠ .hid/\ut o=true/\OIds (fun i=>i<zs.length) id o
 r:∀i∈fb r,fy zs' i
 z':∀o∈zs',ut o=true/\OIds (fy zs') id o
def md(V:Nat->Nat):Nat->List EO->Wr
 |_,[]=>[]
 |i,o::l=>(V i,dN V o)::md V (i+1) l
theorem GP{V:Nat->Nat}{n:Nat}(hρ:∀i j,i<n->j<n->V i=V j->i=j):∀{l:List EO} {k:Nat} {h:Hp},k+l.length<=n->(∀j o,l[j]?=some o->a7 h (md V k l) (V (k+j))=some (dN V o))/\∀g,(∀j,j<l.length->V (k+j)≠g)->a7 h (md V k l) g=h g
 | [],k,h,_=>⟨fun j o hj=>by simp at hj,fun g _=>rfl⟩
 |o::l,k,h,hl=>by
  simp only[bf] at hl;obtain⟨i1,i2⟩:=GP hρ (l:=l) (k:=k+1) (h:=aD h (V k) (some (dN V o))) (by omega);refine⟨fun j o' hj=>?_,fun g hg=>?_⟩
  . cases j with
    |zero=>
     simp at hj;subst hj;show a7 (aD h (V k) _) (md V (k+1) l) (V k)=_;rw[i2 (V k) fun j hj e=>by have:=hρ _ _ (by omega) (by omega) e;omega,aT]
    |succ j=>
     have:=i1 j o' (by simpa using hj);rwa[show k+1+j=k+(j+1) by omega] at this
  . show a7 (aD h (V k) _) (md V (k+1) l) g=_;rw[i2 g fun j hj=>by have:=hg (j+1) (by simp;omega);rwa[show k+(j+1)=k+1+j by omega] at this,aG _ _ _ fun e=>hg 0 (by simp) (by rw[eG];exact e.symm)]
section
variable {X:EX}
open Classical
theorem Fb{f:FuncId}{args:List ES}{zs zs':List EO}{r:ES}(L:LocC X f args zs r zs'){V:Nat->Nat}(hρ:∀i j,i<zs'.length->j<zs'.length->V i=V j->i=j){h:Hp}
 (h1:∀i o,zs[i]?=some o->h (V i)=some (dN V o)) (h2:∀i,zs.length<=i->i<zs'.length->h (V i)=none):CallOk X f (args.map (il V)) h (il V r) (a7 h (md V 0 zs')):=by
 refine⟨L.call.1,fun E hI H U w vs hS hv=>?_⟩;have hle:=L.le;obtain⟨w1,w2⟩:=GP hρ (l:=zs') (k:=0) (h:=h) (by omega);simp only[aX] at w1 w2
 -- the small heap
 let E1:EEnv:=⟨fun k=>E.own k/\∀g u s,(∀i,i<zs.length->V i≠g)->U g u=some s->s.1≠k,w,H,fun _=>False,fun _ _=>none⟩
 let β1:Bm:=fun i u=>if i<zs.length then U (V i) u else none
 have e1:∀i,i<zs.length->∀u,β1 i u=U (V i) u:=fun i hi u=>ar hi;have get:∀{i:Nat} {o:EO},(g3 zs) i=some o->i<zs.length/\o∈zs:=fun{i o} ho=>⟨(List.getElem?_eq_some_iff.1 ho).1,cd ho⟩;have hS1:ESim X.Z E1 H β1 (g3 zs) w:=by
  refine⟨hS.has,BelowO.refl _ _,fun k hk=>⟨hS.lo k hk,fun g u s _ hs e=>?_⟩,HExtO.refl _ _,fun i o ho=>?_,fun i u k hk=>?_,fun i j u u' k k' hk hk' he=>?_,fun g hg=>hg.elim⟩
  . have:=(hS.dom g u s hs).1;omega
  . obtain⟨hi,hm⟩:=get ho;obtain⟨_,z1,z2⟩:=L.z o hm;have hb:=hS.obj (V i) _ (h1 i o ho);have:=(OR.rn (U:=β1) (U':=U) (g:=i) (g':=V i) (o:=o) (fun u=>(e1 i hi u).symm) (z2.chg (Q:=fun i=>i<zs.length) (V':=V) z1 fun _ h=>h) fun j hj u=>(e1 j hj u).symm).2 hb;refine this.own_mono fun u k hk ho'=>⟨ho',fun g u' s hg hs e=>?_⟩;rw[e1 i hi] at hk;exact hg i hi (hS.inj _ _ _ _ _ _ hk hs e.symm)
  . have hi:i<zs.length:=by
     rcases eS i zs.length with h'|h'
     . exact h'
     . have:β1 i u=none:=al (by omega);rw[this] at hk;cases hk
    rw[e1 i hi] at hk;obtain⟨a,o',b,c⟩:=hS.dom _ u k hk;have hz:zs[i]?=some zs[i]:=by simp[hi]
    have hh:=h1 i _ hz;rw[hh] at b;simp only[ae] at b;subst b;refine⟨a,zs[i],hz,c.imp (fun e=>BF.1 e) fun c=>⟨⟨c.1,fun g u' s hg hs e=>?_⟩,by rw[BG] at c;exact c.2⟩⟩;exact hg i hi (hS.inj _ _ _ _ _ _ hk hs e.symm)
  . have lt:∀{i u k},β1 i u=some k->i<zs.length:=fun{i u k} hk=>by
     rcases eS i zs.length with h'|h'
     . exact h'
     . have:β1 i u=none:=al (by omega);rw[this] at hk;cases hk
    have hi:=lt hk;have hj:=lt hk';rw[e1 i hi] at hk;rw[e1 j hj] at hk';exact hρ i j (by omega) (by omega) (hS.inj _ _ _ _ _ _ hk hk' he)
 have hv1:SREL X.Z H β1 vs args:=(SREL.rn fun i hi u=>(e1 i (L.a i hi) u).symm).2 hv;refine(L.call.2 E1 (fun w' hb=>hI w' (hS.below.trans (hb.mono fun k hk=>hk.1))) H β1 w vs hS1 hv1).mono ?_;rintro e w' ⟨v,H',β1',rfl,hh,hb1,hS2,hm,hr⟩
 -- the great heap behind the call
 let U':Bm:=fun g u=>if hg:∃i,fy zs' i/\V i=g then β1' hg.choose u else U g u
 have eL:∀i,fy zs' i->∀u,U' (V i) u=β1' i u:=fun i hi u=>by
  have hg:∃j,fy zs' j/\V j=V i:=⟨i,hi,rfl⟩;have hc:=hg.choose_spec;have:hg.choose=i:=hρ _ _ hc.1.1 hi.1 hc.2;show(if hg:∃j,fy zs' j/\V j=V i then β1' hg.choose u else U (V i) u)=_;rw[dif_pos hg,this]
 have eN:∀g,(∀i,fy zs' i->V i≠g)->∀u,U' g u=U g u:=fun g hg u=>vC (fun⟨i,hi,e⟩=>hg i hi e);have hble:BLe U U':=fun g u k hk=>by
  by_cases hg:∃i,fy zs' i/\V i=g
  . obtain⟨i,hi,rfl⟩:=hg;rw[eL i hi];have hlt:i<zs.length:=by
     rcases eS i zs.length with h'|h'
     . exact h'
     . obtain⟨_,o,ho,_⟩:=hS.dom _ u k hk;rw[h2 i h' hi.1] at ho;cases ho
    exact hb1 i u k (by rw[e1 i hlt];exact hk)
  . rw[eN g fun i hi e=>hg ⟨i,hi,e⟩];exact hk
 have hz':∀{i:Nat} {o:EO},zs'[i]?=some o->o≠ .hid->fy zs' i:=fun{i o} ho hn=>⟨(List.getElem?_eq_some_iff.1 ho).1,by rw[ho];simpa using hn⟩
 -- a block of the small heap against one of the others
 have apart:∀i u k g u' k',fy zs' i->β1' i u=some k->(∀j,fy zs' j->V j≠g)->U g u'=some k'->k.1≠k'.1:=fun i u k g u' k' hi hk hg hk' e=>by
  obtain⟨_,o,ho,hc⟩:=hS2.dom i u k hk;have ho:zs'[i]?=some o:=ho;have hown:=(hc.resolve_left fun e'=>hi.2 (by rw[ho,e'])).1;by_cases hin:∃j,j<zs.length/\V j=g
  . obtain⟨j,hj,rfl⟩:=hin;have:=hS2.inj i j u u' k k' hk (hb1 j u' k' (by rw[e1 j hj];exact hk')) e;subst this;exact hg i hi rfl
  . exact hown.2 g u' k' (fun j hj e'=>hin ⟨j,hj,e'⟩) hk' e.symm
 have hobj:∀g o,a7 h (md V 0 zs') g=some o->(∃i,i<zs'.length/\V i=g/\zs'[i]?=some zs'[i]!/\o=dN V zs'[i]!)\/((∀i,i<zs'.length->V i≠g)/\h g=some o):=fun g o ho=>by
  by_cases hin:∃i,i<zs'.length/\V i=g
  . obtain⟨i,hi,rfl⟩:=hin;have hz:zs'[i]?=some zs'[i]!:=by rw[Ey];simp[hi]
    have:=w1 i _ hz;rw[ho] at this;exact .inl ⟨i,hi,rfl,hz,by simpa using this⟩
  . have hin':∀i,i<zs'.length->V i≠g:=fun i hi e=>hin ⟨i,hi,e⟩;rw[w2 g hin'] at ho;exact .inr ⟨hin',ho⟩
 have hsim:ESim X.Z E H' U' (a7 h (md V 0 zs')) w':=by
  refine⟨hS2.has,hS.below.trans (hS2.below.mono fun k hk=>hk.1),fun k hk=>(hS2.lo k hk).1,hS.ext.step (own':=E1.own) ⟨hh,fun b arr hb=>hS2.ext.2 b arr hb⟩ (fun k hk=>hk.1),fun g o hg=>?_,fun g u k hk=>?_,fun g1 g2 u1 u2 k1 k2 hk1 hk2 he=>?_,fun g hg=>?_⟩
  . rcases hobj g o hg with⟨i,hi,rfl,hz,rfl⟩|⟨hin,ho⟩
    . by_cases hd:zs'[i]! = .hid
      . rw[hd];trivial
      . have hl:=hz' hz hd;obtain⟨z1,z2⟩:=L.z' _ (cd hz);exact((OR.rn (eL i hl) (z2.chg (Q:=fy zs') (V':=V) z1 fun _ h=>h) fun j hj u=>eL j hj u).1 (hS2.obj i _ hz)).own_mono fun _ _ _ ho=>ho.1
    . by_cases hd:o=.hid
      . subst hd;trivial
      . have hno:∀u k,U g u=some k->¬E1.own k.1:=fun u k hk hown=>hown.2 g u k (fun i hi e=>hin i (by omega) e) hk rfl;refine(hS.obj g o ho).keep (fun u k hk=>hS2.below.block _ (hno u k hk)) (fun u k hk hn=>?_) hh hble (eN g fun i hi=>hin i hi.1);cases hx:H' k.1 with
        |none=>rfl
        |some arr=>
         rcases hS2.ext.2 _ _ hx with h'|h'
         . have h':H k.1=some arr:=h';rw[hn] at h';cases h'
         . exact absurd h' (hno u k hk)
  . by_cases hg:∃i,fy zs' i/\V i=g
    . obtain⟨i,hi,rfl⟩:=hg;rw[eL i hi] at hk;obtain⟨a,o,ho,c⟩:=hS2.dom i u k hk;have ho:zs'[i]?=some o:=ho;exact⟨a,dN V o,w1 i o ho,.inr (by
       have c:=c.resolve_left fun e'=>hi.2 (by rw[ho,e']);exact⟨c.1.1,by rw[BG];exact c.2⟩)⟩
    . have hg':∀i,fy zs' i->V i≠g:=fun i hi e=>hg ⟨i,hi,e⟩;rw[eN g hg'] at hk;obtain⟨a,o,ho,c⟩:=hS.dom g u k hk;by_cases hin:∃i,i<zs'.length/\V i=g
      . obtain⟨i,hi,rfl⟩:=hin;have hz:zs'[i]?=some zs'[i]!:=by rw[Ey];simp[hi]
        have hd:zs'[i]! = .hid:=by
         rcases Classical.em (zs'[i]! = .hid) with e|e
         . exact e
         . exact absurd rfl (hg' i (hz' hz e))
        exact⟨gK a hS2.below.size,.hid,by rw[w1 i _ hz,hd];rfl,.inl rfl⟩
      . have hin':∀i,i<zs'.length->V i≠g:=fun i hi e=>hin ⟨i,hi,e⟩;exact⟨gK a hS2.below.size,o,by rw[w2 g hin'];exact ho,c⟩
  . by_cases hg1:∃i,fy zs' i/\V i=g1
    . obtain⟨i,hi,rfl⟩:=hg1;rw[eL i hi] at hk1;by_cases hg2:∃i,fy zs' i/\V i=g2
      . obtain⟨j,hj,rfl⟩:=hg2;rw[eL j hj] at hk2;rw[hS2.inj _ _ _ _ _ _ hk1 hk2 he]
      . have hg2':∀i,fy zs' i->V i≠g2:=fun i hi e=>hg2 ⟨i,hi,e⟩;rw[eN g2 hg2'] at hk2;exact absurd he (apart i u1 k1 g2 u2 k2 hi hk1 hg2' hk2)
    . have hg1':∀i,fy zs' i->V i≠g1:=fun i hi e=>hg1 ⟨i,hi,e⟩;rw[eN g1 hg1'] at hk1;by_cases hg2:∃i,fy zs' i/\V i=g2
      . obtain⟨j,hj,rfl⟩:=hg2;rw[eL j hj] at hk2;exact absurd he.symm (apart j u2 k2 g1 u1 k1 hj hk2 hg1' hk1)
      . rw[eN g2 fun i hi e=>hg2 ⟨i,hi,e⟩] at hk2;exact hS.inj _ _ _ _ _ _ hk1 hk2 he
  . obtain⟨a,b⟩:=hS.hidb g hg;by_cases hin:∃i,i<zs'.length/\V i=g
    . obtain⟨i,hi,rfl⟩:=hin;rcases eS i zs.length with h'|h'
      . have hz:zs[i]?=some zs[i]:=by simp[h']
        have:=h1 i _ hz;rw[a] at this;simp only[ae] at this;exact absurd (BF.1 this.symm) (L.z _ (bV h')).1
      . have:=h2 i h' hi;rw[a] at this;cases this
    . have hin':∀i,i<zs'.length->V i≠g:=fun i hi e=>hin ⟨i,hi,e⟩;exact⟨by rw[w2 g hin'];exact a,fun u=>(eN g (fun i hi=>hin' i hi.1) u).trans (b u)⟩
 exact⟨v,H',U',rfl,hh,hble,hsim,hm,(SRe.rn fun i hi u=>eL i (L.r i hi) u).1 hr⟩
end
end Go.Proofs.En
namespace Go.Proofs.En
open Go.RowKit Go.Proofs.Fl Go.Shelf Go.Sort
theorem gN{α U:Type}{f:α->List U}{k:Nat}:∀{l:List α},(∀a∈l,(f a).length=k)->(l.flatMap f).length=l.length*k
 | [],_=>by simp
 |a::l,h=>by
  rw[dz,ce,h a (by simp),gN fun b hb=>h b (by simp[hb]),bf,bP];omega
theorem flat_get{α U:Type}{f:α->List U}{k:Nat}:∀{l:List α} {i:Nat} {a:α},(∀a∈l,(f a).length=k)->l[i]?=some a->((l.flatMap f).drop (i*k)).take k=f a
 | [],i,a,_,h=>by simp at h
 |b::l,0,a,hl,h=>by
  simp at h;subst h;rw[mA,bJ,dz,jD (by rw[hl b (by simp)];exact ak _),aH (by rw[hl b (by simp)];exact ak _)]
 |b::l,i+1,a,hl,h=>by
  have hb:=hl b (by simp);rw[dz,show(i+1)*k=(f b).length+i*k by rw[hb,bP];omega,LY,Ek,kW (zP _ _),ku];exact flat_get (fun c hc=>hl c (by simp[hc])) (by simpa using h)
section
variable {X:EX}
theorem O4{f g:FuncId}{k n:Nat}{e:TypeId}(hk0:0<k)(hn:0<n)(hsz:n<4611686018427387904)
 {V:Go.Shelf.Ren} (L:SlLaysF0.n6 X.P V) (hf:V.f 6=f) (hF:K3 X f)
 (aE:∀w,(isAgg (V.t 24)).run X.P w=.ok true w) (zE:∀w,(Go.sizeOf (V.t 24)).run X.P w=.ok k w)
 (eg:∀args w,(callFunc g args).run X.P w=.ok (.enter g args) w)
 {rows:Fin n->List EV} (hr:∀i,(rows i).length=k) {xs:Fin n->IV}
 (hv:∀(H:ah) (U:Bm) (vs:List Value) (i:Fin n),CRL X.Z H U vs (rows i)->VR H (.agg vs.toArray) (xs i))
 {cf:Fin n->Fin n->Int} (hc:∀i j,aY X.P X.I g [xs i,xs j] (.int .i64 (cf i j))) (hO:SWO (ltOf cf))
 {ord:List (Fin n)} (hp:ord.Perm (List.finRange n)) (hs:ord.Pairwise fun i j=>cf i j<0) (ht:∀i j,i≠j->cf i j<0\/cf j i<0)
 {cap:Cap} {cnt:Nat} :
 CallOk X f [.w (.one (.slc 0 0 0 n cap)),ac (.fn g)] (g3 [.mem e ((List.finRange n).flatMap rows) false [(0,n*k)] cnt]) (.tup []) (g3 [.mem e (ord.flatMap rows) false [(0,n*k)] cnt]):=by
 subst hf;refine⟨hF,fun E hI H U w vs hS hvs=>?_⟩
 match vs,hvs with
 | [v0,v1],⟨h0,h1,_⟩=>
 obtain⟨kk,c,hβ,rfl,hnc,hcap⟩:=h0;obtain⟨_,h1⟩:=h1;cases h1;obtain⟨hnone,hver⟩:=hS.obj 0 _ rfl;obtain⟨hu,kk',arr,hβ',hown,hH',hheap,hsize,hp1,hp2,hcr⟩:=hver 0 (n*k) (by simp);have ekk:kk=kk':=by rw[hβ] at hβ';exact zK hβ'
 subst ekk;have hfl:((List.finRange n).flatMap rows).length=n*k:=by rw[gN fun a _=>hr a,Xt]
 rw[aH (iY hfl)] at hcr;have hblk:kk.1<w.heap.size:=(Array.getElem?_eq_some_iff.1 hheap).1;have hrow:∀i:Fin n,CRL X.Z H U (uR arr k i) (rows i):=fun i=>by
  have h:=(hcr.drop (i*k)).take k;rw[flat_get (fun a _=>hr a) (a:=i) (by simp)] at h;have hi:(i:Nat)*k+k<=n*k:=by
   have:=bW k (Nat.succ_le_of_lt i.2);rw[qX] at this;exact this
  have e:((arr.toList.take (n*k)).drop (i*k)).take k=uR arr k i:=by
   unfold uR;rw[kY,b6,cg (by omega)]
  rwa[e] at h
 letI:Inhabited (Fin n):=⟨⟨0,hn⟩⟩
 obtain⟨enc,henc⟩:∃enc:Fin n->List Value,enc=fun i=>uR arr k i.1:=⟨_,rfl⟩;have hrow':∀i:Fin n,CRL X.Z H U (enc i) (rows i):=fun i=>by rw[henc];exact hrow i
 have hke:∀x,(enc x).length=k:=fun i=>(hrow' i).length.trans (hr i);have h1c:∀x,∀v∈enc x,v.oneCell'=true:=fun i=>(hrow' i).one;obtain⟨d,hd⟩:∃d:Array (Fin n),d=(List.finRange n).toArray:=⟨_,rfl⟩;have hds:d.size=n:=by rw[hd];simp
 have hH:HoldsK enc k w kk.1 0 d:=fun t htk=>by
  rw[size_flatK,hds] at htk;have hq:t/k<n:=(mC hk0).2 htk;have hm:t%k<k:=gh _ hk0;have e1:d[t/k]! = ⟨t/k,hq⟩:=by
   rw[hd,zl _ _ (by simpa using hq)];simp
  have hta:t<arr.size:=gK htk hp2;have e2:(enc ⟨t/k,hq⟩)[t%k]! = arr[t]:=by
   have:t/k*k+t%k=t:=by rw[cz];exact nF t k
   rw[henc];simp only[uR];rw[Ey,cL,ar hm,oR,this];simp[hta]
  rw[get_flatK _ _ _ _ (by rw[hds];exact htk),e1,e2];refine⟨?_,?_⟩
  . simp[World.cell?,hheap,hta]
  . simp[World.frozen?,hheap]
 have hother:∀(m:Nat) (dk:Array (Fin n)) (os:Array Obj) (b:Nat),b<w.heap.size->b≠kk.1->(sortWorldK enc k w kk.1 0 m dk os).heap[b]?=w.heap[b]?:=fun m dk os b hb hne=>by
  rw[FM hb,al (kr hne)]
 have hbel:∀(m:Nat) (dk:Array (Fin n)) (os:Array Obj),BelowO E.own w (sortWorldK enc k w kk.1 0 m dk os):=fun m dk os=>
  ⟨rfl,rfl,rfl,Ai,fun b hb=>by
   rcases eS b w.heap.size with h|h
   . exact hother m dk os b h fun e=>hb (by rw[e];exact hown)
   . exact absurd (hS.lo b h) hb⟩
 have hHn:H kk.1=none:=hnone rfl 0 kk hβ;have hhas:∀(m:Nat) (dk:Array (Fin n)) (os:Array Obj),HeapHas (sortWorldK enc k w kk.1 0 m dk os) H:=fun m dk os b a hb=>by
  obtain⟨t,fr,h⟩:=hS.has b a hb;exact⟨t,fr,(hother m dk os b (hS.has.lt hb) fun e=>by rw[e,hHn] at hb;cases hb).trans h⟩
 have hcmp:CmpLays X.P g #[] enc k cf kk.1 0 d.size w:=fun m os dk _ x y=>
  Pi (hc x y) (hI _ (hS.below.trans (hbel m dk os))) (hhas m dk os) (.cons _ _ _ _ (hv H U _ x (hrow' x)) (.cons _ _ _ _ (hv H U _ y (hrow' y)) .nil))
 have key:=AnyQ.slices_SortFunc L k aE zE enc hke h1c cf hO g #[] kk.1 0 c d w eg hcmp hH hblk (by rw[hds];exact hsz);rw[hds] at key;refine key.mono ?_;rintro en w' ⟨rfl,d',m,os,hperm,hsort,rfl⟩;have hd's:d'.size=n:=hperm.1.trans hds;have hordl:ord.length=n:=by rw[hp.length_eq,Xt]
 have ex:∀a:Array (Fin n),a.size=n->a.extract 0 n=a:=fun a h=>(congrArg (fun x=>a.extract 0 x) h.symm).trans Array.extract_size;have hord:ord=d'.toList:=by
  refine J6 (R:=fun i j=>cf i j<0) (fun a b h1 h2=>?_) ?_ hs ?_ (hp.nodup_iff.2 (List.nodup_finRange n)) fun a _ b _ hab=>ht a b hab
  . have h3:=hO.trans a b a (bu h1) (bu h2);rw[hO.irrefl] at h3;cases h3
  . have h4:=hperm.2.2;rw[ex d' hd's,ex d hds] at h4;refine hp.trans (List.Perm.symm ?_);rwa[hd,Xe] at h4
  . rw[List.pairwise_iff_getElem];intro i j hi hj hij h;have hi':i<d'.size:=by simpa using hi
    have hj':j<d'.size:=by simpa using hj
    have h5:=hsort i j (bb _) hij (by omega);rw[zl d' i hi',zl d' j hj'] at h5;have h6:ltOf cf d'[j] d'[i]=true:=bu h;rw[h5] at h6;cases h6
 have harr:(putCells id 0 (flatK enc k d') arr).toList.take (n*k)=d'.toList.flatMap enc:=by
  have hl:(d'.toList.flatMap enc).length=n*k:=by rw[gN fun a _=>hke a];simp[hd's]
  apply oQ;intro t;rcases eS t (n*k) with h|h
  . have hq:t/k<n:=(mC hk0).2 h;have hm:t%k<k:=gh _ hk0;have htt:t/k*k+t%k=t:=by rw[cz];exact nF t k
    have hta:t<arr.size:=gK h hp2;have e1:(d'.toList.flatMap enc)[t]?=(enc d'[t/k]!)[t%k]?:=by
     have h7:=flat_get (l:=d'.toList) (i:=t/k) (a:=d'[t/k]!) (fun a _=>hke a) (by
      rw[tb,zl _ _ (by omega)];simp[hd's,hq])
     rw[<-h7,cL,ar hm,oR,htt]
    rw[e1,cL,ar h];unfold putCells;have h8:t<(enc d'[t/k]!).length->True:=fun _=>trivial;rw[tb,Array.getElem?_mapIdx];simp only[size_flatK,hd's,aX,bb,true_and,h,bD,tn,hta,Xb,eU,id];rw[get_flatK _ _ _ _ (by rw[hd's];exact h)];have hlt:t%k<(enc d'[t/k]!).length:=by rw[hke];exact hm
    rw[Ey,aQ hlt];rfl
  . rw[qQ (by rw[b9];omega),qQ (by rw[hl];exact h)]
 have hheap':(sortWorldK enc k w kk.1 0 m d' os).heap[kk.1]?=some (.cells (putCells id 0 (flatK enc k d') arr) e (0,0)):=by
  rw[FM hblk,ar rfl,hheap];rfl
 have hsz':(putCells id 0 (flatK enc k d') arr).size=arr.size:=by unfold putCells;simp
 refine⟨.tuple #[],H,U,rfl,HLe.refl _,BLe.refl _,?_,fun D hD=>hother m d' os D (Array.getElem?_eq_some_iff.1 hD).1 fun e'=>(by rw[e',hheap] at hD;cases hD),⟨[],rfl,ab⟩⟩;have T:=hS.turn (g:=0) (o:=.mem e (ord.flatMap rows) false [(0,n*k)] cnt) (w':=sortWorldK enc k w kk.1 0 m d' os) (U':=U) (fun h=>by cases h) rfl rfl rfl Ai
  (fun j hj h=>hother m d' os j hj fun e'=>h 0 kk hβ e'.symm) (fun u s hs=>hnone rfl u s hs) (BLe.refl _) (fun _ _ _=>rfl)
  (fun u s hs=>by
    obtain⟨a,o',b,c'⟩:=hS.dom 0 u s hs;cases b;rcases c' with c'|c'
    . cases c'
    . exact⟨c'.2,gK a Ai,c'.1,.inl ⟨u,s,hs,rfl⟩⟩)
  ⟨fun _=>hnone rfl,fun u p hup=>by
   rw[fQ] at hup;cases hup;refine⟨hu,kk,putCells id 0 (flatK enc k d') arr,hβ,hown,hH',hheap',by rw[hsz'];exact hsize,?_,by rw[hsz'];exact hp2,?_⟩
   . rw[gN fun a _=>hr a,hordl];exact ak _
   . rw[harr,<-hord,aH (by rw[gN fun a _=>hr a,hordl];exact ak _)];exact CRL.flatMap fun a _=>hrow' a⟩
 have e9:aD (g3 [.mem e ((List.finRange n).flatMap rows) false [(0,n*k)] cnt]) 0 (some (.mem e (ord.flatMap rows) false [(0,n*k)] cnt))=g3 [.mem e (ord.flatMap rows) false [(0,n*k)] cnt]:=by
  funext g';cases g' with
  |zero=>rw[aT];rfl
  |succ g'=>rw[aG _ _ _ (kz _)];rfl
 rw[e9] at T;exact T
end
end Go.Proofs.En
namespace Go.Proofs
open Go.Shelf
def Tryz.sortTerm_ren:Go.Shelf.Ren:=⟨fun|6=>74|15=>132|14=>131|28=>192|29=>193|20=>184|21=>185|22=>186|23=>187|24=>188|25=>189|26=>190|27=>191|46=>223|47=>224|48=>225|49=>226|50=>227|57=>253|n=>n,fun|22=>27|24=>78|25=>136|3=>3|39=>199|0=>0|53=>182|55=>190|4=>4|46=>249|45=>248|50=>195|5=>5|9=>9|66=>281|70=>284|76=>305|77=>306|n=>n,fun|n=>n⟩
theorem Tryz.sortTerm:Go.Proofs.SlLaysF0.n6 Tryz.prog Tryz.sortTerm_ren:={
 mixed:=by kernel_rfl
 f6:=⟨Tryz.f74.name,by decide,Tryz.func74.trans (congrArg some (by kernel_rfl))⟩
 f14:=⟨Tryz.f131.name,by decide,Tryz.func131.trans (congrArg some (by kernel_rfl))⟩
 f15:=Tryz.func132.trans (congrArg some (by kernel_rfl))
 f20:=⟨Tryz.f184.name,by decide,Tryz.func184.trans (congrArg some (by kernel_rfl))⟩
 f21:=⟨Tryz.f185.name,by decide,Tryz.func185.trans (congrArg some (by kernel_rfl))⟩
 f22:=⟨Tryz.f186.name,by decide,Tryz.func186.trans (congrArg some (by kernel_rfl))⟩
 f23:=⟨Tryz.f187.name,by decide,Tryz.func187.trans (congrArg some (by kernel_rfl))⟩
 f24:=⟨Tryz.f188.name,by decide,Tryz.func188.trans (congrArg some (by kernel_rfl))⟩
 f25:=⟨Tryz.f189.name,by decide,Tryz.func189.trans (congrArg some (by kernel_rfl))⟩
 f26:=⟨Tryz.f190.name,by decide,Tryz.func190.trans (congrArg some (by kernel_rfl))⟩
 f27:=⟨Tryz.f191.name,by decide,Tryz.func191.trans (congrArg some (by kernel_rfl))⟩
 f28:=Tryz.func192.trans (congrArg some (by kernel_rfl))
 f29:=Tryz.func193.trans (congrArg some (by kernel_rfl))
 f46:=⟨Tryz.f223.name,by decide,Tryz.func223.trans (congrArg some (by kernel_rfl))⟩
 f47:=Tryz.func224.trans (congrArg some (by kernel_rfl))
 f48:=Tryz.func225.trans (congrArg some (by kernel_rfl))
 f49:=⟨Tryz.f226.name,by decide,Tryz.func226.trans (congrArg some (by kernel_rfl))⟩
 f50:=⟨Tryz.f227.name,by decide,Tryz.func227.trans (congrArg some (by kernel_rfl))⟩
 f57:=⟨Tryz.f253.name,by decide,Tryz.func253.trans (congrArg some (by kernel_rfl))⟩
 t0:=Tryz.underlying0
 a0:=Tryz.isAgg0
 z0:=Tryz.sizeOf0
 v0:=Tryz.zeroValue0
 t3:=Tryz.underlying3
 a3:=Tryz.isAgg3
 z3:=Tryz.sizeOf3
 v3:=Tryz.zeroValue3
 t4:=Tryz.underlying4
 a4:=Tryz.isAgg4
 z4:=Tryz.sizeOf4
 v4:=Tryz.zeroValue4
 t5:=Tryz.underlying5
 a5:=Tryz.isAgg5
 z5:=Tryz.sizeOf5
 v5:=Tryz.zeroValue5
 t9:=Tryz.underlying9
 a9:=Tryz.isAgg9
 z9:=Tryz.sizeOf9
 v9:=Tryz.zeroValue9
 t22:=Tryz.underlying27
 a22:=Tryz.isAgg27
 z22:=Tryz.sizeOf27
 v22:=Tryz.zeroValue27
 t25:=Tryz.underlying136
 a25:=Tryz.isAgg136
 z25:=Tryz.sizeOf136
 v25:=Tryz.zeroValue136
 t39:=Tryz.underlying199
 a39:=Tryz.isAgg199
 z39:=Tryz.sizeOf199
 v39:=Tryz.zeroValue199
 t45:=Tryz.underlying248
 a45:=Tryz.isAgg248
 z45:=Tryz.sizeOf248
 v45:=Tryz.zeroValue248
 t46:=Tryz.underlying249
 a46:=Tryz.isAgg249
 z46:=Tryz.sizeOf249
 v46:=Tryz.zeroValue249
 t50:=Tryz.underlying195
 a50:=Tryz.isAgg195
 z50:=Tryz.sizeOf195
 v50:=Tryz.zeroValue195
 t53:=Tryz.underlying182
 a53:=Tryz.isAgg182
 z53:=Tryz.sizeOf182
 v53:=Tryz.zeroValue182
 t55:=Tryz.underlying190
 a55:=Tryz.isAgg190
 z55:=Tryz.sizeOf190
 v55:=Tryz.zeroValue190
 t66:=Tryz.underlying281
 a66:=Tryz.isAgg281
 z66:=Tryz.sizeOf281
 v66:=Tryz.zeroValue281
 t70:=Tryz.underlying284
 a70:=Tryz.isAgg284
 z70:=Tryz.sizeOf284
 v70:=Tryz.zeroValue284
 t76:=Tryz.underlying305
 a76:=Tryz.isAgg305
 z76:=Tryz.sizeOf305
 v76:=Tryz.zeroValue305
 t77:=Tryz.underlying306
 a77:=Tryz.isAgg306
 z77:=Tryz.sizeOf306
 v77:=Tryz.zeroValue306 }
end Go.Proofs
namespace Go.Proofs.En
open Go.RowKit Go.Proofs.Fl Go.Proofs.Dig
noncomputable def ZZ:QS:=⟨fun n d=>qr (mkRat n d),3,fun n d=>⟨_,rfl,rfl⟩⟩
def ml:Nat:=79228162514264337593543950336
def g5(n:Int)(d:Nat):Bool:=Nat.blt n.natAbs ml&&(Nat.blt 0 d&&Nat.blt d ml)
theorem lW{a b:Nat}(h:Nat.blt a b=true):a<b:=by rwa[cR] at h
theorem xN{n:Int}{d:Nat}(h:g5 n d=true):n.natAbs<ml/\0<d/\d<ml:=by
 simp only[g5,aC] at h;exact⟨lW h.1,lW h.2.1,lW h.2.2⟩
theorem xO{n:Nat}(h:n<ml):ln n<=4:=kN (iy h (by decide))
theorem CA{n:Int}{d:Nat}(h:g5 n d=true):az (mkRat n d)<=8:=by
 obtain⟨h1,h2,h3⟩:=xN h;have e1:=pg (z:=n) h2;have e2:=rx (z:=n) h2;have e3:(mkRat n d).num.natAbs=n.natAbs/Nat.gcd n.natAbs d:=by
  rw[e1];have hs:∀(b:Bool) (k:Nat),(sv b k).natAbs=k:=by intro b k;cases b<;>simp[sv]
  exact hs _ _
 unfold az;rw[e3,e2];have a1:=xO (n:=n.natAbs/Nat.gcd n.natAbs d) (g9 (li _ _) h1);have a2:=xO (n:=d/Nat.gcd n.natAbs d) (g9 (li _ _) h3);omega
theorem lG{n:Int}{d:Nat}(h:g5 n d=true):az (mkRat n d)<2^38:=by have:=CA h;omega
def ir(n:Int)(d:Nat):Option EW :=
 xV n fun n=>bA d fun d=>bA (Nat.gcd n.natAbs d) fun g=>match n with
  | .ofNat m=>bA (m/g) fun m'=>bA (d/g) fun d'=>bif Nat.beq (m'*d) (m*d')&&Nat.blt 0 d' then some (.q (.ofNat m') d') else none
  | .negSucc m=>bA ((m+1)/g-1) fun m'=>bA (d/g) fun d'=>bif Nat.beq ((m'+1)*d) ((m+1)*d')&&Nat.blt 0 d' then some (.q (.negSucc m') d') else none
theorem J9{n:Int}{d:Nat}{x:EW}(hd:d≠0)(h:ir n d=some x):∃n' d',x=.q n' d'/\mkRat n' d'=mkRat n d:=by
 unfold ir at h;rw[AP,bc,bc] at h;split at h
 . rename_i m;rw[bc,bc,Bool.cond_eq_ite] at h;split at h
   . rename_i hc;simp only[ae] at h;simp only[aC] at hc;obtain⟨c1,c2⟩:=hc;have c1:=aw c1;have c2:=lW c2;refine⟨_,_,h.symm,(Ez (by omega) hd).2 ?_⟩;rw[gM,gM]
     exact_mod_cast c1
   . cases h
 . rename_i m;rw[bc,bc,Bool.cond_eq_ite] at h;split at h
   . rename_i hc;simp only[ae] at h;simp only[aC] at hc;obtain⟨c1,c2⟩:=hc;have c1:=aw c1;have c2:=lW c2;refine⟨_,_,h.symm,(Ez (by omega) hd).2 ?_⟩;rw[ML,ML,ky,ky];congr 1
     exact_mod_cast c1
   . cases h
noncomputable def y3:ES->Option IV
 | .w (.q n d)=>some (qr (mkRat n d))
 | .w (.one (.iv x))=>some x
 |_=>none
theorem JJ{H:ah}{U:Bm}:∀{vs:List Value} {args:List ES} {xs:List IV},args.map y3=xs.map some->SREL ZZ H U vs args->VRL H vs xs
 | [],[],[],_,_=>.nil
 |v::vs,a::args,x::xs,he,⟨h1,h2⟩=>by
  simp only[aS,oY] at he;refine .cons _ _ _ _ ?_ (JJ he.2 h2);have he:=he.1;unfold y3 at he;split at he
  . simp only[ae] at he;subst he;exact h1
  . simp only[ae] at he;subst he;exact h1.2
  . cases he
 | [],_::_,_,_,h=>h.elim
 |_::_,[],_,_,h=>h.elim
 | [],[],_::_,he,_=>by simp at he
 |_::_,_::_,[],he,_=>by simp at he
def RetE(r:IV)(res:ES):Prop:=∀H U v,VR H v r->SRe ZZ H U v res
theorem RetE.q{n:Int}{d:Nat}{q:Rat}(h:mkRat n d=q):RetE (qr q) (.w (.q n d)):=fun H U v hv=>by subst h;exact hv
theorem RetE.int(k:IntKind)(n:Int):RetE (.int k n) (ac (.int k n)):=fun H U v hv=>by
 have:=hv.asInt;subst this;exact⟨rfl,hv⟩
theorem RetE.str(s:List UInt8):RetE (.str s) (ac (.str s)):=fun H U v hv=>by
 obtain⟨t,rfl,_⟩:=jj hv;exact⟨rfl,hv⟩
theorem Vi{H:ah}{v:Value}{x y:IV}(h:VR H v (.tup [x,y])):∃a b,v=.tuple #[a,b]/\VR H a x/\VR H b y:=by
 cases h with
 |tup vs xs hs=>
  obtain⟨a,b,rfl,h1,h2⟩:=hs.two;exact⟨a,b,rfl,h1,h2⟩
def LF:EW:=.one (.iv (.int .i64 0))
theorem T7{n:Int}{d:Nat}{q:Rat}(h:mkRat n d=q):RetE (.tup [qr q,.int .i64 0]) (.tup [.q n d,LF]):=fun H U v hv=>by
 subst h;obtain⟨a,b,rfl,h1,h2⟩:=Vi hv;have:=h2.asInt;subst this;exact⟨[a,.int .i64 0],rfl,h1,⟨rfl,h2⟩,ab⟩
section
variable (J:Keep)
theorem Nz{X:EX}(hZ:X.Z=ZZ){f:FuncId}{xs:List IV}{r:IV}{args:List ES}{res:ES}{h:Hp}(hc:aY X.P X.I f xs r)(ha:args.map y3=xs.map some)(hr:RetE r res):CallOk X f args h res h:=by
 refine⟨hc.1,fun E hI H U w vs hs hv=>?_⟩;rw[hZ] at hv;refine(hc.2 H w vs (hI w hs.below) hs.has (JJ ha hv)).mono ?_;rintro e w' ⟨v,H',rfl,h1,h2,h3,h4⟩;refine⟨v,H',U,rfl,h2.1,BLe.refl _,hs.grow h4 h1 h2,MarkSame.below h4,?_⟩;rw[hZ];exact hr _ _ _ h3
def fU(f:FuncId)(o:List ES->Option ES):Prop:=∀args res,o args=some res->∃xs r,C J f xs r/\args.map y3=xs.map some/\RetE r res
def qF(k:Int->Nat->Int->Nat->Option ES):List ES->Option ES
 | [.w (.q a b),.w (.q c d)]=>bif g5 a b&&g5 c d then k a b c d else none
 |_=>none
def sV(k:Int->Nat->Option ES):List ES->Option ES
 | [.w (.q a b)]=>bif g5 a b then k a b else none
 |_=>none
def m8:Option EW->Option ES
 |some x=>some (.w x)
 |none=>none
def yC:Option EW->Option ES
 |some x=>some (.tup [x,LF])
 |none=>none
theorem ur{f:FuncId}{k:Int->Nat->Int->Nat->Option ES}(h:∀a b c d res,g5 a b=true->g5 c d=true->k a b c d=some res->∃r,C J f [qr (mkRat a b),qr (mkRat c d)] r/\RetE r res):fU J f (qF k):=by
 intro args res he;unfold qF at he;split at he
 . rename_i a b c d;cases hc:(g5 a b&&g5 c d) with
   |false=>rw[hc] at he;cases he
   |true=>
    rw[hc] at he;simp only[aC] at hc;obtain⟨r,h1,h2⟩:=h a b c d res hc.1 hc.2 he;exact⟨_,r,h1,rfl,h2⟩
 . cases he
theorem xM{f:FuncId}{k:Int->Nat->Option ES}(h:∀a b res,g5 a b=true->k a b=some res->∃r,C J f [qr (mkRat a b)] r/\RetE r res):fU J f (sV k):=by
 intro args res he;unfold sV at he;split at he
 . rename_i a b;cases hc:g5 a b with
   |false=>rw[hc] at he;cases he
   |true=>
    rw[hc] at he;obtain⟨r,h1,h2⟩:=h a b res hc he;exact⟨_,r,h1,rfl,h2⟩
 . cases he
theorem pE{n:Int}{d:Nat}{res:ES}{q:Rat}(hd:d≠0)(he:m8 (ir n d)=some res)(hq:mkRat n d=q):RetE (qr q) res:=by
 cases hm:ir n d with
 |none=>rw[hm] at he;cases he
 |some x=>
  rw[hm] at he;simp only[m8,ae] at he;subst he;obtain⟨n',d',rfl,e⟩:=J9 hd hm;exact RetE.q (e.trans hq)
theorem IC{n:Int}{d:Nat}{res:ES}{q:Rat}(hd:d≠0)(he:yC (ir n d)=some res)(hq:mkRat n d=q):RetE (.tup [qr q,.int .i64 0]) res:=by
 cases hm:ir n d with
 |none=>rw[hm] at he;cases he
 |some x=>
  rw[hm] at he;simp only[yC,ae] at he;subst he;obtain⟨n',d',rfl,e⟩:=J9 hd hm;exact T7 (e.trans hq)
theorem fT{n:Int}{d:Nat}(h:g5 n d=true):d≠0:=by have:=(xN h).2.1;omega
def Lm:List ES->Option ES:=qF fun a b c d=>m8 (ir (a*c) (b*d))
def Lp:List ES->Option ES:=qF fun a b c d=>m8 (ir (a*d+c*b) (b*d))
def Lk:List ES->Option ES:=qF fun a b c d=>m8 (ir (a*d-c*b) (b*d))
def Ll:List ES->Option ES:=sV fun a b=>m8 (ir (-a) b)
def Lq:List ES->Option ES:=sV fun a b=>m8 (ir a.natAbs b)
theorem SB(B:Base J):fU J 35 Lm:=ur J fun a b c d res h1 h2 he=>
 ⟨_,mT B (lG h1) (lG h2),pE (qY (fT h1) (fT h2)) he (zR _ _ _ _).symm⟩
theorem SG(B:Base J):fU J 71 Lp:=ur J fun a b c d res h1 h2 he=>
 ⟨_,r5 B (lG h1) (lG h2),pE (qY (fT h1) (fT h2)) he (EA _ _ (fT h1) (fT h2)).symm⟩
theorem Sy(B:Base J):fU J 156 Lk:=ur J fun a b c d res h1 h2 he=>
 ⟨_,rZ B (lG h1) (lG h2),pE (qY (fT h1) (fT h2)) he (by
  rw[Mu,MM,EA _ _ (fT h1) (fT h2),ky,<-Int.sub_eq_add_neg])⟩
theorem SA:fU J 203 Ll:=xM J fun a b res h1 he=>
 ⟨_,Ki J _,pE (fT h1) he (MM _ _).symm⟩
theorem Vl{a:Int}{b:Nat}(hb:0<b):qd ((mkRat a b).num.natAbs:Int) (mkRat a b).den=qr (mkRat (a.natAbs:Int) b):=by
 have key:∀c:Int,0<=c->qd ((mkRat c b).num.natAbs:Int) (mkRat c b).den=qr (mkRat c b):=fun c hc=>by
  have hn:0<=(mkRat c b).num:=by
   rw[pg hb,bz (by omega)];exact Xc _
  show qd _ _=qd _ _;rw[Xu hn]
 by_cases h:0<=a
 . rw[Xu h];exact key a h
 . have e:a = -(a.natAbs:Int):=by omega
   rw[e,<-MM,Mt,zH,Rat.neg_den,key _ (by omega)];congr 2<;>(congr 1;omega)
theorem SI:fU J 158 Lq:=xM J fun a b res h1 he=>by
 refine⟨_,?_,pE (fT h1) he rfl⟩;rw[<-Vl (xN h1).2.1];exact Kl J _
end
section
variable (J:Keep)
theorem wj{x y k:Int}(hk:0<k):aL (x*k) (y*k)=aL x y:=by
 unfold aL;have h1:(x*k<y*k)=(x<y):=propext ⟨fun h=>Xv h (by omega),fun h=>Xw h hk⟩;have h2:(y*k<x*k)=(y<x):=propext ⟨fun h=>Xv h (by omega),fun h=>Xw h hk⟩;simp only[h1,h2]
theorem CG{a:Int}{b:Nat}(hb:b≠0):a*((mkRat a b).den:Int)=(mkRat a b).num*(b:Int):=by
 refine(Ez hb (mkRat a b).den_nz).1 ?_;rw[Rat.mkRat_self]
theorem RC{a:Int}{b:Nat}(hb:b≠0):aL (mkRat a b).num 0=aL a 0:=by
 have h:=CG (a:=a) hb;have hd:=dP (mkRat a b);rw[<-wj (x:=(mkRat a b).num) (k:=(b:Int)) (by omega),<-h,<-wj (x:=a) (y:=0) (k:=((mkRat a b).den:Int)) (by omega),qV,qV]
theorem Ve{a c:Int}{b d:Nat}(hb:b≠0)(hd:d≠0):eY (mkRat a b) (mkRat c d)=aL (a*d) (c*b):=by
 have h1:=CG (a:=a) hb;have h2:=CG (a:=c) hd;have d1:=dP (mkRat a b);have d2:=dP (mkRat c d);unfold eY;generalize (mkRat a b).num=p at h1 ⊢;generalize (mkRat a b).den=q at h1 d1 ⊢;generalize (mkRat c d).num=r at h2 ⊢;generalize (mkRat c d).den=s at h2 d2 ⊢;rw[<-wj (x:=p*(s:Int)) (k:=(b:Int)*(d:Int)) (vM (by omega) (by omega)),<-wj (x:=a*(d:Int)) (k:=(q:Int)*(s:Int)) (vM (by omega) (by omega))];congr 1
 . calc p*(s:Int)*((b:Int)*d)=(p*b)*(s*d):=by ac_rfl
    _=(a*q)*(s*d):=by rw[h1]
    _=_:=by ac_rfl
 . calc r*(q:Int)*((b:Int)*d)=(r*d)*(q*b):=by ac_rfl
    _=(c*s)*(q*b):=by rw[h2]
    _=_:=by ac_rfl
def Lo:List ES->Option ES:=qF fun a b c d=>some (ac (.int .i64 (bif decide (a*d<c*b) then -1 else bif decide (c*b<a*d) then 1 else 0)))
theorem SF:fU J 110 Lo:=ur J fun a b c d res h1 h2 he=>by
 simp only[ae] at he;subst he;refine⟨_,U3 (lG h1) (lG h2),?_⟩;rw[Ve (fT h1) (fT h2)];have e:aL (a*d) (c*b)=(bif decide (a*d<c*b) then -1 else bif decide (c*b<a*d) then 1 else 0):=by
  unfold aL;by_cases h:a*(d:Int)<c*b
  . rw[ar h,bu h];rfl
  . rw[al h,bz h];by_cases h':c*(b:Int)<a*d
    . rw[ar h',bu h'];rfl
    . rw[al h',bz h'];rfl
 rw[e];exact RetE.int _ _
def Lf:Int->Int
 | .ofNat n=>bif Nat.beq n 0 then 0 else 1
 | .negSucc _ => -1
def KL:List ES->Option ES:=sV fun a b=>some (ac (.int .i64 (Lf a)))
theorem QF:fU J 16 KL:=xM J fun a b res h1 he=>by
 simp only[ae] at he;subst he;refine⟨_,n8 J _,?_⟩;rw[RC (fT h1)];have e:aL a 0=Lf a:=by
  unfold aL;cases a with
  |ofNat n=>
   have h0:¬(Int.ofNat n<0):=by rw[gM];omega
   rw[al h0];cases n with
   |zero=>rfl
   |succ n=>
    have h2:(0:Int)<Int.ofNat (n+1):=by rw[gM];omega
    rw[ar h2];rfl
  |negSucc n=>rw[ar (Xx n)];rfl
 rw[e];exact RetE.int _ _
def i64(n:Int):Bool:=Nat.blt n.natAbs 9223372036854775808
theorem xS{n:Int}(h:i64 n=true) : -9223372036854775808<=n/\n<=9223372036854775807:=by
 have:=lW h;omega
def Dv:List ES->Option ES
 | [.w (.one (.iv (.int .i64 n)))]=>bif i64 n then m8 (ir n 1) else none
 |_=>none
theorem SD:fU J 45 Dv:=by
 intro args res he;unfold Dv at he;split at he
 . rename_i n;cases hn:i64 n with
   |false=>rw[hn] at he;cases he
   |true=>
    rw[hn] at he;have:=xS hn;refine⟨_,_,xW J this.1 this.2,rfl,pE (by decide) he (MN n)⟩
 . cases he
def pU(c a:Int):Int:=match c with
 | .ofNat _=>a
 | .negSucc _ => -a
theorem Kb{n m:Int}:mkRat (pU m n) m.natAbs=(n:Rat)/(m:Rat):=by
 rw[<-Rat.divInt_eq_div];cases m with
 |ofNat k=>rw[gM,MC];rfl
 |negSucc k=>
  show mkRat (-n) (k+1)=Rat.normalize (-n) (k+1) (by simp);rw[Rat.normalize_eq_mkRat]
def DM:List ES->Option ES
 | [.w (.one (.iv (.int .i64 n))),.w (.one (.iv (.int .i64 m)))]=>bif i64 n&&(i64 m&&Nat.blt 0 m.natAbs) then yC (ir (pU m n) m.natAbs) else none
 |_=>none
theorem UR(B:Base J):fU J 23 DM:=by
 intro args res he;unfold DM at he;split at he
 . rename_i n m;cases hn:(i64 n&&(i64 m&&Nat.blt 0 m.natAbs)) with
   |false=>rw[hn] at he;cases he
   |true=>
    rw[hn] at he;simp only[aC] at hn;have h1:=xS hn.1;have h2:=xS hn.2.1;have h3:=lW hn.2.2;exact⟨_,_,Kk B h1.1 h1.2 h2.1 h2.2 (by omega),rfl,IC (by omega) he Kb⟩
 . cases he
theorem O7(c a:Int):pU c a*c=a*(c.natAbs:Int):=by
 cases c with
 |ofNat n=>rfl
 |negSucc n=>
  show -a*Int.negSucc n=a*((n+1:Nat):Int);rw[ML,Er];rfl
def Ln:List ES->Option ES:=qF fun a b c d=>bif Nat.blt 0 c.natAbs then yC (ir (pU c (a*d)) (b*c.natAbs)) else none
theorem SE(B:Base J):fU J 48 Ln:=ur J fun a b c d res h1 h2 he=>by
 cases hc:Nat.blt 0 c.natAbs with
 |false=>rw[hc] at he;cases he
 |true=>
  rw[hc] at he;have hc:=lW hc;have h1':=fT h1;have h2':=fT h2;have hz:mkRat c d≠0:=by rw[Rat.mkRat_ne_zero h2'];omega
  refine⟨_,CP B (lG h1) (lG h2) hz,IC (qY h1' (by omega)) he ?_⟩;have e:mkRat (pU c (a*d)) (b*c.natAbs)*mkRat c d=mkRat a b:=by
   rw[zR,O7];refine(Ez (qY (qY h1' (by omega)) h2') h1').2 ?_;rw[iZ,iZ]
   ac_rfl
  rw[<-e,Rat.mul_div_cancel hz]
theorem Ka(a:Int)(b:Nat):∀n:Nat,mkRat a b^n=mkRat (a^n) (b^n)
 |0=>by simp;rfl
 |n+1=>by rw[tw,Ka a b n,zR,lk,bQ]
def Dt:List ES->Option ES
 | [.w (.q a b),.w (.one (.iv (.int .i64 (.ofNat n))))]=>bif g5 a b&&Nat.ble n 1000 then m8 (ir (a^n) (b^n)) else none
 |_=>none
theorem Sz:fU J 76 Dt:=by
 intro args res he;unfold Dt at he;split at he
 . rename_i a b n;cases hn:(g5 a b&&Nat.ble n 1000) with
   |false=>rw[hn] at he;cases he
   |true=>
    rw[hn] at he;simp only[aC] at hn;have h1:=fT hn.1;have h2:=aB hn.2;have hq:=CA hn.1;refine⟨_,_,Km (J:=J) (a:=mkRat a b) (by omega) (Int.ofNat n),rfl,pE (fH (by omega) |> Nat.pos_iff_ne_zero.1) he ?_⟩;have e:l5 (Int.ofNat n) 1000=n:=by unfold l5;rw[gM];omega
    rw[e,Ka]
 . cases he
def digs:Nat->Nat->List UInt8->List UInt8
 |0,n,acc=>dK n::acc
 |f+1,n,acc=>bif Nat.blt n 10 then dK n::acc else digs f (n/10) (dK (n%10)::acc)
theorem xt:∀(f n:Nat) (acc:List UInt8),n<10^(f+1)->digs f n acc=a6 n++acc
 |0,n,acc,h=>by
  rw[digs,jH (by simpa using h)];rfl
 |f+1,n,acc,h=>by
  rw[digs];cases hb:Nat.blt n 10 with
  |true=>rw[jH (lW hb)];rfl
  |false=>
   have h10:10<=n:=by
    rcases eS n 10 with h|h
    . have:Nat.blt n 10=true:=by rw[cR];exact h
      rw[this] at hb;cases hb
    . exact h
   rw[aW,xt f _ _ (by rw[bQ] at h;omega),pz h10,dj];rfl
def C1(n:Int)(d:Nat):List UInt8 :=
 let t:=bif Nat.beq d 1 then [] else 47::digs 40 d []
 match n with
 | .ofNat m=>digs 40 m t
 | .negSucc m=>45::digs 40 (m+1) t
def KK:List ES->Option ES:=sV fun a b=>bif Nat.beq (Nat.gcd a.natAbs b) 1 then fJ (C1 a b) fun l=>some (ac (.str l)) else none
theorem Ry{a:Int}{b:Nat}(hb:0<b)(ha:a.natAbs<ml)(hb':b<ml)(hg:Nat.gcd a.natAbs b=1):kL (mkRat a b)=C1 a b:=by
 have e1:=pg (z:=a) hb;have e2:=rx (z:=a) hb;rw[hg,nH] at e1 e2;rw[n0] at e1;have hl:ml<10^(40+1):=by decide
 unfold kL C1 eV;rw[e1,e2,xt 40 b [] (by omega),jb];have key:(if b=1 then(if a<0 then [45] else [])++a6 a.natAbs else(if a<0 then [45] else [])++a6 a.natAbs ++ [47]++a6 b)=(if a<0 then [45] else [])++(a6 a.natAbs++bif Nat.beq b 1 then [] else 47::a6 b):=by
  by_cases h:b=1
  . subst h;simp
  . rw[al h,eO h];simp
 rw[key];cases a with
 |ofNat m=>
  have h0:¬(Int.ofNat m<0):=by rw[gM];omega
  rw[al h0];show _=digs 40 m _;rw[xt 40 m _ (by have:m<ml:=ha;omega)];rfl
 |negSucc m=>
  rw[ar (Xx m)];show _=45::digs 40 (m+1) _;rw[xt 40 (m+1) _ (by have:m+1<ml:=ha;omega)];rfl
theorem QE(L:LibI J):fU J 27 KK:=xM J fun a b res h1 he=>by
 cases hg:Nat.beq (Nat.gcd a.natAbs b) 1 with
 |false=>rw[hg] at he;cases he
 |true=>
  rw[hg,ai,cC] at he;simp only[ae] at he;subst he;have:=CA h1;obtain⟨c1,c2,c3⟩:=xN h1;refine⟨_,Kn L (q:=mkRat a b) (by omega),?_⟩;rw[Ry c2 c1 c3 (aw hg)];exact RetE.str _
def Du:List ES->Option ES
 | [.w (.one (.iv (.int .u64 (.ofNat n))))]=>bif Nat.ble n 18446744073709551615 then bA (Lib.bitLen n) fun m=>some (ac (.int .i64 (.ofNat m))) else none
 |_=>none
theorem SC:fU J 132 Du:=by
 intro args res he;unfold Du at he;split at he
 . rename_i n;cases hn:Nat.ble n 18446744073709551615 with
   |false=>rw[hn] at he;cases he
   |true=>
    rw[hn,ai,bc] at he;simp only[ae] at he;subst he;have hn:=aB hn;refine⟨[.int .u64 (Int.ofNat n)],.int .i64 (Int.ofNat (Lib.bitLen n)),wJ ⟨_,Tryz.func132,rfl,rfl⟩ fun H w args hI hargs=>?_,rfl,RetE.int _ _⟩;obtain⟨u,rfl,hu⟩:=hargs.one;rw[VR.asInt hu];refine(Tryz.bits_Len (Int.ofNat n) w (by rw[gM];omega) (by rw[gM];omega)).mono ?_;rintro e w' ⟨rfl,rfl⟩;exact⟨_,rfl,fun H=>.int _ _,mr _ _⟩
 . cases he
def Dq:List (Nat×(List ES->Option ES)):=[(35,Lm),(71,Lp),(156,Lk),(110,Lo),(16,KL),(45,Dv),(23,DM),(48,Ln),(203,Ll),(76,Dt),(158,Lq),(27,KK),(132,Du)]
def yD(f:Nat)(args:List ES):List (Nat×(List ES->Option ES))->Option ES
 | []=>none
 | (g,o)::l=>bif Nat.beq f g then o args else yD f args l
def Dp(f:FuncId)(args:List ES)(s:Hs):Option (ES×Hs):=match yD f args Dq with
 |some r=>some (r,s)
 |none=>none
theorem IO{f:Nat}{args:List ES}{res:ES}:∀{l:List (Nat×(List ES->Option ES))},(∀p∈l,fU J p.1 p.2)->yD f args l=some res->∃o,fU J f o/\o args=some res
 | [],_,h=>by cases h
 | (g,o)::l,hl,h=>by
   rw[yD] at h;cases hb:Nat.beq f g with
   |true=>
    rw[hb] at h;have:=aw hb;subst this;exact⟨o,hl (f,o) (by simp),h⟩
   |false=>
    rw[hb] at h;exact IO (fun p hp=>hl p (by simp[hp])) h
theorem Sn(L:LibI J):∀p∈Dq,fU J p.1 p.2:=by
 have B:=base J;intro p hp;simp only[Dq,eT,bv,or_false] at hp;rcases hp with rfl|rfl|rfl|rfl|rfl|rfl|rfl|rfl|rfl|rfl|rfl|rfl|rfl
 . exact SB J B
 . exact SG J B
 . exact Sy J B
 . exact SF J
 . exact QF J
 . exact SD J
 . exact UR J B
 . exact SE J B
 . exact SA J
 . exact Sz J
 . exact SI J
 . exact QE J L
 . exact SC J
theorem Sm(L:LibI J){X:EX}(hP:X.P=Tryz.prog)(hI:X.I=J.I)(hZ:X.Z=ZZ):iH X Dp:=by
 intro f args s r s' he;unfold Dp at he;split at he
 . rename_i r0 hr;simp only[ae,aA] at he;obtain⟨rfl,rfl⟩:=he;obtain⟨o,h1,h2⟩:=IO J (Sn J L) hr;obtain⟨xs,r,h3,h4,h5⟩:=h1 args r0 h2;exact⟨LogOk.refl _,Nz hZ (by rw[hP,hI];exact h3) h4 h5⟩
 . cases he
end
def sN:List IV->List EV
 | .sl [] :: .bool false :: .sl []::l=>.iv (.sl []) :: .iv (.bool false) :: .iv (.sl [])::sN l
 | .sl []::l=>.iv (.nil 3)::sN l
 |x::l=>.iv x::sN l
 | []=>[]
def CY:IV->EW
 | .agg cs=>.agg (sN cs)
 | .sl []=>.one (.iv (.nil 3))
 |x=>.one (.iv x)
def sO:List IV->List EV
 | .sl [] :: .bool false :: .sl []::l=>.qc 0 1 0 :: .qc 0 1 1 :: .qc 0 1 2::sO l
 | .sl []::l=>.iv (.nil 3)::sO l
 |x::l=>.iv x::sO l
 | []=>[]
def CZ:IV->EW
 | .agg cs=>(match sO cs with
  | [.qc 0 1 0,.qc 0 1 1,.qc 0 1 2]=>.q 0 1
  |l=>.agg l)
 | .sl []=>.one (.iv (.nil 3))
 |x=>.one (.iv x)
theorem kD{Z:QS}{H:ah}{U:Bm}{v:Value}{x:IV}(h:ol false v=some x):CR Z H U v (.iv x)/\(x=.sl []->CR Z H U v (.iv (.nil 3))):=by
 obtain⟨h1,h2,_⟩:=BB h;refine⟨⟨h2,h1 H⟩,fun e=>?_⟩;subst e;unfold ol at h;split at h<;>first|(simp at h;done)|exact⟨rfl,.nilS⟩
theorem ll{vs:List Value}{x:IV}{xs:List IV}(h:gB false vs=some (x::xs)):∃v vs',vs=v::vs'/\ol false v=some x/\gB false vs'=some xs:=by
 cases vs with
 |nil=>simp[gB] at h
 |cons v vs=>
  simp only[gB] at h;split at h
  . rename_i y ys h1 h2;simp only[ae,oY] at h;obtain⟨rfl,rfl⟩:=h;exact⟨v,vs,rfl,h1,h2⟩
  . cases h
theorem GO{vs:List Value}(h:gB false vs=some []):vs=[]:=by
 cases vs with
 |nil=>rfl
 |cons v vs=>
  simp only[gB] at h;split at h<;>simp at h
theorem T8{Z:QS}{H:ah}{U:Bm}{xs:List IV}:∀{vs:List Value},gB false vs=some xs->CRL Z H U vs (sN xs):=by
 fun_induction sN xs with
 |case1 l ih=>
  intro vs h;obtain⟨v1,vs,rfl,h1,h⟩:=ll h;obtain⟨v2,vs,rfl,h2,h⟩:=ll h;obtain⟨v3,vs,rfl,h3,h⟩:=ll h;exact⟨(kD h1).1,(kD h2).1,(kD h3).1,ih h⟩
 |case2 l _ ih=>
  intro vs h;obtain⟨v1,vs,rfl,h1,h⟩:=ll h;exact⟨(kD h1).2 rfl,ih h⟩
 |case3 x l _ _ ih=>
  intro vs h;obtain⟨v1,vs,rfl,h1,h⟩:=ll h;exact⟨(kD h1).1,ih h⟩
 |case4=>
  intro vs h;rw[GO h];exact trivial
theorem CB{H:ah}{U:Bm}{v:Value}{j:Nat}{x:IV}(hj:(IV.agg [.sl [],.bool false,.sl []]).cells[j]?=some x)(h:CR ZZ H U v (.iv x)):CR ZZ H U v (.qc 0 1 j):=by
 refine⟨h.1,x,?_,h.2⟩;have:ZZ.qv 0 1=.agg [.sl [],.bool false,.sl []]:=by
  show qr (mkRat 0 1)=_;rw[show mkRat 0 1=0 by rfl];exact rq
 rw[this];exact hj
theorem T9{H:ah}{U:Bm}{xs:List IV}:∀{vs:List Value},gB false vs=some xs->CRL ZZ H U vs (sO xs):=by
 fun_induction sO xs with
 |case1 l ih=>
  intro vs h;obtain⟨v1,vs,rfl,h1,h⟩:=ll h;obtain⟨v2,vs,rfl,h2,h⟩:=ll h;obtain⟨v3,vs,rfl,h3,h⟩:=ll h;exact⟨CB rfl (kD h1).1,CB rfl (kD h2).1,CB rfl (kD h3).1,ih h⟩
 |case2 l _ ih=>
  intro vs h;obtain⟨v1,vs,rfl,h1,h⟩:=ll h;exact⟨(kD h1).2 rfl,ih h⟩
 |case3 x l _ _ ih=>
  intro vs h;obtain⟨v1,vs,rfl,h1,h⟩:=ll h;exact⟨(kD h1).1,ih h⟩
 |case4=>
  intro vs h;rw[GO h];exact trivial
theorem wL{Z:QS}{H:ah}{U:Bm}{v:Value}{x:IV}(hx:x.isAgg=false)(h:mg false v=some x):CR Z H U v (.iv x)/\(x=.sl []->CR Z H U v (.iv (.nil 3))):=by
 unfold mg at h;split at h
 . rename_i cs;cases hz:gB false cs.toList with
   |none=>rw[hz] at h;simp at h
   |some ys=>rw[hz] at h;simp at h;subst h;simp[IV.isAgg] at hx
 . exact kD h
theorem Ie{v:Value}{cs:List IV}(h:mg false v=some (.agg cs)):∃us:List Value,v=.agg us.toArray/\gB false us=some cs:=by
 unfold mg at h;split at h
 . rename_i us;cases hz:gB false us.toList with
   |none=>rw[hz] at h;simp at h
   |some ys=>rw[hz] at h;simp at h;subst h;exact⟨us.toList,by simp,hz⟩
 . rename_i hn;unfold ol at h;split at h<;>simp at h
theorem GN{Z:QS}{H:ah}{U:Bm}{v:Value}{x:IV}(h:mg false v=some x):WR Z H U v (CY x):=by
 unfold CY;split
 . obtain⟨us,rfl,hu⟩:=Ie h;exact⟨us,rfl,T8 hu⟩
 . exact(wL (Z:=Z) (H:=H) (U:=U) rfl h).2 rfl
 . rename_i h1 h2;exact(wL (Z:=Z) (H:=H) (U:=U) (by cases x<;>first|rfl|exact absurd rfl (h1 _)) h).1
theorem P8{H:ah}{U:Bm}{v:Value}{x:IV}(h:mg false v=some x):WR ZZ H U v (CZ x):=by
 unfold CZ;split
 . obtain⟨us,rfl,hu⟩:=Ie h;have hc:=T9 (H:=H) (U:=U) hu;split
   . rename_i he;rw[he] at hc;exact G3 (Z:=ZZ) (r:=0) (d:=1) hc
   . exact⟨us,rfl,hc⟩
 . exact(wL (Z:=ZZ) (H:=H) (U:=U) rfl h).2 rfl
 . rename_i h1 h2;exact(wL (Z:=ZZ) (H:=H) (U:=U) (by cases x<;>first|rfl|exact absurd rfl (h1 _)) h).1
noncomputable def nZ(t:TypeId):Option EW:=match TT t with
 |some ty=>bif ql t then none else some (CY ty.zero)
 |none=>none
noncomputable def Cm(t:TypeId):Option EW:=match TT t with
 |some ty=>bif ql t then none else some (CZ ty.zero)
 |none=>none
theorem At{t:TypeId}{ty:TY}(h:TT t=some ty)(hn:ql t=false):∃i z,Tryz.prog.info? t=some i/\i.zero=some z/\mg false z=some ty.zero:=by
 have h':=uN t ty h;unfold uP at h';split at h'
 . rename_i i d h1 h2;split at h'
   . rename_i z h3;split at h'
     . rename_i zz fs h4 h5;simp only[ae] at h';subst h';rw[hn] at h4;exact⟨i,z,h1,h3,h4⟩
     . cases h'
   . cases h'
 . cases h'
theorem OX(t:TypeId)(y:EW)(h:nZ t=some y):∃i z,Tryz.prog.info? t=some i/\i.zero=some z/\∀H U,WR ZZ H U z y:=by
 unfold nZ at h;split at h
 . rename_i ty ht;cases hn:ql t with
   |true=>rw[hn] at h;cases h
   |false=>
    rw[hn] at h;simp only[aW,ae] at h;subst h;obtain⟨i,z,h1,h2,h3⟩:=At ht hn;exact⟨i,z,h1,h2,fun H U=>GN h3⟩
 . cases h
theorem OY(t:TypeId)(y:EW)(h:Cm t=some y):∃i z,Tryz.prog.info? t=some i/\i.zero=some z/\∀H U,WR ZZ H U z y:=by
 unfold Cm at h;split at h
 . rename_i ty ht;cases hn:ql t with
   |true=>rw[hn] at h;cases h
   |false=>
    rw[hn] at h;simp only[aW,ae] at h;subst h;obtain⟨i,z,h1,h2,h3⟩:=At ht hn;exact⟨i,z,h1,h2,fun H U=>P8 h3⟩
 . cases h
def mc(n:Int):Bool:=Nat.blt n.natAbs 9223372036854775808
def fm(n:Nat):KV->Bool
 | .ints l=>Nat.beq l.length n&&l.all mc
 |_=>false
def VB:KV->Bool
 | .str s=>Nat.ble s.length 1000000
 |_=>false
def nh(t:TypeId):Option (TypeId×TypeId×(KV->Bool)) :=
 bif Nat.beq t 218 then some (216,48,fm 5) else
 bif Nat.beq t 267 then some (9,3,VB) else
 bif Nat.beq t 194 then some (131,3,fm 4) else none
theorem Rq{n:Int}(h:mc n=true):(Lit.int .i64 n).wf=true:=by
 have h:=lW h;have e1:IntKind.i64.min = -9223372036854775808:=rfl;have e2:IntKind.i64.max=9223372036854775807:=rfl;simp only[Lit.wf,aC,d9];rw[e1,e2];omega
theorem N0{P:Program}{k e:TypeId}{n d:Nat}(hk:P.underlying k=some (.array n e))(he:P.underlying e=some (.int .i64))(c1:P.cellsOf k=n)(c2:P.cellsOf e=1){l:List Int}(hl:l.length=n)(hw:∀x∈l,mc x=true) :
 ∃r,P.keyLits (d+2) k (l.map (Value.int .i64))=some r:=by
 have one:∀x,mc x=true->P.keyLits (d+1) e [Value.int .i64 x]=some [.int .i64 x]:=fun x hx=>by
  unfold Program.keyLits;rw[he];simp only[true_and,Rq hx,bD]
 have key:∀(is:List Nat),(∀i∈is,i<n)->∃rs,(is.mapM fun i=>P.keyLits (d+1) e (((l.map (Value.int .i64)).drop (i*P.cellsOf e)).take (P.cellsOf e)))=some rs:=by
  intro is;induction is with
  |nil=>intro _;exact⟨[],rfl⟩
  |cons i is ih=>
   intro hi;obtain⟨rs,hr⟩:=ih fun j hj=>hi j (by simp[hj]);have hlt:i<l.length:=by rw[hl];exact hi i (by simp)
   have ec:((l.map (Value.int .i64)).drop (i*P.cellsOf e)).take (P.cellsOf e)=[Value.int .i64 l[i]]:=by
    rw[c2,jc,dY (by simpa using hlt)];simp
   refine⟨[.int .i64 l[i]]::rs,?_⟩;rw[zu,ec,one _ (hw _ (bV hlt)),hr];rfl
 obtain⟨rs,hr⟩:=key (List.range n) fun i hi=>List.mem_range.1 hi;refine⟨rs.flatten,?_⟩;unfold Program.keyLits;rw[hk];simp only[cT,hl,c1,bD,hr,eU]
theorem PD{P:Program}{k e:TypeId}{n:Nat}(A:WideMaps.ArrKey P k e n)(he:P.underlying e=some (.int .i64))(hsz:∃m,P.types.size=m+1){l:List Int}(hl:l.length=n)(hw:∀x∈l,mc x=true):∃r,keyOf P k (.agg (l.map (Value.int .i64)).toArray)=some r:=by
 obtain⟨m,hm⟩:=hsz;obtain⟨r,hr⟩:=N0 (d:=m) A.hu he A.size A.one hl hw;refine⟨.string (keyBytes r),?_⟩;unfold keyOf;rw[A.hu];have hf:Value.formed P k (.agg (l.map (Value.int .i64)).toArray)=true:=by
  unfold Value.formed;rw[A.hu];simp[hl,A.size]
 simp only[A.keyType ⟨m,hm⟩,hf,mF,bD];rw[hm];show Option.map _ (P.keyLits (m+1+1) k (l.map (Value.int .i64)))=_;rw[hr];rfl
theorem Ky:WideMaps.ArrKey Tryz.prog 216 3 5:=⟨by kernel_rfl,by kernel_rfl,by kernel_rfl,by kernel_rfl⟩
theorem Kz:WideMaps.ArrKey Tryz.prog 131 3 4:=⟨by kernel_rfl,by kernel_rfl,by kernel_rfl,by kernel_rfl⟩
theorem V3:Tryz.prog.underlying 3=some (.int .i64):=by kernel_rfl
theorem Wp:∃m,Tryz.prog.types.size=m+1:=⟨_,(by kernel_rfl:Tryz.prog.types.size=331+1)⟩
theorem FA{k e:TypeId}{n:Nat}(A:WideMaps.ArrKey Tryz.prog k e n)(he:e=3)(v:Value)(kv:KV)(h1:KVR v kv)(h2:fm n kv=true):∃l,keyOf Tryz.prog k v=some l:=by
 subst he;cases h1 with
 |str s=>cases h2
 |ints l=>
  simp only[fm,aC] at h2;exact PD A V3 Wp (aw h2.1) (List.all_eq_true.1 h2.2)
theorem BW(t k e:TypeId)(ok:KV->Bool)(h:nh t=some (k,e,ok)):Tryz.prog.underlying t=some (.map k e)/\Maps.Keyed Tryz.prog k/\∀v kv,KVR v kv->ok kv=true->∃l,keyOf Tryz.prog k v=some l:=by
 unfold nh at h;cases h1:Nat.beq t 218 with
 |true=>
  rw[h1] at h;simp only[ai,ae,aA] at h;obtain⟨rfl,rfl,rfl⟩:=h;have:=aw h1;subst this;exact⟨by kernel_rfl,MO Ky.law,FA Ky rfl⟩
 |false=>
  rw[h1,aW] at h;cases h2:Nat.beq t 267 with
  |true=>
   rw[h2] at h;simp only[ai,ae,aA] at h;obtain⟨rfl,rfl,rfl⟩:=h;have:=aw h2;subst this;have hs:Tryz.prog.underlying 9=some .string:=by kernel_rfl
   refine⟨by kernel_rfl,MO (WideMaps.string_law hs),fun v kv k1 k2=>?_⟩;cases k1 with
   |ints l=>cases k2
   |str s=>
    refine⟨.string s.data.toList,?_⟩;have hle:=aB k2;unfold keyOf;rw[hs];simp only[mapKey,hs];rw[ar];have:s.size=s.data.toList.length:=by rw[eE];rfl
    unfold maxLen;omega
  |false=>
   rw[h2,aW] at h;cases h3:Nat.beq t 194 with
   |true=>
    rw[h3] at h;simp only[ai,ae,aA] at h;obtain⟨rfl,rfl,rfl⟩:=h;have:=aw h3;subst this;exact⟨by kernel_rfl,MO Kz.law,FA Kz rfl⟩
   |false=>rw[h3] at h;cases h
noncomputable def BS:Tab:=⟨TT,nZ,nh⟩
noncomputable def BE:Tab:=⟨TT,Cm,nh⟩
theorem mixed:Tryz.prog.follows .mixedOrders=true:=by kernel_rfl
noncomputable def XS(J:Keep):EX:=⟨Tryz.prog,BS,uN,mixed,J.I,ZZ,OX,BW⟩
noncomputable def XE(J:Keep):EX:=⟨Tryz.prog,BE,uN,mixed,J.I,ZZ,OY,BW⟩
end Go.Proofs.En
namespace Go.Proofs.En
open Go.RowKit Go.Proofs.Fl
def oh:Nat->List EO->List (Nat×EO)
 |_,[]=>[]
 |i,o::l=>(i,o)::oh (i+1) l
theorem GT:∀{l:List EO} {i g:Nat},cJ (oh i l) g=if i<=g then l[g-i]? else none
 | [],i,g=>by simp[oh,cJ]
 |o::l,i,g=>by
  unfold oh cJ;by_cases h:g=i
  . subst h;simp[bj]
  . rw[eO h,aW,GT];by_cases h1:i+1<=g
    . rw[ar h1,ar (by omega),show g-i=(g-(i+1))+1 by omega];simp
    . rw[al h1,al (by omega)]
theorem Qb(l:List EO):cJ (oh 0 l)=g3 l:=by
 funext g;rw[GT];simp[g3]
inductive ArgOk(k:Nat):ES->Prop
 |c {x:ES} (h:(fb x).all (fun i=>Nat.blt i k)=true):ArgOk k x
 |d {x:ES} (h:fb x=[]):ArgOk k x
def ye(k:Nat):List ES->Prop
 | []=>True
 |x::l=>ArgOk k x/\ye k l
inductive ObjOk(p:Nat->Bool):EO->Prop
 |c {o:EO} (h:yl p o=true):ObjOk p o
 |d {o:EO} (h:ig o):ObjOk p o
def rV(p:Nat->Bool):List EO->Prop
 | []=>True
 |o::l=>ObjOk p o/\rV p l
def KQ:EO->Bool
 | .hid=>true
 |_=>false
def si(zs:List EO)(i:Nat):Bool:=match zs[i]? with
 |some .hid=>false
 |some _=>true
 |none=>false
theorem Hn{zs:List EO}{i:Nat}(h:si zs i=true):fy zs i:=by
 unfold si at h;split at h
 . cases h
 . rename_i o hn ho;exact⟨(List.getElem?_eq_some_iff.1 ho).1,fun e=>by rw[ho] at e;cases e;exact absurd rfl (hn)⟩
 . cases h
theorem GK{k:Nat}:∀{l:List ES},ye k l->∀i∈l.flatMap fb,i<k
 | [],_,i,hi=>by cases hi
 |x::l,⟨h1,h2⟩,i,hi=>by
  simp only[dz,vn] at hi;rcases hi with hi|hi
  . cases h1 with
    |c h=>have:=List.all_eq_true.1 h i hi;rwa[cR] at this
    |d h=>rw[h] at hi;cases hi
  . exact GK h2 i hi
theorem QD{p:Nat->Bool}{P:Nat->Prop}(hp:∀i,p i=true->P i){o:EO}(h:ObjOk p o):ut o=true/\OIds P id o:=by
 cases h with
 |c h=>exact⟨(by cases o<;>first|rfl|cases h),Gm hp h⟩
 |d h=>exact⟨(by cases o<;>first|rfl|exact h.elim),wg h⟩
theorem AB{p:Nat->Bool}{P:Nat->Prop}(hp:∀i,p i=true->P i):∀{l:List EO},rV p l->∀o∈l,ut o=true/\OIds P id o
 |x::l,⟨h1,h2⟩,o,ho=>by
  rcases List.mem_cons.1 ho with rfl|ho
  . exact QD hp h1
  . exact AB hp h2 o ho
section
variable {X:EX}
def cH(ids:List Nat)(i:Nat):Nat:=ids.getD i 0
inductive MZ(V:Nat->Nat):Option EO->EO->Prop
 |c {x:Option EO} {o:EO} (h:x=some (dN V o)):MZ V x o
 |d {x:Option EO} {o:EO} (h:x=some o) (hc:ig o):MZ V x o
def pK(h:Hp)(V:Nat->Nat):Nat->List EO->Prop
 |_,[]=>True
 |i,o::l=>MZ V (h (V i)) o/\pK h V (i+1) l
def qm(h:Hp)(V:Nat->Nat):Nat->Nat->Prop
 |_,0=>True
 |i,n+1=>h (V i)=none/\qm h V (i+1) n
inductive OZ(V:Nat->Nat):EO->EO->Prop
 |c {o o':EO} (h:dN V o=o'):OZ V o o'
 |d {o:EO} (hc:ig o):OZ V o o
def qk(V:Nat->Nat):List EO->List EO->Prop
 | [],[]=>True
 |o::l,o'::l'=>OZ V o o'/\qk V l l'
 |_,_=>False
inductive RZ(V:Nat->Nat):ES->ES->Prop
 |c {x y:ES} (h:il V x=y):RZ V x y
 |d {x:ES} (hc:fb x=[]):RZ V x x
def argZ(V:Nat->Nat):List ES->List ES->Prop
 | [],[]=>True
 |o::l,o'::l'=>RZ V o o'/\argZ V l l'
 |_,_=>False
def m5:List Nat->List EO->Wr
 |g::gs,o::l=>(g,o)::m5 gs l
 |_,_=>[]
theorem RZ.eq{V:Nat->Nat}{x y:ES}(h:RZ V x y):il V x=y:=by
 cases h with
 |c h=>exact h
 |d h=>exact Ac h
theorem argZ.eq{V:Nat->Nat}:∀{l l':List ES},argZ V l l'->l.map (il V)=l'
 | [],[],_=>rfl
 |_::_,_::_,⟨h1,h2⟩=>by rw[aS,h1.eq,argZ.eq h2]
 | [],_::_,h=>h.elim
 |_::_,[],h=>h.elim
theorem AF{h:Hp}{V:Nat->Nat}:∀{l:List EO} {k:Nat},pK h V k l->∀i o,l[i]?=some o->h (V (k+i))=some (dN V o)
 |o::l,k,⟨h1,h2⟩,0,o',hi=>by
  simp at hi;subst hi;cases h1 with
  |c h=>exact h
  |d h hc=>rw[Ao hc];exact h
 |o::l,k,⟨h1,h2⟩,i+1,o',hi=>by
  have:=AF h2 i o' (by simpa using hi);rwa[show k+1+i=k+(i+1) by omega] at this
theorem BV{h:Hp}{V:Nat->Nat}:∀{n k:Nat},qm h V k n->∀i,i<n->h (V (k+i))=none
 |n+1,k,⟨h1,h2⟩,0,_=>h1
 |n+1,k,⟨h1,h2⟩,i+1,hi=>by
  have:=BV h2 i (by omega);rwa[show k+1+i=k+(i+1) by omega] at this
theorem Ak:∀{ids:List Nat},lQ ids=true->∀i j,i<ids.length->j<ids.length->ids.getD i 0=ids.getD j 0->i=j
 | [],_,i,_,h,_,_=>by simp at h
 |x::l,h,i,j,hi,hj,e=>by
  simp only[lQ,aC] at h;have key:∀{k:Nat},k<l.length->x≠l.getD k 0:=fun{k} hk=>A8 h.1 (by rw[aV,aQ hk];exact bV hk);cases i with
  |zero=>cases j with
   |zero=>rfl
   |succ j=>simp only[Xy,vI] at e;exact absurd e (key (by simpa using hj))
  |succ i=>cases j with
   |zero=>simp only[Xy,vI] at e;exact absurd e.symm (key (by simpa using hi))
   |succ j=>
    simp only[vI] at e;rw[Ak h.2 i j (by simpa using hi) (by simpa using hj) e]
theorem BT{ids:List Nat}:∀{l l':List EO} {k:Nat},k+l.length=ids.length->qk (cH ids) l l'->md (cH ids) k l=m5 (ids.drop k) l'
 | [],[],k,_,_=>by
  cases ids.drop k<;>rfl
 |o::l,o'::l',k,hl,⟨h1,h2⟩=>by
  simp only[bf] at hl;have hk:k<ids.length:=by omega
  rw[dY hk];have e1:cH ids k=ids[k]:=by simp[cH,hk]
  have e2:dN (cH ids) o=o':=by
   cases h1 with
   |c h=>exact h
   |d h=>exact Ao h
  show(cH ids k,dN (cH ids) o)::md (cH ids) (k+1) l=(ids[k],o')::m5 (ids.drop (k+1)) l';rw[e1,e2,BT (k:=k+1) (by omega) h2]
 | [],_::_,_,_,h=>h.elim
 |_::_,[],_,_,h=>h.elim
theorem wG:∀{ids:List Nat} {l:List EO} {p:Nat×EO},p∈m5 ids l->p.1∈ids
 |g::gs,o::l,p,h=>by
  rcases List.mem_cons.1 h with rfl|h
  . simp
  . exact dx _ (wG h)
 | [],_,_,h=>by cases h
 |_::_,[],_,h=>by cases h
theorem jh{nx:Nat}{f:FuncId}{args args0:List ES}{zs zs' zo:List EO}{r0 r:ES}{h:Hp}{K:ES->Wr->Nat->Option (List Nat)->Prop}(L:LocC X f args0 zs r0 zs')(ids:List Nat)(b:Nat)
 (hn:(Nat.beq ids.length zs'.length&&(lQ ids&&ids.all fun i=>Nat.blt i (nx+b)))=true) (ha:argZ (cH ids) args0 args) (hz:pK h (cH ids) 0 zs) (hnew:qm h (cH ids) zs.length (zs'.length-zs.length)) (ho:qk (cH ids) zs' zo) (hr:RZ (cH ids) r0 r)
 (hK:K r (m5 ids zo) b none):eX X nx f args h K:=by
 simp only[aC] at hn;have hlen:=aw hn.1;have hle:=L.le;have hc:=Fb L (V:=cH ids) (fun i j hi hj e=>Ak hn.2.1 i j (by omega) (by omega) e) (h:=h) (fun i o hi=>by have:=AF hz i o hi;rwa[aX] at this) fun i h1 h2=>by
  have:=BV hnew (i-zs.length) (by omega);rwa[show zs.length+(i-zs.length)=i by omega] at this
 rw[ha.eq,hr.eq,BT (by omega) ho,bJ] at hc;refine .inr (.inl ⟨r,m5 ids zo,b,hc,fun p hp=>.inl ?_,hK⟩);have:=List.all_eq_true.1 hn.2.2 p.1 (wG hp);rwa[cR] at this
theorem OL{nx:Nat}{f:FuncId}{args args0:List ES}{zs zs' zo:List EO}{r0 r:ES}{h:Hp}{K:ES->Wr->Nat->Option (List Nat)->Prop}(L:LocC X f args0 zs r0 zs')(ids:List Nat)(b:Nat)
 (hn:(Nat.beq ids.length zs'.length&&(lQ ids&&ids.all fun i=>Nat.blt i (nx+b)))=true) (ha:argZ (cH ids) args0 args) (hz:pK h (cH ids) 0 zs) (hnew:qm h (cH ids) zs.length (zs'.length-zs.length)) (ho:qk (cH ids) zs' zo) (hr:RZ (cH ids) r0 r)
 (hK:K r (m5 ids zo) b (some ids)):eX X nx f args h K:=by
 simp only[aC] at hn;have hlen:=aw hn.1;have hle:=L.le;have hmem:∀i,i<zs'.length->cH ids i∈ids:=fun i hi=>by
  unfold cH;rw[aV,aQ (by omega)];exact bV _
 have key:∀h:Hp,pK h (cH ids) 0 zs->qm h (cH ids) zs.length (zs'.length-zs.length)->CallOk X f args h r (a7 h (m5 ids zo)):=fun h hz hnew=>by
  have hc:=Fb L (V:=cH ids) (fun i j hi hj e=>Ak hn.2.1 i j (by omega) (by omega) e) (h:=h) (fun i o hi=>by have:=AF hz i o hi;rwa[aX] at this) fun i h1 h2=>by
   have:=BV hnew (i-zs.length) (by omega);rwa[show zs.length+(i-zs.length)=i by omega] at this
  rwa[ha.eq,hr.eq,BT (by omega) ho,bJ] at hc
 have hv:∀i,i<zs'.length->cO (fun g=>bL g ids) h (cH ids i)=h (cH ids i):=fun i hi=>pi (ji.2 (hmem i hi));have m2:∀{l:List EO} {k:Nat},k+l.length<=zs'.length->pK h (cH ids) k l->pK (cO (fun g=>bL g ids) h) (cH ids) k l:=by
  intro l;induction l with
  |nil=>intro k _ _;trivial
  |cons o l ih=>
   intro k hk hm;simp only[bf] at hk;exact⟨by rw[hv k (by omega)];exact hm.1,ih (by omega) hm.2⟩
 have n2:∀{n k:Nat},k+n<=zs'.length->qm h (cH ids) k n->qm (cO (fun g=>bL g ids) h) (cH ids) k n:=by
  intro n;induction n with
  |zero=>intro k _ _;trivial
  |succ n ih=>intro k hk hm;exact⟨by rw[hv k (by omega)];exact hm.1,ih (by omega) hm.2⟩
 refine .inr (.inr ⟨r,m5 ids zo,b,ids,key h hz hnew,key _ (m2 (by omega) hz) (n2 (by omega) hnew),fun p hp=>⟨.inl ?_,wG hp⟩,hK⟩);have:=List.all_eq_true.1 hn.2.2 p.1 (wG hp);rwa[cR] at this
end
def SWr(X:EX)(nP:Nat)(rd:Bool)(nt:Nat)(m:Nat)(c:Code)(s:SS)(K:Exit->SS->Prop):Prop :=
 ∀ro,(rd=false->ro=none)->∀(E:EEnv),(∀w',BelowO E.own E.w0 w'->X.I w')->(∀g,E.hid g->g<nP)->∀(w0:World) (H:ah) (U:Bm) (a:Act) (w:World) (Q:Exit->Act->World->Prop),SSm X E w0 nt H U s a w->
  (∀e s' a' w',K e s'->SPost X nP E w0 nt H U w s' a' w'->Q e a' w')->Code.roundsIn (FW ro) 0 X.P c Q m a w
def sR(X:EX)(nP:Nat)(rd:Bool)(nt:Nat)(m:Nat)(c:Code)(K:Exit->SS->Prop):Exit->SS->Prop
 | .normal,s=>SWr X nP rd nt m c s K
 |e,s=>K e s
section
variable {X:EX}{nP:Nat}{rd:Bool}{nt:Nat}{s:SS}{K:Exit->SS->Prop}
theorem AX{c:Code}(m:Nat)(h:SWr X nP rd nt m c s K):SW X nP rd nt (.loop c) s K:=fun ro hro E hI hh w0 H U a w Q hS hQ=>
 Ex m (h ro hro E hI hh w0 H U a w Q hS hQ)
theorem SWr.step{c:Code}{m:Nat}(h:SW X nP rd nt c s (sR X nP rd nt m c K)):SWr X nP rd nt (m+1) c s K:=fun ro hro E hI hh w0 H U a w Q hS hQ=>by
 rw[tv];refine h ro hro E hI hh w0 H U a w _ hS fun e s1 a1 w1 hk hp=>?_;cases e with
 |normal=>
  obtain⟨H1,β1,p1,p2,p3,p4⟩:=hp;exact hk ro hro E hI hh w0 H1 β1 a1 w1 Q p3 fun e s' a' w' k hp'=>hQ e s' a' w' k (hp'.trans p1 p2 p4)
 |_=>exact hQ _ _ _ _ hk hp
theorem SWr.to{c:Code}{m:Nat}{s':SS}(t:To nP s s')(h:SWr X nP rd nt m c s' K):SWr X nP rd nt m c s K:=fun ro hro E hI hh w0 H U a w Q hS hQ=>by
 obtain⟨U',k1,k2⟩:=hS.to hh t;refine h ro hro E hI hh w0 H U' a w Q k2 fun e s2 a' w' k hp'=>hQ e s2 a' w' k ?_;obtain⟨H2,β2,j1,j2,j3,j4⟩:=hp';exact⟨H2,β2,j1,fun g u k hg hk=>j2 g u k hg (by rw[k1 g hg];exact hk),j3,j4⟩
end
theorem W2{a:Int}{j:Nat}{K:Nat->Prop}(h:a=(j:Int))(k:K j):∃m:Nat,a=(m:Int)/\K m:=⟨j,h,k⟩
theorem V7{l u n:Nat}{z:Bool}{K:Prop}(h1:l<=u)(h2:u<=n)(h3:l=0\/z=true)(k:K):l<=u/\u<=n/\(l=0\/z=true)/\K:=⟨h1,h2,h3,k⟩
theorem ov{a:Nat->bO}{nx:Nat}{r:ES}{ws:Wr}{K:Nat->Nat->ES->Wr->Prop}(h:a nx=some (r,ws))(k:K nx 1 r ws):∃g b r ws,a g=some (r,ws)/\g<nx+b/\K g b r ws:=⟨nx,1,r,ws,h,tt _,k⟩
variable {J:Keep}
theorem pS{f:FuncId}{fn:Func}{c:Code}(hf:Tryz.prog.funcs[f]?=some fn)(hb:fn.body=some c)(hn:(fn.name == "runtime.NumGoroutine")=false){xs:List IV}{r:IV}(hx:Nat.ble xs.length fn.ntmps=true)(hxt:jn xs=true)(hrt:qG r=true)
 (hw:SW (XS J) 0 false fn.ntmps c ⟨argS (xs.map dS),fun _=>none,0⟩ (iJ (XS J) fn.results.toList fun _ rf=>rf=dS r)):C J f xs r :=
 Vz (X:=XS J) J.bel hf hb hn hx hxt hrt hw
theorem jB{a b:Bool}{K:Bool->Prop}(h:a=b)(k:K b):∃n,a=n/\K n:=⟨b,h,k⟩
theorem yT{α:Sort _}{a:α}{p:Prop}[Decidable p]{K:Bool->Prop}(h:p)(k:K true):a=a/\∃n,decide p=n/\K n:=⟨rfl,true,bu h,k⟩
theorem yF{α:Sort _}{a:α}{p:Prop}[Decidable p]{K:Bool->Prop}(h:¬p)(k:K false):a=a/\∃n,decide p=n/\K n:=⟨rfl,false,bz h,k⟩
theorem b8{a b:Int}{K:Int->Prop}(h:a=b)(k:K b):∃n,a=n/\K n:=⟨b,h,k⟩
theorem jp{a b:Nat}{K:Nat->Prop}(h:a=b)(k:K b):∃n,a=n/\K n:=⟨b,h,k⟩
theorem bN{a:Option EO}{o:EO}{K:EO->Prop}(h:a=some o)(k:K o):∃o,a=some o/\K o:=⟨o,h,k⟩
theorem bi{a:Option (List EV)}{o:List EV}{K:List EV->Prop}(h:a=some o)(k:K o):∃o,a=some o/\K o:=⟨o,h,k⟩
theorem kg{a:bO}{r:ES}{K:ES->Prop}(h:a=some (r,[]))(k:K r):∃r,a=some (r,[])/\K r:=⟨r,h,k⟩
theorem vk{a:bO}{r:ES}{ws:Wr}{K:ES->Wr->Prop}(h:a=some (r,ws))(k:K r ws):∃r ws,a=some (r,ws)/\K r ws:=⟨r,ws,h,k⟩
theorem oK{a:bO}{g:Nat}{o:EO}{K:Nat->EO->Prop}(h:a=some (.und,[(g,o)]))(k:K g o):∃g o,a=some (.und,[(g,o)])/\K g o:=⟨g,o,h,k⟩
theorem Lt{a:Option EO}{es:List (EW×EW×Nat)}{ck:Nat}{K:Nat->Prop}(h:a=some (.map es ck))(k:K ck):∃es ck,a=some (.map es ck)/\K ck:=⟨es,ck,h,k⟩
theorem cX{a:Int}{es:List IV}{sz j:Nat}{y:IV}{K:IV->Prop}(h:a=(j:Int))(h1:es[j]?=some y)(h2:y.cells.length=sz)(k:K y):∃(j:Nat) (y:IV),a=(j:Int)/\es[j]?=some y/\y.cells.length=sz/\K y:=⟨j,y,h,h1,h2,k⟩
theorem iN{a:Int}{n off sz j o:Nat}{K:Nat->Prop}(h:a=(j:Int))(h1:j<n)(h2:off+j*sz=o)(k:K o):∃j:Nat,a=(j:Int)/\j<n/\∃o,off+j*sz=o/\K o:=⟨j,h,h1,o,h2,k⟩
theorem uX{a:Int}{n j:Nat}{cs:List EV}{c:EV}{K:EV->Prop}(h:a=(j:Int))(h1:j<n)(h2:cs[j]?=some c)(k:K c):∃(j:Nat) (c:EV),a=(j:Int)/\j<n/\cs[j]?=some c/\K c:=⟨j,c,h,h1,h2,k⟩
theorem yr{a:Nat->bO}{nx:Nat}{g b:Nat}{r:ES}{ws:Wr}{K:Nat->Nat->ES->Wr->Prop}(h:a g=some (r,ws))(h1:g<nx+b)(k:K g b r ws):∃g b r ws,a g=some (r,ws)/\g<nx+b/\K g b r ws:=⟨g,b,r,ws,h,h1,k⟩
def DT(ag:Bool)(sz:Nat)(cs:List IV):IV:=match ag with
 |true=>.agg (cs.take sz)
 |false=>cs.headD (.bool false)
def fA(ag:Bool)(sz:Nat):Nat->List IV->List IV
 |0,_=>[]
 |n+1,cs=>DT ag sz cs::fA ag sz n (cs.drop sz)
def du{α U:Type}(f:α->Option U):List α->Option (List U)
 | []=>some []
 |a::l=>match f a with
  |some b=>match du f l with
   |some bs=>some (b::bs)
   |none=>none
  |none=>none
def cj(T:TypeId->Option TY)(Z:QS)(S:Nat->Bool)(h:Hp):Nat->EV->Option IV
 |_,.iv x=>match x with
  | .nil 3=>some (.sl [])
  |x=>some x
 |_,.qc n d j=>(Z.qv n d).cells[j]?
 |f+1,.slc g u off n _=>match S g with
  |true=>match h g with
   |some (.mem e cs _ vs _)=>match T e,dV u vs with
    |some te,some p=>bif Nat.ble (off+n*te.size) p then(match du (cj T Z S h f) ((cs.drop off).take (n*te.size)) with
     |some xs=>bif dT te.size (fA te.sh.agg te.size n xs)&&(te.sh.agg||(Nat.beq te.size 1&&xs.all fun x=>!x.isAgg)) then some (.sl (fA te.sh.agg te.size n xs)) else none
     |none=>none) else none
    |_,_=>none
   |_=>none
  |false=>none
 |_,_=>none
def qt(T:TypeId->Option TY)(Z:QS)(S:Nat->Bool)(h:Hp)(f:Nat):EW->Option IV
 | .one c=>cj T Z S h f c
 | .agg cs=>match du (cj T Z S h f) cs with
  |some xs=>some (.agg xs)
  |none=>none
 | .q n d=>some (Z.qv n d)
def iO(T:TypeId->Option TY)(Z:QS)(S:Nat->Bool)(h:Hp)(f:Nat):ES->Option IV
 | .w x=>qt T Z S h f x
 | .tup xs=>match du (qt T Z S h f) xs with
  |some ys=>some (.tup ys)
  |none=>none
 |_=>none
theorem Bh(ag:Bool)(sz:Nat):∀(n:Nat) (cs:List IV),(fA ag sz n cs).length=n
 |0,_=>rfl
 |n+1,cs=>by rw[fA,bf,Bh ag sz n]
theorem FN{ag:Bool}{sz:Nat}:∀{n:Nat} {cs:List IV},cs.length=n*sz->(ag=true\/(sz=1/\∀x∈cs,x.isAgg=false))->(fA ag sz n cs).flatMap IV.cells=cs
 |0,cs,h,_=>by
  rw[mA] at h;rw[vv h];rfl
 |n+1,cs,h,ha=>by
  rw[qX] at h;have ih:=FN (ag:=ag) (sz:=sz) (n:=n) (cs:=cs.drop sz) (by rw[k8];omega) (ha.imp id fun k=>⟨k.1,fun x hx=>k.2 x (iu hx)⟩);rw[fA,dz,ih];cases ag with
  |true=>exact ks _ _
  |false=>
   obtain⟨h1,hb⟩:sz=1/\∀x∈cs,x.isAgg=false:=ha.resolve_left (by simp);subst h1;cases cs with
   |nil=>simp at h
   |cons x cs=>
    have:=hb x (by simp);have e:x.cells=[x]:=by cases x<;>first|rfl|simp[IV.isAgg] at this
    show x.cells++cs=x::cs;rw[e];rfl
noncomputable def fL(U:Bm)(S:Nat->Bool)(h:Hp)(H:ah)(w:World):ah:=fun b=>match H b with
 |some a=>some a
 |none=>open Classical in if ∃g u k e cs fz vs cnt p,S g=true/\h g=some (.mem e cs fz vs cnt)/\(u,p)∈vs/\U g u=some k/\k.1=b then(match w.heap[b]? with
  |some (.cells arr _ _)=>some arr
  |_=>none) else none
section
variable {Z:QS}{E:EEnv}{H:ah}{U:Bm}{h:Hp}{w:World}{T:TypeId->Option TY}{S:Nat->Bool}
theorem mO:HLe H (fL U S h H w):=fun b arr hb=>by unfold fL;rw[hb]
theorem GG(hh:HeapHas w H):HeapHas w (fL U S h H w):=fun b arr hb=>by
 unfold fL at hb;split at hb
 . rename_i a ha;simp only[ae] at hb;subst hb;exact hh b a ha
 . split at hb
   . split at hb
     . rename_i arr' e fr he;simp only[ae] at hb;subst hb;exact⟨_,_,he⟩
     . cases hb
   . cases hb
theorem PH(hS:ESim Z E H U h w){g u p:Nat}{e:TypeId}{cs:List EV}{fz:Bool}{vs:List (Nat×Nat)}{cnt:Nat}(hs:S g=true)(hg:h g=some (.mem e cs fz vs cnt))(hv:(u,p)∈vs) :
 ∃k arr,U g u=some k/\fL U S h H w k.1=some arr/\E.own k.1/\w.heap[k.1]?=some (.cells arr e (0,0))/\p<=arr.size/\p<=cs.length/\CRL Z H U (arr.toList.take p) (cs.take p):=by
 obtain⟨_,hall⟩:=hS.obj g _ hg;obtain⟨h1,k,arr,h2,h3,h4,h5,h6,h7,h8,h9⟩:=hall u p hv;refine⟨k,arr,h2,?_,h3,h5,h8,h7,h9⟩;unfold fL;cases fz with
 |true=>rw[ar rfl] at h4;rw[h4]
 |false=>
  rw[al (by simp)] at h4;rw[h4];simp only;rw[ar ⟨g,u,k,e,cs,false,vs,cnt,p,hs,hg,hv,h2,rfl⟩,h5]
theorem AO(hS:ESim Z E H U h w){b:Nat}{arr:Array Value}(hb:fL U S h H w b=some arr):H b=some arr\/(E.own b/\∃g u k e cs fz vs cnt p,S g=true/\h g=some (.mem e cs fz vs cnt)/\(u,p)∈vs/\U g u=some k/\k.1=b):=by
 unfold fL at hb;split at hb
 . rename_i a ha;simp only[ae] at hb;subst hb;exact .inl ha
 . split at hb
   . rename_i hx;obtain⟨g,u,k,e,cs,fz,vs,cnt,p,h1,h2,h3,h4,h5⟩:=hx;obtain⟨_,hall⟩:=hS.obj g _ h2;obtain⟨_,k',arr',k1,k2,_⟩:=hall u p h3;rw[h4] at k1;cases k1;exact .inr ⟨by rw[<-h5];exact k2,g,u,k,e,cs,fz,vs,cnt,p,h1,h2,h3,h4,h5⟩
   . cases hb
theorem Ci{H':ah}{f:EV->Option IV}:∀{cs:List EV} {us:List Value} {xs:List IV},(∀v x y,CR Z H U v x->f x=some y->VR H' v y)->CRL Z H U us cs->du f cs=some xs->CRL Z H' U us (xs.map .iv)/\xs.length=cs.length
 | [],[],xs,_,_,h=>by
  simp only[du,ae] at h;subst h;exact⟨trivial,rfl⟩
 |c::cs,u::us,xs,hf,⟨h1,h2⟩,h=>by
  unfold du at h;split at h
  . rename_i b hb;split at h
    . rename_i bs hbs;simp only[ae] at h;subst h;obtain⟨i1,i2⟩:=Ci hf h2 hbs;exact⟨⟨⟨h1.one,hf _ _ _ h1 hb⟩,i1⟩,by simp[i2]⟩
    . cases h
  . cases h
 | [],_::_,_,_,h,_=>h.elim
 |_::_,[],_,_,h,_=>h.elim
theorem Jw(hS:ESim Z E H U h w):∀{f:Nat} {x:EV} {v:Value} {y:IV},CR Z H U v x->cj T Z S h f x=some y->VR (fL U S h H w) v y:=by
 intro f;induction f with
 |zero=>
  intro x v y hv hd;unfold cj at hd;split at hd
  . split at hd
    . simp only[ae] at hd;subst hd;have:=hv.2;cases this;exact .sl0 _ _
    . simp only[ae] at hd;subst hd;exact hv.2.mono mO
  . obtain⟨_,x,h1,h2⟩:=hv;rw[h1] at hd;simp only[ae] at hd;subst hd;exact h2.mono mO
  . contradiction
  . cases hd
 |succ f ih=>
  intro x v y hv hd;unfold cj at hd;split at hd
  . split at hd
    . simp only[ae] at hd;subst hd;have:=hv.2;cases this;exact .sl0 _ _
    . simp only[ae] at hd;subst hd;exact hv.2.mono mO
  . obtain⟨_,x,h1,h2⟩:=hv;rw[h1] at hd;simp only[ae] at hd;subst hd;exact h2.mono mO
  . rename_i f' g u off n cap hf;cases hf;split at hd
    . rename_i hs;split at hd
      . rename_i e cs fz vs cnt hg;split at hd
        . rename_i te p ht hp;cases hb:Nat.ble (off+n*te.size) p with
          |false=>rw[hb] at hd;cases hd
          |true=>
           rw[hb,ai] at hd;have hb:=aB hb;split at hd
           . rename_i xs hxs;cases hc:(dT te.size (fA te.sh.agg te.size n xs)&&(te.sh.agg||(Nat.beq te.size 1&&xs.all fun x=>!x.isAgg))) with
             |false=>rw[hc] at hd;cases hd
             |true=>
              rw[hc,ai] at hd;simp only[ae] at hd;subst hd;simp only[aC,fO,kq,eF] at hc;obtain⟨k,arr,k1,k2,_,k3,k4,k5,k6⟩:=PH (S:=S) hS hs hg (nS hp);obtain⟨k',c,e1,rfl,e2,e3⟩:=hv;rw[k1] at e1;cases e1;have h5:=(k6.drop off).take (n*te.size);rw[kY,kY,b6,b6,cg (by omega)] at h5;obtain⟨a1,a2⟩:=Ci (H':=fL U S h H w) (fun v x y hv hd=>ih hv hd) h5 hxs;have hl:xs.length=n*te.size:=by rw[a2,b9,k8];omega
              have hcells:=FN (ag:=te.sh.agg) hl (hc.2.imp id fun k=>⟨aw k.1,k.2⟩);rw[<-hcells] at a1;obtain⟨vs',v1,v2,v3⟩:=zY hc.1 a1;have hln:=v1.length;rw[Bh] at hln;refine VR.sl k.1 off n c te.size arr vs' _ k2 v1 (Bh _ _ _ _).symm e2 v3 ?_;rw[v2,hln]
           . cases hd
        . cases hd
      . cases hd
    . cases hd
  . cases hd
theorem Jv(hS:ESim Z E H U h w){f:Nat}{x:EW}{v:Value}{y:IV}(hv:WR Z H U v x)(hd:qt T Z S h f x=some y):VR (fL U S h H w) v y:=by
 unfold qt at hd;split at hd
 . exact Jw hS hv hd
 . split at hd
   . rename_i cs xs hxs;simp only[ae] at hd;subst hd;obtain⟨us,rfl,hu⟩:=hv;obtain⟨a1,a2⟩:=Ci (H':=fL U S h H w) (fun v x y hv hd=>Jw hS hv hd) hu hxs;obtain⟨b1,b2⟩:=ui a1;exact .agg _ _ b1 b2
   . cases hd
 . simp only[ae] at hd;subst hd;exact VR.mono mO hv
theorem JG(hS:ESim Z E H U h w){f:Nat}:∀{xs:List EW} {us:List Value} {ys:List IV},WRL Z H U us xs->du (qt T Z S h f) xs=some ys->VRL (fL U S h H w) us ys
 | [],[],ys,_,hd=>by
  simp only[du,ae] at hd;subst hd;exact .nil
 |x::xs,u::us,ys,⟨h1,h2⟩,hd=>by
  unfold du at hd;split at hd
  . rename_i b hb;split at hd
    . rename_i bs hbs;simp only[ae] at hd;subst hd;exact .cons _ _ _ _ (Jv hS h1 hb) (JG hS h2 hbs)
    . cases hd
  . cases hd
 | [],_::_,_,h,_=>h.elim
 |_::_,[],_,h,_=>h.elim
theorem Jx(hS:ESim Z E H U h w){f:Nat}{x:ES}{v:Value}{y:IV}(hv:SRe Z H U v x)(hd:iO T Z S h f x=some y):VR (fL U S h H w) v y:=by
 unfold iO at hd;split at hd
 . exact Jv hS hv hd
 . split at hd
   . rename_i ys hys;simp only[ae] at hd;subst hd;obtain⟨us,rfl,hu⟩:=hv;exact .tup _ _ (JG hS hu hys)
   . cases hd
 . cases hd
end
def uO:Nat->PT ES
 |0=>.nil
 |n+1=>(uO n).set n .unk
def oH(nt:Nat):List (Nat×ES)->PT ES
 | []=>uO nt
 | (n,x)::l=>(oH nt l).set n x
def ns:List (Nat×EO)->PT EO
 | []=>.nil
 | (n,x)::l=>(ns l).set n x
theorem Io:∀{nt n:Nat},(uO nt).sl n=if n<nt then .unk else .und
 |0,n=>by simp[uO,PT.sl,PT.get]
 |k+1,n=>by
  have ih:=Io (nt:=k) (n:=n);unfold PT.sl at ih ⊢;rw[uO,mK];by_cases h:n=k
  . subst h;simp
  . rw[al h,ih];by_cases h2:n<k
    . rw[ar h2,ar (by omega)]
    . rw[al h2,al (by omega)]
theorem J4{nt:Nat}{Z:QS}{H:ah}{U:Bm}{f:Nat->Value}(hf:∀t,nt<=t->f t=undef):∀{l:List (Nat×ES)} {t:Nat},SRe Z H U (f t) (oF l t)->SRe Z H U (f t) ((oH nt l).sl t)
 | [],t,h=>by
  rw[oH,Io];by_cases h:t<nt
  . rw[ar h];exact trivial
  . rw[al h];exact hf t (by omega)
 | (n,x)::l,t,h=>by
   unfold PT.sl;rw[oH,mK];rw[oF] at h;by_cases h2:t=n
   . subst h2;rw[bj,ai] at h;simp only[bD];exact h
   . rw[eO h2,aW] at h;rw[al h2];exact J4 hf h
theorem BM:∀(l:List (Nat×EO)),(ns l).get=cJ l
 | []=>by funext n;simp[ns,PT.get,cJ]
 | (n,x)::l=>by
   funext m;have ih:=congrFun (BM l) m;rw[ns,mK,cJ];by_cases h:m=n
   . subst h;simp[bj]
   . rw[al h,eO h,aW];exact ih
def oE(nx:Nat):List Nat->Bool
 | []=>true
 |g::l=>Nat.blt g nx&&oE nx l
theorem JQ{nx:Nat}:∀{l:List Nat},oE nx l=true->∀g∈l,g<nx
 |x::l,h,g,hg=>by
  simp only[oE,aC] at h;rcases List.mem_cons.1 hg with rfl|hg
  . have:=h.1;rwa[cR] at this
  . exact JQ h.2 g hg
section
variable {X:EX}{nP:Nat}{rd:Bool}{nt:Nat}{K:Exit->SS->Prop}
theorem AY{F:FuncId->Option FnE}{orc:FuncId->List ES->Hs->Option (ES×Hs)}(hF:∀f q,F f=some q->∃fn,FnOk X f q fn)(horc:iH X orc)(n:Nat){code:Code}{l:List (Nat×ES)}{m:List (Nat×EO)}{nx:Nat}{e:Exit}{s':Sg}
 (he:y6 (X.ee F orc) n rd nt code ⟨oH nt l,⟨ns m,nx,[]⟩⟩=some (e,s')) (hw:oE (s'.s.nx+nx) s'.s.wl=true) (hfr:mR nx m=true) (hk:K e ⟨s'.tm.sl,s'.s.h.get,s'.s.nx+nx⟩):SW X nP rd nt code (ba l m nx) K:=fun ro hro E hI hh w0 H U a w Q hS hQ=>by
 have ho:=(U6 hF horc n rd nt code _ e s' he).1;refine ho.2 ro hro E hI w0 H U a w Q ⟨?_,hS.mks,hS.sm⟩ fun a' w' hp=>hQ e _ a' w' hk ?_
 . show ESt X E nt H U (oH nt l).sl (ns m).get a w;rw[BM];exact⟨hS.st.sim,fun t=>J4 (f:=fun t=>a.tmps.getD t undef) (fun t ht=>by
    have:=hS.st.size;simp[DX,tg (show a.tmps.size<=t by omega)]) (hS.st.slot t),hS.st.size⟩
 . obtain⟨H',U',h1,h2,⟨h3,h4,h5⟩,h6⟩:=hp;refine⟨H',U',h1,BLeP.of h2,⟨h3,h4,h5,fun g hg=>?_⟩,h6⟩;show s'.s.h.get g=none;have hg':s'.s.nx+nx<=g:=hg;rw[ho.1.1 g fun hm=>?_]
   . show(ns m).get g=none;rw[BM];exact wA hfr g (by omega)
   . have:=JQ hw g hm;omega
end
section
variable {X:EX}
theorem C8(hbel:∀n w w',X.I w->w.heap.size<=n->Below n w w'->X.I w'){f:FuncId}{fn:Func}{c:Code}(hf:X.P.funcs[f]?=some fn)(hb:fn.body=some c)(hn:(fn.name == "runtime.NumGoroutine")=false){xs:List IV}{r:IV}(hx:Nat.ble xs.length fn.ntmps=true)(hxt:jn xs=true)(fu:Nat)
 (hw:SW X 0 false fn.ntmps c ⟨argS (xs.map dS),fun _=>none,0⟩ (iJ X fn.results.toList fun h rf=>iO X.T X.Z (fun _=>true) h fu rf=some r)):aY X.P X.I f xs r:=by
 refine⟨⟨fn,hf,hn,by rw[hb];rfl⟩,fun H w args hIw hH hv=>?_⟩;have hS:ESim X.Z ⟨fun k=>w.heap.size<=k,w,H,fun _=>False,fun _ _=>none⟩ H (fun _ _=>none) (fun _=>none) w :=
  ⟨hH,BelowO.refl _ _,fun k hk=>hk,HExtO.refl _ _,fun g o h=>(by cases h),fun g u k h=>(by cases h),fun g g' u u' k k' h=>(by cases h),fun g h=>h.elim⟩
 refine yx hf hb (by simpa using aB hx) (fun _ _=>rfl) hw (fun w' hb'=>hbel _ w w' hIw (ak _) hb'.below) (fun _ (h:False)=>h.elim) hS (SREL.ofData hv hxt) fun v H' U' hp' rf w' h1 h2 h3 h4 h5 h6=>?_;refine⟨v,fL U' (fun _=>true) hp' H' w',rfl,GG h3.has,⟨h1.trans mO,fun b arr hb=>?_⟩,Jx h3 h5 h6,h3.below.below⟩;rcases AO h3 hb with e|e
 . exact h3.ext.2 b arr e
 . exact .inr e.1
end
end Go.Proofs.En
