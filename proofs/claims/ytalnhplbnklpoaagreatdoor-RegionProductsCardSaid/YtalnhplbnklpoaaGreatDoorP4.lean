/-
  A part of the proof of regionProducts_card.
-/
import Derived.Test.YtalnhplbnklpoaaGreatDoorP3
import Derived.Shelf.SlSortCmp.WholeK
import Derived.LoopNIn
namespace Go.Proofs
open Go
abbrev Fu:=@Go.wpIn_loop_rounds
abbrev NA:=@List.mem_append_left
abbrev Ny:=@Go.run_firstCells_some
abbrev Nz:=@List.mem_append_right
abbrev fL:=@List.mem_singleton
abbrev fM:=@Nat.ble_eq_true_of_le
abbrev g8:=@Int.ofNat_eq_natCast
abbrev gj:=@Iff.rfl
abbrev pE:=@List.cons.injEq
abbrev tZ:=@Go.roundsIn_succ
abbrev wA:=@Nat.le_add_right
end Go.Proofs
namespace Go.Proofs.En
open Go.RowKit Go.Proofs.Fl
def PT.sl(t:PT ES)(n:Nat):ES:=(t.get n).getD .und
structure EEnv where
 own:Nat->Prop
 w0:my
 H0:ah
 hid:Nat->Prop
 β0:Bm
def MR(Z:QS)(H:ah)(U:Bm)(e:MapEntry)(x:EW×EW×Nat):Prop:=WR Z H U e.key x.1/\WR Z H U e.val x.2.1/\e.born=x.2.2
def MRL(Z:QS)(H:ah)(U:Bm):List MapEntry->List (EW×EW×Nat)->Prop
 | [],[]=>True
 |e::es,x::xs=>MR Z H U e x/\MRL Z H U es xs
 |_,_=>False
def OR(Z:QS)(own:Nat->Prop)(w:my)(H:ah)(U:Bm)(g:Nat):EO->Prop
 | .mem e cs fz vs cnt=>(fz=false->∀u k,U g u=some k->H k.1=none)/\∀u p,(u,p)∈vs->u<cnt/\∃k arr,U g u=some k/\own k.1/\(if fz then H k.1=some arr else H k.1=none)/\w.heap[k.1]?=some (.cells arr e (0,0))/\arr.size=k.2/\p<=cs.length/\p<=arr.size/\CRL Z H U (arr.toList.take p) (cs.take p)
 | .map es ck=>∃k ents,U g 0=some k/\own k.1/\H k.1=none/\w.heap[k.1]?=some (.map ents ck)/\MRL Z H U ents.toList es
 | .hid=>True
 | .iter gm since seen last cur=>∃k km sn,U g 0=some k/\U gm 0=some km/\own k.1/\H k.1=none/\w.heap[k.1]?=some (.mapIter (some km.1) since sn last)/\(∀b,b∈sn.toList↔b∈seen)/\∀b,cur=some b->sn.back?=some b
 | .loop busy nt tm ps assign body=>∃k L,U g 0=some k/\own k.1/\H k.1=none/\w.heap[k.1]?=some (.loop L)/\(if busy then L.state=.busy else L.state=.ready)/\L.pending.isNone=true/\L.tmps.size=nt/\L.params.toList=ps/\L.assign=assign/\L.body=body/\
  ∀t,SRe Z H U (L.tmps.getD t undef) (tm.sl t)
structure ESim(Z:QS)(E:EEnv)(H:ah)(U:Bm)(h:Nat->Option EO)(w:my):Prop where
 has:HeapHas w H
 below:BelowO E.own E.w0 w
 lo:∀k,w.heap.size<=k->E.own k
 ext:HExtO E.own E.H0 H
 obj:∀g o,h g=some o->OR Z E.own w H U g o
 dom:∀g u k,U g u=some k->k.1<w.heap.size/\∃o,h g=some o/\(o=.hid\/(E.own k.1/\u<o.cnt))
 inj:∀g g' u u' k k',U g u=some k->U g' u'=some k'->k.1=k'.1->g=g'
 hidb:∀g,E.hid g->h g=some .hid/\∀u,U g u=E.β0 g u
section
variable {Z:QS}{E:EEnv}{H H':ah}{U U':Bm}{h h':Nat->Option EO}{w w':my}
theorem MRL.mono(hh:HLe H H')(hb:BLe U U'):∀{vs:List MapEntry} {xs:List (EW×EW×Nat)},MRL Z H U vs xs->MRL Z H' U' vs xs
 | [],[],_=>trivial
 |_::_,_::_,⟨⟨h0,h1,h2⟩,h3⟩=>⟨⟨h0.mono hh hb,h1.mono hh hb,h2⟩,MRL.mono hh hb h3⟩
 | [],_::_,h=>h.elim
 |_::_,[],h=>h.elim
theorem OR.keep{own:Nat->Prop}{g:Nat}{o:EO}(h:OR Z own w H U g o)(hw:∀u k,U g u=some k->w'.heap[k.1]?=w.heap[k.1]?)(hn:∀u k,U g u=some k->H k.1=none->H' k.1=none)(hh:HLe H H')(hb:BLe U U')(hg:∀u,U' g u=U g u):OR Z own w' H' U' g o:=by
 cases o with
 |mem e cs fz vs cnt=>
  refine⟨fun hf u k hk=>hn u k (by rw[<-hg];exact hk) (h.1 hf u k (by rw[<-hg];exact hk)),fun u p hup=>?_⟩;obtain⟨h1,k,arr,h2,h3,h4,h5,h6,h7,h8,h9⟩:=h.2 u p hup;refine⟨h1,k,arr,hb _ _ _ h2,h3,?_,(hw u k h2).trans h5,h6,h7,h8,h9.mono hh hb⟩;cases fz with
  |true=>exact hh _ _ h4
  |false=>exact hn u k h2 h4
 |map es ck=>
  obtain⟨k,ents,h1,h2,h3,h4,h5⟩:=h;exact⟨k,ents,hb _ _ _ h1,h2,hn 0 k h1 h3,(hw 0 k h1).trans h4,h5.mono hh hb⟩
 |hid=>trivial
 |iter gm since seen last cur=>
  obtain⟨k,km,sn,h1,h2,h3,h4,h5,h6,h7⟩:=h;exact⟨k,km,sn,hb _ _ _ h1,hb _ _ _ h2,h3,hn 0 k h1 h4,(hw 0 k h1).trans h5,h6,h7⟩
 |loop busy nt tm ps assign body=>
  obtain⟨k,L,h1,h2,h3,h4,h5,h6,h8,h9,h10,h11,h12⟩:=h;exact⟨k,L,hb _ _ _ h1,h2,hn 0 k h1 h3,(hw 0 k h1).trans h4,h5,h6,h8,h9,h10,h11,fun t=>(h12 t).mono hh hb⟩
theorem ESim.grow(h0:ESim Z E H U h w)(hb:Below w.heap.size w w')(hh:HeapHas w' H')(he:HExt w.heap.size H H'):ESim Z E H' U h w' where
 has:=hh
 below:=h0.below.trans (BelowO.of hb h0.lo)
 lo k hk:=h0.lo k (aY hb.size hk)
 ext:=h0.ext.step (own':=fun k=>w.heap.size<=k) he h0.lo
 obj g o hg:=(h0.obj g o hg).keep (fun u k hk=>hb.block _ (h0.dom g u k hk).1) (fun u k hk hn=>by
  cases hx:H' k.1 with
  |none=>rfl
  |some arr=>
   rcases he.2 _ _ hx with h1|h1
   . rw[hn] at h1;cases h1
   . have:=(h0.dom g u k hk).1;omega) he.1 (BLe.refl _) (fun _=>rfl)
 dom g u k hk:=⟨g7 (h0.dom g u k hk).1 hb.size,(h0.dom g u k hk).2⟩
 inj:=h0.inj
 hidb:=h0.hidb
theorem ESim.sm(h0:ESim Z E H U h w)(h1:w'.heap=w.heap)(h2:w'.os=w.os)(h3:w'.tape=w.tape)(h4:w'.output=w.output):ESim Z E H U h w' :=
 h0.grow (Below.of_heap h1 h2 h3 h4) (fun b arr hb=>by rw[h1];exact h0.has b arr hb) (HExt.refl _ _)
theorem ESim.domN(h0:ESim Z E H U h w){g:Nat}{o:EO}(hg:h g=some o)(hn:o≠ .hid)(u:Nat)(k:Nat×Nat)(hk:U g u=some k):k.1<w.heap.size/\E.own k.1/\∃o,h g=some o/\u<o.cnt:=by
 obtain⟨a,o',b,c⟩:=h0.dom g u k hk;rw[hg] at b;cases b;exact⟨a,(c.resolve_left hn).1,o,hg,(c.resolve_left hn).2⟩
theorem ESim.turn(h0:ESim Z E H U h w){g:Nat}{o:EO}(hgh:h g≠some .hid)(hos:w'.os=w.os)(htp:w'.tape=w.tape)(hot:w'.output=w.output)(hsz:w.heap.size<=w'.heap.size)
 (hw:∀k,k<w.heap.size->(∀u s,U g u=some s->s.1≠k)->w'.heap[k]?=w.heap[k]?) (hwn:∀u s,U g u=some s->H s.1=none)
 (hb:BLe U U') (hbo:∀g' u,g'≠g->U' g' u=U g' u) (hbn:∀u k,U' g u=some k->u<o.cnt/\k.1<w'.heap.size/\E.own k.1/\((∃u' k',U g u'=some k'/\k'.1=k.1)\/w.heap.size<=k.1))
 (ho:OR Z E.own w' H U' g o):ESim Z E H U' (aB h g (some o)) w' where
 has b arr hb':=by
  obtain⟨t,fr,ht⟩:=h0.has b arr hb';exact⟨t,fr,(hw b (h0.has.lt hb') (fun u s hs e=>by rw[<-e,hwn u s hs] at hb';cases hb')).trans ht⟩
 below:=by
  refine h0.below.trans ⟨hos,htp,hot,hsz,fun k hk=>?_⟩;rcases fx k w.heap.size with hlt|hge
  . exact hw k hlt fun u s hs e=>hk (by
     rw[<-e];obtain⟨_,o',b,c⟩:=h0.dom g u s hs;exact(c.resolve_left fun e'=>hgh (by rw[b,e'])).1)
  . exact absurd (h0.lo k hge) hk
 lo k hk:=h0.lo k (aY hsz hk)
 ext:=h0.ext
 obj g' o' hg':=by
  by_cases e:g'=g
  . subst e;have:o=o':=by have:aB h g' (some o) g'=some o':=hg';rw[aT] at this;simpa using this
    subst this;exact ho
  . have hg'':h g'=some o':=by have:aB h g (some o) g'=some o':=hg';rwa[aD _ _ _ e] at this
    refine(h0.obj g' o' hg'').keep (fun u k hk=>hw k.1 (h0.dom g' u k hk).1 fun u' s hs e'=>e (h0.inj _ _ _ _ _ _ hk hs e'.symm)) (fun _ _ _ hn=>hn) (HLe.refl _) hb (fun u=>hbo g' u e)
 dom g' u k hk:=by
  by_cases e:g'=g
  . subst e;obtain⟨a,b,c,_⟩:=hbn u k hk;exact⟨b,o,aT _ _ _,.inr ⟨c,a⟩⟩
  . rw[hbo g' u e] at hk;obtain⟨a,o',b,c⟩:=h0.dom g' u k hk;exact⟨g7 a hsz,o',by show aB h g (some o) g'=_;rw[aD _ _ _ e];exact b,c⟩
 inj g1 g2 u1 u2 k1 k2 e1 e2 he:=by
  have key:∀g' u' k' u k,g'≠g->U' g' u'=some k'->U' g u=some k->k'.1≠k.1:=fun g' u' k' u k hne h1 h2 e=>by
   rw[hbo g' u' hne] at h1;obtain⟨_,_,_,h3⟩:=hbn u k h2;rcases h3 with⟨u3,k3,h3,h4⟩|h3
   . exact hne (h0.inj _ _ _ _ _ _ h1 h3 (by rw[e,h4]))
   . have:=(h0.dom g' u' k' h1).1;omega
  by_cases h1:g1=g
  . by_cases h2:g2=g
    . rw[h1,h2]
    . subst h1;exact absurd he.symm (key g2 u2 k2 u1 k1 h2 e2 e1)
  . by_cases h2:g2=g
    . subst h2;exact absurd he (key g1 u1 k1 u2 k2 h1 e1 e2)
    . rw[hbo _ _ h1] at e1;rw[hbo _ _ h2] at e2;exact h0.inj _ _ _ _ _ _ e1 e2 he
 hidb g' hg':=by
  have hne:g'≠g:=fun e=>hgh (by rw[<-e];exact(h0.hidb g' hg').1);exact⟨by show aB h g (some o) g'=_;rw[aD _ _ _ hne];exact(h0.hidb g' hg').1,fun u=>(hbo g' u hne).trans ((h0.hidb g' hg').2 u)⟩
theorem ESim.noB(h0:ESim Z E H U h w){g:Nat}(hg:h g=none)(u:Nat):U g u=none:=by
 cases hk:U g u with
 |none=>rfl
 |some k=>obtain⟨_,o,e,_⟩:=h0.dom g u k hk;rw[hg] at e;cases e
theorem ESim.alloc(h0:ESim Z E H U h w){g:Nat}(hg:h g=none){b:Obj}{s:Nat}{o:EO}(hc:0<o.cnt)(ho:OR Z E.own (w.alloc b) H (lw U g 0 (w.heap.size,s)) g o) :
 BLe U (lw U g 0 (w.heap.size,s))/\ESim Z E H (lw U g 0 (w.heap.size,s)) (aB h g (some o)) (w.alloc b):=by
 have hbe:Below w.heap.size w (w.alloc b):=(lK _ _).alloc (ak _) _;have hN:=h0.noB hg;have hnew:w.heap.size<(w.alloc b).heap.size:=(Array.getElem?_eq_some_iff.1 (mS w b)).1;refine⟨jV (hN 0),h0.turn (by rw[hg];simp) hbe.os hbe.tape hbe.output hbe.size (fun k hk _=>hbe.block k hk) (fun u s hs=>by rw[hN] at hs;cases hs) (jV (hN 0)) (fun g' u hne=>jT _ _ _ _ (fun e=>hne e.1)) (fun u k hk=>?_) ho⟩;by_cases e:u=0
 . subst e;rw[fg] at hk;cases hk;exact⟨hc,hnew,h0.lo _ (ak _),.inr (ak _)⟩
 . rw[jT _ _ _ _ (fun e'=>e e'.2),hN] at hk;cases hk
end
def bA{α:Sort _}(n:Nat)(k:Nat->α):α:=match n with
 |0=>k 0
 |m+1=>k (m+1)
def yO{α:Sort _}(i:Int)(k:Int->α):α:=match i with
 | .ofNat n=>bA n fun m=>k (.ofNat m)
 | .negSucc n=>bA n fun m=>k (.negSucc m)
def fY{α U:Type _}:List α->(List α->U)->U
 | [],k=>k []
 |x::xs,k=>fY xs fun ys=>k (x::ys)
theorem bd{α:Sort _}(n:Nat)(k:Nat->α):bA n k=k n:=by cases n<;>rfl
theorem BI{α:Sort _}(i:Int)(k:Int->α):yO i k=k i:=by cases i<;>simp[yO,bd]
theorem cZ{α U:Type _}(l:List α)(k:List α->U):fY l k=k l:=by
 induction l generalizing k with
 |nil=>rfl
 |cons x xs ih=>simp[fY,ih]
abbrev Wr:=List (Nat×EO)
abbrev bS:=Option (ES×Wr)
abbrev Hp:=Nat->Option EO
def ac(x:IV):ES:=.w (.one (.iv x))
def dW:IV->EW
 | .agg cs=>.agg (cs.map .iv)
 |x=>.one (.iv x)
def dS:IV->ES
 | .agg cs=>.w (.agg (cs.map .iv))
 | .tup xs=>.tup (xs.map dW)
 |x=>.w (.one (.iv x))
def dI(sz:Nat)(es:List IV):Bool:=es.all fun y=>Nat.beq y.cells.length sz && !y.isTup
def ig(k:IntKind)(n:Int):bS:=yO n fun n=>some (ac (.int k n),[])
def iW(b:Bool):bS:=match b with
 |true=>some (ac (.bool true),[])
 |false=>some (ac (.bool false),[])
def cE:X3->ES
 | .bool b=>ac (.bool b)
 | .int k n=>ac (.int k n)
 | .string s=>ac (.str s.data.toList)
 | .slice none 0 0=>ac (.nil 3)
 | .nilIface=>ac (.nil 0)
 | .nilFunc=>ac (.nil 1)
 | .pointer none=>ac (.nil 2)
 |_=>.unk
def aj(tm:Nat->ES):X0->ES
 | .tmp t=>tm t
 | .const v=>cE v
 | .func f=>ac (.fn f)
 | .global _=>.unk
def dl(u:Nat):List (Nat×Nat)->Option Nat
 | []=>none
 | (v,p)::l=>bif Nat.beq v u then some p else dl u l
def D6(u off:Nat)(vs:List (Nat×Nat)):List (Nat×Nat):=vs.map fun p=>bif Nat.beq p.1 u then p else(p.1,Nat.min p.2 off)
def g3(o:Option EO)(u off n:Nat):Option (List EV) :=
 match o with
 |some (.mem _ cs _ vs _)=>match dl u vs with
  |some p=>bif Nat.ble (off+n) p then some ((cs.drop off).take n) else none
  |none=>none
 |_=>none
def il(o:Option EO)(u off:Nat)(new:List EV):Option EO :=
 match o with
 |some (.mem e cs false vs cnt)=>match dl u vs with
  |some p=>bif Nat.ble (off+new.length) p then fY (splice cs off new) fun cs'=>some (.mem e cs' false (D6 u off vs) cnt) else none
  |none=>none
 |_=>none
def mkV(Z:QS)(ag:Bool)(cs:List EV):Option EW :=
 match ag with
 |true=>some (qJ Z cs)
 |false=>match cs with
  | [c]=>some (.one c)
  |_=>none
def gC(zs:List EV):Nat->List EV
 |0=>[]
 |n+1=>zs++gC zs n
def kp(Z:QS)(places:Nat->Option (Nat×Nat)):List EV->List (Nat×ES)->Option (List EV)
 |cs,[]=>some cs
 |cs,(j,.w y)::rest=>match places j with
  |some (off,sz)=>bif Nat.beq (y.cells Z).length sz&&Nat.ble (off+sz) cs.length then kp Z places (splice cs off (y.cells Z)) rest else none
  |none=>none
 |_,_=>none
section
variable (T:me->Option TY)(ze:me->Option (List EV))(Z:QS)
def gX(h:Hp)(g:Nat)(e:me)(cs:List EV)(k:Nat->Nat->ES):bS :=
 match h g with
 |none=>fY cs fun cs=>bA cs.length fun n=>some (k g n,[(g,.mem e cs false [(0,n)] 1)])
 |some _=>none
def sH(h:Hp)(g:Nat)(t:me):bS :=
 match ze t with
 |some cs=>gX h g t cs fun g _=>.w (.one (.ptr g 0 0))
 |none=>none
def tg(h:Hp)(g:Nat)(t:me)(x:ES):bS :=
 match x with
 | .w y=>gX h g t (y.cells Z) fun g _=>.w (.one (.ptr g 0 0))
 |_=>none
def yS(t:me)(parts:List (Nat×ES)):bS :=
 match T t,ze t with
 |some ty,some zs=>match ty.sh with
  | .struct=>match kp Z (fun j=>(ty.fields[j]?).map fun p=>(p.1,p.2.2)) zs parts with
   |some cs=>fY cs fun cs=>some (.w (qJ Z cs),[])
   |none=>none
  | .array _ e=>match T e with
   |some te=>match kp Z (fun j=>some (j*te.size,te.size)) zs parts with
    |some cs=>fY cs fun cs=>some (.w (qJ Z cs),[])
    |none=>none
   |none=>none
  |_=>none
 |_,_=>none
def ue(h:Hp)(g:Nat)(t:me)(len:Nat)(parts:List (Nat×ES)):bS :=
 match T t with
 |some ty=>match ty.sh with
  | .slice e=>match T e,ze e with
   |some te,some zs=>bif Nat.blt 0 te.size&&Nat.ble (len*te.size) 16777216&&Nat.beq zs.length te.size then(match kp Z (fun i=>some (i*te.size,te.size)) (gC zs len) parts with
    |some cs=>gX h g e cs fun g _=>.w (.one (.slc g 0 0 len (.ex len)))
    |none=>none) else none
   |_,_=>none
  |_=>none
 |none=>none
def rQ(h:Hp)(g:Nat)(t:me)(l c:ES):bS :=
 match T t,l,c with
 |some ty,.w (.one (.iv (.int _ (.ofNat m)))),.w (.one (.iv (.int _ (.ofNat m'))))=>match ty.sh with
  | .slice e=>match T e,ze e with
   |some te,some zs=>bif Nat.beq m m'&&Nat.blt 0 te.size&&Nat.beq zs.length te.size&&Nat.ble (te.bytes*m) 281474976710656&&Nat.ble m 1000000 then gX h g e (gC zs m) fun g _=>.w (.one (.slc g 0 0 m (.ex m))) else none
   |_,_=>none
  |_=>none
 |_,_,_=>none
def jB(h:Hp)(t:me)(x:ES):bS :=
 match T t,x with
 |some ty,.w (.one (.ptr g u off))=>match g3 (h g) u off ty.size with
  |some cs=>fY cs fun cs=>match mkV Z ty.sh.agg cs with
   |some r=>some (.w r,[])
   |none=>none
  |none=>none
 |some ty,.w (.one (.dp y off))=>match ji ty.sh.agg ty.size y off with
  |some r=>bif r.isTup then none else some (dS r,[])
  |none=>none
 |_,_=>none
def oC(h:Hp)(t:me)(x y:ES):bS :=
 match T t,x,y with
 |some ty,.w (.one (.ptr g u off)),.w z=>bif Nat.beq (z.cells Z).length ty.size then(match il (h g) u off (z.cells Z) with
  |some o=>some (.und,[(g,o)])
  |none=>none) else none
 |_,_,_=>none
def pK(s:me)(x:ES)(j:Nat):bS :=
 match T s,x with
 |some ty,.w (.one (.ptr g u off))=>match ty.sh,ty.fields[j]? with
  | .struct,some (fo,_,sz)=>bif Nat.blt 0 sz then bA (off+fo) fun o=>some (.w (.one (.ptr g u o)),[]) else none
  |_,_=>none
 |some ty,.w (.one (.dp y off))=>match ty.sh,ty.fields[j]? with
  | .struct,some (fo,_,sz)=>bif Nat.blt 0 sz then bA (off+fo) fun o=>some (.w (.one (.dp y o)),[]) else none
  |_,_=>none
 |_,_=>none
def m9(t:me)(x ix:ES):bS :=
 match T t,x,ix with
 |some ty,.w (.one (.slc g u off n _)),.w (.one (.iv (.int _ (.ofNat j))))=>match ty.sh with
  | .slice e=>match T e with
   |some te=>bif Nat.blt j n then bA (off+j*te.size) fun o=>some (.w (.one (.ptr g u o)),[]) else none
   |none=>none
  |_=>none
 |some ty,.w (.one (.ptr g u off)),.w (.one (.iv (.int _ (.ofNat j))))=>match ty.sh with
  | .array n e=>match T e with
   |some te=>bif Nat.blt j n then bA (off+j*te.size) fun o=>some (.w (.one (.ptr g u o)),[]) else none
   |none=>none
  |_=>none
 |some ty,.w (.one (.iv (.sl es))),.w (.one (.iv (.int _ (.ofNat j))))=>match ty.sh with
  | .slice e=>match T e,es[j]? with
   |some te,some y=>bif Nat.beq y.cells.length te.size then some (.w (.one (.dp y 0)),[]) else none
   |_,_=>none
  |_=>none
 |_,_,_=>none
def yR(s:me)(x:ES)(j:Nat):bS :=
 match T s,x with
 |some ty,.w (.agg cs)=>match ty.sh,ty.fields[j]? with
  | .struct,some (fo,ag,sz)=>bif Nat.ble (fo+sz) cs.length then fY ((cs.drop fo).take sz) fun l=>(match mkV Z ag l with
   |some r=>some (.w r,[])
   |none=>none) else none
  |_,_=>none
 |_,_=>none
def xD(x:ES)(j:Nat):bS :=
 match x with
 | .tup xs=>match xs[j]? with
  |some y=>some (.w y,[])
  |none=>none
 |_=>none
def jN(v:Option ES)(d:Nat):Option Nat :=
 match v with
 |none=>some d
 |some (.w (.one (.iv (.int _ (.ofNat m)))))=>some m
 |_=>none
def tD(o:Option EO)(u off n sz:Nat):Nat :=
 match o with
 |some (.mem _ _ _ vs _)=>match dl u vs with
  |some p=>bif Nat.ble (off+n*sz) p&&Nat.blt 0 sz then(p-off)/sz else n
  |none=>n
 |_=>n
def iF(hp:Hp)(t:me)(x:ES)(lo hi mx:Option ES):bS :=
 match T t with
 |some ty=>match ty.sh,x with
  | .slice e,.w (.one (.slc g u off n cap))=>match T e with
   |some te=>match jN lo 0,jN hi n with
    |some l,some h=>match mx,cap with
     |none,.ex c=>bif Nat.ble l h&&Nat.ble h c then bA (bif Nat.beq c l then off else off+l*te.size) fun o=>bA (h-l) fun n'=>bA (c-l) fun c'=>some (.w (.one (.slc g u o n' (.ex c'))),[]) else none
     |none,.fin sz=>bA (tD (hp g) u off n sz) fun kn=>bif Nat.ble l h&&Nat.ble h kn&&Nat.blt l kn&&Nat.beq sz te.size then bA (off+l*te.size) fun o=>bA (h-l) fun n'=>some (.w (.one (.slc g u o n' (.fin sz))),[]) else
      bif Nat.beq l h&&Nat.ble h kn&&Nat.beq sz te.size then some (ac (.sl []),[]) else none
     |some m,.ex c=>match jN (some m) 0,hi with
      |some m,some _=>bif Nat.ble l h&&Nat.ble h m&&Nat.ble m c then bA (bif Nat.beq m l then off else off+l*te.size) fun o=>bA (h-l) fun n'=>bA (m-l) fun c'=>some (.w (.one (.slc g u o n' (.ex c'))),[]) else none
      |_,_=>none
     |some m,.fin _=>match jN (some m) 0,hi with
      |some m,some _=>bif Nat.ble l h&&Nat.ble h m&&Nat.ble m n then bA (bif Nat.beq m l then off else off+l*te.size) fun o=>bA (h-l) fun n'=>bA (m-l) fun c'=>some (.w (.one (.slc g u o n' (.ex c'))),[]) else none
      |_,_=>none
    |_,_=>none
   |none=>none
  | .slice e,.w (.one (.iv (.sl es)))=>match T e,jN lo 0,jN hi es.length,mx with
   |some te,some l,some h,none=>bif Nat.ble l h&&Nat.ble h es.length&&(Nat.beq l 0||dI te.size es) then some (ac (.sl ((es.take h).drop l)),[]) else none
   |_,_,_,_=>none
  | .array n e,.w (.one (.ptr g u off))=>match T e,lo,hi,mx with
   |some _,none,none,none=>some (.w (.one (.slc g u off n (.ex n))),[])
   |_,_,_,_=>none
  |_,_=>none
 |none=>none
def sO:List ES->Option (List Nat)
 | []=>some []
 | .w (.one (.ptr g 0 0))::l=>(sO l).map (g :: ·)
 |_=>none
def xi(fn:Fn)(first captured:List ES):bS :=
 match fn,first,sO captured with
 | .func f,[],some []=>some (ac (.fn f),[])
 | .func f,[],some (g::gs)=>some (.w (.one (.clo f (g::gs))),[])
 |_,_,_=>none
def s8(op:BinOp)(k:IntKind)(a b:Int):bS :=
 match op with
 | .add=>ig k (k.wrap (a+b))
 | .sub=>ig k (k.wrap (a-b))
 | .mul=>ig k (k.wrap (a*b))
 | .quo=>bif decide (b=0) then none else ig k (k.wrap (a.tdiv b))
 | .rem=>bif decide (b=0) then none else ig k (a.tmod b)
 | .eql=>iW (a==b)
 | .neq=>iW (a != b)
 | .lss=>iW (decide (a<b))
 | .leq=>iW (decide (a<=b))
 | .gtr=>iW (decide (a>b))
 | .geq=>iW (decide (a>=b))
 |_=>none
def strE(op:BinOp)(a b:List UInt8):bS :=
 match op with
 | .add=>bif Nat.ble (a.length+b.length) 1000000 then fY (a++b) fun l=>some (ac (.str l),[]) else none
 | .eql=>iW (a==b)
 | .neq=>iW (!(a==b))
 |_=>none
def Dy:EV->Option Bool
 | .iv (.nil 3)=>some true
 | .slc .. => some false
 | .iv (.sl (_::_))=>some false
 |_=>none
def oV(op:BinOp)(t:me)(x y:ES):bS :=
 match x,y with
 | .w (.one (.iv (.int k a))),.w (.one (.iv (.int k' b)))=>bif decide (k=k') then s8 op k a b else none
 | .w (.one (.iv (.str a))),.w (.one (.iv (.str b)))=>strE op a b
 | .w (.one c),.w (.one (.iv (.nil 3)))=>match T t,Dy c,op with
  |some ty,some b,.eql=>match ty.sh with
   | .slice _=>iW b
   |_=>none
  |some ty,some b,.neq=>match ty.sh with
   | .slice _=>iW (!b)
   |_=>none
  |_,_,_=>none
 |_,_=>none
def rj(op:UnOp)(x:ES):bS :=
 match op,x with
 | .not,.w (.one (.iv (.bool a)))=>iW (!a)
 | .neg,.w (.one (.iv (.int k a)))=>ig k (k.wrap (0-a))
 |_,_=>none
def vl(s d:me)(x:ES):bS :=
 match T s,T d,x with
 |some ts,some td,.w (.one (.iv (.int _ a)))=>match ts.sh,td.sh with
  | .int _,.int k=>ig k (k.wrap a)
  |_,_=>none
 |_,_,_=>none
def vk(c a b:ES):bS :=
 match c with
 | .w (.one (.iv (.bool true)))=>some (a,[])
 | .w (.one (.iv (.bool false)))=>some (b,[])
 |_=>none
def zT(x:ES):bS :=
 match x with
 | .w (.one (.ptr g u o))=>some (.w (.one (.ptr g u o)),[])
 | .w (.one (.dp y o))=>some (.w (.one (.dp y o)),[])
 |_=>none
def gU(h:Hp)(sz:Nat)(x:ES):Option (List EV×Nat) :=
 match x with
 | .w (.one (.slc g u off n _))=>(g3 (h g) u off (n*sz)).map fun l=>(l,n)
 | .w (.one (.iv (.nil 3)))=>some ([],0)
 | .w (.one (.iv (.sl es)))=>bif dI sz es then some ((es.flatMap IV.cells).map .iv,es.length) else none
 |_=>none
def nG(t:me)(x:ES):bS :=
 match T t,x with
 |some ty,.w (.one (.slc _ _ _ n _))=>match ty.sh with
  | .slice _=>some (ac (.int .i64 (.ofNat n)),[])
  |_=>none
 |some ty,.w (.one (.iv (.nil 3)))=>match ty.sh with
  | .slice _=>some (ac (.int .i64 0),[])
  |_=>none
 |some ty,.w (.one (.iv (.sl es)))=>match ty.sh with
  | .slice _=>ig .i64 (.ofNat es.length)
  |_=>none
 |some ty,.w (.one (.iv (.str l)))=>match ty.sh with
  | .string=>ig .i64 (.ofNat l.length)
  |_=>none
 |_,_=>none
def nw(vs:List (Nat×Nat)):List (Nat×Nat):=vs.take 64
def jw(h:Hp)(g:Nat)(t:me)(s x:ES):bS :=
 match T t with
 |some ty=>match ty.sh with
  | .slice e=>match T e with
   |some te=>bif Nat.blt 0 te.size&&Nat.beq te.zero.cells.length te.size then(match gU h te.size x with
    |some (news,m)=>match s with
     | .w (.one (.iv (.nil 3)))=>bif Nat.beq m 0 then some (s,[]) else bif Nat.ble m 1000000&&Nat.ble (m*te.bytes) 140737488355328 then gX h g e news fun g _=>.w (.one (.slc g 0 0 m (.fin te.size))) else none
     | .w (.one (.slc g1 u1 off1 n1 cap))=>bif Nat.beq m 0 then some (s,[]) else
      bif Nat.ble (n1+m) 1000000&&Nat.ble ((n1+m)*te.bytes) 140737488355328 then(match cap with
      | .ex c=>bif Nat.ble (n1+m) c then(match il (h g1) u1 (off1+n1*te.size) news with
       |some o=>bA (n1+m) fun n=>some (.w (.one (.slc g1 u1 off1 n (.ex c))),[(g1,o)])
       |none=>none) else(match g3 (h g1) u1 off1 (n1*te.size) with
       |some olds=>gX h g e (olds++news) fun g _=>.w (.one (.slc g 0 0 (n1+m) (.fin te.size)))
       |none=>none)
      | .fin sz=>match h g1 with
       |some (.mem e1 cs false vs cnt)=>bif Nat.beq sz te.size&&Nat.beq e1 e&&Nat.beq off1 0 then(match dl u1 vs with
        |some p=>bif Nat.ble ((n1+m)*te.size) p then(match il (h g1) u1 (off1+n1*te.size) news with
         |some o=>bA (n1+m) fun n=>some (.w (.one (.slc g1 u1 off1 n (.fin sz))),[(g1,o)])
         |none=>none) else bif Nat.ble (n1*te.size) p then
         fY (cs.take (n1*te.size)++news) fun cs'=>bA cnt fun u=>bA (n1+m) fun n=>bA (n*te.size) fun q=>bA (u+1) fun cnt'=>
          fY ((u,q)::nw (vs.map fun p=>(p.1,Nat.min p.2 (n1*te.size)))) fun vs'=>some (.w (.one (.slc g1 u 0 n (.fin te.size))),[(g1,.mem e1 cs' false vs' cnt')]) else none
        |none=>none) else none
       |_=>none) else none
     |_=>none
    |none=>none) else none
   |none=>none
  |_=>none
 |none=>none
def ny(h:Hp)(t:me)(d x:ES):bS :=
 match T t with
 |some ty=>match ty.sh with
  | .slice e=>match T e with
   |some te=>match gU h te.size x,d with
    |some (news,m),.w (.one (.slc g1 u1 off1 n1 _))=>bA (Nat.min m n1) fun k=>match il (h g1) u1 off1 (news.take (k*te.size)) with
     |some o=>some (ac (.int .i64 (.ofNat k)),[(g1,o)])
     |none=>none
    |_,_=>none
   |none=>none
  |_=>none
 |none=>none
def k8(h:Hp)(t:me)(d:ES):bS :=
 match T t with
 |some ty=>match ty.sh with
  | .slice e=>match T e,ze e with
   |some te,some zs=>bif Nat.beq zs.length te.size then(match d with
    | .w (.one (.slc g1 u1 off1 n1 _))=>match il (h g1) u1 off1 (gC zs n1) with
     |some o=>some (.tup [],[(g1,o)])
     |none=>none
    | .w (.one (.iv (.sl [])))=>some (.tup [],[])
    | .w (.one (.iv (.nil 3)))=>some (.tup [],[])
    |_=>none) else none
   |_,_=>none
  |_=>none
 |none=>none
def tG(mx:Bool)(x y:ES):bS :=
 match x,y with
 | .w (.one (.iv (.int k a))),.w (.one (.iv (.int _ c)))=>bif mx then ig k (if c>a then c else a) else ig k (if c<a then c else a)
 |_,_=>none
def fN(h:Hp)(g:Nat)(b:Builtin)(ats:List me)(args:List ES):bS :=
 match b,args,ats with
 | .len,[x],[t]=>nG T t x
 | .max,[x,y],_=>tG true x y
 | .min,[x,y],_=>tG false x y
 | .append,[s,x],[t,t']=>bif Nat.beq t t' then jw T h g t s x else none
 | .copy,[d,x],[t,_]=>ny T h t d x
 | .clear,[d],[t]=>k8 T ze h t d
 |_,_,_=>none
def l7:List EV->Option (List Int)
 | []=>some []
 | .iv (.int .i64 n)::l=>(l7 l).map (n :: ·)
 |_=>none
inductive KV where
 |str (s:List UInt8)
 |ints (l:List Int)
 deriving DecidableEq
def ic:EW->Option KV
 | .one (.iv (.str s))=>some (.str s)
 | .agg cs=>(l7 cs).map .ints
 |_=>none
def fq(ok:KV->Bool)(k:KV):List (EW×EW×Nat)->Nat->Option (List (Nat×EW×Nat))
 | [],_=>some []
 | (x,y,b)::l,i=>match ic x,fq ok k l (i+1) with
   |some k',some r=>bif ok k' then(bif decide (k'=k) then some ((i,y,b)::r) else some r) else none
   |_,_=>none
def uJ(h:Hp)(g:Nat)(res:Option ES):bS :=
 match res,h g with
 |none,none=>some (.w (.one (.mp g)),[(g,.map [] 0)])
 |_,_=>none
def mb(mk:me->Option (me×me×(KV->Bool)))(zw:me->Option EW)(h:Hp)(t:me)(x ix:ES)(cok:Bool):bS :=
 match mk t,x,ix with
 |some (_,e,ok),.w (.one (.mp g)),.w kx=>match h g,ic kx with
  |some (.map es _),some k=>bif ok k then(match fq ok k es 0,zw e with
   |some [],some z=>some (bif cok then .tup [z,.one (.iv (.bool false))] else .w z,[])
   |some [(_,y,_)],some _=>some (bif cok then .tup [y,.one (.iv (.bool true))] else .w y,[])
   |_,_=>none) else none
  |_,_=>none
 |_,_,_=>none
def jr(mk:me->Option (me×me×(KV->Bool)))(h:Hp)(t:me)(x ix y:ES):bS :=
 match mk t,x,ix,y with
 |some (_,_,ok),.w (.one (.mp g)),.w kx,.w v=>match h g,ic kx with
  |some (.map es ck),some k=>bif ok k then(match fq ok k es 0 with
   |some []=>bA (ck+1) fun ck'=>fY (es ++ [(kx,v,ck)]) fun es'=>some (.und,[(g,.map es' ck')])
   |some [(i,_,b)]=>fY (es.set i (kx,v,b)) fun es'=>some (.und,[(g,.map es' ck)])
   |_=>none) else none
  |_,_=>none
 |_,_,_,_=>none
def oD(mk:me->Option (me×me×(KV->Bool)))(h:Hp)(g:Nat)(t:me)(x:ES):bS :=
 match mk t,x with
 |some _,.w (.one (.mp gm))=>match h gm,h g with
  |some (.map _ ck),none=>bA ck fun ck=>some (.w (.one (.ptr g 0 0)),[(g,.iter gm ck [] ck none)])
  |_,_=>none
 |_,_=>none
def qK(b:Nat):List (EW×EW×Nat)->Option (EW×EW)
 | []=>none
 | (k,v,b')::l=>bif Nat.beq b' b then some (k,v) else qK b l
def qt(h:Hp)(x:ES):bS :=
 match x with
 | .w (.one (.ptr gi 0 0))=>match h gi with
  |some (.iter gm _ _ last (some b))=>match h gm with
   |some (.map es ck)=>bif Nat.beq ck last then(match qK b es with
    |some (k,v)=>some (.tup [k,v],[])
    |none=>none) else none
   |_=>none
  |_=>none
 |_=>none
def vb(T:me->Option TY)(t:me)(x ix:ES):bS :=
 match T t,x,ix with
 |some ty,.w (.agg cs),.w (.one (.iv (.int _ (.ofNat i))))=>match ty.sh with
  | .array n e=>match T e with
   |some te=>bif Nat.blt i n&&(Nat.beq te.size 1 && !te.sh.agg) then(match cs[i]? with
    |some c=>some (.w (.one c),[])
    |none=>none) else none
   |none=>none
  |_=>none
 |_,_,_=>none
end
structure Tab where
 T:me->Option TY
 zw:me->Option EW
 mp:me->Option (me×me×(KV->Bool))
def Tab.ze(B:Tab)(Z:QS)(t:me):Option (List EV):=(B.zw t).map (·.cells Z)
def eOp(Z:QS)(B:Tab)(o:Op)(V:X0->ES)(h:Hp)(g:Nat):bS :=
 match o with
 | .move x | .assign x=>some (V x,[])
 | .pick c a b=>vk (V c) (V a) (V b)
 | .alloc t=>sH (B.ze Z) h g t
 | .box t x=>tg Z h g t (V x)
 | .build t parts=>yS B.T (B.ze Z) Z t (parts.toList.map fun p=>(p.1,V p.2))
 | .buildSlice t len parts=>ue B.T (B.ze Z) Z h g t len (parts.toList.map fun p=>(p.1,V p.2))
 | .load t x=>jB B.T Z h t (V x)
 | .store t x y=>oC B.T Z h t (V x) (V y)
 | .nilCheck x=>zT (V x)
 | .binOp op t x y _=>oV B.T op t (V x) (V y)
 | .unOp op _ x=>rj op (V x)
 | .convert s d x=>vl B.T s d (V x)
 | .makeFunc fn first captured=>xi fn (first.toList.map V) (captured.toList.map V)
 | .makeSlice t l c=>rQ B.T (B.ze Z) h g t (V l) (V c)
 | .slice t x lo hi mx=>iF B.T h t (V x) (lo.map V) (hi.map V) (mx.map V)
 | .fieldAddr s x j=>pK B.T s (V x) j
 | .field s x j=>yR B.T Z s (V x) j
 | .indexAddr t x ix=>m9 B.T t (V x) (V ix)
 | .extract x j=>xD (V x) j
 | .call { callee:=.builtin b,args,argTypes }=>fN B.T (B.ze Z) h g b argTypes.toList (args.toList.map V)
 | .makeMap _ r=>uJ h g (r.map V)
 | .lookup t x ix c=>mb B.mp B.zw h t (V x) (V ix) c
 | .mapUpdate t m k v=>jr B.mp h t (V m) (V k) (V v)
 | .insert t m k v=>jr B.mp h t (V m) (V k) (V v)
 | .range t x=>oD B.mp h g t (V x)
 | .entry x=>qt h (V x)
 | .index t x ix=>vb B.T t (V x) (V ix)
 |_=>none
inductive KVR:X3->KV->Prop
 |str (s:ByteArray):KVR (.string s) (.str s.data.toList)
 |ints (l:List Int):KVR (.agg (l.map (Value.int .i64)).toArray) (.ints l)
structure EX where
 P:Tz
 B:Tab
 hT:b8 P B.T
 hm:P.follows .mixedOrders=true
 I:my->Prop
 Z:QS
 hzw:∀t y,B.zw t=some y->∃i z,P.info? t=some i/\i.zero=some z/\∀H U,WR Z H U z y
 hmk:∀t k e ok,B.mp t=some (k,e,ok)->P.underlying t=some (.map k e)/\Maps.Keyed P k/\∀v kv,KVR v kv->ok kv=true->∃l,keyOf P k v=some l
abbrev EX.T(X:EX):me->Option TY:=X.B.T
abbrev EX.ze(X:EX):me->Option (List EV):=X.B.ze X.Z
theorem EX.hze(X:EX)(t:me)(cs:List EV)(h:X.ze t=some cs):∃i z,X.P.info? t=some i/\i.zero=some z/\∀H U,CRL X.Z H U z.cells.toList cs:=by
 unfold EX.ze Tab.ze at h;cases hz:X.B.zw t with
 |none=>rw[hz] at h;cases h
 |some y=>
  rw[hz] at h;simp only[fa,ae] at h;obtain⟨i,z,h1,h2,h3⟩:=X.hzw t y hz;exact⟨i,z,h1,h2,fun H U=>by rw[<-h];exact(h3 H U).cells⟩
structure ESt(X:EX)(E:EEnv)(nt:Nat)(H:ah)(U:Bm)(tm:Nat->ES)(h:Hp)(a:Act)(w:my):Prop where
 sim:ESim X.Z E H U h w
 slot:∀t,SRe X.Z H U (a.tmps.getD t undef) (tm t)
 size:a.tmps.size=nt
def cT(tm:Nat->ES)(dst:Option Nat)(r:ES):Nat->ES :=
 match dst with
 |some d=>aB tm d r
 |none=>tm
def a8(h:Hp):Wr->Hp
 | []=>h
 | (g,o)::l=>a8 (aB h g (some o)) l
def MarkSame(w w':my):Prop:=∀D:Nat,w.heap[D]?=some (Obj.deferred (some []))->w'.heap[D]?=w.heap[D]?
theorem MarkSame.refl(w:my):MarkSame w w:=fun _ _=>rfl
theorem MarkSame.below{w w':my}(h:Below w.heap.size w w'):MarkSame w w':=fun D hD=>h.block D (Array.getElem?_eq_some_iff.1 hD).1
theorem MarkSame.row{w:my}{b:Nat}{cs arr:Array X3}{e:me}{fr:Nat×Nat}(hb:w.heap[b]?=some (.cells arr e fr)):MarkSame w (w.setRow b cs):=fun D hD=>mU w b D cs (fun e'=>by subst e';rw[hb] at hD;cases hD)
section
variable {X:EX}{E:EEnv}{nt:Nat}{H H':ah}{U U':Bm}{tm:Nat->ES}{h h':Hp}{a:Act}{w w':my}{o:X4}
theorem Wv(v:X3):SRe X.Z H U v (cE v):=by
 unfold cE;split<;>first
  |trivial
  |exact⟨rfl,VR.bool _⟩
  |exact⟨rfl,VR.int _ _⟩
  |exact⟨rfl,VR.str _ _ rfl⟩
  |exact⟨rfl,VR.nilS⟩
  |exact⟨rfl,VR.nilI⟩
  |exact⟨rfl,VR.nilF⟩
  |exact⟨rfl,VR.nilP⟩
theorem OX{v:X3}{x:IV}(h:VR H v x)(h1:x.isTup=false)(h2:x.isAgg=false):v.oneCell'=true:=by
 cases h<;>first|rfl|(simp[IV.isTup] at h1;done)|(simp[IV.isAgg] at h2;done)
theorem LP{v:X3}{x:IV}(h:VR H v x)(ht:x.isTup=false):WR X.Z H U v (dW x):=by
 cases hx:x.isAgg with
 |true=>
  cases x<;>first|(simp[IV.isAgg] at hx;done)|skip
  rename_i cs;obtain⟨vs,rfl,h1,h2⟩:=h.asAgg;exact⟨vs,rfl,BT h1 h2⟩
 |false=>
  have e:dW x=.one (.iv x):=by cases x<;>first|rfl|simp[IV.isAgg] at hx
  rw[e];exact⟨OX h ht hx,h⟩
theorem zx{v:X3}{x:IV}(h:VR H v x)(ht:x.isTup=false):SRe X.Z H U v (dS x):=by
 have e:dS x=.w (dW x):=by cases x<;>first|rfl|simp[IV.isTup] at ht
 rw[e];exact LP h ht
theorem bp(hS:ESt X E nt H U tm h a w)(x:X0):SRe X.Z H U (a.eval x) (aj tm x):=by
 cases x with
 |tmp t=>exact hS.slot t
 |const v=>exact Wv v
 |func f=>exact⟨rfl,VR.fn f⟩
 |global _=>trivial
theorem ESt.fin(hS:ESt X E nt H U tm h a w){dst:Option Nat}(hd:∀d,dst=some d->d<nt)(hH:HLe H H')(hB:BLe U U')(hs:ESim X.Z E H' U' h' w'){v:X3}{r:ES}(hv:SRe X.Z H' U' v r) :
 ESt X E nt H' U' (cT tm dst r) h' (a.put dst v) w':=by
 cases dst with
 |none=>exact⟨hs,fun t=>(hS.slot t).mono hH hB,hS.size⟩
 |some d=>
  refine⟨hs,fun t=>?_,?_⟩
  . have hlt:d<a.tmps.size:=by rw[hS.size];exact hd d rfl
    show SRe X.Z H' U' ((a.tmps.setIfInBounds d v).getD t undef) (aB tm d r t);by_cases ht:t=d
    . subst ht;have e:(a.tmps.setIfInBounds t v).getD t undef=v:=by simp[Array.getD,hlt]
      rw[e,aT];exact hv
    . have e:(a.tmps.setIfInBounds d v).getD t undef=a.tmps.getD t undef:=by
       simp only[ER,MW];rw[am (by omega)]
      rw[e,aD _ _ _ ht];exact(hS.slot t).mono hH hB
  . show(a.tmps.setIfInBounds d v).size=nt;rw[E0];exact hS.size
def OpOk(X:EX)(E:EEnv)(H:ah)(U:Bm)(h:Hp)(a:Act)(w:my)(o:X4)(r:ES)(ws:Wr):Prop :=
 ∃v w' U',((execOp a.eval o).run X.P w=.ok (.value v) w'\/(v=undef/\(execOp a.eval o).run X.P w=.ok .skip w'))/\BLe U U'/\ESim X.Z E H U' (a8 h ws) w'/\MarkSame w w'/\SRe X.Z H U' v r
theorem OpOk.pure(hS:ESt X E nt H U tm h a w){v:X3}{r:ES}(hr:(execOp a.eval o).run X.P w=.ok (.value v) w)(hv:SRe X.Z H U v r):OpOk X E H U h a w o r [] :=
 ⟨v,w,U,.inl hr,BLe.refl _,hS.sim,MarkSame.refl _,hv⟩
theorem ol{k:IntKind}{n:Int}{r:ES}{ws:Wr}(he:ig k n=some (r,ws)):r=ac (.int k n)/\ws=[]:=by
 unfold ig at he;rw[BI] at he;simp only[ae,aA] at he;exact⟨he.1.symm,he.2.symm⟩
theorem pV{b:Bool}{r:ES}{ws:Wr}(he:iW b=some (r,ws)):r=ac (.bool b)/\ws=[]:=by
 cases b<;>(simp only[iW,ae,aA] at he;exact⟨he.1.symm,he.2.symm⟩)
theorem SRe.int{v:X3}{k:IntKind}{n:Int}(h:SRe X.Z H U v (.w (.one (.iv (.int k n))))):v=.int k n:=VR.asInt h.2
theorem SRe.bool{v:X3}{b:Bool}(h:SRe X.Z H U v (.w (.one (.iv (.bool b))))):v=.bool b:=oe h.2
theorem qy{v:X3}(h:VR H v (.nil 3)):v=.slice none 0 0:=by cases h;rfl
theorem ok_move(hS:ESt X E nt H U tm h a w){x:X0}(ho:o.op=.move x\/o.op=.assign x):OpOk X E H U h a w o (aj tm x) []:=by
 refine OpOk.pure hS (v:=a.eval x) ?_ (bp hS x);rcases ho with ho|ho<;>simp only[execOp,ho]<;>rfl
theorem ok_pick(hS:ESt X E nt H U tm h a w){c x y:X0}(ho:o.op=.pick c x y){r:ES}{ws:Wr}(he:vk (aj tm c) (aj tm x) (aj tm y)=some (r,ws)):OpOk X E H U h a w o r ws:=by
 have hc:=bp hS c;unfold vk at he;split at he<;>rename_i hcc<;>(try cases he)
 . rw[hcc] at hc;refine OpOk.pure hS (v:=a.eval x) ?_ (bp hS x);simp only[execOp,ho,hc.bool,asBool,au,aw,ar];rfl
 . rw[hcc] at hc;refine OpOk.pure hS (v:=a.eval y) ?_ (bp hS y);simp only[execOp,ho,hc.bool,asBool,au,aw,ar];rfl
theorem se(hS:ESt X E nt H U tm h a w){g:Nat}{e:me}{cs:List EV}{k:Nat->Nat->ES}{r:ES}{ws:Wr}(he:gX h g e cs k=some (r,ws)){arr:Array X3}(ha:CRL X.Z H U (arr.toList.take cs.length) cs)(hl:cs.length<=arr.size) :
 ∃ U',BLe U U'/\U' g 0=some (w.heap.size,arr.size)/\ESim X.Z E H U' (a8 h ws) (w.alloc (.cells arr e))/\MarkSame w (w.alloc (.cells arr e))/\r=k g cs.length:=by
 unfold gX at he;split at he
 . rename_i hg;rw[cZ,bd] at he;simp only[ae,aA] at he;obtain⟨rfl,rfl⟩:=he;have hbe:Below w.heap.size w (w.alloc (.cells arr e)):=(lK _ _).alloc (ak _) _;have hnew:H w.heap.size=none:=by
    cases hx:H w.heap.size with
    |none=>rfl
    |some arr'=>have:=hS.sim.has.lt hx;omega
   obtain⟨hb,hs⟩:=hS.sim.alloc hg (b:=.cells arr e) (s:=arr.size) (o:=.mem e cs false [(0,cs.length)] 1) Nat.one_pos (by
    refine⟨fun _ u k hk=>?_,fun u p hup=>?_⟩
    . by_cases e:u=0
      . subst e;rw[fg] at hk;cases hk;exact hnew
      . rw[jT _ _ _ _ (fun e'=>e e'.2),hS.sim.noB hg] at hk;cases hk
    simp only[fL,aA] at hup;obtain⟨rfl,rfl⟩:=hup;refine⟨Nat.one_pos,_,arr,fg _ _ _ _,hS.sim.lo _ (ak _),by simpa using hnew,mS _ _,rfl,ak _,hl,?_⟩;rw[dM];exact ha.mono (HLe.refl _) (jV (hS.sim.noB hg 0)))
   exact⟨_,hb,fg _ _ _ _,hs,MarkSame.below hbe,rfl⟩
 . cases he
theorem EX.run_zero{t:me}{cs:List EV}(hz:X.ze t=some cs):∃z:X3,(∀w,(zeroValue t).run X.P w=.ok z w)/\(∀H U,CRL X.Z H U z.cells.toList cs)/\z.cells.size=cs.length/\∃i,X.P.info? t=some i/\i.zero=some z:=by
 obtain⟨i,z,h1,h2,h3⟩:=X.hze t cs hz;exact⟨z,fun w=>by simp[zeroValue,typeInfo,h1,h2],h3,by have:=(h3 (fun _=>none) (fun _ _=>none)).length;simpa using this,i,h1,h2⟩
theorem ok_alloc(hS:ESt X E nt H U tm h a w){t:me}(ho:o.op=.alloc t){g:Nat}{r:ES}{ws:Wr}(he:sH X.ze h g t=some (r,ws)):OpOk X E H U h a w o r ws:=by
 unfold sH at he;split at he
 . rename_i cs hz;obtain⟨z,hz1,hz2,nQ,_⟩:=EX.run_zero hz;obtain⟨U',b1,b2,b3,b4,rfl⟩:=se hS he (arr:=z.cells) (by rw[aC (by simp[nQ])];exact hz2 H U) (by omega);refine⟨.pointer (some ⟨w.heap.size,0,none⟩),_,U',.inl ?_,b1,b3,b4,⟨_,b2,rfl⟩⟩;simp only[execOp,ho,Instr.alloc,au,hz1,ar,newVar,newRow,mT,aw];rfl
 . cases he
theorem ok_box(hS:ESt X E nt H U tm h a w){t:me}{x:X0}(ho:o.op=.box t x){g:Nat}{r:ES}{ws:Wr}(he:tg X.Z h g t (aj tm x)=some (r,ws)):OpOk X E H U h a w o r ws:=by
 have hx:=bp hS x;unfold tg at he;split at he
 . rename_i y hy;rw[hy] at hx;have hx:WR X.Z H U (a.eval x) y:=hx;obtain⟨U',b1,b2,b3,b4,rfl⟩:=se hS he (arr:=(a.eval x).cells) (by rw[aC (by simp[hx.size])];exact hx.cells) (by rw[hx.size];exact ak _);refine⟨.pointer (some ⟨w.heap.size,0,none⟩),_,U',.inl ?_,b1,b3,b4,⟨_,b2,rfl⟩⟩;simp only[execOp,ho,Instr.box,au,ar,newVar,newRow,mT,aw];rfl
 . cases he
theorem xz{places:Nat->Option (Nat×Nat)}{V:X0->X3}{f:X0->ES}(hρ:∀x,SRe X.Z H U (V x) (f x)):∀{parts:List (Nat×X0)} {cs:List EV} {cells:Array X3} {r:List EV},CRL X.Z H U cells.toList cs->kp X.Z places cs (parts.map fun p=>(p.1,f p.2))=some r->
 ∃cells',Instr.fill places cells (parts.map fun p=>(p.1,V p.2))=some cells'/\CRL X.Z H U cells'.toList r
 | [],cs,cells,r,hc,he=>by
  simp only[eC,kp,ae] at he;subst he;exact⟨cells,rfl,hc⟩
 | (j,x)::rest,cs,cells,r,hc,he=>by
   have hx:=hρ x;simp only[aS] at he;cases hfx:f x with
   |w y=>
    rw[hfx] at he hx;have hx:WR X.Z H U (V x) y:=hx;unfold kp at he;split at he
    . rename_i off sz hp;cases hb:(Nat.beq (y.cells X.Z).length sz&&Nat.ble (off+sz) cs.length) with
      |false=>rw[hb] at he;cases he
      |true=>
       rw[hb] at he;simp only[af] at he;simp only[az] at hb;have c1:=av hb.1;have c2:=aG hb.2;have hs:=hx.size;have hl:=hc.length;simp only[eY] at hl;have hfit:off+(V x).cells.size<=cells.size:=by omega
       have hfold:=Bf (V x) cells off hfit;obtain⟨cells',e1,e2⟩:=xz hρ (parts:=rest) (cs:=splice cs off (y.cells X.Z)) (cells:=(V x).cells.zipIdx.foldl (fun cs (c,j)=>cs.setIfInBounds (off+j) c) cells) (by rw[hfold];exact hc.splice hx.cells off) he;refine⟨cells',?_,e2⟩;simp only[aS,Instr.fill,hp];have hsz:(V x).cells.size=sz:=by omega
       rw[am (by simp only[ne_eq,hsz,tI,decide_false,vX,dL];omega)];exact e1
    . cases he
   |_=>rw[hfx] at he;unfold kp at he;cases he
theorem ok_build(hS:ESt X E nt H U tm h a w){t:me}{parts:Array (Nat×X0)}(ho:o.op=.build t parts){r:ES}{ws:Wr}(he:yS X.T X.ze X.Z t (parts.toList.map fun p=>(p.1,aj tm p.2))=some (r,ws)):OpOk X E H U h a w o r ws:=by
 unfold yS at he;split at he
 . rename_i ty zs ht hz;obtain⟨i,d,z,ok⟩:=aO (X.hT t ty ht);obtain⟨z',hz1,hz2,nQ,i',hz4,hz5⟩:=EX.run_zero hz;have hd':=ok.sh;have ei:i'=i:=by have:=ok.info;rw[hz4] at this;simpa using this
   subst ei;have ez:z'=z:=by have:=ok.zero;rw[hz5] at this;simpa using this
   subst ez;split at he
   . rename_i hsh;rw[hsh] at hd';obtain⟨fs,rfl⟩:=pH hd';have hfields:iD X.P fs.toList=some ty.fields:=ok.fields;have hpl:=AW hfields;split at he
     . rename_i cs hf;rw[cZ] at he;simp only[ae,aA] at he;obtain⟨rfl,rfl⟩:=he;have hplace:(fun j=>(ty.fields[j]?).map fun p=>(p.1,p.2.2))=(((ty.fields.map fun p=>(p.1,p.2.2)).toArray[·]?):Nat->Option (Nat×Nat)):=by funext j;simp
       rw[hplace] at hf;obtain⟨cells',e1,e2⟩:=xz (fun x=>bp hS x) (hz2 H U) hf;refine OpOk.pure hS (v:=.agg cells') ?_ ?_
       . have hr:=FB ok w (parts.map fun(i,x)=>(i,a.eval x)) hpl (cells:=cells') (by simpa using e1);simp only[execOp,ho,au,hr,ar,aw]
       . have:=B6 e2;show WR _ _ _ _ _;simpa using this
     . cases he
   . rename_i n e hsh;rw[hsh] at hd';obtain rfl:=rM hd';split at he
     . rename_i te hte;obtain⟨ie,de,zee,oke⟩:=aO (X.hT e te hte);split at he
       . rename_i cs hf;rw[cZ] at he;simp only[ae,aA] at he;obtain⟨rfl,rfl⟩:=he;obtain⟨cells',e1,e2⟩:=xz (fun x=>bp hS x) (hz2 H U) hf;refine OpOk.pure hS (v:=.agg cells') ?_ ?_
         . have hr:=FF ok oke w (parts.map fun(i,x)=>(i,a.eval x)) (cells:=cells') (by simpa using e1);simp only[execOp,ho,au,hr,ar,aw]
         . have:=B6 e2;show WR _ _ _ _ _;simpa using this
       . cases he
     . cases he
   . cases he
 . cases he
end
section
variable {X:EX}{E:EEnv}{nt:Nat}{H H':ah}{U U':Bm}{tm:Nat->ES}{h h':Hp}{a:Act}{w w':my}{o:X4}
theorem wN(zs:List EV):∀n,(gC zs n).length=n*zs.length
 |0=>by simp[gC]
 |n+1=>by simp[gC,wN zs n,bP];omega
theorem uL{z:X3}{zs:List EV}(hz:CRL X.Z H U z.cells.toList zs):∀n,CRL X.Z H U (aR (List.replicate n z)) (gC zs n)
 |0=>trivial
 |n+1=>by
  rw[rp,nf];exact hz.append (uL hz n)
theorem FY{Z:QS}{places:Nat->Option (Nat×Nat)}:∀(parts:List (Nat×ES)) {cs r:List EV},kp Z places cs parts=some r->r.length=cs.length
 | [],cs,r,he=>by simp only[kp,ae] at he;rw[he]
 | (j,x)::rest,cs,r,he=>by
   cases x with
   |w y=>
    unfold kp at he;split at he
    . rename_i off sz hp;cases hb:(Nat.beq (y.cells Z).length sz&&Nat.ble (off+sz) cs.length) with
      |false=>rw[hb] at he;cases he
      |true=>
       rw[hb] at he;simp only[af] at he;simp only[az] at hb;have c1:=av hb.1;have c2:=aG hb.2;rw[FY rest he,iQ (by omega)]
    . cases he
   |_=>unfold kp at he;cases he
theorem ok_buildSlice(hS:ESt X E nt H U tm h a w){t:me}{len:Nat}{parts:Array (Nat×X0)}(ho:o.op=.buildSlice t len parts){g:Nat}{r:ES}{ws:Wr}(he:ue X.T X.ze X.Z h g t len (parts.toList.map fun p=>(p.1,aj tm p.2))=some (r,ws)):OpOk X E H U h a w o r ws:=by
 unfold ue at he;split at he
 . rename_i ty ht;obtain⟨i,d,z,ok⟩:=aO (X.hT t ty ht);have hd':=ok.sh;split at he
   . rename_i e hsh;rw[hsh] at hd';obtain rfl:=ff hd';split at he
     . rename_i te zs hte hz;obtain⟨ie,de,zee,oke⟩:=aO (X.hT e te hte);obtain⟨ze,hz1,hz2,nQ,i',hz4,hz5⟩:=EX.run_zero hz;cases hb:(Nat.blt 0 te.size&&Nat.ble (len*te.size) 16777216&&Nat.beq zs.length te.size) with
       |false=>rw[hb] at he;cases he
       |true=>
        rw[hb] at he;simp only[af] at he;simp only[az] at hb;obtain⟨⟨b1,b2⟩,b3⟩:=hb;have hp:0<te.size:=jO (by simpa[Nat.blt] using b1);have hl:=aG b2;have hzl:=av b3;have hzc:ze.cells.size=te.size:=by omega
        split at he
        . rename_i cs hf;have hmf:=uv hzc hp len;obtain⟨cells',e1,e2⟩:=xz (fun x=>bp hS x) (cells:=madeCells ze.cells (len*te.size)) (by rw[hmf];exact uL (hz2 H U) len) hf;have hcl:=e2.length;simp only[eY] at hcl;have hsz:cells'.size=len*te.size:=by
           rw[hcl,FY _ hf,wN,hzl]
          obtain⟨U',b1,b2,b3,b4,rfl⟩:=se hS he (arr:=cells') (by rw[aC (by simp[hcl])];exact e2) (by omega);refine⟨.slice (some ⟨w.heap.size,0,none⟩) len len,_,U',.inl ?_,b1,b3,b4,⟨_,len,b2,rfl,ak _,rfl⟩⟩;have hnl:¬(len*te.size>2^24):=by omega
          have e1':Instr.fill (fun i=>some (i*te.size,te.size)) (madeCells ze.cells (len*te.size)) (parts.map fun(i,x)=>(i,a.eval x)).toList=some cells':=by simpa using e1
          simp only[execOp,ho,Instr.buildSlice,au,ok.run_und,ar,oke.run_size,hnl,bG];by_cases h0:len*te.size=0
          . have em:madeCells ze.cells (len*te.size)=(Array.range (len*te.size)).map (fun x=>(#[]:Array X3)[x%(#[]:Array X3).size]!):=by
             simp[h0,madeCells,Array.range_zero']
            rw[em] at e1';simp only[ay h0,au,aw,ar,e1',newRow,mT];rfl
          . have em:madeCells ze.cells (len*te.size)=(Array.range (len*te.size)).map (fun x=>ze.cells[x%ze.cells.size]!):=rfl;rw[em] at e1';simp only[am h0,au,aw,ar,hz1,e1',newRow,mT];rfl
        . cases he
     . cases he
   . cases he
 . cases he
theorem ok_makeSlice(hS:ESt X E nt H U tm h a w){t:me}{l c:X0}(ho:o.op=.makeSlice t l c){g:Nat}{r:ES}{ws:Wr}(he:rQ X.T X.ze h g t (aj tm l) (aj tm c)=some (r,ws)):OpOk X E H U h a w o r ws:=by
 have hl:=bp hS l;have hc:=bp hS c;unfold rQ at he;split at he
 . rename_i ty k1 m k2 m' ht hle hce;rw[hle] at hl;rw[hce] at hc;obtain⟨i,d,z,ok⟩:=aO (X.hT t ty ht);have hd':=ok.sh;split at he
   . rename_i e hsh;rw[hsh] at hd';obtain rfl:=ff hd';split at he
     . rename_i te zs hte hz;obtain⟨ie,de,zee,oke⟩:=aO (X.hT e te hte);obtain⟨ze,hz1,hz2,nQ,i',hz4,hz5⟩:=EX.run_zero hz;cases hb:(Nat.beq m m'&&Nat.blt 0 te.size&&Nat.beq zs.length te.size&&Nat.ble (te.bytes*m) 281474976710656&&Nat.ble m 1000000) with
       |false=>rw[hb] at he;cases he
       |true=>
        rw[hb] at he;simp only[af] at he;simp only[az] at hb;obtain⟨⟨⟨⟨b0,b1⟩,b3⟩,b4⟩,b5⟩:=hb;have em:=av b0;subst em;have hp:0<te.size:=jO (by simpa[Nat.blt] using b1);have hzl:=av b3;have h4:=aG b4;have h5:=aG b5;have hzc:ze.cells.size=te.size:=by omega
        have hmf:=uv hzc hp m;have hms:(madeCells ze.cells (m*te.size)).size=m*te.size:=by simp[size_madeCells]
        obtain⟨U',b1,b2,b3,b4,rfl⟩:=se hS he (arr:=madeCells ze.cells (m*te.size)) (by rw[aC (by rw[eY,hms,wN,hzl];exact ak _),hmf];exact uL (hz2 H U) m) (by rw[hms,wN,hzl];exact ak _);have hb':((ie.bytes:Nat):Int)*(m:Int)<=281474976710656:=by
         rw[oke.bytes];have:((te.bytes*m:Nat):Int)<=281474976710656:=by omega
         rwa[kN] at this
        have ez:i'=ie:=by have:=oke.info;rw[hz4] at this;simpa using this
        subst ez;have hr:=run_make (P:=X.P) w t e i' ze ok.und hz4 hz5 k1 k2 (m:Int) (m:Int) (by omega) (Int.le_refl _) hb' (by omega);simp only[mV,oke.size] at hr;refine⟨.slice (some ⟨w.heap.size,0,none⟩) m m,_,U',.inl ?_,b1,b3,b4,⟨_,m,b2,rfl,ak _,rfl⟩⟩;have e1:=hl.int;have e2:=hc.int;simp only[g8] at e1 e2;simp only[execOp,ho,e1,e2,au,hr,ar,aw]
     . cases he
   . cases he
 . cases he
theorem oi{u p:Nat}:∀{vs:List (Nat×Nat)},dl u vs=some p->(u,p)∈vs
 | [],h=>by simp[dl] at h
 | (v,q)::l,h=>by
   unfold dl at h;cases hb:Nat.beq v u with
   |true=>
    rw[hb] at h;simp only[af,ae] at h;rw[av hb,h];simp
   |false=>rw[hb] at h;exact eB _ (oi h)
theorem yB(hS:ESim X.Z E H U h w){g u off n:Nat}{cs:List EV}(he:g3 (h g) u off n=some cs) :
 ∃k arr e,U g u=some k/\w.heap[k.1]?=some (.cells arr e (0,0))/\off+n<=arr.size/\CRL X.Z H U ((arr.toList.drop off).take n) cs/\arr.size=k.2/\cs.length=n:=by
 unfold g3 at he;split at he
 . rename_i e cs0 fz vs cnt hg;split at he
   . rename_i p hv;cases hb:Nat.ble (off+n) p with
     |false=>rw[hb] at he;cases he
     |true=>
      rw[hb] at he;simp only[af,ae] at he;subst he;have hle:=aG hb;obtain⟨_,k,arr,h1,h2,h3,h4,h5,h6,h7,h8⟩:=(hS.obj g _ hg).2 u p (oi hv);refine⟨k,arr,e,h1,h4,by omega,?_,h5,by simp;omega⟩;have:=(h8.drop off).take n;rw[lJ,lJ,ce,ce,cB (by omega)] at this;exact this
   . cases he
 . cases he
theorem mkV_ok{ag:Bool}{cs:List EV}{r:EW}(he:mkV X.Z ag cs=some r){vs:List X3}(hv:CRL X.Z H U vs cs):(ag=true/\WR X.Z H U (.agg vs.toArray) r)\/(ag=false/\∃v,vs=[v]/\WR X.Z H U v r):=by
 unfold mkV at he;split at he
 . simp only[ae] at he;subst he;exact .inl ⟨rfl,B6 hv⟩
 . split at he
   . simp only[ae] at he;subst he;cases vs with
     |nil=>exact hv.elim
     |cons v vs=>cases vs with
      |nil=>exact .inr ⟨rfl,v,rfl,hv.1⟩
      |cons=>exact hv.2.elim
   . cases he
theorem Tj(hS:ESt X E nt H U tm h a w){t:me}{x:X0}(ho:o.op=.load t x){r:ES}{ws:Wr}(he:jB X.T X.Z h t (aj tm x)=some (r,ws)):OpOk X E H U h a w o r ws:=by
 have hx:=bp hS x;unfold jB at he;split at he
 . rename_i ty g u off ht hxe;rw[hxe] at hx;obtain⟨k,hk,hx⟩:=hx;obtain⟨i,d,z,ok⟩:=aO (X.hT t ty ht);split at he
   . rename_i cs hrd;rw[cZ] at he;obtain⟨k',arr,e,h1,h2,h3,h4,h5,h6⟩:=yB hS.sim hrd;rw[hk] at h1;cases h1;split at he
     . rename_i y hv;simp only[ae,aA] at he;obtain⟨rfl,rfl⟩:=he;have hcell:∀j c,((arr.toList.drop off).take ty.size)[j]?=some c->w.cell? ⟨k.1,off+j,none⟩=some c:=fun j c hc=>by
        rw[pv w _ _ arr e (0,0) h2];rw[cX] at hc;split at hc
        . simpa using hc
        . simp at hc
       rcases mkV_ok hv h4 with⟨q1,q2⟩|⟨q1,v,q2,q3⟩
       . refine OpOk.pure hS (v:=.agg ((arr.toList.drop off).take ty.size).toArray) ?_ q2;have hl:=M4 (P:=X.P) w ⟨k.1,off,none⟩ ((arr.toList.drop off).take ty.size) (fun j c hc=>by rw[eE];exact hcell j c hc);have hlen:((arr.toList.drop off).take ty.size).length=ty.size:=by simp;omega
         rw[hlen] at hl;have hr:(loadVar t ⟨k.1,off,none⟩).run X.P w=.ok (.agg ((arr.toList.drop off).take ty.size).toArray) w:=by
          simp only[loadVar,au,ok.run_agg,q1,ar,bD,ok.run_size,hl,aw]
         simp only[execOp,ho,hx,Instr.loadAt,Instr.sureAddr,au,aw,ar,hr]
       . refine OpOk.pure hS (v:=v) ?_ q3;have h0:=hcell 0 v (by rw[q2];rfl);rw[fA] at h0;have hr:(loadVar t ⟨k.1,off,none⟩).run X.P w=.ok v w:=by
          simp only[loadVar,au,ok.run_agg,q1,ar,dx,bG,run_load,h0]
         simp only[execOp,ho,hx,Instr.loadAt,Instr.sureAddr,au,aw,ar,hr]
     . cases he
   . cases he
 . rename_i ty y off ht hxe;rw[hxe] at hx;obtain⟨b,base,v,arr,hxv,hb,h4,h6⟩:=hx;obtain⟨i,d,z,ok⟩:=aO (X.hT t ty ht);obtain⟨e,fr,h5⟩:=hS.sim.has b arr hb;split at he
   . rename_i r0 hl;cases hrt:r0.isTup with
     |true=>rw[hrt] at he;cases he
     |false=>
      rw[hrt] at he;simp only[aX,ae,aA] at he;obtain⟨rfl,rfl⟩:=he;obtain⟨u,hr,hu⟩:=rI ok h5 h4 h6 hl;refine OpOk.pure hS (v:=u) ?_ (zx hu hrt);simp only[execOp,ho,hxv,Instr.loadAt,Instr.sureAddr,au,aw,ar,hr]
   . cases he
 . cases he
theorem QC{u off:Nat}{vs:List (Nat×Nat)}{v q:Nat}(h:(v,q)∈D6 u off vs):(v=u/\(v,q)∈vs)\/(v≠u/\∃q',(v,q')∈vs/\q<=q'/\q<=off):=by
 unfold D6 at h;obtain⟨p,hp,e⟩:=List.mem_map.1 h;cases hb:Nat.beq p.1 u with
 |true=>
  rw[hb] at e;simp only[af] at e;subst e;exact .inl ⟨av hb,hp⟩
 |false=>
  rw[hb] at e;simp only[aX,aA] at e;obtain⟨e1,e2⟩:=e;have e2':q=min p.2 off:=e2.symm;refine .inr ⟨fun e'=>?_,p.2,by rw[<-e1];exact hp,by omega,by omega⟩;rw[e1,e',bh] at hb;cases hb
theorem A5{α:Type}{A Yz9:List α}{off p:Nat}(h:p<=off)(h2:off<=A.length):(splice A off Yz9).take p=A.take p:=by
 unfold splice;rw[dX,jm (by simp;omega),ce,cB h]
theorem wG{α:Type}{A Yz9:List α}{off p:Nat}(h:off+Yz9.length<=p)(h2:p<=A.length):(splice A off Yz9).take p=splice (A.take p) off Yz9:=by
 apply px;intro k;rw[cX];by_cases hk:k<p
 . rw[ay hk,rL (by omega),rL (by simp;omega),cX,ay hk]
 . rw[am hk,rL (by simp;omega),am (by omega),cX,am hk]
theorem yu(hS:ESim X.Z E H U h w){g u off:Nat}{new:List EV}{o':EO}(he:il (h g) u off new=some o'){us:List X3}(hu:CRL X.Z H U us new) :
 ∃k arr e,U g u=some k/\w.heap[k.1]?=some (.cells arr e (0,0))/\off+us.length<=arr.size/\arr.size=k.2/\ESim X.Z E H U (aB h g (some o')) (w.setRow k.1 (splice arr.toList off us).toArray)/\MarkSame w (w.setRow k.1 (splice arr.toList off us).toArray):=by
 unfold il at he;split at he
 . rename_i e cs vs cnt hg;split at he
   . rename_i p hv;cases hb:Nat.ble (off+new.length) p with
     |false=>rw[hb] at he;cases he
     |true=>
      rw[hb,cZ] at he;simp only[af,ae] at he;subst he;have hle:=aG hb;have hO:=hS.obj g _ hg;obtain⟨_,k,arr,h1,h2,h3,h4,h5,h6,h7,h8⟩:=hO.2 u p (oi hv);have h3:H k.1=none:=hO.1 rfl u k h1;have hul:=hu.length;have hsz:(splice arr.toList off us).toArray.size=arr.size:=by
       simp only[kK];rw[iQ (by simp;omega),eY]
      have hrow:=tM w k.1 arr (splice arr.toList off us).toArray e (0,0) h4;refine⟨k,arr,e,h1,h4,by omega,h5,?_,MarkSame.row h4⟩;refine hS.turn (by rw[hg];simp) rfl rfl rfl (by simp) (fun k' _ hk'=>mU _ _ _ _ (fun e'=>hk' u k h1 e'.symm)) (fun u' s' hs'=>hO.1 rfl u' s' hs') (BLe.refl _) (fun _ _ _=>rfl) (fun u' k' hk'=>?_) ⟨fun _=>hO.1 rfl,fun v q hvq=>?_⟩
      . obtain⟨hlt,hown,o2,ho2,hc2⟩:=hS.domN hg (by simp) u' k' hk';rw[hg] at ho2;cases ho2;exact⟨hc2,by simpa using hlt,hown,.inl ⟨u',k',hk',rfl⟩⟩
      . rcases QC hvq with⟨rfl,hm⟩|⟨hne,q',hm,hq1,hq2⟩
        . obtain⟨c1,k',arr',d1,d2,d3,d4,d5,d6,d7,d8⟩:=hO.2 v q hm;rw[h1] at d1;cases d1;rw[h4] at d4;cases d4;refine⟨c1,k,_,h1,h2,by simpa using h3,hrow,by rw[hsz];exact h5,by rw[iQ (by omega)];exact d6,by rw[hsz];exact d7,?_⟩;rcases fx q (off+new.length) with hlt|hge
          . -- the prefix ends inside: cut both
            have e1:(splice arr.toList off us).take q=((splice arr.toList off us).take (off+new.length)).take q:=by rw[ce,cB (by omega)]
            have e2:(splice cs off new).take q=((splice cs off new).take (off+new.length)).take q:=by rw[ce,cB (by omega)]
            show CRL X.Z H U ((splice arr.toList off us).take q) _;have hl1:off+us.length<=off+new.length:=by omega
            have hl2:off+new.length<=arr.toList.length:=by simp;omega
            rw[e1,e2,wG hl1 hl2,wG (ak _) (by omega)];refine CRL.take q (CRL.splice ?_ hu off);have:=h8.take (off+new.length);rwa[ce,ce,cB hle] at this
          . show CRL X.Z H U ((splice arr.toList off us).take q) _;rw[wG (by omega) (by simp;omega),wG (by omega) (by omega)];exact d8.splice hu off
        . obtain⟨c1,k',arr',d1,d2,d3,d4,d5,d6,d7,d8⟩:=hO.2 v q' hm;have hd8:CRL X.Z H U (arr'.toList.take q) ((splice cs off new).take q):=by
           rw[A5 hq2 (by omega)];have:=d8.take q;rwa[ce,ce,cB hq1] at this
          by_cases hk:k'.1=k.1
          . rw[hk,h4] at d4;cases d4;refine⟨c1,k',_,d1,d2,by rw[hk];simpa using h3,by rw[hk];exact hrow,by rw[hsz];exact d5,by rw[iQ (by omega)];omega,by rw[hsz];omega,?_⟩;show CRL X.Z H U ((splice arr.toList off us).take q) _;rw[A5 hq2 (by simp;omega)];exact hd8
          . refine⟨c1,k',arr',d1,d2,d3,(mU _ _ _ _ hk).trans d4,d5,by rw[iQ (by omega)];omega,by omega,hd8⟩
   . cases he
 . cases he
end
section
variable {X:EX}{E:EEnv}{nt:Nat}{H H':ah}{U U':Bm}{tm:Nat->ES}{h h':Hp}{a:Act}{w w':my}{o:X4}
theorem Ra(hS:ESt X E nt H U tm h a w){t:me}{x y:X0}(ho:o.op=.store t x y){r:ES}{ws:Wr}(he:oC X.T X.Z h t (aj tm x) (aj tm y)=some (r,ws)):OpOk X E H U h a w o r ws:=by
 have hx:=bp hS x;have hy:=bp hS y;unfold oC at he;split at he
 . rename_i ty g u off z ht hxe hye;rw[hxe] at hx;rw[hye] at hy;obtain⟨k,hk,hx⟩:=hx;have hy:WR X.Z H U (a.eval y) z:=hy;obtain⟨i,d,zz,ok⟩:=aO (X.hT t ty ht);cases hb:Nat.beq (z.cells X.Z).length ty.size with
   |false=>rw[hb] at he;cases he
   |true=>
    rw[hb] at he;simp only[af] at he;have hsz:=av hb;split at he
    . rename_i o' hw;simp only[ae,aA] at he;obtain⟨rfl,rfl⟩:=he;obtain⟨k',arr,e,h1,h2,h3,h4,h5,h6⟩:=yu hS.sim hw hy.cells;rw[hk] at h1;cases h1;have hrun:=AY (P:=X.P) ok (o:=off) h2 (u:=a.eval y) (by rw[hy.size,hsz]) (by simpa using h3) hy.cells.one;refine⟨undef,_,U,.inr ⟨rfl,?_⟩,BLe.refl _,h5,h6,rfl⟩;simp only[execOp,ho,hx,Instr.storeAt,Instr.sureAddr,au,aw,ar,hrun]
    . cases he
 . cases he
theorem ok_fieldAddr(hS:ESt X E nt H U tm h a w){t:me}{x:X0}{j:Nat}(ho:o.op=.fieldAddr t x j){r:ES}{ws:Wr}(he:pK X.T t (aj tm x) j=some (r,ws)):OpOk X E H U h a w o r ws:=by
 have hx:=bp hS x;unfold pK at he;split at he
 . rename_i ty g u off ht hxe;rw[hxe] at hx;obtain⟨k,hk,hx⟩:=hx;obtain⟨i,d,z,ok⟩:=aO (X.hT t ty ht);split at he
   . rename_i fo ag sz hsh hf;cases hb:Nat.blt 0 sz with
     |false=>rw[hb] at he;cases he
     |true=>
      rw[hb,bd] at he;simp only[af,ae,aA] at he;obtain⟨rfl,rfl⟩:=he;have hsz:0<sz:=jO (by simpa[Nat.blt] using hb);have hd':=ok.sh;rw[hsh] at hd';obtain⟨fs,rfl⟩:=pH hd';obtain⟨fd,fi,dd,e1,e2,e3,e4,e5,e6⟩:=rG (show iD X.P fs.toList=some ty.fields from ok.fields) hf;refine OpOk.pure hS (v:=.pointer (some ⟨k.1,off+fo,none⟩)) ?_ ⟨k,hk,rfl⟩;have e1':fs[j]?=some fd:=by simpa using e1
      have hs:(sizeOf fd.type).run X.P w=.ok fi.size w:=by simp[sizeOf,typeInfo,e3]
      have h0:¬fi.size=0:=by omega
      simp only[execOp,ho,hx,Instr.fieldAt,au,ok.run_und,ar,e1',Instr.sureAddr,aw,fieldPlace,hs,h0,bG,eE,e2]
   . cases he
 . rename_i ty y off ht hxe;rw[hxe] at hx;obtain⟨b,base,v,arr,hxv,q1,q2,q3⟩:=hx;obtain⟨i,d,z,ok⟩:=aO (X.hT t ty ht);split at he
   . rename_i fo ag sz hsh hf;cases hb:Nat.blt 0 sz with
     |false=>rw[hb] at he;cases he
     |true=>
      rw[hb,bd] at he;simp only[af,ae,aA] at he;obtain⟨rfl,rfl⟩:=he;have hsz:0<sz:=jO (by simpa[Nat.blt] using hb);have hd':=ok.sh;rw[hsh] at hd';obtain⟨fs,rfl⟩:=pH hd';obtain⟨fd,fi,dd,e1,e2,e3,e4,e5,e6⟩:=rG (show iD X.P fs.toList=some ty.fields from ok.fields) hf;refine OpOk.pure hS (v:=.pointer (some ⟨b,base+off+fo,none⟩)) ?_ ⟨b,base,v,arr,by rw[lI],q1,q2,q3⟩;have e1':fs[j]?=some fd:=by simpa using e1
      have hs:(sizeOf fd.type).run X.P w=.ok fi.size w:=by simp[sizeOf,typeInfo,e3]
      have h0:¬fi.size=0:=by omega
      simp only[execOp,ho,hxv,Instr.fieldAt,au,ok.run_und,ar,e1',Instr.sureAddr,aw,fieldPlace,hs,h0,bG,eE,e2]
   . cases he
 . cases he
theorem Oi(hS:ESt X E nt H U tm h a w){t:me}{x ix:X0}(ho:o.op=.indexAddr t x ix){r:ES}{ws:Wr}(he:m9 X.T t (aj tm x) (aj tm ix)=some (r,ws)):OpOk X E H U h a w o r ws:=by
 have hx:=bp hS x;have hi:=bp hS ix;unfold m9 at he;split at he
 . rename_i ty g u off n cap kk j ht hxe hie;rw[hxe] at hx;rw[hie] at hi;obtain⟨k,c,hk,hx,_⟩:=hx;have hi:=hi.int;simp only[g8] at hi;obtain⟨i,d,z,ok⟩:=aO (X.hT t ty ht);have hd':=ok.sh;split at he
   . rename_i e hsh;rw[hsh] at hd';obtain rfl:=ff hd';split at he
     . rename_i te hte;obtain⟨ie,de,ze,oke⟩:=aO (X.hT e te hte);cases hb:Nat.blt j n with
       |false=>rw[hb] at he;cases he
       |true=>
        rw[hb,bd] at he;simp only[af,ae,aA] at he;obtain⟨rfl,rfl⟩:=he;have hlt:j<n:=jO (by simpa[Nat.blt] using hb);refine OpOk.pure hS (v:=.pointer (some ⟨k.1,off+j*te.size,none⟩)) ?_ ⟨k,hk,rfl⟩;have hcond:(0:Int)<=(j:Int)/\(j:Int)<(n:Int):=⟨by omega,by omega⟩;simp only[execOp,ho,hx,hi,Instr.indexAt,asIntOf,au,aw,ar,ok.run_und,hcond,vZ,bD,mV,oke.run_size,eE]
     . cases he
   . cases he
 . rename_i ty g u off kk j ht hxe hie;rw[hxe] at hx;rw[hie] at hi;obtain⟨k,hk,hx⟩:=hx;have hi:=hi.int;simp only[g8] at hi;obtain⟨i,d,z,ok⟩:=aO (X.hT t ty ht);have hd':=ok.sh;split at he
   . rename_i n e hsh;rw[hsh] at hd';obtain rfl:=rM hd';split at he
     . rename_i te hte;obtain⟨ie,de,ze,oke⟩:=aO (X.hT e te hte);cases hb:Nat.blt j n with
       |false=>rw[hb] at he;cases he
       |true=>
        rw[hb,bd] at he;simp only[af,ae,aA] at he;obtain⟨rfl,rfl⟩:=he;have hlt:j<n:=jO (by simpa[Nat.blt] using hb);refine OpOk.pure hS (v:=.pointer (some ⟨k.1,off+j*te.size,none⟩)) ?_ ⟨k,hk,rfl⟩;have hcond:(0:Int)<=(j:Int)/\(j:Int)<(n:Int):=⟨by omega,by omega⟩;simp only[execOp,ho,hx,hi,Instr.indexAt,asIntOf,Instr.sureAddr,au,aw,ar,ok.run_und,hcond,vZ,bD,mV,oke.run_size,eE]
     . cases he
   . cases he
 . rename_i ty es kk j ht hxe hie;rw[hxe] at hx;rw[hie] at hi;have hi:=hi.int;have hxd:VR H (a.eval x) (.sl es):=hx.2;simp only[g8] at hi;obtain⟨i,d,z,ok⟩:=aO (X.hT t ty ht);have hd':=ok.sh;split at he
   . rename_i e hsh;rw[hsh] at hd';obtain rfl:=ff hd';split at he
     . rename_i te y hte hj;obtain⟨ie,de,ze,oke⟩:=aO (X.hT e te hte);cases hb:Nat.beq y.cells.length te.size with
       |false=>rw[hb] at he;cases he
       |true=>
        rw[hb] at he;simp only[af,ae,aA] at he;obtain⟨rfl,rfl⟩:=he;have hy:=av hb;have hlt:j<es.length:=(List.getElem?_eq_some_iff.1 hj).1;generalize hev:a.eval x=ev at hxd;cases hxd with
        |sl0=>simp at hlt
        |sl b off n cap sz arr vs _ hb hs hn hc hz ha=>
         obtain⟨u,hu1,hu2⟩:=hs.get j y hj;have hm:u∈vs:=bV hu1;have hsz:sz=te.size:=by rw[<-hz u hm,hu2.size,hy]
         have hvl:=hs.length;refine OpOk.pure hS (v:=.pointer (some ⟨b,off+j*te.size,none⟩)) ?_ ⟨b,off+j*te.size,u,arr,rfl,hb,hu2,?_⟩
         . have hlt':(j:Int)<(n:Int):=by omega
           have hcond:(0:Int)<=(j:Int)/\(j:Int)<(n:Int):=⟨by omega,hlt'⟩;simp only[execOp,ho,hev,hi,Instr.indexAt,asIntOf,au,aw,ar,ok.run_und,hcond,vZ,bD,mV,oke.run_size,eE]
         . rw[<-hsz,hz u hm,<-nU,<-flat_get hz hu1,<-ha,lJ,ce,cB];rw[<-tJ];have:1*sz<=(vs.length-j)*sz:=bU _ (by omega);omega
     . cases he
   . cases he
 . cases he
theorem ok_field(hS:ESt X E nt H U tm h a w){t:me}{x:X0}{j:Nat}(ho:o.op=.field t x j){r:ES}{ws:Wr}(he:yR X.T X.Z t (aj tm x) j=some (r,ws)):OpOk X E H U h a w o r ws:=by
 have hx:=bp hS x;unfold yR at he;split at he
 . rename_i ty cs ht hxe;rw[hxe] at hx;obtain⟨vs,hx,hvs⟩:=hx;obtain⟨i,d,z,ok⟩:=aO (X.hT t ty ht);split at he
   . rename_i fo ag sz hsh hf;cases hb:Nat.ble (fo+sz) cs.length with
     |false=>rw[hb] at he;cases he
     |true=>
      rw[hb,cZ] at he;simp only[af] at he;have hle:=aG hb;split at he
      . rename_i y hv;simp only[ae,aA] at he;obtain⟨rfl,rfl⟩:=he;have hd':=ok.sh;rw[hsh] at hd';obtain⟨fs,rfl⟩:=pH hd';obtain⟨fd,fi,dd,e1,e2,e3,e4,e5,e6⟩:=rG (show iD X.P fs.toList=some ty.fields from ok.fields) hf;have e1':fs[j]?=some fd:=by simpa using e1
        have hs:(sizeOf fd.type).run X.P w=.ok fi.size w:=by simp[sizeOf,typeInfo,e3]
        have hag:=Br e4 w;rw[e5] at hag;have hl:=hvs.length;rcases mkV_ok hv ((hvs.drop fo).take sz) with⟨q1,q2⟩|⟨q1,v,q2,q3⟩
        . subst q1;refine OpOk.pure hS (v:=.agg ((vs.drop fo).take sz).toArray) ?_ q2;have hpart:(part fd.type vs.toArray fd.offset).run X.P w=.ok (.agg ((vs.drop fo).take sz).toArray) w:=by
           simp only[part,au,hag,ar,bD,hs,aw,e2,e6];congr 2;apply eO;simp only[M5,M6];rw[show fo+sz-fo=sz by omega]
          simp only[execOp,ho,hx,Instr.field,au,ok.run_und,ar,e1',asAgg,aw,hpart]
        . subst q1;refine OpOk.pure hS (v:=v) ?_ q3;have h2':vs.toArray[fo]?=some v:=by
           have:((vs.drop fo).take sz)[0]?=some v:=by rw[q2];rfl
           rw[cX] at this;split at this
           . simpa using this
           . cases this
          have hpart:(part fd.type vs.toArray fd.offset).run X.P w=.ok v w:=by
           simp only[part,au,hag,ar,dx,bG,e2,h2',aw]
          simp only[execOp,ho,hx,Instr.field,au,ok.run_und,ar,e1',asAgg,aw,hpart]
      . cases he
   . cases he
 . cases he
theorem ok_extract(hS:ESt X E nt H U tm h a w){x:X0}{j:Nat}(ho:o.op=.extract x j){r:ES}{ws:Wr}(he:xD (aj tm x) j=some (r,ws)):OpOk X E H U h a w o r ws:=by
 have hx:=bp hS x;unfold xD at he;split at he
 . rename_i xs hxe;rw[hxe] at hx;obtain⟨vs,hx,hvs⟩:=hx;split at he
   . rename_i y hj;simp only[ae,aA] at he;obtain⟨rfl,rfl⟩:=he;obtain⟨u,h1,h2⟩:=hvs.get j y hj;refine OpOk.pure hS (v:=u) ?_ h2;have h1':vs.toArray[j]?=some u:=by simpa using h1
     simp only[execOp,ho,hx,Instr.extract,h1',au,aw,ar]
   . cases he
 . cases he
theorem ok_makeFunc(hS:ESt X E nt H U tm h a w){fn:Fn}{first captured:Array X0}(ho:o.op=.makeFunc fn first captured){r:ES}{ws:Wr}(he:xi fn (first.toList.map (aj tm)) (captured.toList.map (aj tm))=some (r,ws)):OpOk X E H U h a w o r ws:=by
 have key:∀(os:List X0) (gs:List Nat),sO (os.map (aj tm))=some gs->(∀g∈gs,∃k,U g 0=some k)/\os.map a.eval=gs.map (ii U):=by
  intro os;induction os with
  |nil=>intro gs hg;simp only[eC,sO,ae] at hg;subst hg;exact⟨by simp,rfl⟩
  |cons o os ih=>
   intro gs hg;simp only[aS] at hg;have hv:=bp hS o;unfold sO at hg;split at hg
   . rename_i hc;cases hc
   . rename_i g' l hc;simp only[pE] at hc;obtain⟨hx,rfl⟩:=hc;rw[hx] at hv;obtain⟨k,hk,hv⟩:=hv;cases hp:sO (os.map (aj tm)) with
     |none=>rw[hp] at hg;cases hg
     |some gs'=>
      rw[hp] at hg;simp only[fa,ae] at hg;subst hg;obtain⟨i1,i2⟩:=ih gs' hp;exact⟨fun g hg=>(List.mem_cons.1 hg).elim (fun e=>by rw[e];exact⟨k,hk⟩) (i1 g),by simp[i2,hv,ii,hk]⟩
   . cases hg
 unfold xi at he;split at he
 . rename_i f hfi hp;simp only[ae,aA] at he;obtain⟨rfl,rfl⟩:=he;obtain⟨k1,k2⟩:=key _ _ hp;have e1:first = #[]:=by apply eO;simpa using hfi
   have e2:captured = #[]:=by apply eO;simpa using k2
   subst e1 e2;refine OpOk.pure hS (v:=.func (.func f) #[] #[]) ?_ ⟨rfl,VR.fn f⟩;simp only[execOp,ho,Instr.makeFunc,au,aw,ar];simp
 . rename_i f g gs hfi hp;simp only[ae,aA] at he;obtain⟨rfl,rfl⟩:=he;obtain⟨k1,k2⟩:=key _ _ hp;have e1:first = #[]:=by apply eO;simpa using hfi
   subst e1;have e2:captured.map a.eval=((g::gs).map (ii U)).toArray:=by apply eO;simpa using k2
   refine OpOk.pure hS (v:=.func (.func f) #[] ((g::gs).map (ii U)).toArray) ?_ ⟨k1,rfl⟩;simp only[execOp,ho,Instr.makeFunc,au,aw,ar,e2];simp
 . cases he
theorem Ii{op:BinOp}{k:IntKind}{p q:Int}{r:ES}{ws:Wr}(he:s8 op k p q=some (r,ws)):ws=[]/\mh op k p q (fun x=>r=ac x/\x.isTup=false/\x.isAgg=false):=by
 cases op<;>simp only[s8] at he<;>first
  | (cases he;done)
  | (obtain⟨rfl,rfl⟩:=ol he;exact⟨rfl,_,rfl,rfl,rfl,rfl⟩)
  | (obtain⟨rfl,rfl⟩:=pV he;exact⟨rfl,_,rfl,rfl,rfl,rfl⟩)
  | (cases hq:decide (q=0) with
     |true=>rw[hq] at he;cases he
     |false=>
      rw[hq] at he;simp only[aX] at he;obtain⟨rfl,rfl⟩:=ol he;exact⟨rfl,by simpa using hq,_,rfl,rfl,rfl,rfl⟩)
theorem HQ{op:BinOp}{p q:List UInt8}{r:ES}{ws:Wr}(he:strE op p q=some (r,ws)):ws=[]/\mf op p q (fun x=>r=ac x/\x.isTup=false/\x.isAgg=false):=by
 cases op<;>simp only[strE] at he<;>first
  | (cases he;done)
  | (obtain⟨rfl,rfl⟩:=pV he;exact⟨rfl,_,rfl,rfl,rfl,rfl⟩)
  | (cases hq:Nat.ble (p.length+q.length) 1000000 with
     |false=>rw[hq] at he;cases he
     |true=>
      rw[hq,cZ] at he;simp only[af,ae,aA] at he;obtain⟨rfl,rfl⟩:=he;have:=aG hq;exact⟨rfl,by omega,rfl,rfl,rfl⟩)
theorem PD{v:X3}{x:IV}(h:VR H v x)(h1:x.isTup=false)(h2:x.isAgg=false):v.oneCell'=true:=by
 cases h<;>first|rfl|simp[IV.isTup,IV.isAgg] at h1 h2
theorem A8{P:Tz}(n:Nat){t e:me}(ht:P.underlying t=some (.slice e))(ad:Option Addr)(k c:Nat)(w:my):(Op.equalIn (n+1) t (.slice ad k c) (.slice none 0 0)).run P w=.ok ad.isNone w:=by
 cases ad<;>simp only[Op.equalIn,au,cW ht w,ar,aw]<;>rfl
theorem ok_binOp(hS:ESt X E nt H U tm h a w){op:BinOp}{t t':me}{x y:X0}(ho:o.op=.binOp op t x y t'){r:ES}{ws:Wr}(he:oV X.T op t (aj tm x) (aj tm y)=some (r,ws)):OpOk X E H U h a w o r ws:=by
 have hx:=bp hS x;have hy:=bp hS y;have fin:∀{p q v:X3} {x':IV},a.eval x=p->a.eval y=q->(eqGuard op t x y p q).run X.P w=.ok () w->(binOp op t p q).run X.P w=.ok v w->VR H v x'->x'.isTup=false->x'.isAgg=false->OpOk X E H U h a w o (ac x') []:=fun hp hq hg hr hv h1 h2=>by
  refine OpOk.pure hS ?_ ⟨PD hv h1 h2,hv⟩;simp only[execOp,ho,hp,hq,au,hg,hr,ar,aw]
 unfold oV at he;split at he
 . rename_i k p k' q hxe hye;rw[hxe] at hx;rw[hye] at hy;cases hk:decide (k=k') with
   |false=>rw[hk] at he;cases he
   |true=>
    rw[hk] at he;simp only[af] at he;have:=mY hk;subst this;obtain⟨rfl,hi⟩:=Ii he;obtain⟨v,x',hr,hv,rfl,h1,h2⟩:=Ho (P:=X.P) (H:=H) (t:=t) w hi;refine fin hx.int hy.int ?_ hr hv h1 h2;unfold eqGuard;split<;>rfl
 . rename_i p q hxe hye;rw[hxe] at hx;rw[hye] at hy;obtain⟨bs,hxv,hbs⟩:=ju hx.2;obtain⟨cs,hyv,hcs⟩:=ju hy.2;obtain⟨rfl,hi⟩:=HQ he;rw[<-hbs,<-hcs] at hi;obtain⟨v,x',hr,hv,rfl,h1,h2⟩:=G3 (P:=X.P) (H:=H) (t:=t) w hi;refine fin hxv hyv ?_ hr hv h1 h2;unfold eqGuard;split<;>rfl
 . rename_i c hxe hye;rw[hxe] at hx;rw[hye] at hy;have hyv:=qy hy.2;have key:∀{ty:TY} {e:me} {b:Bool},X.T t=some ty->ty.sh=.slice e->Dy c=some b->(Op.equal t (a.eval x) (a.eval y)).run X.P w=.ok b w/\(∃ad n cp,a.eval x=.slice ad n cp):=fun{ty e b} ht hsh hb=>by
    obtain⟨i,d,z,ok⟩:=aO (X.hT t ty ht);have hd':=ok.sh;rw[hsh] at hd';obtain rfl:=ff hd';unfold Dy at hb;split at hb
    . cases hb;have hxv:=qy hx.2;refine⟨?_,_,_,_,hxv⟩;rw[hxv,hyv];exact A8 9999 ok.und none 0 0 w
    . cases hb;obtain⟨k,cp,_,hxv,_⟩:=hx;refine⟨?_,_,_,_,hxv⟩;rw[hxv,hyv];exact A8 9999 ok.und _ _ _ w
    . cases hb;rcases hx.2.asSl with⟨h,_⟩|⟨b,off,cap,sz,arr,vs,hxv,_⟩
      . cases h
      refine⟨?_,_,_,_,hxv⟩;rw[hxv,hyv];exact A8 9999 ok.und _ _ _ w
    . cases hb
   split at he
   . rename_i ty b ht hb;split at he
     . rename_i e hsh;obtain⟨rfl,rfl⟩:=pV he;obtain⟨k1,ad,n,cp,k2⟩:=key ht hsh hb;refine fin rfl rfl ?_ (v:=.bool b) ?_ (VR.bool _) rfl rfl
       . rw[k2,hyv];unfold eqGuard;rfl
       . rw[k2,hyv] at k1 ⊢;simp only[binOp,au,k1,ar,aw]
     . cases he
   . rename_i ty b ht hb;split at he
     . rename_i e hsh;obtain⟨rfl,rfl⟩:=pV he;obtain⟨k1,ad,n,cp,k2⟩:=key ht hsh hb;refine fin rfl rfl ?_ (v:=.bool (!b)) ?_ (VR.bool _) rfl rfl
       . rw[k2,hyv];unfold eqGuard;rfl
       . rw[k2,hyv] at k1 ⊢;simp only[binOp,au,k1,ar,aw]
     . cases he
   . cases he
 . cases he
theorem Th(hS:ESt X E nt H U tm h a w){op:UnOp}{t:me}{x:X0}(ho:o.op=.unOp op t x){r:ES}{ws:Wr}(he:rj op (aj tm x)=some (r,ws)):OpOk X E H U h a w o r ws:=by
 have hx:=bp hS x;unfold rj at he;split at he
 . rename_i b hxe;rw[hxe] at hx;obtain⟨rfl,rfl⟩:=pV he;refine OpOk.pure hS (v:=.bool (!b)) ?_ ⟨rfl,VR.bool _⟩;simp only[execOp,ho,hx.bool,Op.unary,au,aw,ar]
 . rename_i k n hxe;rw[hxe] at hx;obtain⟨rfl,rfl⟩:=ol he;refine OpOk.pure hS (v:=.int k (k.wrap (0-n))) ?_ ⟨rfl,VR.int _ _⟩;simp only[execOp,ho,hx.int,Op.unary,Op.intArith,au,aw,ar]
 . cases he
theorem ok_convert(hS:ESt X E nt H U tm h a w){s d:me}{x:X0}(ho:o.op=.convert s d x){r:ES}{ws:Wr}(he:vl X.T s d (aj tm x)=some (r,ws)):OpOk X E H U h a w o r ws:=by
 have hx:=bp hS x;unfold vl at he;split at he
 . rename_i ts td k' n hs htd hxe;rw[hxe] at hx;obtain⟨i1,d1,z1,ok1⟩:=aO (X.hT s ts hs);obtain⟨i2,d2,z2,ok2⟩:=aO (X.hT d td htd);split at he
   . rename_i k0 k h1 h2;have e1:=ok1.sh;rw[h1] at e1;obtain rfl:=xo e1;have e2:=ok2.sh;rw[h2] at e2;obtain rfl:=xo e2;obtain⟨rfl,rfl⟩:=ol he;refine OpOk.pure hS (v:=.int k (k.wrap n)) ?_ ⟨rfl,VR.int _ _⟩;simp only[execOp,ho,hx.int,convert,au,ok1.run_und,ok2.run_und,ar,Conv.intToInt,aw]
   . cases he
 . cases he
theorem Vq(hS:ESt X E nt H U tm h a w){x:X0}(ho:o.op=.nilCheck x){r:ES}{ws:Wr}(he:zT (aj tm x)=some (r,ws)):OpOk X E H U h a w o r ws:=by
 have hx:=bp hS x;unfold zT at he;split at he
 . rename_i g u off hxe;rw[hxe] at hx;simp only[ae,aA] at he;obtain⟨rfl,rfl⟩:=he;obtain⟨k,hk,hv⟩:=hx;refine OpOk.pure hS (v:=.pointer (some ⟨k.1,off,none⟩)) ?_ ⟨k,hk,rfl⟩;simp only[execOp,ho,hv,aw]
 . rename_i y off hxe;rw[hxe] at hx;simp only[ae,aA] at he;obtain⟨rfl,rfl⟩:=he;obtain⟨b,base,v,arr,hv,q1,q2,q3⟩:=hx;refine OpOk.pure hS (v:=.pointer (some ⟨b,base+off,none⟩)) ?_ ⟨b,base,v,arr,rfl,q1,q2,q3⟩;simp only[execOp,ho,hv,aw]
 . cases he
end
section
variable {X:EX}{E:EEnv}{nt:Nat}{H H':ah}{U U':Bm}{tm:Nat->ES}{h h':Hp}{a:Act}{w w':my}{o:X4}
theorem sL(hS:ESt X E nt H U tm h a w){v:Option X0}{d m:Nat}(he:jN (v.map (aj tm)) d=some m):Bd (v.map a.eval) d m:=by
 unfold jN at he;cases v with
 |none=>simp only[v7,ae] at he;exact .inl ⟨rfl,he.symm⟩
 |some x=>
  have hx:=bp hS x;simp only[fa] at he;split at he
  . rename_i hh;cases hh
  . rename_i k m' hh;simp only[ae] at hh he;subst he;rw[hh] at hx;have:=hx.int;exact .inr ⟨k,by simp only[fa,this];rfl⟩
  . cases he
theorem VB(hS:ESim X.Z E H U h w){g u off n sz c:Nat}{k:Nat×Nat}(hk:U g u=some k)(hn:n<=c)(hc:off+c*sz=k.2):tD (h g) u off n sz<=c:=by
 unfold tD;split
 . rename_i e cs fz vs cnt hg;split
   . rename_i p hv;cases hb:(Nat.ble (off+n*sz) p&&Nat.blt 0 sz) with
     |false=>exact hn
     |true=>
      simp only[af];simp only[az] at hb;have h1:=aG hb.1;have h2:0<sz:=jO (by simpa[Nat.blt] using hb.2);obtain⟨_,k',arr,d1,d2,d3,d4,d5,d6,d7,d8⟩:=(hS.obj g _ hg).2 u p (oi hv);rw[hk] at d1;cases d1;refine Nat.div_le_of_le_mul ?_;rw[dD];omega
   . exact hn
 . exact hn
theorem O6{P:Tz}(w:my){t e:me}{te:TY}{ie:TypeInfo}{de:TypeDesc}{ze:X3}(hund:P.underlying t=some (.slice e))(oke:TyOk P e te ie de ze){b off n c:Nat}{lo hi mx:Option X3}{l u m:Nat}
 (hlo:Bd lo 0 l) (hhi:Bd hi n u) (hmx:mx=none\/∃k,mx=some (.int k ((m:Nat):Int))) (hm:mx=none->m=c) (hx:mx=none\/hi≠none) (h1:l<=u) (h2:u<=m) (h3:m<=c) :
 (Instr.sliceAt t (.slice (some ⟨b,off,none⟩) n c) lo hi mx).run P w=.ok (.slice (some ⟨b,bif Nat.beq m l then off else off+l*te.size,none⟩) (u-l) (m-l)) w:=by
 have hb:=m7 (P:=P) (isS:=true) (len:=n) (cap:=c) (m:=m) w hlo hhi hmx hm hx h1 h2 h3;have hu:(underlying t).run P w=.ok (.slice e) w:=cW hund w;simp only[Instr.sliceAt,Instr.slice,au,hu,ar,hb,oke.run_size,aw,fa,eE];by_cases hml:m=l
 . rw[ay hml,hml,bh,af]
 . rw[am hml,ed hml,aX]
theorem Rb(hS:ESt X E nt H U tm h a w){t:me}{x:X0}{lo hi mx:Option X0}(ho:o.op=.slice t x lo hi mx){r:ES}{ws:Wr}(he:iF X.T h t (aj tm x) (lo.map (aj tm)) (hi.map (aj tm)) (mx.map (aj tm))=some (r,ws)):OpOk X E H U h a w o r ws:=by
 have hx:=bp hS x;unfold iF at he;split at he
 . rename_i ty ht;obtain⟨i,d,z,ok⟩:=aO (X.hT t ty ht);have hd':=ok.sh;split at he
   . rename_i e g u off n cap hsh hxe;rw[hsh] at hd';obtain rfl:=ff hd';rw[hxe] at hx;obtain⟨k,c0,hk,hxv,hn,hcap⟩:=hx;split at he
     . rename_i te hte;obtain⟨ie,de,ze,oke⟩:=aO (X.hT e te hte);split at he
       . rename_i l u' hl hu;have hlo:=sL hS hl;have hhi:=sL hS hu;have run:∀{m:Nat},(mx.map a.eval=none\/∃k,mx.map a.eval=some (.int k ((m:Nat):Int)))->(mx.map a.eval=none->m=c0)->(mx.map a.eval=none\/hi.map a.eval≠none)->l<=u'->u'<=m->m<=c0->
          (execOp a.eval o).run X.P w=.ok (.value (.slice (some ⟨k.1,bif Nat.beq m l then off else off+l*te.size,none⟩) (u'-l) (m-l))) w:=fun q1 q2 q3 q4 q5 q6=>by
          have:=O6 (P:=X.P) w ok.und oke (b:=k.1) (off:=off) (n:=n) (c:=c0) hlo hhi q1 q2 q3 q4 q5 q6;simp only[execOp,ho,hxv,au,this,ar,aw]
         split at he
         . -- no third bound, a known capacity
           rename_i c hmx;have hmx':mx.map a.eval=none:=by cases mx with|none=>rfl|some _=>cases hmx
           have hcc:c0=c:=hcap;subst hcc;cases hb:(Nat.ble l u'&&Nat.ble u' c0) with
           |false=>rw[hb] at he;cases he
           |true=>
            rw[hb,bd,bd,bd] at he;simp only[af,ae,aA] at he;obtain⟨rfl,rfl⟩:=he;simp only[az] at hb;have b1:=aG hb.1;have b2:=aG hb.2;exact OpOk.pure hS (run (m:=c0) (.inl hmx') (fun _=>rfl) (.inl hmx') b1 b2 (ak _)) ⟨k,c0-l,hk,rfl,by omega,rfl⟩
         . rename_i sz hmx;have hmx':mx.map a.eval=none:=by cases mx with|none=>rfl|some _=>cases hmx
           have hcap:off+c0*sz=k.2:=hcap;rw[bd] at he;have hkn:=VB hS.sim (sz:=sz) hk hn hcap;generalize tD (h g) u off n sz=kn at he hkn;cases hb:(Nat.ble l u'&&Nat.ble u' kn&&Nat.blt l kn&&Nat.beq sz te.size) with
           |true=>
            rw[hb,bd,bd] at he;simp only[af,ae,aA] at he;obtain⟨rfl,rfl⟩:=he;simp only[az] at hb;obtain⟨⟨⟨b1,b2⟩,b3⟩,b4⟩:=hb;have b1:=aG b1;have b2:=aG b2;have b3:l<kn:=jO (by simpa[Nat.blt] using b3);have b4:=av b4;subst b4;have hr:=run (m:=c0) (.inl hmx') (fun _=>rfl) (.inl hmx') b1 (by omega) (ak _);rw[ed (show c0≠l by omega),aX] at hr;refine OpOk.pure hS hr ⟨k,c0-l,hk,rfl,by omega,?_⟩;show off+l*te.size+(c0-l)*te.size=k.2;rw[<-hcap,lI,<-bP];congr 2;omega
           |false=>
            rw[hb] at he;simp only[aX] at he;cases hb2:(Nat.beq l u'&&Nat.ble u' kn&&Nat.beq sz te.size) with
            |false=>rw[hb2] at he;cases he
            |true=>
             rw[hb2] at he;simp only[af,ae,aA] at he;obtain⟨rfl,rfl⟩:=he;simp only[az] at hb2;have b1:=av hb2.1.1;have b2:=aG hb2.1.2;subst b1;have hr:=run (m:=c0) (.inl hmx') (fun _=>rfl) (.inl hmx') (ak _) (by omega) (ak _);rw[nW] at hr;exact OpOk.pure hS hr ⟨rfl,VR.sl0 _ _⟩
         . rename_i m0 c hmx;split at he
           . rename_i m _ hm0 hhi0;have hmm:=sL hS (v:=mx) (d:=0) (m:=m) (by rw[hmx];exact hm0);have hne:mx≠none:=fun e=>by rw[e] at hmx;cases hmx
             have hmx2:mx.map a.eval=none\/∃k,mx.map a.eval=some (.int k ((m:Nat):Int)):=hmm.mx;have hnn:mx.map a.eval≠none:=by cases mx with|none=>exact absurd rfl hne|some _=>simp
             have hhn:hi.map a.eval≠none:=by cases hi with|none=>cases hhi0|some _=>simp
             have hcc:c0=c:=hcap;subst hcc;cases hb:(Nat.ble l u'&&Nat.ble u' m&&Nat.ble m c0) with
             |false=>rw[hb] at he;cases he
             |true=>
              rw[hb,bd,bd,bd] at he;simp only[af,ae,aA] at he;obtain⟨rfl,rfl⟩:=he;simp only[az] at hb;have b1:=aG hb.1.1;have b2:=aG hb.1.2;have b3:=aG hb.2;exact OpOk.pure hS (run hmx2 (fun e=>absurd e hnn) (.inr hhn) b1 b2 b3) ⟨k,m-l,hk,rfl,by omega,rfl⟩
           . cases he
         . rename_i m0 sz hmx;split at he
           . rename_i m _ hm0 hhi0;have hmm:=sL hS (v:=mx) (d:=0) (m:=m) (by rw[hmx];exact hm0);have hne:mx≠none:=fun e=>by rw[e] at hmx;cases hmx
             have hmx2:mx.map a.eval=none\/∃k,mx.map a.eval=some (.int k ((m:Nat):Int)):=hmm.mx;have hnn:mx.map a.eval≠none:=by cases mx with|none=>exact absurd rfl hne|some _=>simp
             have hhn:hi.map a.eval≠none:=by cases hi with|none=>cases hhi0|some _=>simp
             cases hb:(Nat.ble l u'&&Nat.ble u' m&&Nat.ble m n) with
             |false=>rw[hb] at he;cases he
             |true=>
              rw[hb,bd,bd,bd] at he;simp only[af,ae,aA] at he;obtain⟨rfl,rfl⟩:=he;simp only[az] at hb;have b1:=aG hb.1.1;have b2:=aG hb.1.2;have b3:=aG hb.2;exact OpOk.pure hS (run hmx2 (fun e=>absurd e hnn) (.inr hhn) b1 b2 (by omega)) ⟨k,m-l,hk,rfl,by omega,rfl⟩
           . cases he
       . cases he
     . cases he
   . rename_i e es hsh hxe;rw[hsh] at hd';obtain rfl:=ff hd';rw[hxe] at hx;have hxd:VR H (a.eval x) (.sl es):=hx.2;split at he
     . rename_i te l u hte hl hu hmx;obtain⟨ie,de,ze,oke⟩:=aO (X.hT e te hte);have hlo:=sL hS hl;have hhi:=sL hS hu;have emx:mx=none:=by cases mx with|none=>rfl|some _=>cases hmx
       subst emx;cases hb:(Nat.ble l u&&Nat.ble u es.length&&(Nat.beq l 0||dI te.size es)) with
       |false=>rw[hb] at he;cases he
       |true=>
        rw[hb] at he;simp only[af,ae,aA] at he;obtain⟨rfl,rfl⟩:=he;simp only[az,g6] at hb;have h1:=aG hb.1.1;have h3:=aG hb.1.2;have hel:l=0\/∀y∈es,y.cells.length=te.size:=hb.2.imp av fun hh y hy=>by
         have:=List.all_eq_true.1 hh y hy;simp only[az] at this;exact av this.1
        generalize hev:a.eval x=ev at hxd;have key:∀(ad:Option Addr) (n cap:Nat),ev=.slice ad n cap->n=es.length->n<=cap->(execOp a.eval o).run X.P w=.ok (.value (.slice (if cap=l then ad else ad.map (·.add (l*te.size))) (u-l) (cap-l))) w:=by
         intro ad n cap hevs hn hc;have hb:=m7 (P:=X.P) (isS:=true) (mx:=none) (len:=n) (cap:=cap) (m:=cap) w hlo (by rw[hn];exact hhi) (.inl rfl) (fun _=>rfl) (.inl rfl) h1 (by omega) (ak _);simp only[execOp,ho,hev,hevs,Instr.sliceAt,Instr.slice,au,ok.run_und,ar,v7,hb,oke.run_size,aw]
        by_cases hlu:u=l
        . have hes:(es.take u).drop l=[]:=by rw[hlu];simp
          rw[hes];cases hxd with
          |sl0 ad cap=>
           have hr:=key ad 0 cap rfl rfl (bk _);rw[hlu,nW] at hr;exact OpOk.pure hS hr ⟨rfl,VR.sl0 _ _⟩
          |sl b off n cap sz arr vs _ hb hs hn hc hz ha=>
           have hr:=key _ n cap rfl hn hc;rw[hlu,nW] at hr;exact OpOk.pure hS hr ⟨rfl,VR.sl0 _ _⟩
        . cases hxd with
          |sl0 ad cap=>simp at h3;omega
          |sl b off n cap sz arr vs _ hb hs hn hc hz ha=>
           have hr:=key _ n cap rfl hn hc;have hvl:=hs.length;have hne:¬cap=l:=by omega
           rw[am hne,fa,eE] at hr;have hadd:off+l*te.size=off+l*sz:=by
            rcases hel with hel|hel
            . rw[hel];simp
            . have h0:0<vs.length:=by omega
              have hv0:=hz _ (eM h0);obtain⟨y,hy⟩:∃y,es[0]?=some y:=⟨_,a6 (show 0<es.length by omega)⟩;obtain⟨u0,e1,e2⟩:=hs.get 0 y hy;have e3:vs[0]=u0:=(List.getElem?_eq_some_iff.1 e1).2;have:=hel y (bV hy);rw[<-e2.size,<-e3,hv0] at this;rw[this]
           rw[hadd] at hr;refine OpOk.pure hS hr ⟨rfl,?_⟩;have hzz:∀v∈(vs.take u).drop l,v.cells.size=sz:=fun v hv=>hz v (dY (jn hv));have hlen:((vs.take u).drop l).length=u-l:=by simp;omega
           refine VR.sl b (off+l*sz) (u-l) (cap-l) sz arr ((vs.take u).drop l) _ hb ((hs.take u).drop l) (by simp;omega) (by omega) hzz ?_;rw[hlen,<-pP l (fun v hv=>hz v (dY hv)),<-pO u hz,<-ha,<-nU];rw[ce,cB (bU _ (by omega)),lJ,<-tJ]
     . cases he
   . rename_i n e g u off hsh hxe;rw[hsh] at hd';obtain rfl:=rM hd';rw[hxe] at hx;obtain⟨k,hk,hxv⟩:=hx;split at he
     . rename_i te hte hl hh hm;obtain⟨ie,de,ze,oke⟩:=aO (X.hT e te hte);simp only[ae,aA] at he;obtain⟨rfl,rfl⟩:=he;have e1:lo=none:=by cases lo with|none=>rfl|some _=>cases hl
       have e2:hi=none:=by cases hi with|none=>rfl|some _=>cases hh
       have e3:mx=none:=by cases mx with|none=>rfl|some _=>cases hm
       subst e1 e2 e3;refine OpOk.pure hS (v:=.slice (some ⟨k.1,off,none⟩) n n) ?_ ⟨k,n,hk,rfl,ak _,rfl⟩;have hb:=m7 (P:=X.P) (lo:=none) (hi:=none) (mx:=none) (isS:=false) (len:=n) (cap:=n) (l:=0) (h:=n) (m:=n) w (.inl ⟨rfl,rfl⟩) (.inl ⟨rfl,rfl⟩) (.inl rfl) (fun _=>rfl) (.inl rfl) (bk _) (ak _) (ak _);simp only[execOp,ho,hxv,Instr.sliceAt,au,ok.run_und,ar,Instr.sureAddr,aw,v7,hb,oke.run_size,mW,tX];by_cases h0:n=0
       . rw[ay h0]
       . rw[am h0];rfl
     . cases he
   . cases he
 . cases he
theorem Vu(hS:ESt X E nt H U tm h a w){x:X0}{t:me}(ho:o.op=.call { callee:=.builtin .len,args := #[x],argTypes := #[t] }){r:ES}{ws:Wr}(he:nG X.T t (aj tm x)=some (r,ws)):OpOk X E H U h a w o r ws:=by
 have hx:=bp hS x;have fin:∀{ty:TY} {e:me} {ad:Option Addr} {n c:Nat},X.T t=some ty->ty.sh=.slice e->a.eval x=.slice ad n c->OpOk X E H U h a w o (ac (.int .i64 n)) []:=fun{ty e ad n c} ht hsh hxv=>by
  obtain⟨i,d,z,ok⟩:=aO (X.hT t ty ht);have hd':=ok.sh;rw[hsh] at hd';obtain rfl:=ff hd';refine OpOk.pure hS (v:=.int .i64 n) ?_ ⟨rfl,VR.int _ _⟩;have hrun:(Builtin.len_ #[t] o.type #[.slice ad n c]).run X.P w=.ok (.int .i64 n) w:=by
   simp only[Builtin.len_,rz,nX,au,ok.run_und,ar,aw,goInt]
  simp only[execOp,ho,resolve,invoke,builtin,au,aw,ar,jo,aS,eC,hxv,hrun]
 unfold nG at he;split at he
 . rename_i ty _ _ _ n _ ht hxe;rw[hxe] at hx;obtain⟨k,c,hk,hxv,_⟩:=hx;split at he
   . rename_i e hsh;simp only[ae,aA] at he;obtain⟨rfl,rfl⟩:=he;exact fin ht hsh hxv
   . cases he
 . rename_i ty ht hxe;rw[hxe] at hx;have hxv:=qy hx.2;split at he
   . rename_i e hsh;simp only[ae,aA] at he;obtain⟨rfl,rfl⟩:=he;exact fin ht hsh hxv
   . cases he
 . rename_i ty es ht hxe;rw[hxe] at hx;have hxv:∃ad c,a.eval x=.slice ad es.length c:=by
    rcases VR.asSl hx.2 with⟨h0,ad,cap,hh⟩|⟨b,off,cap,sz,arr,vs,hh,_⟩
    . subst h0;exact⟨ad,cap,hh⟩
    . exact⟨_,cap,hh⟩
   obtain⟨ad,c,hxv⟩:=hxv;split at he
   . rename_i e hsh;obtain⟨rfl,rfl⟩:=ol he;exact fin ht hsh hxv
   . cases he
 . rename_i ty l ht hxe;rw[hxe] at hx;obtain⟨bs,hxv,hbs⟩:=ju hx.2;obtain⟨i,d,z,ok⟩:=aO (X.hT t ty ht);have hd':=ok.sh;split at he
   . rename_i hsh;rw[hsh] at hd';obtain rfl:=rH hd';obtain⟨rfl,rfl⟩:=ol he;have hsz:bs.size=l.length:=by rw[<-hbs,eY];rfl
     refine OpOk.pure hS (v:=.int .i64 l.length) ?_ ⟨rfl,VR.int _ _⟩;have hrun:(Builtin.len_ #[t] o.type #[.string bs]).run X.P w=.ok (.int .i64 l.length) w:=by
      simp only[Builtin.len_,rz,nX,au,ok.run_und,ar,aw,goInt,hsz]
     simp only[execOp,ho,resolve,invoke,builtin,au,aw,ar,jo,aS,eC,hxv,hrun]
   . cases he
 . cases he
theorem LC(hS:ESt X E nt H U tm h a w){x y:X0}{ts:Array me}{mx:Bool}(ho:o.op=.call { callee:=.builtin (bif mx then .max else .min),args := #[x,y],argTypes:=ts }){r:ES}{ws:Wr}(he:tG mx (aj tm x) (aj tm y)=some (r,ws)):OpOk X E H U h a w o r ws:=by
 have hx:=bp hS x;have hy:=bp hS y;unfold tG at he;split at he
 . rename_i k p k' q hxe hye;rw[hxe] at hx;rw[hye] at hy;cases mx with
   |true=>
    simp only[af] at he ho;obtain⟨rfl,rfl⟩:=ol he;refine OpOk.pure hS (v:=.int k (if q>p then q else p)) ?_ ⟨rfl,VR.int _ _⟩;simp only[execOp,ho,resolve,invoke,builtin,au,aw,ar,jo,aS,eC,hx.int,hy.int,run_max_int2]
   |false=>
    simp only[aX] at he ho;obtain⟨rfl,rfl⟩:=ol he;refine OpOk.pure hS (v:=.int k (if q<p then q else p)) ?_ ⟨rfl,VR.int _ _⟩;simp only[execOp,ho,resolve,invoke,builtin,au,aw,ar,jo,aS,eC,hx.int,hy.int,run_min_int2]
 . cases he
theorem Ji(hS:ESim X.Z E H U h w){v:X3}{x:ES}(hv:SRe X.Z H U v x){sz m:Nat}{news:List EV}(he:gU h sz x=some (news,m)) :
 ∃ad c us,v=.slice ad m c/\CRL X.Z H U us news/\us.length=m*sz/\(0<m->∃a,ad=some a/\∀j u,us[j]?=some u->w.cell? (a.add j)=some u):=by
 unfold gU at he;split at he
 . rename_i g u off n cap;obtain⟨k,c,hk,hxv,hn,_⟩:=hv;cases hr:g3 (h g) u off (n*sz) with
   |none=>rw[hr] at he;cases he
   |some l=>
    rw[hr] at he;simp only[fa,ae,aA] at he;obtain⟨rfl,rfl⟩:=he;obtain⟨k',arr,e,h1,h2,h3,h4,h5,h6⟩:=yB hS hr;rw[hk] at h1;cases h1;refine⟨_,c,_,hxv,h4,by rw[h4.length,h6],fun _=>⟨_,rfl,fun j u hj=>?_⟩⟩;rw[eE,pv w _ _ arr e (0,0) h2];rw[cX] at hj;split at hj
    . simpa using hj
    . simp at hj
 . simp only[ae,aA] at he;obtain⟨rfl,rfl⟩:=he;exact⟨_,_,[],qy hv.2,trivial,by simp,fun hh=>absurd hh (by omega)⟩
 . rename_i es;cases hb:dI sz es with
   |false=>rw[hb] at he;cases he
   |true=>
    rw[hb] at he;simp only[af,ae,aA] at he;obtain⟨rfl,rfl⟩:=he;have hz:∀y∈es,y.cells.length=sz/\y.isTup=false:=fun y hy=>by
     have:=List.all_eq_true.1 hb y hy;simp only[az,fy] at this;exact⟨av this.1,this.2⟩
    obtain⟨ad,cap,vs,e1,e2,e3,e4,e5⟩:=xm hS.has hv.2 hz;have hvl:=e2.length;have hcells:∀{vs:List X3} {es:List IV},VRL H vs es->VRL H (aR vs) (es.flatMap IV.cells):=by
     intro vs es h;induction vs generalizing es with
     |nil=>cases h;exact .nil
     |cons v vs ih=>cases h with
      |cons _ x _ xs h1 h2=>simpa[aR,ch] using(VR.cells h1).append (ih h2)
    refine⟨ad,cap,aR vs,e1,BT (hcells e2) (fun c hc=>?_),?_,fun h0=>?_⟩
    . obtain⟨u,hu,hc⟩:=List.mem_flatMap.1 hc;exact e4 u hu c hc
    . rw[iR e3,hvl]
    . obtain⟨b,off,rfl,hcell⟩:=e5 (fun e=>by rw[e] at h0;simp at h0);exact⟨_,rfl,fun j u hj=>by rw[eE];exact hcell j u hj⟩
 . cases he
end
section
variable {X:EX}{E:EEnv}{nt:Nat}{H H':ah}{U U':Bm}{tm:Nat->ES}{h h':Hp}{a:Act}{w w':my}{o:X4}
theorem FC{P:Tz}(w:my)(t ty e:me)(i:TypeInfo)(ht:P.underlying t=some (.slice e))(hi:P.info? e=some i)
 (g off sLen sCap:Nat) (cur:Array X3) {e':me} (hg:w.heap[g]?=some (.cells cur e' (0,0)))
 (a:Addr) (m c:Nat) (news:List X3) (hl:news.length=m*i.size) (hnews:∀j u,news[j]?=some u->w.cell? (a.add j)=some u) (h1:∀u∈news,u.oneCell'=true)
 (hroom:sLen+m<=sCap) (hfit:off+sLen*i.size+news.length<=cur.size) :
 (Builtin.append_ #[t,t] ty #[.slice (some ⟨g,off,none⟩) sLen sCap,.slice (some a) m c]).run P w =
   .ok (.slice (some ⟨g,off,none⟩) (sLen+m) sCap) (w.setRow g (splice cur.toList (off+sLen*i.size) news).toArray):=by
 have hf:=Ny (P:=P) w i.size m a m c news hl hnews;have hst:=ET P g (off+sLen*i.size) e' news 0 cur w hg (by simpa using hfit) h1;simp only[fA] at hst;simp[Builtin.append_,cW ht,sizeOf,typeInfo,hi,Builtin.lenOf,hroom,hf,eE,hst,Fl.splice]
theorem Qi{vs:List (Nat×Nat)}{p:Nat×Nat}(h:p∈nw vs):p∈vs:=dY h
theorem Qc(hS:ESt X E nt H U tm h a w){s x:X0}{t:me}(ho:o.op=.call { callee:=.builtin .append,args := #[s,x],argTypes := #[t,t] }){g:Nat}{r:ES}{ws:Wr}(he:jw X.T h g t (aj tm s) (aj tm x)=some (r,ws)):OpOk X E H U h a w o r ws:=by
 have hs:=bp hS s;have hx:=bp hS x;unfold jw at he;split at he
 . rename_i ty ht;obtain⟨i,d,z,ok⟩:=aO (X.hT t ty ht);have hd':=ok.sh;split at he
   . rename_i e hsh;rw[hsh] at hd';obtain rfl:=ff hd';split at he
     . rename_i te hte;obtain⟨ie,de,ze,oke⟩:=aO (X.hT e te hte);cases hp:(Nat.blt 0 te.size&&Nat.beq te.zero.cells.length te.size) with
       |false=>rw[hp] at he;cases he
       |true=>
        rw[hp] at he;simp only[af] at he;simp only[az] at hp;have hp':0<te.size:=jO (by simpa[Nat.blt] using hp.1);have hzc:ze.cells.size=te.size:=by rw[(oke.vr H).size,av hp.2]
        split at he
        . rename_i news m hsrc;obtain⟨ad,cx,us,hxv,hus,hul,hcell⟩:=Ji hS.sim hx hsrc;have hnl:news.length=m*te.size:=by rw[<-hus.length,hul]
          have exec:∀{v p:X3} {w':my},a.eval s=p->(Builtin.append_ #[t,t] o.type #[p,.slice ad m cx]).run X.P w=.ok v w'->(execOp a.eval o).run X.P w=.ok (.value v) w':=fun hp hr=>by
           simp only[execOp,ho,resolve,invoke,builtin,au,aw,ar,jo,aS,eC,hp,hxv,hr]
          have zer:∀{v:X3} {ad':Option Addr} {n c:Nat},m=0->a.eval s=v->v=.slice ad' n c->n<=c->(execOp a.eval o).run X.P w=.ok (.value v) w:=fun hm hv hv' hnc=>by
           subst hm;refine exec hv ?_;rw[hv'];exact wF X.P w t o.type e ie ok.und oke.info _ _ _ hnc ad cx
          split at he
          . -- onto nil
            rename_i hse;rw[hse] at hs;have hsv:=qy hs.2;cases hm:Nat.beq m 0 with
            |true=>
             rw[hm] at he;simp only[af,ae,aA] at he;obtain⟨rfl,rfl⟩:=he;have hr:=zer (av hm) rfl hsv (ak _);refine OpOk.pure hS hr ?_;rw[hse];exact hs
            |false=>
             rw[hm] at he;simp only[aX] at he;have hm0:0<m:=Fk (AD hm);obtain⟨A,rfl,hA⟩:=hcell hm0;cases hb:(Nat.ble m 1000000&&Nat.ble (m*te.bytes) 140737488355328) with
             |false=>rw[hb] at he;cases he
             |true=>
              rw[hb] at he;simp only[af] at he;simp only[az] at hb;have b1:=aG hb.1;have b2:=aG hb.2;have hr:=run_append_nil (P:=X.P) w t o.type e ie ze ok.und oke.info oke.zero A m cx us (by rw[hul,oke.size]) hA hm0 (by omega) (by rw[oke.bytes];omega);generalize hcap:grownCap w m 0 e=C at hr;have hge:m<=C:=by rw[<-hcap];exact wa _ _ _ _
              have hz:=(oke.vr H).cells;have hS2:ESt X E nt H U tm h a w.drew:=⟨hS.sim.sm rfl rfl rfl rfl,hS.slot,hS.size⟩;obtain⟨U',c1,c2,c3,c4,rfl⟩:=se hS2 he (arr:=us.toArray++Builtin.zeroCells ze.cells (C-m)) (by
               rw[pz];simp only;rw[jm (by omega),aC (by omega)];exact hus) (by simp;omega)
              refine⟨_,_,U',.inl (exec hsv hr),c1,c3,fun D hD=>c4 D hD,⟨_,C,c2,rfl,hge,?_⟩⟩;show 0+C*te.size=(us.toArray++Builtin.zeroCells ze.cells (C-m)).size;simp only[wb,kK,t6,hzc,hul,<-bP,aU];congr 1;omega
          . rename_i g1 u1 off1 n1 cap hse;rw[hse] at hs;obtain⟨k,c0,hk,hsv,hn,hcap⟩:=hs;cases hm:Nat.beq m 0 with
            |true=>
             rw[hm] at he;simp only[af,ae,aA] at he;obtain⟨rfl,rfl⟩:=he;have hr:=zer (av hm) rfl hsv hn;refine OpOk.pure hS hr ?_;rw[hse];exact⟨k,c0,hk,hsv,hn,hcap⟩
            |false=>
             rw[hm] at he;simp only[aX] at he;have hm0:0<m:=Fk (AD hm);obtain⟨A,rfl,hA⟩:=hcell hm0;cases hb:(Nat.ble (n1+m) 1000000&&Nat.ble ((n1+m)*te.bytes) 140737488355328) with
             |false=>rw[hb] at he;cases he
             |true=>
              rw[hb] at he;simp only[af] at he;simp only[az] at hb;have b1:=aG hb.1;have b2:=aG hb.2
              -- in place, for sure
              have room:∀{o':EO},il (h g1) u1 (off1+n1*te.size) news=some o'->n1+m<=c0->OpOk X E H U h a w o (.w (.one (.slc g1 u1 off1 (n1+m) cap))) [(g1,o')]:=fun hw hc=>by
               obtain⟨k',arr,e2,h1,h2,h3,h4,h5,h6⟩:=yu hS.sim hw hus;rw[hk] at h1;cases h1;have hr:=FC (P:=X.P) w t o.type e ie ok.und oke.info k.1 off1 n1 c0 arr h2 A m cx us (by rw[hul,oke.size]) hA hus.one hc (by rw[oke.size];exact h3);rw[oke.size] at hr;exact⟨_,_,U,.inl (exec hsv hr),BLe.refl _,h5,h6,k,c0,hk,rfl,hc,hcap⟩
              -- a block of its own
              have grow:∀(olds:List X3),olds.length=n1*te.size->(∀j v,olds[j]?=some v->w.cell? ((⟨k.1,off1,none⟩:Addr).add j)=some v)->c0<n1+m->∃C,n1+m<=C/\(olds.toArray++us.toArray++Builtin.zeroCells ze.cells (C-(n1+m))).size=C*te.size/\
               (execOp a.eval o).run X.P w=.ok (.value (.slice (some ⟨w.heap.size,0,none⟩) (n1+m) C)) (w.drew.alloc (.cells (olds.toArray++us.toArray++Builtin.zeroCells ze.cells (C-(n1+m))) e)):=fun olds hol holds hc=>by
               have hr:=run_append_grow (P:=X.P) w t o.type e ie ze ok.und oke.info oke.zero ⟨k.1,off1,none⟩ n1 c0 olds (by rw[hol,oke.size]) holds A m cx us (by rw[hul,oke.size]) hA hc (by omega) (by rw[oke.bytes];exact growslice_fits (by omega) b2);generalize hcap:grownCap w (n1+m) c0 e=C at hr;have hge:n1+m<=C:=by rw[<-hcap];exact wa _ _ _ _
               refine⟨C,hge,?_,exec hsv hr⟩;simp only[wb,kK,t6,hzc,hul,hol,<-bP];congr 1;omega
              have hS2:ESt X E nt H U tm h a w.drew:=⟨hS.sim.sm rfl rfl rfl rfl,hS.slot,hS.size⟩;split at he
              . -- a known capacity
                rename_i c;have hcc:c0=c:=hcap;subst hcc;cases hc:Nat.ble (n1+m) c0 with
                |true=>
                 rw[hc] at he;simp only[af] at he;split at he
                 . rename_i o' hw;rw[bd] at he;simp only[ae,aA] at he;obtain⟨rfl,rfl⟩:=he;exact room hw (aG hc)
                 . cases he
                |false=>
                 rw[hc] at he;simp only[aX] at he;have hc':c0<n1+m:=by
                  rcases fx c0 (n1+m) with h1|h1
                  . exact h1
                  . rw[fM h1] at hc;cases hc
                 split at he
                 . rename_i olds hrd;obtain⟨k',arr,e2,h1,h2,h3,h4,h5,h6⟩:=yB hS.sim hrd;rw[hk] at h1;cases h1;have hol:((arr.toList.drop off1).take (n1*te.size)).length=n1*te.size:=by rw[h4.length,h6]
                   obtain⟨C,hC,hCs,hr⟩:=grow _ hol (fun j v hj=>by
                    rw[eE,pv w _ _ arr e2 (0,0) h2];rw[cX] at hj;split at hj
                    . simpa using hj
                    . simp at hj) hc'
                   have hall:=h4.append hus;obtain⟨U',c1,c2,c3,c4,rfl⟩:=se hS2 he (arr:=((arr.toList.drop off1).take (n1*te.size)).toArray++us.toArray++Builtin.zeroCells ze.cells (C-(n1+m))) (by
                    rw[pz,pz];simp only;rw[<-hall.length,jm (ak _),dM];exact hall) (by rw[<-hall.length];simp)
                   exact⟨_,_,U',.inl hr,c1,c3,fun D hD=>c4 D hD,⟨_,C,c2,rfl,hC,by show 0+C*te.size=_;rw[hCs];try omega⟩⟩
                 . cases he
              . -- to the block's end
                rename_i sz;have hcap0:off1+c0*sz=k.2:=hcap;split at he
                . rename_i e1 cs vs cnt hg;cases hb3:(Nat.beq sz te.size&&Nat.beq e1 e&&Nat.beq off1 0) with
                  |false=>rw[hb3] at he;cases he
                  |true=>
                   rw[hb3] at he;simp only[af] at he;simp only[az] at hb3;have q1:=av hb3.1.1;have q2:=av hb3.1.2;have q3:=av hb3.2;subst q1 q2 q3;simp only[aU] at hcap0;split at he
                   . rename_i p hv;have hO:=hS.sim.obj g1 _ hg;obtain⟨hcnt,k',arr,d1,d2,d3,d4,d5,d6,d7,d8⟩:=hO.2 u1 p (oi hv);rw[hk] at d1;cases d1;have d3:H k.1=none:=hO.1 rfl u1 k hk;cases hc1:Nat.ble ((n1+m)*te.size) p with
                     |true=>
                      rw[hc1] at he;simp only[af] at he;split at he
                      . rename_i o' hw;rw[bd] at he;simp only[ae,aA] at he;obtain⟨rfl,rfl⟩:=he;have hle:=aG hc1;exact room hw (Nat.le_of_mul_le_mul_right (by omega) hp')
                      . cases he
                     |false=>
                      rw[hc1] at he;simp only[aX] at he;cases hc2:Nat.ble (n1*te.size) p with
                      |false=>rw[hc2] at he;cases he
                      |true=>
                       rw[hc2] at he;simp only[af,cZ,bd,ae,aA] at he;obtain⟨rfl,rfl⟩:=he;have hle:=aG hc2;have hfresh:U g1 cnt=none:=by
                        cases hx:U g1 cnt with
                        |none=>rfl
                        |some kk=>
                         obtain⟨_,_,o2,ho2,hlt⟩:=hS.sim.domN hg (by simp) cnt kk hx;rw[hg] at ho2;cases ho2;exact absurd hlt (Nat.lt_irrefl _)
                       have hold:CRL X.Z H U (arr.toList.take (n1*te.size)) (cs.take (n1*te.size)):=by
                        have:=d8.take (n1*te.size);rwa[ce,ce,cB hle] at this
                       have hall:=hold.append hus;have hcl:(cs.take (n1*te.size)++news).length=(n1+m)*te.size:=by
                        rw[bF,cy,cB (by omega),hnl,bP]
                       -- the versions that stay
                       have stay:∀{w':my} {U':Bm},BLe U U'->(∀u kk,U g1 u=some kk->kk.1≠k.1->w'.heap[kk.1]?=w.heap[kk.1]?)->(∃arr',w'.heap[k.1]?=some (.cells arr' e1 (0,0))/\arr'.size=arr.size/\arr'.toList.take (n1*te.size)=arr.toList.take (n1*te.size))->
                        ∀v q,(v,q)∈nw (vs.map fun p=>(p.1,Nat.min p.2 (n1*te.size)))->v<cnt+1/\∃kk arr',U' g1 v=some kk/\E.own kk.1/\(if false then H kk.1=some arr' else H kk.1=none)/\w'.heap[kk.1]?=some (.cells arr' e1 (0,0))/\arr'.size=kk.2/\q<=(cs.take (n1*te.size)++news).length/\q<=arr'.size/\CRL X.Z H U' (arr'.toList.take q) ((cs.take (n1*te.size)++news).take q):=fun{w' U'} hB hoth ⟨arr',x1,x2,x3⟩ v q hvq=>by
                        obtain⟨pp,hpp,epp⟩:=List.mem_map.1 (Qi hvq);obtain⟨v',q'⟩:=pp;simp only[aA] at epp;obtain⟨rfl,eq⟩:=epp;have eq':q=min q' (n1*te.size):=eq.symm;obtain⟨c1,kk,arr2,f1,f2,f3,f4,f5,f6,f7,f8⟩:=hO.2 v' q' hpp;have hq1:q<=q':=by omega
                        have hq2:q<=n1*te.size:=by omega
                        have htk:(cs.take (n1*te.size)++news).take q=cs.take q:=by
                         rw[jm (by rw[cy];omega),ce,cB hq2]
                        have f8':CRL X.Z H U' (arr2.toList.take q) (cs.take q):=by
                         have:=f8.take q;rw[ce,ce,cB hq1] at this;exact this.mono (HLe.refl _) hB
                        have f3':H kk.1=none:=hO.1 rfl v' kk f1;refine⟨by omega,kk,?_⟩;by_cases hkk:kk.1=k.1
                        . rw[hkk,d4] at f4;cases f4;refine⟨arr',hB _ _ _ f1,f2,by simpa using f3',by rw[hkk];exact x1,by rw[x2];exact f5,by rw[hcl,bP];omega,by rw[x2];omega,?_⟩;rw[htk];have:arr'.toList.take q=arr.toList.take q:=by
                           rw[<-cB hq2,<-ce,x3,ce]
                          rw[this];exact f8'
                        . exact⟨arr2,hB _ _ _ f1,f2,by simpa using f3',(hoth v' kk f1 hkk).trans f4,f5,by rw[hcl,bP];omega,by omega,by rw[htk];exact f8'⟩
                       by_cases hroom:n1+m<=c0
                       . -- in place
                         have hfit:0+n1*te.size+us.length<=arr.size:=by
                          rw[hul,d5,<-hcap0,aU,<-bP];exact bU _ hroom
                         have hr:=FC (P:=X.P) w t o.type e1 ie ok.und oke.info k.1 0 n1 c0 arr d4 A m cx us (by rw[hul,oke.size]) hA hus.one hroom (by rw[oke.size];exact hfit);rw[oke.size,aU] at hr;have hrow:=tM w k.1 arr (splice arr.toList (n1*te.size) us).toArray e1 (0,0) d4;have hssz:(splice arr.toList (n1*te.size) us).toArray.size=arr.size:=by
                          simp only[kK];rw[iQ (by simp;omega),eY]
                         have hstk:(splice arr.toList (n1*te.size) us).toArray.toList.take (n1*te.size)=arr.toList.take (n1*te.size):=A5 (ak _) (by simp;omega);refine⟨_,_,lw U g1 cnt k,.inl (exec hsv hr),jV hfresh,hS.sim.turn (by rw[hg];simp) rfl rfl rfl (by simp) (fun k' _ hk'=>mU _ _ _ _ (fun e'=>hk' u1 k hk e'.symm)) (fun u' s' hs'=>hO.1 rfl u' s' hs') (jV hfresh) (fun g' u' hne=>jT _ _ _ _ (fun e'=>hne e'.1)) (fun u' k' hk'=>?_) ⟨fun _ u' k' hk'=>?_,fun v q hvq=>?_⟩,MarkSame.row d4,k,c0,fg _ _ _ _,rfl,hroom,by show 0+c0*te.size=k.2;omega⟩
                         . by_cases eu:u'=cnt
                           . subst eu;rw[fg] at hk';cases hk';obtain⟨hlt,hown,_⟩:=hS.sim.domN hg (by simp) u1 k hk;exact⟨tY _,by simpa using hlt,hown,.inl ⟨u1,k,hk,rfl⟩⟩
                           . rw[jT _ _ _ _ (fun e'=>eu e'.2)] at hk';obtain⟨hlt,hown,o2,ho2,hc2⟩:=hS.sim.domN hg (by simp) u' k' hk';rw[hg] at ho2;cases ho2;exact⟨Nat.lt_succ_of_lt hc2,by simpa using hlt,hown,.inl ⟨u',k',hk',rfl⟩⟩
                         . by_cases eu:u'=cnt
                           . subst eu;rw[fg] at hk';cases hk';exact d3
                           . rw[jT _ _ _ _ (fun e'=>eu e'.2)] at hk';exact hO.1 rfl u' k' hk'
                         . rcases List.mem_cons.1 hvq with e'|hvq
                           . simp only[aA] at e';obtain⟨rfl,rfl⟩:=e';refine⟨tY _,k,_,fg _ _ _ _,d2,by simpa using d3,hrow,by rw[hssz];exact d5,by rw[hcl];exact ak _,by rw[hssz,bP];omega,?_⟩;rw[aC (kM hcl)];have:(splice arr.toList (n1*te.size) us).toArray.toList.take ((n1+m)*te.size)=arr.toList.take (n1*te.size)++us:=by
                              show(splice arr.toList (n1*te.size) us).take ((n1+m)*te.size)=_;unfold Fl.splice;rw[jm (by simp only[bF,cy,eY,hul,bP];omega),aC (by simp only[bF,cy,eY,hul,bP];omega)]
                             rw[this];exact hall.mono (HLe.refl _) (jV hfresh)
                           . exact stay (jV hfresh) (fun u kk _ hne=>mU _ _ _ _ hne) ⟨_,hrow,hssz,hstk⟩ v q hvq
                       . -- it grows
                         have hold':(arr.toList.take (n1*te.size)).length=n1*te.size:=by rw[cy,eY];omega
                         obtain⟨C,hC,hCs,hr⟩:=grow (arr.toList.take (n1*te.size)) hold' (fun j v hj=>by
                          rw[eE,aU,pv w _ _ arr e1 (0,0) d4];rw[cX] at hj;split at hj
                          . simpa using hj
                          . simp at hj) (by omega)
                         generalize hbig:(arr.toList.take (n1*te.size)).toArray++us.toArray++Builtin.zeroCells ze.cells (C-(n1+m))=big at hr hCs;have hbtk:big.toList.take ((n1+m)*te.size)=arr.toList.take (n1*te.size)++us:=by
                          rw[<-hbig,pz,pz];simp only;rw[jm (by rw[bF,hold',hul,bP];exact ak _),aC (by rw[bF,hold',hul,bP];exact ak _)]
                         have hbe0:=(lK w.drew.heap.size w.drew).alloc (ak _) (.cells big e1);have hbe:Below w.heap.size w (w.drew.alloc (.cells big e1)):=⟨hbe0.os,hbe0.tape,hbe0.output,hbe0.size,fun k hk=>hbe0.block k hk⟩;have hnewb:w.heap.size<(w.drew.alloc (.cells big e1)).heap.size:=(Array.getElem?_eq_some_iff.1 (mS w.drew (.cells big e1))).1;have hNone:H w.heap.size=none:=by
                          cases hx:H w.heap.size with
                          |none=>rfl
                          |some arr'=>have:=hS.sim.has.lt hx;omega
                         refine⟨_,_,lw U g1 cnt (w.heap.size,C*te.size),.inl hr,jV hfresh,hS.sim.turn (by rw[hg];simp) hbe.os hbe.tape hbe.output hbe.size (fun k' hlt _=>hbe.block k' hlt) (fun u' s' hs'=>hO.1 rfl u' s' hs') (jV hfresh) (fun g' u' hne=>jT _ _ _ _ (fun e'=>hne e'.1)) (fun u' k' hk'=>?_) ⟨fun _ u' k' hk'=>?_,fun v q hvq=>?_⟩,MarkSame.below hbe,_,C,fg _ _ _ _,rfl,hC,by show 0+C*te.size=_;omega⟩
                         . by_cases eu:u'=cnt
                           . subst eu;rw[fg] at hk';cases hk';exact⟨tY _,hnewb,hS.sim.lo _ (ak _),.inr (ak _)⟩
                           . rw[jT _ _ _ _ (fun e'=>eu e'.2)] at hk';obtain⟨hlt,hown,o2,ho2,hc2⟩:=hS.sim.domN hg (by simp) u' k' hk';rw[hg] at ho2;cases ho2;exact⟨Nat.lt_succ_of_lt hc2,iN hlt hnewb,hown,.inl ⟨u',k',hk',rfl⟩⟩
                         . by_cases eu:u'=cnt
                           . subst eu;rw[fg] at hk';cases hk';exact hNone
                           . rw[jT _ _ _ _ (fun e'=>eu e'.2)] at hk';exact hO.1 rfl u' k' hk'
                         . rcases List.mem_cons.1 hvq with e'|hvq
                           . simp only[aA] at e';obtain⟨rfl,rfl⟩:=e';refine⟨tY _,_,big,fg _ _ _ _,hS.sim.lo _ (ak _),by simpa using hNone,mS w.drew _,hCs,by rw[hcl];exact ak _,by rw[hCs];exact bU _ hC,?_⟩;rw[aC (kM hcl),hbtk];exact hall.mono (HLe.refl _) (jV hfresh)
                           . exact stay (jV hfresh) (fun u kk hkk _=>hbe.block _ (hS.sim.domN hg (by simp) u kk hkk).1) ⟨arr,(hbe.block _ (hS.sim.domN hg (by simp) u1 k hk).1).trans d4,rfl,rfl⟩ v q hvq
                   . cases he
                . cases he
          . cases he
        . cases he
     . cases he
   . cases he
 . cases he
end
section
variable {X:EX}{E:EEnv}{nt:Nat}{H H':ah}{U U':Bm}{tm:Nat->ES}{h h':Hp}{a:Act}{w w':my}{o:X4}
theorem O7{P:Tz}(w:my)(sz:Nat){ad:Option Addr}{m c:Nat}{us:List X3}(hul:us.length=m*sz)(hcell:0<m->∃a,ad=some a/\∀j u,us[j]?=some u->w.cell? (a.add j)=some u){k:Nat}(hk:k<=m) :
 (Builtin.firstCells sz k (.slice ad m c)).run P w=.ok (us.take (k*sz)).toArray w:=by
 by_cases h0:k=0
 . subst h0;cases ad with
   |none=>simp[Builtin.firstCells]
   |some a=>
    have:=Ny (P:=P) w sz 0 a m c [] (by simp) (by simp);simpa using this
 . obtain⟨a,rfl,ha⟩:=hcell (by omega);have hl:(us.take (k*sz)).length=k*sz:=by
    rw[cy,hul,cB (bU _ hk)]
   exact Ny (P:=P) w sz k a m c (us.take (k*sz)) hl (fun j u hj=>ha j u (by
    rw[cX] at hj;split at hj
    . exact hj
    . cases hj))
theorem ok_copy(hS:ESt X E nt H U tm h a w){d x:X0}{t t':me}(ho:o.op=.call { callee:=.builtin .copy,args := #[d,x],argTypes := #[t,t'] }){r:ES}{ws:Wr}(he:ny X.T h t (aj tm d) (aj tm x)=some (r,ws)):OpOk X E H U h a w o r ws:=by
 have hd:=bp hS d;have hx:=bp hS x;unfold ny at he;split at he
 . rename_i ty ht;obtain⟨i,dd,z,ok⟩:=aO (X.hT t ty ht);have hd':=ok.sh;split at he
   . rename_i e hsh;rw[hsh] at hd';obtain rfl:=ff hd';split at he
     . rename_i te hte;obtain⟨ie,de,ze,oke⟩:=aO (X.hT e te hte);split at he
       . rename_i news m g1 u1 off1 n1 cap hsrc hde;rw[hde] at hd;obtain⟨k,c0,hk,hdv,hn,_⟩:=hd;obtain⟨ad,cx,us,hxv,hus,hul,hcell⟩:=Ji hS.sim hx hsrc;rw[bd] at he;split at he
         . rename_i o' hw;simp only[ae,aA] at he;obtain⟨rfl,rfl⟩:=he;have hcut:=hus.take (Nat.min m n1*te.size);obtain⟨k',arr,e2,h1,h2,h3,h4,h5,h6⟩:=yu hS.sim hw hcut;rw[hk] at h1;cases h1;have hf:=O7 (P:=X.P) w te.size (c:=cx) hul hcell (Nat.min_le_left m n1);have hst:=ET X.P k.1 off1 e2 (us.take (Nat.min m n1*te.size)) 0 arr w h2 (by simpa using h3) hcut.one;simp only[fA] at hst;refine⟨_,_,U,.inl ?_,BLe.refl _,h5,h6,rfl,VR.int _ _⟩;have hr:(Builtin.copy_ #[t,t'] o.type #[.slice (some ⟨k.1,off1,none⟩) n1 c0,.slice ad m cx]).run X.P w=.ok (goInt (Nat.min m n1)) (w.setRow k.1 (splice arr.toList off1 (us.take (Nat.min m n1*te.size))).toArray):=by
            simp only[Builtin.copy_,rz,nX,M9,au,ok.run_und,ar,aw,Builtin.lenOf,oke.run_size,hf];simp only[hst,ar,Fl.splice]
           simp only[execOp,ho,resolve,invoke,builtin,au,aw,ar,jo,aS,eC,hdv,hxv,hr];rfl
         . cases he
       . cases he
     . cases he
   . cases he
 . cases he
theorem Rf(hS:ESt X E nt H U tm h a w){d:X0}{t:me}(ho:o.op=.call { callee:=.builtin .clear,args := #[d],argTypes := #[t] }){r:ES}{ws:Wr}(he:k8 X.T X.ze h t (aj tm d)=some (r,ws)):OpOk X E H U h a w o r ws:=by
 have hd:=bp hS d;unfold k8 at he;split at he
 . rename_i ty ht;obtain⟨i,dd,z,ok⟩:=aO (X.hT t ty ht);have hd':=ok.sh;split at he
   . rename_i e hsh;rw[hsh] at hd';obtain rfl:=ff hd';split at he
     . rename_i te zs hte hz;obtain⟨ie,de,zee,oke⟩:=aO (X.hT e te hte);obtain⟨ze,hz1,hz2,nQ,i',hz4,hz5⟩:=EX.run_zero hz;cases hb:Nat.beq zs.length te.size with
       |false=>rw[hb] at he;cases he
       |true=>
        rw[hb] at he;simp only[af] at he;have hzl:=av hb;have hzc:ze.cells.size=te.size:=by omega
        have none0:∀{ad:Option Addr} {c:Nat},a.eval d=.slice ad 0 c->OpOk X E H U h a w o (.tup []) []:=fun{ad c} hdv=>by
         refine OpOk.pure hS (v:=.tuple #[]) ?_ ⟨[],rfl,ab⟩;have hr:(Builtin.clear_ #[t] o.type #[.slice ad 0 c]).run X.P w=.ok (.tuple #[]) w:=by
          cases ad<;>simp only[Builtin.clear_,rz,nX,au,ok.run_und,ar,aw]
         simp only[execOp,ho,resolve,invoke,builtin,au,aw,ar,jo,aS,eC,hdv,hr]
        split at he
        . rename_i g1 u1 off1 n1 cap hde;rw[hde] at hd;obtain⟨k,c0,hk,hdv,hn,_⟩:=hd;split at he
          . rename_i o' hw;simp only[ae,aA] at he;obtain⟨rfl,rfl⟩:=he;obtain⟨k',arr,e2,h1,h2,h3,h4,h5,h6⟩:=yu hS.sim hw (uL (hz2 H U) n1);rw[hk] at h1;cases h1;have hst:=ET X.P k.1 off1 e2 (aR (List.replicate n1 ze)) 0 arr w h2 (by simpa using h3) (uL (hz2 H U) n1).one;simp only[fA] at hst;have hzero:(Builtin.zeroCells ze.cells n1).toList=aR (List.replicate n1 ze):=by
             have:0<te.size\/te.size=0:=by omega
             rcases this with hp|hp
             . have:=uv hzc hp n1;rw[<-hzc] at this;exact this
             . have e1:ze.cells = #[]:=by apply Array.eq_empty_of_size_eq_zero;omega
               have e3:∀n,aR (List.replicate n ze)=[]:=by
                intro n;induction n with
                |zero=>rfl
                |succ n ih=>rw[rp,nf,ih,e1];rfl
               rw[e3,e1];simp[Builtin.zeroCells]
            refine⟨.tuple #[],_,U,.inl ?_,BLe.refl _,h5,h6,[],rfl,ab⟩;have hr:(Builtin.clear_ #[t] o.type #[.slice (some ⟨k.1,off1,none⟩) n1 c0]).run X.P w=.ok (.tuple #[]) (w.setRow k.1 (splice arr.toList off1 (aR (List.replicate n1 ze))).toArray):=by
             cases n1 with
             |zero=>
              simp only[Builtin.clear_,rz,nX,au,ok.run_und,ar,aw];have e1:splice arr.toList off1 (aR (List.replicate 0 ze))=arr.toList:=by simp[Fl.splice,aR]
              rw[e1,Array.toArray_toList,setRow_self w _ arr e2 (0,0) h2]
             |succ n1=>
              simp only[Builtin.clear_,rz,nX,au,ok.run_und,ar,aw,hz1,hzero,hst,Fl.splice]
            simp only[execOp,ho,resolve,invoke,builtin,au,aw,ar,jo,aS,eC,hdv,hr]
          . cases he
        . rename_i hde;rw[hde] at hd;simp only[ae,aA] at he;obtain⟨rfl,rfl⟩:=he;rcases VR.asSl hd.2 with⟨_,ad,cap,hh⟩|⟨b,off,cap,sz,arr,vs,hh,_⟩
          . exact none0 hh
          . exact none0 hh
        . rename_i hde;rw[hde] at hd;simp only[ae,aA] at he;obtain⟨rfl,rfl⟩:=he;exact none0 (qy hd.2)
        . cases he
     . cases he
   . cases he
 . cases he
theorem Ph(hS:ESt X E nt H U tm h a w){b:Builtin}{args:Array X0}{ts:Array me}(ho:o.op=.call { callee:=.builtin b,args:=args,argTypes:=ts }){g:Nat}{r:ES}{ws:Wr}(he:fN X.T X.ze h g b ts.toList (args.toList.map (aj tm))=some (r,ws)):OpOk X E H U h a w o r ws:=by
 have m1:∀{x:ES} {l:List X0},l.map (aj tm)=[x]->∃y,l=[y]/\aj tm y=x:=fun{x l} hl=>by
  cases l with
  |nil=>cases hl
  |cons y l=>cases l with
   |nil=>simp only[aS,eC,pE,and_true] at hl;exact⟨y,rfl,hl⟩
   |cons=>simp at hl
 have m2:∀{x x':ES} {l:List X0},l.map (aj tm)=[x,x']->∃y y',l=[y,y']/\aj tm y=x/\aj tm y'=x':=fun{x x' l} hl=>by
  cases l with
  |nil=>cases hl
  |cons y l=>cases l with
   |nil=>simp at hl
   |cons y' l=>cases l with
    |nil=>simp only[aS,eC,pE,and_true] at hl;exact⟨y,y',rfl,hl⟩
    |cons=>simp at hl
 have arr:∀{α:Type} {l:Array α} {l':List α},l.toList=l'->l=l'.toArray:=fun hl=>by rw[<-hl]
 unfold fN at he;split at he
 . rename_i x t ha hts;obtain⟨y,hy,rfl⟩:=m1 ha;rw[arr hy,arr hts] at ho;exact Vu hS ho he
 . rename_i x x' ha;obtain⟨y,y',hy,rfl,rfl⟩:=m2 ha;rw[arr hy] at ho;exact LC (mx:=true) hS ho he
 . rename_i x x' ha;obtain⟨y,y',hy,rfl,rfl⟩:=m2 ha;rw[arr hy] at ho;exact LC (mx:=false) hS ho he
 . rename_i x x' t t' ha hts;obtain⟨y,y',hy,rfl,rfl⟩:=m2 ha;rw[arr hy,arr hts] at ho;cases htt:Nat.beq t t' with
   |false=>rw[htt] at he;cases he
   |true=>
    rw[htt] at he;have:=av htt;subst this;exact Qc hS ho he
 . rename_i x x' t t' ha hts;obtain⟨y,y',hy,rfl,rfl⟩:=m2 ha;rw[arr hy,arr hts] at ho;exact ok_copy hS ho he
 . rename_i x t ha hts;obtain⟨y,hy,rfl⟩:=m1 ha;rw[arr hy,arr hts] at ho;exact Rf hS ho he
 . cases he
end
section
variable {X:EX}{E:EEnv}{nt:Nat}{H H':ah}{U U':Bm}{tm:Nat->ES}{h h':Hp}{a:Act}{w w':my}{o:X4}
theorem Gw{Z:QS}:∀{cs:List EV} {l:List Int} {vs:List X3},l7 cs=some l->CRL Z H U vs cs->vs=l.map (Value.int .i64)
 | [],l,vs,h,hv=>by
  simp only[l7,ae] at h;subst h;cases vs with
  |nil=>rfl
  |cons=>exact hv.elim
 |c::cs,l,vs,h,hv=>by
  unfold l7 at h;split at h
  . rename_i hh;cases hh
  . rename_i n cs' hh;cases hh;cases hk:l7 cs with
    |none=>rw[hk] at h;cases h
    |some l'=>
     rw[hk] at h;simp only[fa,ae] at h;subst h;cases vs with
     |nil=>exact hv.elim
     |cons v vs=>
      have h1:v=.int .i64 n:=VR.asInt hv.1.2;rw[h1,Gw hk hv.2];rfl
  . cases h
theorem xZ{Z:QS}{v:X3}{x:EW}{k:KV}(hk:ic x=some k)(hv:WR Z H U v x):KVR v k:=by
 unfold ic at hk;split at hk
 . simp only[ae] at hk;subst hk;obtain⟨bs,rfl,rfl⟩:=ju hv.2;exact .str bs
 . rename_i cs;cases hi:l7 cs with
   |none=>rw[hi] at hk;cases hk
   |some l=>
    rw[hi] at hk;simp only[fa,ae] at hk;subst hk;obtain⟨vs,rfl,hvs⟩:=hv;rw[Gw hi hvs];exact .ints l
 . cases hk
theorem KVR.fn{v:X3}{k k':KV}(h1:KVR v k)(h2:KVR v k'):k=k':=by
 cases h1 with
 |str s=>cases h2;rfl
 |ints l=>
  generalize he:Value.agg (l.map (Value.int .i64)).toArray=v at h2;cases h2 with
  |str s=>cases he
  |ints l'=>
   simp only[Value.agg.injEq,List.toArray_inj] at he;have:∀(a b:List Int),a.map (Value.int .i64)=b.map (Value.int .i64)->a=b:=by
    intro a;induction a with
    |nil=>intro b hb;cases b with
     |nil=>rfl
     |cons=>simp at hb
    |cons x a ih=>intro b hb;cases b with
     |nil=>simp at hb
     |cons y b=>
      simp only[aS,pE,Value.int.injEq,true_and] at hb;rw[hb.1,ih b hb.2]
   have he':l.map (Value.int .i64)=l'.map (Value.int .i64):=by simpa using aJ Array.toList he
   rw[this l l' he']
theorem KVR.inj{v v':X3}{k:KV}(h1:KVR v k)(h2:KVR v' k):v=v':=by
 cases h1 with
 |str s=>
  generalize he:KV.str s.data.toList=k at h2;cases h2 with
  |str s'=>
   simp only[KV.str.injEq] at he;have:s=s':=by
    cases s;cases s';simp only[ByteArray.mk.injEq];exact eO he
   rw[this]
  |ints=>cases he
 |ints l=>cases h2;rfl
theorem MRL.get{Z:QS}:∀{vs:List MapEntry} {xs:List (EW×EW×Nat)},MRL Z H U vs xs->∀(i:Nat) (e:MapEntry),vs[i]?=some e->∃x,xs[i]?=some x/\MR Z H U e x
 | [],[],_,i,e,h=>by simp at h
 |v::_,x::_,⟨h1,_⟩,0,e,h=>by simp at h;subst h;exact⟨x,rfl,h1⟩
 |_::_,_::_,⟨_,h2⟩,i+1,e,h=>by simp at h;simpa using MRL.get h2 i e h
 | [],_::_,h,_,_,_=>h.elim
 |_::_,[],h,_,_,_=>h.elim
theorem MRL.length{Z:QS}:∀{vs:List MapEntry} {xs:List (EW×EW×Nat)},MRL Z H U vs xs->vs.length=xs.length
 | [],[],_=>rfl
 |_::_,_::_,⟨_,h2⟩=>by simp[MRL.length h2]
 | [],_::_,h=>h.elim
 |_::_,[],h=>h.elim
theorem MRL.append{Z:QS}:∀{vs:List MapEntry} {xs:List (EW×EW×Nat)} {us:List MapEntry} {ys:List (EW×EW×Nat)},MRL Z H U vs xs->MRL Z H U us ys->MRL Z H U (vs++us) (xs++ys)
 | [],[],_,_,_,h=>by simpa using h
 |_::_,_::_,_,_,⟨h1,h2⟩,h=>by simpa using(show MRL Z H U (_::_) (_::_) from⟨h1,MRL.append h2 h⟩)
 | [],_::_,_,_,h,_=>h.elim
 |_::_,[],_,_,h,_=>h.elim
theorem MRL.set{Z:QS}:∀{vs:List MapEntry} {xs:List (EW×EW×Nat)} (i:Nat) {e:MapEntry} {x:EW×EW×Nat},MRL Z H U vs xs->MR Z H U e x->MRL Z H U (vs.set i e) (xs.set i x)
 | [],[],_,_,_,_,_=>by simp[MRL]
 |_::_,_::_,0,_,_,⟨_,h2⟩,h=>⟨h,h2⟩
 |_::_,_::_,i+1,_,_,⟨h1,h2⟩,h=>⟨h1,MRL.set i h2 h⟩
 | [],_::_,_,_,_,h,_=>h.elim
 |_::_,[],_,_,_,h,_=>h.elim
theorem Ha{ok:KV->Bool}{k:KV}:∀{es:List (EW×EW×Nat)} {i:Nat} {l:List (Nat×EW×Nat)},fq ok k es i=some l->
 (∀x∈es,∃k',ic x.1=some k'/\ok k'=true)/\(∀j x,es[j]?=some x->ic x.1=some k->(i+j,x.2.1,x.2.2)∈l)/\(∀p∈l,∃j x,es[j]?=some x/\ic x.1=some k/\p=(i+j,x.2.1,x.2.2))
 | [],i,l,h=>by
  simp only[fq,ae] at h;subst h;exact⟨by simp,by simp,by simp⟩
 | (x,y,b)::es,i,l,h=>by
   unfold fq at h;split at h
   . rename_i k' r h1 h2;obtain⟨i1,i2,i3⟩:=Ha h2;cases hok:ok k' with
     |false=>rw[hok] at h;cases h
     |true=>
      rw[hok] at h;simp only[af] at h;have sub:∀p∈r,p∈l/\True:=fun p hp=>by
       cases hd:decide (k'=k) with
       |true=>rw[hd] at h;simp only[af,ae] at h;subst h;exact⟨eB _ hp,ab⟩
       |false=>rw[hd] at h;simp only[aX,ae] at h;subst h;exact⟨hp,ab⟩
      refine⟨fun z hz=>?_,fun j z hj hk=>?_,fun p hp=>?_⟩
      . rcases List.mem_cons.1 hz with rfl|hz
        . exact⟨k',h1,hok⟩
        . exact i1 z hz
      . cases j with
        |zero=>
         simp only[nX,ae] at hj;subst hj;have:k'=k:=by rw[h1] at hk;simpa using hk
         rw[aZ this] at h;simp only[af,ae] at h;subst h;simp
        |succ j=>
         have:=(sub _ (i2 j z (by simpa using hj) hk)).1;rwa[show i+1+j=i+(j+1) by omega] at this
      . have hcase:p=(i,y,b)/\k'=k\/p∈r:=by
         cases hd:decide (k'=k) with
         |true=>
          rw[hd] at h;simp only[af,ae] at h;subst h;rcases List.mem_cons.1 hp with e|e
          . exact .inl ⟨e,mY hd⟩
          . exact .inr e
         |false=>rw[hd] at h;simp only[aX,ae] at h;subst h;exact .inr hp
        rcases hcase with⟨e,e'⟩|e
        . exact⟨0,_,rfl,by rw[h1,e'],e⟩
        . obtain⟨j,z,z1,z2,z3⟩:=i3 p e;exact⟨j+1,z,by simpa using z1,z2,by rw[z3,show i+1+j=i+(j+1) by omega]⟩
   . cases h
theorem ye(hS:ESim X.Z E H U h w){t k e:me}{ok:KV->Bool}(hmk:X.B.mp t=some (k,e,ok)){g:Nat}{es:List (EW×EW×Nat)}{ck:Nat}(hg:h g=some (.map es ck)){kx:EW}{kv:KV}(hk:ic kx=some kv)(hok:ok kv=true){v:X3}(hv:WR X.Z H U v kx)
 {l:List (Nat×EW×Nat)} (hp:fq ok kv es 0=some l) :
 ∃(kk:Nat×Nat) (ents:Array MapEntry),U g 0=some kk/\w.heap[kk.1]?=some (.map ents ck)/\MRL X.Z H U ents.toList es/\(Instr.checkKey ents.isEmpty 10000 k v).run X.P w=.ok () w/\(Instr.checkKey false 10000 k v).run X.P w=.ok () w/\
  (Instr.keyThatStays v v).run X.P w=.ok v w/\
  ((l=[]->(Instr.findKey k v ents.toList).run X.P w=.ok none w)/\∀i y b,l=[(i,y,b)]->∃en,(Instr.findKey k v ents.toList).run X.P w=.ok (some (i,en.val)) w/\ents.toList[i]?=some en/\en.key=v/\WR X.Z H U en.val y/\en.born=b):=by
 obtain⟨hu,K,hfit⟩:=X.hmk t k e ok hmk;obtain⟨kk,ents,h1,h2,h3,h4,h5⟩:=hS.obj g _ hg;obtain⟨p1,p2,p3⟩:=Ha hp;have hkv:=xZ hk hv;obtain⟨lv,hlv⟩:=hfit v kv hkv hok;have hall:∀en∈ents.toList,∃l,keyOf X.P k en.key=some l:=fun en hen=>by
  obtain⟨i,hi,rfl⟩:=List.mem_iff_getElem.1 hen;obtain⟨x,hx,hm⟩:=h5.get i _ (a6 hi);obtain⟨k',hk',hok'⟩:=p1 x (bV hx);exact hfit _ _ (xZ hk' hm.1) hok'
 refine⟨kk,ents,h1,h4,h5,K.check w _ hlv,K.check w _ hlv,K.stays w hlv,?_⟩;have atj:∀(j:Nat) (en:MapEntry),ents.toList[j]?=some en->en.key=v->∃y b,(j,y,b)∈l/\WR X.Z H U en.val y/\en.born=b:=fun j en hj hkey=>by
  obtain⟨x,hx,hm⟩:=h5.get j en hj;obtain⟨k',hk',_⟩:=p1 x (bV hx);have:k'=kv:=by
   have:=xZ hk' hm.1;rw[hkey] at this;exact this.fn hkv
  subst this;have:=p2 j x hx hk';rw[aU] at this;exact⟨_,_,this,hm.2.1,hm.2.2⟩
 rcases K.find w hlv ents.toList hall with⟨f1,f2⟩|⟨j,en,f1,f2,f3⟩
 . refine⟨fun _=>f1,fun i y b hl=>?_⟩;obtain⟨j,x,x1,x2,x3⟩:=p3 (i,y,b) (by rw[hl];simp);have hlt:j<ents.toList.length:=by rw[h5.length];exact(List.getElem?_eq_some_iff.1 x1).1
   obtain⟨x',hx',hm⟩:=h5.get j _ (a6 hlt);rw[x1] at hx';cases hx';exact absurd ((xZ x2 hm.1).inj hkv) (f2 _ (eM hlt))
 . obtain⟨y,b,q1,q2,q3⟩:=atj j en f2 f3;refine⟨fun hl=>(by rw[hl] at q1;cases q1),fun i y' b' hl=>?_⟩;rw[hl] at q1;simp only[fL,aA] at q1;obtain⟨rfl,rfl,rfl⟩:=q1;exact⟨en,f1,f2,f3,q2,q3⟩
theorem Pg(hS:ESt X E nt H U tm h a w){t:me}{res:Option X0}(ho:o.op=.makeMap t res){g:Nat}{r:ES}{ws:Wr}(he:uJ h g (res.map (aj tm))=some (r,ws)):OpOk X E H U h a w o r ws:=by
 unfold uJ at he;split at he
 . rename_i hres hg;have:res=none:=by cases res with|none=>rfl|some _=>cases hres
   subst this;simp only[ae,aA] at he;obtain⟨rfl,rfl⟩:=he;have hbe:Below w.heap.size w (w.alloc (.map #[] 0)):=(lK _ _).alloc (ak _) _;have hnew:H w.heap.size=none:=by
    cases hx:H w.heap.size with
    |none=>rfl
    |some arr'=>have:=hS.sim.has.lt hx;omega
   obtain⟨hb,hs⟩:=hS.sim.alloc hg (b:=.map #[] 0) (s:=0) (o:=.map [] 0) Nat.one_pos ⟨_,#[],fg _ _ _ _,hS.sim.lo _ (ak _),hnew,mS _ _,ab⟩;refine⟨.map (some w.heap.size),_,_,.inl ?_,hb,hs,MarkSame.below hbe,_,fg _ _ _ _,rfl⟩;simp only[execOp,ho,Instr.makeMap,v7,au,mT,aw,ar];rfl
 . cases he
theorem ob{P:Tz}{w:my}{b ck:Nat}{ents:Array MapEntry}(h:w.heap[b]?=some (.map ents ck)):(getObj b).run P w=.ok (.map ents ck) w:=MapKept.run_getObj_map h
theorem P7(hS:ESt X E nt H U tm h a w){t:me}{x ix:X0}{cok:Bool}(ho:o.op=.lookup t x ix cok){r:ES}{ws:Wr}(he:mb X.B.mp X.B.zw h t (aj tm x) (aj tm ix) cok=some (r,ws)):OpOk X E H U h a w o r ws:=by
 have hx:=bp hS x;have hi:=bp hS ix;unfold mb at he;split at he
 . rename_i k e ok g kx hmk hxe hie;rw[hxe] at hx;rw[hie] at hi;have hi:WR X.Z H U (a.eval ix) kx:=hi;obtain⟨kk,hkk,hxv⟩:=hx;split at he
   . rename_i es ck kv hg hkx;cases hok:ok kv with
     |false=>rw[hok] at he;cases he
     |true=>
      rw[hok] at he;simp only[af] at he;have hu:=(X.hmk t k e ok hmk).1;split at he
      . rename_i z hpos hz;simp only[ae,aA] at he;obtain⟨rfl,rfl⟩:=he;obtain⟨kk',ents,q1,q2,q3,q4,_,_,q5,_⟩:=ye hS.sim hmk hg hkx hok hi hpos;rw[hkk] at q1;cases q1;obtain⟨iz,zv,z1,z2,z3⟩:=X.hzw e z hz;have hzr:(zeroValue e).run X.P w=.ok zv w:=by simp[zeroValue,typeInfo,z1,z2]
        cases cok with
        |true=>
         refine OpOk.pure hS (v:=.tuple #[zv,.bool false]) ?_ ⟨[zv,.bool false],rfl,z3 H U,⟨rfl,VR.bool _⟩,ab⟩;simp only[execOp,ho,hxv,Instr.lookup,au,cW hu w,ar,ob q2,aw,q4,q5 rfl,hzr,bD]
        |false=>
         refine OpOk.pure hS (v:=zv) ?_ (z3 H U);simp only[execOp,ho,hxv,Instr.lookup,au,cW hu w,ar,ob q2,aw,q4,q5 rfl,hzr,dx,bG]
      . rename_i i y b hpos hz;simp only[ae,aA] at he;obtain⟨rfl,rfl⟩:=he;obtain⟨kk',ents,q1,q2,q3,q4,_,_,_,q5⟩:=ye hS.sim hmk hg hkx hok hi hpos;rw[hkk] at q1;cases q1;obtain⟨en,f1,f2,f3,f4,f5⟩:=q5 _ _ _ rfl;cases cok with
        |true=>
         refine OpOk.pure hS (v:=.tuple #[en.val,.bool true]) ?_ ⟨[en.val,.bool true],rfl,f4,⟨rfl,VR.bool _⟩,ab⟩;simp only[execOp,ho,hxv,Instr.lookup,au,cW hu w,ar,ob q2,aw,q4,f1,bD]
        |false=>
         refine OpOk.pure hS (v:=en.val) ?_ f4;simp only[execOp,ho,hxv,Instr.lookup,au,cW hu w,ar,ob q2,aw,q4,f1,dx,bG]
      . cases he
   . cases he
 . cases he
theorem ESim.mapTurn(hS:ESim X.Z E H U h w){g:Nat}{es es':List (EW×EW×Nat)}{ck ck':Nat}(hg:h g=some (.map es ck)){kk:Nat×Nat}{ents ents':Array MapEntry}(hk:U g 0=some kk)(hw:w.heap[kk.1]?=some (.map ents ck))(hm:MRL X.Z H U ents'.toList es') :
 ESim X.Z E H U (aB h g (some (.map es' ck'))) (w.putObj kk.1 (.map ents' ck'))/\MarkSame w (w.putObj kk.1 (.map ents' ck')):=by
 obtain⟨kk',ents0,h1,h2,h3,h4,h5⟩:=hS.obj g _ hg;rw[hk] at h1;cases h1;have hlt:=(Array.getElem?_eq_some_iff.1 hw).1;refine⟨hS.turn (by rw[hg];simp) rfl rfl rfl (by simp) (fun k' _ hk'=>cH (fun e=>hk' 0 kk hk e.symm)) (fun u s hs=>?_) (BLe.refl _) (fun _ _ _=>rfl) (fun u k' hk'=>?_) ⟨kk,ents',hk,h2,h3,wn hlt,hm⟩,fun D hD=>cH (fun e=>?_)⟩
 . obtain⟨_,_,o2,ho2,hc⟩:=hS.domN hg (by simp) u s hs;rw[hg] at ho2;cases ho2;have:u=0:=by simp only[EO.cnt] at hc;omega
   subst this;rw[hk] at hs;cases hs;exact h3
 . obtain⟨a,b,o2,ho2,hc⟩:=hS.domN hg (by simp) u k' hk';rw[hg] at ho2;cases ho2;exact⟨hc,by simpa using a,b,.inl ⟨u,k',hk',rfl⟩⟩
 . subst e;rw[hw] at hD;cases hD
theorem FU(hS:ESt X E nt H U tm h a w){t:me}{x ix y:X0}(ho:o.op=.mapUpdate t x ix y){r:ES}{ws:Wr}(he:jr X.B.mp h t (aj tm x) (aj tm ix) (aj tm y)=some (r,ws)):OpOk X E H U h a w o r ws:=by
 have hx:=bp hS x;have hi:=bp hS ix;have hy:=bp hS y;unfold jr at he;split at he
 . rename_i k e ok g kx vy hmk hxe hie hye;rw[hxe] at hx;rw[hie] at hi;rw[hye] at hy;have hi:WR X.Z H U (a.eval ix) kx:=hi;have hy:WR X.Z H U (a.eval y) vy:=hy;obtain⟨kk,hkk,hxv⟩:=hx;split at he
   . rename_i es ck kv hg hkx;cases hok:ok kv with
     |false=>rw[hok] at he;cases he
     |true=>
      rw[hok] at he;simp only[af] at he;have hu:=(X.hmk t k e ok hmk).1;split at he
      . rename_i hpos;rw[bd,cZ] at he;simp only[ae,aA] at he;obtain⟨rfl,rfl⟩:=he;obtain⟨kk',ents,q1,q2,q3,_,q4,_,q5,_⟩:=ye hS.sim hmk hg hkx hok hi hpos;rw[hkk] at q1;cases q1;obtain⟨s1,s2⟩:=hS.sim.mapTurn (ents':=ents.push { key:=a.eval ix,val:=a.eval y,born:=ck }) (ck':=ck+1) hg hkk q2 (es':=es ++ [(kx,vy,ck)]) (by
         rw[Array.toList_push];exact q3.append ⟨⟨hi,hy,rfl⟩,ab⟩)
        refine⟨undef,_,U,.inr ⟨rfl,?_⟩,BLe.refl _,s1,s2,rfl⟩;simp only[execOp,ho,hxv,Instr.mapUpdate,au,cW hu w,ar,ob q2,q4,q5 rfl,MapKept.run_setObj_map _ q2,aw];rfl
      . rename_i i y0 b hpos;rw[cZ] at he;simp only[ae,aA] at he;obtain⟨rfl,rfl⟩:=he;obtain⟨kk',ents,q1,q2,q3,_,q4,q6,_,q5⟩:=ye hS.sim hmk hg hkx hok hi hpos;rw[hkk] at q1;cases q1;obtain⟨en,f1,f2,f3,f4,f5⟩:=q5 _ _ _ rfl;have f2':ents[i]?=some en:=by simpa using f2
        have hmod:(ents.modify i fun e=>{ e with key:=a.eval ix,val:=a.eval y }).toList=ents.toList.set i { key:=a.eval ix,val:=a.eval y,born:=b }:=by
         apply px;intro j;rw[tL,AN,AA];by_cases hij:i=j
         . subst hij;have hlt:=(Array.getElem?_eq_some_iff.1 f2').1;rw[ay rfl,ay rfl,f2'];simp[hlt,f5]
         . rw[am hij,am hij];simp
        obtain⟨s1,s2⟩:=hS.sim.mapTurn (ents':=ents.modify i fun e=>{ e with key:=a.eval ix,val:=a.eval y }) (ck':=ck) hg hkk q2 (es':=es.set i (kx,vy,b)) (by
         rw[hmod];exact q3.set i ⟨hi,hy,rfl⟩)
        refine⟨undef,_,U,.inr ⟨rfl,?_⟩,BLe.refl _,s1,s2,rfl⟩;have hkey:((ents[i]?).map (·.key)).getD (a.eval ix)=a.eval ix:=by rw[f2'];simp[f3]
        simp only[execOp,ho,hxv,Instr.mapUpdate,au,cW hu w,ar,ob q2,q4,f1,hkey,q6,MapKept.run_setObj_map _ q2,aw];rfl
      . cases he
   . cases he
 . cases he
theorem Qa(hS:ESt X E nt H U tm h a w){t:me}{x ix y:X0}(ho:o.op=.insert t x ix y){r:ES}{ws:Wr}(he:jr X.B.mp h t (aj tm x) (aj tm ix) (aj tm y)=some (r,ws)):OpOk X E H U h a w o r ws:=by
 have:=FU (o:={ o with op:=.mapUpdate t x ix y }) hS rfl he;have e:execOp a.eval { o with op:=.mapUpdate t x ix y }=execOp a.eval o:=by
  cases o;simp only at ho;subst ho;rfl
 unfold OpOk at this ⊢;rw[e] at this;exact this
theorem Rc(hS:ESt X E nt H U tm h a w){t:me}{x:X0}(ho:o.op=.range t x){g:Nat}{r:ES}{ws:Wr}(he:oD X.B.mp h g t (aj tm x)=some (r,ws)):OpOk X E H U h a w o r ws:=by
 have hx:=bp hS x;unfold oD at he;split at he
 . rename_i kd gm hmk hxe;obtain⟨k,e,ok⟩:=kd;rw[hxe] at hx;obtain⟨km,hkm,hxv⟩:=hx;split at he
   . rename_i es ck hgm hg;rw[bd] at he;simp only[ae,aA] at he;obtain⟨rfl,rfl⟩:=he;have hu:=(X.hmk t k e ok hmk).1;obtain⟨km',ents,q1,q2,q3,q4,q5⟩:=hS.sim.obj gm _ hgm;rw[hkm] at q1;cases q1;have hbe:Below w.heap.size w (w.alloc (.mapIter (some km.1) ck #[] ck)):=(lK _ _).alloc (ak _) _;have hnew:H w.heap.size=none:=by
      cases hx:H w.heap.size with
      |none=>rfl
      |some arr'=>have:=hS.sim.has.lt hx;omega
     have hne:¬(gm=g/\0=0):=fun e=>by rw[e.1,hg] at hgm;cases hgm
     obtain⟨hb,hs⟩:=hS.sim.alloc hg (b:=.mapIter (some km.1) ck #[] ck) (s:=0) (o:=.iter gm ck [] ck none) Nat.one_pos ⟨_,km,#[],fg _ _ _ _,by rw[jT _ _ _ _ hne];exact hkm,hS.sim.lo _ (ak _),hnew,mS _ _,fun b=>gj,fun b hb=>by cases hb⟩;refine⟨.pointer (some ⟨w.heap.size,0,none⟩),_,_,.inl ?_,hb,hs,MarkSame.below hbe,_,fg _ _ _ _,rfl⟩;simp only[execOp,ho,hxv,Instr.range,au,cW hu w,ar,ob q4,mT,aw];rfl
   . cases he
 . cases he
theorem Ix{b:Nat}:∀{es:List (EW×EW×Nat)} {ents:List MapEntry} {k v:EW},MRL X.Z H U ents es->qK b es=some (k,v)->∃en,ents.find? (fun e=>e.born==b)=some en/\WR X.Z H U en.key k/\WR X.Z H U en.val v/\en.born=b
 | [],_,_,_,_,h=>by cases h
 | (k',v',b')::es,[],_,_,hm,_=>hm.elim
 | (k',v',b')::es,en::ents,k,v,⟨⟨h1,h2,h3⟩,ht⟩,h=>by
   unfold qK at h;cases hb:Nat.beq b' b with
   |true=>
    rw[hb] at h;simp only[af,ae,aA] at h;obtain⟨rfl,rfl⟩:=h;have:=av hb;subst this;exact⟨en,by simp[List.find?_cons,h3],h1,h2,h3⟩
   |false=>
    rw[hb] at h;obtain⟨en',e1,e2⟩:=Ix ht h;refine⟨en',?_,e2⟩;have:(en.born==b)=false:=by
     simp only[Nw,ne_eq];intro e';rw[h3] at e';have h':b'=b:=e';subst h';rw[bh] at hb;cases hb
    rw[List.find?_cons,this];exact e1
theorem Re(hS:ESt X E nt H U tm h a w){x:X0}(ho:o.op=.entry x){r:ES}{ws:Wr}(he:qt h (aj tm x)=some (r,ws)):OpOk X E H U h a w o r ws:=by
 have hx:=bp hS x;unfold qt at he;split at he
 . rename_i gi hxe;rw[hxe] at hx;obtain⟨ki,hki,hxv⟩:=hx;split at he
   . rename_i gm since seen last b hgi;obtain⟨ki',km,sn,p1,p2,p3,p4,p5,p6,p7⟩:=hS.sim.obj gi _ hgi;rw[hki] at p1;cases p1;split at he
     . rename_i es ck hgm;obtain⟨km',ents,q1,q2,q3,q4,q5⟩:=hS.sim.obj gm _ hgm;rw[p2] at q1;cases q1;cases hck:Nat.beq ck last with
       |false=>rw[hck] at he;cases he
       |true=>
        rw[hck] at he;simp only[af] at he;have hck:=av hck;subst hck;split at he
        . rename_i kx v hf;simp only[ae,aA] at he;obtain⟨rfl,rfl⟩:=he;obtain⟨en,f1,f2,f3,_⟩:=Ix q5 hf;have f1':ents.find? (fun e=>e.born==b)=some en:=by rw[<-Array.find?_toList];exact f1
          refine OpOk.pure hS (v:=.tuple #[en.key,en.val]) ?_ ⟨[en.key,en.val],rfl,f2,f3,ab⟩;have hgo:(getObj ki.1).run X.P w=.ok (.mapIter (some km.1) since sn ck) w:=by simp[getObj,Sem.run,p5]
          simp only[execOp,ho,hxv,Instr.entry,au,hgo,ar,p7 b rfl,ob q4,bne_self_eq_false,dx,bG,f1',aw]
        . cases he
     . cases he
   . cases he
 . cases he
theorem ok_index(hS:ESt X E nt H U tm h a w){t:me}{x ix:X0}(ho:o.op=.index t x ix){r:ES}{ws:Wr}(he:vb X.T t (aj tm x) (aj tm ix)=some (r,ws)):OpOk X E H U h a w o r ws:=by
 have hx:=bp hS x;have hi:=bp hS ix;unfold vb at he;split at he
 . rename_i ty cs k i ht hxe hie;rw[hxe] at hx;rw[hie] at hi;have hi:=hi.int;obtain⟨vs,hx,hvs⟩:=hx;obtain⟨ti,d,z,ok⟩:=aO (X.hT t ty ht);split at he
   . rename_i n e hsh;have hd':=ok.sh;rw[hsh] at hd';obtain rfl:=rM hd';split at he
     . rename_i te hte;obtain⟨ie,de,ze,oke⟩:=aO (X.hT e te hte);cases hb:(Nat.blt i n&&(Nat.beq te.size 1 && !te.sh.agg)) with
       |false=>rw[hb] at he;cases he
       |true=>
        rw[hb] at he;simp only[af] at he;simp only[az,fy] at hb;obtain⟨b1,b2,b3⟩:=hb;have b1:i<n:=by rwa[cY] at b1
        have b2:=av b2;split at he
        . rename_i c hc;simp only[ae,aA] at he;obtain⟨rfl,rfl⟩:=he;obtain⟨v,hv1,hv2⟩:=hvs.get i c hc;refine OpOk.pure hS (v:=v) ?_ hv2;have hag:=oke.run_agg w;rw[b3] at hag;have hv1':vs.toArray[i]?=some v:=by simpa using hv1
          have hcond:(0:Int)<=(i:Int)/\(i:Int)<(n:Int):=by omega
          simp only[execOp,ho,hx,hi,Instr.index,asIntOf,au,ok.run_und,ar,aw,g8,ay hcond,oke.run_size,b2,part,hag,dx,bG,g8,mV,iK,hv1']
        . cases he
     . cases he
   . cases he
 . cases he
theorem VQ(hS:ESt X E nt H U tm h a w){g:Nat}{r:ES}{ws:Wr}(he:eOp X.Z X.B o.op (aj tm) h g=some (r,ws)):OpOk X E H U h a w o r ws:=by
 unfold eOp at he;split at he
 . rename_i x ho;simp only[ae,aA] at he;obtain⟨rfl,rfl⟩:=he;exact ok_move hS (.inl ho)
 . rename_i x ho;simp only[ae,aA] at he;obtain⟨rfl,rfl⟩:=he;exact ok_move hS (.inr ho)
 . rename_i ho;exact ok_pick hS ho he
 . rename_i ho;exact ok_alloc hS ho he
 . rename_i ho;exact ok_box hS ho he
 . rename_i ho;exact ok_build hS ho he
 . rename_i ho;exact ok_buildSlice hS ho he
 . rename_i ho;exact Tj hS ho he
 . rename_i ho;exact Ra hS ho he
 . rename_i ho;exact Vq hS ho he
 . rename_i ho;exact ok_binOp hS ho he
 . rename_i ho;exact Th hS ho he
 . rename_i ho;exact ok_convert hS ho he
 . rename_i ho;exact ok_makeFunc hS ho he
 . rename_i ho;exact ok_makeSlice hS ho he
 . rename_i ho;exact Rb hS ho he
 . rename_i ho;exact ok_fieldAddr hS ho he
 . rename_i ho;exact ok_field hS ho he
 . rename_i ho;exact Oi hS ho he
 . rename_i ho;exact ok_extract hS ho he
 . rename_i ho;exact Ph hS ho he
 . rename_i ho;exact Pg hS ho he
 . rename_i ho;exact P7 hS ho he
 . rename_i ho;exact FU hS ho he
 . rename_i ho;exact Qa hS ho he
 . rename_i ho;exact Rc hS ho he
 . rename_i ho;exact Re hS ho he
 . rename_i ho;exact ok_index hS ho he
 . cases he
end
structure FnE where
 nt:Nat
 rs:List ResultVar
 body:X5
structure Hs where
 h:PT EO
 nx:Nat
 wl:List Nat
structure Sg where
 tm:PT ES
 s:Hs
structure EE where
 Z:QS
 B:Tab
 F:qe->Option FnE
 orc:qe->List ES->Hs->Option (ES×Hs)
def jK(h:PT EO):Wr->PT EO
 | []=>h
 | (g,o)::l=>jK (h.set g o) l
theorem pX:∀(ws:Wr) (h:PT EO),(jK h ws).get=a8 h.get ws
 | [],_=>rfl
 | (g,o)::l,h=>by
   rw[jK,pX l,a8];congr 1;funext m;rw[na];by_cases e:m=g
   . subst e;rw[ay rfl,aT]
   . rw[am e,aD _ _ _ e]
def Hs.put(s:Hs)(g:Nat)(o:EO):Hs:=⟨s.h.set g o,s.nx,g::s.wl⟩
def kU{α:Sort _}(x:ES)(k:ES->α):α:=match x with
 | .unk=>k .unk
 | .und=>k .und
 | .tup xs=>k (.tup xs)
 | .w (.one (.iv x))=>k (.w (.one (.iv x)))
 | .w (.one (.ptr g u o))=>k (.w (.one (.ptr g u o)))
 | .w (.one (.slc g u o n c))=>k (.w (.one (.slc g u o n c)))
 | .w (.one c)=>k (.w (.one c))
 | .w (.agg cs)=>k (.w (.agg cs))
 | .w (.q n d)=>k (.w (.q n d))
theorem m8{α:Sort _}(x:ES)(k:ES->α):kU x k=k x:=by
 unfold kU;split<;>rfl
def yd{α:Sort _}:List ES->(List ES->α)->α
 | [],k=>k []
 |x::xs,k=>kU x fun x=>yd xs fun xs=>k (x::xs)
theorem GH{α:Sort _}:∀(l:List ES) (k:List ES->α),yd l k=k l
 | [],_=>rfl
 |x::xs,k=>by rw[yd,m8,GH xs]
def bJ(n:Nat):List Nat->Bool
 | []=>false
 |m::l=>bif Nat.beq n m then true else bJ n l
theorem js{n:Nat}:∀{l:List Nat},bJ n l=true↔n∈l
 | []=>by simp[bJ]
 |m::l=>by
  unfold bJ;cases h:Nat.beq n m with
  |true=>have:=av h;subst this;simp
  |false=>
   have hne:n≠m:=fun e=>by subst e;rw[bh] at h;cases h
   simp only[aX,js (l:=l),eZ];exact⟨.inr,fun h=>h.resolve_left hne⟩
def b6:ES->List Nat
 | .w (.one (.ptr g _ _))=>[g]
 | .w (.one (.slc g _ _ _ _))=>[g]
 | .w (.one (.mp g))=>[g]
 |_=>[]
def jc(all:Array X4)(tm:Nat->ES)(o:X4):Option Bool :=
 match o.guard with
 |none=>some true
 |some (j,want)=>match(all[j]?).bind (·.dst) with
  |none=>some false
  |some t=>match tm t with
   | .w (.one (.iv (.bool b)))=>some (b==want)
   | .und=>some false
   |_=>none
def kB(gs:List Nat):List ES:=gs.map fun g=>.w (.one (.ptr g 0 0))
section
variable (Yz9:EE)(call:qe->List ES->Hs->Option (ES × Hs))(yld:Nat->List ES->Hs->Option Hs)
def zA(fo:ES)(args:List ES)(s:Hs):Option (ES×Hs) :=
 match fo with
 | .w (.one (.iv (.fn f)))=>match Yz9.orc f args s with
  |some x=>some x
  |none=>call f args s
 | .w (.one (.clo f gs))=>match Yz9.orc f (args++kB gs) s with
  |some x=>some x
  |none=>call f (args++kB gs) s
 | .w (.one (.yld g))=>match yld g args s with
  |some s'=>some (ac (.bool true),s')
  |none=>none
 |_=>none
def ql:Op->Option (X0×List X0)
 | .call { callee:=.value fo,args,argTypes:=_ }=>some (fo,args.toList)
 |_=>none
def DY(o:Op)(V:X0->ES)(s:Hs):Option (ES×Hs) :=
 match ql o with
 |some (fo,args)=>yd (args.map V) fun args=>zA Yz9 call yld (V fo) args s
 |none=>bA s.nx fun g=>match eOp Yz9.Z Yz9.B o V s.h.get g with
  |some (r,ws)=>bA (g+1) fun n=>(jK s.h ws).force fun h=>some (r,⟨h,n,ws.map Prod.fst++s.wl⟩)
  |none=>none
def nC(tm:PT ES)(dst:Option Nat)(r:ES):PT ES :=
 match dst with
 |some d=>tm.set d r
 |none=>tm
theorem Jz(tm:PT ES)(dst:Option Nat)(r:ES):(nC tm dst r).sl=cT tm.sl dst r:=by
 cases dst with
 |none=>rfl
 |some d=>
  funext t;show((tm.set d r).get t).getD .und=aB tm.sl d r t;rw[na];by_cases h:t=d
  . subst h;rw[ay rfl,aT];rfl
  . rw[am h,aD _ _ _ h];rfl
def qL(all:Array X4):List X4->Sg->Option Sg
 | [],s=>some s
 |o::os,s=>match jc all s.tm.sl o with
  |some true=>match DY Yz9 call yld o.op (aj s.tm.sl) s.s with
   |some (r,hs)=>kU r fun r=>(nC s.tm o.dst r).force fun tm=>qL all os ⟨tm,hs⟩
   |none=>none
  |some false=>(nC s.tm o.dst .und).force fun tm=>qL all os ⟨tm,s.s⟩
  |none=>none
structure Le where
 only:Bool
 ids:List Nat
 wr:Wr
 deriving Inhabited
def Le.vis(l:Le)(g:Nat):Bool:=bif l.only then bJ g l.ids else !bJ g l.ids
def Wq(l:Le)(h:Hp):Hp:=fun g=>bif l.vis g then h g else some .hid
def LF:Op->Bool
 | .alloc _ | .box _ _ | .buildSlice _ _ _ | .makeSlice _ _ _ | .makeMap _ _=>true
 | .call { callee:=.builtin .append,args:=_,argTypes:=_ }=>true
 |_=>false
def vH(tab:List Nat)(k:Nat):List Le->Nat->List Nat
 | [],_=>[]
 |l::ls,j=>match l.wr with
  | []=>vH tab k ls (j-1)
  |ws=>bif dJ tab k (j-1) then vH tab k ls (j-1) else ws.map Prod.fst++vH tab k ls (j-1)
def va(tab:List Nat)(nx0 k:Nat):List X4->Nat->List Nat
 | [],_=>[]
 |o::os,j=>bif LF o.op then(bif dJ tab k j then va tab nx0 k os (j+1) else(nx0+j)::va tab nx0 k os (j+1)) else va tab nx0 k os (j+1)
def sV(h:PT EO):List Nat->PT EO
 | []=>h
 |g::gs=>sV (h.set g .hid) gs
def hU(h:PT EO):List Nat->Wr
 | []=>[]
 |g::gs=>match h.get g with
  |some o=>(g,o)::hU h gs
  |none=>hU h gs
def jA(l:List Nat)(tm:Nat->ES)(t:Nat):ES:=bif bJ t l then tm t else .unk
def vu(l:List Nat):Wr->Bool
 | []=>true
 |p::ws=>bJ p.1 l&&vu l ws
def MT(o:Op)(V:X0->ES):List Nat:=match o with
 | .move _ | .assign _=>[]
 |o=>o.operands.toList.flatMap fun x=>b6 (V x)
def DE(tab:List Nat)(nx0 k:Nat)(log:List Le)(os:List X4)(o:Op)(V:X0->ES)(s:Hs):Option (ES×Hs×Le) :=
 match ql o with
 |some (fo,args)=>match vH tab k log k++va tab nx0 k os (k+1) with
  |N=>match zA Yz9 call yld (V fo) (args.map V) ⟨sV s.h N,s.nx,[]⟩ with
   |some (r,s')=>match hU s'.h s'.wl with
    |ws=>bif ws.all (fun p=>!bJ p.1 N) then some (r,⟨match N with
     | []=>s'.h
     |_=>jK s.h ws,s'.nx,s'.wl++s.wl⟩,⟨false,N,ws⟩) else none
   |none=>none
 |none=>bA (nx0+k) fun g=>match g::MT o V with
  |l=>match eOp Yz9.Z Yz9.B o V (Wq ⟨true,l,[]⟩ s.h.get) g with
   |some (r,ws)=>bif vu l ws then(jK s.h ws).force fun h=>some (r,⟨h,s.nx,ws.map Prod.fst++s.wl⟩,⟨true,l,ws⟩) else none
   |none=>none
def qs(all:Array X4)(tab:List Nat)(nx0:Nat):List X4->Nat->List Le->Sg->Option (Sg×List Le)
 | [],_,log,s=>some (s,log)
 |o::os,k,log,s=>match jA (fP all o) s.tm.sl with
  |m=>match jc all m o with
   |some true=>match DE Yz9 call yld tab nx0 k log os o.op (aj m) s.s with
    |some (r,hs,l)=>kU r fun r=>(nC s.tm o.dst r).force fun tm=>qs all tab nx0 os (k+1) (l::log) ⟨tm,hs⟩
    |none=>none
   |some false=>(nC s.tm o.dst .und).force fun tm=>qs all tab nx0 os (k+1) (⟨true,[],[]⟩::log) ⟨tm,s.s⟩
   |none=>none
def xH(tab:List Nat)(i:Nat)(ws:Wr):List Le->Nat->Bool
 | [],_=>true
 |l::ls,j=>(dJ tab i j||ws.all fun p=>!l.vis p.1)&&xH tab i ws ls (j+1)
def vn(tab:List Nat)(all:List Le):List Le->Nat->Bool
 | [],_=>true
 |l::ls,i=>(match l.wr with
  | []=>true
  |ws=>xH tab i ws all 0)&&vn tab all ls (i+1)
def DX(nt:Nat)(all:Array X4)(draw:Bool)(s:Sg):Option Sg :=
 bif cJ nt all.toList then(match draw with
  |false=>qL Yz9 call yld all all.toList s
  |true=>bif oB all (kC all.toList) then(match qs Yz9 call yld all (kC all.toList) s.s.nx all.toList 0 [] ⟨s.tm,⟨s.s.h,s.s.nx+all.size,s.s.wl⟩⟩ with
   |some (s',log)=>match log.reverse with
    |log=>bif vn (kC all.toList) log log 0 then some s' else none
   |none=>none) else none) else none
end
def gV(T:me->Option TY)(Z:QS)(tm:Nat->ES)(h:Hp):List ResultVar->Option (List EW)
 | []=>some []
 | .tmp t::rs=>match tm t,gV T Z tm h rs with
  | .w x,some xs=>some (x::xs)
  |_,_=>none
 | .cell a t::rs=>match jB T Z h t (tm a),gV T Z tm h rs with
  |some (.w x,[]),some xs=>some (x::xs)
  |_,_=>none
def jE:List EW->ES
 | [x]=>.w x
 |xs=>.tup xs
def qV:List ES->Nat->PT ES->PT ES
 | [],_,t=>t
 |x::xs,i,t=>qV xs (i+1) (t.set i x)
def qH(nt:Nat):PT ES->List Nat->List ES->Option (PT ES)
 |t,[],[]=>some t
 |t,p::ps,x::xs=>bif Nat.blt p nt then qH nt (t.set p x) ps xs else none
 |_,_,_=>none
section
variable (Yz9:EE)(ev:Bool->Nat->X5->Sg->Option (X6 × Sg))
def sX(f:qe)(args:List ES)(s:Hs):Option (ES×Hs) :=
 match Yz9.F f with
 |some q=>bif Nat.ble args.length q.nt then(match ev false q.nt q.body ⟨qV args 0 .nil,s⟩ with
  |some (.normal,s')=>match gV Yz9.B.T Yz9.Z s'.tm.sl s'.s.h.get q.rs with
   |some xs=>some (jE xs,s'.s)
   |none=>none
  |some (.ret,s')=>match gV Yz9.B.T Yz9.Z s'.tm.sl s'.s.h.get q.rs with
   |some xs=>some (jE xs,s'.s)
   |none=>none
  |_=>none) else none
 |none=>none
def Da(g:Nat)(args:List ES)(s:Hs):Option Hs :=
 match s.h.get g with
 |some (.loop false nt tm ps assign body)=>match qH nt tm ps args with
  |some tm'=>match ev true nt assign ⟨tm',s⟩ with
   |some (.normal,s1)=>match s1.s.h.get g with
    |some (.loop false nt1 tm1 ps1 as1 bo1)=>match ev true nt body ⟨s1.tm,s1.s.put g (.loop true nt1 tm1 ps1 as1 bo1)⟩ with
     |some (.normal,s2)=>match s2.s.h.get g with
      |some (.loop true nt2 tm2 ps2 as2 bo2)=>some (s2.s.put g (.loop false nt2 tm2 ps2 as2 bo2))
      |_=>none
     |_=>none
    |_=>none
   |_=>none
  |none=>none
 |_=>none
def Dl(nt:Nat)(fo:ES)(ps:List Nat)(assign body:X5)(s:Sg):Option Sg :=
 match s.s.h.get s.s.nx with
 |none=>bA s.s.nx fun gl=>bA (gl+1) fun n=>match(⟨s.s.h.set gl (.loop false nt s.tm ps assign body),n,gl::s.s.wl⟩:Hs) with
  |hs=>match(match fo with
   | .w (.one (.clo f gs))=>sX Yz9 ev f (.w (.one (.yld gl))::kB gs) hs
   | .w (.one (.iv (.fn f)))=>sX Yz9 ev f [.w (.one (.yld gl))] hs
   |_=>none) with
   |some (_,hs')=>match hs'.h.get gl with
    |some (.loop false _ _ _ _ _)=>some ⟨s.tm,hs'.put gl .hid⟩
    |_=>none
   |none=>none
 |some _=>none
def DP(rd:Bool)(nt:Nat)(c:X5)(s:Sg):Option (X6×Sg) :=
 match c with
 | .skip=>some (.normal,s)
 | .label _=>some (.normal,s)
 | .ret=>some (.ret,s)
 | .exit i=>some (.exit i,s)
 | .seq a b=>match ev rd nt a s with
  |some (.normal,s')=>ev rd nt b s'
  |r=>r
 | .cond c a b=>match aj s.tm.sl c with
  | .w (.one (.iv (.bool true)))=>ev rd nt a s
  | .w (.one (.iv (.bool false)))=>ev rd nt b s
  |_=>none
 | .block id b=>match ev rd nt b s with
  |some (.exit i,s')=>bif Nat.beq i id then some (.normal,s') else some (.exit i,s')
  |r=>r
 | .loop b=>match ev rd nt b s with
  |some (.normal,s')=>ev rd nt (.loop b) s'
  |r=>r
 | .region _ ops draw=>match DX Yz9 (sX Yz9 ev) (Da ev) nt ops draw s with
  |some s'=>some (.normal,s')
  |none=>none
 | .rangeFunc g ps assign body=>match rd with
  |false=>match Dl Yz9 ev nt (aj s.tm.sl g) ps.toList assign body s with
   |some s'=>some (.normal,s')
   |none=>none
  |true=>none
 |_=>none
end
noncomputable def Aq(Yz9:EE)(n:Nat):Bool->Nat->X5->Sg->Option (X6×Sg) :=
 Nat.rec (fun _ _ _ _=>none) (fun _ ih=>DP Yz9 ih) n
theorem rS{g:Nat}:∀{ws:Wr} {h:Hp},(∀p∈ws,p.1≠g)->a8 h ws g=h g
 | [],_,_=>rfl
 | (g',o)::l,h,hn=>by
   rw[a8,rS fun p hp=>hn p (by simp[hp])];exact aD _ _ _ (fun e=>hn (g',o) (by simp) e.symm)
theorem Bk{g:Nat}:∀{ws:Wr} {h h':Hp},h g=h' g->a8 h ws g=a8 h' ws g
 | [],_,_,e=>e
 | (g',o)::l,h,h',e=>by
   rw[a8,a8];refine Bk ?_;by_cases e':g=g'
   . subst e';rw[aT,aT]
   . rw[aD _ _ _ e',aD _ _ _ e',e]
theorem Jb{g:Nat}{x:Option EO}:∀{ws:Wr} {h:Hp},(∀p∈ws,p.1=g->some p.2=x)->((∃p∈ws,p.1=g)\/h g=x)->a8 h ws g=x
 | [],h,_,h2=>by
  rcases h2 with⟨p,hp,_⟩|h2
  . cases hp
  . exact h2
 | (g',o)::l,h,h1,h2=>by
   rw[a8];refine Jb (fun p hp=>h1 p (by simp[hp])) ?_;by_cases e:g'=g
   . subst e;right;rw[aT];exact h1 (g',o) (by simp) rfl
   . rcases h2 with⟨p,hp,hpg⟩|h2
     . rcases List.mem_cons.1 hp with rfl|hp
       . exact absurd hpg e
       . exact .inl ⟨p,hp,hpg⟩
     . right;rw[aD _ _ _ (kP e)];exact h2
theorem OR.own_mono{Z:QS}{own own':Nat->Prop}{w:my}{H:ah}{U:Bm}{g:Nat}{o:EO}(hs:∀u k,U g u=some k->own k.1->own' k.1)(h:OR Z own w H U g o):OR Z own' w H U g o:=by
 cases o with
 |mem e cs fz vs cnt=>exact⟨h.1,fun u p hup=>by
  obtain⟨h1,k,arr,h2,h3,h4⟩:=h.2 u p hup;exact⟨h1,k,arr,h2,hs u k h2 h3,h4⟩⟩
 |map es ck=>obtain⟨k,ents,h1,h2,h3⟩:=h;exact⟨k,ents,h1,hs 0 k h1 h2,h3⟩
 |iter gm since seen last cur=>obtain⟨k,km,sn,h1,h2,h3,h4⟩:=h;exact⟨k,km,sn,h1,h2,hs 0 k h1 h3,h4⟩
 |loop busy nt tm ps assign body=>obtain⟨k,L,h1,h2,h3⟩:=h;exact⟨k,L,h1,hs 0 k h1 h2,h3⟩
 |hid=>trivial
def dj(vis:Nat->Bool)(h:Hp):Hp:=fun g=>bif vis g then h g else some .hid
def tc(E:EEnv)(vis:Nat->Bool)(h:Hp)(H:ah)(U:Bm)(w:my):EEnv where
 own k:=E.own k/\∀g u s,vis g=false->h g≠some .hid->U g u=some s->s.1≠k
 w0:=w
 H0:=H
 hid g:=vis g=false\/E.hid g
 β0:=U
section
variable {Z:QS}{E:EEnv}{H H':ah}{U U':Bm}{h:Hp}{w w':my}{vis:Nat->Bool}
theorem pN{g:Nat}(hv:vis g=true):dj vis h g=h g:=by unfold dj;rw[hv];rfl
theorem BD{g:Nat}(hv:vis g=false):dj vis h g=some .hid:=by unfold dj;rw[hv];rfl
theorem ESim.hide(h0:ESim Z E H U h w)(vis:Nat->Bool):ESim Z (tc E vis h H U w) H U (dj vis h) w where
 has:=h0.has
 below:=BelowO.refl _ _
 lo k hk:=⟨h0.lo k hk,fun g u s _ _ hs e=>by have:=(h0.dom g u s hs).1;omega⟩
 ext:=HExtO.refl _ _
 obj g o hg:=by
  cases hv:vis g with
  |true=>
   rw[pN hv] at hg;exact(h0.obj g o hg).own_mono fun u k hk ho=>⟨ho,fun g' u' s hv' _ hs e=>by
    have:=h0.inj _ _ _ _ _ _ hs hk e;subst this;rw[hv] at hv';cases hv'⟩
  |false=>
   rw[BD hv] at hg;cases hg;trivial
 dom g u k hk:=by
  obtain⟨a,o,b,c⟩:=h0.dom g u k hk;cases hv:vis g with
  |true=>
   refine⟨a,o,by rw[pN hv];exact b,c.imp id fun c=>⟨⟨c.1,fun g' u' s hv' _ hs e=>?_⟩,c.2⟩⟩;have:=h0.inj _ _ _ _ _ _ hs hk e;subst this;rw[hv] at hv';cases hv'
  |false=>exact⟨a,.hid,BD hv,.inl rfl⟩
 inj:=h0.inj
 hidb g hg:=by
  refine⟨?_,fun _=>rfl⟩;cases hv:vis g with
  |false=>exact BD hv
  |true=>
   rcases hg with hg|hg
   . rw[hv] at hg;cases hg
   . rw[pN hv];exact(h0.hidb g hg).1
theorem ESim.unhide{ws:Wr}(h0:ESim Z E H U h w)(hle:HLe H H')(hb:BLe U U')(h1:ESim Z (tc E vis h H U w) H' U' (a8 (dj vis h) ws) w')(hw:∀p∈ws,vis p.1=true):ESim Z E H' U' (a8 h ws) w':=by
 have ev:∀g,vis g=true->a8 (dj vis h) ws g=a8 h ws g:=fun g hv=>Bk (pN hv);have eh:∀g,vis g=false->a8 h ws g=h g:=fun g hv=>rS fun p hp e=>by
  have:=hw p hp;rw[e,hv] at this;cases this
 have βh:∀g,vis g=false->∀u,U' g u=U g u:=fun g hv=>(h1.hidb g (.inl hv)).2;refine⟨h1.has,h0.below.trans (h1.below.mono fun k hk=>hk.1),fun k hk=>(h1.lo k hk).1,h0.ext.step (own':=(tc E vis h H U w).own) ⟨hle,fun b arr hb'=>h1.ext.2 b arr hb'⟩ (fun k hk=>hk.1),fun g o hg=>?_,fun g u k hk=>?_,h1.inj,fun g hg=>?_⟩
 . cases hv:vis g with
   |true=>exact(h1.obj g o (by rw[ev g hv];exact hg)).own_mono fun _ _ _ ho=>ho.1
   |false=>
    rw[eh g hv] at hg;by_cases ho:o=.hid
    . subst ho;trivial
    . have hno:∀u k,U g u=some k->¬(tc E vis h H U w).own k.1:=fun u k hk hown=>hown.2 g u k hv (by rw[hg];simpa using ho) hk rfl;refine(h0.obj g o hg).keep (fun u k hk=>h1.below.block _ (hno u k hk)) (fun u k hk hn=>?_) hle hb (βh g hv);cases hx:H' k.1 with
      |none=>rfl
      |some arr=>
       rcases h1.ext.2 _ _ hx with h2|h2
       . have h2:H k.1=some arr:=h2;rw[hn] at h2;cases h2
       . exact absurd h2 (hno u k hk)
 . cases hv:vis g with
   |true=>
    obtain⟨a,o,b,c⟩:=h1.dom g u k hk;exact⟨a,o,by rw[<-ev g hv];exact b,c.imp id fun c=>⟨c.1.1,c.2⟩⟩
   |false=>
    rw[βh g hv] at hk;obtain⟨a,o,b,c⟩:=h0.dom g u k hk;exact⟨g7 a h1.below.size,o,by rw[eh g hv];exact b,c⟩
 . obtain⟨a,b⟩:=h1.hidb g (.inr hg);obtain⟨c,d⟩:=h0.hidb g hg;refine⟨?_,fun u=>(b u).trans (d u)⟩;cases hv:vis g with
   |true=>rw[<-ev g hv];exact a
   |false=>rw[eh g hv];exact c
end
section
variable (X:EX)
def OneOk(o:X4)(tm:Nat->ES)(h:Hp)(r:ES)(h':Hp):Prop :=
 ∀(ro:Option Nat) (E:EEnv),(∀w',BelowO E.own E.w0 w'->X.I w')->∀(nt:Nat) (H:ah) (U:Bm) (a:Act) (w:my) (K:Act->my->Prop) (Q:X6->Act->my->Prop),ESt X E nt H U tm h a w->
  (∀v H' U' w',HLe H H'->BLe U U'->ESim X.Z E H' U' h' w'->MarkSame w w'->SRe X.Z H' U' v r->K (a.put o.dst v) w')->o.wpIn (FW ro) 0 X.P a w K Q
theorem uC{X:EX}{o:X4}{tm:Nat->ES}{h:Hp}{g:Nat}{r:ES}{ws:Wr}(he:eOp X.Z X.B o.op (aj tm) h g=some (r,ws)):OneOk X o tm h r (a8 h ws):=by
 intro ro E hI nt H U a w K Q hS hK;obtain⟨v,w',U',hr,hb,hs,hm,hv⟩:=VQ hS he;refine sQ (fun c hc=>?_) ?_
 . rw[hc] at he;cases he
 . unfold Oper.wp;have hk:=hK v H U' w' (HLe.refl _) hb hs hm hv;rcases hr with hr|⟨rfl,hr⟩
   . rw[hr];exact hk
   . rw[hr];exact hk
def SREL(Z:QS)(H:ah)(U:Bm):List X3->List ES->Prop
 | [],[]=>True
 |v::vs,x::xs=>SRe Z H U v x/\SREL Z H U vs xs
 |_,_=>False
theorem SREL.length{Z:QS}{H:ah}{U:Bm}:∀{vs:List X3} {xs:List ES},SREL Z H U vs xs->vs.length=xs.length
 | [],[],_=>rfl
 |_::_,_::_,⟨_,h2⟩=>by simp[SREL.length h2]
 | [],_::_,h=>h.elim
 |_::_,[],h=>h.elim
theorem SREL.get{Z:QS}{H:ah}{U:Bm}:∀{vs:List X3} {xs:List ES},SREL Z H U vs xs->∀(i:Nat) (x:ES),xs[i]?=some x->∃v,vs[i]?=some v/\SRe Z H U v x
 | [],[],_,i,x,h=>by simp at h
 |v::_,_::_,⟨h1,_⟩,0,x,h=>by simp at h;subst h;exact⟨v,rfl,h1⟩
 |_::_,_::_,⟨_,h2⟩,i+1,x,h=>by simp at h;simpa using SREL.get h2 i x h
 | [],_::_,h,_,_,_=>h.elim
 |_::_,[],h,_,_,_=>h.elim
theorem SREL.append{Z:QS}{H:ah}{U:Bm}:∀{vs:List X3} {xs:List ES} {us:List X3} {ys:List ES},SREL Z H U vs xs->SREL Z H U us ys->SREL Z H U (vs++us) (xs++ys)
 | [],[],_,_,_,h=>by simpa using h
 |_::_,_::_,_,_,⟨h1,h2⟩,h=>by simpa using(show SREL Z H U (_::_) (_::_) from⟨h1,SREL.append h2 h⟩)
 | [],_::_,_,_,h,_=>h.elim
 |_::_,[],_,_,h,_=>h.elim
theorem SREL.map{Z:QS}{H:ah}{U:Bm}{V:X0->X3}{f:X0->ES}(hρ:∀x,SRe Z H U (V x) (f x)):∀l:List X0,SREL Z H U (l.map V) (l.map f)
 | []=>trivial
 |x::l=>⟨hρ x,SREL.map hρ l⟩
theorem SREL.mono{Z:QS}{H H':ah}{U U':Bm}(hh:HLe H H')(hb:BLe U U'):∀{vs:List X3} {xs:List ES},SREL Z H U vs xs->SREL Z H' U' vs xs
 | [],[],_=>trivial
 |_::_,_::_,⟨h1,h2⟩=>⟨h1.mono hh hb,SREL.mono hh hb h2⟩
 | [],_::_,h=>h.elim
 |_::_,[],h=>h.elim
def zH(f:qe):Prop:=∃fn,X.P.funcs[f]?=some fn/\(fn.name == "runtime.NumGoroutine")=false/\fn.body.isNone=false
def C8(E:EEnv)(H:ah)(U:Bm)(w:my)(h':Hp)(r:ES)(e:Ending)(w':my):Prop :=
 ∃v H' U',e=.returned v/\HLe H H'/\BLe U U'/\ESim X.Z E H' U' h' w'/\MarkSame w w'/\SRe X.Z H' U' v r
def CallOk(f:qe)(args:List ES)(h:Hp)(r:ES)(h':Hp):Prop :=
 zH X f/\∀(E:EEnv),(∀w',BelowO E.own E.w0 w'->X.I w')->∀(H:ah) (U:Bm) (w:my) (vs:List X3),ESim X.Z E H U h w->SREL X.Z H U vs args->
  Calls X.P f vs.toArray w (C8 X E H U w h' r)
def LT(g:Nat)(args:List ES)(h h':Hp):Prop :=
 ∀(ro:Option Nat) (E:EEnv),(∀w',BelowO E.own E.w0 w'->X.I w')->∀(H:ah) (U:Bm) (w:my) (vs:List X3) (k:Nat×Nat),ESim X.Z E H U h w->SREL X.Z H U vs args->U g 0=some k->
  YieldAt (FW ro) 0 X.P k.1 vs.toArray w (C8 X E H U w h' (ac (.bool true)))
theorem A7{o:Op}{fo:X0}{args:List X0}(h:ql o=some (fo,args)):∃ax ats,o=.call { callee:=.value fo,args:=ax,argTypes:=ats }/\ax.toList=args:=by
 unfold ql at h;split at h
 . simp only[ae,aA] at h;obtain⟨rfl,rfl⟩:=h;exact⟨_,_,rfl,rfl⟩
 . cases h
variable {X}
theorem OneOk.call{o:X4}{tm:Nat->ES}{h h':Hp}{r:ES}{fo:X0}{ax:Array X0}{ats:Array me}{f:qe}{gs:List Nat}(ho:o.op=.call { callee:=.value fo,args:=ax,argTypes:=ats })
 (hf:(aj tm fo=.w (.one (.iv (.fn f)))/\gs=[])\/aj tm fo=.w (.one (.clo f gs))) (hc:CallOk X f (ax.toList.map (aj tm)++kB gs) h r h'):OneOk X o tm h r h':=by
 intro ro E hI nt H U a w K Q hS hK;obtain⟨⟨fn,hf1,hf2,hf3⟩,hc⟩:=hc;have hv:=bp hS fo;have hcap:∃cs:List X3,a.eval fo=.func (.func f) #[] cs.toArray/\SREL X.Z H U cs (kB gs):=by
  rcases hf with⟨hf,rfl⟩|hf
  . rw[hf] at hv;refine⟨[],sC hv.2,ab⟩
  . rw[hf] at hv;obtain⟨h1,h2⟩:=hv;refine⟨_,h2,?_⟩;clear h2 hf hc;induction gs with
    |nil=>trivial
    |cons g gs ih=>
     obtain⟨k,hk⟩:=h1 g (by simp);refine⟨⟨k,hk,?_⟩,ih fun g hg=>h1 g (by simp[hg])⟩;unfold ii;rw[hk]
 obtain⟨cs,e1,hcs⟩:=hcap;have hcall:=hc E hI H U w (ax.toList.map a.eval++cs) hS.sim ((SREL.map (bp hS) _).append hcs);have hrun:(execOp a.eval o).run X.P w=.ok (.enter f (ax.toList.map a.eval++cs).toArray) w:=by
  simp only[execOp,ho,resolve,e1,Deferred.ofValue,au,aw,ar,invoke,callFunc,tN,hf1,hf2,hf3,dx,bG];congr 2;apply eO;simp
 refine sQ (fun c hc=>by rw[ho] at hc;cases hc) ?_;unfold Oper.wp;rw[hrun];refine hcall.mono ?_;rintro e w' ⟨v,H',U',rfl,h1,h2,h3,h4,h5⟩;exact hK v H' U' w' h1 h2 h3 h4 h5
theorem OneOk.yld{o:X4}{tm:Nat->ES}{h h':Hp}{fo:X0}{ax:Array X0}{ats:Array me}{g:Nat}(ho:o.op=.call { callee:=.value fo,args:=ax,argTypes:=ats })
 (hf:aj tm fo=.w (.one (.yld g))) (hc:LT X g (ax.toList.map (aj tm)) h h'):OneOk X o tm h (ac (.bool true)) h':=by
 intro ro E hI nt H U a w K Q hS hK;have hv:=bp hS fo;rw[hf] at hv;obtain⟨k,hk,e1⟩:=hv;obtain⟨fn,tmps,assign,body,hyr,hR⟩:=hc ro E hI H U w (ax.toList.map a.eval) k hS.sim (SREL.map (bp hS) _) hk;have hrun:(execOp a.eval o).run X.P w=.ok (.round k.1 fn tmps assign body) w:=by
  have ea:(ax.toList.map a.eval).toArray=ax.map a.eval:=by apply eO;simp
  rw[ea] at hyr;simp only[execOp,ho,resolve,e1,Deferred.ofValue,au,aw,ar,invoke];simpa using hyr
 refine⟨fun _ _=>trivial,?_⟩;rw[show(FW ro).round=ro from rfl,Oper.semAt_eq ro a.eval o (fun c hc=>by rw[ho] at hc;cases hc),hrun];refine⟨fun e=>(by cases e),hR.mono ?_⟩;rintro e w' ⟨v,H',U',rfl,h1,h2,h3,h4,h5⟩;exact hK v H' U' w' h1 h2 h3 h4 h5
def LogOk(s s':Hs):Prop:=(∀g,g∉s'.wl->s'.h.get g=s.h.get g)/\(∀g∈s.wl,g∈s'.wl)/\∀g,s'.h.get g=none->s.h.get g=none
theorem LogOk.refl(s:Hs):LogOk s s:=⟨fun _ _=>rfl,fun _ h=>h,fun _ h=>h⟩
theorem LogOk.trans{a b c:Hs}(h:LogOk a b)(k:LogOk b c):LogOk a c :=
 ⟨fun g hg=>(k.1 g hg).trans (h.1 g fun hb=>hg (k.2.1 g hb)),fun g hg=>k.2.1 g (h.2.1 g hg),fun g hg=>h.2.2 g (k.2.2 g hg)⟩
theorem LogOk.wr(s:Hs)(ws:Wr)(n:Nat):LogOk s ⟨jK s.h ws,n,ws.map Prod.fst++s.wl⟩:=by
 refine⟨fun g hg=>?_,fun g hg=>Nz _ hg,fun g hg=>?_⟩
 . show(jK s.h ws).get g=_;rw[pX];exact rS fun p hp e=>hg (NA _ (List.mem_map.2 ⟨p,hp,e⟩))
 . have hg:(jK s.h ws).get g=none:=hg;rw[pX] at hg;cases hx:s.h.get g with
   |none=>rfl
   |some o0=>
    exfalso;have key:∀(ws:Wr) (h:Hp),h g≠none->a8 h ws g≠none:=by
     intro ws;induction ws with
     |nil=>intro h hh;exact hh
     |cons p l ih=>
      intro h hh;refine ih _ ?_;by_cases e:g=p.1
      . rw[e,aT];simp
      . rw[aD _ _ _ e];exact hh
    exact key ws s.h.get (by rw[hx];simp) hg
theorem LogOk.put(s:Hs)(g:Nat)(o:EO):LogOk s (s.put g o):=LogOk.wr s [(g,o)] s.nx
theorem w5(s:Hs)(g:Nat)(o:EO):(s.put g o).h.get=aB s.h.get g (some o):=by
 have:=pX [(g,o)] s.h;exact this
end
section
variable {X:EX}
theorem uK{E:EEnv}{nt:Nat}{H:ah}{U:Bm}{tm:Nat->ES}{h:Hp}{a:Act}{w:my}{all:Array X4}{o:X4}(hS:ESt X E nt H U tm h a w){c:Bool}(hy:jc all tm o=some c):Region.wanted o (yielded all a.tmps)=c:=by
 unfold jc at hy;unfold Region.wanted;split at hy
 . rename_i hg;simp only[hg];simpa using hy
 . rename_i j want hg;simp only[hg];split at hy
   . rename_i hd;simp only[yielded,hd,Option.bind_none];simpa using hy
   . rename_i t hd;simp only[yielded,hd,Nb];have hs:=hS.slot t;split at hy
     . rename_i b ht;rw[ht] at hs;have e:=SRe.bool hs;cases hx:a.tmps[t]? with
       |none=>simp[hx,undef] at e
       |some u=>simp[hx] at e;subst e;simpa using hy
     . rename_i ht;rw[ht] at hs;change a.tmps.getD t undef=undef at hs;cases hx:a.tmps[t]? with
       |none=>simpa using hy
       |some u=>simp[hx] at hs;subst hs;simpa[undef] using hy
     . cases hy
theorem uh(a:Act)(d:Option Tmp)(v:X3):(a.put d v).defers=a.defers:=by
 cases d<;>rfl
def mo(E:EEnv)(w0:my)(k:Nat):Prop:=E.own k/\w0.heap[k]?≠some (.deferred (some []))
def vW(X:EX)(E:EEnv)(w0:my)(nt:Nat)(H:ah)(U:Bm)(s:Sg)(a:Act)(w:my):Prop :=
 ESt X E nt H U s.tm.sl s.s.h.get a w/\MarksOk (mo E w0) a.defers w/\MarkSame w0 w
def EPost(X:EX)(E:EEnv)(w0:my)(nt:Nat)(H:ah)(U:Bm)(w:my)(s':Sg)(a':Act)(w':my):Prop :=
 ∃H' U',HLe H H'/\BLe U U'/\vW X E w0 nt H' U' s' a' w'/\MarkSame w w'
theorem MarkSame.trans{w w' w'':my}(h:MarkSame w w')(k:MarkSame w' w''):MarkSame w w'':=fun D hD=>by
 have:=h D hD;rw[<-this];exact k D (by rw[this];exact hD)
theorem EPost.refl{E:EEnv}{w0:my}{nt:Nat}{H:ah}{U:Bm}{s:Sg}{a:Act}{w:my}(h:vW X E w0 nt H U s a w):EPost X E w0 nt H U w s a w :=
 ⟨H,U,HLe.refl _,BLe.refl _,h,MarkSame.refl _⟩
theorem EPost.trans{E:EEnv}{wm:my}{nt:Nat}{H H':ah}{U U':Bm}{s':Sg}{a':Act}{w w0 w':my}(hh:HLe H H')(hb:BLe U U')(hm:MarkSame w w0)(k:EPost X E wm nt H' U' w0 s' a' w'):EPost X E wm nt H U w s' a' w':=by
 obtain⟨H2,β2,k1,k2,k3,k4⟩:=k;exact⟨H2,β2,hh.trans k1,hb.trans k2,k3,hm.trans k4⟩
def EX.ee(X:EX)(F:qe->Option FnE)(orc:qe->List ES->Hs->Option (ES×Hs)):EE:=⟨X.Z,X.B,F,orc⟩
structure FnOk(X:EX)(f:qe)(q:FnE)(fn:Func):Prop where
 has:X.P.funcs[f]?=some fn
 body:fn.body=some q.body
 nt:fn.ntmps=q.nt
 rs:fn.results.toList=q.rs
 name:(fn.name == "runtime.NumGoroutine")=false
def oq(X:EX)(call:qe->List ES->Hs->Option (ES×Hs)):Prop:=∀f args s r s',call f args s=some (r,s')->LogOk s s'/\CallOk X f args s.h.get r s'.h.get
def iX(X:EX)(orc:qe->List ES->Hs->Option (ES×Hs)):Prop:=oq X orc
def qA(X:EX)(yld:Nat->List ES->Hs->Option Hs):Prop:=∀g args s s',yld g args s=some s'->LogOk s s'/\LT X g args s.h.get s'.h.get
variable {F:qe->Option FnE}{orc:qe->List ES->Hs->Option (ES × Hs)}{call:qe->List ES->Hs->Option (ES × Hs)}{yld:Nat->List ES->Hs->Option Hs}
theorem IR(horc:iX X orc)(hcall:oq X call)(hyld:qA X yld){o:X4}{tm:Nat->ES}{fo:X0}{ax:Array X0}{ats:Array me}(ho:o.op=.call { callee:=.value fo,args:=ax,argTypes:=ats }){s s':Hs}{r:ES}
 (he:zA (X.ee F orc) call yld (aj tm fo) (ax.toList.map (aj tm)) s=some (r,s')):LogOk s s'/\OneOk X o tm s.h.get r s'.h.get:=by
 unfold zA at he;split at he
 . rename_i f hf;have ec:∀l:List ES,l++kB []=l:=fun l=>by simp[kB]
   split at he
   . rename_i x horc';simp only[ae] at he;subst he;obtain⟨h1,h2⟩:=horc _ _ _ _ _ horc';refine⟨h1,OneOk.call ho (.inl ⟨hf,rfl⟩) ?_⟩;rw[ec];exact h2
   . obtain⟨h1,h2⟩:=hcall _ _ _ _ _ he;refine⟨h1,OneOk.call ho (.inl ⟨hf,rfl⟩) ?_⟩;rw[ec];exact h2
 . rename_i f gs hf;split at he
   . rename_i x horc';simp only[ae] at he;subst he;obtain⟨h1,h2⟩:=horc _ _ _ _ _ horc';exact⟨h1,OneOk.call ho (.inr hf) h2⟩
   . obtain⟨h1,h2⟩:=hcall _ _ _ _ _ he;exact⟨h1,OneOk.call ho (.inr hf) h2⟩
 . rename_i g hf;split at he
   . rename_i s2 hs;simp only[ae,aA] at he;obtain⟨rfl,rfl⟩:=he;obtain⟨h1,h2⟩:=hyld _ _ _ _ hs;exact⟨h1,OneOk.yld ho hf h2⟩
   . cases he
 . cases he
theorem RH(horc:iX X orc)(hcall:oq X call)(hyld:qA X yld){o:X4}{tm:Nat->ES}{s s':Hs}{r:ES}
 (he:DY (X.ee F orc) call yld o.op (aj tm) s=some (r,s')):LogOk s s'/\OneOk X o tm s.h.get r s'.h.get:=by
 unfold DY at he;split at he
 . rename_i fo args hc;obtain⟨ax,ats,ho,rfl⟩:=A7 hc;rw[GH] at he;exact IR horc hcall hyld ho he
 . rw[bd] at he;split at he
   . rename_i r0 ws hop;rw[bd,oa] at he;simp only[ae,aA] at he;obtain⟨rfl,rfl⟩:=he;refine⟨LogOk.wr _ _ _,?_⟩;show OneOk X o tm s.h.get r0 (jK s.h ws).get;rw[pX];exact uC hop
   . cases he
theorem DO{ro:Option Nat}{E:EEnv}(hI:∀w',BelowO E.own E.w0 w'->X.I w'){nt:Nat}{H:ah}{U:Bm}{tm:Nat->ES}{h h':Hp}{a:Act}{w:my}{all:Array X4}{o:X4}{r:ES}(hd:∀d,o.dst=some d->d<nt)
 (hS:ESt X E nt H U tm h a w) {mo:Nat->Prop} (hM:MarksOk mo a.defers w) (hf:(jc all tm o=some true/\OneOk X o tm h r h')\/(jc all tm o=some false/\r=.und/\h'=h)) {K:Act->my->Prop} {Q:X6->Act->my->Prop}
 (hK:∀H' U' a' w',HLe H H'->BLe U U'->ESt X E nt H' U' (cT tm o.dst r) h' a' w'->MarksOk mo a'.defers w'->MarkSame w w'->K a' w') :
 if Region.wanted o (yielded all a.tmps) then o.wpIn (FW ro) 0 X.P a w K Q else(∀f,o.about X.P w a.eval=some f->(FW ro).fn f)/\K (a.put o.dst undef) w:=by
 rcases hf with⟨hy,ho⟩|⟨hy,rfl,rfl⟩
 . rw[uK hS hy];simp only[bD];refine ho ro E hI nt H U a w K Q hS fun v H' U' w' h1 h2 h3 h4 h5=>?_;exact hK H' U' _ w' h1 h2 (hS.fin hd h1 h2 h3 h5) (by rw[uh];exact hM.keep h4) h4
 . rw[uK hS hy];simp only[dx,bG];exact⟨fun _ _=>trivial,hK H U _ w (HLe.refl _) (BLe.refl _) (hS.fin hd (HLe.refl _) (BLe.refl _) hS.sim rfl) (by rw[uh];exact hM) (MarkSame.refl _)⟩
theorem RG(horc:iX X orc)(hcall:oq X call)(hyld:qA X yld){all:Array X4}:∀{os:List X4} {s s':Sg},qL (X.ee F orc) call yld all os s=some s'->
 LogOk s.s s'.s/\∀(ro:Option Nat) (E:EEnv),(∀w',BelowO E.own E.w0 w'->X.I w')->∀(w0:my) (nt:Nat) (Q:X6->Act->my->Prop) (H:ah) (U:Bm) (a:Act) (w:my),cJ nt os=true->vW X E w0 nt H U s a w->
  (∀a' w',EPost X E w0 nt H U w s' a' w'->Q .normal a' w')->wpListIn (FW ro) 0 X.P all Q os a w:=by
 intro os;induction os with
 |nil=>
  intro s s' he;simp only[qL,ae] at he;subst he;exact⟨LogOk.refl _,fun ro E hI w0 nt Q H U a w _ hS hQ=>hQ a w (EPost.refl hS)⟩
 |cons o os ih=>
  intro s s' he;unfold qL at he;have key:∃(r:ES) (hs:Hs),LogOk s.s hs/\((jc all s.tm.sl o=some true/\OneOk X o s.tm.sl s.s.h.get r hs.h.get)\/(jc all s.tm.sl o=some false/\r=.und/\hs.h.get=s.s.h.get))/\qL (X.ee F orc) call yld all os ⟨nC s.tm o.dst r,hs⟩=some s':=by
   split at he
   . rename_i hy;split at he
     . rename_i r hs h1;rw[m8,oa] at he;obtain⟨l1,l2⟩:=RH horc hcall hyld h1;exact⟨r,hs,l1,.inl ⟨hy,l2⟩,he⟩
     . cases he
   . rename_i hy;rw[oa] at he;exact⟨.und,s.s,LogOk.refl _,.inr ⟨hy,rfl,rfl⟩,he⟩
   . cases he
  obtain⟨r,hs,l1,hf,he'⟩:=key;obtain⟨l2,hw⟩:=ih he';refine⟨l1.trans l2,fun ro E hI w0 nt Q H U a w hd hS hQ=>?_⟩;have hd':cJ nt os=true:=by
   simp only[cJ,cF,az] at hd;exact hd.2
  unfold wpListIn;refine DO hI (n9 hd (by simp)) hS.1 hS.2.1 hf fun H' U' a' w' h1 h2 h3 h4 h5=>?_;refine hw ro E hI w0 nt Q H' U' a' w' hd' ⟨?_,h4,hS.2.2.trans h5⟩ fun a2 w2 hp=>hQ a2 w2 (hp.trans h1 h2 h5);show ESt X E nt H' U' (nC s.tm o.dst r).sl hs.h.get a' w';rw[Jz];exact h3
end
end Go.Proofs.En
namespace Go.Proofs.En
open Go.RowKit Go.Proofs.Fl Go.Shelf Go.Sort
def vw(arr:Array X3)(k i:Nat):List X3:=(arr.toList.drop (i*k)).take k
theorem Gx{α:Type}[Inhabited α]{enc:α->List X3}{k:Nat}{w:my}{blk m:Nat}{dk:Array α}{os:Array Obj}{j:Nat}(hj:j<w.heap.size) :
 (sortWorldK enc k w blk 0 m dk os).heap[j]?=if blk=j then(w.heap[j]?).map (onCells (putCells id 0 (flatK enc k dk))) else w.heap[j]?:=by
 unfold sortWorldK putRowK putRow;rw[heap_grow_old _ _ (by simpa[mapBlock] using hj)];simp[mapBlock,AN]
theorem Bb{α:Type}[Inhabited α]{enc:α->List X3}{k:Nat}{w:my}{blk m:Nat}{dk:Array α}{os:Array Obj}:w.heap.size<=(sortWorldK enc k w blk 0 m dk os).heap.size:=by
 unfold sortWorldK putRowK;rw[size_grow,size_putRow];exact wA _ _
theorem KP{α:Type}{R:α->α->Prop}(hR:∀a b,R a b->¬R b a):∀{l l':List α},l.Perm l'->l.Pairwise R->l'.Pairwise (fun a b=>¬R b a)->l.Nodup->(∀a∈l,∀b∈l,a≠b->R a b\/R b a)->l=l'
 | [],l',hp,_,_,_,_=>(List.nil_perm.1 hp).symm
 |a::l,l',hp,h1,h2,hn,ht=>by
  cases l' with
  |nil=>exact absurd hp.length_eq (by simp)
  |cons b l'=>
   have hab:a=b:=by
    apply iM;intro hne;have ha:a∈l':=by
     have:a∈b::l':=hp.mem_iff.1 (by simp);exact(List.mem_cons.1 this).resolve_left hne
    have hb:b∈l:=by
     have:b∈a::l:=hp.mem_iff.2 (by simp);exact(List.mem_cons.1 this).resolve_left (kP hne)
    exact(List.pairwise_cons.1 h2).1 a ha ((List.pairwise_cons.1 h1).1 b hb)
   subst hab;rw[KP hR (hp.cons_inv) (List.pairwise_cons.1 h1).2 (List.pairwise_cons.1 h2).2 (List.nodup_cons.1 hn).2 fun x hx y hy=>ht x (by simp[hx]) y (by simp[hy])]
end Go.Proofs.En
namespace Go.Proofs.En
open Go.RowKit Go.Proofs.Fl
def gF{α:Type}(act:Nat->α->α)(S:Nat->Bool):List Nat->α->α
 | [],x=>x
 |i::l,x=>gF act S l (if S i=true then act i x else x)
section
variable {α:Type}{act:Nat->α->α}{S S':Nat->Bool}
theorem lX:∀{l:List Nat} {x:α},(∀i∈l,S i≠S' i->∀x,act i x=x)->gF act S l x=gF act S' l x
 | [],_,_=>rfl
 |i::l,x,h=>by
  rw[gF,gF];have e:(if S i=true then act i x else x)=(if S' i=true then act i x else x):=by
   by_cases hd:S i=S' i
   . rw[hd]
   . rw[h i (by simp) hd];simp
  rw[e];exact lX fun j hj=>h j (by simp[hj])
theorem qg:∀{l:List Nat} {x:α},(∀i∈l,S i=false)->gF act S l x=x
 | [],_,_=>rfl
 |i::l,x,h=>by
  rw[gF,h i (by simp)];simp only[dx,bG];exact qg fun j hj=>h j (by simp[hj])
theorem CN(A:α->α):∀{l:List Nat} {x:α},(∀j∈l,S j=true->∀b,act j (A b)=A (act j b))->gF act S l (A x)=A (gF act S l x)
 | [],_,_=>rfl
 |j::l,x,h=>by
  rw[gF,gF];by_cases hs:S j=true
  . simp only[hs,bD];rw[h j (by simp) hs];exact CN A fun k hk=>h k (by simp[hk])
  . simp only[hs];exact CN A fun k hk=>h k (by simp[hk])
theorem u7{i:Nat}(hS:∀j,S' j=(S j||Nat.beq j i))(hi:S i=false):∀{l:List Nat} {x:α},l.Pairwise (· < ·)->i∈l->
 (∀j∈l,i<j->S j=true->∀b,act j (act i b)=act i (act j b))->gF act S' l x=act i (gF act S l x)
 | [],_,_,h,_=>by simp at h
 |j::l,x,hp,hm,h=>by
  rw[gF,gF];have hp':=List.pairwise_cons.1 hp;by_cases hji:j=i
  . subst hji;have h1:S' j=true:=by rw[hS,bh];simp
    rw[h1,hi];simp only[bD,dx,bG];have e:gF act S' l (act j x)=gF act S l (act j x):=lX fun k hk hne=>by
     exfalso;have hkj:=hp'.1 k hk;have:Nat.beq k j=false:=by
      cases hb:Nat.beq k j
      . rfl
      . have:=av hb;omega
     rw[hS,this] at hne;simp at hne
    rw[e];exact CN (act j) fun k hk hs b=>h k (by simp[hk]) (hp'.1 k hk) hs b
  . have hm':i∈l:=by
     rcases List.mem_cons.1 hm with e|e
     . exact absurd e.symm hji
     . exact e
    have:S' j=S j:=by
     rw[hS];have:Nat.beq j i=false:=by
      cases hb:Nat.beq j i
      . rfl
      . exact absurd (av hb) hji
     rw[this];simp
    rw[this];exact u7 hS hi hp'.2 hm' fun k hk=>h k (by simp[hk])
end
theorem Hq:∀(N:List Nat) (h:PT EO),(sV h N).get=dj (fun g=>!bJ g N) h.get
 | [],h=>by funext g;rfl
 |g0::N,h=>by
  rw[sV,Hq N];funext g;unfold dj;rw[na];simp only[show ∀g,bJ g (g0::N)=(bif Nat.beq g g0 then true else bJ g N) from fun _=>rfl];cases hb:Nat.beq g g0 with
  |true=>
   have:=av hb;subst this;cases bJ g N<;>simp
  |false=>
   have:g≠g0:=fun e=>by subst e;rw[bh] at hb;cases hb
   rw[am this];rfl
theorem HN{g:Nat}:∀{ws:Wr} {h:Hp},a8 h ws g=none->h g=none
 | [],_,h=>h
 |p::l,h,hn=>by
  have:=HN (ws:=l) hn;by_cases e:g=p.1
  . rw[e,aT] at this;cases this
  . rwa[aD _ _ _ e] at this
theorem xf{h:PT EO}:∀{l:List Nat} {p:Nat×EO},p∈hU h l->p.1∈l/\h.get p.1=some p.2
 | [],p,hp=>by simp[hU] at hp
 |g::l,p,hp=>by
  unfold hU at hp;split at hp
  . rename_i o ho;rcases List.mem_cons.1 hp with rfl|hp
    . exact⟨by simp,ho⟩
    . have:=xf hp;exact⟨by simp[this.1],this.2⟩
  . have:=xf hp;exact⟨by simp[this.1],this.2⟩
theorem Hr{h:PT EO}{g:Nat}{o:EO}(ho:h.get g=some o):∀{l:List Nat},g∈l->(g,o)∈hU h l
 | [],hg=>by cases hg
 |g'::l,hg=>by
  unfold hU;rcases List.mem_cons.1 hg with rfl|hg
  . rw[ho];simp
  . have:=Hr ho hg;split
    . simp[this]
    . exact this
theorem Ry{h:PT EO}{h0:Hp}{l:List Nat}(h1:∀g,g∉l->h.get g=h0 g)(h2:∀g,h.get g=none->h0 g=none):a8 h0 (hU h l)=h.get:=by
 funext g;refine Jb (fun p hp e=>?_) ?_
 . have:=(xf hp).2;rw[e] at this;exact this.symm
 . by_cases hg:g∈l
   . cases ho:h.get g with
     |some o=>exact .inl ⟨_,Hr ho hg,rfl⟩
     |none=>exact .inr (h2 g ho)
   . exact .inr (h1 g hg).symm
section
variable {X:EX}{F:qe->Option FnE}{orc:qe->List ES->Hs->Option (ES × Hs)}{call:qe->List ES->Hs->Option (ES × Hs)}{yld:Nat->List ES->Hs->Option Hs}
theorem GZ{l:List Nat}:∀{ws:Wr},vu l ws=true->∀p∈ws,bJ p.1 l=true
 | [],_,p,hp=>by cases hp
 |q::ws,h,p,hp=>by
  simp only[vu,az] at h;rcases List.mem_cons.1 hp with rfl|hp
  . exact h.1
  . exact GZ h.2 p hp
theorem Qu(horc:iX X orc)(hcall:oq X call)(hyld:qA X yld){tab:List Nat}{nx0 k:Nat}{log:List Le}{os:List X4}{o:X4}{m:Nat->ES}{s s':Hs}{r:ES}{l:Le}
 (he:DE (X.ee F orc) call yld tab nx0 k log os o.op (aj m) s=some (r,s',l)) :
 LogOk s s'/\s'.h.get=a8 s.h.get l.wr/\OneOk X o m (dj l.vis s.h.get) r (a8 (dj l.vis s.h.get) l.wr)/\∀p∈l.wr,l.vis p.1=true:=by
 unfold DE at he;split at he
 . rename_i fo args hc;obtain⟨ax,ats,ho,rfl⟩:=A7 hc;generalize vH tab k log k++va tab nx0 k os (k+1)=N at he;simp only at he;split at he
   . rename_i r0 s1 hce;obtain⟨l1,l2⟩:=IR horc hcall hyld ho hce;have h0:(sV s.h N).get=dj (fun g=>!bJ g N) s.h.get:=Hq N s.h;have hws:a8 (sV s.h N).get (hU s1.h s1.wl)=s1.h.get:=Ry (fun g hg=>l1.1 g hg) (fun g hg=>l1.2.2 g hg);cases hchk:(hU s1.h s1.wl).all (fun p=>!bJ p.1 N) with
     |false=>rw[hchk] at he;cases he
     |true=>
      rw[hchk] at he;simp only[af,ae,aA] at he;obtain⟨rfl,rfl,rfl⟩:=he;have hget:(match N with | []=>s1.h|_=>jK s.h (hU s1.h s1.wl)).get=a8 s.h.get (hU s1.h s1.wl):=by
       cases N with
       |nil=>exact hws.symm
       |cons=>exact pX _ _
      refine⟨⟨fun g hg=>?_,fun g hg=>Nz _ hg,fun g hg=>?_⟩,hget,?_,fun p hp=>?_⟩
      . show(match N with | []=>s1.h|_=>jK s.h (hU s1.h s1.wl)).get g=_;rw[hget];exact rS fun p hp e=>hg (NA _ (e▸(xf hp).1))
      . have hg:(match N with | []=>s1.h|_=>jK s.h (hU s1.h s1.wl)).get g=none:=hg;rw[hget] at hg;exact HN hg
      . show OneOk X o m (dj (fun g=>!bJ g N) s.h.get) r0 (a8 (dj (fun g=>!bJ g N) s.h.get) (hU s1.h s1.wl));rw[<-h0,hws];exact l2
      . exact List.all_eq_true.1 hchk p hp
   . cases he
 . rw[bd] at he;simp only at he;split at he
   . rename_i r0 ws hop;cases hsub:vu ((nx0+k)::MT o.op (aj m)) ws with
     |false=>rw[hsub] at he;cases he
     |true=>
      rw[hsub] at he;simp only[af,oa,ae,aA] at he;obtain⟨rfl,rfl,rfl⟩:=he;refine⟨LogOk.wr _ _ _,pX _ _,?_,fun p hp=>GZ hsub p hp⟩;exact uC hop
   . cases he
def qN(X:EX)(all:Array X4)(o:X4)(tm:Nat->ES)(h:Hp)(x:ES×Le):Prop :=
 ((jc all (jA (fP all o) tm) o=some true/\OneOk X o (jA (fP all o) tm) (dj x.2.vis h) x.1 (a8 (dj x.2.vis h) x.2.wr))\/(jc all (jA (fP all o) tm) o=some false/\x.1=.und/\x.2.wr=[]))/\∀p∈x.2.wr,x.2.vis p.1=true
def nR(tm:Nat->ES)(l:List (X4×ES×Le)):Nat->ES:=l.foldl (fun tm p=>cT tm p.1.dst p.2.1) tm
def nS(h:Hp)(l:List (X4×ES×Le)):Hp:=l.foldl (fun h p=>a8 h p.2.2.wr) h
theorem Qv(horc:iX X orc)(hcall:oq X call)(hyld:qA X yld){all:Array X4}{tab:List Nat}{nx0:Nat}:∀{os:List X4} {k:Nat} {log log':List Le} {s s':Sg},qs (X.ee F orc) call yld all tab nx0 os k log s=some (s',log')->
 LogOk s.s s'.s/\∃recs:List (ES×Le),recs.length=os.length/\(∀i o x,os[i]?=some o->recs[i]?=some x->qN X all o (nR s.tm.sl ((os.zip recs).take i)) (nS s.s.h.get ((os.zip recs).take i)) x)/\
  s'.tm.sl=nR s.tm.sl (os.zip recs)/\s'.s.h.get=nS s.s.h.get (os.zip recs)/\log'=(recs.map Prod.snd).reverse++log:=by
 intro os;induction os with
 |nil=>
  intro k log log' s s' he;simp only[qs,ae,aA] at he;obtain⟨rfl,rfl⟩:=he;exact⟨LogOk.refl _,[],rfl,fun i o x h=>by simp at h,rfl,rfl,rfl⟩
 |cons o os ih=>
  intro k log log' s s' he;unfold qs at he;simp only at he;have key:∃(r:ES) (hs:Hs) (l:Le),LogOk s.s hs/\hs.h.get=a8 s.s.h.get l.wr/\qN X all o s.tm.sl s.s.h.get (r,l)/\qs (X.ee F orc) call yld all tab nx0 os (k+1) (l::log) ⟨nC s.tm o.dst r,hs⟩=some (s',log'):=by
   split at he
   . rename_i hy;split at he
     . rename_i r hs l h1;rw[m8,oa] at he;obtain⟨l1,l2,l3,l4⟩:=Qu horc hcall hyld h1;exact⟨r,hs,l,l1,l2,⟨.inl ⟨hy,l3⟩,l4⟩,he⟩
     . cases he
   . rename_i hy;rw[oa] at he;exact⟨.und,s.s,⟨true,[],[]⟩,LogOk.refl _,rfl,⟨.inr ⟨hy,rfl,rfl⟩,fun p hp=>by cases hp⟩,he⟩
   . cases he
  obtain⟨r,hs,l,l1,l2,hf,he'⟩:=key;obtain⟨j1,recs,j2,j3,j4,j5,j6⟩:=ih he';have e1:(nC s.tm o.dst r).sl=cT s.tm.sl o.dst r:=Jz _ _ _;simp only at j3 j4 j5;rw[e1] at j3 j4;rw[l2] at j3 j5;refine⟨l1.trans j1,(r,l)::recs,by simp[j2],fun i o' x hi hx=>?_,j4,j5,by rw[j6];simp⟩;cases i with
  |zero=>simp at hi hx;subst hi;subst hx;exact hf
  |succ i=>exact j3 i o' x (by simpa using hi) (by simpa using hx)
theorem Wb{ro:Option Nat}{E:EEnv}(hI:∀w',BelowO E.own E.w0 w'->X.I w'){nt:Nat}{H:ah}{U:Bm}{tm tm':Nat->ES}{h h':Hp}{a:Act}{w:my}{all:Array X4}{o:X4}{x:ES×Le}(hd:∀d,o.dst=some d->d<nt)
 (hS:ESt X E nt H U tm' h' a w) {mo:Nat->Prop} (hM:MarksOk mo a.defers w) (hf:qN X all o tm h x) (hm:∀t∈fP all o,tm' t=tm t) (hv:∀g,x.2.vis g=true->h' g=h g) {K:Act->my->Prop} {Q:X6->Act->my->Prop}
 (hK:∀H' U' a' w',HLe H H'->BLe U U'->ESt X E nt H' U' (cT tm' o.dst x.1) (a8 h' x.2.wr) a' w'->MarksOk mo a'.defers w'->MarkSame w w'->K a' w') :
 if Region.wanted o (yielded all a.tmps) then o.wpIn (FW ro) 0 X.P a w K Q else(∀f,o.about X.P w a.eval=some f->(FW ro).fn f)/\K (a.put o.dst undef) w:=by
 have em:jA (fP all o) tm=jA (fP all o) tm':=by
  funext t;unfold jA;cases hb:bJ t (fP all o) with
  |false=>rfl
  |true=>rw[hm t (js.1 hb)]
 have eh:dj x.2.vis h=dj x.2.vis h':=by
  funext g;unfold dj;cases hb:x.2.vis g with
  |false=>rfl
  |true=>rw[hv g hb]
 unfold qN at hf;rw[em,eh] at hf;obtain⟨hf,hvis⟩:=hf;have hS0:ESt X (tc E x.2.vis h' H U w) nt H U (jA (fP all o) tm') (dj x.2.vis h') a w:=⟨hS.sim.hide _,fun t=>by
  unfold jA;cases bJ t (fP all o) with
  |false=>trivial
  |true=>exact hS.slot t,hS.size⟩
 rcases hf with⟨hy,ho⟩|⟨hy,hr,hw⟩
 . rw[uK hS0 hy];simp only[bD];refine ho ro (tc E x.2.vis h' H U w) (fun w' hb=>hI w' (hS.sim.below.trans (hb.mono fun k hk=>hk.1))) nt H U a w K Q hS0 fun v H' U' w' h1 h2 h3 h4 h5=>?_;exact hK H' U' _ w' h1 h2 (hS.fin hd h1 h2 (hS.sim.unhide h1 h2 h3 hvis) h5) (by rw[uh];exact hM.keep h4) h4
 . rw[uK hS0 hy];simp only[dx,bG];rw[hr,hw] at hK;exact⟨fun _ _=>trivial,hK H U _ w (HLe.refl _) (BLe.refl _) (hS.fin hd (HLe.refl _) (BLe.refl _) hS.sim (r:=.und) rfl) (by rw[uh];exact hM) (MarkSame.refl _)⟩
end
def qX(D:Nat->Option Nat)(L:Nat->ES×Le)(t i:Nat)(x:ES):ES:=if D i=some t then(L i).1 else x
def qY(L:Nat->ES×Le)(g i:Nat)(x:Option EO):Option EO:=a8 (fun _=>x) (L i).2.wr g
theorem BO{L:Nat->ES×Le}{g i:Nat}(h:∀p∈(L i).2.wr,p.1≠g)(x:Option EO):qY L g i x=x:=rS h
theorem I5{D:Nat->Option Nat}{L:Nat->ES×Le}{i:Nat}{dst:Option Nat}(hD:D i=dst)(tm:Nat->ES)(t:Nat):cT tm dst (L i).1 t=qX D L t i (tm t):=by
 unfold qX;rw[hD];cases dst with
 |none=>simp[cT]
 |some d=>
  by_cases h:d=t
  . subst h;simp[cT,aT]
  . simp[cT,h,aD _ _ _ (kP h)]
theorem I6(L:Nat->ES×Le)(i:Nat)(h:Hp)(g:Nat):a8 h (L i).2.wr g=qY L g i (h g):=Bk rfl
def jd(D:Nat->Option Nat)(L:Nat->ES×Le)(n:Nat)(S:Nat->Bool)(tm:Nat->ES):Nat->ES:=fun t=>gF (qX D L t) S (List.range n) (tm t)
def je(L:Nat->ES×Le)(n:Nat)(S:Nat->Bool)(h:Hp):Hp:=fun g=>gF (qY L g) S (List.range n) (h g)
theorem yX{j i:Nat}(h:j≠i):Nat.beq j i=false:=by
 cases hb:Nat.beq j i
 . rfl
 . exact absurd (av hb) h
theorem LN{os:List X4}{recs:List (ES×Le)}(hl:recs.length=os.length)(D:Nat->Option Nat)(hD:∀i o,os[i]?=some o->D i=o.dst)(tm:Nat->ES)(h:Hp):∀k,k<=os.length->
 nR tm ((os.zip recs).take k)=jd D (fun i=>recs.getD i default) os.length (fun j=>decide (j<k)) tm/\
 nS h ((os.zip recs).take k)=je (fun i=>recs.getD i default) os.length (fun j=>decide (j<k)) h:=by
 intro k;induction k with
 |zero=>
  intro _;refine⟨?_,?_⟩
  . funext t;exact(qg fun i _=>by simp).symm
  . funext g;exact(qg fun i _=>by simp).symm
 |succ k ih=>
  intro hk;obtain⟨i1,i2⟩:=ih (by omega);have ho:os[k]?=some os[k]:=by simp
  have hz:(os.zip recs)[k]?=some (os[k],recs[k]'(by omega)):=by
   rw[List.getElem?_zip_eq_some];exact⟨ho,by simp⟩
  have hg:recs.getD k default=recs[k]'(by omega):=by
   have:k<recs.length:=by omega
   simp[this]
  have hS:∀j,decide (j<k+1)=(decide (j<k)||Nat.beq j k):=by
   intro j;by_cases h1:j<k
   . simp[h1];omega
   . by_cases h2:j=k
     . subst h2;simp[bh]
     . simp[h1,yX h2];omega
  have hm:k∈List.range os.length:=List.mem_range.2 (by omega);constructor
  . rw[gg,nR,AE,hz];funext t;have i1':List.foldl (fun tm p=>cT tm p.1.dst p.2.1) tm ((os.zip recs).take k)=_:=i1;rw[i1'];simp only[E6,kL,tK];rw[<-hg,I5 (L:=fun i=>recs.getD i default) (hD k _ ho)];exact(u7 (act:=qX D (fun i=>recs.getD i default) t) (i:=k) hS (by simp) wg hm fun j hj h1 h2=>absurd h2 (by simp;omega)).symm
  . rw[gg,nS,AE,hz];funext g;have i2':List.foldl (fun h p=>a8 h p.2.2.wr) h ((os.zip recs).take k)=_:=i2;rw[i2'];simp only[E6,kL,tK];rw[<-hg,I6 (fun i=>recs.getD i default) k];exact(u7 (act:=qY (fun i=>recs.getD i default) g) (i:=k) hS (by simp) wg hm fun j hj h1 h2=>absurd h2 (by simp;omega)).symm
section
variable {X:EX}{all:Array X4}{tab:List Nat}{nt:Nat}{E:EEnv}{ro:Option Nat}
theorem Mt(hI:∀w',BelowO E.own E.w0 w'->X.I w')(hd:cJ nt all.toList=true)(hf:Flow all tab){tm:Nat->ES}{h:Hp}{D:Nat->Option Nat}(hD:∀i o,all[i]?=some o->D i=o.dst)(L:Nat->ES×Le)
 (hfact:∀i o,all[i]?=some o->qN X all o (jd D L all.size (fun j=>decide (j<i)) tm) (je L all.size (fun j=>decide (j<i)) h) (L i))
 (hconf:∀i j,i<all.size->j<all.size->dJ tab i j=true\/∀p∈(L i).2.wr,(L j).2.vis p.1=false) {mo:Nat->Prop} {Q:X6->Act->my->Prop} :
 ∀(fuel:Nat) (listed:Array Bool) (S:Nat->Bool) (H:ah) (U:Bm) (a:Act) (w:my),(∀j,j<all.size->listed.getD j true=S j/\listed.getD j false=S j)->((List.range all.size).filter fun j=>!S j).length<=fuel->y7 all S->
  ESt X E nt H U (jd D L all.size S tm) (je L all.size S h) a w->MarksOk mo a.defers w->
  (∀H' U' a' w',HLe H H'->BLe U U'->ESt X E nt H' U' (jd D L all.size (fun _=>true) tm) (je L all.size (fun _=>true) h) a' w'->MarksOk mo a'.defers w'->MarkSame w w'->Q .normal a' w')->wpAnyIn (FW ro) 0 X.P .any all Q fuel listed a w:=by
 have lt:∀{j o},all[j]?=some o->j<all.size:=fun h=>(Array.getElem?_eq_some_iff.1 h).1;have edge_iff:∀{o:X4} {p:Nat->Prop},(∀e∈o.after,Region.binds .any e=true->p e.on)↔∀e∈g9 o,p e:=by
  intro o p;unfold g9;constructor
  . intro h e he;obtain⟨x,hx,e'⟩:=List.mem_filterMap.1 he;cases hb:Region.binds .any x with
    |true=>simp[hb] at e';subst e';exact h x (by simpa using hx) hb
    |false=>simp[hb] at e'
  . intro h x hx hb;exact h _ (List.mem_filterMap.2 ⟨x,by simpa using hx,by simp[hb]⟩)
 have done:∀{listed:Array Bool} {S:Nat->Bool},(∀j,j<all.size->listed.getD j true=S j/\listed.getD j false=S j)->Region.ready .any all listed=[]->∀j,j<all.size->S j=true:=by
  intro listed S hl hr j;induction j using Nat.strongRecOn with
  |_ j ih=>
   intro hj;cases hS:S j with
   |true=>rfl
   |false=>
    have hg:all[j]?=some all[j]:=by simp[hj]
    have:j∈Region.ready .any all listed:=mem_ready.2 ⟨by rw[(hl j hj).1,hS],all[j],hg,(edge_iff (p:=fun e=>listed.getD e false=true)).2 fun e he=>by
     have:=hf.edge j _ hg e he;rw[(hl e (by omega)).2];exact ih e this (by omega)⟩
    rw[hr] at this;simp at this
 have fin:∀{S:Nat->Bool},(∀j,j<all.size->S j=true)->jd D L all.size S tm=jd D L all.size (fun _=>true) tm/\je L all.size S h=je L all.size (fun _=>true) h:=fun hS=>
  ⟨funext fun t=>lX fun i hi hne=>absurd (hS i (List.mem_range.1 hi)) hne,funext fun g=>lX fun i hi hne=>absurd (hS i (List.mem_range.1 hi)) hne⟩
 intro fuel;induction fuel with
 |zero=>
  intro listed S H U a w hl hn hc hs hM hQ;have hS:∀j,j<all.size->S j=true:=fun j hj=>by
   have h0:(List.range all.size).filter (fun j=>!S j)=[]:=rA (by omega);have:=List.filter_eq_nil_iff.1 h0 j (List.mem_range.2 hj);simpa using this
  rw[(fin hS).1,(fin hS).2] at hs;refine⟨?_,hQ H U a w (HLe.refl _) (BLe.refl _) hs hM (MarkSame.refl _)⟩;cases hr:Region.ready .any all listed with
  |nil=>rfl
  |cons i is=>
   have hi:i∈Region.ready .any all listed:=by rw[hr];simp
   obtain⟨h0,o,ho,_⟩:=mem_ready.1 hi;rw[(hl i (lt ho)).1,hS i (lt ho)] at h0;cases h0
 |succ fuel ih=>
  intro listed S H U a w hl hn hc hs hM hQ;refine⟨fun hr=>?_,fun i hi=>?_⟩
  . rw[(fin (done hl hr)).1,(fin (done hl hr)).2] at hs;exact hQ H U a w (HLe.refl _) (BLe.refl _) hs hM (MarkSame.refl _)
  obtain⟨h0,o,ho,hall⟩:=mem_ready.1 hi;have hilt:=lt ho;have hSi:S i=false:=by rw[<-(hl i hilt).1];exact h0
  have hre:∀e∈g9 o,S e=true:=fun e he=>by
   have:=hf.edge i o ho e he;rw[<-(hl e (by omega)).2];exact(edge_iff (p:=fun e=>listed.getD e false=true)).1 hall e he
  have same:∀j,j<all.size->dJ tab i j=true->decide (j<i)=S j:=fun j hj hn=>hf.near_same hc ho (show all[j]?=some all[j] by simp[hj]) hre hSi hn;have hfa:=hfact i o ho;unfold wpOpIn;simp only[ho];refine Wb hI (n9 hd (by simpa using Nc ho)) hs hM hfa (fun t ht=>?_) (fun g hg=>?_) fun H' U' a' w' k1 k2 k3 k4 k5=>?_
  . refine lX fun j hj hne x=>?_;have hj:=List.mem_range.1 hj;have hgj:all[j]?=some all[j]:=by simp[hj]
    unfold qX;rw[am fun hdj=>?_];have:=same j hj (hf.looks i o ho t ht j _ hgj (by rw[<-hD j _ hgj];exact hdj));exact hne this.symm
  . refine lX fun j hj hne x=>BO (fun p hp e=>?_) x;have hj:=List.mem_range.1 hj;rcases hconf j i hj hilt with hn|hm
    . rw[Bz] at hn;exact hne (same j hj hn).symm
    . have:=hm p hp;rw[e,hg] at this;cases this
  . refine ih _ (fun j=>S j||Nat.beq j i) H' U' a' w' (fun j hj=>?_) ?_ ?_ ?_ k4 fun H2 β2 a2 w2 j1 j2 j3 j4 j5=>hQ H2 β2 a2 w2 (k1.trans j1) (k2.trans j2) j3 j4 (k5.trans j5)
    . by_cases hji:j=i
      . subst hji;have hsz:j<listed.size:=by
         rcases fx j listed.size with h'|h'
         . exact h'
         . simp[tP h'] at h0
        simp[hsz,bh]
      . rw[E4 true (kP hji),E4 false (kP hji),yX hji,E3];exact hl j hj
    . have:=Go.Proofs.Fl.BJ (p:=fun j=>!S j) (p':=fun j=>!(S j||Nat.beq j i)) (i:=i) (by simp[hSi]) (by simp[bh]) (fun j hj=>by simp at hj ⊢;exact hj.1) (List.mem_range.2 hilt);omega
    . intro j o' hj hSj e he;simp only[g6] at hSj ⊢;rcases hSj with hSj|hSj
      . exact .inl (hc j o' hj hSj e he)
      . have:=av hSj;subst this;rw[ho] at hj;cases hj;exact .inl (hre e he)
    . have hnn:∀j,j<all.size->i<j->S j=true->dJ tab i j=false:=fun j hj hij hSj=>by
       cases hn:dJ tab i j with
       |false=>rfl
       |true=>
        have:=same j hj hn;rw[hSj] at this;simp at this;omega
      have e1:jd D L all.size (fun j=>S j||Nat.beq j i) tm=cT (jd D L all.size S tm) o.dst (L i).1:=by
       funext t;rw[I5 (hD i o ho)];refine u7 (act:=qX D L t) (i:=i) (fun _=>rfl) hSi wg (List.mem_range.2 hilt) fun j hj hij _ b=>?_;have hj:=List.mem_range.1 hj;have hgj:all[j]?=some all[j]:=by simp[hj]
       unfold qX;by_cases h1:D i=some t
       . by_cases h2:D j=some t
         . have:=hf.uniq j i _ o t hgj ho (by rw[<-hD j _ hgj];exact h2) (by rw[<-hD i _ ho];exact h1);omega
         . rw[am h2,am h2]
       . rw[am h1,am h1]
      have e2:je L all.size (fun j=>S j||Nat.beq j i) h=a8 (je L all.size S h) (L i).2.wr:=by
       funext g;rw[I6];refine u7 (act:=qY L g) (i:=i) (fun _=>rfl) hSi wg (List.mem_range.2 hilt) fun j hj hij hSj b=>?_;have hj:=List.mem_range.1 hj;have hn0:=hnn j hj hij hSj;have m1:=(hconf i j hilt hj).resolve_left (by rw[hn0];simp);by_cases hgi:∃p∈(L i).2.wr,p.1=g
       . obtain⟨p,hp,hpg⟩:=hgi;have hjd:∀b,qY L g j b=b:=BO fun q hq hqg=>by
          have hgj:all[j]?=some all[j]:=by simp[hj]
          have:=(hfact j _ hgj).2 q hq;rw[hqg,<-hpg,m1 p hp] at this;cases this
         rw[hjd,hjd]
       . have hid:∀b,qY L g i b=b:=BO fun q hq hqg=>hgi ⟨q,hq,hqg⟩;rw[hid,hid]
      rw[e1,e2];exact k3
theorem FP{tab:List Nat}{i:Nat}{ws:Wr}:∀{ls:List Le} {k:Nat},xH tab i ws ls k=true->∀j l,ls[j]?=some l->dJ tab i (k+j)=true\/∀p∈ws,l.vis p.1=false
 | [],_,_,j,l,h=>by simp at h
 |l'::ls,k,h,j,l,hl=>by
  simp only[xH,az,g6] at h;cases j with
  |zero=>
   simp at hl;subst hl;exact h.1.imp id fun h p hp=>by simpa using List.all_eq_true.1 h p hp
  |succ j=>
   have:=FP h.2 j l (by simpa using hl);rwa[show k+1+j=k+(j+1) by omega] at this
theorem GP{tab:List Nat}{all:List Le}:∀{ls:List Le} {k:Nat},vn tab all ls k=true->∀i x,ls[i]?=some x->∀j l,all[j]?=some l->dJ tab (k+i) j=true\/∀p∈x.wr,l.vis p.1=false
 | [],_,_,i,x,h=>by simp at h
 |l'::ls,k,h,i,x,hx=>by
  simp only[vn,az] at h;intro j l hl;cases i with
  |zero=>
   simp at hx;subst hx;have h1:=h.1;split at h1
   . rename_i hw;exact .inr fun p hp=>by rw[hw] at hp;cases hp
   . simpa using FP h1 j l hl
  |succ i=>
   have:=GP h.2 i x (by simpa using hx) j l hl;rwa[show k+1+i=k+(i+1) by omega] at this
end
def Sound(X:EX)(rd:Bool)(nt:Nat)(c:X5)(s:Sg)(e:X6)(s':Sg):Prop :=
 LogOk s.s s'.s/\∀(ro:Option Nat),(rd=false->ro=none)->∀(E:EEnv),(∀w',BelowO E.own E.w0 w'->X.I w')->∀(w0:my) (H:ah) (U:Bm) (a:Act) (w:my) (Q:X6->Act->my->Prop),vW X E w0 nt H U s a w->
  (∀a' w',EPost X E w0 nt H U w s' a' w'->Q e a' w')->c.wpIn (FW ro) 0 X.P Q a w
section
variable {X:EX}{F:qe->Option FnE}{orc:qe->List ES->Hs->Option (ES × Hs)}{call:qe->List ES->Hs->Option (ES × Hs)}{yld:Nat->List ES->Hs->Option Hs}
theorem RF(horc:iX X orc)(hcall:oq X call)(hyld:qA X yld){rd:Bool}{nt id:Nat}{all:Array X4}{draw:Bool}{s s':Sg}(he:DX (X.ee F orc) call yld nt all draw s=some s'):Sound X rd nt (.region id all draw) s .normal s':=by
 unfold DX at he;cases hd:cJ nt all.toList with
 |false=>rw[hd] at he;cases he
 |true=>
  rw[hd] at he;simp only[af] at he;cases draw with
  |false=>
   obtain⟨h1,h2⟩:=RG horc hcall hyld he;exact⟨h1,fun ro _ E hI w0 H U a w Q hS hQ=>wi (h2 ro E hI w0 nt Q H U a w hd hS hQ)⟩
  |true=>
   cases hfl:oB all (kC all.toList) with
   |false=>rw[hfl] at he;cases he
   |true=>
    rw[hfl] at he;simp only[af] at he;split at he
    . rename_i s2 log hdr;cases hcf:vn (kC all.toList) log.reverse log.reverse 0 with
      |false=>rw[hcf] at he;cases he
      |true=>
       rw[hcf] at he;simp only[af,ae] at he;subst he;have hflow:=CS hfl;obtain⟨l1,recs,e1,e2,e3,e4,e5⟩:=Qv horc hcall hyld hdr;have hlen:all.toList.length=all.size:=by simp
       let D:Nat->Option Nat:=fun i=>(all[i]?).bind (·.dst)
       have hD:∀i o,all[i]?=some o->D i=o.dst:=fun i o ho=>by simp[D,ho]
       have hD':∀i o,all.toList[i]?=some o->D i=o.dst:=fun i o ho=>hD i o (by simpa using ho);have zf:=LN e1 D hD' s.tm.sl s.s.h.get;rw[hlen] at zf;have htk:(all.toList.zip recs).take all.size=all.toList.zip recs:=aC (by simp[e1]);have hall:=zf all.size (ak _);rw[htk] at hall;simp only at e2 e3 e4;rw[hall.1] at e3;rw[hall.2] at e4;have t1:jd D (fun i=>recs.getD i default) all.size (fun j=>decide (j<all.size)) s.tm.sl=jd D (fun i=>recs.getD i default) all.size (fun _=>true) s.tm.sl :=
        funext fun t=>lX fun i hi hne=>by have:=List.mem_range.1 hi;simp[this] at hne
       have t2:je (fun i=>recs.getD i default) all.size (fun j=>decide (j<all.size)) s.s.h.get=je (fun i=>recs.getD i default) all.size (fun _=>true) s.s.h.get :=
        funext fun t=>lX fun i hi hne=>by have:=List.mem_range.1 hi;simp[this] at hne
       rw[t1] at e3;rw[t2] at e4;have hrec:∀i,i<all.size->recs[i]?=some (recs.getD i default):=fun i hi=>by
        have:i<recs.length:=by omega
        simp[this]
       have hlog:log.reverse=recs.map Prod.snd:=by rw[e5];simp
       refine⟨l1,fun ro _ E hI w0 H U a w Q hS hQ=>?_⟩;refine Nd X.hm (Mt (tm:=s.tm.sl) (h:=s.s.h.get) hI hd hflow hD (fun i=>recs.getD i default) (fun i o ho=>?_) (fun i j hi hj=>?_) all.size _ (fun _=>false) H U a _ (fun j hj=>?_) ?_ ?_ ?_ ?_ fun H' U' a' w' h1 h2 h3 h4 h5=>hQ a' w' ⟨H',U',h1,h2,⟨by rw[e3,e4];exact h3,h4,hS.2.2.trans h5⟩,?_⟩)
       . have hlt:i<all.size:=(Array.getElem?_eq_some_iff.1 ho).1;have:=e2 i o _ (by simpa using ho) (hrec i hlt);rw[(zf i (by omega)).1,(zf i (by omega)).2] at this;exact this
       . rw[hlog] at hcf;have:=GP hcf i (recs.getD i default).2 (by rw[bQ,hrec i hi];rfl) j (recs.getD j default).2 (by rw[bQ,hrec j hj];rfl);rwa[aU] at this
       . simp[hj]
       . exact aY (AF _ _) (by simp)
       . intro j o _ h;cases h
       . have z1:jd D (fun i=>recs.getD i default) all.size (fun _=>false) s.tm.sl=s.tm.sl:=funext fun t=>qg fun _ _=>rfl;have z2:je (fun i=>recs.getD i default) all.size (fun _=>false) s.s.h.get=s.s.h.get:=funext fun t=>qg fun _ _=>rfl;rw[z1,z2];exact⟨hS.1.sim.sm rfl rfl rfl rfl,hS.1.slot,hS.1.size⟩
       . exact hS.2.1.keep fun _ _=>rfl
       . exact fun Dd hD=>h5 Dd hD
    . cases he
end
section
variable {X:EX}
def LoopS(X:EX)(rd:Bool)(nt:Nat)(b:X5)(s:Sg)(e:X6)(s':Sg):Prop :=
 ∃m,∀(ro:Option Nat),(rd=false->ro=none)->∀(E:EEnv),(∀w',BelowO E.own E.w0 w'->X.I w')->∀(w0:my) (H:ah) (U:Bm) (a:Act) (w:my) (Q:X6->Act->my->Prop),vW X E w0 nt H U s a w->
  (∀a' w',EPost X E w0 nt H U w s' a' w'->Q e a' w')->Code.roundsIn (FW ro) 0 X.P b Q m a w
def tt(X:EX)(ev:Bool->Nat->X5->Sg->Option (X6×Sg)):Prop:=∀rd nt c s e s',ev rd nt c s=some (e,s')->Sound X rd nt c s e s'/\∀b,c=.loop b->LoopS X rd nt b s e s'
theorem Oc{rd:Bool}{nt:Nat}{b:X5}{s s':Sg}{e:X6}(hl:LogOk s.s s'.s)(h:LoopS X rd nt b s e s'):Sound X rd nt (.loop b) s e s':=by
 obtain⟨m,h⟩:=h;exact⟨hl,fun ro hro E hI w0 H U a w Q hS hQ=>Fu m (h ro hro E hI w0 H U a w Q hS hQ)⟩
theorem Sound.seq{rd:Bool}{nt:Nat}{x y:X5}{s s1 s':Sg}{e:X6}(h1:Sound X rd nt x s .normal s1)(h2:Sound X rd nt y s1 e s'):Sound X rd nt (.seq x y) s e s' :=
 ⟨h1.1.trans h2.1,fun ro hro E hI w0 H U a w Q hS hQ=>wpIn_seq (h1.2 ro hro E hI w0 H U a w _ hS fun a1 w1 hp=>by
  obtain⟨H1,β1,p1,p2,p3,p4⟩:=hp;exact h2.2 ro hro E hI w0 H1 β1 a1 w1 Q p3 fun a' w' hp'=>hQ a' w' (hp'.trans p1 p2 p4))⟩
theorem Sound.seqX{rd:Bool}{nt:Nat}{x y:X5}{s s':Sg}{e:X6}(h1:Sound X rd nt x s e s')(he:e≠ .normal):Sound X rd nt (.seq x y) s e s' :=
 ⟨h1.1,fun ro hro E hI w0 H U a w Q hS hQ=>wpIn_seq (h1.2 ro hro E hI w0 H U a w _ hS fun a1 w1 hp=>by
  cases e<;>first|exact absurd rfl he|exact hQ _ _ hp)⟩
theorem Sound.block{rd:Bool}{nt id:Nat}{c:X5}{s s':Sg}{e:X6}(h:Sound X rd nt c s e s'):Sound X rd nt (.block id c) s (match e with | .exit i=>bif Nat.beq i id then .normal else .exit i|e=>e) s' :=
 ⟨h.1,fun ro hro E hI w0 H U a w Q hS hQ=>wpIn_block (h.2 ro hro E hI w0 H U a w _ hS fun a1 w1 hp=>by
  have hq:=hQ a1 w1 hp;cases e with
  |exit i=>
   simp only[Exit.inBlock];by_cases hi:i=id
   . subst hi;simp only[bh,af] at hq;simp only[bD];exact hq
   . simp only[yX hi,aX] at hq;simp only[hi,bG];exact hq
  |_=>exact hq)⟩
theorem Sound.cond{rd:Bool}{nt:Nat}{c:X0}{x y:X5}{t:Bool}{s s':Sg}{e:X6}(hc:aj s.tm.sl c=.w (.one (.iv (.bool t))))(h:Sound X rd nt (match t with|true=>x|false=>y) s e s'):Sound X rd nt (.cond c x y) s e s' :=
 ⟨h.1,fun ro hro E hI w0 H U a w Q hS hQ=>by
  have hv:=bp hS.1 c;rw[hc] at hv;refine E5 (SRe.bool hv) (fun e=>?_) (fun e=>?_)
  . subst e;exact h.2 ro hro E hI w0 H U a w Q hS hQ
  . subst e;exact h.2 ro hro E hI w0 H U a w Q hS hQ⟩
theorem PE{rd:Bool}{nt:Nat}{b:X5}{s s1 s':Sg}{e:X6}(h1:Sound X rd nt b s .normal s1)(h2:LoopS X rd nt b s1 e s'):LoopS X rd nt b s e s':=by
 obtain⟨m,h2⟩:=h2;refine⟨m+1,fun ro hro E hI w0 H U a w Q hS hQ=>?_⟩;rw[tZ];refine h1.2 ro hro E hI w0 H U a w _ hS fun a1 w1 hp=>?_;obtain⟨H1,β1,p1,p2,p3,p4⟩:=hp;exact h2 ro hro E hI w0 H1 β1 a1 w1 Q p3 fun a' w' hp'=>hQ a' w' (hp'.trans p1 p2 p4)
theorem QI{rd:Bool}{nt:Nat}{b:X5}{s s':Sg}{e:X6}(h1:Sound X rd nt b s e s')(he:e≠ .normal):LoopS X rd nt b s e s':=by
 refine⟨1,fun ro hro E hI w0 H U a w Q hS hQ=>?_⟩;rw[tZ];refine h1.2 ro hro E hI w0 H U a w _ hS fun a1 w1 hp=>?_;cases e<;>first|exact absurd rfl he|exact hQ _ _ hp
theorem OR.poke{Z:QS}{own:Nat->Prop}{w w':my}{H:ah}{U:Bm}{g:Nat}{o:EO}(hw:∀(k:Nat) x,w.heap[k]?=some x->(∀d,x≠ .deferred d)->w'.heap[k]?=some x)(h:OR Z own w H U g o):OR Z own w' H U g o:=by
 cases o with
 |mem e cs fz vs cnt=>exact⟨h.1,fun u p hup=>by
  obtain⟨h1,k,arr,h2,h3,h4,h5,h6⟩:=h.2 u p hup;exact⟨h1,k,arr,h2,h3,h4,hw _ _ h5 (by simp),h6⟩⟩
 |map es ck=>obtain⟨k,ents,h1,h2,h3,h4,h5⟩:=h;exact⟨k,ents,h1,h2,h3,hw _ _ h4 (by simp),h5⟩
 |iter gm since seen last cur=>obtain⟨k,km,sn,h1,h2,h3,h4,h5,h6⟩:=h;exact⟨k,km,sn,h1,h2,h3,h4,hw _ _ h5 (by simp),h6⟩
 |loop busy nt tm ps assign body=>obtain⟨k,L,h1,h2,h3,h4,h5⟩:=h;exact⟨k,L,h1,h2,h3,hw _ _ h4 (by simp),h5⟩
 |hid=>trivial
theorem ESim.poke{Z:QS}{E:EEnv}{H:ah}{U:Bm}{h:Hp}{w:my}(hS:ESim Z E H U h w){D:Nat}{d d':Option (List Deferred)}(hD:w.heap[D]?=some (.deferred d))(ho:E.own D):ESim Z E H U h (w.putObj D (.deferred d')):=by
 have hw:∀(k:Nat) x,w.heap[k]?=some x->(∀d,x≠ .deferred d)->(w.putObj D (.deferred d')).heap[k]?=some x:=fun k x hk hx=>by
  refine(cH fun e=>?_).trans hk;subst e;rw[hD] at hk;cases hk;exact hx _ rfl
 refine⟨fun b arr hb=>?_,hS.below.trans ⟨rfl,rfl,rfl,by simp,fun k hk=>cH fun e=>hk (by rw[e];exact ho)⟩,fun k hk=>hS.lo k (by simpa using hk),hS.ext,fun g o hg=>(hS.obj g o hg).poke hw,fun g u k hk=>?_,hS.inj,hS.hidb⟩
 . obtain⟨t,fr,ht⟩:=hS.has b arr hb;exact⟨t,fr,hw _ _ ht (by simp)⟩
 . obtain⟨a,b⟩:=hS.dom g u k hk;exact⟨by simpa using a,b⟩
theorem CJ{Z:QS}{P:Tz}{fn:Func}{tmps:Array X3}{R:Ending->my->Prop}{E:EEnv}{H:ah}{U:Bm}{h:Hp}{w0:my}:∀(M:List Deferred) {w:my},ESim Z E H U h w->MarksOk (mo E w0) M w->MarkSame w0 w->
 (∀w',ESim Z E H U h w'->MarkSame w0 w'->∃v,(results fn tmps).run P w'=.ok v w'/\R (.returned v) w')->LeavesInM (FW none) 0 P fn tmps R M .returning w
 | [],w,hS,_,hm,hk=>hk w hS hm
 |d::M,w,hS,hM,hm,hk=>by
  obtain⟨D,e,ho,hb⟩:=hM.2 d (by simp);have hp:=hM.1;refine⟨by simp,.inl ⟨D,w.putObj D (.deferred none),by rw[e],Nf hb,?_⟩⟩;refine CJ M (hS.poke hb ho.1) ⟨(List.pairwise_cons.1 hp).2,fun d' hd'=>?_⟩ (fun D0 hD0=>?_) hk
  . obtain⟨D',e',ho',hb'⟩:=hM.2 d' (eB _ hd');refine⟨D',e',ho',(cH fun e0=>(List.pairwise_cons.1 hp).1 d' hd' (by rw[e,e',e0])).trans hb'⟩
  . refine(cH fun e0=>ho.2 (by rw[<-e0];exact hD0)).trans (hm D0 hD0)
theorem Rm{E:EEnv}{H:ah}{U:Bm}{h:Hp}{w:my}(hS:ESim X.Z E H U h w){t:me}{v:X3}{x r:ES}{ws:Wr}(hx:SRe X.Z H U v x)(he:jB X.T X.Z h t x=some (r,ws)) :
 ∃p u,v=.pointer (some p)/\(loadVar t p).run X.P w=.ok u w/\SRe X.Z H U u r:=by
 unfold jB at he;split at he
 . rename_i ty g u off ht;obtain⟨k,hk,hx⟩:=hx;obtain⟨i,d,z,ok⟩:=aO (X.hT t ty ht);split at he
   . rename_i cs hrd;rw[cZ] at he;obtain⟨k',arr,e,h1,h2,h3,h4,h5,h6⟩:=yB hS hrd;rw[hk] at h1;cases h1;split at he
     . rename_i y hv;simp only[ae,aA] at he;obtain⟨rfl,rfl⟩:=he;have hcell:∀j c,((arr.toList.drop off).take ty.size)[j]?=some c->w.cell? ⟨k.1,off+j,none⟩=some c:=fun j c hc=>by
        rw[pv w _ _ arr e (0,0) h2];rw[cX] at hc;split at hc
        . simpa using hc
        . simp at hc
       rcases mkV_ok hv h4 with⟨q1,q2⟩|⟨q1,v,q2,q3⟩
       . refine⟨_,.agg ((arr.toList.drop off).take ty.size).toArray,hx,?_,q2⟩;have hl:=M4 (P:=X.P) w ⟨k.1,off,none⟩ ((arr.toList.drop off).take ty.size) (fun j c hc=>by rw[eE];exact hcell j c hc);have hlen:((arr.toList.drop off).take ty.size).length=ty.size:=by simp;omega
         rw[hlen] at hl;simp only[loadVar,au,ok.run_agg,q1,ar,bD,ok.run_size,hl,aw]
       . refine⟨_,v,hx,?_,q3⟩;have h0:=hcell 0 v (by rw[q2];rfl);rw[fA] at h0;simp only[loadVar,au,ok.run_agg,q1,ar,dx,bG,run_load,h0]
     . cases he
   . cases he
 . rename_i ty y off ht;obtain⟨b,base,u,arr,hxv,hb,h4,h6⟩:=hx;obtain⟨i,d,z,ok⟩:=aO (X.hT t ty ht);obtain⟨e,fr,h5⟩:=hS.has b arr hb;split at he
   . rename_i r0 hl;cases hrt:r0.isTup with
     |true=>rw[hrt] at he;cases he
     |false=>
      rw[hrt] at he;simp only[aX,ae,aA] at he;obtain⟨rfl,rfl⟩:=he;obtain⟨v',hr,hu⟩:=rI ok h5 h4 h6 hl;exact⟨_,v',hxv,hr,zx hu hrt⟩
   . cases he
 . cases he
theorem xR{E:EEnv}{H:ah}{U:Bm}{h:Hp}{w:my}(hS:ESim X.Z E H U h w){tmps:Array X3}{tm:Nat->ES}(hsl:∀t,SRe X.Z H U (tmps.getD t undef) (tm t)):∀{rs:List ResultVar} {xs:List EW},gV X.T X.Z tm h rs=some xs->
 ∃vs:List X3,(rs.mapM (mq tmps)).run X.P w=.ok vs w/\WRL X.Z H U vs xs
 | [],xs,he=>by
  simp only[gV,ae] at he;subst he;exact⟨[],by simp,ab⟩
 | .tmp t::rs,xs,he=>by
  unfold gV at he;split at he
  . rename_i x ys hx hr;simp only[ae] at he;subst he;obtain⟨vs,e,Vz9⟩:=xR hS hsl hr;have hv:=hsl t;rw[hx] at hv;refine⟨tmps.getD t undef::vs,?_,hv,Vz9⟩;simp only[AG,mq,au,aw,ar,e]
  . cases he
 | .cell a t::rs,xs,he=>by
  unfold gV at he;split at he
  . rename_i x ys hx hr;simp only[ae] at he;subst he;obtain⟨vs,e,Vz9⟩:=xR hS hsl hr;obtain⟨p,u,h1,h2,h3⟩:=Rm hS (hsl a) hx;refine⟨u::vs,?_,h3,Vz9⟩;simp only[AG,mq,h1,asAddr,au,aw,ar,h2,e]
  . cases he
theorem JF{H:ah}{U:Bm}{vs:List X3}{xs:List EW}(h:WRL X.Z H U vs xs):SRe X.Z H U (if h:vs.toArray.size=1 then vs.toArray[0] else .tuple vs.toArray) (jE xs):=by
 cases vs with
 |nil=>cases xs with
  |nil=>exact⟨[],rfl,ab⟩
  |cons=>exact h.elim
 |cons v vs=>cases xs with
  |nil=>exact h.elim
  |cons x xs=>
   cases vs with
   |nil=>cases xs with
    |nil=>exact h.1
    |cons=>exact h.2.elim
   |cons v' vs=>cases xs with
    |nil=>exact h.2.elim
    |cons x' xs=>
     have:¬(v::v'::vs).toArray.size=1:=by simp
     rw[dif_neg this];exact⟨_,rfl,h⟩
theorem Kp:∀(xs:List ES) (i:Nat) (t:PT ES) (m:Nat),(qV xs i t).sl m=if i<=m/\m<i+xs.length then xs.getD (m-i) .und else t.sl m
 | [],i,t,m=>by simp[qV];intro h1 h2;omega
 |x::xs,i,t,m=>by
  rw[qV,Kp xs (i+1)];have e:(t.set i x).sl m=if m=i then x else t.sl m:=by
   unfold PT.sl;rw[na];split<;>rfl
  rw[e];by_cases h1:m=i
  . subst h1;rw[am (by omega),ay rfl,ay (by simp)];simp
  . rw[am h1];by_cases h2:i+1<=m/\m<i+1+xs.length
    . rw[ay h2,ay (by simp;omega)];rw[show m-i=(m-(i+1))+1 by omega];rfl
    . rw[am h2,am (by simp;omega)]
theorem IQ{F:qe->Option FnE}{orc:qe->List ES->Hs->Option (ES×Hs)}{ev:Bool->Nat->X5->Sg->Option (X6×Sg)}(hF:∀f q,F f=some q->∃fn,FnOk X f q fn)(hev:tt X ev):oq X (sX (X.ee F orc) ev):=by
 intro f args s r s' he;unfold sX at he;split at he
 . rename_i q hq;obtain⟨fn,ok⟩:=hF f q hq;cases hb:Nat.ble args.length q.nt with
   |false=>rw[hb] at he;cases he
   |true=>
    rw[hb] at he;simp only[af] at he;have hle:=aG hb;have key:∃e s1 xs,(e=.normal\/e=.ret)/\ev false q.nt q.body ⟨qV args 0 .nil,s⟩=some (e,s1)/\gV X.T X.Z s1.tm.sl s1.s.h.get q.rs=some xs/\r=jE xs/\s'=s1.s:=by
     split at he
     . rename_i s1 hev1;split at he
       . rename_i xs hr;simp only[ae,aA] at he;exact⟨_,s1,xs,.inl rfl,hev1,hr,he.1.symm,he.2.symm⟩
       . cases he
     . rename_i s1 hev1;split at he
       . rename_i xs hr;simp only[ae,aA] at he;exact⟨_,s1,xs,.inr rfl,hev1,hr,he.1.symm,he.2.symm⟩
       . cases he
     . cases he
    obtain⟨e,s1,xs,hne,hev1,hr,rfl,rfl⟩:=key;obtain⟨⟨l1,hsound⟩,_⟩:=hev _ _ _ _ _ _ hev1;refine⟨l1,⟨fn,ok.has,ok.name,by rw[ok.body];rfl⟩,fun E hI H U w vs hS hargs=>?_⟩;have hlen:=hargs.length;refine(wc (n:=0)).1 (wj ok.has ok.body trivial ?_);refine hsound none (fun _=>rfl) E hI w H U _ w _ ⟨⟨hS,fun t=>?_,?_⟩,MarksOk.nil _ _,MarkSame.refl _⟩ fun a0 w1 hp=>?_
    . show SRe _ _ _ _ ((qV args 0 .nil).sl t);rw[Kp];by_cases ht:t<args.length
      . rw[ay ⟨bk _,by omega⟩,tX];obtain⟨v,h1,h2⟩:=hargs.get t (args[t]) (by simp[ht]);have hlt:t<vs.length:=by omega
        have:(vs.toArray++Array.replicate (fn.ntmps-vs.toArray.size) undef).getD t undef=v:=by
         simp[jp,hlt];exact(List.getElem?_eq_some_iff.1 h1).2
        rw[this];have e2:args.getD t .und=args[t]:=by simp[ht]
        rw[e2];exact h2
      . rw[am (by omega)];show _=undef;have hge:¬t<vs.length:=by omega
        simp[jp,hge,wk];split<;>rfl
    . show(vs.toArray++Array.replicate (fn.ntmps-vs.toArray.size) undef).size=q.nt;rw[<-ok.nt] at hle ⊢;simp;omega
    . obtain⟨H1,β1,p1,p2,p3,p4⟩:=hp;have fin:LeavesInM (FW none) 0 X.P fn a0.tmps (C8 X E H U w s1.s.h.get (jE xs)) a0.defers .returning w1:=by
       refine CJ a0.defers p3.1.sim p3.2.1 p3.2.2 fun w' hS' hm'=>?_;obtain⟨us,e1,Vz9⟩:=xR hS' p3.1.slot hr;refine⟨(if h:us.toArray.size=1 then us.toArray[0] else .tuple us.toArray),?_,_,H1,β1,rfl,p1,p2,hS',hm',JF Vz9⟩;unfold results;have e0:(fn.results.mapM fun | .tmp t=>pure (a0.tmps.getD t undef) | .cell a t=>do loadVar t (<- asAddr (a0.tmps.getD a undef)):Sem (Array X3))=List.toArray <$> q.rs.mapM (mq a0.tmps):=by
        rw[E7,ok.rs];rfl
       refine(aJ (fun(x:Sem (Array X3))=>(x >>= fun vs=>pure (if h:vs.size=1 then vs[0] else .tuple vs)).run X.P w') e0).trans ?_;simp only[au,E8,e1,ar,aw]
      rcases hne with rfl|rfl
      . exact fin
      . exact fin
 . cases he
end
end Go.Proofs.En
