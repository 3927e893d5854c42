/-
  A part of the proof of regionForms_card.
-/
import Derived.Test.YtaniegbleeenfaaGreatDoorF3
import Derived.Maps.Keyed
import Derived.Shelf.SlSortCmp.WholeK
namespace Go.Proofs
open Go
abbrev ME:=@Go.run_firstCells_some
abbrev MF:=@List.mem_append_right
abbrev MG:=@List.mem_append_left
abbrev Xr:=@Go.MapKept.run_getObj_map
abbrev Xs:=@Go.MapKept.run_setObj_map
abbrev dz:=@List.flatMap_cons
abbrev fQ:=@List.mem_singleton
abbrev fR:=@Iff.rfl
abbrev fh:=@Nat.ble_eq_true_of_le
abbrev gM:=@Int.ofNat_eq_natCast
abbrev oY:=@List.cons.injEq
abbrev zP:=@Nat.le_add_right
end Go.Proofs
namespace Go.Proofs.En
open Go.RowKit Go.Proofs.Fl
inductive PT(α:Type) where
 |nil
 |node (l:PT α) (v:Option α) (r:PT α)
 deriving Inhabited
def PT.get{α:Type}:PT α->Nat->Option α
 | .nil,_=>none
 | .node l v r,n=>bif Nat.beq n 0 then v else bif Nat.beq (n%2) 1 then l.get (n/2) else r.get (n/2-1)
def PT.force{α:Type}{U:Sort _}(t:PT α)(k:PT α->U):U:=match t with
 | .nil=>k .nil
 | .node l v r=>k (.node l v r)
theorem nK{α:Type}{U:Sort _}(t:PT α)(k:PT α->U):t.force k=k t:=by cases t<;>rfl
def jm{α:Type}:Nat->PT α->Nat->α->PT α
 |0,t,_,_=>t
 |f+1,.nil,n,a=>bif Nat.beq n 0 then .node .nil (some a) .nil else bif Nat.beq (n%2) 1 then(jm f .nil (n/2) a).force fun x=>.node x none .nil else(jm f .nil (n/2-1) a).force fun x=>.node .nil none x
 |f+1,.node l v r,n,a=>bif Nat.beq n 0 then .node l (some a) r else bif Nat.beq (n%2) 1 then(jm f l (n/2) a).force fun x=>.node x v r else(jm f r (n/2-1) a).force fun x=>.node l v x
def PT.set{α:Type}(t:PT α)(n:Nat)(a:α):PT α:=jm (n+1) t n a
theorem eO{a b:Nat}(h:a≠b):Nat.beq a b=false:=by
 cases hb:Nat.beq a b
 . rfl
 . exact absurd (aw hb) h
theorem Oe{α:Type}(a:α):∀(f:Nat) (t:PT α) (n m:Nat),n<f->(jm f t n a).get m=if m=n then some a else t.get m:=by
 intro f;induction f with
 |zero=>intro t n m h;omega
 |succ f ih=>
  intro t n m h;have step:∀(l:PT α) (v:Option α) (r:PT α),(bif Nat.beq n 0 then PT.node l (some a) r else bif Nat.beq (n%2) 1 then .node (jm f l (n/2) a) v r else .node l v (jm f r (n/2-1) a)).get m=if m=n then some a else(PT.node l v r).get m:=by
   intro l v r;by_cases hn:n=0
   . subst hn;simp only[bj,ai,PT.get];by_cases hm:m=0
     . subst hm;simp
     . rw[eO hm,al hm];rfl
   . rw[eO hn,aW];by_cases ho:n%2=1
     . rw[ho,bj,ai];simp only[PT.get];by_cases hm:m=0
       . subst hm;rw[al (by omega)];simp
       . rw[eO hm,aW];by_cases hmo:m%2=1
         . rw[hmo,bj,ai,ih _ _ _ (by omega)];by_cases e:m=n
           . rw[ar e,ar (by rw[e])]
           . rw[al e,al (by omega)];simp[eO hm]
         . rw[eO hmo,aW,al (by omega)];simp[eO hm]
     . rw[eO ho,aW];simp only[PT.get];by_cases hm:m=0
       . subst hm;rw[al (by omega)];simp
       . rw[eO hm,aW];by_cases hmo:m%2=1
         . rw[hmo,bj,ai,al (by omega)];simp[eO hm]
         . rw[eO hmo,aW,ih _ _ _ (by omega)];by_cases e:m=n
           . rw[ar e,ar (by rw[e])]
           . rw[al e,al (by omega)];simp[eO hm]
  cases t with
  |node l v r=>
   rw[<-step l v r];simp only[jm,nK]
  |nil=>
   have:=step .nil none .nil;rw[show jm (f+1) .nil n a=(bif Nat.beq n 0 then PT.node .nil (some a) .nil else bif Nat.beq (n%2) 1 then .node (jm f .nil (n/2) a) none .nil else .node .nil none (jm f .nil (n/2-1) a)) by simp only[jm,nK],this];have:(PT.node (.nil:PT α) none .nil).get m=none:=by
    unfold PT.get;cases Nat.beq m 0
    . cases Nat.beq (m%2) 1<;>rfl
    . rfl
   rw[this];rfl
theorem mK{α:Type}(t:PT α)(n:Nat)(a:α)(m:Nat):(t.set n a).get m=if m=n then some a else t.get m:=Oe a _ t n m (by omega)
structure QS where
 qv:Int->Nat->IV
 qn:Nat
 ok:∀n d,∃cs,qv n d=.agg cs/\cs.length=qn
inductive Cap where
 |ex (c:Nat)
 |fin (sz:Nat)
 deriving Inhabited
inductive EV where
 |iv (x:IV)
 |qc (n:Int) (d j:Nat)
 |ptr (g u off:Nat)
 |slc (g u off n:Nat) (cap:Cap)
 |clo (f:FuncId) (gs:List Nat)
 |yld (g:Nat)
 |mp (g:Nat)
 |dp (x:IV) (off:Nat)
 deriving Inhabited
inductive EW where
 |one (c:EV)
 |agg (cs:List EV)
 |q (n:Int) (d:Nat)
 deriving Inhabited
inductive ES where
 |unk
 |und
 |w (x:EW)
 |tup (xs:List EW)
 deriving Inhabited
inductive EO where
 |mem (e:TypeId) (cs:List EV) (fz:Bool) (vs:List (Nat×Nat)) (cnt:Nat)
 |map (es:List (EW×EW×Nat)) (clock:Nat)
 |loop (busy:Bool) (nt:Nat) (tm:PT ES) (ps:List Nat) (assign body:Code)
 |iter (gm since:Nat) (seen:List Nat) (last:Nat) (cur:Option Nat)
 |hid
 deriving Inhabited
def EO.cnt:EO->Nat
 | .mem _ _ _ _ n=>n
 |_=>1
abbrev Bm:=Nat->Nat->Option (Nat×Nat)
def BLe(U U':Bm):Prop:=∀g u k,U g u=some k->U' g u=some k
theorem BLe.refl(U:Bm):BLe U U:=fun _ _ _ h=>h
theorem BLe.trans{a b c:Bm}(h:BLe a b)(k:BLe b c):BLe a c:=fun g u x e=>k g u x (h g u x e)
def kP(U:Bm)(g u:Nat)(k:Nat×Nat):Bm:=fun g' u'=>if g'=g/\u'=u then some k else U g' u'
theorem fI(U:Bm)(g u:Nat)(k:Nat×Nat):kP U g u k g u=some k:=by simp[kP]
theorem kA(U:Bm)(g u:Nat)(k:Nat×Nat){g' u':Nat}(h:¬(g'=g/\u'=u)):kP U g u k g' u'=U g' u':=by unfold kP;rw[al h]
theorem jI{U:Bm}{g u:Nat}{k:Nat×Nat}(h:U g u=none):BLe U (kP U g u k):=fun g' u' x e=>by
 by_cases e0:g'=g/\u'=u
 . rw[e0.1,e0.2,h] at e;cases e
 . rw[kA _ _ _ _ e0];exact e
def VL:Cap->Nat->Nat->Nat->Prop
 | .ex c',_,c,_=>c=c'
 | .fin sz,off,c,size=>off+c*sz=size
def gZ(U:Bm)(g:Nat):Value:=match U g 0 with
 |some k=>.pointer (some ⟨k.1,0,none⟩)
 |none=>undef
section
variable (Z:QS)(H:ah)(U:Bm)
def CR(v:Value):EV->Prop
 | .iv x=>v.oneCell'=true/\VR H v x
 | .qc n d j=>v.oneCell'=true/\∃x,(Z.qv n d).cells[j]?=some x/\VR H v x
 | .ptr g u off=>∃k,U g u=some k/\v=.pointer (some ⟨k.1,off,none⟩)
 | .slc g u off n cap=>∃k c,U g u=some k/\v=.slice (some ⟨k.1,off,none⟩) n c/\n<=c/\VL cap off c k.2
 | .clo f gs=>(∀g∈gs,∃k,U g 0=some k)/\v=.func (.func f) #[] (gs.map (gZ U)).toArray
 | .yld g=>∃k,U g 0=some k/\v=.func (.yield k.1) #[] #[]
 | .mp g=>∃k,U g 0=some k/\v=.map (some k.1)
 | .dp x off=>∃b base u arr,v=.pointer (some ⟨b,base+off,none⟩)/\H b=some arr/\VR H u x/\(arr.toList.drop base).take u.cells.size=u.cells.toList
def CRL:List Value->List EV->Prop
 | [],[]=>True
 |v::vs,x::xs=>CR Z H U v x/\CRL vs xs
 |_,_=>False
def WR(v:Value):EW->Prop
 | .one c=>CR Z H U v c
 | .agg cs=>∃vs:List Value,v=.agg vs.toArray/\CRL Z H U vs cs
 | .q n d=>VR H v (Z.qv n d)
def WRL:List Value->List EW->Prop
 | [],[]=>True
 |v::vs,x::xs=>WR Z H U v x/\WRL vs xs
 |_,_=>False
def SRe(v:Value):ES->Prop
 | .unk=>True
 | .und=>v=undef
 | .w x=>WR Z H U v x
 | .tup xs=>∃vs:List Value,v=.tuple vs.toArray/\WRL Z H U vs xs
end
section
variable {Z:QS}{H H':ah}{U U':Bm}
theorem PR(hb:BLe U U'){g:Nat}(h:∃k,U g 0=some k):gZ U' g=gZ U g:=by
 obtain⟨k,h⟩:=h;unfold gZ;rw[h,hb _ _ _ h]
theorem CR.mono(hh:HLe H H')(hb:BLe U U'){v:Value}:∀{x:EV},CR Z H U v x->CR Z H' U' v x
 | .iv _,⟨h1,h2⟩=>⟨h1,h2.mono hh⟩
 | .qc _ _ _,⟨h1,x,h2,h3⟩=>⟨h1,x,h2,h3.mono hh⟩
 | .ptr _ _ _,⟨k,h1,h2⟩=>⟨k,hb _ _ _ h1,h2⟩
 | .slc _ _ _ _ _,⟨k,c,h1,h2,h3,h4⟩=>⟨k,c,hb _ _ _ h1,h2,h3,h4⟩
 | .clo f gs,⟨h1,h2⟩=>⟨fun g hg=>(h1 g hg).imp fun k hk=>hb _ _ _ hk,by
  rw[h2];congr 2;exact qO fun g hg=>(PR hb (h1 g hg)).symm⟩
 | .yld _,⟨k,h1,h2⟩=>⟨k,hb _ _ _ h1,h2⟩
 | .mp _,⟨k,h1,h2⟩=>⟨k,hb _ _ _ h1,h2⟩
 | .dp _ _,⟨b,base,u,arr,h1,h2,h3,h4⟩=>⟨b,base,u,arr,h1,hh _ _ h2,h3.mono hh,h4⟩
theorem CR.one{v:Value}:∀{x:EV},CR Z H U v x->v.oneCell'=true
 | .iv _,h=>h.1
 | .qc _ _ _,h=>h.1
 | .ptr _ _ _,⟨_,_,h⟩=>by rw[h];rfl
 | .slc _ _ _ _ _,⟨_,_,_,h,_⟩=>by rw[h];rfl
 | .clo _ _,⟨_,h⟩=>by rw[h];rfl
 | .yld _,⟨_,_,h⟩=>by rw[h];rfl
 | .mp _,⟨_,_,h⟩=>by rw[h];rfl
 | .dp _ _,⟨_,_,_,_,h,_⟩=>by rw[h];rfl
theorem CRL.mono(hh:HLe H H')(hb:BLe U U'):∀{vs:List Value} {xs:List EV},CRL Z H U vs xs->CRL Z H' U' vs xs
 | [],[],_=>trivial
 |_::_,_::_,⟨h1,h2⟩=>⟨h1.mono hh hb,CRL.mono hh hb h2⟩
 | [],_::_,h=>h.elim
 |_::_,[],h=>h.elim
theorem CRL.length:∀{vs:List Value} {xs:List EV},CRL Z H U vs xs->vs.length=xs.length
 | [],[],_=>rfl
 |_::_,_::_,⟨_,h2⟩=>by simp[CRL.length h2]
 | [],_::_,h=>h.elim
 |_::_,[],h=>h.elim
theorem CRL.one:∀{vs:List Value} {xs:List EV},CRL Z H U vs xs->∀c∈vs,c.oneCell'=true
 | [],[],_,_,hc=>by simp at hc
 |_::_,_::_,⟨h1,h2⟩,c,hc=>(List.mem_cons.1 hc).elim (fun e=>by rw[e];exact h1.one) (CRL.one h2 c)
 | [],_::_,h,_,_=>h.elim
 |_::_,[],h,_,_=>h.elim
theorem CRL.get:∀{vs:List Value} {xs:List EV},CRL Z H U vs xs->∀(i:Nat) (x:EV),xs[i]?=some x->∃v,vs[i]?=some v/\CR Z H U v x
 | [],[],_,i,x,h=>by simp at h
 |v::_,_::_,⟨h1,_⟩,0,x,h=>by simp at h;subst h;exact⟨v,rfl,h1⟩
 |_::_,_::_,⟨_,h2⟩,i+1,x,h=>by simp at h;simpa using CRL.get h2 i x h
 | [],_::_,h,_,_,_=>h.elim
 |_::_,[],h,_,_,_=>h.elim
theorem CRL.drop:∀{vs:List Value} {xs:List EV} (n:Nat),CRL Z H U vs xs->CRL Z H U (vs.drop n) (xs.drop n)
 |_,_,0,h=>by simpa using h
 | [],[],n+1,_=>by simp[CRL]
 |_::_,_::_,n+1,⟨_,h2⟩=>by simpa using CRL.drop n h2
 | [],_::_,_+1,h=>h.elim
 |_::_,[],_+1,h=>h.elim
theorem CRL.take:∀{vs:List Value} {xs:List EV} (n:Nat),CRL Z H U vs xs->CRL Z H U (vs.take n) (xs.take n)
 |_,_,0,_=>by simp[CRL]
 | [],[],n+1,_=>by simp[CRL]
 |_::_,_::_,n+1,⟨h1,h2⟩=>by simpa using(show CRL Z H U (_::_) (_::_) from⟨h1,CRL.take n h2⟩)
 | [],_::_,_+1,h=>h.elim
 |_::_,[],_+1,h=>h.elim
theorem CRL.append:∀{vs:List Value} {xs:List EV} {us:List Value} {ys:List EV},CRL Z H U vs xs->CRL Z H U us ys->CRL Z H U (vs++us) (xs++ys)
 | [],[],_,_,_,h=>by simpa using h
 |_::_,_::_,_,_,⟨h1,h2⟩,h=>by simpa using(show CRL Z H U (_::_) (_::_) from⟨h1,CRL.append h2 h⟩)
 | [],_::_,_,_,h,_=>h.elim
 |_::_,[],_,_,h,_=>h.elim
theorem CRL.splice{vs us:List Value}{xs ys:List EV}(h:CRL Z H U vs xs)(k:CRL Z H U us ys)(off:Nat):CRL Z H U (splice vs off us) (splice xs off ys):=by
 unfold Fl.splice;rw[k.length];exact((h.take off).append k).append (h.drop _)
theorem OU{vs:List Value}{xs:List EV}(hl:vs.length=xs.length)(h:∀(i:Nat) (v:Value) (x:EV),vs[i]?=some v->xs[i]?=some x->CR Z H U v x):CRL Z H U vs xs:=by
 induction vs generalizing xs with
 |nil=>cases xs with
  |nil=>exact trivial
  |cons=>simp at hl
 |cons v vs ih=>cases xs with
  |nil=>simp at hl
  |cons x xs=>exact⟨h 0 v x rfl rfl,ih (by simpa using hl) (fun i v' x' h1 h2=>h (i+1) v' x' (by simpa using h1) (by simpa using h2))⟩
theorem AZ:∀{vs:List Value} {xs:List IV},VRL H vs xs->(∀c∈vs,c.oneCell'=true)->CRL Z H U vs (xs.map .iv)
 |_,_,.nil,_=>trivial
 |_,_,.cons v x vs xs h t,h1=>⟨⟨h1 v (by simp),h⟩,AZ t fun c hc=>h1 c (by simp[hc])⟩
theorem CRL.flatMap{α:Type}{f:α->List Value}{g:α->List EV}:∀{l:List α},(∀a∈l,CRL Z H U (f a) (g a))->CRL Z H U (l.flatMap f) (l.flatMap g)
 | [],_=>trivial
 |a::l,h=>by
  simp only[dz];exact(h a (by simp)).append (CRL.flatMap fun b hb=>h b (by simp[hb]))
def qE(r:Int)(d:Nat):Nat->Nat->List EV
 |_,0=>[]
 |j,n+1=>.qc r d j::qE r d (j+1) n
theorem J3{r:Int}{d:Nat}:∀{n j:Nat} {vs:List Value} {cs:List IV},VRL H vs cs->(∀c∈vs,c.oneCell'=true)->cs.length=n->(∀i x,cs[i]?=some x->(Z.qv r d).cells[j+i]?=some x)->CRL Z H U vs (qE r d j n)
 |0,_,_,_,.nil,_,_,_=>trivial
 |0,_,_,_,.cons ..,_,h,_=>by simp at h
 |n+1,_,_,_,.nil,_,h,_=>by simp at h
 |n+1,j,_,_,.cons v x vs xs h t,h1,hl,hx=>by
  refine⟨⟨h1 v (by simp),x,by simpa using hx 0 x rfl,h⟩,J3 t (fun c hc=>h1 c (by simp[hc])) (by simpa using hl) fun i y hy=>?_⟩;have:=hx (i+1) y (by simpa using hy);rwa[show j+1+i=j+(i+1) by omega]
theorem Rn{r:Int}{d:Nat}{v:Value}(h:VR H v (Z.qv r d)):CRL Z H U v.cells.toList (qE r d 0 Z.qn):=by
 obtain⟨cs,e,hl⟩:=Z.ok r d;rw[e] at h;obtain⟨vs,rfl,h1,h2⟩:=h.asAgg;refine J3 (by simpa[Value.cells] using h1) (by simpa[Value.cells] using h2) hl fun i x hx=>?_;rw[e,aX];exact hx
theorem G3{r:Int}{d:Nat}{vs:List Value}(h:CRL Z H U vs (qE r d 0 Z.qn)):VR H (.agg vs.toArray) (Z.qv r d):=by
 obtain⟨cs,e,hl⟩:=Z.ok r d;have key:∀(n j:Nat) (vs:List Value),CRL Z H U vs (qE r d j n)->∀cs:List IV,cs.length=n->(∀i x,cs[i]?=some x->(Z.qv r d).cells[j+i]?=some x)->VRL H vs cs:=by
  intro n;induction n with
  |zero=>intro j vs h cs hl _;cases cs with
   |nil=>cases vs with
    |nil=>exact .nil
    |cons=>exact h.elim
   |cons=>simp at hl
  |succ n ih=>intro j vs h cs hl hx;cases cs with
   |nil=>simp at hl
   |cons x cs=>cases vs with
    |nil=>exact h.elim
    |cons v vs=>
     obtain⟨⟨_,y,hy,hv⟩,ht⟩:=h;have:(Z.qv r d).cells[j]?=some x:=by simpa using hx 0 x rfl
     rw[hy] at this;cases this;refine .cons _ _ _ _ hv (ih (j+1) vs ht cs (by simpa using hl) fun i z hz=>?_);have:=hx (i+1) z (by simpa using hz);rwa[show j+1+i=j+(i+1) by omega]
 rw[e];refine .agg _ _ (key Z.qn 0 vs h cs hl fun i x hx=>?_) h.one;rw[e,aX];exact hx
def EW.cells(Z:QS):EW->List EV
 | .one c=>[c]
 | .agg cs=>cs
 | .q r d=>qE r d 0 Z.qn
theorem CR.cells1{v:Value}{x:EV}(h:CR Z H U v x):v.cells = #[v]:=by
 have:=h.one;cases v<;>first|rfl|simp[Value.oneCell'] at this
theorem WR.cells{v:Value}{x:EW}(h:WR Z H U v x):CRL Z H U v.cells.toList (x.cells Z):=by
 cases x with
 |one c=>have h':CR Z H U v c:=h;rw[h'.cells1];exact⟨h',ab⟩
 |agg cs=>obtain⟨vs,rfl,h⟩:=h;simpa[Value.cells,EW.cells] using h
 |q r d=>exact Rn h
theorem WR.size{v:Value}{x:EW}(h:WR Z H U v x):v.cells.size=(x.cells Z).length:=by
 have:=h.cells.length;simpa using this
def mn(r:Int)(d:Nat):Nat->List EV->Nat->Bool
 |_,[],0=>true
 |j,.qc r' d' k::l,n+1=>decide (r'=r)&&Nat.beq d' d&&Nat.beq k j&&mn r d (j+1) l n
 |_,_,_=>false
theorem Hq{r:Int}{d:Nat}:∀{n j:Nat} {l:List EV},mn r d j l n=true->l=qE r d j n
 |0,_,[],_=>rfl
 |0,_,_::_,h=>by simp[mn] at h
 |n+1,j,[],h=>by simp[mn] at h
 |n+1,j,x::l,h=>by
  cases x with
  |qc r' d' k=>
   simp only[mn,aC,d9] at h;obtain⟨⟨⟨h1,h0⟩,h2⟩,h3⟩:=h;rw[h1,aw h0,aw h2,Hq h3];rfl
  |_=>simp[mn] at h
def pZ(Z:QS)(cs:List EV):EW :=
 match cs with
 | .qc r d 0::_=>bif mn r d 0 cs Z.qn then .q r d else .agg cs
 |_=>.agg cs
theorem Ba{vs:List Value}{cs:List EV}(h:CRL Z H U vs cs):WR Z H U (.agg vs.toArray) (pZ Z cs):=by
 unfold pZ;split
 . rename_i r d l;cases hq:mn r d 0 (.qc r d 0::l) Z.qn with
   |true=>rw[Hq hq] at h;exact G3 h
   |false=>exact⟨vs,rfl,h⟩
 . exact⟨vs,rfl,h⟩
theorem WR.mono(hh:HLe H H')(hb:BLe U U'){v:Value}{x:EW}(h:WR Z H U v x):WR Z H' U' v x:=by
 cases x with
 |one c=>exact CR.mono hh hb h
 |agg cs=>obtain⟨vs,e,h⟩:=h;exact⟨vs,e,h.mono hh hb⟩
 |q r d=>exact VR.mono hh h
theorem WRL.mono(hh:HLe H H')(hb:BLe U U'):∀{vs:List Value} {xs:List EW},WRL Z H U vs xs->WRL Z H' U' vs xs
 | [],[],_=>trivial
 |_::_,_::_,⟨h1,h2⟩=>⟨h1.mono hh hb,WRL.mono hh hb h2⟩
 | [],_::_,h=>h.elim
 |_::_,[],h=>h.elim
theorem WRL.get:∀{vs:List Value} {xs:List EW},WRL Z H U vs xs->∀(i:Nat) (x:EW),xs[i]?=some x->∃v,vs[i]?=some v/\WR Z H U v x
 | [],[],_,i,x,h=>by simp at h
 |v::_,_::_,⟨h1,_⟩,0,x,h=>by simp at h;subst h;exact⟨v,rfl,h1⟩
 |_::_,_::_,⟨_,h2⟩,i+1,x,h=>by simp at h;simpa using WRL.get h2 i x h
 | [],_::_,h,_,_,_=>h.elim
 |_::_,[],h,_,_,_=>h.elim
theorem SRe.mono(hh:HLe H H')(hb:BLe U U'){v:Value}{s:ES}(h:SRe Z H U v s):SRe Z H' U' v s:=by
 cases s with
 |unk=>trivial
 |und=>exact h
 |w x=>exact WR.mono hh hb h
 |tup xs=>obtain⟨vs,e,h⟩:=h;exact⟨vs,e,h.mono hh hb⟩
end
def PT.sl(t:PT ES)(n:Nat):ES:=(t.get n).getD .und
structure EEnv where
 own:Nat->Prop
 w0:World
 H0:ah
 hid:Nat->Prop
 β0:Bm
def MR(Z:QS)(H:ah)(U:Bm)(e:MapEntry)(x:EW×EW×Nat):Prop:=WR Z H U e.key x.1/\WR Z H U e.val x.2.1/\e.born=x.2.2
def MRL(Z:QS)(H:ah)(U:Bm):List MapEntry->List (EW×EW×Nat)->Prop
 | [],[]=>True
 |e::es,x::xs=>MR Z H U e x/\MRL Z H U es xs
 |_,_=>False
def OR(Z:QS)(own:Nat->Prop)(w:World)(H:ah)(U:Bm)(g:Nat):EO->Prop
 | .mem e cs fz vs cnt=>(fz=false->∀u k,U g u=some k->H k.1=none)/\∀u p,(u,p)∈vs->u<cnt/\∃k arr,U g u=some k/\own k.1/\(if fz then H k.1=some arr else H k.1=none)/\w.heap[k.1]?=some (.cells arr e (0,0))/\arr.size=k.2/\p<=cs.length/\p<=arr.size/\CRL Z H U (arr.toList.take p) (cs.take p)
 | .map es ck=>∃k ents,U g 0=some k/\own k.1/\H k.1=none/\w.heap[k.1]?=some (.map ents ck)/\MRL Z H U ents.toList es
 | .hid=>True
 | .iter gm since seen last cur=>∃k km sn,U g 0=some k/\U gm 0=some km/\own k.1/\H k.1=none/\w.heap[k.1]?=some (.mapIter (some km.1) since sn last)/\(∀b,b∈sn.toList↔b∈seen)/\∀b,cur=some b->sn.back?=some b
 | .loop busy nt tm ps assign body=>∃k L,U g 0=some k/\own k.1/\H k.1=none/\w.heap[k.1]?=some (.loop L)/\(if busy then L.state=.busy else L.state=.ready)/\L.pending.isNone=true/\L.tmps.size=nt/\L.params.toList=ps/\L.assign=assign/\L.body=body/\
  ∀t,SRe Z H U (L.tmps.getD t undef) (tm.sl t)
structure ESim(Z:QS)(E:EEnv)(H:ah)(U:Bm)(h:Nat->Option EO)(w:World):Prop where
 has:HeapHas w H
 below:BelowO E.own E.w0 w
 lo:∀k,w.heap.size<=k->E.own k
 ext:HExtO E.own E.H0 H
 obj:∀g o,h g=some o->OR Z E.own w H U g o
 dom:∀g u k,U g u=some k->k.1<w.heap.size/\∃o,h g=some o/\(o=.hid\/(E.own k.1/\u<o.cnt))
 inj:∀g g' u u' k k',U g u=some k->U g' u'=some k'->k.1=k'.1->g=g'
 hidb:∀g,E.hid g->h g=some .hid/\∀u,U g u=E.β0 g u
section
variable {Z:QS}{E:EEnv}{H H':ah}{U U':Bm}{h h':Nat->Option EO}{w w':World}
theorem MRL.mono(hh:HLe H H')(hb:BLe U U'):∀{vs:List MapEntry} {xs:List (EW×EW×Nat)},MRL Z H U vs xs->MRL Z H' U' vs xs
 | [],[],_=>trivial
 |_::_,_::_,⟨⟨h0,h1,h2⟩,h3⟩=>⟨⟨h0.mono hh hb,h1.mono hh hb,h2⟩,MRL.mono hh hb h3⟩
 | [],_::_,h=>h.elim
 |_::_,[],h=>h.elim
theorem OR.keep{own:Nat->Prop}{g:Nat}{o:EO}(h:OR Z own w H U g o)(hw:∀u k,U g u=some k->w'.heap[k.1]?=w.heap[k.1]?)(hn:∀u k,U g u=some k->H k.1=none->H' k.1=none)(hh:HLe H H')(hb:BLe U U')(hg:∀u,U' g u=U g u):OR Z own w' H' U' g o:=by
 cases o with
 |mem e cs fz vs cnt=>
  refine⟨fun hf u k hk=>hn u k (by rw[<-hg];exact hk) (h.1 hf u k (by rw[<-hg];exact hk)),fun u p hup=>?_⟩;obtain⟨h1,k,arr,h2,h3,h4,h5,h6,h7,h8,h9⟩:=h.2 u p hup;refine⟨h1,k,arr,hb _ _ _ h2,h3,?_,(hw u k h2).trans h5,h6,h7,h8,h9.mono hh hb⟩;cases fz with
  |true=>exact hh _ _ h4
  |false=>exact hn u k h2 h4
 |map es ck=>
  obtain⟨k,ents,h1,h2,h3,h4,h5⟩:=h;exact⟨k,ents,hb _ _ _ h1,h2,hn 0 k h1 h3,(hw 0 k h1).trans h4,h5.mono hh hb⟩
 |hid=>trivial
 |iter gm since seen last cur=>
  obtain⟨k,km,sn,h1,h2,h3,h4,h5,h6,h7⟩:=h;exact⟨k,km,sn,hb _ _ _ h1,hb _ _ _ h2,h3,hn 0 k h1 h4,(hw 0 k h1).trans h5,h6,h7⟩
 |loop busy nt tm ps assign body=>
  obtain⟨k,L,h1,h2,h3,h4,h5,h6,h8,h9,h10,h11,h12⟩:=h;exact⟨k,L,hb _ _ _ h1,h2,hn 0 k h1 h3,(hw 0 k h1).trans h4,h5,h6,h8,h9,h10,h11,fun t=>(h12 t).mono hh hb⟩
theorem ESim.grow(h0:ESim Z E H U h w)(hb:Below w.heap.size w w')(hh:HeapHas w' H')(he:HExt w.heap.size H H'):ESim Z E H' U h w' where
 has:=hh
 below:=h0.below.trans (BelowO.of hb h0.lo)
 lo k hk:=h0.lo k (aP hb.size hk)
 ext:=h0.ext.step (own':=fun k=>w.heap.size<=k) he h0.lo
 obj g o hg:=(h0.obj g o hg).keep (fun u k hk=>hb.block _ (h0.dom g u k hk).1) (fun u k hk hn=>by
  cases hx:H' k.1 with
  |none=>rfl
  |some arr=>
   rcases he.2 _ _ hx with h1|h1
   . rw[hn] at h1;cases h1
   . have:=(h0.dom g u k hk).1;omega) he.1 (BLe.refl _) (fun _=>rfl)
 dom g u k hk:=⟨gK (h0.dom g u k hk).1 hb.size,(h0.dom g u k hk).2⟩
 inj:=h0.inj
 hidb:=h0.hidb
theorem ESim.same(h0:ESim Z E H U h w)(h1:w'.heap=w.heap)(h2:w'.os=w.os)(h3:w'.tape=w.tape)(h4:w'.output=w.output):ESim Z E H U h w' :=
 h0.grow (Below.of_heap h1 h2 h3 h4) (fun b arr hb=>by rw[h1];exact h0.has b arr hb) (HExt.refl _ _)
theorem ESim.domN(h0:ESim Z E H U h w){g:Nat}{o:EO}(hg:h g=some o)(hn:o≠ .hid)(u:Nat)(k:Nat×Nat)(hk:U g u=some k):k.1<w.heap.size/\E.own k.1/\∃o,h g=some o/\u<o.cnt:=by
 obtain⟨a,o',b,c⟩:=h0.dom g u k hk;rw[hg] at b;cases b;exact⟨a,(c.resolve_left hn).1,o,hg,(c.resolve_left hn).2⟩
theorem ESim.turn(h0:ESim Z E H U h w){g:Nat}{o:EO}(hgh:h g≠some .hid)(hos:w'.os=w.os)(htp:w'.tape=w.tape)(hot:w'.output=w.output)(hsz:w.heap.size<=w'.heap.size)
 (hw:∀k,k<w.heap.size->(∀u s,U g u=some s->s.1≠k)->w'.heap[k]?=w.heap[k]?) (hwn:∀u s,U g u=some s->H s.1=none)
 (hb:BLe U U') (hbo:∀g' u,g'≠g->U' g' u=U g' u) (hbn:∀u k,U' g u=some k->u<o.cnt/\k.1<w'.heap.size/\E.own k.1/\((∃u' k',U g u'=some k'/\k'.1=k.1)\/w.heap.size<=k.1))
 (ho:OR Z E.own w' H U' g o):ESim Z E H U' (aD h g (some o)) w' where
 has b arr hb':=by
  obtain⟨t,fr,ht⟩:=h0.has b arr hb';exact⟨t,fr,(hw b (h0.has.lt hb') (fun u s hs e=>by rw[<-e,hwn u s hs] at hb';cases hb')).trans ht⟩
 below:=by
  refine h0.below.trans ⟨hos,htp,hot,hsz,fun k hk=>?_⟩;rcases eS k w.heap.size with hlt|hge
  . exact hw k hlt fun u s hs e=>hk (by
     rw[<-e];obtain⟨_,o',b,c⟩:=h0.dom g u s hs;exact(c.resolve_left fun e'=>hgh (by rw[b,e'])).1)
  . exact absurd (h0.lo k hge) hk
 lo k hk:=h0.lo k (aP hsz hk)
 ext:=h0.ext
 obj g' o' hg':=by
  by_cases e:g'=g
  . subst e;have:o=o':=by have:aD h g' (some o) g'=some o':=hg';rw[aT] at this;simpa using this
    subst this;exact ho
  . have hg'':h g'=some o':=by have:aD h g (some o) g'=some o':=hg';rwa[aG _ _ _ e] at this
    refine(h0.obj g' o' hg'').keep (fun u k hk=>hw k.1 (h0.dom g' u k hk).1 fun u' s hs e'=>e (h0.inj _ _ _ _ _ _ hk hs e'.symm)) (fun _ _ _ hn=>hn) (HLe.refl _) hb (fun u=>hbo g' u e)
 dom g' u k hk:=by
  by_cases e:g'=g
  . subst e;obtain⟨a,b,c,_⟩:=hbn u k hk;exact⟨b,o,aT _ _ _,.inr ⟨c,a⟩⟩
  . rw[hbo g' u e] at hk;obtain⟨a,o',b,c⟩:=h0.dom g' u k hk;exact⟨gK a hsz,o',by show aD h g (some o) g'=_;rw[aG _ _ _ e];exact b,c⟩
 inj g1 g2 u1 u2 k1 k2 e1 e2 he:=by
  have key:∀g' u' k' u k,g'≠g->U' g' u'=some k'->U' g u=some k->k'.1≠k.1:=fun g' u' k' u k hne h1 h2 e=>by
   rw[hbo g' u' hne] at h1;obtain⟨_,_,_,h3⟩:=hbn u k h2;rcases h3 with⟨u3,k3,h3,h4⟩|h3
   . exact hne (h0.inj _ _ _ _ _ _ h1 h3 (by rw[e,h4]))
   . have:=(h0.dom g' u' k' h1).1;omega
  by_cases h1:g1=g
  . by_cases h2:g2=g
    . rw[h1,h2]
    . subst h1;exact absurd he.symm (key g2 u2 k2 u1 k1 h2 e2 e1)
  . by_cases h2:g2=g
    . subst h2;exact absurd he (key g1 u1 k1 u2 k2 h1 e1 e2)
    . rw[hbo _ _ h1] at e1;rw[hbo _ _ h2] at e2;exact h0.inj _ _ _ _ _ _ e1 e2 he
 hidb g' hg':=by
  have hne:g'≠g:=fun e=>hgh (by rw[<-e];exact(h0.hidb g' hg').1);exact⟨by show aD h g (some o) g'=_;rw[aG _ _ _ hne];exact(h0.hidb g' hg').1,fun u=>(hbo g' u hne).trans ((h0.hidb g' hg').2 u)⟩
theorem ESim.noB(h0:ESim Z E H U h w){g:Nat}(hg:h g=none)(u:Nat):U g u=none:=by
 cases hk:U g u with
 |none=>rfl
 |some k=>obtain⟨_,o,e,_⟩:=h0.dom g u k hk;rw[hg] at e;cases e
theorem ESim.alloc(h0:ESim Z E H U h w){g:Nat}(hg:h g=none){b:Obj}{s:Nat}{o:EO}(hc:0<o.cnt)(ho:OR Z E.own (w.alloc b) H (kP U g 0 (w.heap.size,s)) g o) :
 BLe U (kP U g 0 (w.heap.size,s))/\ESim Z E H (kP U g 0 (w.heap.size,s)) (aD h g (some o)) (w.alloc b):=by
 have hbe:Below w.heap.size w (w.alloc b):=(mr _ _).alloc (ak _) _;have hN:=h0.noB hg;have hnew:w.heap.size<(w.alloc b).heap.size:=(Array.getElem?_eq_some_iff.1 (nD w b)).1;refine⟨jI (hN 0),h0.turn (by rw[hg];simp) hbe.os hbe.tape hbe.output hbe.size (fun k hk _=>hbe.block k hk) (fun u s hs=>by rw[hN] at hs;cases hs) (jI (hN 0)) (fun g' u hne=>kA _ _ _ _ (fun e=>hne e.1)) (fun u k hk=>?_) ho⟩;by_cases e:u=0
 . subst e;rw[fI] at hk;cases hk;exact⟨hc,hnew,h0.lo _ (ak _),.inr (ak _)⟩
 . rw[kA _ _ _ _ (fun e'=>e e'.2),hN] at hk;cases hk
end
def bA{α:Sort _}(n:Nat)(k:Nat->α):α:=match n with
 |0=>k 0
 |m+1=>k (m+1)
def xV{α:Sort _}(i:Int)(k:Int->α):α:=match i with
 | .ofNat n=>bA n fun m=>k (.ofNat m)
 | .negSucc n=>bA n fun m=>k (.negSucc m)
def fJ{α U:Type _}:List α->(List α->U)->U
 | [],k=>k []
 |x::xs,k=>fJ xs fun ys=>k (x::ys)
theorem bc{α:Sort _}(n:Nat)(k:Nat->α):bA n k=k n:=by cases n<;>rfl
theorem AP{α:Sort _}(i:Int)(k:Int->α):xV i k=k i:=by cases i<;>simp[xV,bc]
theorem cC{α U:Type _}(l:List α)(k:List α->U):fJ l k=k l:=by
 induction l generalizing k with
 |nil=>rfl
 |cons x xs ih=>simp[fJ,ih]
abbrev Wr:=List (Nat×EO)
abbrev bO:=Option (ES×Wr)
abbrev Hp:=Nat->Option EO
def ac(x:IV):ES:=.w (.one (.iv x))
def dW:IV->EW
 | .agg cs=>.agg (cs.map .iv)
 |x=>.one (.iv x)
def dS:IV->ES
 | .agg cs=>.w (.agg (cs.map .iv))
 | .tup xs=>.tup (xs.map dW)
 |x=>.w (.one (.iv x))
def dT(sz:Nat)(es:List IV):Bool:=es.all fun y=>Nat.beq y.cells.length sz && !y.isTup
def gY(k:IntKind)(n:Int):bO:=xV n fun n=>some (ac (.int k n),[])
def iG(b:Bool):bO:=match b with
 |true=>some (ac (.bool true),[])
 |false=>some (ac (.bool false),[])
def cE:Value->ES
 | .bool b=>ac (.bool b)
 | .int k n=>ac (.int k n)
 | .string s=>ac (.str s.data.toList)
 | .slice none 0 0=>ac (.nil 3)
 | .nilIface=>ac (.nil 0)
 | .nilFunc=>ac (.nil 1)
 | .pointer none=>ac (.nil 2)
 |_=>.unk
def aj(tm:Nat->ES):Operand->ES
 | .tmp t=>tm t
 | .const v=>cE v
 | .func f=>ac (.fn f)
 | .global _=>.unk
def dV(u:Nat):List (Nat×Nat)->Option Nat
 | []=>none
 | (v,p)::l=>bif Nat.beq v u then some p else dV u l
def Df(u off:Nat)(vs:List (Nat×Nat)):List (Nat×Nat):=vs.map fun p=>bif Nat.beq p.1 u then p else(p.1,Nat.min p.2 off)
def gf(o:Option EO)(u off n:Nat):Option (List EV) :=
 match o with
 |some (.mem _ cs _ vs _)=>match dV u vs with
  |some p=>bif Nat.ble (off+n) p then some ((cs.drop off).take n) else none
  |none=>none
 |_=>none
def ge(o:Option EO)(u off:Nat)(new:List EV):Option EO :=
 match o with
 |some (.mem e cs false vs cnt)=>match dV u vs with
  |some p=>bif Nat.ble (off+new.length) p then fJ (splice cs off new) fun cs'=>some (.mem e cs' false (Df u off vs) cnt) else none
  |none=>none
 |_=>none
def mkV(Z:QS)(ag:Bool)(cs:List EV):Option EW :=
 match ag with
 |true=>some (pZ Z cs)
 |false=>match cs with
  | [c]=>some (.one c)
  |_=>none
def fX(zs:List EV):Nat->List EV
 |0=>[]
 |n+1=>zs++fX zs n
def jS(Z:QS)(places:Nat->Option (Nat×Nat)):List EV->List (Nat×ES)->Option (List EV)
 |cs,[]=>some cs
 |cs,(j,.w y)::rest=>match places j with
  |some (off,sz)=>bif Nat.beq (y.cells Z).length sz&&Nat.ble (off+sz) cs.length then jS Z places (splice cs off (y.cells Z)) rest else none
  |none=>none
 |_,_=>none
section
variable (T:TypeId->Option TY)(ze:TypeId->Option (List EV))(Z:QS)
def gD(h:Hp)(g:Nat)(e:TypeId)(cs:List EV)(k:Nat->Nat->ES):bO :=
 match h g with
 |none=>fJ cs fun cs=>bA cs.length fun n=>some (k g n,[(g,.mem e cs false [(0,n)] 1)])
 |some _=>none
def r6(h:Hp)(g:Nat)(t:TypeId):bO :=
 match ze t with
 |some cs=>gD h g t cs fun g _=>.w (.one (.ptr g 0 0))
 |none=>none
def sG(h:Hp)(g:Nat)(t:TypeId)(x:ES):bO :=
 match x with
 | .w y=>gD h g t (y.cells Z) fun g _=>.w (.one (.ptr g 0 0))
 |_=>none
def xZ(t:TypeId)(parts:List (Nat×ES)):bO :=
 match T t,ze t with
 |some ty,some zs=>match ty.sh with
  | .struct=>match jS Z (fun j=>(ty.fields[j]?).map fun p=>(p.1,p.2.2)) zs parts with
   |some cs=>fJ cs fun cs=>some (.w (pZ Z cs),[])
   |none=>none
  | .array _ e=>match T e with
   |some te=>match jS Z (fun j=>some (j*te.size,te.size)) zs parts with
    |some cs=>fJ cs fun cs=>some (.w (pZ Z cs),[])
    |none=>none
   |none=>none
  |_=>none
 |_,_=>none
def tF(h:Hp)(g:Nat)(t:TypeId)(len:Nat)(parts:List (Nat×ES)):bO :=
 match T t with
 |some ty=>match ty.sh with
  | .slice e=>match T e,ze e with
   |some te,some zs=>bif Nat.blt 0 te.size&&Nat.ble (len*te.size) 16777216&&Nat.beq zs.length te.size then(match jS Z (fun i=>some (i*te.size,te.size)) (fX zs len) parts with
    |some cs=>gD h g e cs fun g _=>.w (.one (.slc g 0 0 len (.ex len)))
    |none=>none) else none
   |_,_=>none
  |_=>none
 |none=>none
def rm(h:Hp)(g:Nat)(t:TypeId)(l c:ES):bO :=
 match T t,l,c with
 |some ty,.w (.one (.iv (.int _ (.ofNat m)))),.w (.one (.iv (.int _ (.ofNat m'))))=>match ty.sh with
  | .slice e=>match T e,ze e with
   |some te,some zs=>bif Nat.beq m m'&&Nat.blt 0 te.size&&Nat.beq zs.length te.size&&Nat.ble (te.bytes*m) 281474976710656&&Nat.ble m 1000000 then gD h g e (fX zs m) fun g _=>.w (.one (.slc g 0 0 m (.ex m))) else none
   |_,_=>none
  |_=>none
 |_,_,_=>none
def jq(h:Hp)(t:TypeId)(x:ES):bO :=
 match T t,x with
 |some ty,.w (.one (.ptr g u off))=>match gf (h g) u off ty.size with
  |some cs=>fJ cs fun cs=>match mkV Z ty.sh.agg cs with
   |some r=>some (.w r,[])
   |none=>none
  |none=>none
 |some ty,.w (.one (.dp y off))=>match iV ty.sh.agg ty.size y off with
  |some r=>bif r.isTup then none else some (dS r,[])
  |none=>none
 |_,_=>none
def n9(h:Hp)(t:TypeId)(x y:ES):bO :=
 match T t,x,y with
 |some ty,.w (.one (.ptr g u off)),.w z=>bif Nat.beq (z.cells Z).length ty.size then(match ge (h g) u off (z.cells Z) with
  |some o=>some (.und,[(g,o)])
  |none=>none) else none
 |_,_,_=>none
def pd(s:TypeId)(x:ES)(j:Nat):bO :=
 match T s,x with
 |some ty,.w (.one (.ptr g u off))=>match ty.sh,ty.fields[j]? with
  | .struct,some (fo,_,sz)=>bif Nat.blt 0 sz then bA (off+fo) fun o=>some (.w (.one (.ptr g u o)),[]) else none
  |_,_=>none
 |some ty,.w (.one (.dp y off))=>match ty.sh,ty.fields[j]? with
  | .struct,some (fo,_,sz)=>bif Nat.blt 0 sz then bA (off+fo) fun o=>some (.w (.one (.dp y o)),[]) else none
  |_,_=>none
 |_,_=>none
def mJ(t:TypeId)(x ix:ES):bO :=
 match T t,x,ix with
 |some ty,.w (.one (.slc g u off n _)),.w (.one (.iv (.int _ (.ofNat j))))=>match ty.sh with
  | .slice e=>match T e with
   |some te=>bif Nat.blt j n then bA (off+j*te.size) fun o=>some (.w (.one (.ptr g u o)),[]) else none
   |none=>none
  |_=>none
 |some ty,.w (.one (.ptr g u off)),.w (.one (.iv (.int _ (.ofNat j))))=>match ty.sh with
  | .array n e=>match T e with
   |some te=>bif Nat.blt j n then bA (off+j*te.size) fun o=>some (.w (.one (.ptr g u o)),[]) else none
   |none=>none
  |_=>none
 |some ty,.w (.one (.iv (.sl es))),.w (.one (.iv (.int _ (.ofNat j))))=>match ty.sh with
  | .slice e=>match T e,es[j]? with
   |some te,some y=>bif Nat.beq y.cells.length te.size then some (.w (.one (.dp y 0)),[]) else none
   |_,_=>none
  |_=>none
 |_,_,_=>none
def xY(s:TypeId)(x:ES)(j:Nat):bO :=
 match T s,x with
 |some ty,.w (.agg cs)=>match ty.sh,ty.fields[j]? with
  | .struct,some (fo,ag,sz)=>bif Nat.ble (fo+sz) cs.length then fJ ((cs.drop fo).take sz) fun l=>(match mkV Z ag l with
   |some r=>some (.w r,[])
   |none=>none) else none
  |_,_=>none
 |_,_=>none
def wR(x:ES)(j:Nat):bO :=
 match x with
 | .tup xs=>match xs[j]? with
  |some y=>some (.w y,[])
  |none=>none
 |_=>none
def jC(v:Option ES)(d:Nat):Option Nat :=
 match v with
 |none=>some d
 |some (.w (.one (.iv (.int _ (.ofNat m)))))=>some m
 |_=>none
def sY(o:Option EO)(u off n sz:Nat):Nat :=
 match o with
 |some (.mem _ _ _ vs _)=>match dV u vs with
  |some p=>bif Nat.ble (off+n*sz) p&&Nat.blt 0 sz then(p-off)/sz else n
  |none=>n
 |_=>n
def ij(hp:Hp)(t:TypeId)(x:ES)(lo hi mx:Option ES):bO :=
 match T t with
 |some ty=>match ty.sh,x with
  | .slice e,.w (.one (.slc g u off n cap))=>match T e with
   |some te=>match jC lo 0,jC hi n with
    |some l,some h=>match mx,cap with
     |none,.ex c=>bif Nat.ble l h&&Nat.ble h c then bA (bif Nat.beq c l then off else off+l*te.size) fun o=>bA (h-l) fun n'=>bA (c-l) fun c'=>some (.w (.one (.slc g u o n' (.ex c'))),[]) else none
     |none,.fin sz=>bA (sY (hp g) u off n sz) fun kn=>bif Nat.ble l h&&Nat.ble h kn&&Nat.blt l kn&&Nat.beq sz te.size then bA (off+l*te.size) fun o=>bA (h-l) fun n'=>some (.w (.one (.slc g u o n' (.fin sz))),[]) else
      bif Nat.beq l h&&Nat.ble h kn&&Nat.beq sz te.size then some (ac (.sl []),[]) else none
     |some m,.ex c=>match jC (some m) 0,hi with
      |some m,some _=>bif Nat.ble l h&&Nat.ble h m&&Nat.ble m c then bA (bif Nat.beq m l then off else off+l*te.size) fun o=>bA (h-l) fun n'=>bA (m-l) fun c'=>some (.w (.one (.slc g u o n' (.ex c'))),[]) else none
      |_,_=>none
     |some m,.fin _=>match jC (some m) 0,hi with
      |some m,some _=>bif Nat.ble l h&&Nat.ble h m&&Nat.ble m n then bA (bif Nat.beq m l then off else off+l*te.size) fun o=>bA (h-l) fun n'=>bA (m-l) fun c'=>some (.w (.one (.slc g u o n' (.ex c'))),[]) else none
      |_,_=>none
    |_,_=>none
   |none=>none
  | .slice e,.w (.one (.iv (.sl es)))=>match T e,jC lo 0,jC hi es.length,mx with
   |some te,some l,some h,none=>bif Nat.ble l h&&Nat.ble h es.length&&(Nat.beq l 0||dT te.size es) then some (ac (.sl ((es.take h).drop l)),[]) else none
   |_,_,_,_=>none
  | .array n e,.w (.one (.ptr g u off))=>match T e,lo,hi,mx with
   |some _,none,none,none=>some (.w (.one (.slc g u off n (.ex n))),[])
   |_,_,_,_=>none
  |_,_=>none
 |none=>none
def sd:List ES->Option (List Nat)
 | []=>some []
 | .w (.one (.ptr g 0 0))::l=>(sd l).map (g :: ·)
 |_=>none
def wB(fn:Fn)(first captured:List ES):bO :=
 match fn,first,sd captured with
 | .func f,[],some []=>some (ac (.fn f),[])
 | .func f,[],some (g::gs)=>some (.w (.one (.clo f (g::gs))),[])
 |_,_,_=>none
def sC(op:BinOp)(k:IntKind)(a b:Int):bO :=
 match op with
 | .add=>gY k (k.wrap (a+b))
 | .sub=>gY k (k.wrap (a-b))
 | .mul=>gY k (k.wrap (a*b))
 | .quo=>bif decide (b=0) then none else gY k (k.wrap (a.tdiv b))
 | .rem=>bif decide (b=0) then none else gY k (a.tmod b)
 | .eql=>iG (a==b)
 | .neq=>iG (a != b)
 | .lss=>iG (decide (a<b))
 | .leq=>iG (decide (a<=b))
 | .gtr=>iG (decide (a>b))
 | .geq=>iG (decide (a>=b))
 |_=>none
def strE(op:BinOp)(a b:List UInt8):bO :=
 match op with
 | .add=>bif Nat.ble (a.length+b.length) 1000000 then fJ (a++b) fun l=>some (ac (.str l),[]) else none
 | .eql=>iG (a==b)
 | .neq=>iG (!(a==b))
 |_=>none
def CL:EV->Option Bool
 | .iv (.nil 3)=>some true
 | .slc .. => some false
 | .iv (.sl (_::_))=>some false
 |_=>none
def ox(op:BinOp)(t:TypeId)(x y:ES):bO :=
 match x,y with
 | .w (.one (.iv (.int k a))),.w (.one (.iv (.int k' b)))=>bif decide (k=k') then sC op k a b else none
 | .w (.one (.iv (.str a))),.w (.one (.iv (.str b)))=>strE op a b
 | .w (.one c),.w (.one (.iv (.nil 3)))=>match T t,CL c,op with
  |some ty,some b,.eql=>match ty.sh with
   | .slice _=>iG b
   |_=>none
  |some ty,some b,.neq=>match ty.sh with
   | .slice _=>iG (!b)
   |_=>none
  |_,_,_=>none
 |_,_=>none
def qK(op:UnOp)(x:ES):bO :=
 match op,x with
 | .not,.w (.one (.iv (.bool a)))=>iG (!a)
 | .neg,.w (.one (.iv (.int k a)))=>gY k (k.wrap (0-a))
 |_,_=>none
def uJ(s d:TypeId)(x:ES):bO :=
 match T s,T d,x with
 |some ts,some td,.w (.one (.iv (.int _ a)))=>match ts.sh,td.sh with
  | .int _,.int k=>gY k (k.wrap a)
  |_,_=>none
 |_,_,_=>none
def uI(c a b:ES):bO :=
 match c with
 | .w (.one (.iv (.bool true)))=>some (a,[])
 | .w (.one (.iv (.bool false)))=>some (b,[])
 |_=>none
def yJ(x:ES):bO :=
 match x with
 | .w (.one (.ptr g u o))=>some (.w (.one (.ptr g u o)),[])
 | .w (.one (.dp y o))=>some (.w (.one (.dp y o)),[])
 |_=>none
def iI(h:Hp)(sz:Nat)(x:ES):Option (List EV×Nat) :=
 match x with
 | .w (.one (.slc g u off n _))=>(gf (h g) u off (n*sz)).map fun l=>(l,n)
 | .w (.one (.iv (.nil 3)))=>some ([],0)
 | .w (.one (.iv (.sl es)))=>bif dT sz es then some ((es.flatMap IV.cells).map .iv,es.length) else none
 |_=>none
def ni(t:TypeId)(x:ES):bO :=
 match T t,x with
 |some ty,.w (.one (.slc _ _ _ n _))=>match ty.sh with
  | .slice _=>some (ac (.int .i64 (.ofNat n)),[])
  |_=>none
 |some ty,.w (.one (.iv (.nil 3)))=>match ty.sh with
  | .slice _=>some (ac (.int .i64 0),[])
  |_=>none
 |some ty,.w (.one (.iv (.sl es)))=>match ty.sh with
  | .slice _=>gY .i64 (.ofNat es.length)
  |_=>none
 |some ty,.w (.one (.iv (.str l)))=>match ty.sh with
  | .string=>gY .i64 (.ofNat l.length)
  |_=>none
 |_,_=>none
def yp(vs:List (Nat×Nat)):List (Nat×Nat):=vs.take 64
def jl(h:Hp)(g:Nat)(t:TypeId)(s x:ES):bO :=
 match T t with
 |some ty=>match ty.sh with
  | .slice e=>match T e with
   |some te=>bif Nat.blt 0 te.size&&Nat.beq te.zero.cells.length te.size then(match iI h te.size x with
    |some (news,m)=>match s with
     | .w (.one (.iv (.nil 3)))=>bif Nat.beq m 0 then some (s,[]) else bif Nat.ble m 1000000&&Nat.ble (m*te.bytes) 140737488355328 then gD h g e news fun g _=>.w (.one (.slc g 0 0 m (.fin te.size))) else none
     | .w (.one (.slc g1 u1 off1 n1 cap))=>bif Nat.beq m 0 then some (s,[]) else
      bif Nat.ble (n1+m) 1000000&&Nat.ble ((n1+m)*te.bytes) 140737488355328 then(match cap with
      | .ex c=>bif Nat.ble (n1+m) c then(match ge (h g1) u1 (off1+n1*te.size) news with
       |some o=>bA (n1+m) fun n=>some (.w (.one (.slc g1 u1 off1 n (.ex c))),[(g1,o)])
       |none=>none) else(match gf (h g1) u1 off1 (n1*te.size) with
       |some olds=>gD h g e (olds++news) fun g _=>.w (.one (.slc g 0 0 (n1+m) (.fin te.size)))
       |none=>none)
      | .fin sz=>match h g1 with
       |some (.mem e1 cs false vs cnt)=>bif Nat.beq sz te.size&&Nat.beq e1 e&&Nat.beq off1 0 then(match dV u1 vs with
        |some p=>bif Nat.ble ((n1+m)*te.size) p then(match ge (h g1) u1 (off1+n1*te.size) news with
         |some o=>bA (n1+m) fun n=>some (.w (.one (.slc g1 u1 off1 n (.fin sz))),[(g1,o)])
         |none=>none) else bif Nat.ble (n1*te.size) p then
         fJ (cs.take (n1*te.size)++news) fun cs'=>bA cnt fun u=>bA (n1+m) fun n=>bA (n*te.size) fun q=>bA (u+1) fun cnt'=>
          fJ ((u,q)::yp (vs.map fun p=>(p.1,Nat.min p.2 (n1*te.size)))) fun vs'=>some (.w (.one (.slc g1 u 0 n (.fin te.size))),[(g1,.mem e1 cs' false vs' cnt')]) else none
        |none=>none) else none
       |_=>none) else none
     |_=>none
    |none=>none) else none
   |none=>none
  |_=>none
 |none=>none
def mY(h:Hp)(t:TypeId)(d x:ES):bO :=
 match T t with
 |some ty=>match ty.sh with
  | .slice e=>match T e with
   |some te=>match iI h te.size x,d with
    |some (news,m),.w (.one (.slc g1 u1 off1 n1 _))=>bA (Nat.min m n1) fun k=>match ge (h g1) u1 off1 (news.take (k*te.size)) with
     |some o=>some (ac (.int .i64 (.ofNat k)),[(g1,o)])
     |none=>none
    |_,_=>none
   |none=>none
  |_=>none
 |none=>none
def kH(h:Hp)(t:TypeId)(d:ES):bO :=
 match T t with
 |some ty=>match ty.sh with
  | .slice e=>match T e,ze e with
   |some te,some zs=>bif Nat.beq zs.length te.size then(match d with
    | .w (.one (.slc g1 u1 off1 n1 _))=>match ge (h g1) u1 off1 (fX zs n1) with
     |some o=>some (.tup [],[(g1,o)])
     |none=>none
    | .w (.one (.iv (.sl [])))=>some (.tup [],[])
    | .w (.one (.iv (.nil 3)))=>some (.tup [],[])
    |_=>none) else none
   |_,_=>none
  |_=>none
 |none=>none
def s6(mx:Bool)(x y:ES):bO :=
 match x,y with
 | .w (.one (.iv (.int k a))),.w (.one (.iv (.int _ c)))=>bif mx then gY k (if c>a then c else a) else gY k (if c<a then c else a)
 |_,_=>none
def fk(h:Hp)(g:Nat)(b:Builtin)(ats:List TypeId)(args:List ES):bO :=
 match b,args,ats with
 | .len,[x],[t]=>ni T t x
 | .max,[x,y],_=>s6 true x y
 | .min,[x,y],_=>s6 false x y
 | .append,[s,x],[t,t']=>bif Nat.beq t t' then jl T h g t s x else none
 | .copy,[d,x],[t,_]=>mY T h t d x
 | .clear,[d],[t]=>kH T ze h t d
 |_,_,_=>none
def lI:List EV->Option (List Int)
 | []=>some []
 | .iv (.int .i64 n)::l=>(lI l).map (n :: ·)
 |_=>none
inductive KV where
 |str (s:List UInt8)
 |ints (l:List Int)
 deriving DecidableEq
def gX:EW->Option KV
 | .one (.iv (.str s))=>some (.str s)
 | .agg cs=>(lI cs).map .ints
 |_=>none
def eP(ok:KV->Bool)(k:KV):List (EW×EW×Nat)->Nat->Option (List (Nat×EW×Nat))
 | [],_=>some []
 | (x,y,b)::l,i=>match gX x,eP ok k l (i+1) with
   |some k',some r=>bif ok k' then(bif decide (k'=k) then some ((i,y,b)::r) else some r) else none
   |_,_=>none
def ub(h:Hp)(g:Nat)(res:Option ES):bO :=
 match res,h g with
 |none,none=>some (.w (.one (.mp g)),[(g,.map [] 0)])
 |_,_=>none
def lK(mk:TypeId->Option (TypeId×TypeId×(KV->Bool)))(zw:TypeId->Option EW)(h:Hp)(t:TypeId)(x ix:ES)(cok:Bool):bO :=
 match mk t,x,ix with
 |some (_,e,ok),.w (.one (.mp g)),.w kx=>match h g,gX kx with
  |some (.map es _),some k=>bif ok k then(match eP ok k es 0,zw e with
   |some [],some z=>some (bif cok then .tup [z,.one (.iv (.bool false))] else .w z,[])
   |some [(_,y,_)],some _=>some (bif cok then .tup [y,.one (.iv (.bool true))] else .w y,[])
   |_,_=>none) else none
  |_,_=>none
 |_,_,_=>none
def jg(mk:TypeId->Option (TypeId×TypeId×(KV->Bool)))(h:Hp)(t:TypeId)(x ix y:ES):bO :=
 match mk t,x,ix,y with
 |some (_,_,ok),.w (.one (.mp g)),.w kx,.w v=>match h g,gX kx with
  |some (.map es ck),some k=>bif ok k then(match eP ok k es 0 with
   |some []=>bA (ck+1) fun ck'=>fJ (es ++ [(kx,v,ck)]) fun es'=>some (.und,[(g,.map es' ck')])
   |some [(i,_,b)]=>fJ (es.set i (kx,v,b)) fun es'=>some (.und,[(g,.map es' ck)])
   |_=>none) else none
  |_,_=>none
 |_,_,_,_=>none
def oa(mk:TypeId->Option (TypeId×TypeId×(KV->Bool)))(h:Hp)(g:Nat)(t:TypeId)(x:ES):bO :=
 match mk t,x with
 |some _,.w (.one (.mp gm))=>match h gm,h g with
  |some (.map _ ck),none=>bA ck fun ck=>some (.w (.one (.ptr g 0 0)),[(g,.iter gm ck [] ck none)])
  |_,_=>none
 |_,_=>none
def qa(b:Nat):List (EW×EW×Nat)->Option (EW×EW)
 | []=>none
 | (k,v,b')::l=>bif Nat.beq b' b then some (k,v) else qa b l
def pR(h:Hp)(x:ES):bO :=
 match x with
 | .w (.one (.ptr gi 0 0))=>match h gi with
  |some (.iter gm _ _ last (some b))=>match h gm with
   |some (.map es ck)=>bif Nat.beq ck last then(match qa b es with
    |some (k,v)=>some (.tup [k,v],[])
    |none=>none) else none
   |_=>none
  |_=>none
 |_=>none
def uy(T:TypeId->Option TY)(t:TypeId)(x ix:ES):bO :=
 match T t,x,ix with
 |some ty,.w (.agg cs),.w (.one (.iv (.int _ (.ofNat i))))=>match ty.sh with
  | .array n e=>match T e with
   |some te=>bif Nat.blt i n&&(Nat.beq te.size 1 && !te.sh.agg) then(match cs[i]? with
    |some c=>some (.w (.one c),[])
    |none=>none) else none
   |none=>none
  |_=>none
 |_,_,_=>none
end
structure Tab where
 T:TypeId->Option TY
 zw:TypeId->Option EW
 mp:TypeId->Option (TypeId×TypeId×(KV->Bool))
def Tab.ze(B:Tab)(Z:QS)(t:TypeId):Option (List EV):=(B.zw t).map (·.cells Z)
def eOp(Z:QS)(B:Tab)(o:Op)(V:Operand->ES)(h:Hp)(g:Nat):bO :=
 match o with
 | .move x | .assign x=>some (V x,[])
 | .pick c a b=>uI (V c) (V a) (V b)
 | .alloc t=>r6 (B.ze Z) h g t
 | .box t x=>sG Z h g t (V x)
 | .build t parts=>xZ B.T (B.ze Z) Z t (parts.toList.map fun p=>(p.1,V p.2))
 | .buildSlice t len parts=>tF B.T (B.ze Z) Z h g t len (parts.toList.map fun p=>(p.1,V p.2))
 | .load t x=>jq B.T Z h t (V x)
 | .store t x y=>n9 B.T Z h t (V x) (V y)
 | .nilCheck x=>yJ (V x)
 | .binOp op t x y _=>ox B.T op t (V x) (V y)
 | .unOp op _ x=>qK op (V x)
 | .convert s d x=>uJ B.T s d (V x)
 | .makeFunc fn first captured=>wB fn (first.toList.map V) (captured.toList.map V)
 | .makeSlice t l c=>rm B.T (B.ze Z) h g t (V l) (V c)
 | .slice t x lo hi mx=>ij B.T h t (V x) (lo.map V) (hi.map V) (mx.map V)
 | .fieldAddr s x j=>pd B.T s (V x) j
 | .field s x j=>xY B.T Z s (V x) j
 | .indexAddr t x ix=>mJ B.T t (V x) (V ix)
 | .extract x j=>wR (V x) j
 | .call { callee:=.builtin b,args,argTypes }=>fk B.T (B.ze Z) h g b argTypes.toList (args.toList.map V)
 | .makeMap _ r=>ub h g (r.map V)
 | .lookup t x ix c=>lK B.mp B.zw h t (V x) (V ix) c
 | .mapUpdate t m k v=>jg B.mp h t (V m) (V k) (V v)
 | .insert t m k v=>jg B.mp h t (V m) (V k) (V v)
 | .range t x=>oa B.mp h g t (V x)
 | .entry x=>pR h (V x)
 | .index t x ix=>uy B.T t (V x) (V ix)
 |_=>none
inductive KVR:Value->KV->Prop
 |str (s:ByteArray):KVR (.string s) (.str s.data.toList)
 |ints (l:List Int):KVR (.agg (l.map (Value.int .i64)).toArray) (.ints l)
structure EX where
 P:Program
 B:Tab
 hT:bZ P B.T
 hm:P.follows .mixedOrders=true
 I:World->Prop
 Z:QS
 hzw:∀t y,B.zw t=some y->∃i z,P.info? t=some i/\i.zero=some z/\∀H U,WR Z H U z y
 hmk:∀t k e ok,B.mp t=some (k,e,ok)->P.underlying t=some (.map k e)/\Maps.Keyed P k/\∀v kv,KVR v kv->ok kv=true->∃l,keyOf P k v=some l
abbrev EX.T(X:EX):TypeId->Option TY:=X.B.T
abbrev EX.ze(X:EX):TypeId->Option (List EV):=X.B.ze X.Z
theorem EX.hze(X:EX)(t:TypeId)(cs:List EV)(h:X.ze t=some cs):∃i z,X.P.info? t=some i/\i.zero=some z/\∀H U,CRL X.Z H U z.cells.toList cs:=by
 unfold EX.ze Tab.ze at h;cases hz:X.B.zw t with
 |none=>rw[hz] at h;cases h
 |some y=>
  rw[hz] at h;simp only[eU,ae] at h;obtain⟨i,z,h1,h2,h3⟩:=X.hzw t y hz;exact⟨i,z,h1,h2,fun H U=>by rw[<-h];exact(h3 H U).cells⟩
structure ESt(X:EX)(E:EEnv)(nt:Nat)(H:ah)(U:Bm)(tm:Nat->ES)(h:Hp)(a:Act)(w:World):Prop where
 sim:ESim X.Z E H U h w
 slot:∀t,SRe X.Z H U (a.tmps.getD t undef) (tm t)
 size:a.tmps.size=nt
def cI(tm:Nat->ES)(dst:Option Nat)(r:ES):Nat->ES :=
 match dst with
 |some d=>aD tm d r
 |none=>tm
def a7(h:Hp):Wr->Hp
 | []=>h
 | (g,o)::l=>a7 (aD h g (some o)) l
def MarkSame(w w':World):Prop:=∀D:Nat,w.heap[D]?=some (Obj.deferred (some []))->w'.heap[D]?=w.heap[D]?
theorem MarkSame.refl(w:World):MarkSame w w:=fun _ _=>rfl
theorem MarkSame.below{w w':World}(h:Below w.heap.size w w'):MarkSame w w':=fun D hD=>h.block D (Array.getElem?_eq_some_iff.1 hD).1
theorem MarkSame.row{w:World}{b:Nat}{cs arr:Array Value}{e:TypeId}{fr:Nat×Nat}(hb:w.heap[b]?=some (.cells arr e fr)):MarkSame w (w.setRow b cs):=fun D hD=>mv w b D cs (fun e'=>by subst e';rw[hb] at hD;cases hD)
section
variable {X:EX}{E:EEnv}{nt:Nat}{H H':ah}{U U':Bm}{tm:Nat->ES}{h h':Hp}{a:Act}{w w':World}{o:Oper}
theorem VN(v:Value):SRe X.Z H U v (cE v):=by
 unfold cE;split<;>first
  |trivial
  |exact⟨rfl,VR.bool _⟩
  |exact⟨rfl,VR.int _ _⟩
  |exact⟨rfl,VR.str _ _ rfl⟩
  |exact⟨rfl,VR.nilS⟩
  |exact⟨rfl,VR.nilI⟩
  |exact⟨rfl,VR.nilF⟩
  |exact⟨rfl,VR.nilP⟩
theorem Od{v:Value}{x:IV}(h:VR H v x)(h1:x.isTup=false)(h2:x.isAgg=false):v.oneCell'=true:=by
 cases h<;>first|rfl|(simp[IV.isTup] at h1;done)|(simp[IV.isAgg] at h2;done)
theorem KW{v:Value}{x:IV}(h:VR H v x)(ht:x.isTup=false):WR X.Z H U v (dW x):=by
 cases hx:x.isAgg with
 |true=>
  cases x<;>first|(simp[IV.isAgg] at hx;done)|skip
  rename_i cs;obtain⟨vs,rfl,h1,h2⟩:=h.asAgg;exact⟨vs,rfl,AZ h1 h2⟩
 |false=>
  have e:dW x=.one (.iv x):=by cases x<;>first|rfl|simp[IV.isAgg] at hx
  rw[e];exact⟨Od h ht hx,h⟩
theorem yu{v:Value}{x:IV}(h:VR H v x)(ht:x.isTup=false):SRe X.Z H U v (dS x):=by
 have e:dS x=.w (dW x):=by cases x<;>first|rfl|simp[IV.isTup] at ht
 rw[e];exact KW h ht
theorem bn(hS:ESt X E nt H U tm h a w)(x:Operand):SRe X.Z H U (a.eval x) (aj tm x):=by
 cases x with
 |tmp t=>exact hS.slot t
 |const v=>exact VN v
 |func f=>exact⟨rfl,VR.fn f⟩
 |global _=>trivial
theorem ESt.fin(hS:ESt X E nt H U tm h a w){dst:Option Nat}(hd:∀d,dst=some d->d<nt)(hH:HLe H H')(hB:BLe U U')(hs:ESim X.Z E H' U' h' w'){v:Value}{r:ES}(hv:SRe X.Z H' U' v r) :
 ESt X E nt H' U' (cI tm dst r) h' (a.put dst v) w':=by
 cases dst with
 |none=>exact⟨hs,fun t=>(hS.slot t).mono hH hB,hS.size⟩
 |some d=>
  refine⟨hs,fun t=>?_,?_⟩
  . have hlt:d<a.tmps.size:=by rw[hS.size];exact hd d rfl
    show SRe X.Z H' U' ((a.tmps.setIfInBounds d v).getD t undef) (aD tm d r t);by_cases ht:t=d
    . subst ht;have e:(a.tmps.setIfInBounds t v).getD t undef=v:=by simp[Array.getD,hlt]
      rw[e,aT];exact hv
    . have e:(a.tmps.setIfInBounds d v).getD t undef=a.tmps.getD t undef:=by
       simp only[DX,LX];rw[al (by omega)]
      rw[e,aG _ _ _ ht];exact(hS.slot t).mono hH hB
  . show(a.tmps.setIfInBounds d v).size=nt;rw[D5];exact hS.size
def OpOk(X:EX)(E:EEnv)(H:ah)(U:Bm)(h:Hp)(a:Act)(w:World)(o:Oper)(r:ES)(ws:Wr):Prop :=
 ∃v w' U',((execOp a.eval o).run X.P w=.ok (.value v) w'\/(v=undef/\(execOp a.eval o).run X.P w=.ok .skip w'))/\BLe U U'/\ESim X.Z E H U' (a7 h ws) w'/\MarkSame w w'/\SRe X.Z H U' v r
theorem OpOk.pure(hS:ESt X E nt H U tm h a w){v:Value}{r:ES}(hr:(execOp a.eval o).run X.P w=.ok (.value v) w)(hv:SRe X.Z H U v r):OpOk X E H U h a w o r [] :=
 ⟨v,w,U,.inl hr,BLe.refl _,hS.sim,MarkSame.refl _,hv⟩
theorem nV{k:IntKind}{n:Int}{r:ES}{ws:Wr}(he:gY k n=some (r,ws)):r=ac (.int k n)/\ws=[]:=by
 unfold gY at he;rw[AP] at he;simp only[ae,aA] at he;exact⟨he.1.symm,he.2.symm⟩
theorem pA{b:Bool}{r:ES}{ws:Wr}(he:iG b=some (r,ws)):r=ac (.bool b)/\ws=[]:=by
 cases b<;>(simp only[iG,ae,aA] at he;exact⟨he.1.symm,he.2.symm⟩)
theorem SRe.int{v:Value}{k:IntKind}{n:Int}(h:SRe X.Z H U v (.w (.one (.iv (.int k n))))):v=.int k n:=VR.asInt h.2
theorem SRe.bool{v:Value}{b:Bool}(h:SRe X.Z H U v (.w (.one (.iv (.bool b))))):v=.bool b:=nQ h.2
theorem r9{v:Value}(h:VR H v (.nil 3)):v=.slice none 0 0:=by cases h;rfl
theorem ok_move(hS:ESt X E nt H U tm h a w){x:Operand}(ho:o.op=.move x\/o.op=.assign x):OpOk X E H U h a w o (aj tm x) []:=by
 refine OpOk.pure hS (v:=a.eval x) ?_ (bn hS x);rcases ho with ho|ho<;>simp only[execOp,ho]<;>rfl
theorem ok_pick(hS:ESt X E nt H U tm h a w){c x y:Operand}(ho:o.op=.pick c x y){r:ES}{ws:Wr}(he:uI (aj tm c) (aj tm x) (aj tm y)=some (r,ws)):OpOk X E H U h a w o r ws:=by
 have hc:=bn hS c;unfold uI at he;split at he<;>rename_i hcc<;>(try cases he)
 . rw[hcc] at hc;refine OpOk.pure hS (v:=a.eval x) ?_ (bn hS x);simp only[execOp,ho,hc.bool,asBool,av,ay,au];rfl
 . rw[hcc] at hc;refine OpOk.pure hS (v:=a.eval y) ?_ (bn hS y);simp only[execOp,ho,hc.bool,asBool,av,ay,au];rfl
theorem rI(hS:ESt X E nt H U tm h a w){g:Nat}{e:TypeId}{cs:List EV}{k:Nat->Nat->ES}{r:ES}{ws:Wr}(he:gD h g e cs k=some (r,ws)){arr:Array Value}(ha:CRL X.Z H U (arr.toList.take cs.length) cs)(hl:cs.length<=arr.size) :
 ∃ U',BLe U U'/\U' g 0=some (w.heap.size,arr.size)/\ESim X.Z E H U' (a7 h ws) (w.alloc (.cells arr e))/\MarkSame w (w.alloc (.cells arr e))/\r=k g cs.length:=by
 unfold gD at he;split at he
 . rename_i hg;rw[cC,bc] at he;simp only[ae,aA] at he;obtain⟨rfl,rfl⟩:=he;have hbe:Below w.heap.size w (w.alloc (.cells arr e)):=(mr _ _).alloc (ak _) _;have hnew:H w.heap.size=none:=by
    cases hx:H w.heap.size with
    |none=>rfl
    |some arr'=>have:=hS.sim.has.lt hx;omega
   obtain⟨hb,hs⟩:=hS.sim.alloc hg (b:=.cells arr e) (s:=arr.size) (o:=.mem e cs false [(0,cs.length)] 1) Nat.one_pos (by
    refine⟨fun _ u k hk=>?_,fun u p hup=>?_⟩
    . by_cases e:u=0
      . subst e;rw[fI] at hk;cases hk;exact hnew
      . rw[kA _ _ _ _ (fun e'=>e e'.2),hS.sim.noB hg] at hk;cases hk
    simp only[fQ,aA] at hup;obtain⟨rfl,rfl⟩:=hup;refine⟨Nat.one_pos,_,arr,fI _ _ _ _,hS.sim.lo _ (ak _),by simpa using hnew,nD _ _,rfl,ak _,hl,?_⟩;rw[cU];exact ha.mono (HLe.refl _) (jI (hS.sim.noB hg 0)))
   exact⟨_,hb,fI _ _ _ _,hs,MarkSame.below hbe,rfl⟩
 . cases he
theorem EX.run_zero{t:TypeId}{cs:List EV}(hz:X.ze t=some cs):∃z:Value,(∀w,(zeroValue t).run X.P w=.ok z w)/\(∀H U,CRL X.Z H U z.cells.toList cs)/\z.cells.size=cs.length/\∃i,X.P.info? t=some i/\i.zero=some z:=by
 obtain⟨i,z,h1,h2,h3⟩:=X.hze t cs hz;exact⟨z,fun w=>by simp[zeroValue,typeInfo,h1,h2],h3,by have:=(h3 (fun _=>none) (fun _ _=>none)).length;simpa using this,i,h1,h2⟩
theorem ok_alloc(hS:ESt X E nt H U tm h a w){t:TypeId}(ho:o.op=.alloc t){g:Nat}{r:ES}{ws:Wr}(he:r6 X.ze h g t=some (r,ws)):OpOk X E H U h a w o r ws:=by
 unfold r6 at he;split at he
 . rename_i cs hz;obtain⟨z,hz1,hz2,nw,_⟩:=EX.run_zero hz;obtain⟨U',b1,b2,b3,b4,rfl⟩:=rI hS he (arr:=z.cells) (by rw[aH (by simp[nw])];exact hz2 H U) (by omega);refine⟨.pointer (some ⟨w.heap.size,0,none⟩),_,U',.inl ?_,b1,b3,b4,⟨_,b2,rfl⟩⟩;simp only[execOp,ho,Instr.alloc,av,hz1,au,newVar,newRow,ms,ay];rfl
 . cases he
theorem ok_box(hS:ESt X E nt H U tm h a w){t:TypeId}{x:Operand}(ho:o.op=.box t x){g:Nat}{r:ES}{ws:Wr}(he:sG X.Z h g t (aj tm x)=some (r,ws)):OpOk X E H U h a w o r ws:=by
 have hx:=bn hS x;unfold sG at he;split at he
 . rename_i y hy;rw[hy] at hx;have hx:WR X.Z H U (a.eval x) y:=hx;obtain⟨U',b1,b2,b3,b4,rfl⟩:=rI hS he (arr:=(a.eval x).cells) (by rw[aH (by simp[hx.size])];exact hx.cells) (by rw[hx.size];exact ak _);refine⟨.pointer (some ⟨w.heap.size,0,none⟩),_,U',.inl ?_,b1,b3,b4,⟨_,b2,rfl⟩⟩;simp only[execOp,ho,Instr.box,av,au,newVar,newRow,ms,ay];rfl
 . cases he
theorem wP{places:Nat->Option (Nat×Nat)}{V:Operand->Value}{f:Operand->ES}(hρ:∀x,SRe X.Z H U (V x) (f x)):∀{parts:List (Nat×Operand)} {cs:List EV} {cells:Array Value} {r:List EV},CRL X.Z H U cells.toList cs->jS X.Z places cs (parts.map fun p=>(p.1,f p.2))=some r->
 ∃cells',Instr.fill places cells (parts.map fun p=>(p.1,V p.2))=some cells'/\CRL X.Z H U cells'.toList r
 | [],cs,cells,r,hc,he=>by
  simp only[dO,jS,ae] at he;subst he;exact⟨cells,rfl,hc⟩
 | (j,x)::rest,cs,cells,r,hc,he=>by
   have hx:=hρ x;simp only[aS] at he;cases hfx:f x with
   |w y=>
    rw[hfx] at he hx;have hx:WR X.Z H U (V x) y:=hx;unfold jS at he;split at he
    . rename_i off sz hp;cases hb:(Nat.beq (y.cells X.Z).length sz&&Nat.ble (off+sz) cs.length) with
      |false=>rw[hb] at he;cases he
      |true=>
       rw[hb] at he;simp only[ai] at he;simp only[aC] at hb;have c1:=aw hb.1;have c2:=aB hb.2;have hs:=hx.size;have hl:=hc.length;simp only[eE] at hl;have hfit:off+(V x).cells.size<=cells.size:=by omega
       have hfold:=Am (V x) cells off hfit;obtain⟨cells',e1,e2⟩:=wP hρ (parts:=rest) (cs:=splice cs off (y.cells X.Z)) (cells:=(V x).cells.zipIdx.foldl (fun cs (c,j)=>cs.setIfInBounds (off+j) c) cells) (by rw[hfold];exact hc.splice hx.cells off) he;refine⟨cells',?_,e2⟩;simp only[aS,Instr.fill,hp];have hsz:(V x).cells.size=sz:=by omega
       rw[al (by simp only[oP,hsz,s8,L5,vo,d9];omega)];exact e1
    . cases he
   |_=>rw[hfx] at he;unfold jS at he;cases he
theorem ok_build(hS:ESt X E nt H U tm h a w){t:TypeId}{parts:Array (Nat×Operand)}(ho:o.op=.build t parts){r:ES}{ws:Wr}(he:xZ X.T X.ze X.Z t (parts.toList.map fun p=>(p.1,aj tm p.2))=some (r,ws)):OpOk X E H U h a w o r ws:=by
 unfold xZ at he;split at he
 . rename_i ty zs ht hz;obtain⟨i,d,z,ok⟩:=aM (X.hT t ty ht);obtain⟨z',hz1,hz2,nw,i',hz4,hz5⟩:=EX.run_zero hz;have hd':=ok.sh;have ei:i'=i:=by have:=ok.info;rw[hz4] at this;simpa using this
   subst ei;have ez:z'=z:=by have:=ok.zero;rw[hz5] at this;simpa using this
   subst ez;split at he
   . rename_i hsh;rw[hsh] at hd';obtain⟨fs,rfl⟩:=pa hd';have hfields:ib X.P fs.toList=some ty.fields:=ok.fields;have hpl:=zX hfields;split at he
     . rename_i cs hf;rw[cC] at he;simp only[ae,aA] at he;obtain⟨rfl,rfl⟩:=he;have hplace:(fun j=>(ty.fields[j]?).map fun p=>(p.1,p.2.2))=(((ty.fields.map fun p=>(p.1,p.2.2)).toArray[·]?):Nat->Option (Nat×Nat)):=by funext j;simp
       rw[hplace] at hf;obtain⟨cells',e1,e2⟩:=wP (fun x=>bn hS x) (hz2 H U) hf;refine OpOk.pure hS (v:=.agg cells') ?_ ?_
       . have hr:=EG ok w (parts.map fun(i,x)=>(i,a.eval x)) hpl (cells:=cells') (by simpa using e1);simp only[execOp,ho,av,hr,au,ay]
       . have:=Ba e2;show WR _ _ _ _ _;simpa using this
     . cases he
   . rename_i n e hsh;rw[hsh] at hd';obtain rfl:=rh hd';split at he
     . rename_i te hte;obtain⟨ie,de,zee,oke⟩:=aM (X.hT e te hte);split at he
       . rename_i cs hf;rw[cC] at he;simp only[ae,aA] at he;obtain⟨rfl,rfl⟩:=he;obtain⟨cells',e1,e2⟩:=wP (fun x=>bn hS x) (hz2 H U) hf;refine OpOk.pure hS (v:=.agg cells') ?_ ?_
         . have hr:=EK ok oke w (parts.map fun(i,x)=>(i,a.eval x)) (cells:=cells') (by simpa using e1);simp only[execOp,ho,av,hr,au,ay]
         . have:=Ba e2;show WR _ _ _ _ _;simpa using this
       . cases he
     . cases he
   . cases he
 . cases he
end
section
variable {X:EX}{E:EEnv}{nt:Nat}{H H':ah}{U U':Bm}{tm:Nat->ES}{h h':Hp}{a:Act}{w w':World}{o:Oper}
theorem wa(zs:List EV):∀n,(fX zs n).length=n*zs.length
 |0=>by simp[fX]
 |n+1=>by simp[fX,wa zs n,bP];omega
theorem ud{z:Value}{zs:List EV}(hz:CRL X.Z H U z.cells.toList zs):∀n,CRL X.Z H U (aO (List.replicate n z)) (fX zs n)
 |0=>trivial
 |n+1=>by
  rw[qN,mN];exact hz.append (ud hz n)
theorem E7{Z:QS}{places:Nat->Option (Nat×Nat)}:∀(parts:List (Nat×ES)) {cs r:List EV},jS Z places cs parts=some r->r.length=cs.length
 | [],cs,r,he=>by simp only[jS,ae] at he;rw[he]
 | (j,x)::rest,cs,r,he=>by
   cases x with
   |w y=>
    unfold jS at he;split at he
    . rename_i off sz hp;cases hb:(Nat.beq (y.cells Z).length sz&&Nat.ble (off+sz) cs.length) with
      |false=>rw[hb] at he;cases he
      |true=>
       rw[hb] at he;simp only[ai] at he;simp only[aC] at hb;have c1:=aw hb.1;have c2:=aB hb.2;rw[E7 rest he,iA (by omega)]
    . cases he
   |_=>unfold jS at he;cases he
theorem ok_buildSlice(hS:ESt X E nt H U tm h a w){t:TypeId}{len:Nat}{parts:Array (Nat×Operand)}(ho:o.op=.buildSlice t len parts){g:Nat}{r:ES}{ws:Wr}(he:tF X.T X.ze X.Z h g t len (parts.toList.map fun p=>(p.1,aj tm p.2))=some (r,ws)):OpOk X E H U h a w o r ws:=by
 unfold tF at he;split at he
 . rename_i ty ht;obtain⟨i,d,z,ok⟩:=aM (X.hT t ty ht);have hd':=ok.sh;split at he
   . rename_i e hsh;rw[hsh] at hd';obtain rfl:=eH hd';split at he
     . rename_i te zs hte hz;obtain⟨ie,de,zee,oke⟩:=aM (X.hT e te hte);obtain⟨ze,hz1,hz2,nw,i',hz4,hz5⟩:=EX.run_zero hz;cases hb:(Nat.blt 0 te.size&&Nat.ble (len*te.size) 16777216&&Nat.beq zs.length te.size) with
       |false=>rw[hb] at he;cases he
       |true=>
        rw[hb] at he;simp only[ai] at he;simp only[aC] at hb;obtain⟨⟨b1,b2⟩,b3⟩:=hb;have hp:0<te.size:=jE (by simpa[Nat.blt] using b1);have hl:=aB b2;have hzl:=aw b3;have hzc:ze.cells.size=te.size:=by omega
        split at he
        . rename_i cs hf;have hmf:=tS hzc hp len;obtain⟨cells',e1,e2⟩:=wP (fun x=>bn hS x) (cells:=madeCells ze.cells (len*te.size)) (by rw[hmf];exact ud (hz2 H U) len) hf;have hcl:=e2.length;simp only[eE] at hcl;have hsz:cells'.size=len*te.size:=by
           rw[hcl,E7 _ hf,wa,hzl]
          obtain⟨U',b1,b2,b3,b4,rfl⟩:=rI hS he (arr:=cells') (by rw[aH (by simp[hcl])];exact e2) (by omega);refine⟨.slice (some ⟨w.heap.size,0,none⟩) len len,_,U',.inl ?_,b1,b3,b4,⟨_,len,b2,rfl,ak _,rfl⟩⟩;have hnl:¬(len*te.size>2^24):=by omega
          have e1':Instr.fill (fun i=>some (i*te.size,te.size)) (madeCells ze.cells (len*te.size)) (parts.map fun(i,x)=>(i,a.eval x)).toList=some cells':=by simpa using e1
          simp only[execOp,ho,Instr.buildSlice,av,ok.run_und,au,oke.run_size,hnl,bE];by_cases h0:len*te.size=0
          . have em:madeCells ze.cells (len*te.size)=(Array.range (len*te.size)).map (fun x=>(#[]:Array Value)[x%(#[]:Array Value).size]!):=by
             simp[h0,madeCells,Array.range_zero']
            rw[em] at e1';simp only[ar h0,av,ay,au,e1',newRow,ms];rfl
          . have em:madeCells ze.cells (len*te.size)=(Array.range (len*te.size)).map (fun x=>ze.cells[x%ze.cells.size]!):=rfl;rw[em] at e1';simp only[al h0,av,ay,au,hz1,e1',newRow,ms];rfl
        . cases he
     . cases he
   . cases he
 . cases he
theorem ok_makeSlice(hS:ESt X E nt H U tm h a w){t:TypeId}{l c:Operand}(ho:o.op=.makeSlice t l c){g:Nat}{r:ES}{ws:Wr}(he:rm X.T X.ze h g t (aj tm l) (aj tm c)=some (r,ws)):OpOk X E H U h a w o r ws:=by
 have hl:=bn hS l;have hc:=bn hS c;unfold rm at he;split at he
 . rename_i ty k1 m k2 m' ht hle hce;rw[hle] at hl;rw[hce] at hc;obtain⟨i,d,z,ok⟩:=aM (X.hT t ty ht);have hd':=ok.sh;split at he
   . rename_i e hsh;rw[hsh] at hd';obtain rfl:=eH hd';split at he
     . rename_i te zs hte hz;obtain⟨ie,de,zee,oke⟩:=aM (X.hT e te hte);obtain⟨ze,hz1,hz2,nw,i',hz4,hz5⟩:=EX.run_zero hz;cases hb:(Nat.beq m m'&&Nat.blt 0 te.size&&Nat.beq zs.length te.size&&Nat.ble (te.bytes*m) 281474976710656&&Nat.ble m 1000000) with
       |false=>rw[hb] at he;cases he
       |true=>
        rw[hb] at he;simp only[ai] at he;simp only[aC] at hb;obtain⟨⟨⟨⟨b0,b1⟩,b3⟩,b4⟩,b5⟩:=hb;have em:=aw b0;subst em;have hp:0<te.size:=jE (by simpa[Nat.blt] using b1);have hzl:=aw b3;have h4:=aB b4;have h5:=aB b5;have hzc:ze.cells.size=te.size:=by omega
        have hmf:=tS hzc hp m;have hms:(madeCells ze.cells (m*te.size)).size=m*te.size:=by simp[size_madeCells]
        obtain⟨U',b1,b2,b3,b4,rfl⟩:=rI hS he (arr:=madeCells ze.cells (m*te.size)) (by rw[aH (by rw[eE,hms,wa,hzl];exact ak _),hmf];exact ud (hz2 H U) m) (by rw[hms,wa,hzl];exact ak _);have hb':((ie.bytes:Nat):Int)*(m:Int)<=281474976710656:=by
         rw[oke.bytes];have:((te.bytes*m:Nat):Int)<=281474976710656:=by omega
         rwa[iZ] at this
        have ez:i'=ie:=by have:=oke.info;rw[hz4] at this;simpa using this
        subst ez;have hr:=run_make (P:=X.P) w t e i' ze ok.und hz4 hz5 k1 k2 (m:Int) (m:Int) (by omega) (L6 _) hb' (by omega);simp only[mw,oke.size] at hr;refine⟨.slice (some ⟨w.heap.size,0,none⟩) m m,_,U',.inl ?_,b1,b3,b4,⟨_,m,b2,rfl,ak _,rfl⟩⟩;have e1:=hl.int;have e2:=hc.int;simp only[gM] at e1 e2;simp only[execOp,ho,e1,e2,av,hr,au,ay]
     . cases he
   . cases he
 . cases he
theorem nS{u p:Nat}:∀{vs:List (Nat×Nat)},dV u vs=some p->(u,p)∈vs
 | [],h=>by simp[dV] at h
 | (v,q)::l,h=>by
   unfold dV at h;cases hb:Nat.beq v u with
   |true=>
    rw[hb] at h;simp only[ai,ae] at h;rw[aw hb,h];simp
   |false=>rw[hb] at h;exact dx _ (nS h)
theorem xI(hS:ESim X.Z E H U h w){g u off n:Nat}{cs:List EV}(he:gf (h g) u off n=some cs) :
 ∃k arr e,U g u=some k/\w.heap[k.1]?=some (.cells arr e (0,0))/\off+n<=arr.size/\CRL X.Z H U ((arr.toList.drop off).take n) cs/\arr.size=k.2/\cs.length=n:=by
 unfold gf at he;split at he
 . rename_i e cs0 fz vs cnt hg;split at he
   . rename_i p hv;cases hb:Nat.ble (off+n) p with
     |false=>rw[hb] at he;cases he
     |true=>
      rw[hb] at he;simp only[ai,ae] at he;subst he;have hle:=aB hb;obtain⟨_,k,arr,h1,h2,h3,h4,h5,h6,h7,h8⟩:=(hS.obj g _ hg).2 u p (nS hv);refine⟨k,arr,e,h1,h4,by omega,?_,h5,by simp;omega⟩;have:=(h8.drop off).take n;rw[kY,kY,b6,b6,cg (by omega)] at this;exact this
   . cases he
 . cases he
theorem mkV_ok{ag:Bool}{cs:List EV}{r:EW}(he:mkV X.Z ag cs=some r){vs:List Value}(hv:CRL X.Z H U vs cs):(ag=true/\WR X.Z H U (.agg vs.toArray) r)\/(ag=false/\∃v,vs=[v]/\WR X.Z H U v r):=by
 unfold mkV at he;split at he
 . simp only[ae] at he;subst he;exact .inl ⟨rfl,Ba hv⟩
 . split at he
   . simp only[ae] at he;subst he;cases vs with
     |nil=>exact hv.elim
     |cons v vs=>cases vs with
      |nil=>exact .inr ⟨rfl,v,rfl,hv.1⟩
      |cons=>exact hv.2.elim
   . cases he
theorem Sw(hS:ESt X E nt H U tm h a w){t:TypeId}{x:Operand}(ho:o.op=.load t x){r:ES}{ws:Wr}(he:jq X.T X.Z h t (aj tm x)=some (r,ws)):OpOk X E H U h a w o r ws:=by
 have hx:=bn hS x;unfold jq at he;split at he
 . rename_i ty g u off ht hxe;rw[hxe] at hx;obtain⟨k,hk,hx⟩:=hx;obtain⟨i,d,z,ok⟩:=aM (X.hT t ty ht);split at he
   . rename_i cs hrd;rw[cC] at he;obtain⟨k',arr,e,h1,h2,h3,h4,h5,h6⟩:=xI hS.sim hrd;rw[hk] at h1;cases h1;split at he
     . rename_i y hv;simp only[ae,aA] at he;obtain⟨rfl,rfl⟩:=he;have hcell:∀j c,((arr.toList.drop off).take ty.size)[j]?=some c->w.cell? ⟨k.1,off+j,none⟩=some c:=fun j c hc=>by
        rw[oO w _ _ arr e (0,0) h2];rw[cL] at hc;split at hc
        . simpa using hc
        . simp at hc
       rcases mkV_ok hv h4 with⟨q1,q2⟩|⟨q1,v,q2,q3⟩
       . refine OpOk.pure hS (v:=.agg ((arr.toList.drop off).take ty.size).toArray) ?_ q2;have hl:=L4 (P:=X.P) w ⟨k.1,off,none⟩ ((arr.toList.drop off).take ty.size) (fun j c hc=>by rw[dQ];exact hcell j c hc);have hlen:((arr.toList.drop off).take ty.size).length=ty.size:=by simp;omega
         rw[hlen] at hl;have hr:(loadVar t ⟨k.1,off,none⟩).run X.P w=.ok (.agg ((arr.toList.drop off).take ty.size).toArray) w:=by
          simp only[loadVar,av,ok.run_agg,q1,au,bD,ok.run_size,hl,ay]
         simp only[execOp,ho,hx,Instr.loadAt,Instr.sureAddr,av,ay,au,hr]
       . refine OpOk.pure hS (v:=v) ?_ q3;have h0:=hcell 0 v (by rw[q2];rfl);rw[eG] at h0;have hr:(loadVar t ⟨k.1,off,none⟩).run X.P w=.ok v w:=by
          simp only[loadVar,av,ok.run_agg,q1,au,cM,bE,run_load,h0]
         simp only[execOp,ho,hx,Instr.loadAt,Instr.sureAddr,av,ay,au,hr]
     . cases he
   . cases he
 . rename_i ty y off ht hxe;rw[hxe] at hx;obtain⟨b,base,v,arr,hxv,hb,h4,h6⟩:=hx;obtain⟨i,d,z,ok⟩:=aM (X.hT t ty ht);obtain⟨e,fr,h5⟩:=hS.sim.has b arr hb;split at he
   . rename_i r0 hl;cases hrt:r0.isTup with
     |true=>rw[hrt] at he;cases he
     |false=>
      rw[hrt] at he;simp only[aW,ae,aA] at he;obtain⟨rfl,rfl⟩:=he;obtain⟨u,hr,hu⟩:=rb ok h5 h4 h6 hl;refine OpOk.pure hS (v:=u) ?_ (yu hu hrt);simp only[execOp,ho,hxv,Instr.loadAt,Instr.sureAddr,av,ay,au,hr]
   . cases he
 . cases he
theorem PV{u off:Nat}{vs:List (Nat×Nat)}{v q:Nat}(h:(v,q)∈Df u off vs):(v=u/\(v,q)∈vs)\/(v≠u/\∃q',(v,q')∈vs/\q<=q'/\q<=off):=by
 unfold Df at h;obtain⟨p,hp,e⟩:=List.mem_map.1 h;cases hb:Nat.beq p.1 u with
 |true=>
  rw[hb] at e;simp only[ai] at e;subst e;exact .inl ⟨aw hb,hp⟩
 |false=>
  rw[hb] at e;simp only[aW,aA] at e;obtain⟨e1,e2⟩:=e;have e2':q=min p.2 off:=e2.symm;refine .inr ⟨fun e'=>?_,p.2,by rw[<-e1];exact hp,by omega,by omega⟩;rw[e1,e',bj] at hb;cases hb
theorem Ab{α:Type}{A Yz9:List α}{off p:Nat}(h:p<=off)(h2:off<=A.length):(splice A off Yz9).take p=A.take p:=by
 unfold splice;rw[dj,jD (by simp;omega),b6,cg h]
theorem vV{α:Type}{A Yz9:List α}{off p:Nat}(h:off+Yz9.length<=p)(h2:p<=A.length):(splice A off Yz9).take p=splice (A.take p) off Yz9:=by
 apply oQ;intro k;rw[cL];by_cases hk:k<p
 . rw[ar hk,rg (by omega),rg (by simp;omega),cL,ar hk]
 . rw[al hk,rg (by simp;omega),al (by omega),cL,al hk]
theorem xC(hS:ESim X.Z E H U h w){g u off:Nat}{new:List EV}{o':EO}(he:ge (h g) u off new=some o'){us:List Value}(hu:CRL X.Z H U us new) :
 ∃k arr e,U g u=some k/\w.heap[k.1]?=some (.cells arr e (0,0))/\off+us.length<=arr.size/\arr.size=k.2/\ESim X.Z E H U (aD h g (some o')) (w.setRow k.1 (splice arr.toList off us).toArray)/\MarkSame w (w.setRow k.1 (splice arr.toList off us).toArray):=by
 unfold ge at he;split at he
 . rename_i e cs vs cnt hg;split at he
   . rename_i p hv;cases hb:Nat.ble (off+new.length) p with
     |false=>rw[hb] at he;cases he
     |true=>
      rw[hb,cC] at he;simp only[ai,ae] at he;subst he;have hle:=aB hb;have hO:=hS.obj g _ hg;obtain⟨_,k,arr,h1,h2,h3,h4,h5,h6,h7,h8⟩:=hO.2 u p (nS hv);have h3:H k.1=none:=hO.1 rfl u k h1;have hul:=hu.length;have hsz:(splice arr.toList off us).toArray.size=arr.size:=by
       simp only[ko];rw[iA (by simp;omega),eE]
      have hrow:=tc w k.1 arr (splice arr.toList off us).toArray e (0,0) h4;refine⟨k,arr,e,h1,h4,by omega,h5,?_,MarkSame.row h4⟩;refine hS.turn (by rw[hg];simp) rfl rfl rfl (by simp) (fun k' _ hk'=>mv _ _ _ _ (fun e'=>hk' u k h1 e'.symm)) (fun u' s' hs'=>hO.1 rfl u' s' hs') (BLe.refl _) (fun _ _ _=>rfl) (fun u' k' hk'=>?_) ⟨fun _=>hO.1 rfl,fun v q hvq=>?_⟩
      . obtain⟨hlt,hown,o2,ho2,hc2⟩:=hS.domN hg (by simp) u' k' hk';rw[hg] at ho2;cases ho2;exact⟨hc2,by simpa using hlt,hown,.inl ⟨u',k',hk',rfl⟩⟩
      . rcases PV hvq with⟨rfl,hm⟩|⟨hne,q',hm,hq1,hq2⟩
        . obtain⟨c1,k',arr',d1,d2,d3,d4,d5,d6,d7,d8⟩:=hO.2 v q hm;rw[h1] at d1;cases d1;rw[h4] at d4;cases d4;refine⟨c1,k,_,h1,h2,by simpa using h3,hrow,by rw[hsz];exact h5,by rw[iA (by omega)];exact d6,by rw[hsz];exact d7,?_⟩;rcases eS q (off+new.length) with hlt|hge
          . -- the prefix ends inside: cut both
            have e1:(splice arr.toList off us).take q=((splice arr.toList off us).take (off+new.length)).take q:=by rw[b6,cg (by omega)]
            have e2:(splice cs off new).take q=((splice cs off new).take (off+new.length)).take q:=by rw[b6,cg (by omega)]
            show CRL X.Z H U ((splice arr.toList off us).take q) _;have hl1:off+us.length<=off+new.length:=by omega
            have hl2:off+new.length<=arr.toList.length:=by simp;omega
            rw[e1,e2,vV hl1 hl2,vV (ak _) (by omega)];refine CRL.take q (CRL.splice ?_ hu off);have:=h8.take (off+new.length);rwa[b6,b6,cg hle] at this
          . show CRL X.Z H U ((splice arr.toList off us).take q) _;rw[vV (by omega) (by simp;omega),vV (by omega) (by omega)];exact d8.splice hu off
        . obtain⟨c1,k',arr',d1,d2,d3,d4,d5,d6,d7,d8⟩:=hO.2 v q' hm;have hd8:CRL X.Z H U (arr'.toList.take q) ((splice cs off new).take q):=by
           rw[Ab hq2 (by omega)];have:=d8.take q;rwa[b6,b6,cg hq1] at this
          by_cases hk:k'.1=k.1
          . rw[hk,h4] at d4;cases d4;refine⟨c1,k',_,d1,d2,by rw[hk];simpa using h3,by rw[hk];exact hrow,by rw[hsz];exact d5,by rw[iA (by omega)];omega,by rw[hsz];omega,?_⟩;show CRL X.Z H U ((splice arr.toList off us).take q) _;rw[Ab hq2 (by simp;omega)];exact hd8
          . refine⟨c1,k',arr',d1,d2,d3,(mv _ _ _ _ hk).trans d4,d5,by rw[iA (by omega)];omega,by omega,hd8⟩
   . cases he
 . cases he
end
section
variable {X:EX}{E:EEnv}{nt:Nat}{H H':ah}{U U':Bm}{tm:Nat->ES}{h h':Hp}{a:Act}{w w':World}{o:Oper}
theorem Qx(hS:ESt X E nt H U tm h a w){t:TypeId}{x y:Operand}(ho:o.op=.store t x y){r:ES}{ws:Wr}(he:n9 X.T X.Z h t (aj tm x) (aj tm y)=some (r,ws)):OpOk X E H U h a w o r ws:=by
 have hx:=bn hS x;have hy:=bn hS y;unfold n9 at he;split at he
 . rename_i ty g u off z ht hxe hye;rw[hxe] at hx;rw[hye] at hy;obtain⟨k,hk,hx⟩:=hx;have hy:WR X.Z H U (a.eval y) z:=hy;obtain⟨i,d,zz,ok⟩:=aM (X.hT t ty ht);cases hb:Nat.beq (z.cells X.Z).length ty.size with
   |false=>rw[hb] at he;cases he
   |true=>
    rw[hb] at he;simp only[ai] at he;have hsz:=aw hb;split at he
    . rename_i o' hw;simp only[ae,aA] at he;obtain⟨rfl,rfl⟩:=he;obtain⟨k',arr,e,h1,h2,h3,h4,h5,h6⟩:=xC hS.sim hw hy.cells;rw[hk] at h1;cases h1;have hrun:=zZ (P:=X.P) ok (o:=off) h2 (u:=a.eval y) (by rw[hy.size,hsz]) (by simpa using h3) hy.cells.one;refine⟨undef,_,U,.inr ⟨rfl,?_⟩,BLe.refl _,h5,h6,rfl⟩;simp only[execOp,ho,hx,Instr.storeAt,Instr.sureAddr,av,ay,au,hrun]
    . cases he
 . cases he
theorem ok_fieldAddr(hS:ESt X E nt H U tm h a w){t:TypeId}{x:Operand}{j:Nat}(ho:o.op=.fieldAddr t x j){r:ES}{ws:Wr}(he:pd X.T t (aj tm x) j=some (r,ws)):OpOk X E H U h a w o r ws:=by
 have hx:=bn hS x;unfold pd at he;split at he
 . rename_i ty g u off ht hxe;rw[hxe] at hx;obtain⟨k,hk,hx⟩:=hx;obtain⟨i,d,z,ok⟩:=aM (X.hT t ty ht);split at he
   . rename_i fo ag sz hsh hf;cases hb:Nat.blt 0 sz with
     |false=>rw[hb] at he;cases he
     |true=>
      rw[hb,bc] at he;simp only[ai,ae,aA] at he;obtain⟨rfl,rfl⟩:=he;have hsz:0<sz:=jE (by simpa[Nat.blt] using hb);have hd':=ok.sh;rw[hsh] at hd';obtain⟨fs,rfl⟩:=pa hd';obtain⟨fd,fi,dd,e1,e2,e3,e4,e5,e6⟩:=qZ (show ib X.P fs.toList=some ty.fields from ok.fields) hf;refine OpOk.pure hS (v:=.pointer (some ⟨k.1,off+fo,none⟩)) ?_ ⟨k,hk,rfl⟩;have e1':fs[j]?=some fd:=by simpa using e1
      have hs:(sizeOf fd.type).run X.P w=.ok fi.size w:=by simp[sizeOf,typeInfo,e3]
      have h0:¬fi.size=0:=by omega
      simp only[execOp,ho,hx,Instr.fieldAt,av,ok.run_und,au,e1',Instr.sureAddr,ay,fieldPlace,hs,h0,bE,dQ,e2]
   . cases he
 . rename_i ty y off ht hxe;rw[hxe] at hx;obtain⟨b,base,v,arr,hxv,q1,q2,q3⟩:=hx;obtain⟨i,d,z,ok⟩:=aM (X.hT t ty ht);split at he
   . rename_i fo ag sz hsh hf;cases hb:Nat.blt 0 sz with
     |false=>rw[hb] at he;cases he
     |true=>
      rw[hb,bc] at he;simp only[ai,ae,aA] at he;obtain⟨rfl,rfl⟩:=he;have hsz:0<sz:=jE (by simpa[Nat.blt] using hb);have hd':=ok.sh;rw[hsh] at hd';obtain⟨fs,rfl⟩:=pa hd';obtain⟨fd,fi,dd,e1,e2,e3,e4,e5,e6⟩:=qZ (show ib X.P fs.toList=some ty.fields from ok.fields) hf;refine OpOk.pure hS (v:=.pointer (some ⟨b,base+off+fo,none⟩)) ?_ ⟨b,base,v,arr,by rw[kX],q1,q2,q3⟩;have e1':fs[j]?=some fd:=by simpa using e1
      have hs:(sizeOf fd.type).run X.P w=.ok fi.size w:=by simp[sizeOf,typeInfo,e3]
      have h0:¬fi.size=0:=by omega
      simp only[execOp,ho,hxv,Instr.fieldAt,av,ok.run_und,au,e1',Instr.sureAddr,ay,fieldPlace,hs,h0,bE,dQ,e2]
   . cases he
 . cases he
theorem NF(hS:ESt X E nt H U tm h a w){t:TypeId}{x ix:Operand}(ho:o.op=.indexAddr t x ix){r:ES}{ws:Wr}(he:mJ X.T t (aj tm x) (aj tm ix)=some (r,ws)):OpOk X E H U h a w o r ws:=by
 have hx:=bn hS x;have hi:=bn hS ix;unfold mJ at he;split at he
 . rename_i ty g u off n cap kk j ht hxe hie;rw[hxe] at hx;rw[hie] at hi;obtain⟨k,c,hk,hx,_⟩:=hx;have hi:=hi.int;simp only[gM] at hi;obtain⟨i,d,z,ok⟩:=aM (X.hT t ty ht);have hd':=ok.sh;split at he
   . rename_i e hsh;rw[hsh] at hd';obtain rfl:=eH hd';split at he
     . rename_i te hte;obtain⟨ie,de,ze,oke⟩:=aM (X.hT e te hte);cases hb:Nat.blt j n with
       |false=>rw[hb] at he;cases he
       |true=>
        rw[hb,bc] at he;simp only[ai,ae,aA] at he;obtain⟨rfl,rfl⟩:=he;have hlt:j<n:=jE (by simpa[Nat.blt] using hb);refine OpOk.pure hS (v:=.pointer (some ⟨k.1,off+j*te.size,none⟩)) ?_ ⟨k,hk,rfl⟩;have hcond:(0:Int)<=(j:Int)/\(j:Int)<(n:Int):=⟨by omega,by omega⟩;simp only[execOp,ho,hx,hi,Instr.indexAt,asIntOf,av,ay,au,ok.run_und,hcond,vq,bD,mw,oke.run_size,dQ]
     . cases he
   . cases he
 . rename_i ty g u off kk j ht hxe hie;rw[hxe] at hx;rw[hie] at hi;obtain⟨k,hk,hx⟩:=hx;have hi:=hi.int;simp only[gM] at hi;obtain⟨i,d,z,ok⟩:=aM (X.hT t ty ht);have hd':=ok.sh;split at he
   . rename_i n e hsh;rw[hsh] at hd';obtain rfl:=rh hd';split at he
     . rename_i te hte;obtain⟨ie,de,ze,oke⟩:=aM (X.hT e te hte);cases hb:Nat.blt j n with
       |false=>rw[hb] at he;cases he
       |true=>
        rw[hb,bc] at he;simp only[ai,ae,aA] at he;obtain⟨rfl,rfl⟩:=he;have hlt:j<n:=jE (by simpa[Nat.blt] using hb);refine OpOk.pure hS (v:=.pointer (some ⟨k.1,off+j*te.size,none⟩)) ?_ ⟨k,hk,rfl⟩;have hcond:(0:Int)<=(j:Int)/\(j:Int)<(n:Int):=⟨by omega,by omega⟩;simp only[execOp,ho,hx,hi,Instr.indexAt,asIntOf,Instr.sureAddr,av,ay,au,ok.run_und,hcond,vq,bD,mw,oke.run_size,dQ]
     . cases he
   . cases he
 . rename_i ty es kk j ht hxe hie;rw[hxe] at hx;rw[hie] at hi;have hi:=hi.int;have hxd:VR H (a.eval x) (.sl es):=hx.2;simp only[gM] at hi;obtain⟨i,d,z,ok⟩:=aM (X.hT t ty ht);have hd':=ok.sh;split at he
   . rename_i e hsh;rw[hsh] at hd';obtain rfl:=eH hd';split at he
     . rename_i te y hte hj;obtain⟨ie,de,ze,oke⟩:=aM (X.hT e te hte);cases hb:Nat.beq y.cells.length te.size with
       |false=>rw[hb] at he;cases he
       |true=>
        rw[hb] at he;simp only[ai,ae,aA] at he;obtain⟨rfl,rfl⟩:=he;have hy:=aw hb;have hlt:j<es.length:=(List.getElem?_eq_some_iff.1 hj).1;generalize hev:a.eval x=ev at hxd;cases hxd with
        |sl0=>simp at hlt
        |sl b off n cap sz arr vs _ hb hs hn hc hz ha=>
         obtain⟨u,hu1,hu2⟩:=hs.get j y hj;have hm:u∈vs:=cd hu1;have hsz:sz=te.size:=by rw[<-hz u hm,hu2.size,hy]
         have hvl:=hs.length;refine OpOk.pure hS (v:=.pointer (some ⟨b,off+j*te.size,none⟩)) ?_ ⟨b,off+j*te.size,u,arr,rfl,hb,hu2,?_⟩
         . have hlt':(j:Int)<(n:Int):=by omega
           have hcond:(0:Int)<=(j:Int)/\(j:Int)<(n:Int):=⟨by omega,hlt'⟩;simp only[execOp,ho,hev,hi,Instr.indexAt,asIntOf,av,ay,au,ok.run_und,hcond,vq,bD,mw,oke.run_size,dQ]
         . rw[<-hsz,hz u hm,<-nC,<-flat_get hz hu1,<-ha,kY,b6,cg];rw[<-ta];have:1*sz<=(vs.length-j)*sz:=bW _ (by omega);omega
     . cases he
   . cases he
 . cases he
theorem ok_field(hS:ESt X E nt H U tm h a w){t:TypeId}{x:Operand}{j:Nat}(ho:o.op=.field t x j){r:ES}{ws:Wr}(he:xY X.T X.Z t (aj tm x) j=some (r,ws)):OpOk X E H U h a w o r ws:=by
 have hx:=bn hS x;unfold xY at he;split at he
 . rename_i ty cs ht hxe;rw[hxe] at hx;obtain⟨vs,hx,hvs⟩:=hx;obtain⟨i,d,z,ok⟩:=aM (X.hT t ty ht);split at he
   . rename_i fo ag sz hsh hf;cases hb:Nat.ble (fo+sz) cs.length with
     |false=>rw[hb] at he;cases he
     |true=>
      rw[hb,cC] at he;simp only[ai] at he;have hle:=aB hb;split at he
      . rename_i y hv;simp only[ae,aA] at he;obtain⟨rfl,rfl⟩:=he;have hd':=ok.sh;rw[hsh] at hd';obtain⟨fs,rfl⟩:=pa hd';obtain⟨fd,fi,dd,e1,e2,e3,e4,e5,e6⟩:=qZ (show ib X.P fs.toList=some ty.fields from ok.fields) hf;have e1':fs[j]?=some fd:=by simpa using e1
        have hs:(sizeOf fd.type).run X.P w=.ok fi.size w:=by simp[sizeOf,typeInfo,e3]
        have hag:=Ax e4 w;rw[e5] at hag;have hl:=hvs.length;rcases mkV_ok hv ((hvs.drop fo).take sz) with⟨q1,q2⟩|⟨q1,v,q2,q3⟩
        . subst q1;refine OpOk.pure hS (v:=.agg ((vs.drop fo).take sz).toArray) ?_ q2;have hpart:(part fd.type vs.toArray fd.offset).run X.P w=.ok (.agg ((vs.drop fo).take sz).toArray) w:=by
           simp only[part,av,hag,au,bD,hs,ay,e2,e6];congr 2;apply dZ;simp only[L7,L8];rw[show fo+sz-fo=sz by omega]
          simp only[execOp,ho,hx,Instr.field,av,ok.run_und,au,e1',asAgg,ay,hpart]
        . subst q1;refine OpOk.pure hS (v:=v) ?_ q3;have h2':vs.toArray[fo]?=some v:=by
           have:((vs.drop fo).take sz)[0]?=some v:=by rw[q2];rfl
           rw[cL] at this;split at this
           . simpa using this
           . cases this
          have hpart:(part fd.type vs.toArray fd.offset).run X.P w=.ok v w:=by
           simp only[part,av,hag,au,cM,bE,e2,h2',ay]
          simp only[execOp,ho,hx,Instr.field,av,ok.run_und,au,e1',asAgg,ay,hpart]
      . cases he
   . cases he
 . cases he
theorem ok_extract(hS:ESt X E nt H U tm h a w){x:Operand}{j:Nat}(ho:o.op=.extract x j){r:ES}{ws:Wr}(he:wR (aj tm x) j=some (r,ws)):OpOk X E H U h a w o r ws:=by
 have hx:=bn hS x;unfold wR at he;split at he
 . rename_i xs hxe;rw[hxe] at hx;obtain⟨vs,hx,hvs⟩:=hx;split at he
   . rename_i y hj;simp only[ae,aA] at he;obtain⟨rfl,rfl⟩:=he;obtain⟨u,h1,h2⟩:=hvs.get j y hj;refine OpOk.pure hS (v:=u) ?_ h2;have h1':vs.toArray[j]?=some u:=by simpa using h1
     simp only[execOp,ho,hx,Instr.extract,h1',av,ay,au]
   . cases he
 . cases he
theorem ok_makeFunc(hS:ESt X E nt H U tm h a w){fn:Fn}{first captured:Array Operand}(ho:o.op=.makeFunc fn first captured){r:ES}{ws:Wr}(he:wB fn (first.toList.map (aj tm)) (captured.toList.map (aj tm))=some (r,ws)):OpOk X E H U h a w o r ws:=by
 have key:∀(os:List Operand) (gs:List Nat),sd (os.map (aj tm))=some gs->(∀g∈gs,∃k,U g 0=some k)/\os.map a.eval=gs.map (gZ U):=by
  intro os;induction os with
  |nil=>intro gs hg;simp only[dO,sd,ae] at hg;subst hg;exact⟨by simp,rfl⟩
  |cons o os ih=>
   intro gs hg;simp only[aS] at hg;have hv:=bn hS o;unfold sd at hg;split at hg
   . rename_i hc;cases hc
   . rename_i g' l hc;simp only[oY] at hc;obtain⟨hx,rfl⟩:=hc;rw[hx] at hv;obtain⟨k,hk,hv⟩:=hv;cases hp:sd (os.map (aj tm)) with
     |none=>rw[hp] at hg;cases hg
     |some gs'=>
      rw[hp] at hg;simp only[eU,ae] at hg;subst hg;obtain⟨i1,i2⟩:=ih gs' hp;exact⟨fun g hg=>(List.mem_cons.1 hg).elim (fun e=>by rw[e];exact⟨k,hk⟩) (i1 g),by simp[i2,hv,gZ,hk]⟩
   . cases hg
 unfold wB at he;split at he
 . rename_i f hfi hp;simp only[ae,aA] at he;obtain⟨rfl,rfl⟩:=he;obtain⟨k1,k2⟩:=key _ _ hp;have e1:first = #[]:=by apply dZ;simpa using hfi
   have e2:captured = #[]:=by apply dZ;simpa using k2
   subst e1 e2;refine OpOk.pure hS (v:=.func (.func f) #[] #[]) ?_ ⟨rfl,VR.fn f⟩;simp only[execOp,ho,Instr.makeFunc,av,ay,au];simp
 . rename_i f g gs hfi hp;simp only[ae,aA] at he;obtain⟨rfl,rfl⟩:=he;obtain⟨k1,k2⟩:=key _ _ hp;have e1:first = #[]:=by apply dZ;simpa using hfi
   subst e1;have e2:captured.map a.eval=((g::gs).map (gZ U)).toArray:=by apply dZ;simpa using k2
   refine OpOk.pure hS (v:=.func (.func f) #[] ((g::gs).map (gZ U)).toArray) ?_ ⟨k1,rfl⟩;simp only[execOp,ho,Instr.makeFunc,av,ay,au,e2];simp
 . cases he
theorem Hr{op:BinOp}{k:IntKind}{p q:Int}{r:ES}{ws:Wr}(he:sC op k p q=some (r,ws)):ws=[]/\lU op k p q (fun x=>r=ac x/\x.isTup=false/\x.isAgg=false):=by
 cases op<;>simp only[sC] at he<;>first
  | (cases he;done)
  | (obtain⟨rfl,rfl⟩:=nV he;exact⟨rfl,_,rfl,rfl,rfl,rfl⟩)
  | (obtain⟨rfl,rfl⟩:=pA he;exact⟨rfl,_,rfl,rfl,rfl,rfl⟩)
  | (cases hq:decide (q=0) with
     |true=>rw[hq] at he;cases he
     |false=>
      rw[hq] at he;simp only[aW] at he;obtain⟨rfl,rfl⟩:=nV he;exact⟨rfl,by simpa using hq,_,rfl,rfl,rfl,rfl⟩)
theorem GU{op:BinOp}{p q:List UInt8}{r:ES}{ws:Wr}(he:strE op p q=some (r,ws)):ws=[]/\lP op p q (fun x=>r=ac x/\x.isTup=false/\x.isAgg=false):=by
 cases op<;>simp only[strE] at he<;>first
  | (cases he;done)
  | (obtain⟨rfl,rfl⟩:=pA he;exact⟨rfl,_,rfl,rfl,rfl,rfl⟩)
  | (cases hq:Nat.ble (p.length+q.length) 1000000 with
     |false=>rw[hq] at he;cases he
     |true=>
      rw[hq,cC] at he;simp only[ai,ae,aA] at he;obtain⟨rfl,rfl⟩:=he;have:=aB hq;exact⟨rfl,by omega,rfl,rfl,rfl⟩)
theorem OS{v:Value}{x:IV}(h:VR H v x)(h1:x.isTup=false)(h2:x.isAgg=false):v.oneCell'=true:=by
 cases h<;>first|rfl|simp[IV.isTup,IV.isAgg] at h1 h2
theorem Af{P:Program}(n:Nat){t e:TypeId}(ht:P.underlying t=some (.slice e))(ad:Option Addr)(k c:Nat)(w:World):(Op.equalIn (n+1) t (.slice ad k c) (.slice none 0 0)).run P w=.ok ad.isNone w:=by
 cases ad<;>simp only[Op.equalIn,av,cK ht w,au,ay]<;>rfl
theorem ok_binOp(hS:ESt X E nt H U tm h a w){op:BinOp}{t t':TypeId}{x y:Operand}(ho:o.op=.binOp op t x y t'){r:ES}{ws:Wr}(he:ox X.T op t (aj tm x) (aj tm y)=some (r,ws)):OpOk X E H U h a w o r ws:=by
 have hx:=bn hS x;have hy:=bn hS y;have fin:∀{p q v:Value} {x':IV},a.eval x=p->a.eval y=q->(eqGuard op t x y p q).run X.P w=.ok () w->(binOp op t p q).run X.P w=.ok v w->VR H v x'->x'.isTup=false->x'.isAgg=false->OpOk X E H U h a w o (ac x') []:=fun hp hq hg hr hv h1 h2=>by
  refine OpOk.pure hS ?_ ⟨OS hv h1 h2,hv⟩;simp only[execOp,ho,hp,hq,av,hg,hr,au,ay]
 unfold ox at he;split at he
 . rename_i k p k' q hxe hye;rw[hxe] at hx;rw[hye] at hy;cases hk:decide (k=k') with
   |false=>rw[hk] at he;cases he
   |true=>
    rw[hk] at he;simp only[ai] at he;have:=mB hk;subst this;obtain⟨rfl,hi⟩:=Hr he;obtain⟨v,x',hr,hv,rfl,h1,h2⟩:=Gw (P:=X.P) (H:=H) (t:=t) w hi;refine fin hx.int hy.int ?_ hr hv h1 h2;unfold eqGuard;split<;>rfl
 . rename_i p q hxe hye;rw[hxe] at hx;rw[hye] at hy;obtain⟨bs,hxv,hbs⟩:=jj hx.2;obtain⟨cs,hyv,hcs⟩:=jj hy.2;obtain⟨rfl,hi⟩:=GU he;rw[<-hbs,<-hcs] at hi;obtain⟨v,x',hr,hv,rfl,h1,h2⟩:=Gc (P:=X.P) (H:=H) (t:=t) w hi;refine fin hxv hyv ?_ hr hv h1 h2;unfold eqGuard;split<;>rfl
 . rename_i c hxe hye;rw[hxe] at hx;rw[hye] at hy;have hyv:=r9 hy.2;have key:∀{ty:TY} {e:TypeId} {b:Bool},X.T t=some ty->ty.sh=.slice e->CL c=some b->(Op.equal t (a.eval x) (a.eval y)).run X.P w=.ok b w/\(∃ad n cp,a.eval x=.slice ad n cp):=fun{ty e b} ht hsh hb=>by
    obtain⟨i,d,z,ok⟩:=aM (X.hT t ty ht);have hd':=ok.sh;rw[hsh] at hd';obtain rfl:=eH hd';unfold CL at hb;split at hb
    . cases hb;have hxv:=r9 hx.2;refine⟨?_,_,_,_,hxv⟩;rw[hxv,hyv];exact Af 9999 ok.und none 0 0 w
    . cases hb;obtain⟨k,cp,_,hxv,_⟩:=hx;refine⟨?_,_,_,_,hxv⟩;rw[hxv,hyv];exact Af 9999 ok.und _ _ _ w
    . cases hb;rcases hx.2.asSl with⟨h,_⟩|⟨b,off,cap,sz,arr,vs,hxv,_⟩
      . cases h
      refine⟨?_,_,_,_,hxv⟩;rw[hxv,hyv];exact Af 9999 ok.und _ _ _ w
    . cases hb
   split at he
   . rename_i ty b ht hb;split at he
     . rename_i e hsh;obtain⟨rfl,rfl⟩:=pA he;obtain⟨k1,ad,n,cp,k2⟩:=key ht hsh hb;refine fin rfl rfl ?_ (v:=.bool b) ?_ (VR.bool _) rfl rfl
       . rw[k2,hyv];unfold eqGuard;rfl
       . rw[k2,hyv] at k1 ⊢;simp only[binOp,av,k1,au,ay]
     . cases he
   . rename_i ty b ht hb;split at he
     . rename_i e hsh;obtain⟨rfl,rfl⟩:=pA he;obtain⟨k1,ad,n,cp,k2⟩:=key ht hsh hb;refine fin rfl rfl ?_ (v:=.bool (!b)) ?_ (VR.bool _) rfl rfl
       . rw[k2,hyv];unfold eqGuard;rfl
       . rw[k2,hyv] at k1 ⊢;simp only[binOp,av,k1,au,ay]
     . cases he
   . cases he
 . cases he
theorem Su(hS:ESt X E nt H U tm h a w){op:UnOp}{t:TypeId}{x:Operand}(ho:o.op=.unOp op t x){r:ES}{ws:Wr}(he:qK op (aj tm x)=some (r,ws)):OpOk X E H U h a w o r ws:=by
 have hx:=bn hS x;unfold qK at he;split at he
 . rename_i b hxe;rw[hxe] at hx;obtain⟨rfl,rfl⟩:=pA he;refine OpOk.pure hS (v:=.bool (!b)) ?_ ⟨rfl,VR.bool _⟩;simp only[execOp,ho,hx.bool,Op.unary,av,ay,au]
 . rename_i k n hxe;rw[hxe] at hx;obtain⟨rfl,rfl⟩:=nV he;refine OpOk.pure hS (v:=.int k (k.wrap (0-n))) ?_ ⟨rfl,VR.int _ _⟩;simp only[execOp,ho,hx.int,Op.unary,Op.intArith,av,ay,au]
 . cases he
theorem ok_convert(hS:ESt X E nt H U tm h a w){s d:TypeId}{x:Operand}(ho:o.op=.convert s d x){r:ES}{ws:Wr}(he:uJ X.T s d (aj tm x)=some (r,ws)):OpOk X E H U h a w o r ws:=by
 have hx:=bn hS x;unfold uJ at he;split at he
 . rename_i ts td k' n hs htd hxe;rw[hxe] at hx;obtain⟨i1,d1,z1,ok1⟩:=aM (X.hT s ts hs);obtain⟨i2,d2,z2,ok2⟩:=aM (X.hT d td htd);split at he
   . rename_i k0 k h1 h2;have e1:=ok1.sh;rw[h1] at e1;obtain rfl:=wI e1;have e2:=ok2.sh;rw[h2] at e2;obtain rfl:=wI e2;obtain⟨rfl,rfl⟩:=nV he;refine OpOk.pure hS (v:=.int k (k.wrap n)) ?_ ⟨rfl,VR.int _ _⟩;simp only[execOp,ho,hx.int,convert,av,ok1.run_und,ok2.run_und,au,Conv.intToInt,ay]
   . cases he
 . cases he
theorem UM(hS:ESt X E nt H U tm h a w){x:Operand}(ho:o.op=.nilCheck x){r:ES}{ws:Wr}(he:yJ (aj tm x)=some (r,ws)):OpOk X E H U h a w o r ws:=by
 have hx:=bn hS x;unfold yJ at he;split at he
 . rename_i g u off hxe;rw[hxe] at hx;simp only[ae,aA] at he;obtain⟨rfl,rfl⟩:=he;obtain⟨k,hk,hv⟩:=hx;refine OpOk.pure hS (v:=.pointer (some ⟨k.1,off,none⟩)) ?_ ⟨k,hk,rfl⟩;simp only[execOp,ho,hv,ay]
 . rename_i y off hxe;rw[hxe] at hx;simp only[ae,aA] at he;obtain⟨rfl,rfl⟩:=he;obtain⟨b,base,v,arr,hv,q1,q2,q3⟩:=hx;refine OpOk.pure hS (v:=.pointer (some ⟨b,base+off,none⟩)) ?_ ⟨b,base,v,arr,rfl,q1,q2,q3⟩;simp only[execOp,ho,hv,ay]
 . cases he
end
section
variable {X:EX}{E:EEnv}{nt:Nat}{H H':ah}{U U':Bm}{tm:Nat->ES}{h h':Hp}{a:Act}{w w':World}{o:Oper}
theorem r8(hS:ESt X E nt H U tm h a w){v:Option Operand}{d m:Nat}(he:jC (v.map (aj tm)) d=some m):Bd (v.map a.eval) d m:=by
 unfold jC at he;cases v with
 |none=>simp only[vu,ae] at he;exact .inl ⟨rfl,he.symm⟩
 |some x=>
  have hx:=bn hS x;simp only[eU] at he;split at he
  . rename_i hh;cases hh
  . rename_i k m' hh;simp only[ae] at hh he;subst he;rw[hh] at hx;have:=hx.int;exact .inr ⟨k,by simp only[eU,this];rfl⟩
  . cases he
theorem UX(hS:ESim X.Z E H U h w){g u off n sz c:Nat}{k:Nat×Nat}(hk:U g u=some k)(hn:n<=c)(hc:off+c*sz=k.2):sY (h g) u off n sz<=c:=by
 unfold sY;split
 . rename_i e cs fz vs cnt hg;split
   . rename_i p hv;cases hb:(Nat.ble (off+n*sz) p&&Nat.blt 0 sz) with
     |false=>exact hn
     |true=>
      simp only[ai];simp only[aC] at hb;have h1:=aB hb.1;have h2:0<sz:=jE (by simpa[Nat.blt] using hb.2);obtain⟨_,k',arr,d1,d2,d3,d4,d5,d6,d7,d8⟩:=(hS.obj g _ hg).2 u p (nS hv);rw[hk] at d1;cases d1;refine Nat.div_le_of_le_mul ?_;rw[cz];omega
   . exact hn
 . exact hn
theorem Oj{P:Program}(w:World){t e:TypeId}{te:TY}{ie:TypeInfo}{de:TypeDesc}{ze:Value}(hund:P.underlying t=some (.slice e))(oke:TyOk P e te ie de ze){b off n c:Nat}{lo hi mx:Option Value}{l u m:Nat}
 (hlo:Bd lo 0 l) (hhi:Bd hi n u) (hmx:mx=none\/∃k,mx=some (.int k ((m:Nat):Int))) (hm:mx=none->m=c) (hx:mx=none\/hi≠none) (h1:l<=u) (h2:u<=m) (h3:m<=c) :
 (Instr.sliceAt t (.slice (some ⟨b,off,none⟩) n c) lo hi mx).run P w=.ok (.slice (some ⟨b,bif Nat.beq m l then off else off+l*te.size,none⟩) (u-l) (m-l)) w:=by
 have hb:=mH (P:=P) (isS:=true) (len:=n) (cap:=c) (m:=m) w hlo hhi hmx hm hx h1 h2 h3;have hu:(underlying t).run P w=.ok (.slice e) w:=cK hund w;simp only[Instr.sliceAt,Instr.slice,av,hu,au,hb,oke.run_size,ay,eU,dQ];by_cases hml:m=l
 . rw[ar hml,hml,bj,ai]
 . rw[al hml,eO hml,aW]
theorem Qy(hS:ESt X E nt H U tm h a w){t:TypeId}{x:Operand}{lo hi mx:Option Operand}(ho:o.op=.slice t x lo hi mx){r:ES}{ws:Wr}(he:ij X.T h t (aj tm x) (lo.map (aj tm)) (hi.map (aj tm)) (mx.map (aj tm))=some (r,ws)):OpOk X E H U h a w o r ws:=by
 have hx:=bn hS x;unfold ij at he;split at he
 . rename_i ty ht;obtain⟨i,d,z,ok⟩:=aM (X.hT t ty ht);have hd':=ok.sh;split at he
   . rename_i e g u off n cap hsh hxe;rw[hsh] at hd';obtain rfl:=eH hd';rw[hxe] at hx;obtain⟨k,c0,hk,hxv,hn,hcap⟩:=hx;split at he
     . rename_i te hte;obtain⟨ie,de,ze,oke⟩:=aM (X.hT e te hte);split at he
       . rename_i l u' hl hu;have hlo:=r8 hS hl;have hhi:=r8 hS hu;have run:∀{m:Nat},(mx.map a.eval=none\/∃k,mx.map a.eval=some (.int k ((m:Nat):Int)))->(mx.map a.eval=none->m=c0)->(mx.map a.eval=none\/hi.map a.eval≠none)->l<=u'->u'<=m->m<=c0->
          (execOp a.eval o).run X.P w=.ok (.value (.slice (some ⟨k.1,bif Nat.beq m l then off else off+l*te.size,none⟩) (u'-l) (m-l))) w:=fun q1 q2 q3 q4 q5 q6=>by
          have:=Oj (P:=X.P) w ok.und oke (b:=k.1) (off:=off) (n:=n) (c:=c0) hlo hhi q1 q2 q3 q4 q5 q6;simp only[execOp,ho,hxv,av,this,au,ay]
         split at he
         . -- no third bound, a known capacity
           rename_i c hmx;have hmx':mx.map a.eval=none:=by cases mx with|none=>rfl|some _=>cases hmx
           have hcc:c0=c:=hcap;subst hcc;cases hb:(Nat.ble l u'&&Nat.ble u' c0) with
           |false=>rw[hb] at he;cases he
           |true=>
            rw[hb,bc,bc,bc] at he;simp only[ai,ae,aA] at he;obtain⟨rfl,rfl⟩:=he;simp only[aC] at hb;have b1:=aB hb.1;have b2:=aB hb.2;exact OpOk.pure hS (run (m:=c0) (.inl hmx') (fun _=>rfl) (.inl hmx') b1 b2 (ak _)) ⟨k,c0-l,hk,rfl,by omega,rfl⟩
         . rename_i sz hmx;have hmx':mx.map a.eval=none:=by cases mx with|none=>rfl|some _=>cases hmx
           have hcap:off+c0*sz=k.2:=hcap;rw[bc] at he;have hkn:=UX hS.sim (sz:=sz) hk hn hcap;generalize sY (h g) u off n sz=kn at he hkn;cases hb:(Nat.ble l u'&&Nat.ble u' kn&&Nat.blt l kn&&Nat.beq sz te.size) with
           |true=>
            rw[hb,bc,bc] at he;simp only[ai,ae,aA] at he;obtain⟨rfl,rfl⟩:=he;simp only[aC] at hb;obtain⟨⟨⟨b1,b2⟩,b3⟩,b4⟩:=hb;have b1:=aB b1;have b2:=aB b2;have b3:l<kn:=jE (by simpa[Nat.blt] using b3);have b4:=aw b4;subst b4;have hr:=run (m:=c0) (.inl hmx') (fun _=>rfl) (.inl hmx') b1 (by omega) (ak _);rw[eO (show c0≠l by omega),aW] at hr;refine OpOk.pure hS hr ⟨k,c0-l,hk,rfl,by omega,?_⟩;show off+l*te.size+(c0-l)*te.size=k.2;rw[<-hcap,kX,<-bP];congr 2;omega
           |false=>
            rw[hb] at he;simp only[aW] at he;cases hb2:(Nat.beq l u'&&Nat.ble u' kn&&Nat.beq sz te.size) with
            |false=>rw[hb2] at he;cases he
            |true=>
             rw[hb2] at he;simp only[ai,ae,aA] at he;obtain⟨rfl,rfl⟩:=he;simp only[aC] at hb2;have b1:=aw hb2.1.1;have b2:=aB hb2.1.2;subst b1;have hr:=run (m:=c0) (.inl hmx') (fun _=>rfl) (.inl hmx') (ak _) (by omega) (ak _);rw[kZ] at hr;exact OpOk.pure hS hr ⟨rfl,VR.sl0 _ _⟩
         . rename_i m0 c hmx;split at he
           . rename_i m _ hm0 hhi0;have hmm:=r8 hS (v:=mx) (d:=0) (m:=m) (by rw[hmx];exact hm0);have hne:mx≠none:=fun e=>by rw[e] at hmx;cases hmx
             have hmx2:mx.map a.eval=none\/∃k,mx.map a.eval=some (.int k ((m:Nat):Int)):=hmm.mx;have hnn:mx.map a.eval≠none:=by cases mx with|none=>exact absurd rfl hne|some _=>simp
             have hhn:hi.map a.eval≠none:=by cases hi with|none=>cases hhi0|some _=>simp
             have hcc:c0=c:=hcap;subst hcc;cases hb:(Nat.ble l u'&&Nat.ble u' m&&Nat.ble m c0) with
             |false=>rw[hb] at he;cases he
             |true=>
              rw[hb,bc,bc,bc] at he;simp only[ai,ae,aA] at he;obtain⟨rfl,rfl⟩:=he;simp only[aC] at hb;have b1:=aB hb.1.1;have b2:=aB hb.1.2;have b3:=aB hb.2;exact OpOk.pure hS (run hmx2 (fun e=>absurd e hnn) (.inr hhn) b1 b2 b3) ⟨k,m-l,hk,rfl,by omega,rfl⟩
           . cases he
         . rename_i m0 sz hmx;split at he
           . rename_i m _ hm0 hhi0;have hmm:=r8 hS (v:=mx) (d:=0) (m:=m) (by rw[hmx];exact hm0);have hne:mx≠none:=fun e=>by rw[e] at hmx;cases hmx
             have hmx2:mx.map a.eval=none\/∃k,mx.map a.eval=some (.int k ((m:Nat):Int)):=hmm.mx;have hnn:mx.map a.eval≠none:=by cases mx with|none=>exact absurd rfl hne|some _=>simp
             have hhn:hi.map a.eval≠none:=by cases hi with|none=>cases hhi0|some _=>simp
             cases hb:(Nat.ble l u'&&Nat.ble u' m&&Nat.ble m n) with
             |false=>rw[hb] at he;cases he
             |true=>
              rw[hb,bc,bc,bc] at he;simp only[ai,ae,aA] at he;obtain⟨rfl,rfl⟩:=he;simp only[aC] at hb;have b1:=aB hb.1.1;have b2:=aB hb.1.2;have b3:=aB hb.2;exact OpOk.pure hS (run hmx2 (fun e=>absurd e hnn) (.inr hhn) b1 b2 (by omega)) ⟨k,m-l,hk,rfl,by omega,rfl⟩
           . cases he
       . cases he
     . cases he
   . rename_i e es hsh hxe;rw[hsh] at hd';obtain rfl:=eH hd';rw[hxe] at hx;have hxd:VR H (a.eval x) (.sl es):=hx.2;split at he
     . rename_i te l u hte hl hu hmx;obtain⟨ie,de,ze,oke⟩:=aM (X.hT e te hte);have hlo:=r8 hS hl;have hhi:=r8 hS hu;have emx:mx=none:=by cases mx with|none=>rfl|some _=>cases hmx
       subst emx;cases hb:(Nat.ble l u&&Nat.ble u es.length&&(Nat.beq l 0||dT te.size es)) with
       |false=>rw[hb] at he;cases he
       |true=>
        rw[hb] at he;simp only[ai,ae,aA] at he;obtain⟨rfl,rfl⟩:=he;simp only[aC,fO] at hb;have h1:=aB hb.1.1;have h3:=aB hb.1.2;have hel:l=0\/∀y∈es,y.cells.length=te.size:=hb.2.imp aw fun hh y hy=>by
         have:=List.all_eq_true.1 hh y hy;simp only[aC] at this;exact aw this.1
        generalize hev:a.eval x=ev at hxd;have key:∀(ad:Option Addr) (n cap:Nat),ev=.slice ad n cap->n=es.length->n<=cap->(execOp a.eval o).run X.P w=.ok (.value (.slice (if cap=l then ad else ad.map (·.add (l*te.size))) (u-l) (cap-l))) w:=by
         intro ad n cap hevs hn hc;have hb:=mH (P:=X.P) (isS:=true) (mx:=none) (len:=n) (cap:=cap) (m:=cap) w hlo (by rw[hn];exact hhi) (.inl rfl) (fun _=>rfl) (.inl rfl) h1 (by omega) (ak _);simp only[execOp,ho,hev,hevs,Instr.sliceAt,Instr.slice,av,ok.run_und,au,vu,hb,oke.run_size,ay]
        by_cases hlu:u=l
        . have hes:(es.take u).drop l=[]:=by rw[hlu];simp
          rw[hes];cases hxd with
          |sl0 ad cap=>
           have hr:=key ad 0 cap rfl rfl (bb _);rw[hlu,kZ] at hr;exact OpOk.pure hS hr ⟨rfl,VR.sl0 _ _⟩
          |sl b off n cap sz arr vs _ hb hs hn hc hz ha=>
           have hr:=key _ n cap rfl hn hc;rw[hlu,kZ] at hr;exact OpOk.pure hS hr ⟨rfl,VR.sl0 _ _⟩
        . cases hxd with
          |sl0 ad cap=>simp at h3;omega
          |sl b off n cap sz arr vs _ hb hs hn hc hz ha=>
           have hr:=key _ n cap rfl hn hc;have hvl:=hs.length;have hne:¬cap=l:=by omega
           rw[al hne,eU,dQ] at hr;have hadd:off+l*te.size=off+l*sz:=by
            rcases hel with hel|hel
            . rw[hel];simp
            . have h0:0<vs.length:=by omega
              have hv0:=hz _ (bV h0);obtain⟨y,hy⟩:∃y,es[0]?=some y:=⟨_,aQ (show 0<es.length by omega)⟩;obtain⟨u0,e1,e2⟩:=hs.get 0 y hy;have e3:vs[0]=u0:=(List.getElem?_eq_some_iff.1 e1).2;have:=hel y (cd hy);rw[<-e2.size,<-e3,hv0] at this;rw[this]
           rw[hadd] at hr;refine OpOk.pure hS hr ⟨rfl,?_⟩;have hzz:∀v∈(vs.take u).drop l,v.cells.size=sz:=fun v hv=>hz v (dH (iu hv));have hlen:((vs.take u).drop l).length=u-l:=by simp;omega
           refine VR.sl b (off+l*sz) (u-l) (cap-l) sz arr ((vs.take u).drop l) _ hb ((hs.take u).drop l) (by simp;omega) (by omega) hzz ?_;rw[hlen,<-po l (fun v hv=>hz v (dH hv)),<-pl u hz,<-ha,<-nC];rw[b6,cg (bW _ (by omega)),kY,<-ta]
     . cases he
   . rename_i n e g u off hsh hxe;rw[hsh] at hd';obtain rfl:=rh hd';rw[hxe] at hx;obtain⟨k,hk,hxv⟩:=hx;split at he
     . rename_i te hte hl hh hm;obtain⟨ie,de,ze,oke⟩:=aM (X.hT e te hte);simp only[ae,aA] at he;obtain⟨rfl,rfl⟩:=he;have e1:lo=none:=by cases lo with|none=>rfl|some _=>cases hl
       have e2:hi=none:=by cases hi with|none=>rfl|some _=>cases hh
       have e3:mx=none:=by cases mx with|none=>rfl|some _=>cases hm
       subst e1 e2 e3;refine OpOk.pure hS (v:=.slice (some ⟨k.1,off,none⟩) n n) ?_ ⟨k,n,hk,rfl,ak _,rfl⟩;have hb:=mH (P:=X.P) (lo:=none) (hi:=none) (mx:=none) (isS:=false) (len:=n) (cap:=n) (l:=0) (h:=n) (m:=n) w (.inl ⟨rfl,rfl⟩) (.inl ⟨rfl,rfl⟩) (.inl rfl) (fun _=>rfl) (.inl rfl) (bb _) (ak _) (ak _);simp only[execOp,ho,hxv,Instr.sliceAt,av,ok.run_und,au,Instr.sureAddr,ay,vu,hb,oke.run_size,mA,tn];by_cases h0:n=0
       . rw[ar h0]
       . rw[al h0];rfl
     . cases he
   . cases he
 . cases he
theorem UQ(hS:ESt X E nt H U tm h a w){x:Operand}{t:TypeId}(ho:o.op=.call { callee:=.builtin .len,args := #[x],argTypes := #[t] }){r:ES}{ws:Wr}(he:ni X.T t (aj tm x)=some (r,ws)):OpOk X E H U h a w o r ws:=by
 have hx:=bn hS x;have fin:∀{ty:TY} {e:TypeId} {ad:Option Addr} {n c:Nat},X.T t=some ty->ty.sh=.slice e->a.eval x=.slice ad n c->OpOk X E H U h a w o (ac (.int .i64 n)) []:=fun{ty e ad n c} ht hsh hxv=>by
  obtain⟨i,d,z,ok⟩:=aM (X.hT t ty ht);have hd':=ok.sh;rw[hsh] at hd';obtain rfl:=eH hd';refine OpOk.pure hS (v:=.int .i64 n) ?_ ⟨rfl,VR.int _ _⟩;have hrun:(Builtin.len_ #[t] o.type #[.slice ad n c]).run X.P w=.ok (.int .i64 n) w:=by
   simp only[Builtin.len_,qR,nE,av,ok.run_und,au,ay,goInt]
  simp only[execOp,ho,resolve,invoke,builtin,av,ay,au,ja,aS,dO,hxv,hrun]
 unfold ni at he;split at he
 . rename_i ty _ _ _ n _ ht hxe;rw[hxe] at hx;obtain⟨k,c,hk,hxv,_⟩:=hx;split at he
   . rename_i e hsh;simp only[ae,aA] at he;obtain⟨rfl,rfl⟩:=he;exact fin ht hsh hxv
   . cases he
 . rename_i ty ht hxe;rw[hxe] at hx;have hxv:=r9 hx.2;split at he
   . rename_i e hsh;simp only[ae,aA] at he;obtain⟨rfl,rfl⟩:=he;exact fin ht hsh hxv
   . cases he
 . rename_i ty es ht hxe;rw[hxe] at hx;have hxv:∃ad c,a.eval x=.slice ad es.length c:=by
    rcases VR.asSl hx.2 with⟨h0,ad,cap,hh⟩|⟨b,off,cap,sz,arr,vs,hh,_⟩
    . subst h0;exact⟨ad,cap,hh⟩
    . exact⟨_,cap,hh⟩
   obtain⟨ad,c,hxv⟩:=hxv;split at he
   . rename_i e hsh;obtain⟨rfl,rfl⟩:=nV he;exact fin ht hsh hxv
   . cases he
 . rename_i ty l ht hxe;rw[hxe] at hx;obtain⟨bs,hxv,hbs⟩:=jj hx.2;obtain⟨i,d,z,ok⟩:=aM (X.hT t ty ht);have hd':=ok.sh;split at he
   . rename_i hsh;rw[hsh] at hd';obtain rfl:=ra hd';obtain⟨rfl,rfl⟩:=nV he;have hsz:bs.size=l.length:=by rw[<-hbs,eE];rfl
     refine OpOk.pure hS (v:=.int .i64 l.length) ?_ ⟨rfl,VR.int _ _⟩;have hrun:(Builtin.len_ #[t] o.type #[.string bs]).run X.P w=.ok (.int .i64 l.length) w:=by
      simp only[Builtin.len_,qR,nE,av,ok.run_und,au,ay,goInt,hsz]
     simp only[execOp,ho,resolve,invoke,builtin,av,ay,au,ja,aS,dO,hxv,hrun]
   . cases he
 . cases he
theorem KJ(hS:ESt X E nt H U tm h a w){x y:Operand}{ts:Array TypeId}{mx:Bool}(ho:o.op=.call { callee:=.builtin (bif mx then .max else .min),args := #[x,y],argTypes:=ts }){r:ES}{ws:Wr}(he:s6 mx (aj tm x) (aj tm y)=some (r,ws)):OpOk X E H U h a w o r ws:=by
 have hx:=bn hS x;have hy:=bn hS y;unfold s6 at he;split at he
 . rename_i k p k' q hxe hye;rw[hxe] at hx;rw[hye] at hy;cases mx with
   |true=>
    simp only[ai] at he ho;obtain⟨rfl,rfl⟩:=nV he;refine OpOk.pure hS (v:=.int k (if q>p then q else p)) ?_ ⟨rfl,VR.int _ _⟩;simp only[execOp,ho,resolve,invoke,builtin,av,ay,au,ja,aS,dO,hx.int,hy.int,run_max_int2]
   |false=>
    simp only[aW] at he ho;obtain⟨rfl,rfl⟩:=nV he;refine OpOk.pure hS (v:=.int k (if q<p then q else p)) ?_ ⟨rfl,VR.int _ _⟩;simp only[execOp,ho,resolve,invoke,builtin,av,ay,au,ja,aS,dO,hx.int,hy.int,run_min_int2]
 . cases he
theorem Iv(hS:ESim X.Z E H U h w){v:Value}{x:ES}(hv:SRe X.Z H U v x){sz m:Nat}{news:List EV}(he:iI h sz x=some (news,m)) :
 ∃ad c us,v=.slice ad m c/\CRL X.Z H U us news/\us.length=m*sz/\(0<m->∃a,ad=some a/\∀j u,us[j]?=some u->w.cell? (a.add j)=some u):=by
 unfold iI at he;split at he
 . rename_i g u off n cap;obtain⟨k,c,hk,hxv,hn,_⟩:=hv;cases hr:gf (h g) u off (n*sz) with
   |none=>rw[hr] at he;cases he
   |some l=>
    rw[hr] at he;simp only[eU,ae,aA] at he;obtain⟨rfl,rfl⟩:=he;obtain⟨k',arr,e,h1,h2,h3,h4,h5,h6⟩:=xI hS hr;rw[hk] at h1;cases h1;refine⟨_,c,_,hxv,h4,by rw[h4.length,h6],fun _=>⟨_,rfl,fun j u hj=>?_⟩⟩;rw[dQ,oO w _ _ arr e (0,0) h2];rw[cL] at hj;split at hj
    . simpa using hj
    . simp at hj
 . simp only[ae,aA] at he;obtain⟨rfl,rfl⟩:=he;exact⟨_,_,[],r9 hv.2,trivial,by simp,fun hh=>absurd hh (by omega)⟩
 . rename_i es;cases hb:dT sz es with
   |false=>rw[hb] at he;cases he
   |true=>
    rw[hb] at he;simp only[ai,ae,aA] at he;obtain⟨rfl,rfl⟩:=he;have hz:∀y∈es,y.cells.length=sz/\y.isTup=false:=fun y hy=>by
     have:=List.all_eq_true.1 hb y hy;simp only[aC,eF] at this;exact⟨aw this.1,this.2⟩
    obtain⟨ad,cap,vs,e1,e2,e3,e4,e5⟩:=wH hS.has hv.2 hz;have hvl:=e2.length;have hcells:∀{vs:List Value} {es:List IV},VRL H vs es->VRL H (aO vs) (es.flatMap IV.cells):=by
     intro vs es h;induction vs generalizing es with
     |nil=>cases h;exact .nil
     |cons v vs ih=>cases h with
      |cons _ x _ xs h1 h2=>simpa[aO,dz] using(VR.cells h1).append (ih h2)
    refine⟨ad,cap,aO vs,e1,AZ (hcells e2) (fun c hc=>?_),?_,fun h0=>?_⟩
    . obtain⟨u,hu,hc⟩:=List.mem_flatMap.1 hc;exact e4 u hu c hc
    . rw[iB e3,hvl]
    . obtain⟨b,off,rfl,hcell⟩:=e5 (fun e=>by rw[e] at h0;simp at h0);exact⟨_,rfl,fun j u hj=>by rw[dQ];exact hcell j u hj⟩
 . cases he
end
section
variable {X:EX}{E:EEnv}{nt:Nat}{H H':ah}{U U':Bm}{tm:Nat->ES}{h h':Hp}{a:Act}{w w':World}{o:Oper}
theorem EH{P:Program}(w:World)(t ty e:TypeId)(i:TypeInfo)(ht:P.underlying t=some (.slice e))(hi:P.info? e=some i)
 (g off sLen sCap:Nat) (cur:Array Value) {e':TypeId} (hg:w.heap[g]?=some (.cells cur e' (0,0)))
 (a:Addr) (m c:Nat) (news:List Value) (hl:news.length=m*i.size) (hnews:∀j u,news[j]?=some u->w.cell? (a.add j)=some u) (h1:∀u∈news,u.oneCell'=true)
 (hroom:sLen+m<=sCap) (hfit:off+sLen*i.size+news.length<=cur.size) :
 (Builtin.append_ #[t,t] ty #[.slice (some ⟨g,off,none⟩) sLen sCap,.slice (some a) m c]).run P w =
   .ok (.slice (some ⟨g,off,none⟩) (sLen+m) sCap) (w.setRow g (splice cur.toList (off+sLen*i.size) news).toArray):=by
 have hf:=ME (P:=P) w i.size m a m c news hl hnews;have hst:=DY P g (off+sLen*i.size) e' news 0 cur w hg (by simpa using hfit) h1;simp only[eG] at hst;simp[Builtin.append_,cK ht,sizeOf,typeInfo,hi,Builtin.lenOf,hroom,hf,dQ,hst,Fl.splice]
theorem PB{vs:List (Nat×Nat)}{p:Nat×Nat}(h:p∈yp vs):p∈vs:=dH h
theorem Pu(hS:ESt X E nt H U tm h a w){s x:Operand}{t:TypeId}(ho:o.op=.call { callee:=.builtin .append,args := #[s,x],argTypes := #[t,t] }){g:Nat}{r:ES}{ws:Wr}(he:jl X.T h g t (aj tm s) (aj tm x)=some (r,ws)):OpOk X E H U h a w o r ws:=by
 have hs:=bn hS s;have hx:=bn hS x;unfold jl at he;split at he
 . rename_i ty ht;obtain⟨i,d,z,ok⟩:=aM (X.hT t ty ht);have hd':=ok.sh;split at he
   . rename_i e hsh;rw[hsh] at hd';obtain rfl:=eH hd';split at he
     . rename_i te hte;obtain⟨ie,de,ze,oke⟩:=aM (X.hT e te hte);cases hp:(Nat.blt 0 te.size&&Nat.beq te.zero.cells.length te.size) with
       |false=>rw[hp] at he;cases he
       |true=>
        rw[hp] at he;simp only[ai] at he;simp only[aC] at hp;have hp':0<te.size:=jE (by simpa[Nat.blt] using hp.1);have hzc:ze.cells.size=te.size:=by rw[(oke.vr H).size,aw hp.2]
        split at he
        . rename_i news m hsrc;obtain⟨ad,cx,us,hxv,hus,hul,hcell⟩:=Iv hS.sim hx hsrc;have hnl:news.length=m*te.size:=by rw[<-hus.length,hul]
          have exec:∀{v p:Value} {w':World},a.eval s=p->(Builtin.append_ #[t,t] o.type #[p,.slice ad m cx]).run X.P w=.ok v w'->(execOp a.eval o).run X.P w=.ok (.value v) w':=fun hp hr=>by
           simp only[execOp,ho,resolve,invoke,builtin,av,ay,au,ja,aS,dO,hp,hxv,hr]
          have zer:∀{v:Value} {ad':Option Addr} {n c:Nat},m=0->a.eval s=v->v=.slice ad' n c->n<=c->(execOp a.eval o).run X.P w=.ok (.value v) w:=fun hm hv hv' hnc=>by
           subst hm;refine exec hv ?_;rw[hv'];exact vT X.P w t o.type e ie ok.und oke.info _ _ _ hnc ad cx
          split at he
          . -- onto nil
            rename_i hse;rw[hse] at hs;have hsv:=r9 hs.2;cases hm:Nat.beq m 0 with
            |true=>
             rw[hm] at he;simp only[ai,ae,aA] at he;obtain⟨rfl,rfl⟩:=he;have hr:=zer (aw hm) rfl hsv (ak _);refine OpOk.pure hS hr ?_;rw[hse];exact hs
            |false=>
             rw[hm] at he;simp only[aW] at he;have hm0:0<m:=zF (zq hm);obtain⟨A,rfl,hA⟩:=hcell hm0;cases hb:(Nat.ble m 1000000&&Nat.ble (m*te.bytes) 140737488355328) with
             |false=>rw[hb] at he;cases he
             |true=>
              rw[hb] at he;simp only[ai] at he;simp only[aC] at hb;have b1:=aB hb.1;have b2:=aB hb.2;have hr:=run_append_nil (P:=X.P) w t o.type e ie ze ok.und oke.info oke.zero A m cx us (by rw[hul,oke.size]) hA hm0 (by omega) (by rw[oke.bytes];omega);generalize hcap:grownCap w m 0 e=C at hr;have hge:m<=C:=by rw[<-hcap];exact zm _ _ _ _
              have hz:=(oke.vr H).cells;have hS2:ESt X E nt H U tm h a w.drew:=⟨hS.sim.same rfl rfl rfl rfl,hS.slot,hS.size⟩;obtain⟨U',c1,c2,c3,c4,rfl⟩:=rI hS2 he (arr:=us.toArray++Builtin.zeroCells ze.cells (C-m)) (by
               rw[oT];simp only;rw[jD (by omega),aH (by omega)];exact hus) (by simp;omega)
              refine⟨_,_,U',.inl (exec hsv hr),c1,c3,fun D hD=>c4 D hD,⟨_,C,c2,rfl,hge,?_⟩⟩;show 0+C*te.size=(us.toArray++Builtin.zeroCells ze.cells (C-m)).size;simp only[zn,ko,vU,hzc,hul,<-bP,aX];congr 1;omega
          . rename_i g1 u1 off1 n1 cap hse;rw[hse] at hs;obtain⟨k,c0,hk,hsv,hn,hcap⟩:=hs;cases hm:Nat.beq m 0 with
            |true=>
             rw[hm] at he;simp only[ai,ae,aA] at he;obtain⟨rfl,rfl⟩:=he;have hr:=zer (aw hm) rfl hsv hn;refine OpOk.pure hS hr ?_;rw[hse];exact⟨k,c0,hk,hsv,hn,hcap⟩
            |false=>
             rw[hm] at he;simp only[aW] at he;have hm0:0<m:=zF (zq hm);obtain⟨A,rfl,hA⟩:=hcell hm0;cases hb:(Nat.ble (n1+m) 1000000&&Nat.ble ((n1+m)*te.bytes) 140737488355328) with
             |false=>rw[hb] at he;cases he
             |true=>
              rw[hb] at he;simp only[ai] at he;simp only[aC] at hb;have b1:=aB hb.1;have b2:=aB hb.2
              -- in place, for sure
              have room:∀{o':EO},ge (h g1) u1 (off1+n1*te.size) news=some o'->n1+m<=c0->OpOk X E H U h a w o (.w (.one (.slc g1 u1 off1 (n1+m) cap))) [(g1,o')]:=fun hw hc=>by
               obtain⟨k',arr,e2,h1,h2,h3,h4,h5,h6⟩:=xC hS.sim hw hus;rw[hk] at h1;cases h1;have hr:=EH (P:=X.P) w t o.type e ie ok.und oke.info k.1 off1 n1 c0 arr h2 A m cx us (by rw[hul,oke.size]) hA hus.one hc (by rw[oke.size];exact h3);rw[oke.size] at hr;exact⟨_,_,U,.inl (exec hsv hr),BLe.refl _,h5,h6,k,c0,hk,rfl,hc,hcap⟩
              -- a block of its own
              have grow:∀(olds:List Value),olds.length=n1*te.size->(∀j v,olds[j]?=some v->w.cell? ((⟨k.1,off1,none⟩:Addr).add j)=some v)->c0<n1+m->∃C,n1+m<=C/\(olds.toArray++us.toArray++Builtin.zeroCells ze.cells (C-(n1+m))).size=C*te.size/\
               (execOp a.eval o).run X.P w=.ok (.value (.slice (some ⟨w.heap.size,0,none⟩) (n1+m) C)) (w.drew.alloc (.cells (olds.toArray++us.toArray++Builtin.zeroCells ze.cells (C-(n1+m))) e)):=fun olds hol holds hc=>by
               have hr:=run_append_grow (P:=X.P) w t o.type e ie ze ok.und oke.info oke.zero ⟨k.1,off1,none⟩ n1 c0 olds (by rw[hol,oke.size]) holds A m cx us (by rw[hul,oke.size]) hA hc (by omega) (by rw[oke.bytes];exact Ma (by omega) b2);generalize hcap:grownCap w (n1+m) c0 e=C at hr;have hge:n1+m<=C:=by rw[<-hcap];exact zm _ _ _ _
               refine⟨C,hge,?_,exec hsv hr⟩;simp only[zn,ko,vU,hzc,hul,hol,<-bP];congr 1;omega
              have hS2:ESt X E nt H U tm h a w.drew:=⟨hS.sim.same rfl rfl rfl rfl,hS.slot,hS.size⟩;split at he
              . -- a known capacity
                rename_i c;have hcc:c0=c:=hcap;subst hcc;cases hc:Nat.ble (n1+m) c0 with
                |true=>
                 rw[hc] at he;simp only[ai] at he;split at he
                 . rename_i o' hw;rw[bc] at he;simp only[ae,aA] at he;obtain⟨rfl,rfl⟩:=he;exact room hw (aB hc)
                 . cases he
                |false=>
                 rw[hc] at he;simp only[aW] at he;have hc':c0<n1+m:=by
                  rcases eS c0 (n1+m) with h1|h1
                  . exact h1
                  . rw[fh h1] at hc;cases hc
                 split at he
                 . rename_i olds hrd;obtain⟨k',arr,e2,h1,h2,h3,h4,h5,h6⟩:=xI hS.sim hrd;rw[hk] at h1;cases h1;have hol:((arr.toList.drop off1).take (n1*te.size)).length=n1*te.size:=by rw[h4.length,h6]
                   obtain⟨C,hC,hCs,hr⟩:=grow _ hol (fun j v hj=>by
                    rw[dQ,oO w _ _ arr e2 (0,0) h2];rw[cL] at hj;split at hj
                    . simpa using hj
                    . simp at hj) hc'
                   have hall:=h4.append hus;obtain⟨U',c1,c2,c3,c4,rfl⟩:=rI hS2 he (arr:=((arr.toList.drop off1).take (n1*te.size)).toArray++us.toArray++Builtin.zeroCells ze.cells (C-(n1+m))) (by
                    rw[oT,oT];simp only;rw[<-hall.length,jD (ak _),cU];exact hall) (by rw[<-hall.length];simp)
                   exact⟨_,_,U',.inl hr,c1,c3,fun D hD=>c4 D hD,⟨_,C,c2,rfl,hC,by show 0+C*te.size=_;rw[hCs];try omega⟩⟩
                 . cases he
              . -- to the block's end
                rename_i sz;have hcap0:off1+c0*sz=k.2:=hcap;split at he
                . rename_i e1 cs vs cnt hg;cases hb3:(Nat.beq sz te.size&&Nat.beq e1 e&&Nat.beq off1 0) with
                  |false=>rw[hb3] at he;cases he
                  |true=>
                   rw[hb3] at he;simp only[ai] at he;simp only[aC] at hb3;have q1:=aw hb3.1.1;have q2:=aw hb3.1.2;have q3:=aw hb3.2;subst q1 q2 q3;simp only[aX] at hcap0;split at he
                   . rename_i p hv;have hO:=hS.sim.obj g1 _ hg;obtain⟨hcnt,k',arr,d1,d2,d3,d4,d5,d6,d7,d8⟩:=hO.2 u1 p (nS hv);rw[hk] at d1;cases d1;have d3:H k.1=none:=hO.1 rfl u1 k hk;cases hc1:Nat.ble ((n1+m)*te.size) p with
                     |true=>
                      rw[hc1] at he;simp only[ai] at he;split at he
                      . rename_i o' hw;rw[bc] at he;simp only[ae,aA] at he;obtain⟨rfl,rfl⟩:=he;have hle:=aB hc1;exact room hw (Nat.le_of_mul_le_mul_right (by omega) hp')
                      . cases he
                     |false=>
                      rw[hc1] at he;simp only[aW] at he;cases hc2:Nat.ble (n1*te.size) p with
                      |false=>rw[hc2] at he;cases he
                      |true=>
                       rw[hc2] at he;simp only[ai,cC,bc,ae,aA] at he;obtain⟨rfl,rfl⟩:=he;have hle:=aB hc2;have hfresh:U g1 cnt=none:=by
                        cases hx:U g1 cnt with
                        |none=>rfl
                        |some kk=>
                         obtain⟨_,_,o2,ho2,hlt⟩:=hS.sim.domN hg (by simp) cnt kk hx;rw[hg] at ho2;cases ho2;exact absurd hlt (Nat.lt_irrefl _)
                       have hold:CRL X.Z H U (arr.toList.take (n1*te.size)) (cs.take (n1*te.size)):=by
                        have:=d8.take (n1*te.size);rwa[b6,b6,cg hle] at this
                       have hall:=hold.append hus;have hcl:(cs.take (n1*te.size)++news).length=(n1+m)*te.size:=by
                        rw[ce,b9,cg (by omega),hnl,bP]
                       -- the versions that stay
                       have stay:∀{w':World} {U':Bm},BLe U U'->(∀u kk,U g1 u=some kk->kk.1≠k.1->w'.heap[kk.1]?=w.heap[kk.1]?)->(∃arr',w'.heap[k.1]?=some (.cells arr' e1 (0,0))/\arr'.size=arr.size/\arr'.toList.take (n1*te.size)=arr.toList.take (n1*te.size))->
                        ∀v q,(v,q)∈yp (vs.map fun p=>(p.1,Nat.min p.2 (n1*te.size)))->v<cnt+1/\∃kk arr',U' g1 v=some kk/\E.own kk.1/\(if false then H kk.1=some arr' else H kk.1=none)/\w'.heap[kk.1]?=some (.cells arr' e1 (0,0))/\arr'.size=kk.2/\q<=(cs.take (n1*te.size)++news).length/\q<=arr'.size/\CRL X.Z H U' (arr'.toList.take q) ((cs.take (n1*te.size)++news).take q):=fun{w' U'} hB hoth ⟨arr',x1,x2,x3⟩ v q hvq=>by
                        obtain⟨pp,hpp,epp⟩:=List.mem_map.1 (PB hvq);obtain⟨v',q'⟩:=pp;simp only[aA] at epp;obtain⟨rfl,eq⟩:=epp;have eq':q=min q' (n1*te.size):=eq.symm;obtain⟨c1,kk,arr2,f1,f2,f3,f4,f5,f6,f7,f8⟩:=hO.2 v' q' hpp;have hq1:q<=q':=by omega
                        have hq2:q<=n1*te.size:=by omega
                        have htk:(cs.take (n1*te.size)++news).take q=cs.take q:=by
                         rw[jD (by rw[b9];omega),b6,cg hq2]
                        have f8':CRL X.Z H U' (arr2.toList.take q) (cs.take q):=by
                         have:=f8.take q;rw[b6,b6,cg hq1] at this;exact this.mono (HLe.refl _) hB
                        have f3':H kk.1=none:=hO.1 rfl v' kk f1;refine⟨by omega,kk,?_⟩;by_cases hkk:kk.1=k.1
                        . rw[hkk,d4] at f4;cases f4;refine⟨arr',hB _ _ _ f1,f2,by simpa using f3',by rw[hkk];exact x1,by rw[x2];exact f5,by rw[hcl,bP];omega,by rw[x2];omega,?_⟩;rw[htk];have:arr'.toList.take q=arr.toList.take q:=by
                           rw[<-cg hq2,<-b6,x3,b6]
                          rw[this];exact f8'
                        . exact⟨arr2,hB _ _ _ f1,f2,by simpa using f3',(hoth v' kk f1 hkk).trans f4,f5,by rw[hcl,bP];omega,by omega,by rw[htk];exact f8'⟩
                       by_cases hroom:n1+m<=c0
                       . -- in place
                         have hfit:0+n1*te.size+us.length<=arr.size:=by
                          rw[hul,d5,<-hcap0,aX,<-bP];exact bW _ hroom
                         have hr:=EH (P:=X.P) w t o.type e1 ie ok.und oke.info k.1 0 n1 c0 arr d4 A m cx us (by rw[hul,oke.size]) hA hus.one hroom (by rw[oke.size];exact hfit);rw[oke.size,aX] at hr;have hrow:=tc w k.1 arr (splice arr.toList (n1*te.size) us).toArray e1 (0,0) d4;have hssz:(splice arr.toList (n1*te.size) us).toArray.size=arr.size:=by
                          simp only[ko];rw[iA (by simp;omega),eE]
                         have hstk:(splice arr.toList (n1*te.size) us).toArray.toList.take (n1*te.size)=arr.toList.take (n1*te.size):=Ab (ak _) (by simp;omega);refine⟨_,_,kP U g1 cnt k,.inl (exec hsv hr),jI hfresh,hS.sim.turn (by rw[hg];simp) rfl rfl rfl (by simp) (fun k' _ hk'=>mv _ _ _ _ (fun e'=>hk' u1 k hk e'.symm)) (fun u' s' hs'=>hO.1 rfl u' s' hs') (jI hfresh) (fun g' u' hne=>kA _ _ _ _ (fun e'=>hne e'.1)) (fun u' k' hk'=>?_) ⟨fun _ u' k' hk'=>?_,fun v q hvq=>?_⟩,MarkSame.row d4,k,c0,fI _ _ _ _,rfl,hroom,by show 0+c0*te.size=k.2;omega⟩
                         . by_cases eu:u'=cnt
                           . subst eu;rw[fI] at hk';cases hk';obtain⟨hlt,hown,_⟩:=hS.sim.domN hg (by simp) u1 k hk;exact⟨tt _,by simpa using hlt,hown,.inl ⟨u1,k,hk,rfl⟩⟩
                           . rw[kA _ _ _ _ (fun e'=>eu e'.2)] at hk';obtain⟨hlt,hown,o2,ho2,hc2⟩:=hS.sim.domN hg (by simp) u' k' hk';rw[hg] at ho2;cases ho2;exact⟨Nat.lt_succ_of_lt hc2,by simpa using hlt,hown,.inl ⟨u',k',hk',rfl⟩⟩
                         . by_cases eu:u'=cnt
                           . subst eu;rw[fI] at hk';cases hk';exact d3
                           . rw[kA _ _ _ _ (fun e'=>eu e'.2)] at hk';exact hO.1 rfl u' k' hk'
                         . rcases List.mem_cons.1 hvq with e'|hvq
                           . simp only[aA] at e';obtain⟨rfl,rfl⟩:=e';refine⟨tt _,k,_,fI _ _ _ _,d2,by simpa using d3,hrow,by rw[hssz];exact d5,by rw[hcl];exact ak _,by rw[hssz,bP];omega,?_⟩;rw[aH (iY hcl)];have:(splice arr.toList (n1*te.size) us).toArray.toList.take ((n1+m)*te.size)=arr.toList.take (n1*te.size)++us:=by
                              show(splice arr.toList (n1*te.size) us).take ((n1+m)*te.size)=_;unfold Fl.splice;rw[jD (by simp only[ce,b9,eE,hul,bP];omega),aH (by simp only[ce,b9,eE,hul,bP];omega)]
                             rw[this];exact hall.mono (HLe.refl _) (jI hfresh)
                           . exact stay (jI hfresh) (fun u kk _ hne=>mv _ _ _ _ hne) ⟨_,hrow,hssz,hstk⟩ v q hvq
                       . -- it grows
                         have hold':(arr.toList.take (n1*te.size)).length=n1*te.size:=by rw[b9,eE];omega
                         obtain⟨C,hC,hCs,hr⟩:=grow (arr.toList.take (n1*te.size)) hold' (fun j v hj=>by
                          rw[dQ,aX,oO w _ _ arr e1 (0,0) d4];rw[cL] at hj;split at hj
                          . simpa using hj
                          . simp at hj) (by omega)
                         generalize hbig:(arr.toList.take (n1*te.size)).toArray++us.toArray++Builtin.zeroCells ze.cells (C-(n1+m))=big at hr hCs;have hbtk:big.toList.take ((n1+m)*te.size)=arr.toList.take (n1*te.size)++us:=by
                          rw[<-hbig,oT,oT];simp only;rw[jD (by rw[ce,hold',hul,bP];exact ak _),aH (by rw[ce,hold',hul,bP];exact ak _)]
                         have hbe0:=(mr w.drew.heap.size w.drew).alloc (ak _) (.cells big e1);have hbe:Below w.heap.size w (w.drew.alloc (.cells big e1)):=⟨hbe0.os,hbe0.tape,hbe0.output,hbe0.size,fun k hk=>hbe0.block k hk⟩;have hnewb:w.heap.size<(w.drew.alloc (.cells big e1)).heap.size:=(Array.getElem?_eq_some_iff.1 (nD w.drew (.cells big e1))).1;have hNone:H w.heap.size=none:=by
                          cases hx:H w.heap.size with
                          |none=>rfl
                          |some arr'=>have:=hS.sim.has.lt hx;omega
                         refine⟨_,_,kP U g1 cnt (w.heap.size,C*te.size),.inl hr,jI hfresh,hS.sim.turn (by rw[hg];simp) hbe.os hbe.tape hbe.output hbe.size (fun k' hlt _=>hbe.block k' hlt) (fun u' s' hs'=>hO.1 rfl u' s' hs') (jI hfresh) (fun g' u' hne=>kA _ _ _ _ (fun e'=>hne e'.1)) (fun u' k' hk'=>?_) ⟨fun _ u' k' hk'=>?_,fun v q hvq=>?_⟩,MarkSame.below hbe,_,C,fI _ _ _ _,rfl,hC,by show 0+C*te.size=_;omega⟩
                         . by_cases eu:u'=cnt
                           . subst eu;rw[fI] at hk';cases hk';exact⟨tt _,hnewb,hS.sim.lo _ (ak _),.inr (ak _)⟩
                           . rw[kA _ _ _ _ (fun e'=>eu e'.2)] at hk';obtain⟨hlt,hown,o2,ho2,hc2⟩:=hS.sim.domN hg (by simp) u' k' hk';rw[hg] at ho2;cases ho2;exact⟨Nat.lt_succ_of_lt hc2,iy hlt hnewb,hown,.inl ⟨u',k',hk',rfl⟩⟩
                         . by_cases eu:u'=cnt
                           . subst eu;rw[fI] at hk';cases hk';exact hNone
                           . rw[kA _ _ _ _ (fun e'=>eu e'.2)] at hk';exact hO.1 rfl u' k' hk'
                         . rcases List.mem_cons.1 hvq with e'|hvq
                           . simp only[aA] at e';obtain⟨rfl,rfl⟩:=e';refine⟨tt _,_,big,fI _ _ _ _,hS.sim.lo _ (ak _),by simpa using hNone,nD w.drew _,hCs,by rw[hcl];exact ak _,by rw[hCs];exact bW _ hC,?_⟩;rw[aH (iY hcl),hbtk];exact hall.mono (HLe.refl _) (jI hfresh)
                           . exact stay (jI hfresh) (fun u kk hkk _=>hbe.block _ (hS.sim.domN hg (by simp) u kk hkk).1) ⟨arr,(hbe.block _ (hS.sim.domN hg (by simp) u1 k hk).1).trans d4,rfl,rfl⟩ v q hvq
                   . cases he
                . cases he
          . cases he
        . cases he
     . cases he
   . cases he
 . cases he
end
section
variable {X:EX}{E:EEnv}{nt:Nat}{H H':ah}{U U':Bm}{tm:Nat->ES}{h h':Hp}{a:Act}{w w':World}{o:Oper}
theorem Ol{P:Program}(w:World)(sz:Nat){ad:Option Addr}{m c:Nat}{us:List Value}(hul:us.length=m*sz)(hcell:0<m->∃a,ad=some a/\∀j u,us[j]?=some u->w.cell? (a.add j)=some u){k:Nat}(hk:k<=m) :
 (Builtin.firstCells sz k (.slice ad m c)).run P w=.ok (us.take (k*sz)).toArray w:=by
 by_cases h0:k=0
 . subst h0;cases ad with
   |none=>simp[Builtin.firstCells]
   |some a=>
    have:=ME (P:=P) w sz 0 a m c [] (by simp) (by simp);simpa using this
 . obtain⟨a,rfl,ha⟩:=hcell (by omega);have hl:(us.take (k*sz)).length=k*sz:=by
    rw[b9,hul,cg (bW _ hk)]
   exact ME (P:=P) w sz k a m c (us.take (k*sz)) hl (fun j u hj=>ha j u (by
    rw[cL] at hj;split at hj
    . exact hj
    . cases hj))
theorem ok_copy(hS:ESt X E nt H U tm h a w){d x:Operand}{t t':TypeId}(ho:o.op=.call { callee:=.builtin .copy,args := #[d,x],argTypes := #[t,t'] }){r:ES}{ws:Wr}(he:mY X.T h t (aj tm d) (aj tm x)=some (r,ws)):OpOk X E H U h a w o r ws:=by
 have hd:=bn hS d;have hx:=bn hS x;unfold mY at he;split at he
 . rename_i ty ht;obtain⟨i,dd,z,ok⟩:=aM (X.hT t ty ht);have hd':=ok.sh;split at he
   . rename_i e hsh;rw[hsh] at hd';obtain rfl:=eH hd';split at he
     . rename_i te hte;obtain⟨ie,de,ze,oke⟩:=aM (X.hT e te hte);split at he
       . rename_i news m g1 u1 off1 n1 cap hsrc hde;rw[hde] at hd;obtain⟨k,c0,hk,hdv,hn,_⟩:=hd;obtain⟨ad,cx,us,hxv,hus,hul,hcell⟩:=Iv hS.sim hx hsrc;rw[bc] at he;split at he
         . rename_i o' hw;simp only[ae,aA] at he;obtain⟨rfl,rfl⟩:=he;have hcut:=hus.take (Nat.min m n1*te.size);obtain⟨k',arr,e2,h1,h2,h3,h4,h5,h6⟩:=xC hS.sim hw hcut;rw[hk] at h1;cases h1;have hf:=Ol (P:=X.P) w te.size (c:=cx) hul hcell (Nat.min_le_left m n1);have hst:=DY X.P k.1 off1 e2 (us.take (Nat.min m n1*te.size)) 0 arr w h2 (by simpa using h3) hcut.one;simp only[eG] at hst;refine⟨_,_,U,.inl ?_,BLe.refl _,h5,h6,rfl,VR.int _ _⟩;have hr:(Builtin.copy_ #[t,t'] o.type #[.slice (some ⟨k.1,off1,none⟩) n1 c0,.slice ad m cx]).run X.P w=.ok (goInt (Nat.min m n1)) (w.setRow k.1 (splice arr.toList off1 (us.take (Nat.min m n1*te.size))).toArray):=by
            simp only[Builtin.copy_,qR,nE,Mc,av,ok.run_und,au,ay,Builtin.lenOf,oke.run_size,hf];simp only[hst,au,Fl.splice]
           simp only[execOp,ho,resolve,invoke,builtin,av,ay,au,ja,aS,dO,hdv,hxv,hr];rfl
         . cases he
       . cases he
     . cases he
   . cases he
 . cases he
theorem QC(hS:ESt X E nt H U tm h a w){d:Operand}{t:TypeId}(ho:o.op=.call { callee:=.builtin .clear,args := #[d],argTypes := #[t] }){r:ES}{ws:Wr}(he:kH X.T X.ze h t (aj tm d)=some (r,ws)):OpOk X E H U h a w o r ws:=by
 have hd:=bn hS d;unfold kH at he;split at he
 . rename_i ty ht;obtain⟨i,dd,z,ok⟩:=aM (X.hT t ty ht);have hd':=ok.sh;split at he
   . rename_i e hsh;rw[hsh] at hd';obtain rfl:=eH hd';split at he
     . rename_i te zs hte hz;obtain⟨ie,de,zee,oke⟩:=aM (X.hT e te hte);obtain⟨ze,hz1,hz2,nw,i',hz4,hz5⟩:=EX.run_zero hz;cases hb:Nat.beq zs.length te.size with
       |false=>rw[hb] at he;cases he
       |true=>
        rw[hb] at he;simp only[ai] at he;have hzl:=aw hb;have hzc:ze.cells.size=te.size:=by omega
        have none0:∀{ad:Option Addr} {c:Nat},a.eval d=.slice ad 0 c->OpOk X E H U h a w o (.tup []) []:=fun{ad c} hdv=>by
         refine OpOk.pure hS (v:=.tuple #[]) ?_ ⟨[],rfl,ab⟩;have hr:(Builtin.clear_ #[t] o.type #[.slice ad 0 c]).run X.P w=.ok (.tuple #[]) w:=by
          cases ad<;>simp only[Builtin.clear_,qR,nE,av,ok.run_und,au,ay]
         simp only[execOp,ho,resolve,invoke,builtin,av,ay,au,ja,aS,dO,hdv,hr]
        split at he
        . rename_i g1 u1 off1 n1 cap hde;rw[hde] at hd;obtain⟨k,c0,hk,hdv,hn,_⟩:=hd;split at he
          . rename_i o' hw;simp only[ae,aA] at he;obtain⟨rfl,rfl⟩:=he;obtain⟨k',arr,e2,h1,h2,h3,h4,h5,h6⟩:=xC hS.sim hw (ud (hz2 H U) n1);rw[hk] at h1;cases h1;have hst:=DY X.P k.1 off1 e2 (aO (List.replicate n1 ze)) 0 arr w h2 (by simpa using h3) (ud (hz2 H U) n1).one;simp only[eG] at hst;have hzero:(Builtin.zeroCells ze.cells n1).toList=aO (List.replicate n1 ze):=by
             have:0<te.size\/te.size=0:=by omega
             rcases this with hp|hp
             . have:=tS hzc hp n1;rw[<-hzc] at this;exact this
             . have e1:ze.cells = #[]:=by apply Array.eq_empty_of_size_eq_zero;omega
               have e3:∀n,aO (List.replicate n ze)=[]:=by
                intro n;induction n with
                |zero=>rfl
                |succ n ih=>rw[qN,mN,ih,e1];rfl
               rw[e3,e1];simp[Builtin.zeroCells]
            refine⟨.tuple #[],_,U,.inl ?_,BLe.refl _,h5,h6,[],rfl,ab⟩;have hr:(Builtin.clear_ #[t] o.type #[.slice (some ⟨k.1,off1,none⟩) n1 c0]).run X.P w=.ok (.tuple #[]) (w.setRow k.1 (splice arr.toList off1 (aO (List.replicate n1 ze))).toArray):=by
             cases n1 with
             |zero=>
              simp only[Builtin.clear_,qR,nE,av,ok.run_und,au,ay];have e1:splice arr.toList off1 (aO (List.replicate 0 ze))=arr.toList:=by simp[Fl.splice,aO]
              rw[e1,Xd,setRow_self w _ arr e2 (0,0) h2]
             |succ n1=>
              simp only[Builtin.clear_,qR,nE,av,ok.run_und,au,ay,hz1,hzero,hst,Fl.splice]
            simp only[execOp,ho,resolve,invoke,builtin,av,ay,au,ja,aS,dO,hdv,hr]
          . cases he
        . rename_i hde;rw[hde] at hd;simp only[ae,aA] at he;obtain⟨rfl,rfl⟩:=he;rcases VR.asSl hd.2 with⟨_,ad,cap,hh⟩|⟨b,off,cap,sz,arr,vs,hh,_⟩
          . exact none0 hh
          . exact none0 hh
        . rename_i hde;rw[hde] at hd;simp only[ae,aA] at he;obtain⟨rfl,rfl⟩:=he;exact none0 (r9 hd.2)
        . cases he
     . cases he
   . cases he
 . cases he
theorem Ox(hS:ESt X E nt H U tm h a w){b:Builtin}{args:Array Operand}{ts:Array TypeId}(ho:o.op=.call { callee:=.builtin b,args:=args,argTypes:=ts }){g:Nat}{r:ES}{ws:Wr}(he:fk X.T X.ze h g b ts.toList (args.toList.map (aj tm))=some (r,ws)):OpOk X E H U h a w o r ws:=by
 have m1:∀{x:ES} {l:List Operand},l.map (aj tm)=[x]->∃y,l=[y]/\aj tm y=x:=fun{x l} hl=>by
  cases l with
  |nil=>cases hl
  |cons y l=>cases l with
   |nil=>simp only[aS,dO,oY,and_true] at hl;exact⟨y,rfl,hl⟩
   |cons=>simp at hl
 have m2:∀{x x':ES} {l:List Operand},l.map (aj tm)=[x,x']->∃y y',l=[y,y']/\aj tm y=x/\aj tm y'=x':=fun{x x' l} hl=>by
  cases l with
  |nil=>cases hl
  |cons y l=>cases l with
   |nil=>simp at hl
   |cons y' l=>cases l with
    |nil=>simp only[aS,dO,oY,and_true] at hl;exact⟨y,y',rfl,hl⟩
    |cons=>simp at hl
 have arr:∀{α:Type} {l:Array α} {l':List α},l.toList=l'->l=l'.toArray:=fun hl=>by rw[<-hl]
 unfold fk at he;split at he
 . rename_i x t ha hts;obtain⟨y,hy,rfl⟩:=m1 ha;rw[arr hy,arr hts] at ho;exact UQ hS ho he
 . rename_i x x' ha;obtain⟨y,y',hy,rfl,rfl⟩:=m2 ha;rw[arr hy] at ho;exact KJ (mx:=true) hS ho he
 . rename_i x x' ha;obtain⟨y,y',hy,rfl,rfl⟩:=m2 ha;rw[arr hy] at ho;exact KJ (mx:=false) hS ho he
 . rename_i x x' t t' ha hts;obtain⟨y,y',hy,rfl,rfl⟩:=m2 ha;rw[arr hy,arr hts] at ho;cases htt:Nat.beq t t' with
   |false=>rw[htt] at he;cases he
   |true=>
    rw[htt] at he;have:=aw htt;subst this;exact Pu hS ho he
 . rename_i x x' t t' ha hts;obtain⟨y,y',hy,rfl,rfl⟩:=m2 ha;rw[arr hy,arr hts] at ho;exact ok_copy hS ho he
 . rename_i x t ha hts;obtain⟨y,hy,rfl⟩:=m1 ha;rw[arr hy,arr hts] at ho;exact QC hS ho he
 . cases he
end
section
variable {X:EX}{E:EEnv}{nt:Nat}{H H':ah}{U U':Bm}{tm:Nat->ES}{h h':Hp}{a:Act}{w w':World}{o:Oper}
theorem FK{Z:QS}:∀{cs:List EV} {l:List Int} {vs:List Value},lI cs=some l->CRL Z H U vs cs->vs=l.map (Value.int .i64)
 | [],l,vs,h,hv=>by
  simp only[lI,ae] at h;subst h;cases vs with
  |nil=>rfl
  |cons=>exact hv.elim
 |c::cs,l,vs,h,hv=>by
  unfold lI at h;split at h
  . rename_i hh;cases hh
  . rename_i n cs' hh;cases hh;cases hk:lI cs with
    |none=>rw[hk] at h;cases h
    |some l'=>
     rw[hk] at h;simp only[eU,ae] at h;subst h;cases vs with
     |nil=>exact hv.elim
     |cons v vs=>
      have h1:v=.int .i64 n:=VR.asInt hv.1.2;rw[h1,FK hk hv.2];rfl
  . cases h
theorem xj{Z:QS}{v:Value}{x:EW}{k:KV}(hk:gX x=some k)(hv:WR Z H U v x):KVR v k:=by
 unfold gX at hk;split at hk
 . simp only[ae] at hk;subst hk;obtain⟨bs,rfl,rfl⟩:=jj hv.2;exact .str bs
 . rename_i cs;cases hi:lI cs with
   |none=>rw[hi] at hk;cases hk
   |some l=>
    rw[hi] at hk;simp only[eU,ae] at hk;subst hk;obtain⟨vs,rfl,hvs⟩:=hv;rw[FK hi hvs];exact .ints l
 . cases hk
theorem KVR.fn{v:Value}{k k':KV}(h1:KVR v k)(h2:KVR v k'):k=k':=by
 cases h1 with
 |str s=>cases h2;rfl
 |ints l=>
  generalize he:Value.agg (l.map (Value.int .i64)).toArray=v at h2;cases h2 with
  |str s=>cases he
  |ints l'=>
   simp only[Value.agg.injEq,List.toArray_inj] at he;have:∀(a b:List Int),a.map (Value.int .i64)=b.map (Value.int .i64)->a=b:=by
    intro a;induction a with
    |nil=>intro b hb;cases b with
     |nil=>rfl
     |cons=>simp at hb
    |cons x a ih=>intro b hb;cases b with
     |nil=>simp at hb
     |cons y b=>
      simp only[aS,oY,Value.int.injEq,true_and] at hb;rw[hb.1,ih b hb.2]
   have he':l.map (Value.int .i64)=l'.map (Value.int .i64):=by simpa using congrArg Array.toList he
   rw[this l l' he']
theorem KVR.inj{v v':Value}{k:KV}(h1:KVR v k)(h2:KVR v' k):v=v':=by
 cases h1 with
 |str s=>
  generalize he:KV.str s.data.toList=k at h2;cases h2 with
  |str s'=>
   simp only[KV.str.injEq] at he;have:s=s':=by
    cases s;cases s';simp only[ByteArray.mk.injEq];exact dZ he
   rw[this]
  |ints=>cases he
 |ints l=>cases h2;rfl
theorem MRL.get{Z:QS}:∀{vs:List MapEntry} {xs:List (EW×EW×Nat)},MRL Z H U vs xs->∀(i:Nat) (e:MapEntry),vs[i]?=some e->∃x,xs[i]?=some x/\MR Z H U e x
 | [],[],_,i,e,h=>by simp at h
 |v::_,x::_,⟨h1,_⟩,0,e,h=>by simp at h;subst h;exact⟨x,rfl,h1⟩
 |_::_,_::_,⟨_,h2⟩,i+1,e,h=>by simp at h;simpa using MRL.get h2 i e h
 | [],_::_,h,_,_,_=>h.elim
 |_::_,[],h,_,_,_=>h.elim
theorem MRL.length{Z:QS}:∀{vs:List MapEntry} {xs:List (EW×EW×Nat)},MRL Z H U vs xs->vs.length=xs.length
 | [],[],_=>rfl
 |_::_,_::_,⟨_,h2⟩=>by simp[MRL.length h2]
 | [],_::_,h=>h.elim
 |_::_,[],h=>h.elim
theorem MRL.append{Z:QS}:∀{vs:List MapEntry} {xs:List (EW×EW×Nat)} {us:List MapEntry} {ys:List (EW×EW×Nat)},MRL Z H U vs xs->MRL Z H U us ys->MRL Z H U (vs++us) (xs++ys)
 | [],[],_,_,_,h=>by simpa using h
 |_::_,_::_,_,_,⟨h1,h2⟩,h=>by simpa using(show MRL Z H U (_::_) (_::_) from⟨h1,MRL.append h2 h⟩)
 | [],_::_,_,_,h,_=>h.elim
 |_::_,[],_,_,h,_=>h.elim
theorem MRL.set{Z:QS}:∀{vs:List MapEntry} {xs:List (EW×EW×Nat)} (i:Nat) {e:MapEntry} {x:EW×EW×Nat},MRL Z H U vs xs->MR Z H U e x->MRL Z H U (vs.set i e) (xs.set i x)
 | [],[],_,_,_,_,_=>by simp[MRL]
 |_::_,_::_,0,_,_,⟨_,h2⟩,h=>⟨h,h2⟩
 |_::_,_::_,i+1,_,_,⟨h1,h2⟩,h=>⟨h1,MRL.set i h2 h⟩
 | [],_::_,_,_,_,h,_=>h.elim
 |_::_,[],_,_,_,h,_=>h.elim
theorem Gj{ok:KV->Bool}{k:KV}:∀{es:List (EW×EW×Nat)} {i:Nat} {l:List (Nat×EW×Nat)},eP ok k es i=some l->
 (∀x∈es,∃k',gX x.1=some k'/\ok k'=true)/\(∀j x,es[j]?=some x->gX x.1=some k->(i+j,x.2.1,x.2.2)∈l)/\(∀p∈l,∃j x,es[j]?=some x/\gX x.1=some k/\p=(i+j,x.2.1,x.2.2))
 | [],i,l,h=>by
  simp only[eP,ae] at h;subst h;exact⟨by simp,by simp,by simp⟩
 | (x,y,b)::es,i,l,h=>by
   unfold eP at h;split at h
   . rename_i k' r h1 h2;obtain⟨i1,i2,i3⟩:=Gj h2;cases hok:ok k' with
     |false=>rw[hok] at h;cases h
     |true=>
      rw[hok] at h;simp only[ai] at h;have sub:∀p∈r,p∈l/\True:=fun p hp=>by
       cases hd:decide (k'=k) with
       |true=>rw[hd] at h;simp only[ai,ae] at h;subst h;exact⟨dx _ hp,ab⟩
       |false=>rw[hd] at h;simp only[aW,ae] at h;subst h;exact⟨hp,ab⟩
      refine⟨fun z hz=>?_,fun j z hj hk=>?_,fun p hp=>?_⟩
      . rcases List.mem_cons.1 hz with rfl|hz
        . exact⟨k',h1,hok⟩
        . exact i1 z hz
      . cases j with
        |zero=>
         simp only[nE,ae] at hj;subst hj;have:k'=k:=by rw[h1] at hk;simpa using hk
         rw[bu this] at h;simp only[ai,ae] at h;subst h;simp
        |succ j=>
         have:=(sub _ (i2 j z (by simpa using hj) hk)).1;rwa[show i+1+j=i+(j+1) by omega] at this
      . have hcase:p=(i,y,b)/\k'=k\/p∈r:=by
         cases hd:decide (k'=k) with
         |true=>
          rw[hd] at h;simp only[ai,ae] at h;subst h;rcases List.mem_cons.1 hp with e|e
          . exact .inl ⟨e,mB hd⟩
          . exact .inr e
         |false=>rw[hd] at h;simp only[aW,ae] at h;subst h;exact .inr hp
        rcases hcase with⟨e,e'⟩|e
        . exact⟨0,_,rfl,by rw[h1,e'],e⟩
        . obtain⟨j,z,z1,z2,z3⟩:=i3 p e;exact⟨j+1,z,by simpa using z1,z2,by rw[z3,show i+1+j=i+(j+1) by omega]⟩
   . cases h
theorem xl(hS:ESim X.Z E H U h w){t k e:TypeId}{ok:KV->Bool}(hmk:X.B.mp t=some (k,e,ok)){g:Nat}{es:List (EW×EW×Nat)}{ck:Nat}(hg:h g=some (.map es ck)){kx:EW}{kv:KV}(hk:gX kx=some kv)(hok:ok kv=true){v:Value}(hv:WR X.Z H U v kx)
 {l:List (Nat×EW×Nat)} (hp:eP ok kv es 0=some l) :
 ∃(kk:Nat×Nat) (ents:Array MapEntry),U g 0=some kk/\w.heap[kk.1]?=some (.map ents ck)/\MRL X.Z H U ents.toList es/\(Instr.checkKey ents.isEmpty 10000 k v).run X.P w=.ok () w/\(Instr.checkKey false 10000 k v).run X.P w=.ok () w/\
  (Instr.keyThatStays v v).run X.P w=.ok v w/\
  ((l=[]->(Instr.findKey k v ents.toList).run X.P w=.ok none w)/\∀i y b,l=[(i,y,b)]->∃en,(Instr.findKey k v ents.toList).run X.P w=.ok (some (i,en.val)) w/\ents.toList[i]?=some en/\en.key=v/\WR X.Z H U en.val y/\en.born=b):=by
 obtain⟨hu,K,hfit⟩:=X.hmk t k e ok hmk;obtain⟨kk,ents,h1,h2,h3,h4,h5⟩:=hS.obj g _ hg;obtain⟨p1,p2,p3⟩:=Gj hp;have hkv:=xj hk hv;obtain⟨lv,hlv⟩:=hfit v kv hkv hok;have hall:∀en∈ents.toList,∃l,keyOf X.P k en.key=some l:=fun en hen=>by
  obtain⟨i,hi,rfl⟩:=List.mem_iff_getElem.1 hen;obtain⟨x,hx,hm⟩:=h5.get i _ (aQ hi);obtain⟨k',hk',hok'⟩:=p1 x (cd hx);exact hfit _ _ (xj hk' hm.1) hok'
 refine⟨kk,ents,h1,h4,h5,K.check w _ hlv,K.check w _ hlv,K.stays w hlv,?_⟩;have atj:∀(j:Nat) (en:MapEntry),ents.toList[j]?=some en->en.key=v->∃y b,(j,y,b)∈l/\WR X.Z H U en.val y/\en.born=b:=fun j en hj hkey=>by
  obtain⟨x,hx,hm⟩:=h5.get j en hj;obtain⟨k',hk',_⟩:=p1 x (cd hx);have:k'=kv:=by
   have:=xj hk' hm.1;rw[hkey] at this;exact this.fn hkv
  subst this;have:=p2 j x hx hk';rw[aX] at this;exact⟨_,_,this,hm.2.1,hm.2.2⟩
 rcases K.find w hlv ents.toList hall with⟨f1,f2⟩|⟨j,en,f1,f2,f3⟩
 . refine⟨fun _=>f1,fun i y b hl=>?_⟩;obtain⟨j,x,x1,x2,x3⟩:=p3 (i,y,b) (by rw[hl];simp);have hlt:j<ents.toList.length:=by rw[h5.length];exact(List.getElem?_eq_some_iff.1 x1).1
   obtain⟨x',hx',hm⟩:=h5.get j _ (aQ hlt);rw[x1] at hx';cases hx';exact absurd ((xj x2 hm.1).inj hkv) (f2 _ (bV hlt))
 . obtain⟨y,b,q1,q2,q3⟩:=atj j en f2 f3;refine⟨fun hl=>(by rw[hl] at q1;cases q1),fun i y' b' hl=>?_⟩;rw[hl] at q1;simp only[fQ,aA] at q1;obtain⟨rfl,rfl,rfl⟩:=q1;exact⟨en,f1,f2,f3,q2,q3⟩
theorem Ov(hS:ESt X E nt H U tm h a w){t:TypeId}{res:Option Operand}(ho:o.op=.makeMap t res){g:Nat}{r:ES}{ws:Wr}(he:ub h g (res.map (aj tm))=some (r,ws)):OpOk X E H U h a w o r ws:=by
 unfold ub at he;split at he
 . rename_i hres hg;have:res=none:=by cases res with|none=>rfl|some _=>cases hres
   subst this;simp only[ae,aA] at he;obtain⟨rfl,rfl⟩:=he;have hbe:Below w.heap.size w (w.alloc (.map #[] 0)):=(mr _ _).alloc (ak _) _;have hnew:H w.heap.size=none:=by
    cases hx:H w.heap.size with
    |none=>rfl
    |some arr'=>have:=hS.sim.has.lt hx;omega
   obtain⟨hb,hs⟩:=hS.sim.alloc hg (b:=.map #[] 0) (s:=0) (o:=.map [] 0) Nat.one_pos ⟨_,#[],fI _ _ _ _,hS.sim.lo _ (ak _),hnew,nD _ _,ab⟩;refine⟨.map (some w.heap.size),_,_,.inl ?_,hb,hs,MarkSame.below hbe,_,fI _ _ _ _,rfl⟩;simp only[execOp,ho,Instr.makeMap,vu,av,ms,ay,au];rfl
 . cases he
theorem nL{P:Program}{w:World}{b ck:Nat}{ents:Array MapEntry}(h:w.heap[b]?=some (.map ents ck)):(getObj b).run P w=.ok (.map ents ck) w:=Xr h
theorem Pp(hS:ESt X E nt H U tm h a w){t:TypeId}{x ix:Operand}{cok:Bool}(ho:o.op=.lookup t x ix cok){r:ES}{ws:Wr}(he:lK X.B.mp X.B.zw h t (aj tm x) (aj tm ix) cok=some (r,ws)):OpOk X E H U h a w o r ws:=by
 have hx:=bn hS x;have hi:=bn hS ix;unfold lK at he;split at he
 . rename_i k e ok g kx hmk hxe hie;rw[hxe] at hx;rw[hie] at hi;have hi:WR X.Z H U (a.eval ix) kx:=hi;obtain⟨kk,hkk,hxv⟩:=hx;split at he
   . rename_i es ck kv hg hkx;cases hok:ok kv with
     |false=>rw[hok] at he;cases he
     |true=>
      rw[hok] at he;simp only[ai] at he;have hu:=(X.hmk t k e ok hmk).1;split at he
      . rename_i z hpos hz;simp only[ae,aA] at he;obtain⟨rfl,rfl⟩:=he;obtain⟨kk',ents,q1,q2,q3,q4,_,_,q5,_⟩:=xl hS.sim hmk hg hkx hok hi hpos;rw[hkk] at q1;cases q1;obtain⟨iz,zv,z1,z2,z3⟩:=X.hzw e z hz;have hzr:(zeroValue e).run X.P w=.ok zv w:=by simp[zeroValue,typeInfo,z1,z2]
        cases cok with
        |true=>
         refine OpOk.pure hS (v:=.tuple #[zv,.bool false]) ?_ ⟨[zv,.bool false],rfl,z3 H U,⟨rfl,VR.bool _⟩,ab⟩;simp only[execOp,ho,hxv,Instr.lookup,av,cK hu w,au,nL q2,ay,q4,q5 rfl,hzr,bD]
        |false=>
         refine OpOk.pure hS (v:=zv) ?_ (z3 H U);simp only[execOp,ho,hxv,Instr.lookup,av,cK hu w,au,nL q2,ay,q4,q5 rfl,hzr,cM,bE]
      . rename_i i y b hpos hz;simp only[ae,aA] at he;obtain⟨rfl,rfl⟩:=he;obtain⟨kk',ents,q1,q2,q3,q4,_,_,_,q5⟩:=xl hS.sim hmk hg hkx hok hi hpos;rw[hkk] at q1;cases q1;obtain⟨en,f1,f2,f3,f4,f5⟩:=q5 _ _ _ rfl;cases cok with
        |true=>
         refine OpOk.pure hS (v:=.tuple #[en.val,.bool true]) ?_ ⟨[en.val,.bool true],rfl,f4,⟨rfl,VR.bool _⟩,ab⟩;simp only[execOp,ho,hxv,Instr.lookup,av,cK hu w,au,nL q2,ay,q4,f1,bD]
        |false=>
         refine OpOk.pure hS (v:=en.val) ?_ f4;simp only[execOp,ho,hxv,Instr.lookup,av,cK hu w,au,nL q2,ay,q4,f1,cM,bE]
      . cases he
   . cases he
 . cases he
theorem ESim.mapTurn(hS:ESim X.Z E H U h w){g:Nat}{es es':List (EW×EW×Nat)}{ck ck':Nat}(hg:h g=some (.map es ck)){kk:Nat×Nat}{ents ents':Array MapEntry}(hk:U g 0=some kk)(hw:w.heap[kk.1]?=some (.map ents ck))(hm:MRL X.Z H U ents'.toList es') :
 ESim X.Z E H U (aD h g (some (.map es' ck'))) (w.putObj kk.1 (.map ents' ck'))/\MarkSame w (w.putObj kk.1 (.map ents' ck')):=by
 obtain⟨kk',ents0,h1,h2,h3,h4,h5⟩:=hS.obj g _ hg;rw[hk] at h1;cases h1;have hlt:=(Array.getElem?_eq_some_iff.1 hw).1;refine⟨hS.turn (by rw[hg];simp) rfl rfl rfl (by simp) (fun k' _ hk'=>cl (fun e=>hk' 0 kk hk e.symm)) (fun u s hs=>?_) (BLe.refl _) (fun _ _ _=>rfl) (fun u k' hk'=>?_) ⟨kk,ents',hk,h2,h3,vF hlt,hm⟩,fun D hD=>cl (fun e=>?_)⟩
 . obtain⟨_,_,o2,ho2,hc⟩:=hS.domN hg (by simp) u s hs;rw[hg] at ho2;cases ho2;have:u=0:=by simp only[EO.cnt] at hc;omega
   subst this;rw[hk] at hs;cases hs;exact h3
 . obtain⟨a,b,o2,ho2,hc⟩:=hS.domN hg (by simp) u k' hk';rw[hg] at ho2;cases ho2;exact⟨hc,by simpa using a,b,.inl ⟨u,k',hk',rfl⟩⟩
 . subst e;rw[hw] at hD;cases hD
theorem E4(hS:ESt X E nt H U tm h a w){t:TypeId}{x ix y:Operand}(ho:o.op=.mapUpdate t x ix y){r:ES}{ws:Wr}(he:jg X.B.mp h t (aj tm x) (aj tm ix) (aj tm y)=some (r,ws)):OpOk X E H U h a w o r ws:=by
 have hx:=bn hS x;have hi:=bn hS ix;have hy:=bn hS y;unfold jg at he;split at he
 . rename_i k e ok g kx vy hmk hxe hie hye;rw[hxe] at hx;rw[hie] at hi;rw[hye] at hy;have hi:WR X.Z H U (a.eval ix) kx:=hi;have hy:WR X.Z H U (a.eval y) vy:=hy;obtain⟨kk,hkk,hxv⟩:=hx;split at he
   . rename_i es ck kv hg hkx;cases hok:ok kv with
     |false=>rw[hok] at he;cases he
     |true=>
      rw[hok] at he;simp only[ai] at he;have hu:=(X.hmk t k e ok hmk).1;split at he
      . rename_i hpos;rw[bc,cC] at he;simp only[ae,aA] at he;obtain⟨rfl,rfl⟩:=he;obtain⟨kk',ents,q1,q2,q3,_,q4,_,q5,_⟩:=xl hS.sim hmk hg hkx hok hi hpos;rw[hkk] at q1;cases q1;obtain⟨s1,s2⟩:=hS.sim.mapTurn (ents':=ents.push { key:=a.eval ix,val:=a.eval y,born:=ck }) (ck':=ck+1) hg hkk q2 (es':=es ++ [(kx,vy,ck)]) (by
         rw[Array.toList_push];exact q3.append ⟨⟨hi,hy,rfl⟩,ab⟩)
        refine⟨undef,_,U,.inr ⟨rfl,?_⟩,BLe.refl _,s1,s2,rfl⟩;simp only[execOp,ho,hxv,Instr.mapUpdate,av,cK hu w,au,nL q2,q4,q5 rfl,Xs _ q2,ay];rfl
      . rename_i i y0 b hpos;rw[cC] at he;simp only[ae,aA] at he;obtain⟨rfl,rfl⟩:=he;obtain⟨kk',ents,q1,q2,q3,_,q4,q6,_,q5⟩:=xl hS.sim hmk hg hkx hok hi hpos;rw[hkk] at q1;cases q1;obtain⟨en,f1,f2,f3,f4,f5⟩:=q5 _ _ _ rfl;have f2':ents[i]?=some en:=by simpa using f2
        have hmod:(ents.modify i fun e=>{ e with key:=a.eval ix,val:=a.eval y }).toList=ents.toList.set i { key:=a.eval ix,val:=a.eval y,born:=b }:=by
         apply oQ;intro j;rw[tb,zM,zj];by_cases hij:i=j
         . subst hij;have hlt:=(Array.getElem?_eq_some_iff.1 f2').1;rw[ar rfl,ar rfl,f2'];simp[hlt,f5]
         . rw[al hij,al hij];simp
        obtain⟨s1,s2⟩:=hS.sim.mapTurn (ents':=ents.modify i fun e=>{ e with key:=a.eval ix,val:=a.eval y }) (ck':=ck) hg hkk q2 (es':=es.set i (kx,vy,b)) (by
         rw[hmod];exact q3.set i ⟨hi,hy,rfl⟩)
        refine⟨undef,_,U,.inr ⟨rfl,?_⟩,BLe.refl _,s1,s2,rfl⟩;have hkey:((ents[i]?).map (·.key)).getD (a.eval ix)=a.eval ix:=by rw[f2'];simp[f3]
        simp only[execOp,ho,hxv,Instr.mapUpdate,av,cK hu w,au,nL q2,q4,f1,hkey,q6,Xs _ q2,ay];rfl
      . cases he
   . cases he
 . cases he
theorem Ps(hS:ESt X E nt H U tm h a w){t:TypeId}{x ix y:Operand}(ho:o.op=.insert t x ix y){r:ES}{ws:Wr}(he:jg X.B.mp h t (aj tm x) (aj tm ix) (aj tm y)=some (r,ws)):OpOk X E H U h a w o r ws:=by
 have:=E4 (o:={ o with op:=.mapUpdate t x ix y }) hS rfl he;have e:execOp a.eval { o with op:=.mapUpdate t x ix y }=execOp a.eval o:=by
  cases o;simp only at ho;subst ho;rfl
 unfold OpOk at this ⊢;rw[e] at this;exact this
theorem Qz(hS:ESt X E nt H U tm h a w){t:TypeId}{x:Operand}(ho:o.op=.range t x){g:Nat}{r:ES}{ws:Wr}(he:oa X.B.mp h g t (aj tm x)=some (r,ws)):OpOk X E H U h a w o r ws:=by
 have hx:=bn hS x;unfold oa at he;split at he
 . rename_i kd gm hmk hxe;obtain⟨k,e,ok⟩:=kd;rw[hxe] at hx;obtain⟨km,hkm,hxv⟩:=hx;split at he
   . rename_i es ck hgm hg;rw[bc] at he;simp only[ae,aA] at he;obtain⟨rfl,rfl⟩:=he;have hu:=(X.hmk t k e ok hmk).1;obtain⟨km',ents,q1,q2,q3,q4,q5⟩:=hS.sim.obj gm _ hgm;rw[hkm] at q1;cases q1;have hbe:Below w.heap.size w (w.alloc (.mapIter (some km.1) ck #[] ck)):=(mr _ _).alloc (ak _) _;have hnew:H w.heap.size=none:=by
      cases hx:H w.heap.size with
      |none=>rfl
      |some arr'=>have:=hS.sim.has.lt hx;omega
     have hne:¬(gm=g/\0=0):=fun e=>by rw[e.1,hg] at hgm;cases hgm
     obtain⟨hb,hs⟩:=hS.sim.alloc hg (b:=.mapIter (some km.1) ck #[] ck) (s:=0) (o:=.iter gm ck [] ck none) Nat.one_pos ⟨_,km,#[],fI _ _ _ _,by rw[kA _ _ _ _ hne];exact hkm,hS.sim.lo _ (ak _),hnew,nD _ _,fun b=>fR,fun b hb=>by cases hb⟩;refine⟨.pointer (some ⟨w.heap.size,0,none⟩),_,_,.inl ?_,hb,hs,MarkSame.below hbe,_,fI _ _ _ _,rfl⟩;simp only[execOp,ho,hxv,Instr.range,av,cK hu w,au,nL q4,ms,ay];rfl
   . cases he
 . cases he
theorem HK{b:Nat}:∀{es:List (EW×EW×Nat)} {ents:List MapEntry} {k v:EW},MRL X.Z H U ents es->qa b es=some (k,v)->∃en,ents.find? (fun e=>e.born==b)=some en/\WR X.Z H U en.key k/\WR X.Z H U en.val v/\en.born=b
 | [],_,_,_,_,h=>by cases h
 | (k',v',b')::es,[],_,_,hm,_=>hm.elim
 | (k',v',b')::es,en::ents,k,v,⟨⟨h1,h2,h3⟩,ht⟩,h=>by
   unfold qa at h;cases hb:Nat.beq b' b with
   |true=>
    rw[hb] at h;simp only[ai,ae,aA] at h;obtain⟨rfl,rfl⟩:=h;have:=aw hb;subst this;exact⟨en,by simp[List.find?_cons,h3],h1,h2,h3⟩
   |false=>
    rw[hb] at h;obtain⟨en',e1,e2⟩:=HK ht h;refine⟨en',?_,e2⟩;have:(en.born==b)=false:=by
     simp only[vP,oP];intro e';rw[h3] at e';have h':b'=b:=e';subst h';rw[bj] at hb;cases hb
    rw[List.find?_cons,this];exact e1
theorem QB(hS:ESt X E nt H U tm h a w){x:Operand}(ho:o.op=.entry x){r:ES}{ws:Wr}(he:pR h (aj tm x)=some (r,ws)):OpOk X E H U h a w o r ws:=by
 have hx:=bn hS x;unfold pR at he;split at he
 . rename_i gi hxe;rw[hxe] at hx;obtain⟨ki,hki,hxv⟩:=hx;split at he
   . rename_i gm since seen last b hgi;obtain⟨ki',km,sn,p1,p2,p3,p4,p5,p6,p7⟩:=hS.sim.obj gi _ hgi;rw[hki] at p1;cases p1;split at he
     . rename_i es ck hgm;obtain⟨km',ents,q1,q2,q3,q4,q5⟩:=hS.sim.obj gm _ hgm;rw[p2] at q1;cases q1;cases hck:Nat.beq ck last with
       |false=>rw[hck] at he;cases he
       |true=>
        rw[hck] at he;simp only[ai] at he;have hck:=aw hck;subst hck;split at he
        . rename_i kx v hf;simp only[ae,aA] at he;obtain⟨rfl,rfl⟩:=he;obtain⟨en,f1,f2,f3,_⟩:=HK q5 hf;have f1':ents.find? (fun e=>e.born==b)=some en:=by rw[<-Array.find?_toList];exact f1
          refine OpOk.pure hS (v:=.tuple #[en.key,en.val]) ?_ ⟨[en.key,en.val],rfl,f2,f3,ab⟩;have hgo:(getObj ki.1).run X.P w=.ok (.mapIter (some km.1) since sn ck) w:=by simp[getObj,Sem.run,p5]
          simp only[execOp,ho,hxv,Instr.entry,av,hgo,au,p7 b rfl,nL q4,bne_self_eq_false,cM,bE,f1',ay]
        . cases he
     . cases he
   . cases he
 . cases he
theorem ok_index(hS:ESt X E nt H U tm h a w){t:TypeId}{x ix:Operand}(ho:o.op=.index t x ix){r:ES}{ws:Wr}(he:uy X.T t (aj tm x) (aj tm ix)=some (r,ws)):OpOk X E H U h a w o r ws:=by
 have hx:=bn hS x;have hi:=bn hS ix;unfold uy at he;split at he
 . rename_i ty cs k i ht hxe hie;rw[hxe] at hx;rw[hie] at hi;have hi:=hi.int;obtain⟨vs,hx,hvs⟩:=hx;obtain⟨ti,d,z,ok⟩:=aM (X.hT t ty ht);split at he
   . rename_i n e hsh;have hd':=ok.sh;rw[hsh] at hd';obtain rfl:=rh hd';split at he
     . rename_i te hte;obtain⟨ie,de,ze,oke⟩:=aM (X.hT e te hte);cases hb:(Nat.blt i n&&(Nat.beq te.size 1 && !te.sh.agg)) with
       |false=>rw[hb] at he;cases he
       |true=>
        rw[hb] at he;simp only[ai] at he;simp only[aC,eF] at hb;obtain⟨b1,b2,b3⟩:=hb;have b1:i<n:=by rwa[cR] at b1
        have b2:=aw b2;split at he
        . rename_i c hc;simp only[ae,aA] at he;obtain⟨rfl,rfl⟩:=he;obtain⟨v,hv1,hv2⟩:=hvs.get i c hc;refine OpOk.pure hS (v:=v) ?_ hv2;have hag:=oke.run_agg w;rw[b3] at hag;have hv1':vs.toArray[i]?=some v:=by simpa using hv1
          have hcond:(0:Int)<=(i:Int)/\(i:Int)<(n:Int):=by omega
          simp only[execOp,ho,hx,hi,Instr.index,asIntOf,av,ok.run_und,au,ay,gM,ar hcond,oke.run_size,b2,part,hag,cM,bE,gM,mw,jc,hv1']
        . cases he
     . cases he
   . cases he
 . cases he
theorem Va(hS:ESt X E nt H U tm h a w){g:Nat}{r:ES}{ws:Wr}(he:eOp X.Z X.B o.op (aj tm) h g=some (r,ws)):OpOk X E H U h a w o r ws:=by
 unfold eOp at he;split at he
 . rename_i x ho;simp only[ae,aA] at he;obtain⟨rfl,rfl⟩:=he;exact ok_move hS (.inl ho)
 . rename_i x ho;simp only[ae,aA] at he;obtain⟨rfl,rfl⟩:=he;exact ok_move hS (.inr ho)
 . rename_i ho;exact ok_pick hS ho he
 . rename_i ho;exact ok_alloc hS ho he
 . rename_i ho;exact ok_box hS ho he
 . rename_i ho;exact ok_build hS ho he
 . rename_i ho;exact ok_buildSlice hS ho he
 . rename_i ho;exact Sw hS ho he
 . rename_i ho;exact Qx hS ho he
 . rename_i ho;exact UM hS ho he
 . rename_i ho;exact ok_binOp hS ho he
 . rename_i ho;exact Su hS ho he
 . rename_i ho;exact ok_convert hS ho he
 . rename_i ho;exact ok_makeFunc hS ho he
 . rename_i ho;exact ok_makeSlice hS ho he
 . rename_i ho;exact Qy hS ho he
 . rename_i ho;exact ok_fieldAddr hS ho he
 . rename_i ho;exact ok_field hS ho he
 . rename_i ho;exact NF hS ho he
 . rename_i ho;exact ok_extract hS ho he
 . rename_i ho;exact Ox hS ho he
 . rename_i ho;exact Ov hS ho he
 . rename_i ho;exact Pp hS ho he
 . rename_i ho;exact E4 hS ho he
 . rename_i ho;exact Ps hS ho he
 . rename_i ho;exact Qz hS ho he
 . rename_i ho;exact QB hS ho he
 . rename_i ho;exact ok_index hS ho he
 . cases he
end
structure FnE where
 nt:Nat
 rs:List ResultVar
 body:Code
structure Hs where
 h:PT EO
 nx:Nat
 wl:List Nat
structure Sg where
 tm:PT ES
 s:Hs
structure EE where
 Z:QS
 B:Tab
 F:FuncId->Option FnE
 orc:FuncId->List ES->Hs->Option (ES×Hs)
def jA(h:PT EO):Wr->PT EO
 | []=>h
 | (g,o)::l=>jA (h.set g o) l
theorem pC:∀(ws:Wr) (h:PT EO),(jA h ws).get=a7 h.get ws
 | [],_=>rfl
 | (g,o)::l,h=>by
   rw[jA,pC l,a7];congr 1;funext m;rw[mK];by_cases e:m=g
   . subst e;rw[ar rfl,aT]
   . rw[al e,aG _ _ _ e]
def Hs.put(s:Hs)(g:Nat)(o:EO):Hs:=⟨s.h.set g o,s.nx,g::s.wl⟩
def kE{α:Sort _}(x:ES)(k:ES->α):α:=match x with
 | .unk=>k .unk
 | .und=>k .und
 | .tup xs=>k (.tup xs)
 | .w (.one (.iv x))=>k (.w (.one (.iv x)))
 | .w (.one (.ptr g u o))=>k (.w (.one (.ptr g u o)))
 | .w (.one (.slc g u o n c))=>k (.w (.one (.slc g u o n c)))
 | .w (.one c)=>k (.w (.one c))
 | .w (.agg cs)=>k (.w (.agg cs))
 | .w (.q n d)=>k (.w (.q n d))
theorem mI{α:Sort _}(x:ES)(k:ES->α):kE x k=k x:=by
 unfold kE;split<;>rfl
def xk{α:Sort _}:List ES->(List ES->α)->α
 | [],k=>k []
 |x::xs,k=>kE x fun x=>xk xs fun xs=>k (x::xs)
theorem FS{α:Sort _}:∀(l:List ES) (k:List ES->α),xk l k=k l
 | [],_=>rfl
 |x::xs,k=>by rw[xk,mI,FS xs]
def bL(n:Nat):List Nat->Bool
 | []=>false
 |m::l=>bif Nat.beq n m then true else bL n l
theorem ji{n:Nat}:∀{l:List Nat},bL n l=true↔n∈l
 | []=>by simp[bL]
 |m::l=>by
  unfold bL;cases h:Nat.beq n m with
  |true=>have:=aw h;subst this;simp
  |false=>
   have hne:n≠m:=fun e=>by subst e;rw[bj] at h;cases h
   simp only[aW,ji (l:=l),eT];exact⟨.inr,fun h=>h.resolve_left hne⟩
def bT:ES->List Nat
 | .w (.one (.ptr g _ _))=>[g]
 | .w (.one (.slc g _ _ _ _))=>[g]
 | .w (.one (.mp g))=>[g]
 |_=>[]
def iQ(all:Array Oper)(tm:Nat->ES)(o:Oper):Option Bool :=
 match o.guard with
 |none=>some true
 |some (j,want)=>match(all[j]?).bind (·.dst) with
  |none=>some false
  |some t=>match tm t with
   | .w (.one (.iv (.bool b)))=>some (b==want)
   | .und=>some false
   |_=>none
def jY(gs:List Nat):List ES:=gs.map fun g=>.w (.one (.ptr g 0 0))
section
variable (Yz9:EE)(call:FuncId->List ES->Hs->Option (ES × Hs))(yld:Nat->List ES->Hs->Option Hs)
def yw(fo:ES)(args:List ES)(s:Hs):Option (ES×Hs) :=
 match fo with
 | .w (.one (.iv (.fn f)))=>match Yz9.orc f args s with
  |some x=>some x
  |none=>call f args s
 | .w (.one (.clo f gs))=>match Yz9.orc f (args++jY gs) s with
  |some x=>some x
  |none=>call f (args++jY gs) s
 | .w (.one (.yld g))=>match yld g args s with
  |some s'=>some (ac (.bool true),s')
  |none=>none
 |_=>none
def pO:Op->Option (Operand×List Operand)
 | .call { callee:=.value fo,args,argTypes:=_ }=>some (fo,args.toList)
 |_=>none
def Db(o:Op)(V:Operand->ES)(s:Hs):Option (ES×Hs) :=
 match pO o with
 |some (fo,args)=>xk (args.map V) fun args=>yw Yz9 call yld (V fo) args s
 |none=>bA s.nx fun g=>match eOp Yz9.Z Yz9.B o V s.h.get g with
  |some (r,ws)=>bA (g+1) fun n=>(jA s.h ws).force fun h=>some (r,⟨h,n,ws.map Prod.fst++s.wl⟩)
  |none=>none
def m9(tm:PT ES)(dst:Option Nat)(r:ES):PT ES :=
 match dst with
 |some d=>tm.set d r
 |none=>tm
theorem IK(tm:PT ES)(dst:Option Nat)(r:ES):(m9 tm dst r).sl=cI tm.sl dst r:=by
 cases dst with
 |none=>rfl
 |some d=>
  funext t;show((tm.set d r).get t).getD .und=aD tm.sl d r t;rw[mK];by_cases h:t=d
  . subst h;rw[ar rfl,aT];rfl
  . rw[al h,aG _ _ _ h];rfl
def qg(all:Array Oper):List Oper->Sg->Option Sg
 | [],s=>some s
 |o::os,s=>match iQ all s.tm.sl o with
  |some true=>match Db Yz9 call yld o.op (aj s.tm.sl) s.s with
   |some (r,hs)=>kE r fun r=>(m9 s.tm o.dst r).force fun tm=>qg all os ⟨tm,hs⟩
   |none=>none
  |some false=>(m9 s.tm o.dst .und).force fun tm=>qg all os ⟨tm,s.s⟩
  |none=>none
structure Le where
 only:Bool
 ids:List Nat
 wr:Wr
 deriving Inhabited
def Le.vis(l:Le)(g:Nat):Bool:=bif l.only then bL g l.ids else !bL g l.ids
def VJ(l:Le)(h:Hp):Hp:=fun g=>bif l.vis g then h g else some .hid
def KM:Op->Bool
 | .alloc _ | .box _ _ | .buildSlice _ _ _ | .makeSlice _ _ _ | .makeMap _ _=>true
 | .call { callee:=.builtin .append,args:=_,argTypes:=_ }=>true
 |_=>false
def uW(tab:List Nat)(k:Nat):List Le->Nat->List Nat
 | [],_=>[]
 |l::ls,j=>match l.wr with
  | []=>uW tab k ls (j-1)
  |ws=>bif dt tab k (j-1) then uW tab k ls (j-1) else ws.map Prod.fst++uW tab k ls (j-1)
def ux(tab:List Nat)(nx0 k:Nat):List Oper->Nat->List Nat
 | [],_=>[]
 |o::os,j=>bif KM o.op then(bif dt tab k j then ux tab nx0 k os (j+1) else(nx0+j)::ux tab nx0 k os (j+1)) else ux tab nx0 k os (j+1)
def sj(h:PT EO):List Nat->PT EO
 | []=>h
 |g::gs=>sj (h.set g .hid) gs
def gR(h:PT EO):List Nat->Wr
 | []=>[]
 |g::gs=>match h.get g with
  |some o=>(g,o)::gR h gs
  |none=>gR h gs
def jo(l:List Nat)(tm:Nat->ES)(t:Nat):ES:=bif bL t l then tm t else .unk
def uQ(l:List Nat):Wr->Bool
 | []=>true
 |p::ws=>bL p.1 l&&uQ l ws
def LW(o:Op)(V:Operand->ES):List Nat:=match o with
 | .move _ | .assign _=>[]
 |o=>o.operands.toList.flatMap fun x=>bT (V x)
def CS(tab:List Nat)(nx0 k:Nat)(log:List Le)(os:List Oper)(o:Op)(V:Operand->ES)(s:Hs):Option (ES×Hs×Le) :=
 match pO o with
 |some (fo,args)=>match uW tab k log k++ux tab nx0 k os (k+1) with
  |N=>match yw Yz9 call yld (V fo) (args.map V) ⟨sj s.h N,s.nx,[]⟩ with
   |some (r,s')=>match gR s'.h s'.wl with
    |ws=>bif ws.all (fun p=>!bL p.1 N) then some (r,⟨match N with
     | []=>s'.h
     |_=>jA s.h ws,s'.nx,s'.wl++s.wl⟩,⟨false,N,ws⟩) else none
   |none=>none
 |none=>bA (nx0+k) fun g=>match g::LW o V with
  |l=>match eOp Yz9.Z Yz9.B o V (VJ ⟨true,l,[]⟩ s.h.get) g with
   |some (r,ws)=>bif uQ l ws then(jA s.h ws).force fun h=>some (r,⟨h,s.nx,ws.map Prod.fst++s.wl⟩,⟨true,l,ws⟩) else none
   |none=>none
def pQ(all:Array Oper)(tab:List Nat)(nx0:Nat):List Oper->Nat->List Le->Sg->Option (Sg×List Le)
 | [],_,log,s=>some (s,log)
 |o::os,k,log,s=>match jo (fq all o) s.tm.sl with
  |m=>match iQ all m o with
   |some true=>match CS Yz9 call yld tab nx0 k log os o.op (aj m) s.s with
    |some (r,hs,l)=>kE r fun r=>(m9 s.tm o.dst r).force fun tm=>pQ all tab nx0 os (k+1) (l::log) ⟨tm,hs⟩
    |none=>none
   |some false=>(m9 s.tm o.dst .und).force fun tm=>pQ all tab nx0 os (k+1) (⟨true,[],[]⟩::log) ⟨tm,s.s⟩
   |none=>none
def wU(tab:List Nat)(i:Nat)(ws:Wr):List Le->Nat->Bool
 | [],_=>true
 |l::ls,j=>(dt tab i j||ws.all fun p=>!l.vis p.1)&&wU tab i ws ls (j+1)
def uL(tab:List Nat)(all:List Le):List Le->Nat->Bool
 | [],_=>true
 |l::ls,i=>(match l.wr with
  | []=>true
  |ws=>wU tab i ws all 0)&&uL tab all ls (i+1)
def Da(nt:Nat)(all:Array Oper)(draw:Bool)(s:Sg):Option Sg :=
 bif cn nt all.toList then(match draw with
  |false=>qg Yz9 call yld all all.toList s
  |true=>bif n7 all (jZ all.toList) then(match pQ Yz9 call yld all (jZ all.toList) s.s.nx all.toList 0 [] ⟨s.tm,⟨s.s.h,s.s.nx+all.size,s.s.wl⟩⟩ with
   |some (s',log)=>match log.reverse with
    |log=>bif uL (jZ all.toList) log log 0 then some s' else none
   |none=>none) else none) else none
end
def gC(T:TypeId->Option TY)(Z:QS)(tm:Nat->ES)(h:Hp):List ResultVar->Option (List EW)
 | []=>some []
 | .tmp t::rs=>match tm t,gC T Z tm h rs with
  | .w x,some xs=>some (x::xs)
  |_,_=>none
 | .cell a t::rs=>match jq T Z h t (tm a),gC T Z tm h rs with
  |some (.w x,[]),some xs=>some (x::xs)
  |_,_=>none
def ju:List EW->ES
 | [x]=>.w x
 |xs=>.tup xs
def qx:List ES->Nat->PT ES->PT ES
 | [],_,t=>t
 |x::xs,i,t=>qx xs (i+1) (t.set i x)
def pX(nt:Nat):PT ES->List Nat->List ES->Option (PT ES)
 |t,[],[]=>some t
 |t,p::ps,x::xs=>bif Nat.blt p nt then pX nt (t.set p x) ps xs else none
 |_,_,_=>none
section
variable (Yz9:EE)(ev:Bool->Nat->Code->Sg->Option (Exit × Sg))
def sq(f:FuncId)(args:List ES)(s:Hs):Option (ES×Hs) :=
 match Yz9.F f with
 |some q=>bif Nat.ble args.length q.nt then(match ev false q.nt q.body ⟨qx args 0 .nil,s⟩ with
  |some (.normal,s')=>match gC Yz9.B.T Yz9.Z s'.tm.sl s'.s.h.get q.rs with
   |some xs=>some (ju xs,s'.s)
   |none=>none
  |some (.ret,s')=>match gC Yz9.B.T Yz9.Z s'.tm.sl s'.s.h.get q.rs with
   |some xs=>some (ju xs,s'.s)
   |none=>none
  |_=>none) else none
 |none=>none
def Cn(g:Nat)(args:List ES)(s:Hs):Option Hs :=
 match s.h.get g with
 |some (.loop false nt tm ps assign body)=>match pX nt tm ps args with
  |some tm'=>match ev true nt assign ⟨tm',s⟩ with
   |some (.normal,s1)=>match s1.s.h.get g with
    |some (.loop false nt1 tm1 ps1 as1 bo1)=>match ev true nt body ⟨s1.tm,s1.s.put g (.loop true nt1 tm1 ps1 as1 bo1)⟩ with
     |some (.normal,s2)=>match s2.s.h.get g with
      |some (.loop true nt2 tm2 ps2 as2 bo2)=>some (s2.s.put g (.loop false nt2 tm2 ps2 as2 bo2))
      |_=>none
     |_=>none
    |_=>none
   |_=>none
  |none=>none
 |_=>none
def Cu(nt:Nat)(fo:ES)(ps:List Nat)(assign body:Code)(s:Sg):Option Sg :=
 match s.s.h.get s.s.nx with
 |none=>bA s.s.nx fun gl=>bA (gl+1) fun n=>match(⟨s.s.h.set gl (.loop false nt s.tm ps assign body),n,gl::s.s.wl⟩:Hs) with
  |hs=>match(match fo with
   | .w (.one (.clo f gs))=>sq Yz9 ev f (.w (.one (.yld gl))::jY gs) hs
   | .w (.one (.iv (.fn f)))=>sq Yz9 ev f [.w (.one (.yld gl))] hs
   |_=>none) with
   |some (_,hs')=>match hs'.h.get gl with
    |some (.loop false _ _ _ _ _)=>some ⟨s.tm,hs'.put gl .hid⟩
    |_=>none
   |none=>none
 |some _=>none
def C4(rd:Bool)(nt:Nat)(c:Code)(s:Sg):Option (Exit×Sg) :=
 match c with
 | .skip=>some (.normal,s)
 | .label _=>some (.normal,s)
 | .ret=>some (.ret,s)
 | .exit i=>some (.exit i,s)
 | .seq a b=>match ev rd nt a s with
  |some (.normal,s')=>ev rd nt b s'
  |r=>r
 | .cond c a b=>match aj s.tm.sl c with
  | .w (.one (.iv (.bool true)))=>ev rd nt a s
  | .w (.one (.iv (.bool false)))=>ev rd nt b s
  |_=>none
 | .block id b=>match ev rd nt b s with
  |some (.exit i,s')=>bif Nat.beq i id then some (.normal,s') else some (.exit i,s')
  |r=>r
 | .loop b=>match ev rd nt b s with
  |some (.normal,s')=>ev rd nt (.loop b) s'
  |r=>r
 | .region _ ops draw=>match Da Yz9 (sq Yz9 ev) (Cn ev) nt ops draw s with
  |some s'=>some (.normal,s')
  |none=>none
 | .rangeFunc g ps assign body=>match rd with
  |false=>match Cu Yz9 ev nt (aj s.tm.sl g) ps.toList assign body s with
   |some s'=>some (.normal,s')
   |none=>none
  |true=>none
 |_=>none
end
noncomputable def y6(Yz9:EE)(n:Nat):Bool->Nat->Code->Sg->Option (Exit×Sg) :=
 Nat.rec (fun _ _ _ _=>none) (fun _ ih=>C4 Yz9 ih) n
theorem rt{g:Nat}:∀{ws:Wr} {h:Hp},(∀p∈ws,p.1≠g)->a7 h ws g=h g
 | [],_,_=>rfl
 | (g',o)::l,h,hn=>by
   rw[a7,rt fun p hp=>hn p (by simp[hp])];exact aG _ _ _ (fun e=>hn (g',o) (by simp) e.symm)
theorem Ar{g:Nat}:∀{ws:Wr} {h h':Hp},h g=h' g->a7 h ws g=a7 h' ws g
 | [],_,_,e=>e
 | (g',o)::l,h,h',e=>by
   rw[a7,a7];refine Ar ?_;by_cases e':g=g'
   . subst e';rw[aT,aT]
   . rw[aG _ _ _ e',aG _ _ _ e',e]
theorem Il{g:Nat}{x:Option EO}:∀{ws:Wr} {h:Hp},(∀p∈ws,p.1=g->some p.2=x)->((∃p∈ws,p.1=g)\/h g=x)->a7 h ws g=x
 | [],h,_,h2=>by
  rcases h2 with⟨p,hp,_⟩|h2
  . cases hp
  . exact h2
 | (g',o)::l,h,h1,h2=>by
   rw[a7];refine Il (fun p hp=>h1 p (by simp[hp])) ?_;by_cases e:g'=g
   . subst e;right;rw[aT];exact h1 (g',o) (by simp) rfl
   . rcases h2 with⟨p,hp,hpg⟩|h2
     . rcases List.mem_cons.1 hp with rfl|hp
       . exact absurd hpg e
       . exact .inl ⟨p,hp,hpg⟩
     . right;rw[aG _ _ _ (kr e)];exact h2
theorem OR.own_mono{Z:QS}{own own':Nat->Prop}{w:World}{H:ah}{U:Bm}{g:Nat}{o:EO}(hs:∀u k,U g u=some k->own k.1->own' k.1)(h:OR Z own w H U g o):OR Z own' w H U g o:=by
 cases o with
 |mem e cs fz vs cnt=>exact⟨h.1,fun u p hup=>by
  obtain⟨h1,k,arr,h2,h3,h4⟩:=h.2 u p hup;exact⟨h1,k,arr,h2,hs u k h2 h3,h4⟩⟩
 |map es ck=>obtain⟨k,ents,h1,h2,h3⟩:=h;exact⟨k,ents,h1,hs 0 k h1 h2,h3⟩
 |iter gm since seen last cur=>obtain⟨k,km,sn,h1,h2,h3,h4⟩:=h;exact⟨k,km,sn,h1,h2,hs 0 k h1 h3,h4⟩
 |loop busy nt tm ps assign body=>obtain⟨k,L,h1,h2,h3⟩:=h;exact⟨k,L,h1,hs 0 k h1 h2,h3⟩
 |hid=>trivial
def cO(vis:Nat->Bool)(h:Hp):Hp:=fun g=>bif vis g then h g else some .hid
def sE(E:EEnv)(vis:Nat->Bool)(h:Hp)(H:ah)(U:Bm)(w:World):EEnv where
 own k:=E.own k/\∀g u s,vis g=false->h g≠some .hid->U g u=some s->s.1≠k
 w0:=w
 H0:=H
 hid g:=vis g=false\/E.hid g
 β0:=U
section
variable {Z:QS}{E:EEnv}{H H':ah}{U U':Bm}{h:Hp}{w w':World}{vis:Nat->Bool}
theorem pi{g:Nat}(hv:vis g=true):cO vis h g=h g:=by unfold cO;rw[hv];rfl
theorem AL{g:Nat}(hv:vis g=false):cO vis h g=some .hid:=by unfold cO;rw[hv];rfl
theorem ESim.hide(h0:ESim Z E H U h w)(vis:Nat->Bool):ESim Z (sE E vis h H U w) H U (cO vis h) w where
 has:=h0.has
 below:=BelowO.refl _ _
 lo k hk:=⟨h0.lo k hk,fun g u s _ _ hs e=>by have:=(h0.dom g u s hs).1;omega⟩
 ext:=HExtO.refl _ _
 obj g o hg:=by
  cases hv:vis g with
  |true=>
   rw[pi hv] at hg;exact(h0.obj g o hg).own_mono fun u k hk ho=>⟨ho,fun g' u' s hv' _ hs e=>by
    have:=h0.inj _ _ _ _ _ _ hs hk e;subst this;rw[hv] at hv';cases hv'⟩
  |false=>
   rw[AL hv] at hg;cases hg;trivial
 dom g u k hk:=by
  obtain⟨a,o,b,c⟩:=h0.dom g u k hk;cases hv:vis g with
  |true=>
   refine⟨a,o,by rw[pi hv];exact b,c.imp id fun c=>⟨⟨c.1,fun g' u' s hv' _ hs e=>?_⟩,c.2⟩⟩;have:=h0.inj _ _ _ _ _ _ hs hk e;subst this;rw[hv] at hv';cases hv'
  |false=>exact⟨a,.hid,AL hv,.inl rfl⟩
 inj:=h0.inj
 hidb g hg:=by
  refine⟨?_,fun _=>rfl⟩;cases hv:vis g with
  |false=>exact AL hv
  |true=>
   rcases hg with hg|hg
   . rw[hv] at hg;cases hg
   . rw[pi hv];exact(h0.hidb g hg).1
theorem ESim.unhide{ws:Wr}(h0:ESim Z E H U h w)(hle:HLe H H')(hb:BLe U U')(h1:ESim Z (sE E vis h H U w) H' U' (a7 (cO vis h) ws) w')(hw:∀p∈ws,vis p.1=true):ESim Z E H' U' (a7 h ws) w':=by
 have ev:∀g,vis g=true->a7 (cO vis h) ws g=a7 h ws g:=fun g hv=>Ar (pi hv);have eh:∀g,vis g=false->a7 h ws g=h g:=fun g hv=>rt fun p hp e=>by
  have:=hw p hp;rw[e,hv] at this;cases this
 have βh:∀g,vis g=false->∀u,U' g u=U g u:=fun g hv=>(h1.hidb g (.inl hv)).2;refine⟨h1.has,h0.below.trans (h1.below.mono fun k hk=>hk.1),fun k hk=>(h1.lo k hk).1,h0.ext.step (own':=(sE E vis h H U w).own) ⟨hle,fun b arr hb'=>h1.ext.2 b arr hb'⟩ (fun k hk=>hk.1),fun g o hg=>?_,fun g u k hk=>?_,h1.inj,fun g hg=>?_⟩
 . cases hv:vis g with
   |true=>exact(h1.obj g o (by rw[ev g hv];exact hg)).own_mono fun _ _ _ ho=>ho.1
   |false=>
    rw[eh g hv] at hg;by_cases ho:o=.hid
    . subst ho;trivial
    . have hno:∀u k,U g u=some k->¬(sE E vis h H U w).own k.1:=fun u k hk hown=>hown.2 g u k hv (by rw[hg];simpa using ho) hk rfl;refine(h0.obj g o hg).keep (fun u k hk=>h1.below.block _ (hno u k hk)) (fun u k hk hn=>?_) hle hb (βh g hv);cases hx:H' k.1 with
      |none=>rfl
      |some arr=>
       rcases h1.ext.2 _ _ hx with h2|h2
       . have h2:H k.1=some arr:=h2;rw[hn] at h2;cases h2
       . exact absurd h2 (hno u k hk)
 . cases hv:vis g with
   |true=>
    obtain⟨a,o,b,c⟩:=h1.dom g u k hk;exact⟨a,o,by rw[<-ev g hv];exact b,c.imp id fun c=>⟨c.1.1,c.2⟩⟩
   |false=>
    rw[βh g hv] at hk;obtain⟨a,o,b,c⟩:=h0.dom g u k hk;exact⟨gK a h1.below.size,o,by rw[eh g hv];exact b,c⟩
 . obtain⟨a,b⟩:=h1.hidb g (.inr hg);obtain⟨c,d⟩:=h0.hidb g hg;refine⟨?_,fun u=>(b u).trans (d u)⟩;cases hv:vis g with
   |true=>rw[<-ev g hv];exact a
   |false=>rw[eh g hv];exact c
end
section
variable (X:EX)
def OneOk(o:Oper)(tm:Nat->ES)(h:Hp)(r:ES)(h':Hp):Prop :=
 ∀(ro:Option Nat) (E:EEnv),(∀w',BelowO E.own E.w0 w'->X.I w')->∀(nt:Nat) (H:ah) (U:Bm) (a:Act) (w:World) (K:Act->World->Prop) (Q:Exit->Act->World->Prop),ESt X E nt H U tm h a w->
  (∀v H' U' w',HLe H H'->BLe U U'->ESim X.Z E H' U' h' w'->MarkSame w w'->SRe X.Z H' U' v r->K (a.put o.dst v) w')->o.wpIn (FW ro) 0 X.P a w K Q
theorem tZ{X:EX}{o:Oper}{tm:Nat->ES}{h:Hp}{g:Nat}{r:ES}{ws:Wr}(he:eOp X.Z X.B o.op (aj tm) h g=some (r,ws)):OneOk X o tm h r (a7 h ws):=by
 intro ro E hI nt H U a w K Q hS hK;obtain⟨v,w',U',hr,hb,hs,hm,hv⟩:=Va hS he;refine sf (fun c hc=>?_) ?_
 . rw[hc] at he;cases he
 . unfold Oper.wp;have hk:=hK v H U' w' (HLe.refl _) hb hs hm hv;rcases hr with hr|⟨rfl,hr⟩
   . rw[hr];exact hk
   . rw[hr];exact hk
def SREL(Z:QS)(H:ah)(U:Bm):List Value->List ES->Prop
 | [],[]=>True
 |v::vs,x::xs=>SRe Z H U v x/\SREL Z H U vs xs
 |_,_=>False
theorem SREL.length{Z:QS}{H:ah}{U:Bm}:∀{vs:List Value} {xs:List ES},SREL Z H U vs xs->vs.length=xs.length
 | [],[],_=>rfl
 |_::_,_::_,⟨_,h2⟩=>by simp[SREL.length h2]
 | [],_::_,h=>h.elim
 |_::_,[],h=>h.elim
theorem SREL.get{Z:QS}{H:ah}{U:Bm}:∀{vs:List Value} {xs:List ES},SREL Z H U vs xs->∀(i:Nat) (x:ES),xs[i]?=some x->∃v,vs[i]?=some v/\SRe Z H U v x
 | [],[],_,i,x,h=>by simp at h
 |v::_,_::_,⟨h1,_⟩,0,x,h=>by simp at h;subst h;exact⟨v,rfl,h1⟩
 |_::_,_::_,⟨_,h2⟩,i+1,x,h=>by simp at h;simpa using SREL.get h2 i x h
 | [],_::_,h,_,_,_=>h.elim
 |_::_,[],h,_,_,_=>h.elim
theorem SREL.append{Z:QS}{H:ah}{U:Bm}:∀{vs:List Value} {xs:List ES} {us:List Value} {ys:List ES},SREL Z H U vs xs->SREL Z H U us ys->SREL Z H U (vs++us) (xs++ys)
 | [],[],_,_,_,h=>by simpa using h
 |_::_,_::_,_,_,⟨h1,h2⟩,h=>by simpa using(show SREL Z H U (_::_) (_::_) from⟨h1,SREL.append h2 h⟩)
 | [],_::_,_,_,h,_=>h.elim
 |_::_,[],_,_,h,_=>h.elim
theorem SREL.map{Z:QS}{H:ah}{U:Bm}{V:Operand->Value}{f:Operand->ES}(hρ:∀x,SRe Z H U (V x) (f x)):∀l:List Operand,SREL Z H U (l.map V) (l.map f)
 | []=>trivial
 |x::l=>⟨hρ x,SREL.map hρ l⟩
theorem SREL.mono{Z:QS}{H H':ah}{U U':Bm}(hh:HLe H H')(hb:BLe U U'):∀{vs:List Value} {xs:List ES},SREL Z H U vs xs->SREL Z H' U' vs xs
 | [],[],_=>trivial
 |_::_,_::_,⟨h1,h2⟩=>⟨h1.mono hh hb,SREL.mono hh hb h2⟩
 | [],_::_,h=>h.elim
 |_::_,[],h=>h.elim
def K3(f:FuncId):Prop:=∃fn,X.P.funcs[f]?=some fn/\(fn.name == "runtime.NumGoroutine")=false/\fn.body.isNone=false
def Cl(E:EEnv)(H:ah)(U:Bm)(w:World)(h':Hp)(r:ES)(e:Ending)(w':World):Prop :=
 ∃v H' U',e=.returned v/\HLe H H'/\BLe U U'/\ESim X.Z E H' U' h' w'/\MarkSame w w'/\SRe X.Z H' U' v r
def CallOk(f:FuncId)(args:List ES)(h:Hp)(r:ES)(h':Hp):Prop :=
 K3 X f/\∀(E:EEnv),(∀w',BelowO E.own E.w0 w'->X.I w')->∀(H:ah) (U:Bm) (w:World) (vs:List Value),ESim X.Z E H U h w->SREL X.Z H U vs args->
  Calls X.P f vs.toArray w (Cl X E H U w h' r)
def K2(g:Nat)(args:List ES)(h h':Hp):Prop :=
 ∀(ro:Option Nat) (E:EEnv),(∀w',BelowO E.own E.w0 w'->X.I w')->∀(H:ah) (U:Bm) (w:World) (vs:List Value) (k:Nat×Nat),ESim X.Z E H U h w->SREL X.Z H U vs args->U g 0=some k->
  YieldAt (FW ro) 0 X.P k.1 vs.toArray w (Cl X E H U w h' (ac (.bool true)))
theorem Ae{o:Op}{fo:Operand}{args:List Operand}(h:pO o=some (fo,args)):∃ax ats,o=.call { callee:=.value fo,args:=ax,argTypes:=ats }/\ax.toList=args:=by
 unfold pO at h;split at h
 . simp only[ae,aA] at h;obtain⟨rfl,rfl⟩:=h;exact⟨_,_,rfl,rfl⟩
 . cases h
variable {X}
theorem OneOk.call{o:Oper}{tm:Nat->ES}{h h':Hp}{r:ES}{fo:Operand}{ax:Array Operand}{ats:Array TypeId}{f:FuncId}{gs:List Nat}(ho:o.op=.call { callee:=.value fo,args:=ax,argTypes:=ats })
 (hf:(aj tm fo=.w (.one (.iv (.fn f)))/\gs=[])\/aj tm fo=.w (.one (.clo f gs))) (hc:CallOk X f (ax.toList.map (aj tm)++jY gs) h r h'):OneOk X o tm h r h':=by
 intro ro E hI nt H U a w K Q hS hK;obtain⟨⟨fn,hf1,hf2,hf3⟩,hc⟩:=hc;have hv:=bn hS fo;have hcap:∃cs:List Value,a.eval fo=.func (.func f) #[] cs.toArray/\SREL X.Z H U cs (jY gs):=by
  rcases hf with⟨hf,rfl⟩|hf
  . rw[hf] at hv;refine⟨[],rT hv.2,ab⟩
  . rw[hf] at hv;obtain⟨h1,h2⟩:=hv;refine⟨_,h2,?_⟩;clear h2 hf hc;induction gs with
    |nil=>trivial
    |cons g gs ih=>
     obtain⟨k,hk⟩:=h1 g (by simp);refine⟨⟨k,hk,?_⟩,ih fun g hg=>h1 g (by simp[hg])⟩;unfold gZ;rw[hk]
 obtain⟨cs,e1,hcs⟩:=hcap;have hcall:=hc E hI H U w (ax.toList.map a.eval++cs) hS.sim ((SREL.map (bn hS) _).append hcs);have hrun:(execOp a.eval o).run X.P w=.ok (.enter f (ax.toList.map a.eval++cs).toArray) w:=by
  simp only[execOp,ho,resolve,e1,Deferred.ofValue,av,ay,au,invoke,callFunc,tf,hf1,hf2,hf3,cM,bE];congr 2;apply dZ;simp
 refine sf (fun c hc=>by rw[ho] at hc;cases hc) ?_;unfold Oper.wp;rw[hrun];refine hcall.mono ?_;rintro e w' ⟨v,H',U',rfl,h1,h2,h3,h4,h5⟩;exact hK v H' U' w' h1 h2 h3 h4 h5
theorem OneOk.yld{o:Oper}{tm:Nat->ES}{h h':Hp}{fo:Operand}{ax:Array Operand}{ats:Array TypeId}{g:Nat}(ho:o.op=.call { callee:=.value fo,args:=ax,argTypes:=ats })
 (hf:aj tm fo=.w (.one (.yld g))) (hc:K2 X g (ax.toList.map (aj tm)) h h'):OneOk X o tm h (ac (.bool true)) h':=by
 intro ro E hI nt H U a w K Q hS hK;have hv:=bn hS fo;rw[hf] at hv;obtain⟨k,hk,e1⟩:=hv;obtain⟨fn,tmps,assign,body,hyr,hR⟩:=hc ro E hI H U w (ax.toList.map a.eval) k hS.sim (SREL.map (bn hS) _) hk;have hrun:(execOp a.eval o).run X.P w=.ok (.round k.1 fn tmps assign body) w:=by
  have ea:(ax.toList.map a.eval).toArray=ax.map a.eval:=by apply dZ;simp
  rw[ea] at hyr;simp only[execOp,ho,resolve,e1,Deferred.ofValue,av,ay,au,invoke];simpa using hyr
 refine⟨fun _ _=>trivial,?_⟩;rw[show(FW ro).round=ro from rfl,Oper.semAt_eq ro a.eval o (fun c hc=>by rw[ho] at hc;cases hc),hrun];refine⟨fun e=>(by cases e),hR.mono ?_⟩;rintro e w' ⟨v,H',U',rfl,h1,h2,h3,h4,h5⟩;exact hK v H' U' w' h1 h2 h3 h4 h5
def LogOk(s s':Hs):Prop:=(∀g,g∉s'.wl->s'.h.get g=s.h.get g)/\(∀g∈s.wl,g∈s'.wl)/\∀g,s'.h.get g=none->s.h.get g=none
theorem LogOk.refl(s:Hs):LogOk s s:=⟨fun _ _=>rfl,fun _ h=>h,fun _ h=>h⟩
theorem LogOk.trans{a b c:Hs}(h:LogOk a b)(k:LogOk b c):LogOk a c :=
 ⟨fun g hg=>(k.1 g hg).trans (h.1 g fun hb=>hg (k.2.1 g hb)),fun g hg=>k.2.1 g (h.2.1 g hg),fun g hg=>h.2.2 g (k.2.2 g hg)⟩
theorem LogOk.wr(s:Hs)(ws:Wr)(n:Nat):LogOk s ⟨jA s.h ws,n,ws.map Prod.fst++s.wl⟩:=by
 refine⟨fun g hg=>?_,fun g hg=>MF _ hg,fun g hg=>?_⟩
 . show(jA s.h ws).get g=_;rw[pC];exact rt fun p hp e=>hg (MG _ (List.mem_map.2 ⟨p,hp,e⟩))
 . have hg:(jA s.h ws).get g=none:=hg;rw[pC] at hg;cases hx:s.h.get g with
   |none=>rfl
   |some o0=>
    exfalso;have key:∀(ws:Wr) (h:Hp),h g≠none->a7 h ws g≠none:=by
     intro ws;induction ws with
     |nil=>intro h hh;exact hh
     |cons p l ih=>
      intro h hh;refine ih _ ?_;by_cases e:g=p.1
      . rw[e,aT];simp
      . rw[aG _ _ _ e];exact hh
    exact key ws s.h.get (by rw[hx];simp) hg
theorem LogOk.put(s:Hs)(g:Nat)(o:EO):LogOk s (s.put g o):=LogOk.wr s [(g,o)] s.nx
theorem wq(s:Hs)(g:Nat)(o:EO):(s.put g o).h.get=aD s.h.get g (some o):=by
 have:=pC [(g,o)] s.h;exact this
end
section
variable {X:EX}
theorem uc{E:EEnv}{nt:Nat}{H:ah}{U:Bm}{tm:Nat->ES}{h:Hp}{a:Act}{w:World}{all:Array Oper}{o:Oper}(hS:ESt X E nt H U tm h a w){c:Bool}(hy:iQ all tm o=some c):Region.wanted o (yielded all a.tmps)=c:=by
 unfold iQ at hy;unfold Region.wanted;split at hy
 . rename_i hg;simp only[hg];simpa using hy
 . rename_i j want hg;simp only[hg];split at hy
   . rename_i hd;simp only[yielded,hd,Option.bind_none];simpa using hy
   . rename_i t hd;simp only[yielded,hd,Me];have hs:=hS.slot t;split at hy
     . rename_i b ht;rw[ht] at hs;have e:=SRe.bool hs;cases hx:a.tmps[t]? with
       |none=>simp[hx,undef] at e
       |some u=>simp[hx] at e;subst e;simpa using hy
     . rename_i ht;rw[ht] at hs;change a.tmps.getD t undef=undef at hs;cases hx:a.tmps[t]? with
       |none=>simpa using hy
       |some u=>simp[hx] at hs;subst hs;simpa[undef] using hy
     . cases hy
theorem tI(a:Act)(d:Option Tmp)(v:Value):(a.put d v).defers=a.defers:=by
 cases d<;>rfl
def mo(E:EEnv)(w0:World)(k:Nat):Prop:=E.own k/\w0.heap[k]?≠some (.deferred (some []))
def vl(X:EX)(E:EEnv)(w0:World)(nt:Nat)(H:ah)(U:Bm)(s:Sg)(a:Act)(w:World):Prop :=
 ESt X E nt H U s.tm.sl s.s.h.get a w/\MarksOk (mo E w0) a.defers w/\MarkSame w0 w
def EPost(X:EX)(E:EEnv)(w0:World)(nt:Nat)(H:ah)(U:Bm)(w:World)(s':Sg)(a':Act)(w':World):Prop :=
 ∃H' U',HLe H H'/\BLe U U'/\vl X E w0 nt H' U' s' a' w'/\MarkSame w w'
theorem MarkSame.trans{w w' w'':World}(h:MarkSame w w')(k:MarkSame w' w''):MarkSame w w'':=fun D hD=>by
 have:=h D hD;rw[<-this];exact k D (by rw[this];exact hD)
theorem EPost.refl{E:EEnv}{w0:World}{nt:Nat}{H:ah}{U:Bm}{s:Sg}{a:Act}{w:World}(h:vl X E w0 nt H U s a w):EPost X E w0 nt H U w s a w :=
 ⟨H,U,HLe.refl _,BLe.refl _,h,MarkSame.refl _⟩
theorem EPost.trans{E:EEnv}{wm:World}{nt:Nat}{H H':ah}{U U':Bm}{s':Sg}{a':Act}{w w0 w':World}(hh:HLe H H')(hb:BLe U U')(hm:MarkSame w w0)(k:EPost X E wm nt H' U' w0 s' a' w'):EPost X E wm nt H U w s' a' w':=by
 obtain⟨H2,β2,k1,k2,k3,k4⟩:=k;exact⟨H2,β2,hh.trans k1,hb.trans k2,k3,hm.trans k4⟩
def EX.ee(X:EX)(F:FuncId->Option FnE)(orc:FuncId->List ES->Hs->Option (ES×Hs)):EE:=⟨X.Z,X.B,F,orc⟩
structure FnOk(X:EX)(f:FuncId)(q:FnE)(fn:Func):Prop where
 has:X.P.funcs[f]?=some fn
 body:fn.body=some q.body
 nt:fn.ntmps=q.nt
 rs:fn.results.toList=q.rs
 name:(fn.name == "runtime.NumGoroutine")=false
def nY(X:EX)(call:FuncId->List ES->Hs->Option (ES×Hs)):Prop:=∀f args s r s',call f args s=some (r,s')->LogOk s s'/\CallOk X f args s.h.get r s'.h.get
def iH(X:EX)(orc:FuncId->List ES->Hs->Option (ES×Hs)):Prop:=nY X orc
def pT(X:EX)(yld:Nat->List ES->Hs->Option Hs):Prop:=∀g args s s',yld g args s=some s'->LogOk s s'/\K2 X g args s.h.get s'.h.get
variable {F:FuncId->Option FnE}{orc:FuncId->List ES->Hs->Option (ES × Hs)}{call:FuncId->List ES->Hs->Option (ES × Hs)}{yld:Nat->List ES->Hs->Option Hs}
theorem H5(horc:iH X orc)(hcall:nY X call)(hyld:pT X yld){o:Oper}{tm:Nat->ES}{fo:Operand}{ax:Array Operand}{ats:Array TypeId}(ho:o.op=.call { callee:=.value fo,args:=ax,argTypes:=ats }){s s':Hs}{r:ES}
 (he:yw (X.ee F orc) call yld (aj tm fo) (ax.toList.map (aj tm)) s=some (r,s')):LogOk s s'/\OneOk X o tm s.h.get r s'.h.get:=by
 unfold yw at he;split at he
 . rename_i f hf;have ec:∀l:List ES,l++jY []=l:=fun l=>by simp[jY]
   split at he
   . rename_i x horc';simp only[ae] at he;subst he;obtain⟨h1,h2⟩:=horc _ _ _ _ _ horc';refine⟨h1,OneOk.call ho (.inl ⟨hf,rfl⟩) ?_⟩;rw[ec];exact h2
   . obtain⟨h1,h2⟩:=hcall _ _ _ _ _ he;refine⟨h1,OneOk.call ho (.inl ⟨hf,rfl⟩) ?_⟩;rw[ec];exact h2
 . rename_i f gs hf;split at he
   . rename_i x horc';simp only[ae] at he;subst he;obtain⟨h1,h2⟩:=horc _ _ _ _ _ horc';exact⟨h1,OneOk.call ho (.inr hf) h2⟩
   . obtain⟨h1,h2⟩:=hcall _ _ _ _ _ he;exact⟨h1,OneOk.call ho (.inr hf) h2⟩
 . rename_i g hf;split at he
   . rename_i s2 hs;simp only[ae,aA] at he;obtain⟨rfl,rfl⟩:=he;obtain⟨h1,h2⟩:=hyld _ _ _ _ hs;exact⟨h1,OneOk.yld ho hf h2⟩
   . cases he
 . cases he
theorem Q4(horc:iH X orc)(hcall:nY X call)(hyld:pT X yld){o:Oper}{tm:Nat->ES}{s s':Hs}{r:ES}
 (he:Db (X.ee F orc) call yld o.op (aj tm) s=some (r,s')):LogOk s s'/\OneOk X o tm s.h.get r s'.h.get:=by
 unfold Db at he;split at he
 . rename_i fo args hc;obtain⟨ax,ats,ho,rfl⟩:=Ae hc;rw[FS] at he;exact H5 horc hcall hyld ho he
 . rw[bc] at he;split at he
   . rename_i r0 ws hop;rw[bc,nK] at he;simp only[ae,aA] at he;obtain⟨rfl,rfl⟩:=he;refine⟨LogOk.wr _ _ _,?_⟩;show OneOk X o tm s.h.get r0 (jA s.h ws).get;rw[pC];exact tZ hop
   . cases he
theorem C3{ro:Option Nat}{E:EEnv}(hI:∀w',BelowO E.own E.w0 w'->X.I w'){nt:Nat}{H:ah}{U:Bm}{tm:Nat->ES}{h h':Hp}{a:Act}{w:World}{all:Array Oper}{o:Oper}{r:ES}(hd:∀d,o.dst=some d->d<nt)
 (hS:ESt X E nt H U tm h a w) {mo:Nat->Prop} (hM:MarksOk mo a.defers w) (hf:(iQ all tm o=some true/\OneOk X o tm h r h')\/(iQ all tm o=some false/\r=.und/\h'=h)) {K:Act->World->Prop} {Q:Exit->Act->World->Prop}
 (hK:∀H' U' a' w',HLe H H'->BLe U U'->ESt X E nt H' U' (cI tm o.dst r) h' a' w'->MarksOk mo a'.defers w'->MarkSame w w'->K a' w') :
 if Region.wanted o (yielded all a.tmps) then o.wpIn (FW ro) 0 X.P a w K Q else(∀f,o.about X.P w a.eval=some f->(FW ro).fn f)/\K (a.put o.dst undef) w:=by
 rcases hf with⟨hy,ho⟩|⟨hy,rfl,rfl⟩
 . rw[uc hS hy];simp only[bD];refine ho ro E hI nt H U a w K Q hS fun v H' U' w' h1 h2 h3 h4 h5=>?_;exact hK H' U' _ w' h1 h2 (hS.fin hd h1 h2 h3 h5) (by rw[tI];exact hM.keep h4) h4
 . rw[uc hS hy];simp only[cM,bE];exact⟨fun _ _=>trivial,hK H U _ w (HLe.refl _) (BLe.refl _) (hS.fin hd (HLe.refl _) (BLe.refl _) hS.sim rfl) (by rw[tI];exact hM) (MarkSame.refl _)⟩
theorem Q3(horc:iH X orc)(hcall:nY X call)(hyld:pT X yld){all:Array Oper}:∀{os:List Oper} {s s':Sg},qg (X.ee F orc) call yld all os s=some s'->
 LogOk s.s s'.s/\∀(ro:Option Nat) (E:EEnv),(∀w',BelowO E.own E.w0 w'->X.I w')->∀(w0:World) (nt:Nat) (Q:Exit->Act->World->Prop) (H:ah) (U:Bm) (a:Act) (w:World),cn nt os=true->vl X E w0 nt H U s a w->
  (∀a' w',EPost X E w0 nt H U w s' a' w'->Q .normal a' w')->wpListIn (FW ro) 0 X.P all Q os a w:=by
 intro os;induction os with
 |nil=>
  intro s s' he;simp only[qg,ae] at he;subst he;exact⟨LogOk.refl _,fun ro E hI w0 nt Q H U a w _ hS hQ=>hQ a w (EPost.refl hS)⟩
 |cons o os ih=>
  intro s s' he;unfold qg at he;have key:∃(r:ES) (hs:Hs),LogOk s.s hs/\((iQ all s.tm.sl o=some true/\OneOk X o s.tm.sl s.s.h.get r hs.h.get)\/(iQ all s.tm.sl o=some false/\r=.und/\hs.h.get=s.s.h.get))/\qg (X.ee F orc) call yld all os ⟨m9 s.tm o.dst r,hs⟩=some s':=by
   split at he
   . rename_i hy;split at he
     . rename_i r hs h1;rw[mI,nK] at he;obtain⟨l1,l2⟩:=Q4 horc hcall hyld h1;exact⟨r,hs,l1,.inl ⟨hy,l2⟩,he⟩
     . cases he
   . rename_i hy;rw[nK] at he;exact⟨.und,s.s,LogOk.refl _,.inr ⟨hy,rfl,rfl⟩,he⟩
   . cases he
  obtain⟨r,hs,l1,hf,he'⟩:=key;obtain⟨l2,hw⟩:=ih he';refine⟨l1.trans l2,fun ro E hI w0 nt Q H U a w hd hS hQ=>?_⟩;have hd':cn nt os=true:=by
   simp only[cn,ed,aC] at hd;exact hd.2
  unfold wpListIn;refine C3 hI (nJ hd (by simp)) hS.1 hS.2.1 hf fun H' U' a' w' h1 h2 h3 h4 h5=>?_;refine hw ro E hI w0 nt Q H' U' a' w' hd' ⟨?_,h4,hS.2.2.trans h5⟩ fun a2 w2 hp=>hQ a2 w2 (hp.trans h1 h2 h5);show ESt X E nt H' U' (m9 s.tm o.dst r).sl hs.h.get a' w';rw[IK];exact h3
end
end Go.Proofs.En
namespace Go.Proofs.En
open Go.RowKit Go.Proofs.Fl Go.Shelf Go.Sort
def uR(arr:Array Value)(k i:Nat):List Value:=(arr.toList.drop (i*k)).take k
theorem FM{α:Type}[Inhabited α]{enc:α->List Value}{k:Nat}{w:World}{blk m:Nat}{dk:Array α}{os:Array Obj}{j:Nat}(hj:j<w.heap.size) :
 (sortWorldK enc k w blk 0 m dk os).heap[j]?=if blk=j then(w.heap[j]?).map (onCells (putCells id 0 (flatK enc k dk))) else w.heap[j]?:=by
 unfold sortWorldK putRowK putRow;rw[heap_grow_old _ _ (by simpa[mapBlock] using hj)];simp[mapBlock,zM]
theorem Ai{α:Type}[Inhabited α]{enc:α->List Value}{k:Nat}{w:World}{blk m:Nat}{dk:Array α}{os:Array Obj}:w.heap.size<=(sortWorldK enc k w blk 0 m dk os).heap.size:=by
 unfold sortWorldK putRowK;rw[size_grow,size_putRow];exact zP _ _
theorem J6{α:Type}{R:α->α->Prop}(hR:∀a b,R a b->¬R b a):∀{l l':List α},l.Perm l'->l.Pairwise R->l'.Pairwise (fun a b=>¬R b a)->l.Nodup->(∀a∈l,∀b∈l,a≠b->R a b\/R b a)->l=l'
 | [],l',hp,_,_,_,_=>(List.nil_perm.1 hp).symm
 |a::l,l',hp,h1,h2,hn,ht=>by
  cases l' with
  |nil=>exact absurd hp.length_eq (by simp)
  |cons b l'=>
   have hab:a=b:=by
    apply fP;intro hne;have ha:a∈l':=by
     have:a∈b::l':=hp.mem_iff.1 (by simp);exact(List.mem_cons.1 this).resolve_left hne
    have hb:b∈l:=by
     have:b∈a::l:=hp.mem_iff.2 (by simp);exact(List.mem_cons.1 this).resolve_left (kr hne)
    exact(List.pairwise_cons.1 h2).1 a ha ((List.pairwise_cons.1 h1).1 b hb)
   subst hab;rw[J6 hR (hp.cons_inv) (List.pairwise_cons.1 h1).2 (List.pairwise_cons.1 h2).2 (List.nodup_cons.1 hn).2 fun x hx y hy=>ht x (by simp[hx]) y (by simp[hy])]
end Go.Proofs.En
namespace Go.Proofs.En
open Go.RowKit Go.Proofs.Fl
def gF{α:Type}(act:Nat->α->α)(S:Nat->Bool):List Nat->α->α
 | [],x=>x
 |i::l,x=>gF act S l (if S i=true then act i x else x)
section
variable {α:Type}{act:Nat->α->α}{S S':Nat->Bool}
theorem lE:∀{l:List Nat} {x:α},(∀i∈l,S i≠S' i->∀x,act i x=x)->gF act S l x=gF act S' l x
 | [],_,_=>rfl
 |i::l,x,h=>by
  rw[gF,gF];have e:(if S i=true then act i x else x)=(if S' i=true then act i x else x):=by
   by_cases hd:S i=S' i
   . rw[hd]
   . rw[h i (by simp) hd];simp
  rw[e];exact lE fun j hj=>h j (by simp[hj])
theorem pG:∀{l:List Nat} {x:α},(∀i∈l,S i=false)->gF act S l x=x
 | [],_,_=>rfl
 |i::l,x,h=>by
  rw[gF,h i (by simp)];simp only[cM,bE];exact pG fun j hj=>h j (by simp[hj])
theorem B1(A:α->α):∀{l:List Nat} {x:α},(∀j∈l,S j=true->∀b,act j (A b)=A (act j b))->gF act S l (A x)=A (gF act S l x)
 | [],_,_=>rfl
 |j::l,x,h=>by
  rw[gF,gF];by_cases hs:S j=true
  . simp only[hs,bD];rw[h j (by simp) hs];exact B1 A fun k hk=>h k (by simp[hk])
  . simp only[hs];exact B1 A fun k hk=>h k (by simp[hk])
theorem uw{i:Nat}(hS:∀j,S' j=(S j||Nat.beq j i))(hi:S i=false):∀{l:List Nat} {x:α},l.Pairwise (· < ·)->i∈l->
 (∀j∈l,i<j->S j=true->∀b,act j (act i b)=act i (act j b))->gF act S' l x=act i (gF act S l x)
 | [],_,_,h,_=>by simp at h
 |j::l,x,hp,hm,h=>by
  rw[gF,gF];have hp':=List.pairwise_cons.1 hp;by_cases hji:j=i
  . subst hji;have h1:S' j=true:=by rw[hS,bj];simp
    rw[h1,hi];simp only[bD,cM,bE];have e:gF act S' l (act j x)=gF act S l (act j x):=lE fun k hk hne=>by
     exfalso;have hkj:=hp'.1 k hk;have:Nat.beq k j=false:=by
      cases hb:Nat.beq k j
      . rfl
      . have:=aw hb;omega
     rw[hS,this] at hne;simp at hne
    rw[e];exact B1 (act j) fun k hk hs b=>h k (by simp[hk]) (hp'.1 k hk) hs b
  . have hm':i∈l:=by
     rcases List.mem_cons.1 hm with e|e
     . exact absurd e.symm hji
     . exact e
    have:S' j=S j:=by
     rw[hS];have:Nat.beq j i=false:=by
      cases hb:Nat.beq j i
      . rfl
      . exact absurd (aw hb) hji
     rw[this];simp
    rw[this];exact uw hS hi hp'.2 hm' fun k hk=>h k (by simp[hk])
end
theorem Gx:∀(N:List Nat) (h:PT EO),(sj h N).get=cO (fun g=>!bL g N) h.get
 | [],h=>by funext g;rfl
 |g0::N,h=>by
  rw[sj,Gx N];funext g;unfold cO;rw[mK];simp only[show ∀g,bL g (g0::N)=(bif Nat.beq g g0 then true else bL g N) from fun _=>rfl];cases hb:Nat.beq g g0 with
  |true=>
   have:=aw hb;subst this;cases bL g N<;>simp
  |false=>
   have:g≠g0:=fun e=>by subst e;rw[bj] at hb;cases hb
   rw[al this];rfl
theorem GQ{g:Nat}:∀{ws:Wr} {h:Hp},a7 h ws g=none->h g=none
 | [],_,h=>h
 |p::l,h,hn=>by
  have:=GQ (ws:=l) hn;by_cases e:g=p.1
  . rw[e,aT] at this;cases this
  . rwa[aG _ _ _ e] at this
theorem wz{h:PT EO}:∀{l:List Nat} {p:Nat×EO},p∈gR h l->p.1∈l/\h.get p.1=some p.2
 | [],p,hp=>by simp[gR] at hp
 |g::l,p,hp=>by
  unfold gR at hp;split at hp
  . rename_i o ho;rcases List.mem_cons.1 hp with rfl|hp
    . exact⟨by simp,ho⟩
    . have:=wz hp;exact⟨by simp[this.1],this.2⟩
  . have:=wz hp;exact⟨by simp[this.1],this.2⟩
theorem Gy{h:PT EO}{g:Nat}{o:EO}(ho:h.get g=some o):∀{l:List Nat},g∈l->(g,o)∈gR h l
 | [],hg=>by cases hg
 |g'::l,hg=>by
  unfold gR;rcases List.mem_cons.1 hg with rfl|hg
  . rw[ho];simp
  . have:=Gy ho hg;split
    . simp[this]
    . exact this
theorem QU{h:PT EO}{h0:Hp}{l:List Nat}(h1:∀g,g∉l->h.get g=h0 g)(h2:∀g,h.get g=none->h0 g=none):a7 h0 (gR h l)=h.get:=by
 funext g;refine Il (fun p hp e=>?_) ?_
 . have:=(wz hp).2;rw[e] at this;exact this.symm
 . by_cases hg:g∈l
   . cases ho:h.get g with
     |some o=>exact .inl ⟨_,Gy ho hg,rfl⟩
     |none=>exact .inr (h2 g ho)
   . exact .inr (h1 g hg).symm
section
variable {X:EX}{F:FuncId->Option FnE}{orc:FuncId->List ES->Hs->Option (ES × Hs)}{call:FuncId->List ES->Hs->Option (ES × Hs)}{yld:Nat->List ES->Hs->Option Hs}
theorem Ga{l:List Nat}:∀{ws:Wr},uQ l ws=true->∀p∈ws,bL p.1 l=true
 | [],_,p,hp=>by cases hp
 |q::ws,h,p,hp=>by
  simp only[uQ,aC] at h;rcases List.mem_cons.1 hp with rfl|hp
  . exact h.1
  . exact Ga h.2 p hp
theorem PN(horc:iH X orc)(hcall:nY X call)(hyld:pT X yld){tab:List Nat}{nx0 k:Nat}{log:List Le}{os:List Oper}{o:Oper}{m:Nat->ES}{s s':Hs}{r:ES}{l:Le}
 (he:CS (X.ee F orc) call yld tab nx0 k log os o.op (aj m) s=some (r,s',l)) :
 LogOk s s'/\s'.h.get=a7 s.h.get l.wr/\OneOk X o m (cO l.vis s.h.get) r (a7 (cO l.vis s.h.get) l.wr)/\∀p∈l.wr,l.vis p.1=true:=by
 unfold CS at he;split at he
 . rename_i fo args hc;obtain⟨ax,ats,ho,rfl⟩:=Ae hc;generalize uW tab k log k++ux tab nx0 k os (k+1)=N at he;simp only at he;split at he
   . rename_i r0 s1 hce;obtain⟨l1,l2⟩:=H5 horc hcall hyld ho hce;have h0:(sj s.h N).get=cO (fun g=>!bL g N) s.h.get:=Gx N s.h;have hws:a7 (sj s.h N).get (gR s1.h s1.wl)=s1.h.get:=QU (fun g hg=>l1.1 g hg) (fun g hg=>l1.2.2 g hg);cases hchk:(gR s1.h s1.wl).all (fun p=>!bL p.1 N) with
     |false=>rw[hchk] at he;cases he
     |true=>
      rw[hchk] at he;simp only[ai,ae,aA] at he;obtain⟨rfl,rfl,rfl⟩:=he;have hget:(match N with | []=>s1.h|_=>jA s.h (gR s1.h s1.wl)).get=a7 s.h.get (gR s1.h s1.wl):=by
       cases N with
       |nil=>exact hws.symm
       |cons=>exact pC _ _
      refine⟨⟨fun g hg=>?_,fun g hg=>MF _ hg,fun g hg=>?_⟩,hget,?_,fun p hp=>?_⟩
      . show(match N with | []=>s1.h|_=>jA s.h (gR s1.h s1.wl)).get g=_;rw[hget];exact rt fun p hp e=>hg (MG _ (e▸(wz hp).1))
      . have hg:(match N with | []=>s1.h|_=>jA s.h (gR s1.h s1.wl)).get g=none:=hg;rw[hget] at hg;exact GQ hg
      . show OneOk X o m (cO (fun g=>!bL g N) s.h.get) r0 (a7 (cO (fun g=>!bL g N) s.h.get) (gR s1.h s1.wl));rw[<-h0,hws];exact l2
      . exact List.all_eq_true.1 hchk p hp
   . cases he
 . rw[bc] at he;simp only at he;split at he
   . rename_i r0 ws hop;cases hsub:uQ ((nx0+k)::LW o.op (aj m)) ws with
     |false=>rw[hsub] at he;cases he
     |true=>
      rw[hsub] at he;simp only[ai,nK,ae,aA] at he;obtain⟨rfl,rfl,rfl⟩:=he;refine⟨LogOk.wr _ _ _,pC _ _,?_,fun p hp=>Ga hsub p hp⟩;exact tZ hop
   . cases he
def qi(X:EX)(all:Array Oper)(o:Oper)(tm:Nat->ES)(h:Hp)(x:ES×Le):Prop :=
 ((iQ all (jo (fq all o) tm) o=some true/\OneOk X o (jo (fq all o) tm) (cO x.2.vis h) x.1 (a7 (cO x.2.vis h) x.2.wr))\/(iQ all (jo (fq all o) tm) o=some false/\x.1=.und/\x.2.wr=[]))/\∀p∈x.2.wr,x.2.vis p.1=true
def ny(tm:Nat->ES)(l:List (Oper×ES×Le)):Nat->ES:=l.foldl (fun tm p=>cI tm p.1.dst p.2.1) tm
def nA(h:Hp)(l:List (Oper×ES×Le)):Hp:=l.foldl (fun h p=>a7 h p.2.2.wr) h
theorem PO(horc:iH X orc)(hcall:nY X call)(hyld:pT X yld){all:Array Oper}{tab:List Nat}{nx0:Nat}:∀{os:List Oper} {k:Nat} {log log':List Le} {s s':Sg},pQ (X.ee F orc) call yld all tab nx0 os k log s=some (s',log')->
 LogOk s.s s'.s/\∃recs:List (ES×Le),recs.length=os.length/\(∀i o x,os[i]?=some o->recs[i]?=some x->qi X all o (ny s.tm.sl ((os.zip recs).take i)) (nA s.s.h.get ((os.zip recs).take i)) x)/\
  s'.tm.sl=ny s.tm.sl (os.zip recs)/\s'.s.h.get=nA s.s.h.get (os.zip recs)/\log'=(recs.map Prod.snd).reverse++log:=by
 intro os;induction os with
 |nil=>
  intro k log log' s s' he;simp only[pQ,ae,aA] at he;obtain⟨rfl,rfl⟩:=he;exact⟨LogOk.refl _,[],rfl,fun i o x h=>by simp at h,rfl,rfl,rfl⟩
 |cons o os ih=>
  intro k log log' s s' he;unfold pQ at he;simp only at he;have key:∃(r:ES) (hs:Hs) (l:Le),LogOk s.s hs/\hs.h.get=a7 s.s.h.get l.wr/\qi X all o s.tm.sl s.s.h.get (r,l)/\pQ (X.ee F orc) call yld all tab nx0 os (k+1) (l::log) ⟨m9 s.tm o.dst r,hs⟩=some (s',log'):=by
   split at he
   . rename_i hy;split at he
     . rename_i r hs l h1;rw[mI,nK] at he;obtain⟨l1,l2,l3,l4⟩:=PN horc hcall hyld h1;exact⟨r,hs,l,l1,l2,⟨.inl ⟨hy,l3⟩,l4⟩,he⟩
     . cases he
   . rename_i hy;rw[nK] at he;exact⟨.und,s.s,⟨true,[],[]⟩,LogOk.refl _,rfl,⟨.inr ⟨hy,rfl,rfl⟩,fun p hp=>by cases hp⟩,he⟩
   . cases he
  obtain⟨r,hs,l,l1,l2,hf,he'⟩:=key;obtain⟨j1,recs,j2,j3,j4,j5,j6⟩:=ih he';have e1:(m9 s.tm o.dst r).sl=cI s.tm.sl o.dst r:=IK _ _ _;simp only at j3 j4 j5;rw[e1] at j3 j4;rw[l2] at j3 j5;refine⟨l1.trans j1,(r,l)::recs,by simp[j2],fun i o' x hi hx=>?_,j4,j5,by rw[j6];simp⟩;cases i with
  |zero=>simp at hi hx;subst hi;subst hx;exact hf
  |succ i=>exact j3 i o' x (by simpa using hi) (by simpa using hx)
theorem Vv{ro:Option Nat}{E:EEnv}(hI:∀w',BelowO E.own E.w0 w'->X.I w'){nt:Nat}{H:ah}{U:Bm}{tm tm':Nat->ES}{h h':Hp}{a:Act}{w:World}{all:Array Oper}{o:Oper}{x:ES×Le}(hd:∀d,o.dst=some d->d<nt)
 (hS:ESt X E nt H U tm' h' a w) {mo:Nat->Prop} (hM:MarksOk mo a.defers w) (hf:qi X all o tm h x) (hm:∀t∈fq all o,tm' t=tm t) (hv:∀g,x.2.vis g=true->h' g=h g) {K:Act->World->Prop} {Q:Exit->Act->World->Prop}
 (hK:∀H' U' a' w',HLe H H'->BLe U U'->ESt X E nt H' U' (cI tm' o.dst x.1) (a7 h' x.2.wr) a' w'->MarksOk mo a'.defers w'->MarkSame w w'->K a' w') :
 if Region.wanted o (yielded all a.tmps) then o.wpIn (FW ro) 0 X.P a w K Q else(∀f,o.about X.P w a.eval=some f->(FW ro).fn f)/\K (a.put o.dst undef) w:=by
 have em:jo (fq all o) tm=jo (fq all o) tm':=by
  funext t;unfold jo;cases hb:bL t (fq all o) with
  |false=>rfl
  |true=>rw[hm t (ji.1 hb)]
 have eh:cO x.2.vis h=cO x.2.vis h':=by
  funext g;unfold cO;cases hb:x.2.vis g with
  |false=>rfl
  |true=>rw[hv g hb]
 unfold qi at hf;rw[em,eh] at hf;obtain⟨hf,hvis⟩:=hf;have hS0:ESt X (sE E x.2.vis h' H U w) nt H U (jo (fq all o) tm') (cO x.2.vis h') a w:=⟨hS.sim.hide _,fun t=>by
  unfold jo;cases bL t (fq all o) with
  |false=>trivial
  |true=>exact hS.slot t,hS.size⟩
 rcases hf with⟨hy,ho⟩|⟨hy,hr,hw⟩
 . rw[uc hS0 hy];simp only[bD];refine ho ro (sE E x.2.vis h' H U w) (fun w' hb=>hI w' (hS.sim.below.trans (hb.mono fun k hk=>hk.1))) nt H U a w K Q hS0 fun v H' U' w' h1 h2 h3 h4 h5=>?_;exact hK H' U' _ w' h1 h2 (hS.fin hd h1 h2 (hS.sim.unhide h1 h2 h3 hvis) h5) (by rw[tI];exact hM.keep h4) h4
 . rw[uc hS0 hy];simp only[cM,bE];rw[hr,hw] at hK;exact⟨fun _ _=>trivial,hK H U _ w (HLe.refl _) (BLe.refl _) (hS.fin hd (HLe.refl _) (BLe.refl _) hS.sim (r:=.und) rfl) (by rw[tI];exact hM) (MarkSame.refl _)⟩
end
def qA(D:Nat->Option Nat)(L:Nat->ES×Le)(t i:Nat)(x:ES):ES:=if D i=some t then(L i).1 else x
def qB(L:Nat->ES×Le)(g i:Nat)(x:Option EO):Option EO:=a7 (fun _=>x) (L i).2.wr g
theorem AW{L:Nat->ES×Le}{g i:Nat}(h:∀p∈(L i).2.wr,p.1≠g)(x:Option EO):qB L g i x=x:=rt h
theorem If{D:Nat->Option Nat}{L:Nat->ES×Le}{i:Nat}{dst:Option Nat}(hD:D i=dst)(tm:Nat->ES)(t:Nat):cI tm dst (L i).1 t=qA D L t i (tm t):=by
 unfold qA;rw[hD];cases dst with
 |none=>simp[cI]
 |some d=>
  by_cases h:d=t
  . subst h;simp[cI,aT]
  . simp[cI,h,aG _ _ _ (kr h)]
theorem Ig(L:Nat->ES×Le)(i:Nat)(h:Hp)(g:Nat):a7 h (L i).2.wr g=qB L g i (h g):=Ar rfl
def iR(D:Nat->Option Nat)(L:Nat->ES×Le)(n:Nat)(S:Nat->Bool)(tm:Nat->ES):Nat->ES:=fun t=>gF (qA D L t) S (List.range n) (tm t)
def iS(L:Nat->ES×Le)(n:Nat)(S:Nat->Bool)(h:Hp):Hp:=fun g=>gF (qB L g) S (List.range n) (h g)
theorem yd{j i:Nat}(h:j≠i):Nat.beq j i=false:=by
 cases hb:Nat.beq j i
 . rfl
 . exact absurd (aw hb) h
theorem KS{os:List Oper}{recs:List (ES×Le)}(hl:recs.length=os.length)(D:Nat->Option Nat)(hD:∀i o,os[i]?=some o->D i=o.dst)(tm:Nat->ES)(h:Hp):∀k,k<=os.length->
 ny tm ((os.zip recs).take k)=iR D (fun i=>recs.getD i default) os.length (fun j=>decide (j<k)) tm/\
 nA h ((os.zip recs).take k)=iS (fun i=>recs.getD i default) os.length (fun j=>decide (j<k)) h:=by
 intro k;induction k with
 |zero=>
  intro _;refine⟨?_,?_⟩
  . funext t;exact(pG fun i _=>by simp).symm
  . funext g;exact(pG fun i _=>by simp).symm
 |succ k ih=>
  intro hk;obtain⟨i1,i2⟩:=ih (by omega);have ho:os[k]?=some os[k]:=by simp
  have hz:(os.zip recs)[k]?=some (os[k],recs[k]'(by omega)):=by
   rw[Xf];exact⟨ho,by simp⟩
  have hg:recs.getD k default=recs[k]'(by omega):=by
   have:k<recs.length:=by omega
   simp[this]
  have hS:∀j,decide (j<k+1)=(decide (j<k)||Nat.beq j k):=by
   intro j;by_cases h1:j<k
   . simp[h1];omega
   . by_cases h2:j=k
     . subst h2;simp[bj]
     . simp[h1,yd h2];omega
  have hm:k∈List.range os.length:=List.mem_range.2 (by omega);constructor
  . rw[k9,ny,vz,hz];funext t;have i1':List.foldl (fun tm p=>cI tm p.1.dst p.2.1) tm ((os.zip recs).take k)=_:=i1;rw[i1'];simp only[Ed,iw,qP];rw[<-hg,If (L:=fun i=>recs.getD i default) (hD k _ ho)];exact(uw (act:=qA D (fun i=>recs.getD i default) t) (i:=k) hS (by simp) vx hm fun j hj h1 h2=>absurd h2 (by simp;omega)).symm
  . rw[k9,nA,vz,hz];funext g;have i2':List.foldl (fun h p=>a7 h p.2.2.wr) h ((os.zip recs).take k)=_:=i2;rw[i2'];simp only[Ed,iw,qP];rw[<-hg,Ig (fun i=>recs.getD i default) k];exact(uw (act:=qB (fun i=>recs.getD i default) g) (i:=k) hS (by simp) vx hm fun j hj h1 h2=>absurd h2 (by simp;omega)).symm
section
variable {X:EX}{all:Array Oper}{tab:List Nat}{nt:Nat}{E:EEnv}{ro:Option Nat}
theorem LA(hI:∀w',BelowO E.own E.w0 w'->X.I w')(hd:cn nt all.toList=true)(hf:Flow all tab){tm:Nat->ES}{h:Hp}{D:Nat->Option Nat}(hD:∀i o,all[i]?=some o->D i=o.dst)(L:Nat->ES×Le)
 (hfact:∀i o,all[i]?=some o->qi X all o (iR D L all.size (fun j=>decide (j<i)) tm) (iS L all.size (fun j=>decide (j<i)) h) (L i))
 (hconf:∀i j,i<all.size->j<all.size->dt tab i j=true\/∀p∈(L i).2.wr,(L j).2.vis p.1=false) {mo:Nat->Prop} {Q:Exit->Act->World->Prop} :
 ∀(fuel:Nat) (listed:Array Bool) (S:Nat->Bool) (H:ah) (U:Bm) (a:Act) (w:World),(∀j,j<all.size->listed.getD j true=S j/\listed.getD j false=S j)->((List.range all.size).filter fun j=>!S j).length<=fuel->yg all S->
  ESt X E nt H U (iR D L all.size S tm) (iS L all.size S h) a w->MarksOk mo a.defers w->
  (∀H' U' a' w',HLe H H'->BLe U U'->ESt X E nt H' U' (iR D L all.size (fun _=>true) tm) (iS L all.size (fun _=>true) h) a' w'->MarksOk mo a'.defers w'->MarkSame w w'->Q .normal a' w')->wpAnyIn (FW ro) 0 X.P .any all Q fuel listed a w:=by
 have lt:∀{j o},all[j]?=some o->j<all.size:=fun h=>(Array.getElem?_eq_some_iff.1 h).1;have edge_iff:∀{o:Oper} {p:Nat->Prop},(∀e∈o.after,Region.binds .any e=true->p e.on)↔∀e∈gO o,p e:=by
  intro o p;unfold gO;constructor
  . intro h e he;obtain⟨x,hx,e'⟩:=List.mem_filterMap.1 he;cases hb:Region.binds .any x with
    |true=>simp[hb] at e';subst e';exact h x (by simpa using hx) hb
    |false=>simp[hb] at e'
  . intro h x hx hb;exact h _ (List.mem_filterMap.2 ⟨x,by simpa using hx,by simp[hb]⟩)
 have done:∀{listed:Array Bool} {S:Nat->Bool},(∀j,j<all.size->listed.getD j true=S j/\listed.getD j false=S j)->Region.ready .any all listed=[]->∀j,j<all.size->S j=true:=by
  intro listed S hl hr j;induction j using Nat.strongRecOn with
  |_ j ih=>
   intro hj;cases hS:S j with
   |true=>rfl
   |false=>
    have hg:all[j]?=some all[j]:=by simp[hj]
    have:j∈Region.ready .any all listed:=mem_ready.2 ⟨by rw[(hl j hj).1,hS],all[j],hg,(edge_iff (p:=fun e=>listed.getD e false=true)).2 fun e he=>by
     have:=hf.edge j _ hg e he;rw[(hl e (by omega)).2];exact ih e this (by omega)⟩
    rw[hr] at this;simp at this
 have fin:∀{S:Nat->Bool},(∀j,j<all.size->S j=true)->iR D L all.size S tm=iR D L all.size (fun _=>true) tm/\iS L all.size S h=iS L all.size (fun _=>true) h:=fun hS=>
  ⟨funext fun t=>lE fun i hi hne=>absurd (hS i (List.mem_range.1 hi)) hne,funext fun g=>lE fun i hi hne=>absurd (hS i (List.mem_range.1 hi)) hne⟩
 intro fuel;induction fuel with
 |zero=>
  intro listed S H U a w hl hn hc hs hM hQ;have hS:∀j,j<all.size->S j=true:=fun j hj=>by
   have h0:(List.range all.size).filter (fun j=>!S j)=[]:=vv (by omega);have:=List.filter_eq_nil_iff.1 h0 j (List.mem_range.2 hj);simpa using this
  rw[(fin hS).1,(fin hS).2] at hs;refine⟨?_,hQ H U a w (HLe.refl _) (BLe.refl _) hs hM (MarkSame.refl _)⟩;cases hr:Region.ready .any all listed with
  |nil=>rfl
  |cons i is=>
   have hi:i∈Region.ready .any all listed:=by rw[hr];simp
   obtain⟨h0,o,ho,_⟩:=mem_ready.1 hi;rw[(hl i (lt ho)).1,hS i (lt ho)] at h0;cases h0
 |succ fuel ih=>
  intro listed S H U a w hl hn hc hs hM hQ;refine⟨fun hr=>?_,fun i hi=>?_⟩
  . rw[(fin (done hl hr)).1,(fin (done hl hr)).2] at hs;exact hQ H U a w (HLe.refl _) (BLe.refl _) hs hM (MarkSame.refl _)
  obtain⟨h0,o,ho,hall⟩:=mem_ready.1 hi;have hilt:=lt ho;have hSi:S i=false:=by rw[<-(hl i hilt).1];exact h0
  have hre:∀e∈gO o,S e=true:=fun e he=>by
   have:=hf.edge i o ho e he;rw[<-(hl e (by omega)).2];exact(edge_iff (p:=fun e=>listed.getD e false=true)).1 hall e he
  have same:∀j,j<all.size->dt tab i j=true->decide (j<i)=S j:=fun j hj hn=>hf.near_same hc ho (show all[j]?=some all[j] by simp[hj]) hre hSi hn;have hfa:=hfact i o ho;unfold wpOpIn;simp only[ho];refine Vv hI (nJ hd (by simpa using Mf ho)) hs hM hfa (fun t ht=>?_) (fun g hg=>?_) fun H' U' a' w' k1 k2 k3 k4 k5=>?_
  . refine lE fun j hj hne x=>?_;have hj:=List.mem_range.1 hj;have hgj:all[j]?=some all[j]:=by simp[hj]
    unfold qA;rw[al fun hdj=>?_];have:=same j hj (hf.looks i o ho t ht j _ hgj (by rw[<-hD j _ hgj];exact hdj));exact hne this.symm
  . refine lE fun j hj hne x=>AW (fun p hp e=>?_) x;have hj:=List.mem_range.1 hj;rcases hconf j i hj hilt with hn|hm
    . rw[AE] at hn;exact hne (same j hj hn).symm
    . have:=hm p hp;rw[e,hg] at this;cases this
  . refine ih _ (fun j=>S j||Nat.beq j i) H' U' a' w' (fun j hj=>?_) ?_ ?_ ?_ k4 fun H2 β2 a2 w2 j1 j2 j3 j4 j5=>hQ H2 β2 a2 w2 (k1.trans j1) (k2.trans j2) j3 j4 (k5.trans j5)
    . by_cases hji:j=i
      . subst hji;have hsz:j<listed.size:=by
         rcases eS j listed.size with h'|h'
         . exact h'
         . simp[tg h'] at h0
        simp[hsz,bj]
      . rw[D8 true (kr hji),D8 false (kr hji),yd hji,D7];exact hl j hj
    . have:=Go.Proofs.Fl.AQ (p:=fun j=>!S j) (p':=fun j=>!(S j||Nat.beq j i)) (i:=i) (by simp[hSi]) (by simp[bj]) (fun j hj=>by simp at hj ⊢;exact hj.1) (List.mem_range.2 hilt);omega
    . intro j o' hj hSj e he;simp only[fO] at hSj ⊢;rcases hSj with hSj|hSj
      . exact .inl (hc j o' hj hSj e he)
      . have:=aw hSj;subst this;rw[ho] at hj;cases hj;exact .inl (hre e he)
    . have hnn:∀j,j<all.size->i<j->S j=true->dt tab i j=false:=fun j hj hij hSj=>by
       cases hn:dt tab i j with
       |false=>rfl
       |true=>
        have:=same j hj hn;rw[hSj] at this;simp at this;omega
      have e1:iR D L all.size (fun j=>S j||Nat.beq j i) tm=cI (iR D L all.size S tm) o.dst (L i).1:=by
       funext t;rw[If (hD i o ho)];refine uw (act:=qA D L t) (i:=i) (fun _=>rfl) hSi vx (List.mem_range.2 hilt) fun j hj hij _ b=>?_;have hj:=List.mem_range.1 hj;have hgj:all[j]?=some all[j]:=by simp[hj]
       unfold qA;by_cases h1:D i=some t
       . by_cases h2:D j=some t
         . have:=hf.uniq j i _ o t hgj ho (by rw[<-hD j _ hgj];exact h2) (by rw[<-hD i _ ho];exact h1);omega
         . rw[al h2,al h2]
       . rw[al h1,al h1]
      have e2:iS L all.size (fun j=>S j||Nat.beq j i) h=a7 (iS L all.size S h) (L i).2.wr:=by
       funext g;rw[Ig];refine uw (act:=qB L g) (i:=i) (fun _=>rfl) hSi vx (List.mem_range.2 hilt) fun j hj hij hSj b=>?_;have hj:=List.mem_range.1 hj;have hn0:=hnn j hj hij hSj;have m1:=(hconf i j hilt hj).resolve_left (by rw[hn0];simp);by_cases hgi:∃p∈(L i).2.wr,p.1=g
       . obtain⟨p,hp,hpg⟩:=hgi;have hjd:∀b,qB L g j b=b:=AW fun q hq hqg=>by
          have hgj:all[j]?=some all[j]:=by simp[hj]
          have:=(hfact j _ hgj).2 q hq;rw[hqg,<-hpg,m1 p hp] at this;cases this
         rw[hjd,hjd]
       . have hid:∀b,qB L g i b=b:=AW fun q hq hqg=>hgi ⟨q,hq,hqg⟩;rw[hid,hid]
      rw[e1,e2];exact k3
theorem EY{tab:List Nat}{i:Nat}{ws:Wr}:∀{ls:List Le} {k:Nat},wU tab i ws ls k=true->∀j l,ls[j]?=some l->dt tab i (k+j)=true\/∀p∈ws,l.vis p.1=false
 | [],_,_,j,l,h=>by simp at h
 |l'::ls,k,h,j,l,hl=>by
  simp only[wU,aC,fO] at h;cases j with
  |zero=>
   simp at hl;subst hl;exact h.1.imp id fun h p hp=>by simpa using List.all_eq_true.1 h p hp
  |succ j=>
   have:=EY h.2 j l (by simpa using hl);rwa[show k+1+j=k+(j+1) by omega] at this
theorem F0{tab:List Nat}{all:List Le}:∀{ls:List Le} {k:Nat},uL tab all ls k=true->∀i x,ls[i]?=some x->∀j l,all[j]?=some l->dt tab (k+i) j=true\/∀p∈x.wr,l.vis p.1=false
 | [],_,_,i,x,h=>by simp at h
 |l'::ls,k,h,i,x,hx=>by
  simp only[uL,aC] at h;intro j l hl;cases i with
  |zero=>
   simp at hx;subst hx;have h1:=h.1;split at h1
   . rename_i hw;exact .inr fun p hp=>by rw[hw] at hp;cases hp
   . simpa using EY h1 j l hl
  |succ i=>
   have:=F0 h.2 i x (by simpa using hx) j l hl;rwa[show k+1+i=k+(i+1) by omega] at this
end
def Sound(X:EX)(rd:Bool)(nt:Nat)(c:Code)(s:Sg)(e:Exit)(s':Sg):Prop :=
 LogOk s.s s'.s/\∀(ro:Option Nat),(rd=false->ro=none)->∀(E:EEnv),(∀w',BelowO E.own E.w0 w'->X.I w')->∀(w0:World) (H:ah) (U:Bm) (a:Act) (w:World) (Q:Exit->Act->World->Prop),vl X E w0 nt H U s a w->
  (∀a' w',EPost X E w0 nt H U w s' a' w'->Q e a' w')->c.wpIn (FW ro) 0 X.P Q a w
section
variable {X:EX}{F:FuncId->Option FnE}{orc:FuncId->List ES->Hs->Option (ES × Hs)}{call:FuncId->List ES->Hs->Option (ES × Hs)}{yld:Nat->List ES->Hs->Option Hs}
theorem Q2(horc:iH X orc)(hcall:nY X call)(hyld:pT X yld){rd:Bool}{nt id:Nat}{all:Array Oper}{draw:Bool}{s s':Sg}(he:Da (X.ee F orc) call yld nt all draw s=some s'):Sound X rd nt (.region id all draw) s .normal s':=by
 unfold Da at he;cases hd:cn nt all.toList with
 |false=>rw[hd] at he;cases he
 |true=>
  rw[hd] at he;simp only[ai] at he;cases draw with
  |false=>
   obtain⟨h1,h2⟩:=Q3 horc hcall hyld he;exact⟨h1,fun ro _ E hI w0 H U a w Q hS hQ=>vA (h2 ro E hI w0 nt Q H U a w hd hS hQ)⟩
  |true=>
   cases hfl:n7 all (jZ all.toList) with
   |false=>rw[hfl] at he;cases he
   |true=>
    rw[hfl] at he;simp only[ai] at he;split at he
    . rename_i s2 log hdr;cases hcf:uL (jZ all.toList) log.reverse log.reverse 0 with
      |false=>rw[hcf] at he;cases he
      |true=>
       rw[hcf] at he;simp only[ai,ae] at he;subst he;have hflow:=B5 hfl;obtain⟨l1,recs,e1,e2,e3,e4,e5⟩:=PO horc hcall hyld hdr;have hlen:all.toList.length=all.size:=by simp
       let D:Nat->Option Nat:=fun i=>(all[i]?).bind (·.dst)
       have hD:∀i o,all[i]?=some o->D i=o.dst:=fun i o ho=>by simp[D,ho]
       have hD':∀i o,all.toList[i]?=some o->D i=o.dst:=fun i o ho=>hD i o (by simpa using ho);have zf:=KS e1 D hD' s.tm.sl s.s.h.get;rw[hlen] at zf;have htk:(all.toList.zip recs).take all.size=all.toList.zip recs:=aH (by simp[e1]);have hall:=zf all.size (ak _);rw[htk] at hall;simp only at e2 e3 e4;rw[hall.1] at e3;rw[hall.2] at e4;have t1:iR D (fun i=>recs.getD i default) all.size (fun j=>decide (j<all.size)) s.tm.sl=iR D (fun i=>recs.getD i default) all.size (fun _=>true) s.tm.sl :=
        funext fun t=>lE fun i hi hne=>by have:=List.mem_range.1 hi;simp[this] at hne
       have t2:iS (fun i=>recs.getD i default) all.size (fun j=>decide (j<all.size)) s.s.h.get=iS (fun i=>recs.getD i default) all.size (fun _=>true) s.s.h.get :=
        funext fun t=>lE fun i hi hne=>by have:=List.mem_range.1 hi;simp[this] at hne
       rw[t1] at e3;rw[t2] at e4;have hrec:∀i,i<all.size->recs[i]?=some (recs.getD i default):=fun i hi=>by
        have:i<recs.length:=by omega
        simp[this]
       have hlog:log.reverse=recs.map Prod.snd:=by rw[e5];simp
       refine⟨l1,fun ro _ E hI w0 H U a w Q hS hQ=>?_⟩;refine Mg X.hm (LA (tm:=s.tm.sl) (h:=s.s.h.get) hI hd hflow hD (fun i=>recs.getD i default) (fun i o ho=>?_) (fun i j hi hj=>?_) all.size _ (fun _=>false) H U a _ (fun j hj=>?_) ?_ ?_ ?_ ?_ fun H' U' a' w' h1 h2 h3 h4 h5=>hQ a' w' ⟨H',U',h1,h2,⟨by rw[e3,e4];exact h3,h4,hS.2.2.trans h5⟩,?_⟩)
       . have hlt:i<all.size:=(Array.getElem?_eq_some_iff.1 ho).1;have:=e2 i o _ (by simpa using ho) (hrec i hlt);rw[(zf i (by omega)).1,(zf i (by omega)).2] at this;exact this
       . rw[hlog] at hcf;have:=F0 hcf i (recs.getD i default).2 (by rw[dw,hrec i hi];rfl) j (recs.getD j default).2 (by rw[dw,hrec j hj];rfl);rwa[aX] at this
       . simp[hj]
       . exact aP (oV _ _) (by simp)
       . intro j o _ h;cases h
       . have z1:iR D (fun i=>recs.getD i default) all.size (fun _=>false) s.tm.sl=s.tm.sl:=funext fun t=>pG fun _ _=>rfl;have z2:iS (fun i=>recs.getD i default) all.size (fun _=>false) s.s.h.get=s.s.h.get:=funext fun t=>pG fun _ _=>rfl;rw[z1,z2];exact⟨hS.1.sim.same rfl rfl rfl rfl,hS.1.slot,hS.1.size⟩
       . exact hS.2.1.keep fun _ _=>rfl
       . exact fun Dd hD=>h5 Dd hD
    . cases he
end
end Go.Proofs.En
