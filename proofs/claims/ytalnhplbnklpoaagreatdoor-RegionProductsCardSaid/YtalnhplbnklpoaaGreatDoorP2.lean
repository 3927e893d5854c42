/-
  A part of the proof of regionProducts_card.
-/
import Derived.Test.YtalnhplbnklpoaaGreatDoorP1
import Derived.RangeFuncOwn
import Derived.OrdersIn
import Derived.TacticsIn
import Derived.Test.YtalnhplbnklpoaaGreatDoorProg
import Derived.KernelRfl
set_option maxHeartbeats 4000000
namespace Go.Proofs
open Go
abbrev AE:=@List.foldl_append
abbrev AF:=@List.length_filter_le
abbrev AG:=@List.mapM_cons
abbrev AH:=@Nat.add_mul_mod_self_left
abbrev AI:=@Nat.le_mul_of_pos_right
abbrev AJ:=@Nat.le_div_iff_mul_le
abbrev AK:=@List.length_replicate
abbrev E3:=@Bool.or_false
abbrev E4:=@Go.getD_set_ne
abbrev E5:=@Go.wpIn_cond_split
abbrev E6:=@Option.toList_some
abbrev E7:=@Array.mapM_eq_mapM_toList
abbrev E8:=@Go.Sem.run_map
abbrev E9:=@Nat.mul_add_div
abbrev Fa:=@List.set_cons_succ
abbrev Fb:=@Nat.le_of_lt_succ
abbrev Fd:=@Nat.add_sub_cancel_left
abbrev Fe:=@Nat.mul_lt_mul_of_pos_left
abbrev Ff:=@Nat.one_le_div_iff
abbrev Fg:=@Nat.gcd_zero_right
abbrev Fh:=@Nat.gcd_rec
abbrev Fi:=@Int.mul_neg
abbrev Fj:=@Int.neg_mul_neg
abbrev Fk:=@Nat.pos_of_ne_zero
abbrev Fm:=@Rat.neg_num
abbrev Fo:=@Rat.sub_eq_add_neg
abbrev M9:=@List.getElem?_cons_succ
abbrev Na:=@List.filter_cons
abbrev Nb:=@Option.bind_some
abbrev Nc:=@Array.mem_of_getElem?
abbrev Nd:=@Go.wpIn_region_any
abbrev Nf:=@Go.run_takeDeferred
abbrev Ng:=@Go.World.alloc_heap_new
abbrev Nh:=@List.getLast?_cons_cons
abbrev Ni:=@Nat.lt_or_gt_of_ne
abbrev Nj:=@Nat.div_lt_self
abbrev Nk:=@Nat.mul_add_mod
abbrev Nl:=@Nat.mul_lt_mul_of_pos_right
abbrev Nn:=@Nat.add_mul_div_left
abbrev No:=@Nat.pow_le_pow_left
abbrev Np:=@Int.natAbs_add_le
abbrev XW:=@List.drop_append_of_le_length
abbrev aJ:=@congrArg
abbrev aZ:=@decide_eq_true
abbrev bR:=@List.length_map
abbrev bW:=@Nat.mul_add
abbrev bl:=@decide_eq_false
abbrev br:=@List.getD_eq_getElem?_getD
abbrev bt:=@List.not_mem_nil
abbrev cF:=@List.all_cons
abbrev cH:=@Go.World.putObj_heap_other
abbrev cY:=@Nat.blt_eq
abbrev cr:=@Nat.pow_succ
abbrev dD:=@Nat.mul_comm
abbrev dE:=@List.map_append
abbrev dZ:=@Nat.mul_assoc
abbrev dz:=@Nat.pow_le_pow_right
abbrev fB:=@Int.natAbs_mul
abbrev fc:=@Int.natAbs_natCast
abbrev g7:=@Nat.lt_of_lt_of_le
abbrev gg:=@List.take_add_one
abbrev gh:=@Nat.pow_pos
abbrev iN:=@Nat.lt_trans
abbrev iO:=@Nat.mul_le_mul
abbrev iy:=@Nat.mod_lt
abbrev jP:=@Nat.lt_of_le_of_lt
abbrev jQ:=@List.take_append_drop
abbrev jR:=@Nat.mul_zero
abbrev jp:=@Array.getElem?_append
abbrev jq:=@Nat.pow_add
abbrev kO:=@List.all_eq_true
abbrev kP:=@Ne.symm
abbrev kQ:=@Int.neg_mul
abbrev lM:=@List.nil_append
abbrev lN:=@Int.sign_eq_one_of_pos
abbrev m4:=@Nat.div_eq_of_lt
abbrev m5:=@Nat.div_le_self
abbrev m6:=@Int.sign_eq_neg_one_of_neg
abbrev mY:=@of_decide_eq_true
abbrev mZ:=@Nat.div_lt_iff_lt_mul
abbrev n0:=@Nat.mul_pos
abbrev nY:=@Nat.div_add_mod
abbrev nZ:=@Nat.le_of_lt
abbrev pB:=@List.reverse_reverse
abbrev pC:=@of_decide_eq_false
abbrev rB:=@Nat.pow_one
abbrev rC:=@Nat.gcd_comm
abbrev rD:=@Nat.div_one
abbrev tP:=@Array.getElem?_eq_none
abbrev tQ:=@Nat.add_sub_cancel
abbrev tR:=@List.take_succ_eq_append_getElem
abbrev tS:=@List.length_singleton
abbrev tT:=@Nat.div_mul_le_self
abbrev tU:=@Nat.pow_zero
abbrev tV:=@Rat.div_def
abbrev wc:=@Go.callsIn_wide
abbrev wg:=@List.pairwise_lt_range
abbrev wh:=@List.take_zero
abbrev wi:=@Go.wpIn_region_list
abbrev wj:=@Go.callsIn_of_wp_marks
abbrev wk:=@Array.getElem?_replicate
abbrev wn:=@Go.World.putObj_heap_same
abbrev wo:=@List.map_replicate
abbrev wq:=@List.getD_cons_succ
abbrev wt:=@Nat.mul_left_comm
abbrev wu:=@beq_iff_eq
abbrev wv:=@Rat.mul_def'
abbrev ww:=@Int.natAbs_neg
end Go.Proofs
namespace Go.Proofs.Fl
open Go.RowKit
def pb(all:Array X4)(tm:Nat->SV)(o:X4):Option Bool :=
 match o.guard with
 |none=>some true
 |some (j,want)=>match(all[j]?).bind (·.dst) with
  |none=>some false
  |some t=>match tm t with
   | .iv (.bool b)=>some (b==want)
   | .und=>some false
   |_=>none
section
variable (T:me->Option TY)(Φ:Ctr)
def Fact(all:Array X4)(o:X4)(g:Nat)(tm:Nat->SV)(bx:Nat->Option Bx)(l:Lg):Prop :=
 (pb all tm o=some true/\lE T Φ o (evS tm) bx g (Is l.r l.e))\/(pb all tm o=some false/\l.r=.und/\l.e = {})
def fR(all:Array X4):List X4->Nat->(Nat->SV)->(Nat->Option Bx)->List Lg->((Nat->SV)->(Nat->Option Bx)->List Lg->Prop)->Prop
 | [],_,tm,bx,log,K=>K tm bx log
 |o::os,g,tm,bx,log,K=>match pb all tm o with
  |some true=>lE T Φ o (evS tm) bx g (fun r e=>fR all os (g+1) (eI tm o.dst r) (gz (bH bx e.fz) e.wr) (⟨r,e⟩::log) K)
  |some false=>fR all os (g+1) (eI tm o.dst .und) bx (⟨.und,{}⟩::log) K
  |none=>False
variable {T}{Φ}
theorem Pb{all:Array X4}{K:(Nat->SV)->(Nat->Option Bx)->List Lg->Prop}:∀{os:List X4} {g:Nat} {tm:Nat->SV} {bx:Nat->Option Bx} {log:List Lg},fR T Φ all os g tm bx log K->
 ∃recs:List Lg,recs.length=os.length/\
  (∀k o l,os[k]?=some o->recs[k]?=some l->Fact T Φ all o (g+k) (((os.zip recs).take k).foldl (fun tm p=>eI tm p.1.dst p.2.r) tm) (((os.zip recs).take k).foldl (fun bx p=>gz (bH bx p.2.e.fz) p.2.e.wr) bx) l)/\
  K ((os.zip recs).foldl (fun tm p=>eI tm p.1.dst p.2.r) tm) ((os.zip recs).foldl (fun bx p=>gz (bH bx p.2.e.fz) p.2.e.wr) bx) (recs.reverse++log):=by
 intro os;induction os with
 |nil=>intro g tm bx log h;exact⟨[],rfl,fun k o l hk=>by simp at hk,h⟩
 |cons o os ih=>
  intro g tm bx log h;unfold fR at h;have key:∃l:Lg,Fact T Φ all o g tm bx l/\fR T Φ all os (g+1) (eI tm o.dst l.r) (gz (bH bx l.e.fz) l.e.wr) (l::log) K:=by
   split at h
   . rename_i hy;obtain⟨r,e,h1,h2⟩:=B2 h;exact⟨⟨r,e⟩,.inl ⟨hy,h1⟩,h2⟩
   . rename_i hy;exact⟨⟨.und,{}⟩,.inr ⟨hy,rfl,rfl⟩,h⟩
   . exact h.elim
  obtain⟨l,hf,h'⟩:=key;obtain⟨recs,e1,e2,e3⟩:=ih h';refine⟨l::recs,by simp[e1],?_,by simpa using e3⟩;intro k o' l' hk hl;cases k with
  |zero=>simp at hk hl;subst hk;subst hl;simpa using hf
  |succ k=>
   simp only[M9] at hk hl;have:=e2 k o' l' hk hl;rw[show g+1+k=g+(k+1) by omega] at this;simpa using this
end
def g9(o:X4):List Nat:=o.after.toList.filterMap fun e=>bif Region.binds .any e then some e.on else none
def uY(tab:List Nat)(es:List Nat):Nat:=es.foldl (fun m e=>m ||| (1 <<< e ||| tab.getD e 0)) 0
def kC(ops:List X4):List Nat:=ops.foldl (fun tab o=>tab ++ [uY tab (g9 o)]) []
def fP(all:Array X4)(o:X4):List Nat :=
 match o.guard with
 |some (j,_)=>match(all[j]?).bind (·.dst) with
  |some t=>t::(o.op.operands.toList.filterMap fun | .tmp t=>some t|_=>none)
  |none=>o.op.operands.toList.filterMap fun | .tmp t=>some t|_=>none
 |none=>o.op.operands.toList.filterMap fun | .tmp t=>some t|_=>none
def pW(ops:List X4)(k:Nat):List (Nat×Nat) :=
 match ops with
 | []=>[]
 |o::os=>match o.dst with
  |some d=>(d,k)::pW os (k+1)
  |none=>pW os (k+1)
def uniq:List (Nat×Nat)->Bool
 | []=>true
 |p::l=>l.all (fun q=>!Nat.beq p.1 q.1)&&uniq l
def dJ(tab:List Nat)(i j:Nat):Bool:=Nat.beq i j||((tab.getD i 0).testBit j||(tab.getD j 0).testBit i)
def xy(all:Array X4)(tab:List Nat)(ws:List (Nat×Nat)):List X4->Nat->Bool
 | [],_=>true
 |o::os,i=>(Nat.beq (tab.getD i 0) (uY tab (g9 o))&&(g9 o).all fun e=>Nat.blt e i) &&
  ((fP all o).all (fun t=>ws.all fun p=>!Nat.beq p.1 t||dJ tab i p.2)&&xy all tab ws os (i+1))
def oB(all:Array X4)(tab:List Nat):Bool:=uniq (pW all.toList 0)&&xy all tab (pW all.toList 0) all.toList 0
def ym(tab:List Nat)(i:Nat)(x:Eff):List Lg->Nat->Bool
 | [],_=>true
 |l::ls,j=>(dJ tab i j || !ld x l.e)&&ym tab i x ls (j+1)
def xI(tab:List Nat)(all:List Lg):List Lg->Nat->Bool
 | [],_=>true
 |l::ls,i=>(match l.e.wr with
  | []=>true
  |_=>ym tab i l.e all 0)&&xI tab all ls (i+1)
def Vy(tab:List Nat)(log:List Lg):Bool:=xI tab log log 0
theorem GJ{tab:List Nat}{a:Nat}:∀{es:List Nat} {m:Nat},(es.foldl (fun m e=>m ||| (1 <<< e ||| tab.getD e 0)) m).testBit a=true->m.testBit a=true\/∃e∈es,e=a\/(tab.getD e 0).testBit a=true
 | [],m,h=>.inl h
 |e::es,m,h=>by
  rw[kL] at h;rcases GJ h with h|⟨e',h1,h2⟩
  . rw[Nat.testBit_or,Nat.testBit_or] at h;cases hm:m.testBit a with
    |true=>exact .inl rfl
    |false=>
     right;refine⟨e,by simp,?_⟩;cases h1:(tab.getD e 0).testBit a with
     |true=>exact .inr rfl
     |false=>
      left;rw[hm,h1] at h;simp only[Nat.one_shiftLeft,Nat.testBit_two_pow,vX,E3,dL] at h;exact h
  . exact .inr ⟨e',by simp[h1],h2⟩
theorem F6{tab es:List Nat}{a:Nat}(h:(uY tab es).testBit a=true):∃e∈es,e=a\/(tab.getD e 0).testBit a=true:=by
 rcases GJ h with h|h
 . simp at h
 . exact h
structure Flow(all:Array X4)(tab:List Nat):Prop where
 edge:∀(i:Nat) (o:X4),all[i]?=some o->∀e∈g9 o,e<i
 mask:∀(i:Nat) (o:X4),all[i]?=some o->tab.getD i 0=uY tab (g9 o)
 uniq:∀(i j:Nat) (o o':X4) (d:Nat),all[i]?=some o->all[j]?=some o'->o.dst=some d->o'.dst=some d->i=j
 looks:∀(i:Nat) (o:X4),all[i]?=some o->∀t∈fP all o,∀(j:Nat) (o':X4),all[j]?=some o'->o'.dst=some t->dJ tab i j=true
theorem Oy{ops:List X4}:∀{k j:Nat} {o:X4} {d:Nat},ops[j]?=some o->o.dst=some d->(d,k+j)∈pW ops k:=by
 induction ops with
 |nil=>intro k j o d h;simp at h
 |cons p l ih=>
  intro k j o d h hd;unfold pW;cases j with
  |zero=>simp at h;subst h;simp[hd]
  |succ j=>
   have:=ih (k:=k+1) (by simpa using h) hd;rw[show k+1+j=k+(j+1) by omega] at this;split<;>simp[this]
theorem Bl:∀{l:List (Nat×Nat)},uniq l=true->∀p∈l,∀q∈l,p.1=q.1->p=q
 | [],_,p,hp=>by simp at hp
 |x::l,h,p,hp=>by
  simp only[uniq,az,kO,fy] at h;intro q hq e;rcases List.mem_cons.1 hp with hp|hp
  . rcases List.mem_cons.1 hq with hq|hq
    . rw[hp,hq]
    . have:=h.1 q hq;rw[<-hp,e,bh] at this;cases this
  . rcases List.mem_cons.1 hq with hq|hq
    . have:=h.1 p hp;rw[<-hq,<-e,bh] at this;cases this
    . exact Bl h.2 p hp q hq e
theorem FO{all:Array X4}{tab:List Nat}{ws:List (Nat×Nat)}:∀{os:List X4} {k:Nat},xy all tab ws os k=true->∀i o,os[i]?=some o->
 (∀e∈g9 o,e<k+i)/\tab.getD (k+i) 0=uY tab (g9 o)/\∀t∈fP all o,∀p∈ws,p.1=t->dJ tab (k+i) p.2=true
 | [],_,_,i,o,h=>by simp at h
 |o'::os,k,h,i,o,ho=>by
  simp only[xy,az] at h;obtain⟨⟨h1,h2⟩,h3,h4⟩:=h;cases i with
  |zero=>
   simp at ho;subst ho;refine⟨fun e he=>?_,av h1,fun t ht p hp e=>?_⟩
   . have:=List.all_eq_true.1 h2 e he;simp[cY] at this;omega
   . have:=List.all_eq_true.1 (List.all_eq_true.1 h3 t ht) p hp;rw[e,bh] at this;simpa using this
  |succ i=>
   have:=FO h4 i o (by simpa using ho);rw[show k+1+i=k+(i+1) by omega] at this;exact this
theorem CS{all:Array X4}{tab:List Nat}(h:oB all tab=true):Flow all tab:=by
 simp only[oB,az] at h;have sp:=fun i o (ho:all[i]?=some o)=>FO h.2 i o (by simpa using ho);simp only[aU] at sp;have wm:∀{j:Nat} {o:X4} {d:Nat},all[j]?=some o->o.dst=some d->(d,j)∈pW all.toList 0:=fun{j o d} ho hd=>by
  have:=Oy (k:=0) (ops:=all.toList) (j:=j) (o:=o) (d:=d) (by simpa using ho) hd;rwa[aU] at this
 refine⟨fun i o ho=>(sp i o ho).1,fun i o ho=>(sp i o ho).2.1,fun i j o o' d h1 h2 h3 h4=>?_,fun i o ho t ht j o' h1 h2=>(sp i o ho).2.2 t ht _ (wm h1 h2) rfl⟩;have:=Bl h.1 _ (wm h1 h3) _ (wm h2 h4) rfl;exact(Prod.mk.inj this).2
theorem FZ{tab:List Nat}{i:Nat}{x:Eff}:∀{ls:List Lg} {k:Nat},ym tab i x ls k=true->∀j l,ls[j]?=some l->dJ tab i (k+j)=true\/ld x l.e=false
 | [],_,_,j,l,h=>by simp at h
 |l'::ls,k,h,j,l,hl=>by
  simp only[ym,az,g6,fy] at h;cases j with
  |zero=>simp at hl;subst hl;exact h.1
  |succ j=>
   have:=FZ h.2 j l (by simpa using hl);rwa[show k+1+j=k+(j+1) by omega] at this
theorem FQ{tab:List Nat}{all:List Lg}:∀{ls:List Lg} {k:Nat},xI tab all ls k=true->∀i x,ls[i]?=some x->∀j l,all[j]?=some l->dJ tab (k+i) j=true\/ld x.e l.e=false
 | [],_,_,i,x,h=>by simp at h
 |l'::ls,k,h,i,x,hx=>by
  simp only[xI,az] at h;intro j l hl;cases i with
  |zero=>
   simp at hx;subst hx;have h1:=h.1;split at h1
   . rename_i hw;exact .inr (by simp[ld,hw])
   . simpa using FZ h1 j l hl
  |succ i=>
   have:=FQ h.2 i x (by simpa using hx) j l hl;rwa[show k+1+i=k+(i+1) by omega] at this
theorem Bz{tab:List Nat}{i j:Nat}:dJ tab i j=dJ tab j i:=by
 unfold dJ;have:Nat.beq i j=Nat.beq j i:=by
  cases h:Nat.beq i j with
  |true=>rw[av h,bh]
  |false=>
   cases h2:Nat.beq j i with
   |false=>rfl
   |true=>rw[av h2,bh] at h;cases h
 rw[this,Bool.or_comm ((tab.getD i 0).testBit j)]
theorem BJ{p p':Nat->Bool}{i:Nat}(h1:p i=true)(h2:p' i=false)(h3:∀j,p' j=true->p j=true):∀{l:List Nat},i∈l->(l.filter p').length<(l.filter p).length
 | [],h=>by simp at h
 |j::l,h=>by
  have hle:∀l:List Nat,(l.filter p').length<=(l.filter p).length:=by
   intro l;induction l with
   |nil=>simp
   |cons k l ih=>
    simp only[Na];cases hp':p' k with
    |true=>simp[h3 k hp'];exact ih
    |false=>
     cases p k
     . simpa using ih
     . simp;omega
  by_cases hji:j=i
  . subst hji;simp only[Na,h1,h2,bD];have:=hle l;simp;omega
  . have hm:i∈l:=by
     rcases List.mem_cons.1 h with e|e
     . exact absurd e.symm hji
     . exact e
    have:=BJ h1 h2 h3 hm;simp only[Na];cases hp':p' j with
    |true=>simp[h3 j hp'];exact this
    |false=>
     cases p j
     . simpa using this
     . simp;omega
section
variable {all:Array X4}{tab:List Nat}{S:Nat->Bool}
theorem Flow.anc_lt(hf:Flow all tab):∀(i:Nat) (o:X4),all[i]?=some o->∀a,(tab.getD i 0).testBit a=true->a<i:=by
 intro i;induction i using Nat.strongRecOn with
 |_ i ih=>
  intro o ho a ha;rw[hf.mask i o ho] at ha;obtain⟨e,he,h⟩:=F6 ha;have hlt:=hf.edge i o ho e he;rcases h with rfl|h
  . exact hlt
  . have hsz:e<all.size:=iN hlt (Array.getElem?_eq_some_iff.1 ho).1;have:=ih e hlt all[e] (by simp[hsz]) a h;omega
def y7(all:Array X4)(S:Nat->Bool):Prop:=∀j o,all[j]?=some o->S j=true->∀e∈g9 o,S e=true
theorem Flow.anc_in(hf:Flow all tab)(hc:y7 all S):∀(i:Nat) (o:X4),all[i]?=some o->(∀e∈g9 o,S e=true)->∀a,(tab.getD i 0).testBit a=true->S a=true:=by
 intro i;induction i using Nat.strongRecOn with
 |_ i ih=>
  intro o ho he0 a ha;rw[hf.mask i o ho] at ha;obtain⟨e,he,h⟩:=F6 ha;have hlt:=hf.edge i o ho e he;rcases h with rfl|h
  . exact he0 e he
  . have hsz:e<all.size:=iN hlt (Array.getElem?_eq_some_iff.1 ho).1;have hg:all[e]?=some all[e]:=by simp[hsz]
    exact ih e hlt all[e] hg (hc e _ hg (he0 e he)) a h
theorem Flow.near_same(hf:Flow all tab)(hc:y7 all S){i j:Nat}{o o':X4}(hi:all[i]?=some o)(hj:all[j]?=some o')(hr:∀e∈g9 o,S e=true)(hS:S i=false)(hn:dJ tab i j=true):decide (j<i)=S j:=by
 simp only[dJ,g6] at hn;rcases hn with h|h|h
 . have:=av h;subst this;rw[hS];simp
 . rw[hf.anc_in hc i o hi hr j h];simpa using hf.anc_lt i o hi j h
 . have h1:=hf.anc_lt j o' hj i h;cases hSj:S j with
   |true=>
    have:=hf.anc_in hc j o' hj (hc j o' hj hSj) i h;rw[hS] at this;cases this
   |false=>simpa using by omega
end
section
variable {T:me->Option TY}{Φ:Ctr}{all:Array X4}{o:X4}{g:Nat}{tm tm':Nat->SV}{bx bx':Nat->Option Bx}{l:Lg}
theorem Qf{x:X0}{t:Nat}(hx:x∈o.op.operands)(e:x=.tmp t):t∈fP all o:=by
 have h:t∈o.op.operands.toList.filterMap fun | .tmp t=>some t|_=>none:=List.mem_filterMap.2 ⟨x,by simpa using hx,by subst e;rfl⟩;unfold fP;split
 . split
   . exact eB _ h
   . exact h
 . exact h
theorem Fact.foot(h:Fact T Φ all o g tm bx l)(ht:∀t∈fP all o,tm' t=tm t)(hb:∀id∈l.e.rd,eqF (bx id) (bx' id))(hw:∀p∈l.e.wr,bx' p.1=bx p.1):Fact T Φ all o g tm' bx' l:=by
 have hy:pb all tm' o=pb all tm o:=by
  unfold pb;split
  . rfl
  . rename_i j want hg;split
    . rfl
    . rename_i t hd;have:tm' t=tm t:=ht t (by unfold fP;simp only[hg,hd];simp);rw[this]
 unfold Fact at *;rw[hy];rcases h with⟨h1,h2⟩|h
 . refine .inl ⟨h1,Q9 h2 (fun x hx=>?_) hb hw⟩;cases x with
   |tmp t=>exact ht t (Qf hx rfl)
   |_=>rfl
 . exact .inr h
theorem GW{E:Env}{nt:Nat}{H:ah}{U:Nat->Nat×Nat}{a:Act}{w:my}(h:St E nt H U tm bx a w){c:Bool}(hy:pb all tm o=some c):Region.wanted o (yielded all a.tmps)=c:=by
 unfold pb at hy;unfold Region.wanted;split at hy
 . rename_i hg;simp only[hg];simpa using hy
 . rename_i j want hg;simp only[hg];split at hy
   . rename_i hd;simp only[yielded,hd,Option.bind_none];simpa using hy
   . rename_i t hd;simp only[yielded,hd,Nb];have hs:=h.sim.slot t;split at hy
     . rename_i b ht;rw[ht] at hs;have e:=oe hs;cases hx:a.tmps[t]? with
       |none=>simp[hx,undef] at e
       |some u=>simp[hx] at e;subst e;simpa using hy
     . rename_i ht;rw[ht] at hs;change a.tmps.getD t undef=undef at hs;cases hx:a.tmps[t]? with
       |none=>simpa using hy
       |some u=>simp[hx] at hs;subst hs;simpa[undef] using hy
     . cases hy
end
section
variable {P:Tz}{I:my->Prop}{T:me->Option TY}{Φ:Ctr}{E:Env}{nt:Nat}{Q:X6->Act->my->Prop}
def cJ(nt:Nat)(l:List X4):Bool:=l.all fun o=>match o.dst with
 |some d=>Nat.blt d nt
 |none=>true
theorem n9{l:List X4}(h:cJ nt l=true){o:X4}(ho:o∈l):∀d,o.dst=some d->d<nt:=fun d hd=>by
 have:=List.all_eq_true.1 h o ho;simp only[hd,cY] at this;exact this
def FW(ro:Option Nat):Fence:={ Fence.wide with round:=ro }
theorem Lf{P:Tz}{ro:Option Nat}{n:Nat}{f:qe}{args:Array X3}{w:my}{R:Ending->my->Prop}(h:Calls P f args w R):CallsIn (FW ro) n P f args w R :=
 wc (n:=n) |>.2 h
theorem Wd{P:Tz}{ro:Option Nat}{n:Nat}{row:String}{args:Array X3}{w:my}{R:X3->my->Prop}(h:Rows P row args w R):RowsIn (FW ro) n P row args w R :=
 fun c cs _=>let ⟨v,w',r,s⟩:=h c cs;⟨v,w',r,(stepsIn_wide (P:=P)).2 s⟩
theorem sQ{P:Tz}{ro:Option Nat}{o:X4}{a:Act}{w:my}{K:Act->my->Prop}{Q:X6->Act->my->Prop}(hnd:∀c,o.op≠ .defer c)(h:o.wp P a w K Q):o.wpIn (FW ro) 0 P a w K Q:=by
 refine⟨fun _ _=>trivial,?_⟩;rw[show(FW ro).round=ro from rfl,Oper.semAt_eq ro a.eval o hnd];unfold Oper.wp at h;generalize (execOp a.eval o).run P w=r at *;cases r with
 |ok x w'=>
  cases x<;>simp only[Oper.upon,Oper.uponIn] at h ⊢ <;>
   first
    |exact h
    |exact⟨fun e=>(by cases e),Lf h⟩
    |exact⟨fun e=>(by cases e),Wd h⟩
 |halt x w'=>cases x<;>simp only[Oper.upon,Oper.uponIn] at h ⊢ <;> exact h
theorem BK{ro:Option Nat}(hT:b8 P T)(hΦ:CtrOk P I Φ)(hIE:∀w,BelowO E.own E.w0 w->I w){all:Array X4}{o:X4}(hd:∀d,o.dst=some d->d<nt){H:ah}{U:Nat->Nat×Nat}{tm:Nat->SV}{bx:Nat->Option Bx}{a:Act}{w:my}{g:Nat}{l:Lg}(h:St E nt H U tm bx a w)(hf:Fact T Φ all o g tm bx l)
 {K:Act->my->Prop} (hK:∀H U a w,St E nt H U (eI tm o.dst l.r) (gz (bH bx l.e.fz) l.e.wr) a w->K a w) :
 if Region.wanted o (yielded all a.tmps) then o.wpIn (FW ro) 0 P a w K Q else(∀f,o.about P w a.eval=some f->(FW ro).fn f)/\K (a.put o.dst undef) w:=by
 rcases hf with⟨hy,hop⟩|⟨hy,hr,he⟩
 . rw[GW h hy];simp only[bD];refine sQ (fun c hc=>?_) (Oper.wp_mono (fun a w hp=>?_) (Vp hT hΦ (fun w' hw'=>hIE w' (h.sim.below.trans (hw'))) h hd hop))
   . unfold lE at hop;rw[hc] at hop;exact hop.elim
   obtain⟨r,e,H,U,⟨rfl,rfl⟩,hS⟩:=hp;exact hK _ _ _ _ hS
 . rw[GW h hy];simp only[dx,bG];rw[hr,he] at hK;exact⟨fun _ _=>trivial,hK H U _ w (h.put hd (r:=.und) rfl)⟩
theorem Sim.drawn{H:ah}{U:Nat->Nat×Nat}{tm:Nat->SV}{bx:Nat->Option Bx}{a:Act}{w:my}(h:St E nt H U tm bx a w):St E nt H U tm bx a { w with drawn:=w.drawn+1 } :=
 ⟨h.sim.sm rfl rfl rfl rfl,h.defers,h.size⟩
theorem TK{ro:Option Nat}(hT:b8 P T)(hΦ:CtrOk P I Φ)(hIE:∀w,BelowO E.own E.w0 w->I w){all:Array X4}{K:(Nat->SV)->(Nat->Option Bx)->List Lg->Prop}(hK:∀H U tm bx log a w,K tm bx log->St E nt H U tm bx a w->Q .normal a w) :
 ∀{os:List X4} {g:Nat} {tm:Nat->SV} {bx:Nat->Option Bx} {log:List Lg} {H:ah} {U:Nat->Nat×Nat} {a:Act} {w:my},cJ nt os=true->St E nt H U tm bx a w->fR T Φ all os g tm bx log K->wpListIn (FW ro) 0 P all Q os a w:=by
 intro os;induction os with
 |nil=>intro g tm bx log H U a w _ h ho;exact hK _ _ _ _ _ _ _ ho h
 |cons o os ih=>
  intro g tm bx log H U a w hd h ho;have hd':cJ nt os=true:=by
   simp only[cJ,cF,az] at hd;exact hd.2
  have key:∃l:Lg,Fact T Φ all o g tm bx l/\fR T Φ all os (g+1) (eI tm o.dst l.r) (gz (bH bx l.e.fz) l.e.wr) (l::log) K:=by
   unfold fR at ho;split at ho
   . rename_i hy;obtain⟨r,e,h1,h2⟩:=B2 ho;exact⟨⟨r,e⟩,.inl ⟨hy,h1⟩,h2⟩
   . rename_i hy;exact⟨⟨.und,{}⟩,.inr ⟨hy,rfl,rfl⟩,ho⟩
   . exact ho.elim
  obtain⟨l,hf,h'⟩:=key;unfold wpListIn;exact BK hT hΦ hIE (n9 hd (by simp)) h hf fun H U a w hS=>ih hd' hS h'
theorem VZ{ro:Option Nat}(hT:b8 P T)(hΦ:CtrOk P I Φ)(hIE:∀w,BelowO E.own E.w0 w->I w){all:Array X4}{tab:List Nat}(hd:cJ nt all.toList=true)(hf:Flow all tab){g:Nat}{tm:Nat->SV}{bx:Nat->Option Bx}{D:Nat->Option Nat}(hD:∀i o,all[i]?=some o->D i=o.dst)(L:Nat->Lg)
 (hfact:∀i o,all[i]?=some o->Fact T Φ all o (g+i) (fun t=>dR D L (fun j=>decide (j<i)) t (List.range all.size) (tm t)) (fun id=>bxF L (fun j=>decide (j<i)) id (List.range all.size) (bx id)) (L i))
 (hconf:∀i j,i<all.size->j<all.size->dJ tab i j=true\/ld (L i).e (L j).e=false)
 (hQ:∀H U a w,St E nt H U (fun t=>dR D L (fun _=>true) t (List.range all.size) (tm t)) (fun id=>bxF L (fun _=>true) id (List.range all.size) (bx id)) a w->Q .normal a w) :
 ∀(fuel:Nat) (listed:Array Bool) (S:Nat->Bool) (H:ah) (U:Nat->Nat×Nat) (a:Act) (w:my),(∀j,j<all.size->listed.getD j true=S j/\listed.getD j false=S j)->((List.range all.size).filter fun j=>!S j).length<=fuel->y7 all S->
  St E nt H U (fun t=>dR D L S t (List.range all.size) (tm t)) (fun id=>bxF L S id (List.range all.size) (bx id)) a w->wpAnyIn (FW ro) 0 P .any all Q fuel listed a w:=by
 have lt:∀{j o},all[j]?=some o->j<all.size:=fun h=>(Array.getElem?_eq_some_iff.1 h).1;have edge_iff:∀{o:X4} {p:Nat->Prop},(∀e∈o.after,Region.binds .any e=true->p e.on)↔∀e∈g9 o,p e:=by
  intro o p;unfold g9;constructor
  . intro h e he;obtain⟨x,hx,e'⟩:=List.mem_filterMap.1 he;cases hb:Region.binds .any x with
    |true=>simp[hb] at e';subst e';exact h x (by simpa using hx) hb
    |false=>simp[hb] at e'
  . intro h x hx hb;exact h _ (List.mem_filterMap.2 ⟨x,by simpa using hx,by simp[hb]⟩)
 have done:∀{listed:Array Bool} {S:Nat->Bool},(∀j,j<all.size->listed.getD j true=S j/\listed.getD j false=S j)->Region.ready .any all listed=[]->∀j,j<all.size->S j=true:=by
  intro listed S hl hr j;induction j using Nat.strongRecOn with
  |_ j ih=>
   intro hj;cases hS:S j with
   |true=>rfl
   |false=>
    have hg:all[j]?=some all[j]:=by simp[hj]
    have:j∈Region.ready .any all listed:=mem_ready.2 ⟨by rw[(hl j hj).1,hS],all[j],hg,(edge_iff (p:=fun e=>listed.getD e false=true)).2 fun e he=>by
     have:=hf.edge j _ hg e he;rw[(hl e (by omega)).2];exact ih e this (by omega)⟩
    rw[hr] at this;simp at this
 have fin:∀{S:Nat->Bool} {H:ah} {U:Nat->Nat×Nat} {a:Act} {w:my},(∀j,j<all.size->S j=true)->St E nt H U (fun t=>dR D L S t (List.range all.size) (tm t)) (fun id=>bxF L S id (List.range all.size) (bx id)) a w->Q .normal a w:=by
  intro S H U a w hS h;refine hQ H U a w ?_;have e1:(fun t=>dR D L S t (List.range all.size) (tm t))=(fun t=>dR D L (fun _=>true) t (List.range all.size) (tm t)):=funext fun t=>ur fun i hi _=>hS i (List.mem_range.1 hi);have e2:(fun id=>bxF L S id (List.range all.size) (bx id))=(fun id=>bxF L (fun _=>true) id (List.range all.size) (bx id)):=funext fun id=>uz fun i hi hne=>absurd (hS i (List.mem_range.1 hi)) hne;rw[<-e1,<-e2];exact h
 intro fuel;induction fuel with
 |zero=>
  intro listed S H U a w hl hn hc h;have hS:∀j,j<all.size->S j=true:=fun j hj=>by
   have h0:(List.range all.size).filter (fun j=>!S j)=[]:=rA (by omega);have:=List.filter_eq_nil_iff.1 h0 j (List.mem_range.2 hj);simpa using this
  refine⟨?_,fin hS h⟩;cases hr:Region.ready .any all listed with
  |nil=>rfl
  |cons i is=>
   have hi:i∈Region.ready .any all listed:=by rw[hr];simp
   obtain⟨h0,o,ho,_⟩:=mem_ready.1 hi;rw[(hl i (lt ho)).1,hS i (lt ho)] at h0;cases h0
 |succ fuel ih=>
  intro listed S H U a w hl hn hc h;refine⟨fun hr=>fin (done hl hr) h,fun i hi=>?_⟩;obtain⟨h0,o,ho,hall⟩:=mem_ready.1 hi;have hilt:=lt ho;have hSi:S i=false:=by rw[<-(hl i hilt).1];exact h0
  have hre:∀e∈g9 o,S e=true:=fun e he=>by
   have:=hf.edge i o ho e he;rw[<-(hl e (by omega)).2];exact(edge_iff (p:=fun e=>listed.getD e false=true)).1 hall e he
  have same:∀j,j<all.size->dJ tab i j=true->decide (j<i)=S j:=fun j hj hn=>hf.near_same hc ho (show all[j]?=some all[j] by simp[hj]) hre hSi hn;have hfa:Fact T Φ all o (g+i) (fun t=>dR D L S t (List.range all.size) (tm t)) (fun id=>bxF L S id (List.range all.size) (bx id)) (L i):=by
   refine(hfact i o ho).foot (fun t ht=>?_) (fun id hid=>?_) (fun p hp=>?_)
   . refine(ur fun j hj hdj=>?_).symm;have hj:=List.mem_range.1 hj;have hg:all[j]?=some all[j]:=by simp[hj]
     exact same j hj (hf.looks i o ho t ht j _ hg (by rw[<-hD j _ hg];exact hdj))
   . refine Km (fun j hj hne=>?_) (eqF.refl _);have hj:=List.mem_range.1 hj;rcases hconf j i hj hilt with hn|hm
     . rw[Bz] at hn;exact absurd (same j hj hn) hne
     . exact Qg hm (.inl hid)
   . refine(uz fun j hj hne=>?_).symm;have hj:=List.mem_range.1 hj;rcases hconf i j hilt hj with hn|hm
     . exact absurd (same j hj hn) hne
     . exact(wV hm hp).1
  unfold wpOpIn;simp only[ho];refine BK hT hΦ hIE (n9 hd (by simpa using Nc ho)) h hfa fun H U a w hS=>?_;refine ih _ (fun j=>S j||Nat.beq j i) H U a w (fun j hj=>?_) ?_ ?_ ?_
  . by_cases hji:j=i
    . subst hji;have hsz:j<listed.size:=by
       rcases fx j listed.size with h'|h'
       . exact h'
       . simp[tP h'] at h0
      simp[hsz,bh]
    . have hb:Nat.beq j i=false:=by
       cases hb:Nat.beq j i
       . rfl
       . exact absurd (av hb) hji
      rw[E4 true (kP hji),E4 false (kP hji),hb,E3];exact hl j hj
  . have:=BJ (p:=fun j=>!S j) (p':=fun j=>!(S j||Nat.beq j i)) (i:=i) (by simp[hSi]) (by simp[bh]) (fun j hj=>by simp at hj ⊢;exact hj.1) (List.mem_range.2 hilt);omega
  . intro j o' hj hSj e he;simp only[g6] at hSj ⊢;rcases hSj with hSj|hSj
    . exact .inl (hc j o' hj hSj e he)
    . have:=av hSj;subst this;rw[ho] at hj;cases hj;exact .inl (hre e he)
  . have e1:(fun t=>dR D L (fun j=>S j||Nat.beq j i) t (List.range all.size) (tm t))=eI (fun t=>dR D L S t (List.range all.size) (tm t)) o.dst (L i).r:=by
     funext t;rw[Je (S:=S) (i:=i) (fun _=>rfl) (List.mem_range.2 hilt) (fun j hj h1 h2=>by
      have hj:=List.mem_range.1 hj;have hg:all[j]?=some all[j]:=by simp[hj]
      rw[hD i o ho] at h1;rw[hD j _ hg] at h2;exact hf.uniq j i _ o t hg ho h2 h1)]
     rw[hD i o ho];cases hdo:o.dst with
     |none=>simp[eI]
     |some d=>
      by_cases hdt:d=t
      . subst hdt;simp[eI,aT]
      . simp[eI,hdt,aD _ _ _ (kP hdt)]
    have e2:(fun id=>bxF L (fun j=>S j||Nat.beq j i) id (List.range all.size) (bx id))=gz (bH (fun id=>bxF L S id (List.range all.size) (bx id)) (L i).e.fz) (L i).e.wr:=by
     funext id;rw[Lo,C4 (S:=S) (i:=i) (fun _=>rfl) hSi wg (List.mem_range.2 hilt)];intro j hj hij hSj b;have hj:=List.mem_range.1 hj;have hnn:dJ tab i j=false:=by
      cases hn:dJ tab i j with
      |false=>rfl
      |true=>
       have:=same j hj hn;rw[hSj] at this;simp at this;omega
     have m1:=(hconf i j hilt hj).resolve_left (by rw[hnn];simp);have m2:=(hconf j i hj hilt).resolve_left (by rw[Bz,hnn];simp);exact QF m2 m1 id b
    rw[e1,e2];exact hS
end
structure Cx where
 P:Tz
 I:my->Prop
 T:me->Option TY
 hT:b8 P T
 hm:P.follows .mixedOrders=true
 bel:∀n w w',I w->w.heap.size<=n->Below n w w'->I w'
 mu:qe->Bool
 ma:qe->Bool
 ro:Option Nat->Prop
 r0:ro none
abbrev Cx.C(X:Cx):Ctr:=⟨X.ma,bq X.P X.I,X.mu,a7 X.P X.I,be X.P X.I⟩
theorem Cx.ok(X:Cx):CtrOk X.P X.I X.C:=⟨fun _ _ _ _ h=>h,fun _ _ _ h=>h,fun _ _ _ _ _ _ _ _ _ h=>h⟩
def qP(X:Cx)(all:Array X4)(draw:Bool)(Y:AS)(K:AS->Prop):Prop :=
 fR X.T X.C all all.toList Y.nx Y.tm Y.bx [] fun tm bx log=>match draw with
  |true=>Vy (kC all.toList) log.reverse=true/\K ⟨tm,bx,Y.nx+all.size⟩
  |false=>K ⟨tm,bx,Y.nx+all.size⟩
def CW(X:Cx)(nt:Nat)(c:X5)(Y:AS)(K:X6->AS->Prop):Prop :=
 ∀(ro:{ r:Option Nat // X.ro r }) (E:Env) (Q:X6->Act->my->Prop),(∀w,BelowO E.own E.w0 w->X.I w)->(∀e Y' M H U a w,K e Y'->St (E.mks M) nt H U Y'.tm Y'.bx a w->Q e a w)->
  ∀M H U a w,St (E.mks M) nt H U Y.tm Y.bx a w->c.wpIn (FW ro.1) 0 X.P Q a w
def Wa(X:Cx)(nt:Nat)(y:X5)(K:X6->AS->Prop):X6->AS->Prop
 | .normal,Y=>CW X nt y Y K
 |e,Y=>K e Y
def yW(id:Nat)(K:X6->AS->Prop):X6->AS->Prop
 | .exit i,Y=>bif Nat.beq i id then K .normal Y else K (.exit i) Y
 |e,Y=>K e Y
section
variable {X:Cx}{nt:Nat}{Y:AS}{K:X6->AS->Prop}
theorem CW.mono{c:X5}{K':X6->AS->Prop}(h:CW X nt c Y K')(hk:∀e Y,K' e Y->K e Y):CW X nt c Y K :=
 fun ro E Q hI hQ M H U a w hS=>h ro E Q hI (fun e Y' M H U a w k hS=>hQ e Y' M H U a w (hk _ _ k) hS) M H U a w hS
theorem CW.skip(h:K .normal Y):CW X nt .skip Y K:=fun _ _ _ _ hQ M H U a w hS=>wpIn_skip (hQ _ _ M H U a w h hS)
theorem CW.ret(h:K .ret Y):CW X nt .ret Y K:=fun _ _ _ _ hQ M H U a w hS=>wpIn_ret (hQ _ _ M H U a w h hS)
theorem CW.exit{id:Nat}(h:K (.exit id) Y):CW X nt (.exit id) Y K:=fun _ _ _ _ hQ M H U a w hS=>wpIn_exit (hQ _ _ M H U a w h hS)
theorem CW.label{l:Nat}(h:K .normal Y):CW X nt (.label l) Y K:=fun _ _ _ _ hQ M H U a w hS=>wpIn_label (hQ _ _ M H U a w h hS)
theorem CW.seq{x y:X5}(h:CW X nt x Y (Wa X nt y K)):CW X nt (.seq x y) Y K:=fun ro E Q hI hQ M H U a w hS=>
 wpIn_seq (h ro E _ hI (fun e Y' M H U a w k hS=>by
  cases e with
  |normal=>exact k ro E Q hI hQ M H U a w hS
  |_=>exact hQ _ _ M H U a w k hS) M H U a w hS)
theorem CW.cond{c:X0}{x y:X5}{t:Bool}(hc:evS Y.tm c=.iv (.bool t))(h1:t=true->CW X nt x Y K)(h2:t=false->CW X nt y Y K):CW X nt (.cond c x y) Y K:=fun ro E Q hI hQ M H U a w hS=>by
 have hv:=aW hS.sim rfl c;rw[hc] at hv;exact E5 (oe hv) (fun e=>h1 e ro E Q hI hQ M H U a w hS) (fun e=>h2 e ro E Q hI hQ M H U a w hS)
theorem CW.block{id:Nat}{c:X5}(h:CW X nt c Y (yW id K)):CW X nt (.block id c) Y K:=fun ro E Q hI hQ M H U a w hS=>
 wpIn_block (h ro E _ hI (fun e Y' M H U a w k hS=>by
  cases e with
  |exit i=>
   simp only[yW] at k;simp only[Exit.inBlock];by_cases hi:i=id
   . subst hi;rw[bh] at k;simp only[bD];exact hQ _ _ M H U a w k hS
   . have hb:Nat.beq i id=false:=by
      cases hb:Nat.beq i id
      . rfl
      . exact absurd (av hb) hi
     rw[hb] at k;simp only[hi,bG];exact hQ _ _ M H U a w k hS
  |_=>exact hQ _ _ M H U a w k hS) M H U a w hS)
theorem QJ{os:List X4}{recs:List Lg}(hl:recs.length=os.length)(D:Nat->Option Nat)(hD:∀i o,os[i]?=some o->D i=o.dst)(hu:∀(i j:Nat) (o o':X4) (d:Nat),os[i]?=some o->os[j]?=some o'->o.dst=some d->o'.dst=some d->i=j)(tm:Nat->SV)(bx:Nat->Option Bx):∀k,k<=os.length->
 (((os.zip recs).take k).foldl (fun tm p=>eI tm p.1.dst p.2.r) tm)=(fun t=>dR D (fun i=>recs.getD i default) (fun j=>decide (j<k)) t (List.range os.length) (tm t))/\
 (((os.zip recs).take k).foldl (fun bx p=>gz (bH bx p.2.e.fz) p.2.e.wr) bx)=(fun id=>bxF (fun i=>recs.getD i default) (fun j=>decide (j<k)) id (List.range os.length) (bx id)):=by
 intro k;induction k with
 |zero=>
  intro _;have z1:∀(t:Nat) (l:List Nat) (x:SV),dR D (fun i=>recs.getD i default) (fun j=>decide (j<0)) t l x=x:=by
   intro t l;induction l with
   |nil=>intro x;rfl
   |cons i l ih=>intro x;rw[dR,am (by simp)];exact ih x
  have z2:∀(t:Nat) (l:List Nat) (x:Option Bx),bxF (fun i=>recs.getD i default) (fun j=>decide (j<0)) t l x=x:=by
   intro t l;induction l with
   |nil=>intro x;rfl
   |cons i l ih=>intro x;rw[bxF,am (by simp)];exact ih x
  refine⟨?_,?_⟩
  . funext t;simp only[wh,tK];exact(z1 t _ _).symm
  . funext t;simp only[wh,tK];exact(z2 t _ _).symm
 |succ k ih=>
  intro hk;obtain⟨i1,i2⟩:=ih (by omega);have ho:os[k]?=some os[k]:=by simp
  have hr:recs[k]?=some (recs[k]'(by omega)):=by simp
  have hz:(os.zip recs)[k]?=some (os[k],recs[k]'(by omega)):=by
   rw[List.getElem?_zip_eq_some];exact⟨ho,hr⟩
  have hg:recs.getD k default=recs[k]'(by omega):=by simp[hr]
  have hS:∀j,decide (j<k+1)=(decide (j<k)||Nat.beq j k):=by
   intro j;by_cases h1:j<k
   . simp[h1];omega
   . by_cases h2:j=k
     . subst h2;simp[bh]
     . have hb:Nat.beq j k=false:=by
        cases hb:Nat.beq j k
        . rfl
        . exact absurd (av hb) h2
       simp[h1,hb];omega
  have hm:k∈List.range os.length:=List.mem_range.2 (by omega);constructor
  . rw[gg,AE,i1,hz];funext t;rw[Je (S:=fun j=>decide (j<k)) (i:=k) hS hm (fun j hj h1 h2=>by
     have hj:=List.mem_range.1 hj;have hgj:os[j]?=some os[j]:=by simp[hj]
     rw[hD k _ ho] at h1;rw[hD j _ hgj] at h2;exact hu j k _ _ t hgj ho h2 h1),hD k _ ho]
    simp only[E6,kL,tK,hg];cases hdo:os[k].dst with
    |none=>simp[eI]
    |some d=>
     by_cases hdt:d=t
     . subst hdt;simp[eI,aT]
     . simp[eI,hdt,aD _ _ _ (kP hdt)]
  . rw[gg,AE,i2,hz];funext id;rw[C4 (S:=fun j=>decide (j<k)) (i:=k) hS (by simp) wg hm (fun j _ h1 h2=>by simp at h2;omega)];simp only[E6,kL,tK];rw[Lo,hg]
theorem CW.region{id:Nat}{all:Array X4}{draw:Bool}(hd:cJ nt all.toList=true)(hf:draw=true->oB all (kC all.toList)=true)(h:qP X all draw Y (K .normal)):CW X nt (.region id all draw) Y K:=fun ro E Q hI hQ M H U a w hS=>by
 unfold qP at h;cases draw with
 |false=>
  exact wi (TK (E:=E.mks M) X.hT X.ok hI (fun H U tm bx log a w k hS=>hQ .normal ⟨tm,bx,Y.nx+all.size⟩ M H U a w k hS) hd hS h)
 |true=>
  have hfl:=CS (hf rfl);obtain⟨recs,e1,e2,e3,e4⟩:=Pb h;have hlen:all.toList.length=all.size:=by simp
  let D:Nat->Option Nat:=fun i=>(all[i]?).bind (·.dst)
  have hD:∀i o,all[i]?=some o->D i=o.dst:=fun i o ho=>by simp[D,ho]
  have hD':∀i o,all.toList[i]?=some o->D i=o.dst:=fun i o ho=>hD i o (by simpa using ho);have hu:∀(i j:Nat) (o o':X4) (d:Nat),all.toList[i]?=some o->all.toList[j]?=some o'->o.dst=some d->o'.dst=some d->i=j:=fun i j o o' d h1 h2=>hfl.uniq i j o o' d (by simpa using h1) (by simpa using h2);have zf:=QJ (D:=D) e1 hD' hu Y.tm Y.bx;rw[hlen] at zf;have hall:=zf all.size (ak _);have htk:(all.toList.zip recs).take all.size=all.toList.zip recs:=aC (by simp[e1]);rw[htk] at hall;rw[hall.1,hall.2] at e4;have t1:(fun t=>dR D (fun i=>recs.getD i default) (fun j=>decide (j<all.size)) t (List.range all.size) (Y.tm t))=(fun t=>dR D (fun i=>recs.getD i default) (fun _=>true) t (List.range all.size) (Y.tm t)) :=
   funext fun t=>ur fun i hi _=>by simpa using List.mem_range.1 hi
  have t2:(fun id=>bxF (fun i=>recs.getD i default) (fun j=>decide (j<all.size)) id (List.range all.size) (Y.bx id))=(fun id=>bxF (fun i=>recs.getD i default) (fun _=>true) id (List.range all.size) (Y.bx id)) :=
   funext fun id=>uz fun i hi hne=>absurd (by simpa using List.mem_range.1 hi) hne
  rw[t1,t2] at e4;refine Nd X.hm (VZ (E:=E.mks M) X.hT X.ok hI hd hfl (g:=Y.nx) (tm:=Y.tm) (bx:=Y.bx) hD (fun i=>recs.getD i default) (fun i o ho=>?_) (fun i j hi hj=>?_) (fun H U a w hS=>hQ .normal _ M H U a w e4 hS) all.size _ (fun _=>false) H U a _ (fun j hj=>?_) ?_ ?_ (Sim.drawn ?_))
  . have hlt:i<all.size:=(Array.getElem?_eq_some_iff.1 ho).1;have hr:recs[i]?=some (recs.getD i default):=by
     have:i<recs.length:=by omega
     simp[this]
    have:=e2 i o _ (by simpa using ho) hr;rw[(zf i (by omega)).1,(zf i (by omega)).2] at this;exact this
  . simp only[iw,pB] at e3;have hi':recs[i]?=some (recs.getD i default):=by
     have:i<recs.length:=by omega
     simp[this]
    have hj':recs[j]?=some (recs.getD j default):=by
     have:j<recs.length:=by omega
     simp[this]
    have:=FQ e3 i _ hi' j _ hj';rwa[aU] at this
  . simp[hj]
  . refine aY (AF _ _) (by simp)
  . intro j o _ h;cases h
  . have z1:∀(t:Nat) (l:List Nat) (x:SV),dR D (fun i=>recs.getD i default) (fun _=>false) t l x=x:=by
     intro t l;induction l with
     |nil=>intro x;rfl
     |cons i l ih=>intro x;rw[dR,am (by simp)];exact ih x
    have z2:∀(t:Nat) (l:List Nat) (x:Option Bx),bxF (fun i=>recs.getD i default) (fun _=>false) t l x=x:=by
     intro t l;induction l with
     |nil=>intro x;rfl
     |cons i l ih=>intro x;rw[bxF,am (by simp)];exact ih x
    simp only[z1,z2];exact hS
end
end Go.Proofs.Fl
namespace Go.Proofs.Fl
theorem aa{α U:Sort _}{a:α}{b:U}:a=a/\b=b:=⟨rfl,rfl⟩
open Go.RowKit
def rb(V:Nat->Nat):SV->SV
 | .ptr g off=>.ptr (V g) off
 | .ref g off n f=>.ref (V g) off n f
 | .eptr g i off=>.eptr (V g) i off
 | .clo f gs=>.clo f (gs.map V)
 | .cv v f gs=>.cv v f (gs.map V)
 |s=>s
def nN(bx:Nat->Option Bx):SV->Bool
 | .ptr g _=>(bx g).isSome
 | .ref g _ _ _=>(bx g).isSome
 | .eptr g _ _=>(bx g).isSome
 | .clo _ gs=>gs.all fun g=>(bx g).isSome
 | .cv _ _ gs=>gs.all fun g=>(bx g).isSome
 |_=>true
structure Wk(Y Y':AS):Prop where
 ex:∃ V:Nat->Nat,(∀t,Y'.tm t=.unk\/(Y.tm t=rb V (Y'.tm t)/\nN Y'.bx (Y'.tm t)=true))/\(∀g b,Y'.bx g=some b->b=.dead\/Y.bx (V g)=some b)/\
  (∀g g' b b',Y'.bx g=some b->Y'.bx g'=some b'->V g=V g'->g=g')/\(∀i,i<8->Y.bx (aK+i)=none\/(V (aK+i)=aK+i/\Y'.bx (aK+i)≠none))
section
variable {E:Env}{nt:Nat}{H:ah}{U:Nat->Nat × Nat}{a:Act}{w:my}{Y Y':AS}
theorem SR.weak{bx bx':Nat->Option Bx}{V:Nat->Nat}(hb:∀g b,bx' g=some b->b=.dead\/bx (V g)=some b){v:X3}:∀{s:SV},nN bx' s=true->SR H U bx v (rb V s)->SR H (fun g=>U (V g)) bx' v s
 | .unk,_,_=>trivial
 | .und,_,h=>h
 | .iv _,_,h=>h
 | .nilS,_,h=>h
 | .iptr _ _,_,h=>h
 | .yld _,_,h=>h
 | .val _,_,h=>h
 | .slN _,_,h=>h
 | .cv u f gs,ho,⟨h0,h1,h2⟩=>by
  simp only[nN,kO] at ho;refine⟨h0,fun g hg e=>?_,?_⟩
  . have:=ho g hg;rw[e] at this;cases this
  . rw[h2,fb];rfl
 | .clo f gs,ho,⟨h1,h2⟩=>by
  simp only[nN,kO] at ho;refine⟨fun g hg e=>?_,?_⟩
  . have:=ho g hg;rw[e] at this;cases this
  . rw[h2,fb];rfl
 | .ptr g off,ho,h=>by
  refine⟨?_,h.2⟩;simp only[nN] at ho;intro e;rw[e] at ho;cases ho
 | .ref g off n full,ho,h=>by
  simp only[nN] at ho;cases hg:bx' g with
  |none=>rw[hg] at ho;cases ho
  |some b=>
   cases b with
   |var=>simp only[SR,hg]
   |bld=>simp only[SR,hg]
   |arrN=>simp only[SR,hg]
   |dead=>simp only[SR,hg]
   |arr e sz es fz=>
    rcases hb g _ hg with h0|h0
    . cases h0
    . simp only[rb,SR,h0] at h;simp only[SR,hg];exact h
 | .eptr g i off,ho,h=>by
  simp only[nN] at ho;cases hg:bx' g with
  |none=>rw[hg] at ho;cases ho
  |some b=>
   cases b with
   |var=>simp only[SR,hg]
   |bld=>simp only[SR,hg]
   |dead=>simp only[SR,hg]
   |arrN p e sz es=>
    rcases hb g _ hg with h0|h0
    . cases h0
    . simp only[rb,SR,h0] at h;simp only[SR,hg];exact h
   |arr e sz es fz=>
    rcases hb g _ hg with h0|h0
    . cases h0
    . simp only[rb,SR,h0] at h;simp only[SR,hg];exact h
theorem St.weak(h:St E nt H U Y.tm Y.bx a w)(hw:Wk Y Y'):∃ U',St E nt H U' Y'.tm Y'.bx a w:=by
 obtain⟨V,h1,h2,h3,h4⟩:=hw.ex;refine⟨fun g=>U (V g),⟨h.sim.has,h.sim.below,h.sim.lo,h.sim.ext,fun t=>?_,fun g b hg=>?_,fun g g' b b' hg hg' ha ha' e=>?_,fun p k hk=>?_,h.sim.marks,fun g s g' b R hg hg' ha hR=>?_⟩,h.defers,h.size⟩
 . rcases h1 t with e|⟨e,ho⟩
   . rw[e];trivial
   . have:=h.sim.slot t;rw[e] at this;exact this.weak h2 ho
 . rcases h2 g b hg with e|e
   . subst e;trivial
   . exact h.sim.box _ _ e
 . rcases h2 g b hg with e1|e1
   . subst e1;cases ha
   . rcases h2 g' b' hg' with e2|e2
     . subst e2;cases ha'
     . exact h3 g g' b b' hg hg' (h.sim.inj _ _ _ _ e1 e2 ha ha' e)
 . obtain⟨p1,p2,p3,p4⟩:=h.sim.pin p k hk;rcases h4 (p-aK) (by omega) with e|⟨e1,e2⟩
   . rw[show aK+(p-aK)=p by omega] at e;exact absurd e p2
   . rw[show aK+(p-aK)=p by omega] at e1 e2;exact⟨by show U (V p)=k;rw[e1];exact p1,e2,p3,p4⟩
 . rcases h2 g _ hg with e1|e1
   . cases e1
   . rcases h2 g' b hg' with e2|e2
     . subst e2;cases ha
     . exact h.sim.hid _ s _ b R e1 e2 ha hR
end
def mK:List (Nat×SV)->Nat->SV
 | [],_=>.unk
 |p::l,t=>bif Nat.beq t p.1 then p.2 else mK l t
def dw:List (Nat×Bx)->Nat->Option Bx
 | [],_=>none
 |p::l,t=>bif Nat.beq t p.1 then some p.2 else dw l t
def aF(l:List (Nat×SV))(m:List (Nat×Bx))(nx:Nat):AS:=⟨mK l,dw m,nx⟩
def mL:List (Nat×Nat)->Nat->Nat
 | [],g=>g
 |p::l,g=>bif Nat.beq g p.1 then p.2 else mL l g
def De(tm:Nat->SV)(r:List (Nat×Nat))(bx':Nat->Option Bx):List (Nat×SV)->Prop
 | []=>True
 |p::l=>(tm p.1=rb (mL r) p.2/\nN bx' p.2=true)/\De tm r bx' l
def ve(bx:Nat->Option Bx)(r:List (Nat×Nat)):List (Nat×Bx)->Prop
 | []=>True
 |p::l=>bx (mL r p.1)=some p.2/\ve bx r l
theorem xN:∀{l:List (Nat×SV)} {t:Nat},mK l t=.unk\/(t,mK l t)∈l
 | [],_=>.inl rfl
 |p::l,t=>by
  unfold mK;cases h:Nat.beq t p.1 with
  |true=>
   have:=av h;subst this;exact .inr (by simp)
  |false=>
   rcases xN (l:=l) (t:=t) with h|h
   . exact .inl h
   . exact .inr (eB _ h)
theorem iS:∀{l:List (Nat×Bx)} {t:Nat} {b:Bx},dw l t=some b->(t,b)∈l
 | [],_,_,h=>by simp[dw] at h
 |p::l,t,b,h=>by
  unfold dw at h;cases hb:Nat.beq t p.1 with
  |true=>
   have:=av hb;subst this;simp[hb] at h;rw[<-h];simp
  |false=>
   rw[hb] at h;exact eB _ (iS h)
theorem Gf{tm:Nat->SV}{r:List (Nat×Nat)}{bx':Nat->Option Bx}:∀{l:List (Nat×SV)},De tm r bx' l->∀p∈l,tm p.1=rb (mL r) p.2/\nN bx' p.2=true
 | [],_,p,h=>by simp at h
 |q::l,hs,p,h=>by
  rcases List.mem_cons.1 h with rfl|h
  . exact hs.1
  . exact Gf hs.2 p h
theorem wX{bx:Nat->Option Bx}{r:List (Nat×Nat)}:∀{l:List (Nat×Bx)},ve bx r l->∀p∈l,bx (mL r p.1)=some p.2
 | [],_,p,h=>by simp at h
 |q::l,hs,p,h=>by
  rcases List.mem_cons.1 h with rfl|h
  . exact hs.1
  . exact wX hs.2 p h
def nD(bx:Nat->Option Bx)(r:List (Nat×Nat))(m:List (Nat×Bx))(i:Nat):Prop:=bx (aK+i)=none\/(mL r (aK+i)=aK+i/\(dw m (aK+i)).isSome=true)
def pinsW(bx:Nat->Option Bx)(r:List (Nat×Nat))(m:List (Nat×Bx)):Prop:=nD bx r m 0/\nD bx r m 1/\nD bx r m 2/\nD bx r m 3/\nD bx r m 4/\nD bx r m 5/\nD bx r m 6/\nD bx r m 7
theorem pinsW.get{bx:Nat->Option Bx}{r:List (Nat×Nat)}{m:List (Nat×Bx)}(h:pinsW bx r m):∀i,i<8->nD bx r m i
 |0,_=>h.1
 |1,_=>h.2.1
 |2,_=>h.2.2.1
 |3,_=>h.2.2.2.1
 |4,_=>h.2.2.2.2.1
 |5,_=>h.2.2.2.2.2.1
 |6,_=>h.2.2.2.2.2.2.1
 |7,_=>h.2.2.2.2.2.2.2
 |n+8,hn=>absurd hn (by omega)
theorem Wk.tab{Y:AS}{l:List (Nat×SV)}{m:List (Nat×Bx)}{nx:Nat}(r:List (Nat×Nat))(h1:De Y.tm r (dw m) l)(h2:ve Y.bx r m)(h3:uniq (m.map fun p=>(mL r p.1,p.1))=true)
 (h4:pinsW Y.bx r m:=by(refine⟨?_,?_,?_,?_,?_,?_,?_,?_⟩<;>first|exact .inl rfl|exact .inr ⟨rfl,rfl⟩)):Wk Y (aF l m nx):=by
 refine⟨mL r,fun t=>?_,fun g b hg=>?_,fun g g' b b' hg hg' e=>?_,fun i hi=>(h4.get i hi).imp id fun e=>⟨e.1,fun en=>by have:=e.2;rw[show dw m (aK+i)=none from en] at this;cases this⟩⟩
 . rcases xN (l:=l) (t:=t) with h|h
   . exact .inl h
   . have:=Gf h1 _ h;exact .inr this
 . exact .inr (wX h2 _ (iS hg))
 . have m1:=iS hg;have m2:=iS hg';have:=Bl h3 (mL r g,g) (List.mem_map.2 ⟨_,m1,rfl⟩) (mL r g',g') (List.mem_map.2 ⟨_,m2,rfl⟩) e;exact(Prod.mk.inj this).2
theorem Rn{p:Nat->Prop}:∀{n:Nat},p n->∃m,p m/\∀k,p k->m<=k:=by
 intro n;induction n using Nat.strongRecOn with
 |_ n ih=>
  intro hn;by_cases h:∃k,k<n/\p k
  . obtain⟨k,h1,h2⟩:=h;exact ih k h1 h2
  . exact⟨n,hn,fun k hk=>by
     rcases fx k n with h'|h'
     . exact absurd ⟨k,h',hk⟩ h
     . exact h'⟩
open Classical in
noncomputable def nj(p:Nat->Prop):Nat:=if h:∃m,p m/\∀k,p k->m<=k then h.choose else 0
theorem wP{p:Nat->Prop}{n:Nat}(h:p n):p (nj p)/\nj p<=n:=by
 have he:=Rn h;unfold nj;rw[dif_pos he];exact⟨he.choose_spec.1,he.choose_spec.2 n h⟩
def LH{G:Type}(inv:G->AS)(μ:G->Nat)(g:G)(K:X6->AS->Prop):X6->AS->Prop
 | .normal,Y=>∃g',Wk Y (inv g')/\μ g'<μ g
 |e,Y=>K e Y
def LJ{G:Type}(inv:G->AS)(K:X6->AS->Prop):X6->AS->Prop
 | .normal,Y=>∃g',Wk Y (inv g')
 |e,Y=>K e Y
section
variable {X:Cx}{nt:Nat}{Y:AS}{K:X6->AS->Prop}
theorem CW.weak{c:X5}{Y':AS}(hw:Wk Y Y')(h:CW X nt c Y' K):CW X nt c Y K:=fun ro E Q hI hQ M H U a w hS=>by
 obtain⟨U',hS'⟩:=hS.weak hw;exact h ro E Q hI hQ M H U' a w hS'
theorem CW.loop{G:Type}(inv:G->AS)(μ:G->Nat){c:X5}(g0:G)(h0:Wk Y (inv g0))(h:∀g,CW X nt c (inv g) (LH inv μ g K)):CW X nt (.loop c) Y K:=fun ro E Q hI hQ M0 H U a w hS=>by
 let J:G->Act->my->Prop:=fun g a w=>∃M H U,St (E.mks M) nt H U (inv g).tm (inv g).bx a w
 let M:Act->my->Nat:=fun a w=>nj fun n=>∃g,μ g=n/\J g a w
 obtain⟨β0,hS0⟩:=hS.weak h0;refine wpIn_loop (fun a w=>∃g,J g a w) M ⟨g0,M0,H,β0,hS0⟩ fun a w ⟨g1,hJ1⟩=>?_;obtain⟨⟨g,e,hJ⟩,_⟩:=wP (p:=fun n=>∃g,μ g=n/\J g a w) ⟨g1,rfl,hJ1⟩;obtain⟨M1,H1,β1,hS1⟩:=hJ;refine h g ro E _ hI (fun e' Y' M2 H U a' w' k hS=>?_) M1 H1 β1 a w hS1;cases e' with
 |normal=>
  obtain⟨g',hw,hlt⟩:=k;obtain⟨U',hS'⟩:=hS.weak hw;have hJ':J g' a' w':=⟨M2,H,U',hS'⟩;have:=(wP (p:=fun n=>∃g,μ g=n/\J g a' w') ⟨g',rfl,hJ'⟩).2;refine⟨⟨g',hJ'⟩,?_⟩;show nj _<nj _;rw[<-e];exact jP this hlt
 |_=>exact hQ _ _ M2 H U a' w' k hS
theorem CW.join{G:Type}(inv:G->AS){x y:X5}(h1:CW X nt x Y (LJ inv K))(h2:∀g,CW X nt y (inv g) K):CW X nt (.seq x y) Y K:=CW.seq (h1.mono fun e Y' k=>by
 cases e with
 |normal=>obtain⟨g,hw⟩:=k;exact CW.weak hw (h2 g)
 |_=>exact k)
end
def argS:List IV->Nat->SV
 | [],_=>.und
 |x::_,0=>.iv x
 |_::l,t+1=>argS l t
def ku(T:me->Option TY)(tm:Nat->SV)(bx:Nat->Option Bx):List ResultVar->Option (List IV×List Nat)
 | []=>some ([],[])
 | .tmp t::rs=>match dB bx (tm t) with
  |some (x,f)=>match ku T tm bx rs with
   |some (xs,fs)=>some (x::xs,f++fs)
   |none=>none
  |none=>none
 | .cell a t::rs=>match T t,tm a with
  |some ty,.ptr g off=>match bx g with
   |some (.var y)=>match ji ty.sh.agg ty.size y off with
    |some x=>match ku T tm bx rs with
     |some (xs,fs)=>some (x::xs,fs)
     |none=>none
    |none=>none
   |_=>none
  |_,_=>none
def hG:List IV->IV
 | [x]=>x
 |xs=>.tup xs
def oQ(T:me->Option TY)(rs:List ResultVar)(r:IV)(Y:AS):Prop :=
 match ku T Y.tm Y.bx rs with
 |some (xs,_)=>hG xs=r
 |none=>False
def Mb(T:me->Option TY)(rs:List ResultVar)(r:IV):X6->AS->Prop
 | .normal,Y=>oQ T rs r Y
 | .ret,Y=>oQ T rs r Y
 |_,_=>False
theorem Cy{T:me->Option TY}{tm:Nat->SV}{bx:Nat->Option Bx}(f:List Nat):∀{rs:List ResultVar} {r:List IV×List Nat},ku T tm bx rs=some r->ku T tm (bH bx f) rs=some r
 | [],r,h=>h
 | .tmp t::rs,r,h=>by
  simp only[ku,uR] at h ⊢;split at h
  . split at h
    . rename_i h2;rw[Cy f h2];exact h
    . cases h
  . cases h
 | .cell a t::rs,r,h=>by
  simp only[ku] at h ⊢;split at h
  . split at h
    . rename_i hb;rw[BG f _ _ _ hb];split at h
      . split at h
        . rename_i h1 _ _ _ h2;simp only[h1,Cy f h2];exact h
        . cases h
      . cases h
    . cases h
  . cases h
def mq(tmps:Array X3):ResultVar->Sem X3
 | .tmp t=>pure (tmps.getD t undef)
 | .cell a t=>do loadVar t (<- asAddr (tmps.getD a undef))
theorem xQ{P:Tz}{T:me->Option TY}(hT:b8 P T){E:Env}{tmps:Array X3}{w:my}{U:Nat->Nat×Nat}{tm:Nat->SV}:∀{rs:List ResultVar} {H:ah} {bx:Nat->Option Bx} (_:Sim E H U tm bx tmps w) {xs:List IV} {fs:List Nat},ku T tm bx rs=some (xs,fs)->
 ∃H',HLe H H'/\Sim E H' U tm (bH bx fs) tmps w/\∃vs:List X3,(rs.mapM (mq tmps)).run P w=.ok vs w/\VRL H' vs xs
 | [],H,bx,h,xs,fs,hr=>by
  simp only[ku,ae,aA] at hr;obtain⟨rfl,rfl⟩:=hr;exact⟨H,HLe.refl _,h,[],by simp,.nil⟩
 | .tmp t::rs,H,bx,h,xs,fs,hr=>by
  simp only[ku] at hr;split at hr
  . rename_i x f h1;split at hr
    . rename_i ys gs h2;simp only[ae,aA] at hr;obtain⟨rfl,rfl⟩:=hr;obtain⟨H1,l1,S1,V1⟩:=md h (h.slot t) h1;obtain⟨H2,l2,S2,vs,e,V2⟩:=xQ hT S1 (Cy f h2);refine⟨H2,l1.trans l2,by rw[ua];exact S2,tmps.getD t undef::vs,?_,.cons _ _ _ _ (V1.mono l2) V2⟩;simp only[AG,mq,au,aw,ar,e]
    . cases hr
  . cases hr
 | .cell a t::rs,H,bx,h,xs,fs,hr=>by
  simp only[ku] at hr;split at hr
  . rename_i ty g off ht ha;split at hr
    . rename_i y hb;split at hr
      . rename_i x hl;split at hr
        . rename_i ys gs h2;simp only[ae,aA] at hr;obtain⟨rfl,rfl⟩:=hr;obtain⟨i,d,z,ok⟩:=aO (hT t ty ht);have hv:=h.slot a;rw[ha] at hv;obtain⟨_,hv⟩:=hv;obtain⟨_,_,_,v,e,h4,h5⟩:=h.box g _ hb;obtain⟨u,hr,hu⟩:=rI (base:=0) ok h5 h4 (by rw[bL,aC (by simp)]) hl;rw[aU] at hr;obtain⟨H2,l2,S2,vs,e2,V2⟩:=xQ hT h h2;refine⟨H2,l2,S2,u::vs,?_,.cons _ _ _ _ (hu.mono l2) V2⟩;simp only[AG,mq,hv,asAddr,au,aw,ar,hr,e2]
        . cases hr
      . cases hr
    . cases hr
  . cases hr
theorem xL:∀{xs:List IV} {t:Nat},argS xs t=(match xs[t]? with|some x=>.iv x|none=>.und)
 | [],_=>rfl
 |x::l,0=>rfl
 |x::l,t+1=>by rw[argS,xL];rfl
theorem Sim.poke{E:Env}{H:ah}{U:Nat->Nat×Nat}{tm:Nat->SV}{bx:Nat->Option Bx}{tmps:Array X3}{w:my}(h:Sim E H U tm bx tmps w){D:Nat}{o:Obj}(o':Obj)(hD:w.heap[D]?=some o)(hc:o.isCells=false)
 (ho:E.own D) (hm:∀d∈E.mrk,d≠ { target:=.collected D,args := #[] }):Sim E H U tm bx tmps (w.putObj D o') where
 has b arr e:=by
  obtain⟨t,fr,ht⟩:=h.has b arr e;refine⟨t,fr,(cH fun e'=>?_).trans ht⟩;rw[e',hD] at ht;cases ht;cases hc
 below:=h.below.trans ⟨rfl,rfl,rfl,by simp,fun k hk=>cH fun e=>hk (by rw[e];exact ho)⟩
 lo k hk:=h.lo k (by simpa using hk)
 ext:=h.ext
 slot:=h.slot
 box g b hg:=by
  by_cases ha:b.alive=true
  . refine(h.box g b hg).keep (cH fun e=>?_) (HLe.refl _) id (fun s R eb hR=>⟨cH fun e=>?_,id⟩)
    . obtain⟨arr,e',hx⟩:=(h.box g b hg).cells ha;rw[e,hD] at hx;cases hx;cases hc
    . subst eb;obtain⟨_,_,arr,_,fz,hx⟩:=jY (h.box g _ hg).2.2.1 hR;rw[e,hD] at hx;cases hx;cases hc
  . cases b<;>first|trivial|simp[Bx.alive] at ha
 inj:=h.inj
 pin:=h.pin
 marks:=⟨h.marks.1,fun d hd=>by
  obtain⟨D',e,ho',hb⟩:=h.marks.2 d hd;refine⟨D',e,ho',(cH fun e'=>?_).trans hb⟩;exact hm d hd (by rw[e,e'])⟩
 hid g s g' b R h1 h2 ha hR:=h.hid g s g' b R h1 h2 ha (hR.sm (cH fun e=>by
  obtain⟨arr,e',hx⟩:=(h.box g _ h1).cells rfl;rw[e,hD] at hx;cases hx;cases hc))
theorem Sim.unmark{E:Env}{M M':List Deferred}{H:ah}{U:Nat->Nat×Nat}{tm:Nat->SV}{bx:Nat->Option Bx}{tmps:Array X3}{w:my}(h:Sim (E.mks M) H U tm bx tmps w)(hm:MarksOk E.own M' w):Sim (E.mks M') H U tm bx tmps w :=
 ⟨h.has,h.below,h.lo,h.ext,h.slot,h.box,h.inj,h.pin,hm,h.hid⟩
theorem si{P:Tz}{fn:Func}{R:Ending->my->Prop}{E:Env}{nt:Nat}{H:ah}{U:Nat->Nat×Nat}{tm:Nat->SV}{bx:Nat->Option Bx}:∀(M:List Deferred) {a:Act} {w:my},St (E.mks M) nt H U tm bx a w->
 (∀a' w',St (E.mks []) nt H U tm bx a' w'->a'.tmps=a.tmps->∃v,(results fn a'.tmps).run P w'=.ok v w'/\R (.returned v) w')->LeavesInM (FW none) 0 P fn a.tmps R M .returning w
 | [],a,w,h,hk=>hk a w h rfl
 |d::M,a,w,h,hk=>by
  obtain⟨D,e,ho,hb⟩:=h.sim.marks.2 d (by simp);have hp:=h.sim.marks.1;refine⟨by simp,.inl ⟨D,w.putObj D (.deferred none),by rw[e],Nf hb,?_⟩⟩;have h1:=h.sim.unmark (M':=M) ⟨(List.pairwise_cons.1 hp).2,fun d' hd'=>h.sim.marks.2 d' (eB _ hd')⟩;have h2:=h1.poke (.deferred none) hb rfl ho (fun d' hd' e'=>(List.pairwise_cons.1 hp).1 d' hd' (by rw[e,e']));exact si M (a:={ a with defers:=M }) ⟨h2,rfl,h.size⟩ hk
theorem S6{X:Cx}{f:qe}{fn:Func}{c:X5}(hf:X.P.funcs[f]?=some fn)(hb:fn.body=some c)(hn:(fn.name == "runtime.NumGoroutine")=false){xs:List IV}{r:IV}(hx:xs.length<=fn.ntmps)
 (h:CW X fn.ntmps c ⟨argS xs,fun _=>none,0⟩ (Mb X.T fn.results.toList r)):a7 X.P X.I f xs r:=by
 refine⟨⟨fn,hf,hn,by rw[hb];rfl⟩,fun H w args hI hH hargs=>?_⟩;have hlen:=hargs.length;refine(wc (n:=0)).1 (wj hf hb trivial ?_);refine h ⟨none,X.r0⟩ ⟨fun k=>w.heap.size<=k,w,H,fun _=>none,[]⟩ _ (fun w' hw'=>X.bel _ _ _ hI (ak _) hw'.below) (fun e Y' M H' U a0 w0 k hS0=>?_) [] H (fun _=>(0,0)) _ w ⟨⟨hH,BelowO.refl _ _,fun _ hk=>hk,HExtO.refl _ _,fun t=>?_,fun g b hg=>(by cases hg),fun g g' b b' hg=>(by cases hg),fun p k hk=>(by cases hk),MarksOk.nil _ _,fun g s g' b R hg=>(by cases hg)⟩,rfl,?_⟩
 . have key:oQ X.T fn.results.toList r Y'->∀a' w',St ⟨fun k=>w.heap.size<=k,w,H,fun _=>none,[]⟩ fn.ntmps H' U Y'.tm Y'.bx a' w'->a'.tmps=a0.tmps->∃v,(results fn a'.tmps).run X.P w'=.ok v w'/\(∃v1 H1,Ending.returned v=.returned v1/\HeapHas w' H1/\HExt w.heap.size H H1/\VR H1 v1 r/\Below w.heap.size w w'):=fun k a' w' hS _=>by
    unfold oQ at k;split at k
    . rename_i ys fs hr;obtain⟨H1,l1,S1,vs,e1,V1⟩:=xQ X.hT hS.sim hr;refine⟨(if h:vs.toArray.size=1 then vs.toArray[0] else .tuple vs.toArray),?_,_,H1,rfl,S1.has,S1.ext,?_,S1.below.below⟩
      . unfold results;have e0:(fn.results.mapM fun | .tmp t=>pure (a'.tmps.getD t undef) | .cell a t=>do loadVar t (<- asAddr (a'.tmps.getD a undef)):Sem (Array X3))=List.toArray <$> fn.results.toList.mapM (mq a'.tmps):=by
         rw[E7];rfl
        refine(aJ (fun(x:Sem (Array X3))=>(x >>= fun vs=>pure (if h:vs.size=1 then vs[0] else .tuple vs)).run X.P w') e0).trans ?_;simp only[au,E8,e1,ar,aw]
      . rw[<-k];cases V1 with
        |nil=>exact .tup [] [] .nil
        |cons v x vs xs h0 t=>
         cases t with
         |nil=>exact h0
         |cons v' x' vs xs h1 t=>
          have:¬(v::v'::vs).toArray.size=1:=by simp
          rw[dif_neg this];exact .tup _ _ (.cons _ _ _ _ h0 (.cons _ _ _ _ h1 t))
    . exact k.elim
   cases e with
   |normal=>(show LeavesInM (FW none) 0 X.P fn a0.tmps (fun e w'=>∃v H',e=.returned v/\HeapHas w' H'/\HExt w.heap.size H H'/\VR H' v r/\Below w.heap.size w w') a0.defers .returning w0;rw[hS0.defers];exact si M hS0 (key k))
   |ret=>(show LeavesInM (FW none) 0 X.P fn a0.tmps (fun e w'=>∃v H',e=.returned v/\HeapHas w' H'/\HExt w.heap.size H H'/\VR H' v r/\Below w.heap.size w w') a0.defers .returning w0;rw[hS0.defers];exact si M hS0 (key k))
   |_=>exact k.elim
 . show SR _ _ _ _ (argS xs t);rw[xL];cases hx':xs[t]? with
   |some x=>
    have hlt:t<args.length:=by rw[hlen];exact(List.getElem?_eq_some_iff.1 hx').1
    obtain⟨v,h1,h2⟩:=hargs.get t x hx';have:(args.toArray++Array.replicate (fn.ntmps-args.toArray.size) undef).getD t undef=v:=by
     simp[jp,hlt];exact(List.getElem?_eq_some_iff.1 h1).2
    rw[this];exact h2
   |none=>
    have hge:¬t<args.length:=by
     intro hlt;rw[hlen] at hlt;simp[hlt] at hx'
    show _=undef;simp[jp,hge,wk];split<;>rfl
 . show(args.toArray++Array.replicate (fn.ntmps-args.toArray.size) undef).size=fn.ntmps;simp;omega
def resF(T:me->Option TY)(Y:AS)(rs:List ResultVar):Bool :=
 match ku T Y.tm Y.bx rs with
 |some (_,fs)=>!fs.any (Nat.beq aK)
 |none=>false
def Ms(off n:Nat)(xs:List IV):Nat->SV
 |0=>.ref aK off n false
 |t+1=>argS xs t
def Ma(T:me->Option TY)(rs:List ResultVar)(b:Bx)(r:IV):X6->AS->Prop
 | .normal,Y=>oQ T rs r Y/\Y.bx aK=some b/\resF T Y rs=true
 | .ret,Y=>oQ T rs r Y/\Y.bx aK=some b/\resF T Y rs=true
 |_,_=>False
theorem Vz{X:Cx}{f:qe}{fn:Func}{c:X5}(hf:X.P.funcs[f]?=some fn)(hb:fn.body=some c)(hn:(fn.name == "runtime.NumGoroutine")=false){e:me}{sz off n:Nat}{es es':List IV}{xs:List IV}{r:IV}(hx:xs.length+1<=fn.ntmps)
 (h:CW X fn.ntmps c ⟨Ms off n xs,dw [(aK,.arr e sz es false)],0⟩ (Ma X.T fn.results.toList (.arr e sz es' false) r)):be X.P X.I f e sz off n es xs es' r:=by
 refine⟨⟨fn,hf,hn,by rw[hb];rfl⟩,fun H w b cap capS args hI hH hbr hc1 hc2 hc3 hargs=>?_⟩;have hlen:=hargs.length;have hblt:b<w.heap.size:=hbr.lt rfl;refine(wc (n:=0)).1 (wj hf hb trivial ?_);refine h ⟨none,X.r0⟩ ⟨fun k=>k=b\/w.heap.size<=k,w,H,fun g=>bif Nat.beq g aK then some (b,cap) else none,[]⟩ _ (fun w' hw'=>hI w' hw') (fun e1 Y' M H' U a0 w0 k hS0=>?_) [] H (fun _=>(b,cap)) _ w ⟨⟨hH,BelowO.refl _ _,fun _ hk=>.inr hk,HExtO.refl _ _,fun t=>?_,fun g b0 hg=>?_,fun g g' b0 b' hg hg' _ _ _=>?_,fun p k hk=>?_,MarksOk.nil _ _,fun g s g' b R hg=>(by simp only[dw] at hg;cases hb:Nat.beq g aK<;>rw[hb] at hg<;>cases hg)⟩,rfl,?_⟩
 . have key:(oQ X.T fn.results.toList r Y'/\Y'.bx aK=some (.arr e sz es' false)/\resF X.T Y' fn.results.toList=true)->∀a' w',St ⟨fun k=>k=b\/w.heap.size<=k,w,H,fun g=>bif Nat.beq g aK then some (b,cap) else none,[]⟩ fn.ntmps H' U Y'.tm Y'.bx a' w'->a'.tmps=a0.tmps->∃v,(results fn a'.tmps).run X.P w'=.ok v w'/\(∃v1 H1,Ending.returned v=.returned v1/\HeapHas w' H1/\HExtO (fun k=>w.heap.size<=k) H H1/\VR H1 v1 r/\BelowO (fun k=>k=b\/w.heap.size<=k) w w'/\BR (fun k=>k=b\/w.heap.size<=k) w' H1 (b,cap) (.arr e sz es' false)):=fun⟨k,kb,kf⟩ a' w' hS _=>by
    unfold oQ at k;unfold resF at kf;split at k
    . rename_i ys fs hr;rw[hr] at kf;have hnf:¬aK∈fs:=fun hm=>by
       simp only[C5.2 hm] at kf;cases kf
      obtain⟨H1,l1,S1,vs,e2,V1⟩:=xQ X.hT hS.sim hr;have hp:=S1.pin aK (b,cap) rfl;have hbx:bH Y'.bx fs aK=some (.arr e sz es' false):=by rw[rJ fs _ _ hnf];exact kb
      have hbr':=S1.box aK _ hbx;rw[hp.1] at hbr';refine⟨(if h:vs.toArray.size=1 then vs.toArray[0] else .tuple vs.toArray),?_,_,H1,rfl,S1.has,⟨S1.ext.1,fun k arr hk=>?_⟩,?_,S1.below,hbr'⟩
      . unfold results;have e0:(fn.results.mapM fun | .tmp t=>pure (a'.tmps.getD t undef) | .cell a t=>do loadVar t (<- asAddr (a'.tmps.getD a undef)):Sem (Array X3))=List.toArray <$> fn.results.toList.mapM (mq a'.tmps):=by
         rw[E7];rfl
        refine(aJ (fun(x:Sem (Array X3))=>(x >>= fun vs=>pure (if h:vs.size=1 then vs[0] else .tuple vs)).run X.P w') e0).trans ?_;simp only[au,E8,e2,ar,aw]
      . rcases S1.ext.2 k arr hk with h0|h0
        . exact .inl h0
        . rcases h0 with h0|h0
          . subst h0;have hnone:H1 k=none:=by simpa using hbr'.2.choose_spec.choose_spec.2.1
            rw[hnone] at hk;cases hk
          . exact .inr h0
      . rw[<-k];cases V1 with
        |nil=>exact .tup [] [] .nil
        |cons v x vs xs h0 t=>
         cases t with
         |nil=>exact h0
         |cons v' x' vs xs h1 t=>
          have:¬(v::v'::vs).toArray.size=1:=by simp
          rw[dif_neg this];exact .tup _ _ (.cons _ _ _ _ h0 (.cons _ _ _ _ h1 t))
    . exact k.elim
   cases e1 with
   |normal=>(show LeavesInM (FW none) 0 X.P fn a0.tmps (fun e' w'=>∃v H',e'=.returned v/\HeapHas w' H'/\HExtO (fun k=>w.heap.size<=k) H H'/\VR H' v r/\BelowO (fun k=>k=b\/w.heap.size<=k) w w'/\
    BR (fun k=>k=b\/w.heap.size<=k) w' H' (b,cap) (.arr e sz es' false)) a0.defers .returning w0;rw[hS0.defers];exact si M hS0 (key k))
   |ret=>(show LeavesInM (FW none) 0 X.P fn a0.tmps (fun e' w'=>∃v H',e'=.returned v/\HeapHas w' H'/\HExtO (fun k=>w.heap.size<=k) H H'/\VR H' v r/\BelowO (fun k=>k=b\/w.heap.size<=k) w w'/\
    BR (fun k=>k=b\/w.heap.size<=k) w' H' (b,cap) (.arr e sz es' false)) a0.defers .returning w0;rw[hS0.defers];exact si M hS0 (key k))
   |_=>exact k.elim
 . cases t with
   |zero=>
    show SR _ _ _ _ (.ref aK off n false);have hb0:dw [(aK,Bx.arr e sz es false)] aK=some (.arr e sz es false):=rfl;simp only[SR,hb0];refine⟨capS,?_,hc1,hc2,hc3,by simp⟩;simp[jp]
   |succ t=>
    show SR _ _ _ _ (argS xs t);rw[xL];cases hx':xs[t]? with
    |some x=>
     have hlt:t<args.length:=by rw[hlen];exact(List.getElem?_eq_some_iff.1 hx').1
     obtain⟨v,h1,h2⟩:=hargs.get t x hx';have:((.slice (some ⟨b,off*sz,none⟩) n capS::args).toArray++Array.replicate (fn.ntmps-(.slice (some ⟨b,off*sz,none⟩) n capS::args).toArray.size) undef).getD (t+1) undef=v:=by
      simp[jp,hlt];exact(List.getElem?_eq_some_iff.1 h1).2
     rw[this];exact h2
    |none=>
     have hge:¬t<args.length:=by
      intro hlt;rw[hlen] at hlt;simp[hlt] at hx'
     show _=undef;simp[jp,hge,wk];split<;>rfl
 . have hm:=iS hg;simp at hm;obtain⟨rfl,rfl⟩:=hm;exact hbr
 . have hm:=iS hg;have hm':=iS hg';simp at hm hm';rw[hm.1,hm'.1]
 . replace hk:(bif Nat.beq p aK then some (b,cap) else none)=some k:=hk
   cases hb:Nat.beq p aK with
   |false=>rw[hb] at hk;cases hk
   |true=>
    rw[hb] at hk;cases hk;have e:=av hb;subst e;exact⟨rfl,by simp[dw,bh],by omega,ak _⟩
 . show((Value.slice (some ⟨b,off*sz,none⟩) n capS::args).toArray++Array.replicate (fn.ntmps-(Value.slice (some ⟨b,off*sz,none⟩) n capS::args).toArray.size) undef).size=fn.ntmps;simp;omega
end Go.Proofs.Fl
namespace Go.Proofs.Fl
open Go.RowKit
inductive Tr where
 |leaf (b:Nat) (l:List (Option TY))
 |node (k:Nat) (l r:Tr)
def DV:List (Option TY)->Nat->Option TY
 | [],_=>none
 |x::_,0=>x
 |_::l,n+1=>DV l n
theorem Hd:∀{l:List (Option TY)} {n:Nat},l.length<=n->DV l n=none
 | [],_,_=>rfl
 |_::_,0,h=>by cases h
 |_::l,n+1,h=>Hd (l:=l) (n:=n) (by simpa using h)
noncomputable def Tr.get:Tr->Nat->Option TY
 | .leaf b l,t=>DV l (t-b)
 | .node k l r,t=>bif Nat.blt t k then l.get t else r.get t
def Tr.small(n:Nat):Tr->Bool
 | .leaf b l=>Nat.ble (b+l.length) n
 | .node k _ r=>Nat.ble k n&&r.small n
theorem GU{n t:Nat}(hn:n<=t):∀{s:Tr},s.small n=true->s.get t=none
 | .leaf b l,h=>Hd (by rw[Tr.small,Nat.ble_eq] at h;omega)
 | .node k l r,h=>by
  simp only[Tr.small,az,Nat.ble_eq] at h;have:Nat.blt t k=false:=by
   cases hb:Nat.blt t k
   . rfl
   . rw[cY] at hb;omega
  rw[Tr.get,this];exact GU hn h.2
def q1:TY:=⟨.int .i64,1,8,.int .i64 0,[]⟩
def q2:TY:=⟨.bool,1,1,.bool false,[]⟩
def q4:TY:=⟨.struct,4,24,.agg [.int .i64 0,.int .i64 0,.bool false,.int .u8 0],[(0,false,1),(1,false,1),(2,false,1),(3,false,1)]⟩
def q5:TY:=⟨.string,1,16,.str [],[]⟩
def q6:TY:=⟨.int .u64,1,8,.int .u64 0,[]⟩
def W7:TY:=⟨.int .i64,1,8,.int .i64 0,[]⟩
def Aa:TY:=⟨.int .i64,1,8,.int .i64 0,[]⟩
def s5:TY:=⟨.slice 54,1,24,.sl [],[]⟩
def L6:TY:=⟨.slice 83,1,24,.sl [],[]⟩
def oM:TY:=⟨.struct,3,56,.agg [.sl [],.bool false,.sl []],[(0,true,2),(2,true,1)]⟩
def L7:TY:=⟨.slice 3,1,24,.sl [],[]⟩
def zI:TY:=⟨.struct,4,80,.agg [.sl [],.sl [],.bool false,.sl []],[(0,false,1),(1,true,3)]⟩
def o0:Option TY:=some ⟨.other,1,8,.nil 1,[]⟩
def o1:Option TY:=some ⟨.int .i64,1,8,.int .i64 0,[]⟩
def o2:Option TY:=some ⟨.bool,1,1,.bool false,[]⟩
def o3:Option TY:=some ⟨.int .u8,1,1,.int .u8 0,[]⟩
def o4:Option TY:=some ⟨.struct,4,24,.agg [.int .i64 0,.int .i64 0,.bool false,.int .u8 0],[(0,false,1),(1,false,1),(2,false,1),(3,false,1)]⟩
def o5:Option TY:=some ⟨.string,1,16,.str [],[]⟩
def o6:Option TY:=some ⟨.int .u64,1,8,.int .u64 0,[]⟩
def o7:Option TY:=some ⟨.struct,2,24,.agg [.str [],.int .u64 0],[(0,false,1),(1,false,1)]⟩
def o8:Option TY:=some ⟨.other,1,8,.nil 2,[]⟩
def o9:Option TY:=some ⟨.struct,1,8,.agg [.nil 2],[(0,false,1)]⟩
def vR:Option TY:=some ⟨.other,1,16,.nil 0,[]⟩
def vQ:Option TY:=some ⟨.int .i32,1,4,.int .i32 0,[]⟩
def EG:Option TY:=some ⟨.slice 23,1,24,.sl [],[]⟩
def XC:Option TY:=some ⟨.slice 45,1,24,.sl [],[]⟩
def pj:Option TY:=some ⟨.struct,3,56,.agg [.int .i64 0,.sl [],.sl []],[(0,false,1),(1,false,1),(2,false,1)]⟩
def XB:Option TY:=some ⟨.slice 47,1,24,.sl [],[]⟩
def XA:Option TY:=some ⟨.slice 28,1,24,.sl [],[]⟩
def Xz:Option TY:=some ⟨.slice 32,1,24,.sl [],[]⟩
def Xy:Option TY:=some ⟨.slice 61,1,24,.sl [],[]⟩
def Xx:Option TY:=some ⟨.slice 43,1,24,.sl [],[]⟩
def Xw:Option TY:=some ⟨.slice 27,1,24,.sl [],[]⟩
def Xv:Option TY:=some ⟨.slice 56,1,24,.sl [],[]⟩
def MS:Option TY:=some ⟨.struct,3,24,.agg [.int .i64 0,.int .i64 0,.int .u8 0],[(0,false,1),(1,false,1),(2,false,1)]⟩
def MQ:Option TY:=some ⟨.struct,6,48,.agg [.int .i64 0,.int .i64 0,.int .u8 0,.int .i64 0,.int .i64 0,.int .u8 0],[(0,true,3),(3,true,3)]⟩
def Xu:Option TY:=some ⟨.slice 173,1,24,.sl [],[]⟩
def MP:Option TY:=some ⟨.struct,1,24,.agg [.sl []],[(0,false,1)]⟩
def MO:Option TY:=some ⟨.struct,2,32,.agg [.sl [],.bool false],[(0,true,1),(1,false,1)]⟩
def Xt:Option TY:=some ⟨.struct,3,56,.agg [.sl [],.bool false,.sl []],[(0,true,2),(2,true,1)]⟩
def MN:Option TY:=some ⟨.struct,6,112,.agg [.sl [],.bool false,.sl [],.sl [],.bool false,.sl []],[(0,true,3),(3,true,3)]⟩
def MM:Option TY:=some ⟨.struct,2,32,.agg [.int .i64 0,.sl []],[(0,false,1),(1,false,1)]⟩
def ML:Option TY:=some ⟨.struct,4,64,.agg [.int .i64 0,.sl [],.int .i64 0,.sl []],[(0,true,2),(2,true,2)]⟩
def MJ:Option TY:=some ⟨.struct,8,128,.agg [.int .i64 0,.sl [],.int .i64 0,.sl [],.int .i64 0,.sl [],.int .i64 0,.sl []],[(0,true,4),(4,true,4)]⟩
def EF:Option TY:=some ⟨.struct,4,80,.agg [.sl [],.sl [],.bool false,.sl []],[(0,false,1),(1,true,3)]⟩
def Xs:Option TY:=some ⟨.slice 83,1,24,.sl [],[]⟩
def Xr:Option TY:=some ⟨.slice 85,1,24,.sl [],[]⟩
def Xq:Option TY:=some ⟨.slice 5,1,24,.sl [],[]⟩
def MI:Option TY:=some ⟨.struct,2,32,.agg [.nil 2,.sl []],[(0,false,1),(1,false,1)]⟩
def Xp:Option TY:=some ⟨.int .u32,1,4,.int .u32 0,[]⟩
def MH:Option TY:=some ⟨.array 4 3,4,32,.agg [.int .i64 0,.int .i64 0,.int .i64 0,.int .i64 0],[]⟩
def Xo:Option TY:=some ⟨.array 5 3,5,40,.agg [.int .i64 0,.int .i64 0,.int .i64 0,.int .i64 0,.int .i64 0],[]⟩
def MG:Option TY:=some ⟨.struct,3,56,.agg [.sl [],.sl [],.int .i64 0],[(0,false,1),(1,false,1),(2,false,1)]⟩
def Xn:Option TY:=some ⟨.slice 216,1,24,.sl [],[]⟩
def Xm:Option TY:=some ⟨.array 24 5,24,24,.agg [.int .u8 0,.int .u8 0,.int .u8 0,.int .u8 0,.int .u8 0,.int .u8 0,.int .u8 0,.int .u8 0,.int .u8 0,.int .u8 0,.int .u8 0,.int .u8 0,.int .u8 0,.int .u8 0,.int .u8 0,.int .u8 0,.int .u8 0,.int .u8 0,.int .u8 0,.int .u8 0,.int .u8 0,.int .u8 0,.int .u8 0,.int .u8 0],[]⟩
def Xl:Option TY:=some ⟨.array 20 181,20,160,.agg [.int .u64 0,.int .u64 0,.int .u64 0,.int .u64 0,.int .u64 0,.int .u64 0,.int .u64 0,.int .u64 0,.int .u64 0,.int .u64 0,.int .u64 0,.int .u64 0,.int .u64 0,.int .u64 0,.int .u64 0,.int .u64 0,.int .u64 0,.int .u64 0,.int .u64 0,.int .u64 0],[]⟩
def Xk:Option TY:=some ⟨.array 65 5,65,65,.agg [.int .u8 0,.int .u8 0,.int .u8 0,.int .u8 0,.int .u8 0,.int .u8 0,.int .u8 0,.int .u8 0,.int .u8 0,.int .u8 0,.int .u8 0,.int .u8 0,.int .u8 0,.int .u8 0,.int .u8 0,.int .u8 0,.int .u8 0,.int .u8 0,.int .u8 0,.int .u8 0,.int .u8 0,.int .u8 0,.int .u8 0,.int .u8 0,.int .u8 0,.int .u8 0,.int .u8 0,.int .u8 0,.int .u8 0,.int .u8 0,.int .u8 0,.int .u8 0,.int .u8 0,.int .u8 0,.int .u8 0,.int .u8 0,.int .u8 0,.int .u8 0,.int .u8 0,.int .u8 0,.int .u8 0,.int .u8 0,.int .u8 0,.int .u8 0,.int .u8 0,.int .u8 0,.int .u8 0,.int .u8 0,.int .u8 0,.int .u8 0,.int .u8 0,.int .u8 0,.int .u8 0,.int .u8 0,.int .u8 0,.int .u8 0,.int .u8 0,.int .u8 0,.int .u8 0,.int .u8 0,.int .u8 0,.int .u8 0,.int .u8 0,.int .u8 0,.int .u8 0],[]⟩
def Xj:Option TY:=some ⟨.array 32 5,32,32,.agg [.int .u8 0,.int .u8 0,.int .u8 0,.int .u8 0,.int .u8 0,.int .u8 0,.int .u8 0,.int .u8 0,.int .u8 0,.int .u8 0,.int .u8 0,.int .u8 0,.int .u8 0,.int .u8 0,.int .u8 0,.int .u8 0,.int .u8 0,.int .u8 0,.int .u8 0,.int .u8 0,.int .u8 0,.int .u8 0,.int .u8 0,.int .u8 0,.int .u8 0,.int .u8 0,.int .u8 0,.int .u8 0,.int .u8 0,.int .u8 0,.int .u8 0,.int .u8 0],[]⟩
def Xi:Option TY:=some ⟨.array 64 5,64,64,.agg [.int .u8 0,.int .u8 0,.int .u8 0,.int .u8 0,.int .u8 0,.int .u8 0,.int .u8 0,.int .u8 0,.int .u8 0,.int .u8 0,.int .u8 0,.int .u8 0,.int .u8 0,.int .u8 0,.int .u8 0,.int .u8 0,.int .u8 0,.int .u8 0,.int .u8 0,.int .u8 0,.int .u8 0,.int .u8 0,.int .u8 0,.int .u8 0,.int .u8 0,.int .u8 0,.int .u8 0,.int .u8 0,.int .u8 0,.int .u8 0,.int .u8 0,.int .u8 0,.int .u8 0,.int .u8 0,.int .u8 0,.int .u8 0,.int .u8 0,.int .u8 0,.int .u8 0,.int .u8 0,.int .u8 0,.int .u8 0,.int .u8 0,.int .u8 0,.int .u8 0,.int .u8 0,.int .u8 0,.int .u8 0,.int .u8 0,.int .u8 0,.int .u8 0,.int .u8 0,.int .u8 0,.int .u8 0,.int .u8 0,.int .u8 0,.int .u8 0,.int .u8 0,.int .u8 0,.int .u8 0,.int .u8 0,.int .u8 0,.int .u8 0,.int .u8 0],[]⟩
def MF:Option TY:=some ⟨.struct,4,40,.agg [.nil 2,.nil 2,.nil 2,.str []],[(0,false,1),(1,false,1),(2,false,1),(3,false,1)]⟩
def Xh:Option TY:=some ⟨.array 0 16,0,0,.agg [],[]⟩
def ME:Option TY:=some ⟨.struct,0,0,.agg [],[(0,true,0)]⟩
def MD:Option TY:=some ⟨.struct,11,48,.agg [.int .u64 0,.int .u64 0,.int .u32 0,.int .u8 0,.int .u8 0,.int .u8 0,.int .u8 0,.nil 1,.nil 2,.int .i32 0,.int .i32 0],[(0,false,1),(1,false,1),(2,false,1),(3,false,1),(4,false,1),(5,false,1),(6,false,1),(7,false,1),(8,false,1),(9,false,1),(10,false,1)]⟩
def oN:Option TY:=none
def Xe:Tr:=.node 32 (.node 16 (.node 8 (.leaf 0 [oN,o0,(some W7),(some Aa),o2,o3,o3,o4]) (.leaf 8 [o4,o5,o5,o5,o6,o7,o7,o8])) (.node 24 (.leaf 16 [o8,o8,o9,o9,vR,vQ,EG,XC]) (.leaf 24 [pj,pj,XB,XA,(some s5),pj,pj,Xz]))) (.node 48 (.node 40 (.leaf 32 [Xy,pj,pj,oN,o0,o0,o0,Xx]) (.leaf 40 [Xw,pj,pj,Xv,MS,MS,MQ,MQ])) (.node 56 (.leaf 48 [Xu,MP,MP,MO,MO,Xt,(some oM),MN]) (.leaf 56 [MN,(some L7),MM,MM,ML,ML,MJ,MJ])))
def Xd:Tr:=.node 96 (.node 80 (.node 72 (.leaf 64 [oN,o0,o0,o0,o1,oN,o0,oN]) (.leaf 72 [o0,o0,oN,o0,oN,o0,o0,o0])) (.node 88 (.leaf 80 [oN,o0,EF,(some zI),Xs,(some L6),o0,oN]) (.leaf 88 [o0,o0,oN,o0,o0,o0,oN,o0]))) (.node 112 (.node 104 (.leaf 96 [o0,o0,o0,o0,Xr,o0,o0,o0]) (.leaf 104 [o0,o0,o0,o0,o0,oN,o0,o0])) (.node 120 (.leaf 112 [o0,o0,o0,o0,o0,o0,o0,oN]) (.leaf 120 [o0,o0,o0,o0,o0,o0,o0,o0])))
def Xc:Tr:=.node 160 (.node 144 (.node 136 (.leaf 128 [o0,o0,o0,o0,o0,o0,o0,o0]) (.leaf 136 [o0,o0,o0,o0,o0,o0,o0,o0])) (.node 152 (.leaf 144 [o0,o0,o0,o0,o0,oN,o0,o0]) (.leaf 152 [o0,o0,o0,o0,o0,o0,o0,o0]))) (.node 176 (.node 168 (.leaf 160 [o0,o0,o0,o0,o0,o0,o8,Xq]) (.leaf 168 [MI,MI,o0,o0,o0,Xp,o0,vR])) (.node 184 (.leaf 176 [vR,oN,o0,o0,o0,o6,o0,o0]) (.leaf 184 [o0,o0,o0,o0,o0,o0,o0,o0])))
def Xb:Tr:=.node 224 (.node 208 (.node 200 (.leaf 192 [o0,o0,MH,MH,o0,o0,o0,o0]) (.leaf 200 [o0,o0,o0,Xo,oN,oN,o0,o0])) (.node 216 (.leaf 208 [o0,o0,o8,MG,MG,o0,Xn,EF]) (.leaf 216 [EF,o0,o0,o0,o0,o0,o0,o0]))) (.node 240 (.node 232 (.leaf 224 [o0,o0,o0,o0,o0,o6,oN,o0]) (.leaf 232 [o0,o0,o8,o0,oN,o0,oN,o0])) (.node 248 (.leaf 240 [o0,o0,o0,oN,oN,o0,o0,o0]) (.leaf 248 [o0,o0,o0,o0,oN,o0,o0,o0])))
def Xa:Tr:=.node 288 (.node 272 (.node 264 (.leaf 256 [o0,o0,o0,o8,o0,oN,o0,oN]) (.leaf 264 [o0,oN,o0,o0,o0,o0,o0,o0])) (.node 280 (.leaf 272 [o0,o0,o1,oN,o0,o0,o0,o0]) (.leaf 280 [o0,o0,o0,o0,o0,o0,o0,o0]))) (.node 304 (.node 296 (.leaf 288 [o0,o0,o0,o0,o0,o0,Xm,o0]) (.leaf 296 [oN,o0,o0,o0,o6,o0,o0,o8])) (.node 312 (.leaf 304 [o0,o0,o0,o0,o0,o0,o0,Xl]) (.leaf 312 [Xk,o8,oN,o0,o0,o0,Xj,Xi])))
def W9:Tr:=.node 328 (.leaf 320 [MF,MF,Xh,ME,ME,o3,o3,o0]) (.leaf 328 [vQ,vQ,MD,MD])
def V8:Tr:=.node 192 (.node 64 Xe (.node 128 Xd Xc)) (.node 256 Xb (.node 320 Xa W9))
noncomputable def TT(t:me):Option TY:=V8.get t
theorem UK:(List.range 332).map TT=(List.range 332).map (vq Tryz.prog):=by kernel_rfl
theorem vo:b8 Tryz.prog TT:=fun t ty h=>by
 rcases fx t 332 with hl|hl
 . have:=aJ (fun l=>l[t]?) UK;simp only[bQ,EZ hl,fa,ae] at this;rw[<-this];exact h
 . have:TT t=none:=GU hl (by kernel_rfl);rw[this] at h;cases h
def XU(w:my)(l:Nat)(fn:qe)(tmps:Array X3)(ps:Array Tmp)(assign body:X5):Prop :=
 ∃D,w.heap[l]?=some (.loop { state:=.ready,pending:=none,fn,tmps,params:=ps,assign,body,defers:=D })
structure IterJ(X:Cx)(l:Nat)(ys:List (List IV))(J:(Nat->Prop)->Nat->ah->my->Prop):Prop where
 inv:∀own k H w w',J own k H w->BelowO own w w'->X.I w'
 step:∀own k H H' w w',J own k H w->BelowO own w w'->HeapHas w' H'->HExtO own H H'->J own k H' w'
 sub:∀own own' k H w,J own k H w->(∀b,own' b->own b)->J own' k H w
 round:∀own k H w args (hk:k<ys.length),J own k H w->HeapHas w H->(∀b,w.heap.size<=b->own b)->VRL H args ys[k]->
  YieldAt (FW none) 0 X.P l args.toArray w (fun e w'=>e=.returned (.bool true)/\∃H',HeapHas w' H'/\HLe H H'/\w.heap.size<=w'.heap.size/\w'.os=w.os/\w'.tape=w.tape/\w'.output=w.output/\
   (∀b,own b->b<w.heap.size->w'.heap[b]?=w.heap[b]?/\(H b=none->H' b=none))/\J (fun b=>own b/\(b<w.heap.size\/w'.heap.size<=b)) (k+1) H' w')
def jZ(l:Nat):X3:=.func (.yield l) #[] #[]
def bw(X:Cx)(f:qe)(zs:List IV)(ys:List (List IV)):Prop :=
 (∃fn,X.P.funcs[f]?=some fn/\(fn.name == "runtime.NumGoroutine")=false/\fn.body.isNone=false)/\
 ∀(l:Nat) (J:(Nat->Prop)->Nat->ah->my->Prop) (own:Nat->Prop) (H:ah) (w:my) (bs:List Nat),IterJ X l ys J->J own 0 H w->HeapHas w H->(∀b,w.heap.size<=b->own b)->mR own w H bs zs->bs.Pairwise (· ≠ ·)->
  CallsIn (FW none) 0 X.P f (jZ l::bs.map fun b=>Value.pointer (some ⟨b,0,none⟩)).toArray w (fun e w'=>∃v own' H',e=.returned v/\HeapHas w' H'/\J own' ys.length H' w')
theorem Sim.stand{E:Env}{H H':ah}{U:Nat->Nat×Nat}{tm:Nat->SV}{bx:Nat->Option Bx}{tmps:Array X3}{w w':my}{own:Nat->Prop}(h:Sim E H U tm bx tmps w)(hb:BelowO own w w')(hh:HeapHas w' H')(he:HExtO own H H')(hsub:∀b,own b->E.own b)
 (hbx:∀g b,bx g=some b->b.alive=true->¬own (U g).1) (hrw:∀g s R,bx g=some (.bld s)->RowAt s w (U g).1 R->¬own R) (hm:∀D,({ target:=.collected D,args := #[] }:Deferred)∈E.mrk->¬own D):Sim E H' U tm bx tmps w' where
 has:=hh
 below:=h.below.trans (hb.mono hsub)
 lo k hk:=h.lo k (aY hb.size hk)
 ext:=h.ext.step he hsub
 slot t:=(h.slot t).mono he.1 (fun g b hg=>⟨b,hg,shape.refl b,rfl⟩)
 box g b hg:=by
  by_cases ha:b.alive=true
  . refine(h.box g b hg).keep (hb.block _ (hbx g b hg ha)) he.1 (fun hn=>?_) (fun s R eb hR=>?_)
    . cases hx:H' (U g).1 with
      |none=>rfl
      |some arr=>
       rcases he.2 _ _ hx with h1|h1
       . rw[hn] at h1;cases h1
       . exact absurd h1 (hbx g b hg ha)
    . subst eb;have hno:=hrw g s R hg hR;refine⟨hb.block _ hno,fun hn=>?_⟩;cases hx:H' R with
      |none=>rfl
      |some arr=>
       rcases he.2 _ _ hx with h1|h1
       . rw[hn] at h1;cases h1
       . exact absurd h1 hno
  . cases b<;>first|trivial|simp[Bx.alive] at ha
 inj:=h.inj
 pin:=h.pin
 marks:=⟨h.marks.1,fun d hd=>by
  obtain⟨D,e,ho,hD⟩:=h.marks.2 d hd;exact⟨D,e,ho,(hb.block D (hm D (e▸hd))).trans hD⟩⟩
 hid g s g' b R h1 h2 ha hR:=h.hid g s g' b R h1 h2 ha (hR.sm (hb.block _ (hbx g _ h1 rfl)))
theorem Sim.rebase{E:Env}{H:ah}{U:Nat->Nat×Nat}{tm:Nat->SV}{bx:Nat->Option Bx}{tmps:Array X3}{w:my}(h:Sim E H U tm bx tmps w){own:Nat->Prop}{pin:Nat->Option (Nat×Nat)}{M:List Deferred}(hbx:∀g b,bx g=some b->b.alive=true->own (U g).1)(hrw:∀g s R,bx g=some (.bld s)->RowAt s w (U g).1 R->own R)
 (hlo:∀k,w.heap.size<=k->own k) (hpin:∀g k,pin g=some k->U g=k/\bx g≠none/\g<aK+8/\aK<=g) (hm:MarksOk own M w):Sim ⟨own,w,H,pin,M⟩ H U tm bx tmps w where
 has:=h.has
 below:=BelowO.refl _ _
 lo:=hlo
 ext:=HExtO.refl _ _
 slot:=h.slot
 box g b hg:=by
  by_cases ha:b.alive=true
  . have:=h.box g b hg;have ho:=hbx g b hg ha;cases b with
    |var x=>exact⟨ho,this.2⟩
    |arr=>exact⟨ho,this.2⟩
    |bld s=>exact⟨ho,this.2.1,this.2.2.1,fun R hR=>⟨hrw g s R hg hR,(this.2.2.2 R hR).2⟩⟩
    |arrN=>exact⟨this.1,ho,this.2.2⟩
    |dead=>trivial
  . cases b<;>first|trivial|simp[Bx.alive] at ha
 inj:=h.inj
 pin:=hpin
 marks:=hm
 hid:=h.hid
def okP(bx:Nat->Option Bx):SV->Prop
 | .unk=>True
 | .und=>True
 | .iv _=>True
 | .nilS=>True
 | .ptr g _=>bx g≠none
 | .cv _ _ gs=>∀g∈gs,bx g≠none
 |_=>False
theorem SR.okP{H H':ah}{U:Nat->Nat×Nat}{bx bx':Nat->Option Bx}{v:X3}(hh:HLe H H'):∀{s:SV},okP bx' s->SR H U bx v s->SR H' U bx' v s
 | .unk,_,_=>trivial
 | .und,_,h=>h
 | .iv _,_,h=>VR.mono hh h
 | .nilS,_,h=>h
 | .ptr _ _,ho,h=>⟨ho,h.2⟩
 | .cv _ _ _,ho,h=>⟨h.1,ho,h.2.2⟩
def mr(tm:Nat->SV):List Nat->List IV->Nat->SV
 |p::ps,y::ys=>mr (aB tm p (.iv y)) ps ys
 |_,_=>tm
theorem Sim.puts{E:Env}{H:ah}{U:Nat->Nat×Nat}{bx:Nat->Option Bx}{w:my}{nt:Nat}:∀{ps:List Nat} {ys:List IV} {vs:List X3} {tm:Nat->SV} {tmps:Array X3},Sim E H U tm bx tmps w->tmps.size=nt->(∀p∈ps,p<nt)->VRL H vs ys->
 Sim E H U (mr tm ps ys) bx ((ps.zip vs).foldl (fun tmps p=>tmps.setIfInBounds p.1 p.2) tmps) w/\((ps.zip vs).foldl (fun tmps p=>tmps.setIfInBounds p.1 p.2) tmps).size=nt
 | [],_,_,_,_,h,hs,_,_=>⟨by simpa[mr] using h,by simpa using hs⟩
 |p::ps,[],_,_,_,h,hs,_,.nil=>⟨by simpa[mr] using h,by simpa using hs⟩
 |p::ps,y::ys,_,tm,tmps,h,hs,hp,.cons v _ vs _ hv t=>by
  simp only[mr,List.zip_cons_cons,kL];exact Sim.puts (h.put (d:=p) (by rw[hs];exact hp p (by simp)) (r:=.iv y) hv) (by rw[E0];exact hs) (fun q hq=>hp q (by simp[hq])) t
def Cx.any(X:Cx):Cx:={ X with ro:=fun _=>True,r0:=trivial }
def th(bx:Nat->Option Bx):List Nat->List IV->Prop
 | [],[]=>True
 |g::gs,z::zs=>bx g=some (.var z)/\th bx gs zs
 |_,_=>False
theorem Ch{E:Env}{H:ah}{U:Nat->Nat×Nat}{tm:Nat->SV}{bx:Nat->Option Bx}{tmps:Array X3}{w:my}(h:Sim E H U tm bx tmps w){own:Nat->Prop}:∀{gs:List Nat} {zs:List IV},th bx gs zs->(∀g∈gs,own (U g).1)->mR own w H (gs.map fun g=>(U g).1) zs
 | [],[],_,_=>trivial
 | [],_::_,h,_=>h.elim
 |_::_,[],h,_=>h.elim
 |g::gs,z::zs,hc,ho=>by
  refine⟨?_,Ch h hc.2 (fun g hg=>ho g (by simp[hg]))⟩;have:=h.box g _ hc.1;exact⟨ho g (by simp),this.2⟩
theorem lY{bx:Nat->Option Bx}:∀{gs:List Nat} {zs:List IV},th bx gs zs->∀g∈gs,∃z,bx g=some (.var z)
 | [],_,_,g,hg=>by cases hg
 |_::_,[],h,_,_=>h.elim
 |g::gs,z::zs,hc,g',hg=>by
  rcases List.mem_cons.1 hg with rfl|hg
  . exact⟨z,hc.1⟩
  . exact lY hc.2 g' hg
def KI(X:Cx)(nt:Nat)(body:X5)(bx':Nat->Option Bx):X6->AS->Prop
 | .normal,Y=>CW X.any nt body Y fun e Y'=>e=.normal/\∀id b,bx' id=some b->Y'.bx id=some b
 |_,_=>False
structure RJ(X:Cx)(E:Env)(nt:Nat)(U:Nat->Nat×Nat)(tm:Nat->SV)(inv:Nat->Nat->Option Bx)(l:Nat)(fn:qe)(tmps:Array X3)(ps:Array Tmp)(assign body:X5)(own:Nat->Prop)(k:Nat)(H:ah)(w:my):Prop where
 sim:Sim E H U tm (inv k) tmps w
 rec':XU w l fn tmps ps assign body
 sub:∀b,own b->E.own b
 nl:¬own l
 el:E.own l
 bxs:∀g b,inv k g=some b->¬own (U g).1
 rws:∀g s R,inv k g=some (.bld s)->RowAt s w (U g).1 R->¬own R
 mks:∀D,({ target:=.collected D,args := #[] }:Deferred)∈E.mrk->¬own D
theorem RJ.iter{X:Cx}{E:Env}{nt:Nat}{U:Nat->Nat×Nat}{tm:Nat->SV}{inv:Nat->Nat->Option Bx}{l:Nat}{fn:qe}{tmps:Array X3}{ps:Array Tmp}{assign body:X5}{ys:List (List IV)}{nx:Nat}
 (hI:∀w,BelowO E.own E.w0 w->X.I w) (hnt:tmps.size=nt) (hps:∀p∈ps.toList,p<nt) (hys:∀y∈ys,y.length=ps.size)
 (htm:∀k t,okP (inv k) (tm t)) (hal:∀k g b,inv k g=some b->b.alive=true/\aK<=g/\g<aK+8) (hdom:∀k g,inv k g≠none->inv (k+1) g≠none) (hdom':∀k g,inv (k+1) g≠none->inv k g≠none)
 (hround:∀k (hk:k<ys.length),CW X.any nt assign ⟨mr tm ps.toList ys[k],inv k,nx⟩ (KI X nt body (inv (k+1)))):IterJ X l ys (RJ X E nt U tm inv l fn tmps ps assign body) where
 inv own k H w w' h hb:=hI _ (h.sim.below.trans (hb.mono h.sub))
 step own k H H' w w' h hb hh he:=by
  refine⟨h.sim.stand hb hh he h.sub (fun g b hg _=>h.bxs g b hg) h.rws h.mks,?_,h.sub,h.nl,h.el,h.bxs,fun g s R hg hR=>h.rws g s R hg (hR.sm (hb.block _ (h.bxs g _ hg))),h.mks⟩;obtain⟨D,hD⟩:=h.rec';exact⟨D,(hb.block l h.nl).trans hD⟩
 sub own own' k H w h hs:=⟨h.sim,h.rec',fun b hb=>h.sub b (hs b hb),fun e=>h.nl (hs _ e),h.el,fun g b hg e=>h.bxs g b hg (hs _ e),fun g s R hg hR e=>h.rws g s R hg hR (hs _ e),fun D hD e=>h.mks D hD (hs _ e)⟩
 round own k H w args hk h hh hlo hargs:=by
  obtain⟨D,hD⟩:=h.rec';have hlen:=hargs.length;have hlt:l<w.heap.size:=(Array.getElem?_eq_some_iff.1 hD).1;have hsz:args.toArray.size=ps.size:=by
   simp only[kK,hlen];exact hys _ (eM hk)
  refine⟨fn,_,assign,body,run_yield hD hsz,?_⟩;refine roundIn_of_wpIn trivial ?_
  -- the blocks that the round may write
  let ow:Nat->Prop:=fun b=>E.own b/\¬(own b/\b<w.heap.size)/\b≠l/\¬({ target:=.collected b,args := #[] }:Deferred)∈E.mrk
  let pn:Nat->Option (Nat×Nat):=fun g=>match inv k g with|some _=>some (U g)|none=>none
  have mklt:∀D,({ target:=.collected D,args := #[] }:Deferred)∈E.mrk->w.heap[D]?=some (.deferred (some [])):=fun D hD=>by
   obtain⟨D',e,_,hb⟩:=h.sim.marks.2 _ hD;cases e;exact hb
  have olo:∀b,w.heap.size<=b->ow b:=fun b hb=>⟨h.sim.lo b hb,fun⟨_,h2⟩=>by omega,by omega,fun hm=>by
   have:=(Array.getElem?_eq_some_iff.1 (mklt b hm)).1;omega⟩
  have obx:∀g b,inv k g=some b->b.alive=true->ow (U g).1:=fun g b hg ha=>by
   obtain⟨arr,e',hc⟩:=(h.sim.box g b hg).cells ha;exact⟨(h.sim.box g b hg).lo ha,fun⟨h1,_⟩=>h.bxs g b hg h1,fun e=>(by rw[e,hD] at hc;cases hc),fun hm=>(by rw[mklt _ hm] at hc;cases hc)⟩
  have opn:∀g q,pn g=some q->U g=q/\inv k g≠none/\g<aK+8/\aK<=g:=fun g q hq=>by
   have hq':(match inv k g with|some _=>some (U g)|none=>none)=some q:=hq;cases hg:inv k g with
   |none=>rw[hg] at hq';cases hq'
   |some b=>
    rw[hg] at hq';have:=hal k g b hg;exact⟨by simpa using hq',by simp,this.2.2,this.2.1⟩
  have orw:∀g s R,inv k g=some (.bld s)->RowAt s w (U g).1 R->ow R:=fun g s R hg hR=>by
   have hb:=h.sim.box g _ hg;obtain⟨_,_,arr,_,fz,hx⟩:=jY hb.2.2.1 hR;exact⟨(hb.2.2.2 R hR).1,fun⟨h1,_⟩=>h.rws g s R hg hR h1,fun e=>(by rw[e,hD] at hx;cases hx),fun hm=>(by rw[mklt _ hm] at hx;cases hx)⟩
  have S1:=(h.sim.rebase (own:=ow) (pin:=pn) (M:=[]) obx orw olo opn (MarksOk.nil _ _));obtain⟨S2,hs2⟩:=S1.puts (ps:=ps.toList) (ys:=ys[k]) (vs:=args) hnt hps hargs;have hI1:∀w',BelowO ow w w'->X.I w':=fun w' hb=>hI _ (h.sim.below.trans (hb.mono fun b hb=>hb.1));have etm:(ps.zip args.toArray).foldl (fun tmps (t,a)=>tmps.setIfInBounds t a) tmps=(ps.toList.zip args).foldl (fun tmps p=>tmps.setIfInBounds p.1 p.2) tmps:=by
   rw[<-Array.foldl_toList,Array.toList_zip]
  have r1:=hround k hk ⟨some l,ab⟩ ⟨ow,w,H,pn,[]⟩ (Exit.then (fun a₁ w₁=>∃w₂,(Instr.beginRound l).run X.P w₁=.ok () w₂/\body.wpIn ((FW none).inRound l) 0 X.P (roundPost X.P l (fun e w'=>e=.returned (.bool true)/\∃H',HeapHas w' H'/\HLe H H'/\w.heap.size<=w'.heap.size/\w'.os=w.os/\w'.tape=w.tape/\w'.output=w.output/\
   (∀b,own b->b<w.heap.size->w'.heap[b]?=w.heap[b]?/\(H b=none->H' b=none))/\RJ X E nt U tm inv l fn tmps ps assign body (fun b=>own b/\(b<w.heap.size\/w'.heap.size<=b)) (k+1) H' w')) a₁ w₂) (fun _ _ _=>False)) hI1 ?_ [] H U
   { tmps:=(ps.zip args.toArray).foldl (fun tmps (t,a)=>tmps.setIfInBounds t a) tmps,defers:=[] } w ⟨by rw[etm];exact S2,rfl,by rw[etm];exact hs2⟩
  . exact r1
  intro e Y' M1 H1 β1 a1 w1 hk1 hS1;cases e with
  |normal=>?_
  |_=>exact hk1.elim
  have hw1:w1.heap[l]?=w.heap[l]?:=hS1.sim.below.block l (fun ho=>ho.2.2.1 rfl);have hD1:=hw1.trans hD;refine⟨_,run_beginRound hD1 rfl,?_⟩
  -- the body
  have T1:Sim ⟨ow,w1,H1,pn,M1⟩ H1 β1 Y'.tm Y'.bx a1.tmps w1:=hS1.sim.rebase (fun g b hg ha=>(hS1.sim.box g b hg).lo ha) (fun g s R hg hR=>((hS1.sim.box g _ hg).2.2.2 R hR).1) hS1.sim.lo hS1.sim.pin hS1.sim.marks
  let w2:=w1.putObj l (.loop { state:=.busy,pending:=none,fn,tmps,params:=ps,assign,body,defers:=D })
  have T2:Sim ⟨fun b=>ow b\/b=l,w1,H1,pn,M1⟩ H1 β1 Y'.tm Y'.bx a1.tmps w1:=hS1.sim.rebase (fun g b hg ha=>.inl ((hS1.sim.box g b hg).lo ha)) (fun g s R hg hR=>.inl ((hS1.sim.box g _ hg).2.2.2 R hR).1) (fun k hk=>.inl (hS1.sim.lo k hk)) hS1.sim.pin
   ⟨hS1.sim.marks.1,fun d hd=>by obtain⟨D',e,ho,hb⟩:=hS1.sim.marks.2 d hd;exact⟨D',e,.inl ho,hb⟩⟩
  have T3:Sim ⟨fun b=>ow b\/b=l,w1,H1,pn,M1⟩ H1 β1 Y'.tm Y'.bx a1.tmps w2:=T2.poke _ hD1 rfl (.inr rfl) (fun d hd e=>by
   obtain⟨D',e',ho,hb⟩:=hS1.sim.marks.2 d hd;rw[e] at e';cases e';rw[hD1] at hb;cases hb)
  have hne1:∀g b,Y'.bx g=some b->b.alive=true->(β1 g).1≠l:=fun g b hg ha e=>by
   obtain⟨arr,e',hc⟩:=(hS1.sim.box g b hg).cells ha;rw[e,hD1] at hc;cases hc
  have T4:Sim ⟨ow,w2,H1,pn,M1⟩ H1 β1 Y'.tm Y'.bx a1.tmps w2:=T3.rebase (fun g b hg ha=>(hS1.sim.box g b hg).lo ha) (fun g s R hg hR=>((hS1.sim.box g _ hg).2.2.2 R (hR.sm (cH (hne1 g _ hg rfl)))).1) (fun k hk=>hS1.sim.lo k (by simpa[w2] using hk)) T3.pin
   ⟨T3.marks.1,fun d hd=>by
    obtain⟨D',e,ho,hb⟩:=T3.marks.2 d hd;refine⟨D',e,ho.resolve_right (fun e'=>?_),hb⟩;obtain⟨D2,e2,ho2,hb2⟩:=hS1.sim.marks.2 d hd;rw[e] at e2;cases e2;rw[e',hD1] at hb2;cases hb2⟩
  have hI2:∀w',BelowO ow w2 w'->X.I w':=fun w' hb=>by
   refine hI _ (h.sim.below.trans ?_);have b1:BelowO E.own w w1:=hS1.sim.below.mono (fun b hb=>hb.1);have b2:BelowO E.own w1 w2:=⟨rfl,rfl,rfl,by simp[w2],fun b hb=>cH (fun e=>hb (by rw[e];exact h.el))⟩;exact b1.trans (b2.trans (hb.mono (fun b hb=>hb.1)))
  refine hk1 ⟨some l,ab⟩ ⟨ow,w2,H1,pn,[]⟩ _ hI2 ?_ M1 H1 β1 a1 w2 ⟨T4,hS1.defers,hS1.size⟩;intro e3 σ3 M3 H3 β3 a3 w3 hk3 hS3;obtain⟨rfl,hk3⟩:=hk3;have hD3:w3.heap[l]?=some (.loop { state:=.busy,pending:=none,fn,tmps,params:=ps,assign,body,defers:=D }):=by
   rw[hS3.sim.below.block l (fun ho=>ho.2.2.1 rfl)];exact wn (Array.getElem?_eq_some_iff.1 hD1).1
  refine⟨_,_,run_endRound none hD3,rfl,H3,?_⟩;have nl3:∀b arr,H3 b=some arr->b≠l:=fun b arr hb e=>by
   obtain⟨t,fr,ht⟩:=hS3.sim.has b arr hb;rw[e,hD3] at ht;cases ht
  have hle:HLe H H3:=hS1.sim.ext.1.trans hS3.sim.ext.1;have hsz2:w2.heap.size=w1.heap.size:=by simp[w2]
  have hsz3:w.heap.size<=w3.heap.size:=aY hS1.sim.below.size (by have:w2.heap.size<=w3.heap.size:=hS3.sim.below.size;omega);have hout:∀b,¬ow b->b≠l->w3.heap[b]?=w.heap[b]?:=fun b hb hbl=>by
   rw[hS3.sim.below.block b hb,show w2.heap[b]?=w1.heap[b]? from cH hbl,hS1.sim.below.block b hb]
  have hext:∀b arr,H3 b=some arr->H b=some arr\/ow b:=fun b arr hb=>by
   rcases hS3.sim.ext.2 b arr hb with h1|h1
   . exact hS1.sim.ext.2 b arr h1
   . exact .inr h1
  have hβ:∀g b,inv k g=some b->β3 g=U g:=fun g b hg=>(hS3.sim.pin g (U g) (by show(match inv k g with|some _=>some (U g)|none=>none)=_;rw[hg])).1;have hinv:∀g b,inv (k+1) g=some b->∃b0,inv k g=some b0:=fun g b hg=>by
   cases hx:inv k g with
   |none=>exact absurd hx (hdom' k g (by rw[hg];simp))
   |some b0=>exact⟨b0,rfl⟩
  have hb4:BelowO E.own w (w3.putObj l (.loop { state:=.ready,pending:=none,fn,tmps,params:=ps,assign,body,defers:=D })):=by
   have b1:BelowO E.own w w1:=hS1.sim.below.mono (fun b hb=>hb.1);have b2:BelowO E.own w1 w2:=⟨rfl,rfl,rfl,by simp[w2],fun b hb=>cH (fun e=>hb (by rw[e];exact h.el))⟩;have b3:BelowO E.own w2 w3:=hS3.sim.below.mono (fun b hb=>hb.1);have b4:BelowO E.own w3 (w3.putObj l (.loop { state:=.ready,pending:=none,fn,tmps,params:=ps,assign,body,defers:=D })):=⟨rfl,rfl,rfl,by simp,fun b hb=>cH (fun e=>hb (by rw[e];exact h.el))⟩;exact b1.trans (b2.trans (b3.trans b4))
  refine⟨fun b arr hb=>?_,hle,by simpa using hsz3,hb4.os,hb4.tape,hb4.output,fun b hb hbw=>⟨?_,fun hn=>?_⟩,?_⟩
  . obtain⟨t,fr,ht⟩:=hS3.sim.has b arr hb;exact⟨t,fr,(cH (nl3 b arr hb)).trans ht⟩
  . have hbl:b≠l:=fun e=>h.nl (by rw[<-e];exact hb);exact(cH hbl).trans (hout b (fun ho=>ho.2.1 ⟨hb,hbw⟩) hbl)
  . cases hx:H3 b with
    |none=>rfl
    |some arr=>
     rcases hext b arr hx with h1|h1
     . rw[hn] at h1;cases h1
     . exact absurd ⟨hb,hbw⟩ h1.2.1
  . refine⟨?_,⟨D,wn (Array.getElem?_eq_some_iff.1 hD3).1⟩,fun b hb=>h.sub b hb.1,fun hb=>h.nl hb.1,h.el,fun g b hg hb=>?_,fun g s R hg hR hb=>?_,fun D' hD' hb=>h.mks D' hD' hb.1⟩
    . refine⟨fun b arr hb=>?_,h.sim.below.trans hb4,fun b hb=>h.sim.lo b (aY hsz3 (by simpa using hb)),h.sim.ext.step (own':=ow) ⟨hle,hext⟩ (fun b hb=>hb.1),fun t=>(h.sim.slot t).okP hle (htm (k+1) t),fun g b hg=>?_,fun g g' b b' hg hg' ha ha' e=>?_,fun g q hq=>?_,⟨h.sim.marks.1,fun d hd=>?_⟩,fun g s g' b R hg hg' ha hR=>?_⟩
      . obtain⟨t,fr,ht⟩:=hS3.sim.has b arr hb;exact⟨t,fr,(cH (nl3 b arr hb)).trans ht⟩
      . obtain⟨b0,hb0⟩:=hinv g b hg;have ha:=(hal (k+1) g b hg).1;have hbr:=hS3.sim.box g b (hk3 g b hg);have hcell:=hbr.cells ha;rw[hβ g b0 hb0] at hbr hcell;refine(hbr.own_mono (fun b hb=>hb.1)).keep (cH fun e=>?_) (HLe.refl _) id (fun s R eb hR=>⟨cH fun e=>?_,id⟩)
        . obtain⟨arr,e',hc⟩:=hcell;rw[e,hD3] at hc;cases hc
        . subst eb;obtain⟨_,_,arr,_,fz,hx⟩:=jY hbr.2.2.1 hR;rw[e,hD3] at hx;cases hx
      . obtain⟨b0,hb0⟩:=hinv g b hg;obtain⟨b0',hb0'⟩:=hinv g' b' hg';rw[<-hβ g b0 hb0,<-hβ g' b0' hb0'] at e;exact hS3.sim.inj g g' b b' (hk3 g b hg) (hk3 g' b' hg') ha ha' e
      . obtain⟨p1,p2,p3⟩:=h.sim.pin g q hq;exact⟨p1,hdom k g p2,p3⟩
      . obtain⟨D',e,ho,hb⟩:=h.sim.marks.2 d hd;have hDl:D'≠l:=fun e'=>by rw[e',hD] at hb;cases hb
        refine⟨D',e,ho,(cH hDl).trans ((hout D' (fun ho'=>ho'.2.2.2 (e▸hd)) hDl).trans hb)⟩
      . obtain⟨b0,hb0⟩:=hinv g _ hg;obtain⟨b0',hb0'⟩:=hinv g' b hg';have hbr:=hS3.sim.box g _ (hk3 g _ hg);rw[<-hβ g b0 hb0] at hR;rw[<-hβ g' b0' hb0'];refine hS3.sim.hid g s g' b R (hk3 g _ hg) (hk3 g' b hg') ha (hR.sm (cH fun e=>?_));obtain⟨arr,e',hc⟩:=hbr.cells rfl;rw[e,hD3] at hc;cases hc
    . obtain⟨b0,hb0⟩:=hinv g b hg;exact h.bxs g b0 hb0 hb.1
    . obtain⟨b0,hb0⟩:=hinv g _ hg;have hbr:=hS3.sim.box g _ (hk3 g _ hg);rw[<-hβ g b0 hb0] at hR;have hR3:RowAt s w3 (β3 g).1 R:=hR.sm (cH fun e=>by
       obtain⟨arr,e',hc⟩:=hbr.cells rfl;rw[e,hD3] at hc;cases hc)
      have hlt:=(jY hbr.2.2.1 hR3).1;have how:=(hbr.2.2.2 R hR3).1;rcases hb.2 with h1|h1
      . exact how.2.1 ⟨hb.1,h1⟩
      . have h1:w3.heap.size<=R:=by simpa using h1
        omega
theorem CW.range{X:Cx}{nt:Nat}{Y:AS}{K:X6->AS->Prop}(hro:∀r,X.ro r->r=none){g:X0}{ps:Array Tmp}{assign body:X5}{f:qe}{gs:List Nat}{zs:List IV}{ys:List (List IV)}(hg:evS Y.tm g=.clo f gs)(hz:th Y.bx gs zs)(hgs:gs.Pairwise (· ≠ ·))
 (hit:bw X f zs ys) (tm:Nat->SV) (inv:Nat->Nat->Option Bx) {nx:Nat} (hps:∀p∈ps.toList,p<nt) (hys:∀y∈ys,y.length=ps.size)
 (h0:∀t,tm t=.unk\/Y.tm t=tm t) (htm:∀k t,okP (inv k) (tm t)) (hb0:∀g b,inv 0 g=some b->Y.bx g=some b) (hdj:∀id∈gs,inv 0 id=none)
 (hal:∀k g b,inv k g=some b->b.alive=true/\aK<=g/\g<aK+8) (hdom:∀k g,inv k g≠none↔inv (k+1) g≠none) (hpinned:∀i,i<8->Y.bx (aK+i)≠none->inv 0 (aK+i)≠none)
 (hround:∀k (hk:k<ys.length),CW X.any nt assign ⟨mr tm ps.toList ys[k],inv k,nx⟩ (KI X nt body (inv (k+1)))) (hend:K .normal ⟨tm,inv ys.length,nx⟩):CW X nt (.rangeFunc g ps assign body) Y K:=by
 intro ro E Q hI hQ M H U a w hS;have er:=hro ro.1 ro.2;rw[er];refine wpIn_rangeFunc fun fn _=>?_;obtain⟨⟨fn',hf1,hf2,hf3⟩,hcall⟩:=hit
 let w1:my:=(w.alloc (.deferred (some []))).alloc (.loop { state:=.ready,pending:=none,fn,tmps:=a.tmps,params:=ps,assign,body,defers:=w.heap.size })
 have hv:=aW hS.sim rfl g;rw[hg] at hv;obtain⟨hv1,hv2⟩:=hv
 let bs:=gs.map fun g=>(U g).1
 have hbel:Below w.heap.size w w1:=((lK _ _).alloc (ak _) _).alloc (by simp) _;have hw1l:w1.heap[w.heap.size+1]?=some (.loop { state:=.ready,pending:=none,fn,tmps:=a.tmps,params:=ps,assign,body,defers:=w.heap.size }):=by
  have:=Ng (w.alloc (.deferred (some []))) (.loop { state:=.ready,pending:=none,fn,tmps:=a.tmps,params:=ps,assign,body,defers:=w.heap.size });rwa[World.size_alloc] at this
 have hw1D:w1.heap[w.heap.size]?=some (.deferred (some [])) :=
  (Below.heap_alloc (w.alloc (.deferred (some []))) _ w.heap.size (by simp)).trans (Ng w _)
 have hsz1:w1.heap.size=w.heap.size+2:=by simp[w1]
 have G1:=hS.sim.grow hbel (fun b arr hb=>by
  obtain⟨t,fr,ht⟩:=hS.sim.has b arr hb;exact⟨t,fr,(hbel.block b (hS.sim.has.lt hb)).trans ht⟩) (HExt.refl _ _)
 let M':List Deferred:={ target:=.collected w.heap.size,args := #[] }::M
 have G2:Sim (E.mks M') H U tm (inv 0) a.tmps w1:=by
  refine⟨G1.has,G1.below,G1.lo,G1.ext,fun t=>?_,fun g b hb=>G1.box g b (hb0 g b hb),fun g g' b b' h1 h2=>G1.inj g g' b b' (hb0 g b h1) (hb0 g' b' h2),fun g q hq=>?_,?_,?_⟩
  . rcases h0 t with e|e
    . rw[e];trivial
    . have:=G1.slot t;rw[e] at this;exact this.okP (HLe.refl _) (htm 0 t)
  . obtain⟨p1,p2,p3,p4⟩:=G1.pin g q hq;have hh:=hpinned (g-aK) (by omega);rw[show aK+(g-aK)=g by omega] at hh;exact⟨p1,hh p2,p3,p4⟩
  rotate_left
  . exact fun g s g' b R h1 h2 ha hR=>G1.hid g s g' b R (hb0 g _ h1) (hb0 g' b h2) ha hR
  . refine⟨List.pairwise_cons.2 ⟨fun d hd e=>?_,G1.marks.1⟩,fun d hd=>?_⟩
    . obtain⟨D,e',_,hb⟩:=hS.sim.marks.2 d hd;rw[<-e] at e';cases e';have:=(Array.getElem?_eq_some_iff.1 hb).1;omega
    . rcases List.mem_cons.1 hd with rfl|hd
      . exact⟨_,rfl,hS.sim.lo _ (ak _),hw1D⟩
      . exact G1.marks.2 d hd
 refine⟨w.heap.size+1,[{ target:=.collected w.heap.size,args := #[] }],w1,{ target:=.fn (.func f) (bs.map fun b=>Value.pointer (some ⟨b,0,none⟩)).toArray,args := #[jZ (w.heap.size+1)] },w1,f,(jZ (w.heap.size+1)::bs.map fun b=>Value.pointer (some ⟨b,0,none⟩)).toArray,w1,?_,?_,fun _ _=>trivial,?_,fun e=>(by cases e),?_⟩
 . exact run_enterLoop_outer fn a.tmps ps assign body
 . simp only[resolve,rangeCall,hv2,Deferred.ofValue,aw];simp[Act.eval,jZ,bs]
 . simp only[invoke,callFunc,au,tN,ar,hf1,hf2,hf3,dx,bG,aw];congr 2;apply eO;simp
 . refine(hcall (w.heap.size+1) (RJ X (E.mks M') nt U tm inv (w.heap.size+1) fn a.tmps ps assign body) (fun b=>b∈bs\/w1.heap.size<=b) H w1 bs
    (RJ.iter hI hS.size hps hys htm hal (fun k g=>(hdom k g).1) (fun k g=>(hdom k g).2) hround) ?_ G2.has (fun b hb=>.inr hb) ?_ ?_).mono ?_
   . have hbs:∀b∈bs,b<w.heap.size/\E.own b:=fun b hb=>by
      obtain⟨g',hg',rfl⟩:=List.mem_map.1 hb;obtain⟨z,hz'⟩:=lY hz g' hg';exact⟨(hS.sim.box g' _ hz').lt rfl,(hS.sim.box g' _ hz').lo rfl⟩
     refine⟨G2,⟨_,hw1l⟩,fun b hb=>hb.elim (fun h=>(hbs b h).2) (fun h=>G1.lo b h),fun hb=>hb.elim (fun h=>by have:=(hbs _ h).1;omega) (fun h=>by omega),hS.sim.lo _ (by omega),fun g' b hg' hb=>?_,fun g' s R hg' hR hb=>?_,fun D hD hb=>?_⟩
     . have hbx:=hb0 g' b hg';have ha:=(hal 0 g' b hg').1;rcases hb with hb|hb
       . obtain⟨g2,hg2,e⟩:=List.mem_map.1 hb;obtain⟨z,hz'⟩:=lY hz g2 hg2;have:=hS.sim.inj g2 g' _ b hz' hbx rfl ha e;subst this;rw[hdj g2 hg2] at hg';cases hg'
       . have:=(G1.box g' b hbx).lt ha;omega
     . have hbx:=hb0 g' _ hg';rcases hb with hb|hb
       . obtain⟨g2,hg2,e⟩:=List.mem_map.1 hb;obtain⟨z,hz'⟩:=lY hz g2 hg2;exact G1.hid g' s g2 _ R hbx hz' rfl hR e
       . have:=(jY (G1.box g' _ hbx).2.2.1 hR).1;omega
     . obtain⟨D',e,_,hx⟩:=G2.marks.2 _ hD;cases e;have hlt:=(Array.getElem?_eq_some_iff.1 hx).1;rcases hb with hb|hb
       . obtain⟨g2,hg2,e⟩:=List.mem_map.1 hb;obtain⟨z,hz'⟩:=lY hz g2 hg2;obtain⟨arr,e',hc⟩:=(G1.box g2 _ hz').cells rfl;rw[e,hx] at hc;cases hc
       . omega
   . exact Ch G1 hz (fun g' hg'=>.inl (List.mem_map.2 ⟨g',hg',rfl⟩))
   . refine List.pairwise_map.2 (hgs.imp_of_mem fun{x y} hx hy hne e=>hne ?_);obtain⟨z1,hz1⟩:=lY hz x hx;obtain⟨z2,hz2⟩:=lY hz y hy;exact hS.sim.inj x y _ _ hz1 hz2 rfl rfl e
   . rintro e w3 ⟨v,own',H3,rfl,hh3,hJ⟩;obtain⟨D3,hD3⟩:=hJ.rec';refine⟨none,_,run_endLoop hD3 (by simp),?_⟩;refine hQ .normal ⟨tm,inv ys.length,nx⟩ M' H3 U _ _ hend ⟨hJ.sim.poke _ hD3 rfl hJ.el (fun d hd e=>?_),?_,hS.size⟩
     . obtain⟨D',e',_,hb⟩:=hJ.sim.marks.2 d hd;rw[e] at e';cases e';rw[hD3] at hb;cases hb
     . show _++a.defers=_;rw[hS.defers];rfl
structure Keep where
 I:my->Prop
 bel:∀n w w',I w->w.heap.size<=n->Below n w w'->I w'
 ro:Option Nat->Prop
 r0:ro none
def Keep.top(J:Keep):Keep:=⟨J.I,J.bel,fun r=>r=none,rfl⟩
def Keep.any(J:Keep):Keep:=⟨J.I,J.bel,fun _=>True,ab⟩
noncomputable def cx(J:Keep):Cx:=⟨Tryz.prog,J.I,TT,vo,by kernel_rfl,J.bel,fun f=>Nat.beq f 203||Nat.beq f 204,fun f=>Nat.beq f 104,J.ro,J.r0⟩
abbrev C(J:Keep):qe->List IV->IV->Prop:=a7 Tryz.prog J.I
def qF(nt:Nat)(all:Array X4)(draw:Bool):Bool:=cJ nt all.toList&&(!draw||oB all (kC all.toList))
def W(J:Keep)(nt:Nat)(c:X5)(Y:AS)(K:X6->AS->Prop):Prop:=CW (cx J) nt c Y K
def wK(J:Keep)(nt:Nat)(y:X5)(K:X6->AS->Prop):X6->AS->Prop
 | .normal,Y=>W J nt y Y K
 |e,Y=>K e Y
section
variable {J:Keep}{nt:Nat}{Y:AS}{K:X6->AS->Prop}
theorem aH{f:qe}{fn:Func}{c:X5}(hf:Tryz.prog.funcs[f]?=some fn)(hb:fn.body=some c)(hn:(fn.name == "runtime.NumGoroutine")=false){xs:List IV}{r:IV}(hx:Nat.ble xs.length fn.ntmps=true)
 (h:W J fn.ntmps c ⟨argS xs,fun _=>none,0⟩ (Mb TT fn.results.toList r)):C J f xs r :=
 S6 (X:=cx J) hf hb hn (aG hx) h
theorem LO{f:qe}{fn:Func}{c:X5}(hf:Tryz.prog.funcs[f]?=some fn)(hb:fn.body=some c)(hn:(fn.name == "runtime.NumGoroutine")=false){e:me}{sz off n:Nat}{es es' xs:List IV}{r:IV}(hx:Nat.ble (xs.length+1) fn.ntmps=true)
 (h:W J fn.ntmps c ⟨Ms off n xs,dw [(aK,.arr e sz es false)],0⟩ (Ma TT fn.results.toList (.arr e sz es' false) r)):be Tryz.prog J.I f e sz off n es xs es' r :=
 Vz (X:=cx J) hf hb hn (aG hx) h
theorem W.R{id:Nat}{all:Array X4}{draw:Bool}(h:qP (cx J) all draw Y (K .normal))(h0:qF nt all draw=true:=by kernel_rfl):W J nt (.region id all draw) Y K:=by
 simp only[qF,az,g6] at h0;exact CW.region h0.1 (fun e=>h0.2.resolve_left (by subst e;simp)) h
theorem W.S{x y:X5}(h:W J nt x Y (wK J nt y K)):W J nt (.seq x y) Y K:=CW.seq (CW.mono h fun e Y k=>by cases e<;>exact k)
theorem W.RS{id:Nat}{all:Array X4}{draw:Bool}{y:X5}(h:qP (cx J) all draw Y fun Y'=>W J nt y Y' K)(h0:qF nt all draw=true:=by kernel_rfl):W J nt (.seq (.region id all draw) y) Y K :=
 W.S (W.R h h0)
theorem W.skip(h:K .normal Y):W J nt .skip Y K:=CW.skip h
theorem W.ret(h:K .ret Y):W J nt .ret Y K:=CW.ret h
theorem W.exit{id:Nat}(h:K (.exit id) Y):W J nt (.exit id) Y K:=CW.exit h
theorem W.label{l:Nat}(h:K .normal Y):W J nt (.label l) Y K:=CW.label h
theorem W.cond{c:X0}{x y:X5}{t:Bool}(hc:evS Y.tm c=.iv (.bool t))(h1:t=true->W J nt x Y K)(h2:t=false->W J nt y Y K):W J nt (.cond c x y) Y K:=CW.cond hc h1 h2
theorem W.block{id:Nat}{c:X5}(h:W J nt c Y (yW id K)):W J nt (.block id c) Y K:=CW.block h
theorem W.weak{c:X5}{Y':AS}(hw:Wk Y Y')(h:W J nt c Y' K):W J nt c Y K:=CW.weak hw h
theorem W.loop{G:Type}(inv:G->AS)(μ:G->Nat){c:X5}(g0:G)(h0:Wk Y (inv g0))(h:∀g,W J nt c (inv g) (LH inv μ g K)):W J nt (.loop c) Y K:=CW.loop inv μ g0 h0 h
theorem W.join{G:Type}(inv:G->AS){x y:X5}(h1:W J nt x Y (LJ inv K))(h2:∀g,W J nt y (inv g) K):W J nt (.seq x y) Y K:=CW.join inv h1 h2
theorem W.condT{c:X0}{x y:X5}(hc:evS Y.tm c=.iv (.bool true))(h:W J nt x Y K):W J nt (.cond c x y) Y K:=W.cond hc (fun _=>h) (fun e=>by cases e)
theorem W.condF{c:X0}{x y:X5}(hc:evS Y.tm c=.iv (.bool false))(h:W J nt y Y K):W J nt (.cond c x y) Y K:=W.cond hc (fun e=>by cases e) (fun _=>h)
def Mq(J:Keep)(nt:Nat)(Y:AS)(K:X6->AS->Prop):X5->Option Prop
 | .seq x y=>some (W J nt x Y (wK J nt y K))
 | .block id c=>some (W J nt c Y (yW id K))
 | .skip=>some (K .normal Y)
 | .label _=>some (K .normal Y)
 | .ret=>some (K .ret Y)
 | .exit id=>some (K (.exit id) Y)
 | .cond c x y=>match evS Y.tm c with
  | .iv (.bool true)=>some (W J nt x Y K)
  | .iv (.bool false)=>some (W J nt y Y K)
  |_=>none
 |_=>none
theorem W.c{c:X5}{P:Prop}(h:P)(e:Mq J nt Y K c=some P:=by exact rfl):W J nt c Y K:=by
 unfold Mq at e;split at e
 . cases e;exact W.S h
 . cases e;exact W.block h
 . cases e;exact W.skip h
 . cases e;exact W.label h
 . cases e;exact W.ret h
 . cases e;exact W.exit h
 . split at e
   . rename_i hc;cases e;exact W.condT hc h
   . rename_i hc;cases e;exact W.condF hc h
   . cases e
 . cases e
end
attribute [irreducible] W
theorem xT{p:Prop}[Decidable p]{K:Bool->Prop}(h:p)(k:K true):∃b,decide p=b/\K b:=⟨true,aZ h,k⟩
theorem xF{p:Prop}[Decidable p]{K:Bool->Prop}(h:¬p)(k:K false):∃b,decide p=b/\K b:=⟨false,bl h,k⟩
theorem xr{α:Sort _}{a:α}{p:Prop}(k:p):a=a/\p:=⟨rfl,k⟩
theorem xA{α:Sort _}{a b:α}{K:α->Prop}(k:K b):∃r,(false=true->a=r)/\(false=false->b=r)/\K r:=⟨b,fun h=>absurd h Bool.false_ne_true,fun _=>rfl,k⟩
theorem xB{α:Sort _}{a b:α}{K:α->Prop}(k:K a):∃r,(true=true->a=r)/\(true=false->b=r)/\K r:=⟨a,fun _=>rfl,fun h=>absurd h.symm Bool.false_ne_true,k⟩
theorem dv{a:Int}(h : -9223372036854775808<=a/\a<=9223372036854775807):IntKind.wrap .i64 a=a:=by
 show(let m:=a%(18446744073709551616:Int);if true&&decide (m>=(9223372036854775808:Int)) then m-(18446744073709551616:Int) else m)=a;by_cases h0:a%(18446744073709551616:Int)>=9223372036854775808
 . simp[h0];omega
 . simp[h0];omega
theorem ew{a:Int}(h:0<=a/\a<=4294967295):IntKind.wrap .u32 a=a:=by
 show(let m:=a%(4294967296:Int);if false&&decide (m>=(2147483648:Int)) then m-(4294967296:Int) else m)=a;simp;omega
theorem eH{a:Int}(h:0<=a/\a<=18446744073709551615):IntKind.wrap .u64 a=a:=by
 show(let m:=a%(18446744073709551616:Int);if false&&decide (m>=(9223372036854775808:Int)) then m-(18446744073709551616:Int) else m)=a;simp;omega
theorem ap{α:Sort _}{a:α}{x:Int}{K:Int->Prop}(h : -9223372036854775808<=x/\x<=9223372036854775807)(k:K x):a=a/\∃r,IntKind.wrap .i64 x=r/\K r:=⟨rfl,x,dv h,k⟩
end Go.Proofs.Fl
namespace Go.Proofs.Fl
open Go.RowKit
attribute [local irreducible] IntKind.wrap a7 be bq bw
theorem sw(J:Keep)(ds:List IV):C J 47 [.agg [.sl ds]] (.bool ((ds.length:Int)==0)):=by
 refine aH Tryz.func47 rfl rfl rfl ?_;repeat((first|refine W.RS ?_|refine W.ret ?_|refine⟨_,rfl,?_⟩|refine xr ?_);conv=>whnf)
 rfl
theorem T0(J:Keep)(a:Int):C J 174 [.int .i64 a] (.bool false):=by
 refine aH Tryz.func174 rfl rfl rfl ?_;repeat((first|refine W.RS ?_|refine W.ret ?_|refine⟨false,bne_eq_false_iff_eq.2 (by omega),?_⟩|refine xr ?_);conv=>whnf)
 simp[hG]
theorem TZ(J:Keep)(a:Int):C J 175 [.int .u32 a] (.bool false):=by
 refine aH Tryz.func175 rfl rfl rfl ?_;repeat((first|refine W.RS ?_|refine W.ret ?_|refine⟨false,bne_eq_false_iff_eq.2 (by omega),?_⟩|refine xr ?_);conv=>whnf)
 simp[hG]
def aN(a b:Int):Int:=if a<b then -1 else if b<a then 1 else 0
theorem CV(J:Keep)(a b:Int):C J 127 [.int .i64 a,.int .i64 b] (.int .i64 (aN a b)):=by
 refine aH Tryz.func127 rfl rfl rfl ?_;repeat((first|refine W.R ?_|refine W.c ?_|refine⟨_,T0 _ _,?_⟩|refine⟨_,rfl,?_⟩|refine xr ?_);conv=>whnf)
 refine W.cond rfl (fun h=>?_) (fun h=>?_)
 . have h:=mY h;repeat((first|refine W.RS ?_|refine W.ret ?_);conv=>whnf)
   simp[hG,aN,h]
 . have h:=pC h;repeat((first|refine W.R ?_|refine W.c ?_|refine⟨_,rfl,?_⟩|refine xr ?_);conv=>whnf)
   refine W.cond rfl (fun h=>?_) (fun h=>?_)
   . have h2:=mY h;repeat((first|refine W.RS ?_|refine W.ret ?_);conv=>whnf)
     simp[hG,aN];omega
   . have h2:=pC h;repeat((first|refine W.RS ?_|refine W.ret ?_|refine W.skip ?_);conv=>whnf)
     simp[hG,aN];omega
end Go.Proofs.Fl
namespace Go.Proofs.Dig
def nv(B:Nat):List Nat->Nat
 | []=>0
 |d::ds=>d+B*nv B ds
theorem Vx(B:Nat):nv B []=0:=rfl
theorem iE(B d:Nat)(ds:List Nat):nv B (d::ds)=d+B*nv B ds:=rfl
theorem nc(B:Nat)(a b:List Nat):nv B (a++b)=nv B a+B^a.length*nv B b:=by
 induction a with
 |nil=>simp[nv]
 |cons d a ih=>simp only[kJ,nv,ih,bB,cr];rw[bW];rw[dD (B^a.length) B];rw[dZ];omega
theorem l5(B d:Nat)(a:List Nat):nv B (a ++ [d])=nv B a+B^a.length*d:=by
 rw[nc];simp[nv]
theorem wH(B n:Nat):nv B (List.replicate n 0)=0:=by
 induction n with
 |zero=>rfl
 |succ n ih=>simp[rp,nv,ih]
def Dg(B:Nat)(ds:List Nat):Prop:=∀d∈ds,d<B
theorem Dg.nil(B:Nat):Dg B []:=by intro d h;simp at h
theorem Dg.append{B:Nat}{a b:List Nat}(ha:Dg B a)(hb:Dg B b):Dg B (a++b):=by
 intro d h;rcases List.mem_append.1 h with h|h
 . exact ha d h
 . exact hb d h
theorem og{B d:Nat}(h:d<B):Dg B [d]:=by intro x hx;simp at hx;omega
theorem Dg.left{B:Nat}{a b:List Nat}(h:Dg B (a++b)):Dg B a:=fun d hd=>h d (by simp[hd])
theorem Dg.take{B:Nat}{a:List Nat}(h:Dg B a)(n:Nat):Dg B (a.take n):=fun d hd=>h d (dY hd)
theorem Dg.drop{B:Nat}{a:List Nat}(h:Dg B a)(n:Nat):Dg B (a.drop n):=fun d hd=>h d (jn hd)
theorem Dg.get{B:Nat}{a:List Nat}(h:Dg B a){i:Nat}(hi:i<a.length):a[i]<B:=h _ (eM hi)
theorem Dg.getD{B:Nat}{a:List Nat}(h:Dg B a)(hB:0<B)(i:Nat):a.getD i 0<B:=by
 rw[br];by_cases hi:i<a.length
 . rw[a6 hi];exact h.get hi
 . rw[ry (by omega)];exact hB
theorem Dg.replicate{B:Nat}(hB:0<B)(n:Nat):Dg B (List.replicate n 0):=by
 intro d h;have:=vY h;omega
theorem Dg.set{B:Nat}{a:List Nat}(h:Dg B a){i x:Nat}(hx:x<B):Dg B (a.set i x):=by
 intro d hd;rcases EU hd with h1|h1
 . exact h d h1
 . omega
theorem fk{B:Nat}{ds:List Nat}(h:Dg B ds):nv B ds<B^ds.length:=by
 induction ds with
 |nil=>simp[nv]
 |cons d ds ih=>
  have h1:=ih (fun x hx=>h x (by simp[hx]));have h2:=h d (by simp);simp only[nv,bB,cr];have:B*(nv B ds+1)<=B*B^ds.length:=fK B h1;rw[bW] at this;rw[dD (B^ds.length) B];omega
def Nm(ds:List Nat):Prop:=∀d,ds.getLast?=some d->d≠0
theorem Nm.nil:Nm []:=by intro d h;simp at h
theorem Kw{a:List Nat}{d:Nat}(h:d≠0):Nm (a ++ [d]):=by intro x hx;simp at hx;omega
theorem Nm.cons{a:List Nat}{d:Nat}(h:Nm (d::a)):Nm a:=by
 intro x hx;cases a with
 |nil=>simp at hx
 |cons y a=>exact h x (by rw[Nh];exact hx)
theorem Nm.drop{a:List Nat}(h:Nm a)(n:Nat):Nm (a.drop n):=by
 intro x hx;rw[List.getLast?_drop] at hx;split at hx
 . simp at hx
 . exact h x hx
theorem Ge{a:List Nat}(h:a≠[]):∃b d,a=b ++ [d]:=⟨a.dropLast,a.getLast h,(List.dropLast_concat_getLast h).symm⟩
structure Ok(B:Nat)(ds:List Nat):Prop where
 dg:Dg B ds
 nm:Nm ds
theorem Ok.nil(B:Nat):Ok B []:=⟨Dg.nil B,Nm.nil⟩
theorem qI{B:Nat}{ds:List Nat}(h:Nm ds)(hne:ds≠[]):B^(ds.length-1)<=nv B ds:=by
 obtain⟨a,d,rfl⟩:=Ge hne;have hd:d≠0:=h d (by simp);rw[l5];simp only[bF,bB,nV,aU,tQ];have:B^a.length*1<=B^a.length*d:=fK _ (by omega);omega
theorem KR{B:Nat}(hB:0<B){ds:List Nat}(h:Nm ds)(hne:ds≠[]):0<nv B ds :=
 g7 (gh hB) (qI h hne)
theorem F5{B:Nat}(hB:0<B){ds:List Nat}(h:Nm ds):nv B ds=0↔ds=[]:=by
 constructor
 . intro h0;by_cases hne:ds=[]
   . exact hne
   . have:=KR hB h hne;omega
 . rintro rfl;rfl
theorem A0{B:Nat}(hB:0<B){a b:List Nat}(ha:Dg B a)(hb:Nm b)(h:a.length<b.length):nv B a<nv B b:=by
 have h1:=fk ha;have h2:B^(b.length-1)<=nv B b:=qI hb (by intro e;subst e;simp at h);have h3:B^a.length<=B^(b.length-1):=dz hB (by omega);omega
theorem RL{B x y d e:Nat}(hx:x<B)(h:d<e):x+B*d<y+B*e:=by
 have:B*(d+1)<=B*e:=fK _ (by omega);rw[bW] at this;omega
theorem Bw{B:Nat}{a b c:List Nat}{d e:Nat}(ha:Dg B a)(hl:a.length=b.length)(h:d<e) :
 nv B (a++d::c)<nv B (b++e::c):=by
 rw[nc,nc,iE,iE,hl,bW,bW];have h1:=fk ha;rw[hl] at h1;have h2:=RL (y:=nv B b) h1 h;omega
theorem Ds{B:Nat}(hB:1<B):∀{a b:List Nat},Ok B a->Ok B b->nv B a=nv B b->a=b
 | [],b,_,hb,h=>((F5 (by omega) hb.nm).1 h.symm).symm
 |d::a,[],ha,_,h=>(F5 (by omega) ha.nm).1 h
 |d::a,e::b,ha,hb,h=>by
  simp only[nv] at h;have h1:=ha.dg d (by simp);have h2:=hb.dg e (by simp);have h3:d=e:=by
   have:=aJ (· % B) h;simpa[AH,fX h1,fX h2] using this
  subst h3;have h4:nv B a=nv B b:=by
   have:B*nv B a=B*nv B b:=by omega
   exact Nat.eq_of_mul_eq_mul_left (by omega) this
  rw[Ds hB ⟨fun x hx=>ha.dg x (by simp[hx]),ha.nm.cons⟩ ⟨fun x hx=>hb.dg x (by simp[hx]),hb.nm.cons⟩ h4]
def strip(ds:List Nat):List Nat:=(ds.reverse.dropWhile (· == 0)).reverse
theorem FE(a:List Nat):strip (a ++ [0])=strip a:=by simp[strip]
theorem Gb{a:List Nat}{d:Nat}(h:d≠0):strip (a ++ [d])=a ++ [d]:=by simp[strip,h]
theorem Ba(ds:List Nat):Nm (strip ds)/\∃n,ds=strip ds++List.replicate n 0:=by
 induction hn:ds.length generalizing ds with
 |zero=>have:ds=[]:=rA hn;subst this;exact⟨Nm.nil,0,rfl⟩
 |succ n ih=>
  obtain⟨a,d,rfl⟩:=Ge (a:=ds) (by intro e;subst e;simp at hn);by_cases hd:d=0
  . subst hd;rw[FE];obtain⟨h1,k,h2⟩:=ih a (by simpa using hn);refine⟨h1,k+1,?_⟩;rw[List.replicate_succ',<-dX,<-h2]
  . rw[Gb hd];exact⟨Kw hd,0,by simp⟩
theorem H9(B:Nat)(ds:List Nat):nv B (strip ds)=nv B ds:=by
 obtain⟨_,n,h⟩:=Ba ds;conv=>rhs;rw[h]
 rw[nc,wH];simp
theorem Dg.strip{B:Nat}{ds:List Nat}(h:Dg B ds):Dg B (strip ds):=by
 obtain⟨_,n,e⟩:=Ba ds;rw[e] at h;exact h.left
theorem Ok.strip{B:Nat}{ds:List Nat}(h:Dg B ds):Ok B (strip ds):=⟨h.strip,(Ba ds).1⟩
theorem t8{B:Nat}(hB:1<B){a:List Nat}(ha:Ok B a){k:Nat}(h:nv B a<B^k):a.length<=k:=by
 by_cases hne:a=[]
 . subst hne;simp
 . have h1:=qI (B:=B) ha.nm hne;have h2:B^(a.length-1)<B^k:=by omega
   have:=(Nat.pow_lt_pow_iff_right hB).1 h2;omega
theorem uc(B:Nat)(a:List Nat)(n:Nat)(h:n<=a.length):nv B a=nv B (a.take n)+B^n*nv B (a.drop n):=by
 conv=>lhs;rw[<-jQ n a]
 rw[nc,cy,cB h]
theorem t7{a:List Nat}{i:Nat}(h:i<a.length):a.take (i+1)=a.take i ++ [a[i]]:=by
 rw[tR h]
theorem AZ(B:Nat)(a:List Nat)(i:Nat)(h:i<a.length):nv B (a.take (i+1))=nv B (a.take i)+B^i*a[i]:=by
 rw[t7 h,l5,cy,cB (by omega)]
theorem TA(B:Nat)(a:List Nat)(i:Nat)(h:i<a.length):nv B (a.drop i)=a[i]+B*nv B (a.drop (i+1)):=by
 rw[gJ h,iE]
theorem pG{o:List Nat}{i x:Nat}(h:i<o.length):(o.set i x).take (i+1)=o.take i ++ [x]:=by
 rw[t7 (by simpa using h),List.take_set,List.set_eq_of_length_le (by simp;omega)];simp
theorem FL(o:List Nat)(i x:Nat):(o.set i x).drop (i+1)=o.drop (i+1):=by
 rw[List.drop_set,ay (by omega)]
theorem FM{o:List Nat}{i x:Nat}(h:i<o.length):(o.set i x).drop i=x::o.drop (i+1):=by
 rw[gJ (by simpa using h),FL];simp
theorem Px{B i c c' x x' s X:Nat}{A:List Nat}(hA:A.length=i)(h:nv B A+B^i*c=X)(hx:x=x'+B*c')(hs:x=s+c) :
 nv B (A ++ [x'])+B^(i+1)*c'=X+B^i*s:=by
 rw[l5,hA,cr,<-h,dZ];have:B^i*x=B^i*x'+B^i*(B*c'):=by rw[hx,bW]
 have h2:B^i*x=B^i*s+B^i*c:=by rw[hs,bW]
 omega
theorem Ga{B i c c' x s y X Yz9:Nat}{A:List Nat}(hA:A.length=i)(h:nv B A+Yz9=X+B^i*c)(hx:x+s+c=y+B*c') :
 nv B (A ++ [x])+(Yz9+B^i*s)=(X+B^i*y)+B^(i+1)*c':=by
 rw[l5,hA,cr,dZ];have h2:B^i*(x+s+c)=B^i*(y+B*c'):=by rw[hx]
 rw[bW,bW,bW] at h2;omega
end Go.Proofs.Dig
namespace Go.Proofs.Fl
open Go.RowKit Go.Proofs.Dig
attribute [local irreducible] IntKind.wrap a7 be bq bw
theorem Uc(J:Keep)(a b:Int):C J 128 [.int .u32 a,.int .u32 b] (.int .i64 (aN a b)):=by
 refine aH Tryz.func128 rfl rfl rfl ?_;repeat((first|refine W.R ?_|refine W.c ?_|refine⟨_,TZ _ _,?_⟩|refine⟨_,rfl,?_⟩|refine xr ?_);conv=>whnf)
 refine W.cond rfl (fun h=>?_) (fun h=>?_)
 . have h:=mY h;repeat((first|refine W.RS ?_|refine W.ret ?_);conv=>whnf)
   simp[hG,aN,h]
 . have h:=pC h;repeat((first|refine W.R ?_|refine W.c ?_|refine⟨_,rfl,?_⟩|refine xr ?_);conv=>whnf)
   refine W.cond rfl (fun h=>?_) (fun h=>?_)
   . have h2:=mY h;repeat((first|refine W.RS ?_|refine W.ret ?_);conv=>whnf)
     simp[hG,aN];omega
   . have h2:=pC h;repeat((first|refine W.RS ?_|refine W.ret ?_|refine W.skip ?_);conv=>whnf)
     simp[hG,aN];omega
abbrev B9:Nat:=1000000000
def u32(d:Nat):IV:=.int .u32 d
abbrev bE(l:List Nat):IV:=.agg [.sl (l.map u32)]
def oW(a b:List Nat):Int:=aN (nv B9 a) (nv B9 b)
theorem dm{k:IntKind}{a b:Int}(h:a=b):SV.iv (.int k a)=SV.iv (.int k b):=by rw[h]
theorem CL{l:List Nat}{j:Nat}(h:j<l.length):(l.map u32)[j]?=some (u32 l[j]):=by simp[h]
theorem rV{x y:Int}(h:aN x y=0):x=y:=by
 unfold aN at h;split at h
 . cases h
 . split at h
   . cases h
   . omega
theorem HF{x y:Int}(h:(x != y)=false):x=y:=by simpa using h
theorem IW{x y:Int}(h:(x != y)=true):x≠y:=by simpa using h
theorem RN{a b:List Nat}(ha:Ok B9 a)(hb:Ok B9 b)(h:a.length≠b.length):oW a b=aN a.length b.length:=by
 unfold oW aN;rcases Ni h with h|h
 . have:=A0 (by decide) ha.dg hb.nm h;rw[ay (by omega),ay (by omega)]
 . have:=A0 (by decide) hb.dg ha.nm h;rw[am (by omega),ay (by omega),am (by omega),ay (by omega)]
theorem RM{a b:List Nat}(ha:Ok B9 a)(hb:Ok B9 b)(hl:a.length=b.length){k:Nat}(hk:k<a.length)(hd:a.drop (k+1)=b.drop (k+1))(hne:a[k]≠b[k]'(by omega)) :
 oW a b=aN (a[k]:Nat) (b[k]'(by omega):Nat):=by
 have ea:a=a.take k++a[k]::a.drop (k+1):=by simp
 have eb:b=b.take k++b[k]'(by omega)::a.drop (k+1):=by rw[hd];simp
 have hlt:(a.take k).length=(b.take k).length:=by simp;omega
 unfold oW aN;rcases Ni hne with h|h
 . have:=Bw (B:=B9) (c:=a.drop (k+1)) (ha.dg.take k) hlt h;rw[<-ea,<-eb] at this;rw[ay (by omega),ay (by omega)]
 . have:=Bw (B:=B9) (c:=a.drop (k+1)) (hb.dg.take k) hlt.symm h;rw[<-ea,<-eb] at this;rw[am (by omega),ay (by omega),am (by omega),ay (by omega)]
theorem yj(J:Keep){a b:List Nat}(ha:Ok B9 a)(hb:Ok B9 b)(hl:a.length<2^60):C J 73 [bE a,bE b] (.int .i64 (oW a b)):=by
 have la:(a.map u32).length=a.length:=by simp
 have lb:(b.map u32).length=b.length:=by simp
 refine aH Tryz.func73 rfl rfl rfl ?_;repeat((first|refine W.R ?_|refine W.c ?_|refine⟨_,CV _ _ _,?_⟩|refine⟨_,rfl,?_⟩|refine xr ?_);conv=>whnf)
 refine W.cond rfl (fun h=>?_) (fun h=>?_)
 . have h:=IW h;rw[la,lb] at h;repeat((first|refine W.RS ?_|refine W.ret ?_);conv=>whnf)
   rw[RN ha hb (fun e=>h (by rw[e];simp[aN])),la,lb];rfl
 . have h:=rV (HF h);have hab:a.length=b.length:=by omega
   repeat((first|refine W.R ?_|refine W.c ?_|refine ap (by omega) ?_|refine⟨_,rfl,?_⟩);conv=>whnf)
   refine W.loop (G:={ k:Nat // k<=a.length/\a.drop k=b.drop k }) (fun k=>aF [(2,.ptr 0 0),(3,.ptr 1 0),(6,.iv (.int .i64 ((k.1:Int)-1)))] [(0,.var (bE a)),(1,.var (bE b))] 2) (fun k=>k.1) ⟨a.length,ak _,by simp[hab]⟩
    (Wk.tab [] ⟨aa,aa,⟨?_,rfl⟩,ab⟩ ⟨rfl,rfl,ab⟩ rfl) ?_
   . show SV.iv (.int .i64 _)=SV.iv (.int .i64 _);rw[la]
   . rintro⟨k,hk,hd⟩;dsimp only;repeat((first|refine W.R ?_|refine W.c ?_|refine⟨_,rfl,?_⟩|refine xr ?_);conv=>whnf)
     refine W.cond rfl (fun h=>?_) (fun h=>?_)
     . have h:=mY h;obtain⟨k,rfl⟩:∃j,k=j+1:=⟨k-1,by omega⟩;have hk1:k<a.length:=by omega
       repeat((first|refine W.R ?_|refine W.c ?_);conv=>whnf)
       refine⟨k,_,by omega,CL hk1,rfl,?_⟩;conv=>whnf
       refine⟨k,_,by omega,CL (show k<b.length by omega),rfl,?_⟩;conv=>whnf
       repeat((first|refine W.RS ?_|refine⟨_,Uc _ _ _,?_⟩|refine⟨_,rfl,?_⟩|refine xr ?_);conv=>whnf)
       refine W.cond rfl (fun h=>?_) (fun h=>?_)
       . have h2:=IW h;repeat((first|refine W.RS ?_|refine W.ret ?_);conv=>whnf)
         have hne:a[k]≠b[k]:=fun e=>h2 (by rw[e];simp[aN]);rw[RM ha hb hab hk1 hd hne];rfl
       . have h2:=rV (HF h);repeat((first|refine W.R ?_|refine W.skip ?_|refine ap (by omega) ?_);conv=>whnf)
         refine⟨⟨k,by omega,?_⟩,Wk.tab [] ⟨aa,aa,⟨dm (by dsimp only;omega),rfl⟩,ab⟩ ⟨rfl,rfl,ab⟩ rfl,?_⟩
         . rw[gJ hk1,gJ (show k<b.length by omega),hd,show a[k]=b[k] by omega]
         . show k<k+1;omega
     . have h:=pC h;have hk0:k=0:=by omega
       subst hk0;repeat((first|refine W.RS ?_|refine W.ret ?_|refine W.exit ?_);conv=>whnf)
       have e:a=b:=by simpa using hd
       subst e;simp[hG,oW,aN]
theorem NX{l:List Nat}{n:Nat}(hn:n<l.length)(h0:l[n]=0):strip (l.take (n+1))=strip (l.take n):=by
 rw[t7 hn,h0,FE]
theorem N7{l:List Nat}{n:Nat}(hn:n<l.length)(h0:l[n]≠0):strip (l.take (n+1))=l.take (n+1):=by
 rw[t7 hn,Gb h0]
theorem Ej{a:List IV}{l:List Nat}(h:a=l.map u32):IV.agg [.sl a]=bE l:=by rw[h]
theorem Ud(J:Keep){l:List Nat}(hl:l.length<2^60):C J 126 [.sl (l.map u32)] (bE (strip l)):=by
 have la:(l.map u32).length=l.length:=by simp
 refine aH Tryz.func126 rfl rfl rfl ?_;repeat((first|refine W.R ?_|refine W.c ?_|refine⟨_,rfl,?_⟩);conv=>whnf)
 refine W.loop (G:={ n:Nat // n<=l.length/\strip l=strip (l.take n) }) (fun n=>aF [(0,.iv (.sl (l.map u32))),(2,.ptr 0 0),(3,.iv (.int .i64 (n.1:Int)))] [(0,.var (.agg [.sl []]))] 1) (fun n=>n.1) ⟨l.length,ak _,by simp⟩
  (Wk.tab [] ⟨aa,aa,⟨dm (by dsimp only;omega),rfl⟩,ab⟩ ⟨rfl,ab⟩ rfl) ?_
 rintro⟨n,hn,hs⟩;dsimp only;by_cases h:n=0
 . subst h;repeat((first|refine W.R ?_|refine W.c ?_|refine xF (by omega) ?_|refine⟨_,rfl,?_⟩|refine xr ?_|refine⟨by omega,by omega,by omega,.inr (by simp),.inl rfl,?_⟩|refine xA ?_);conv=>whnf)
   refine Ej ?_;rw[hs];rfl
 . obtain⟨n,rfl⟩:∃m,n=m+1:=⟨n-1,by omega⟩;repeat((first|refine W.R ?_|refine W.c ?_|refine ap (by omega) ?_|refine xT (by omega) ?_|refine xr ?_);conv=>whnf)
   refine⟨n,_,by omega,CL (show n<l.length by omega),rfl,?_⟩;conv=>whnf
   by_cases h0:l[n]=0
   . repeat (first|((first|refine W.R ?_|refine W.skip ?_|refine ap (by omega) ?_|refine xT (by omega) ?_|refine xr ?_|refine xB ?_);conv=>whnf)|(refine W.block ?_)|(refine W.condT rfl ?_))
     refine⟨⟨n,by omega,by rw[hs,NX (by omega) h0]⟩,Wk.tab [] ⟨aa,aa,⟨dm (by dsimp only;omega),rfl⟩,ab⟩ ⟨rfl,ab⟩ rfl,?_⟩;dsimp only;omega
   . repeat (first|((first|refine W.RS ?_|refine W.ret ?_|refine W.exit ?_|refine xF (by omega) ?_|refine⟨_,rfl,?_⟩|refine xr ?_|refine⟨by omega,by omega,by omega,.inr (by simp),.inl rfl,?_⟩|refine xB ?_);conv=>whnf)|(refine W.condF rfl ?_))
     rw[N7 (by omega) h0] at hs;refine Ej ?_;rw[hs];simp
theorem D5(n:Nat):∃l,Ok B9 l/\nv B9 l=n:=by
 induction n using Nat.strongRecOn with
 |_ n ih=>
  by_cases h:n=0
  . exact⟨[],Ok.nil _,by rw[h];rfl⟩
  . obtain⟨l,h1,h2⟩:=ih (n/B9) (Nj (by omega) (by decide));refine⟨n%B9::l,⟨?_,?_⟩,?_⟩
    . intro d hd;rcases List.mem_cons.1 hd with rfl|hd
      . exact iy _ (by decide)
      . exact h1.dg d hd
    . intro d hd;cases l with
      |nil=>
       simp at hd;subst hd;have:n/B9=0:=h2.symm;have h5:=nY n B9;rw[this] at h5;omega
      |cons x l=>exact h1.nm d (by rwa[Nh] at hd)
    . rw[iE,h2,Nat.mod_add_div]
noncomputable def dg(n:Nat):List Nat:=(D5 n).choose
theorem cM(n:Nat):Ok B9 (dg n):=(D5 n).choose_spec.1
theorem dH(n:Nat):nv B9 (dg n)=n:=(D5 n).choose_spec.2
theorem vm{l:List Nat}(h:Ok B9 l){n:Nat}(e:nv B9 l=n):l=dg n:=Ds (by decide) h (cM n) (by rw[e,dH])
theorem rZ{l:List Nat}(h:Dg B9 l){n:Nat}(e:nv B9 l=n):strip l=dg n:=vm (Ok.strip h) (by rw[H9,e])
theorem qh:dg 0=[]:=(vm (Ok.nil _) rfl).symm
theorem Ps{n:Nat}:dg n=[]↔n=0:=by
 constructor
 . intro h;have:=dH n;rw[h] at this;exact this.symm
 . rintro rfl;exact qh
noncomputable def ln(n:Nat):Nat:=(dg n).length
theorem li{n k:Nat}(h:n<B9^k):ln n<=k:=t8 (by decide) (cM n) (by rw[dH];exact h)
theorem nu(n:Nat):n<B9^ln n:=by have:=fk (cM n).dg;rwa[dH] at this
noncomputable abbrev aL(n:Nat):IV:=.agg [.sl ((dg n).map u32)]
theorem vf(a:Nat):(a:Int).tmod 1000000000=((a%1000000000:Nat):Int):=by
 rw[Int.tmod_eq_emod_of_nonneg (by omega)];omega
theorem y8(a:Nat):(a:Int).tdiv 1000000000=((a/1000000000:Nat):Int):=by
 rw[Int.tdiv_eq_ediv_of_nonneg (by omega)];omega
theorem Mw{a:Nat}(h:a<=18446744073709551615):IntKind.wrap .u64 ((a:Int).tdiv 1000000000)=((a/1000000000:Nat):Int):=by
 rw[y8];exact eH (by omega)
theorem ns{z:IV}{k:IntKind}{n:Int}:∀y∈List.take 1 (List.drop 0 ((List.replicate 1 z).set 0 (IV.int k n))),y.cells.length=1/\y.isTup=false:=by
 intro y hy;simp at hy;subst hy;exact⟨rfl,rfl⟩
theorem gW{a b:Nat}(h:Nat.beq a b=false):¬a∈[b]:=fun e=>AD h (List.mem_singleton.1 e)
def Wc(p:List Nat×Nat):AS :=
 match p.1 with
 | []=>aF [(0,.iv (.int .u64 (p.2:Int))),(2,.ptr 0 0),(3,.nilS)] [(0,.var (.agg [.sl []]))] 10
 |x::o=>aF [(0,.iv (.int .u64 (p.2:Int))),(2,.ptr 0 0),(3,.ref 1 0 (x::o).length true)] [(0,.var (.agg [.sl []])),(1,.arr 173 1 ((x::o).map u32) false)] 10
theorem kV(J:Keep){n:Nat}(hn:n<2^64):C J 110 [.int .u64 n] (aL n):=by
 refine aH Tryz.func110 rfl rfl rfl ?_;repeat((first|refine W.R ?_|refine W.c ?_);conv=>whnf)
 refine W.loop (G:={ p:List Nat×Nat // Dg B9 p.1/\nv B9 p.1+B9^p.1.length*p.2=n/\(p.2=0->Nm p.1)/\p.2<2^64/\p.1.length<=3 }) (fun p=>Wc p.1) (fun p=>p.1.2) ⟨([],n),Dg.nil _,by simp[nv],fun _=>Nm.nil,hn,by simp⟩
  (Wk.tab [] ⟨aa,aa,aa,ab⟩ ⟨rfl,ab⟩ rfl) ?_
 rintro⟨⟨o,m⟩,hd,hv,hnm,hm,hl⟩;dsimp only at hd hv hnm hm hl;cases o with
 |nil=>
  show W J _ _ (aF [(0,.iv (.int .u64 (m:Int))),(2,.ptr 0 0),(3,.nilS)] [(0,.var (.agg [.sl []]))] 10) _;by_cases h:m=0
  . subst h;repeat((first|refine W.R ?_|refine W.c ?_|refine xF (by omega) ?_|refine xr ?_);conv=>whnf)
    have hn0:n=0:=by rw[<-hv];rfl
    subst hn0;refine aJ (fun x=>IV.agg [IV.sl x]) ?_;rw[qh];rfl
  . repeat((first|refine W.R ?_|refine W.c ?_|refine⟨by decide,_,vf _,?_⟩|refine⟨by decide,_,Mw (by omega),?_⟩|refine⟨ns,aG rfl,aG rfl,?_⟩|refine⟨_,ew (by omega),?_⟩|refine xT (by omega) ?_|refine⟨_,rfl,?_⟩|refine xr ?_);conv=>whnf)
    refine⟨⟨([m%1000000000],m/1000000000),og (iy _ (by decide)),?_,?_,by dsimp only;omega,by simp⟩,
     Wk.tab [(1,17)] ⟨aa,aa,aa,ab⟩ ⟨rfl,rfl,ab⟩ rfl,?_⟩
    . simp[nv,B9] at hv ⊢;omega
    . intro h0;dsimp only at h0;intro d hd;simp at hd;omega
    . dsimp only;omega
 |cons x o=>
  show W J _ _ (aF [(0,.iv (.int .u64 (m:Int))),(2,.ptr 0 0),(3,.ref 1 0 (x::o).length true)] [(0,.var (.agg [.sl []])),(1,.arr 173 1 ((x::o).map u32) false)] 10) _;by_cases h:m=0
  . subst h;repeat((first|refine W.R ?_|refine W.c ?_|refine xF (by omega) ?_|refine xr ?_);conv=>whnf)
    refine Ej ?_;have e:x::o=dg n:=vm ⟨hd,hnm rfl⟩ (by rw[<-hv,jR,fA]);rw[<-e,bL,aC (by simp)]
  . repeat((first|refine W.R ?_|refine W.c ?_|refine⟨by decide,_,vf _,?_⟩|refine⟨_,ew (by omega),?_⟩|refine xT (by omega) ?_|refine xr ?_);conv=>whnf)
    refine⟨gW rfl,rfl,rfl,by simp,ns,?_,?_,?_⟩
    . show((x::o).length+1)*4<=140737488355328;omega
    . show(x::o).length+1<=maxLen;unfold maxLen;omega
    . repeat((first|refine W.R ?_|refine⟨by decide,_,Mw (by omega),?_⟩|refine xr ?_);conv=>whnf)
      refine⟨⟨(x::o ++ [m%1000000000],m/1000000000),hd.append (og (iy _ (by decide))),?_,?_,by dsimp only;omega,?_⟩,
       Wk.tab [(1,17)] ⟨aa,aa,⟨?_,rfl⟩,ab⟩ ⟨rfl,?_,ab⟩ rfl,?_⟩
      . dsimp only;rw[l5,<-hv,bF,tS,cr,lI,dZ,<-bW];congr 2;simp only[B9];omega
      . intro h0;dsimp only at h0;exact Kw (by omega)
      . have h3:(x::o).length<=2:=by
         apply iM;intro h3;have e3:(x::o).length=3:=by omega
         rw[e3] at hv;simp only[B9] at hv;omega
        simp at h3 ⊢;omega
      . refine aJ (fun k=>SV.ref 17 0 k true) ?_;show(x::o).length+1=_;simp
      . refine aJ (fun l=>some (Bx.arr 173 1 l false)) ?_;simp;rfl
      . dsimp only;omega
theorem bi{l:List Nat}{j:Nat}(h:j<l.length):(l.map u32)[j]?=some (u32 (l.getD j 0)):=by simp[h]
theorem xP{l:List Nat}{i d:Nat}{x:Int}(h:x=(d:Int)):(l.map u32).set i (IV.int .u32 x)=(l.set i d).map u32:=by
 rw[h,List.map_set];rfl
theorem qG{g off n n':Nat}{f:Bool}(h:n=n'):SV.ref g off n f=SV.ref g off n' f:=by rw[h]
theorem kr(n:Nat):(n:Int)+1=((n+1:Nat):Int):=rfl
theorem LQ(n:Nat):((n+1:Nat):Int)-1=(n:Int):=by omega
theorem zy(n m:Nat):(n:Int)+(m:Int)=((n+m:Nat):Int):=rfl
theorem sY{a:List IV}{l:List Nat}(h:a=l.map u32):some (Bx.arr 173 1 a false)=some (Bx.arr 173 1 (l.map u32) false):=by rw[h]
theorem gn{l:List Nat}(h:Dg B9 l)(i:Nat):l.getD i 0<1000000000:=h.getD (by decide) i
theorem k9{o:List Nat}{i j d:Nat}{x:Int}(hj:j=i)(h:x=(d:Int)):some (Bx.arr 173 1 ((o.map u32).set j (.int .u32 x)) false)=some (Bx.arr 173 1 ((o.set i d).map u32) false):=by
 rw[hj,xP h]
theorem jS(l:List Nat)(i:Nat):nv B9 (l.take (i+1))=nv B9 (l.take i)+B9^i*l.getD i 0:=by
 by_cases h:i<l.length
 . rw[AZ B9 l i h,br,a6 h];rfl
 . have e:l.getD i 0=0:=by simp[Nat.not_lt.1 h]
   rw[e,aC (show l.length<=i+1 by omega),aC (Nat.not_lt.1 h)];exact(fA _).symm
theorem oz{l m o:List Nat}{i c d c':Nat}(hi:i<o.length)(hs:nv B9 (o.take i)+B9^i*c=nv B9 (l.take i)+nv B9 (m.take i))(he:l.getD i 0+c+m.getD i 0=d+1000000000*c') :
 nv B9 ((o.set i d).take (i+1))+B9^(i+1)*c'=nv B9 (l.take (i+1))+nv B9 (m.take (i+1)):=by
 rw[pG hi,jS l,jS m];have:=Px (B:=B9) (A:=o.take i) (s:=l.getD i 0+m.getD i 0) (x:=l.getD i 0+c+m.getD i 0) (x':=d) (c':=c') (by simp;omega) hs he (by omega);rw[this,bW];omega
theorem sr(J:Keep){l:List Nat}{es:List IV}(h:es=l.map u32)(hl:l.length<2^60):C J 126 [.sl es] (bE (strip l)):=by
 rw[h];exact Ud J hl
theorem Ue(J:Keep)(n:Nat):C J 170 [aL n] (.bool (decide (n=1))):=by
 have la:((dg n).map u32).length=(dg n).length:=by simp
 refine aH Tryz.func170 rfl rfl rfl ?_;have hv:=dH n;by_cases h:(dg n).length=1
 . repeat((first|refine W.RS ?_|refine W.ret ?_|refine⟨0,_,rfl,bi (by omega),rfl,?_⟩|refine xT (by omega) ?_|refine⟨_,rfl,?_⟩|refine xr ?_|refine xB ?_);conv=>whnf)
   obtain⟨d,hd⟩:∃d,dg n=[d]:=List.length_eq_one_iff.1 h;have hn:n=d:=by rw[<-hv,hd];rfl
   rw[hd,hn];simp only[hG];congr 1;rw[Bool.eq_iff_iff];simp;omega
 . repeat((first|refine W.RS ?_|refine W.ret ?_|refine xF (by omega) ?_|refine⟨_,rfl,?_⟩|refine xr ?_|refine xA ?_);conv=>whnf)
   have:¬n=1:=fun e=>h (by
    subst e;have:=vm (l:=[1]) ⟨og (by decide),by intro d hd;simp at hd;omega⟩ (n:=1) rfl;rw[<-this];rfl)
   simp[hG,this]
def Wf(l m:List Nat)(p:Nat×Nat×List Nat):AS :=
 aF [(2,.ptr 0 0),(3,.ptr 1 0),(4,.ptr 2 0),(5,.ref 3 0 (l.length+1) true),(6,.iv (.int .u32 (p.2.1:Int))),(24,.iv (.sl (l.map u32))),(25,.iv (.int .i64 (l.length:Int))),(26,.iv (.int .i64 (p.1:Int)))]
  [(0,.var (bE l)),(1,.var (bE m)),(2,.var (.agg [.sl []])),(3,.arr 173 1 (p.2.2.map u32) false)] 10
theorem JY(J:Keep){a b:Nat}(ha:ln a<2^44)(hb:ln b<2^44):C J 109 [aL a,aL b] (aL (a+b)):=by
 unfold ln at ha hb;have la:((dg a).map u32).length=(dg a).length:=by simp
 have lb:((dg b).map u32).length=(dg b).length:=by simp
 refine aH Tryz.func109 rfl rfl rfl ?_;refine W.RS ?_;conv=>whnf
 refine W.join (G:={ p:List Nat×List Nat // p.2.length<=p.1.length/\Ok B9 p.1/\Ok B9 p.2/\nv B9 p.1+nv B9 p.2=a+b/\p.1.length<2^44 }) (fun p=>aF [(2,.ptr 0 0),(3,.ptr 1 0),(4,.ptr 2 0)] [(0,.var (bE p.1.1)),(1,.var (bE p.1.2)),(2,.var (.agg [.sl []]))] 10) ?_ ?_
 . by_cases h:(dg a).length<(dg b).length
   . repeat (first|((first|refine W.RS ?_|refine W.R ?_|refine xT (by omega) ?_|refine⟨_,rfl,?_⟩|refine xr ?_);conv=>whnf)|(refine W.condT rfl ?_))
     exact⟨⟨(dg b,dg a),nZ h,cM b,cM a,by rw[dH,dH,Ay],hb⟩,Wk.tab [] ⟨aa,aa,aa,ab⟩ ⟨rfl,rfl,rfl,ab⟩ rfl⟩
   . repeat (first|((first|refine W.RS ?_|refine W.skip ?_|refine xF (by omega) ?_|refine⟨_,rfl,?_⟩|refine xr ?_);conv=>whnf)|(refine W.condF rfl ?_))
     exact⟨⟨(dg a,dg b),Nat.not_lt.1 h,cM a,cM b,by rw[dH,dH],ha⟩,Wk.tab [] ⟨aa,aa,aa,ab⟩ ⟨rfl,rfl,rfl,ab⟩ rfl⟩
 . rintro⟨⟨l,m⟩,hml,hol,hom,hv,hl⟩;dsimp only at hml hol hom hv hl ⊢;clear la lb ha hb;have la:(l.map u32).length=l.length:=by simp
   have lb:(m.map u32).length=m.length:=by simp
   repeat (first|((first|refine W.R ?_|refine W.c ?_|refine ap (by omega) ?_|refine⟨rfl,_,kr _,?_⟩);conv=>whnf)|(refine⟨by show 4*_<=(281474976710656:Nat);omega,by unfold maxLen;omega,?_⟩;conv=>whnf)|(refine⟨_,rfl,?_⟩;conv=>whnf))
   refine W.loop (G:={ p:Nat×Nat×List Nat // p.1<=l.length/\p.2.1<=1/\p.2.2.length=l.length+1/\Dg B9 p.2.2/\nv B9 (p.2.2.take p.1)+B9^p.1*p.2.1=nv B9 (l.take p.1)+nv B9 (m.take p.1) }) (fun p=>Wf l m p.1) (fun p=>l.length-p.1.1)
    ⟨(0,0,List.replicate (l.length+1) 0),by simp,by simp,by simp,Dg.replicate (by decide) _,by simp[nv]⟩
    (Wk.tab [(3,14)] ⟨aa,aa,aa,⟨qG (by omega),rfl⟩,aa,aa,⟨dm (by simp),rfl⟩,aa,ab⟩ ⟨rfl,rfl,rfl,sY (by simp;rfl),ab⟩ rfl) ?_
   rintro⟨⟨i,c,o⟩,hi,hc,ho,hd,hs⟩;dsimp only at hi hc ho hd hs;show W J _ _ (aF [(2,.ptr 0 0),(3,.ptr 1 0),(4,.ptr 2 0),(5,.ref 3 0 (l.length+1) true),(6,.iv (.int .u32 (c:Int))),(24,.iv (.sl (l.map u32))),(25,.iv (.int .i64 (l.length:Int))),(26,.iv (.int .i64 (i:Int)))]
    [(0,.var (bE l)),(1,.var (bE m)),(2,.var (.agg [.sl []])),(3,.arr 173 1 (o.map u32) false)] 10) _
   have lo:(o.map u32).length=o.length:=by simp
   by_cases h:i<l.length
   . have hx:=gn hol.dg i;by_cases h2:i<m.length
     . have hy:=gn hom.dg i;by_cases h3:1000000000<=l.getD i 0+c+m.getD i 0
       . repeat((first|refine W.R ?_|refine W.c ?_|refine ap (by omega) ?_|refine⟨rfl,_,ew (by omega),?_⟩|refine⟨_,_,rfl,bi (by omega),rfl,?_⟩|refine⟨(rfl:(_:Nat)=_),_,rfl,by omega,?_⟩|refine⟨bt,_,bi (by omega),?_⟩|refine xT (by omega) ?_|refine⟨_,rfl,?_⟩|refine xr ?_);conv=>whnf)
         have hp:=oz (d:=l.getD i 0+c+m.getD i 0-1000000000) (c':=1) (show i<o.length by omega) hs (by omega);exact⟨⟨(i+1,1,o.set i (l.getD i 0+c+m.getD i 0-1000000000)),by dsimp only;omega,by dsimp only;omega,by dsimp only;rw[cO];exact ho,hd.set (by simp only[B9];omega),hp⟩,
          Wk.tab [] ⟨aa,aa,aa,aa,aa,aa,aa,aa,ab⟩ ⟨rfl,rfl,rfl,k9 (by omega) (by omega),ab⟩ rfl,by dsimp only;omega⟩
       . repeat((first|refine W.R ?_|refine W.c ?_|refine ap (by omega) ?_|refine⟨rfl,_,ew (by omega),?_⟩|refine⟨_,_,rfl,bi (by omega),rfl,?_⟩|refine⟨(rfl:(_:Nat)=_),_,rfl,by omega,?_⟩|refine⟨bt,_,bi (by omega),?_⟩|refine xT (by omega) ?_|refine xF (by omega) ?_|refine⟨_,rfl,?_⟩|refine xr ?_);conv=>whnf)
         have hp:=oz (d:=l.getD i 0+c+m.getD i 0) (c':=0) (show i<o.length by omega) hs (by omega);exact⟨⟨(i+1,0,o.set i (l.getD i 0+c+m.getD i 0)),by dsimp only;omega,by dsimp only;omega,by dsimp only;rw[cO];exact ho,hd.set (by simp only[B9];omega),hp⟩,
          Wk.tab [] ⟨aa,aa,aa,aa,aa,aa,aa,aa,ab⟩ ⟨rfl,rfl,rfl,k9 (by omega) (by omega),ab⟩ rfl,by dsimp only;omega⟩
     . have hy:m.getD i 0=0:=by simp[Nat.not_lt.1 h2]
       by_cases h3:1000000000<=l.getD i 0+c
       . repeat((first|refine W.R ?_|refine W.c ?_|refine ap (by omega) ?_|refine⟨rfl,_,ew (by omega),?_⟩|refine⟨_,_,rfl,bi (by omega),rfl,?_⟩|refine⟨(rfl:(_:Nat)=_),_,rfl,by omega,?_⟩|refine⟨bt,_,bi (by omega),?_⟩|refine xT (by omega) ?_|refine xF (by omega) ?_|refine⟨_,rfl,?_⟩|refine xr ?_);conv=>whnf)
         have hp:=oz (d:=l.getD i 0+c-1000000000) (c':=1) (show i<o.length by omega) hs (by omega);exact⟨⟨(i+1,1,o.set i (l.getD i 0+c-1000000000)),by dsimp only;omega,by dsimp only;omega,by dsimp only;rw[cO];exact ho,hd.set (by simp only[B9];omega),hp⟩,
          Wk.tab [] ⟨aa,aa,aa,aa,aa,aa,aa,aa,ab⟩ ⟨rfl,rfl,rfl,k9 (by omega) (by omega),ab⟩ rfl,by dsimp only;omega⟩
       . repeat((first|refine W.R ?_|refine W.c ?_|refine ap (by omega) ?_|refine⟨rfl,_,ew (by omega),?_⟩|refine⟨_,_,rfl,bi (by omega),rfl,?_⟩|refine⟨(rfl:(_:Nat)=_),_,rfl,by omega,?_⟩|refine⟨bt,_,bi (by omega),?_⟩|refine xT (by omega) ?_|refine xF (by omega) ?_|refine⟨_,rfl,?_⟩|refine xr ?_);conv=>whnf)
         have hp:=oz (d:=l.getD i 0+c) (c':=0) (show i<o.length by omega) hs (by omega);exact⟨⟨(i+1,0,o.set i (l.getD i 0+c)),by dsimp only;omega,by dsimp only;omega,by dsimp only;rw[cO];exact ho,hd.set (by simp only[B9];omega),hp⟩,
          Wk.tab [] ⟨aa,aa,aa,aa,aa,aa,aa,aa,ab⟩ ⟨rfl,rfl,rfl,k9 (by omega) (by omega),ab⟩ rfl,by dsimp only;omega⟩
   . have hil:i=l.length:=by omega
     subst hil;have hv2:nv B9 (o.set l.length c)=a+b:=by
      have e:o.set l.length c=o.take l.length ++ [c]:=by
       have:=pG (x:=c) (show l.length<o.length by omega);rw[aC (by rw[cO];omega)] at this;exact this
      have hlt:(o.take l.length).length=l.length:=by rw[cy];omega
      rw[e,l5,hlt,hs,aC (ak _),aC (by omega),hv]
     repeat((first|refine W.R ?_|refine W.c ?_|refine⟨(rfl:(_:Nat)=_),_,rfl,by omega,?_⟩|refine⟨bt,_,bi (by omega),?_⟩|refine xF (by omega) ?_|refine⟨_,rfl,?_⟩|refine xr ?_);conv=>whnf)
     refine⟨_,sr J (l:=o.set l.length c) ?_ ?_,?_⟩
     . rw[bL,aC (by simp;omega),aU,la,xP rfl]
     . rw[cO];omega
     repeat ((refine W.ret ?_;conv=>whnf))
     exact aJ bE (rZ (hd.set (by simp only[B9];omega)) hv2)
theorem yN{es:List IV}{i:Nat}{v:IV}(h:i<es.length):(es.set i v)[i]?=some v:=by simp[h]
theorem Ko{o:List Nat}{i j d:Nat}{x y:Int}(hj:j=i)(h:y=(d:Int)):some (Bx.arr 173 1 (((o.map u32).set j (.int .u32 x)).set j (.int .u32 y)) false)=some (Bx.arr 173 1 ((o.set i d).map u32) false):=by
 rw[hj,List.set_set,xP h]
theorem yK{l m o:List Nat}{i c d c':Nat}(hi:i<o.length)(hs:nv B9 (o.take i)+nv B9 (m.take i)=nv B9 (l.take i)+B9^i*c)(he:d+m.getD i 0+c=l.getD i 0+1000000000*c') :
 nv B9 ((o.set i d).take (i+1))+nv B9 (m.take (i+1))=nv B9 (l.take (i+1))+B9^(i+1)*c':=by
 rw[pG hi,jS l,jS m];have:=Ga (B:=B9) (A:=o.take i) (by simp;omega) hs he;omega
theorem LS{l:List Nat}:∀y∈l.map u32,y.cells.length=1/\y.isTup=false:=by
 intro y hy;obtain⟨d,_,rfl⟩:=List.mem_map.1 hy;exact⟨rfl,rfl⟩
theorem drop_getD{o l:List Nat}{i:Nat}(h:o.drop i=l.drop i):o.getD i 0=l.getD i 0:=by
 have:=aJ (fun x=>x.getD 0 0) h;simpa[br] using this
theorem drop_set{o l:List Nat}{i d:Nat}(h:o.drop i=l.drop i):(o.set i d).drop (i+1)=l.drop (i+1):=by
 rw[FL];have:=aJ (List.drop 1) h;simpa[nU,Ay 1 i] using this
theorem UD{l:List Nat}{z:IV}{n k:Nat}(hn:n=l.length)(hk:k=l.length):splice (List.replicate n z) 0 (List.take k (l.map u32))=l.map u32:=by
 subst hn;subst hk;unfold splice;rw[wh,lM,aC (by simp),aU,pt (by simp),iw]
theorem su(J:Keep){a b:Nat}(hab:b<=a)(ha:ln a<2^44):C J 166 [aL a,aL b] (aL (a-b)):=by
 unfold ln at ha;obtain⟨l,hl0⟩:∃l,l=dg a:=⟨_,rfl⟩;obtain⟨m,hm0⟩:∃m,m=dg b:=⟨_,rfl⟩;have hol:Ok B9 l:=by rw[hl0];exact cM a
 have hom:Ok B9 m:=by rw[hm0];exact cM b
 have hvl:nv B9 l=a:=by rw[hl0];exact dH a
 have hvm:nv B9 m=b:=by rw[hm0];exact dH b
 show C J 166 [bE (dg a),bE (dg b)] _;rw[<-hl0,<-hm0];rw[<-hl0] at ha;have la:(l.map u32).length=l.length:=by simp
 have lb:(m.map u32).length=m.length:=by simp
 have hml:m.length<=l.length:=t8 (by decide) hom (by have:=fk hol.dg;omega);refine aH Tryz.func166 rfl rfl rfl ?_;repeat (first|((first|refine W.R ?_|refine W.c ?_|refine⟨bt,rfl,LS,by simp,_,rfl,?_⟩);conv=>whnf)|(refine⟨by show 4*_<=(281474976710656:Nat);omega,by unfold maxLen;omega,?_⟩;conv=>whnf)|((first|refine⟨_,rfl,?_⟩|refine xr ?_);conv=>whnf))
 refine W.loop (G:={ p:Nat×Nat×List Nat // p.1<=l.length/\p.2.1<=1/\p.2.2.length=l.length/\Dg B9 p.2.2/\nv B9 (p.2.2.take p.1)+nv B9 (m.take p.1)=nv B9 (l.take p.1)+B9^p.1*p.2.1/\p.2.2.drop p.1=l.drop p.1 })
  (fun p=>aF [(2,.ptr 0 0),(3,.ptr 1 0),(4,.ptr 2 0),(5,.ref 3 0 l.length true),(6,.iv (.int .u32 (p.1.2.1:Int))),(18,.iv (.int .i64 (l.length:Int))),(19,.iv (.int .i64 (p.1.1:Int)))]
    [(0,.var (bE l)),(1,.var (bE m)),(2,.var (.agg [.sl []])),(3,.arr 173 1 (p.1.2.2.map u32) false)] 20) (fun p=>l.length-p.1.1)
  ⟨(0,0,l),by simp,by simp,rfl,hol.dg,by simp[nv],rfl⟩
  (Wk.tab [(3,6)] ⟨aa,aa,aa,⟨qG (by omega),rfl⟩,aa,⟨dm (by omega),rfl⟩,aa,ab⟩ ⟨rfl,rfl,rfl,sY ?_,ab⟩ rfl) ?_
 . exact UD (by omega) (by rw[la];exact Nat.min_self _)
 rintro⟨⟨i,c,o⟩,hi,hc,ho,hd,hs,hdr⟩;dsimp only at hi hc ho hd hs hdr;show W J _ _ (aF [(2,.ptr 0 0),(3,.ptr 1 0),(4,.ptr 2 0),(5,.ref 3 0 l.length true),(6,.iv (.int .u32 (c:Int))),(18,.iv (.int .i64 (l.length:Int))),(19,.iv (.int .i64 (i:Int)))]
  [(0,.var (bE l)),(1,.var (bE m)),(2,.var (.agg [.sl []])),(3,.arr 173 1 (o.map u32) false)] 20) _
 have lo:(o.map u32).length=o.length:=by simp
 have hox:o.getD (0+i) 0=l.getD i 0:=by rw[aU];exact drop_getD hdr
 have hx:=gn hol.dg i;by_cases h:i<l.length
 . by_cases h2:i<m.length
   . have hy:=gn hom.dg i;by_cases h3:l.getD i 0<c+m.getD i 0
     . by_cases hdum:True
       . have hp:=yK (d:=l.getD i 0+1000000000-(c+m.getD i 0)) (c':=1) (show i<o.length by omega) hs (by omega);have hq:=drop_set (d:=l.getD i 0+1000000000-(c+m.getD i 0)) hdr;repeat((first|refine W.R ?_|refine W.c ?_|refine ap (by omega) ?_|refine⟨rfl,_,ew (by omega),?_⟩|refine⟨_,_,rfl,bi (by omega),rfl,?_⟩|refine⟨(rfl:(_:Nat)=_),_,rfl,by omega,?_⟩|refine⟨_,bi (by omega),?_⟩|refine⟨_,yN (by omega),?_⟩|refine⟨bt,_,yN (by omega),?_⟩|refine⟨bt,_,bi (by omega),?_⟩|refine xT (by omega) ?_|refine⟨_,rfl,?_⟩|refine xr ?_);conv=>whnf)
         exact⟨⟨(i+1,1,o.set i (l.getD i 0+1000000000-(c+m.getD i 0))),by dsimp only;omega,by dsimp only;omega,by dsimp only;rw[cO];exact ho,hd.set (by simp only[B9];omega),hp,hq⟩,
          Wk.tab [] ⟨aa,aa,aa,aa,aa,aa,aa,ab⟩ ⟨rfl,rfl,rfl,Ko (by omega) (by omega),ab⟩ rfl,by dsimp only;omega⟩
       . exact absurd trivial hdum
     . by_cases hdum:True
       . have hp:=yK (d:=l.getD i 0-(c+m.getD i 0)) (c':=0) (show i<o.length by omega) hs (by omega);have hq:=drop_set (d:=l.getD i 0-(c+m.getD i 0)) hdr;repeat((first|refine W.R ?_|refine W.c ?_|refine ap (by omega) ?_|refine⟨rfl,_,ew (by omega),?_⟩|refine⟨_,_,rfl,bi (by omega),rfl,?_⟩|refine⟨(rfl:(_:Nat)=_),_,rfl,by omega,?_⟩|refine⟨_,bi (by omega),?_⟩|refine⟨bt,_,bi (by omega),?_⟩|refine xT (by omega) ?_|refine xF (by omega) ?_|refine⟨_,rfl,?_⟩|refine xr ?_);conv=>whnf)
         exact⟨⟨(i+1,0,o.set i (l.getD i 0-(c+m.getD i 0))),by dsimp only;omega,by dsimp only;omega,by dsimp only;rw[cO];exact ho,hd.set (by simp only[B9];omega),hp,hq⟩,
          Wk.tab [] ⟨aa,aa,aa,aa,aa,aa,aa,ab⟩ ⟨rfl,rfl,rfl,k9 (by omega) (by omega),ab⟩ rfl,by dsimp only;omega⟩
       . exact absurd trivial hdum
   . have hy:m.getD i 0=0:=by simp[Nat.not_lt.1 h2]
     by_cases h4:c=0
     . subst h4;have hfin:nv B9 o=a-b:=by
        have e1:=uc B9 o i (by omega);have e2:=uc B9 l i (by omega);rw[hdr] at e1;rw[aC (show m.length<=i by omega),jR] at hs;omega
       repeat((first|refine W.R ?_|refine W.c ?_|refine xT (by omega) ?_|refine xF (by omega) ?_|refine⟨_,rfl,?_⟩|refine xr ?_);conv=>whnf)
       refine⟨_,sr J (l:=o) ?_ ?_,?_⟩
       . rw[bL,aC (by simp;omega)]
       . omega
       repeat ((refine W.ret ?_;conv=>whnf))
       exact aJ bE (rZ hd hfin)
     . have h5:c=1:=by omega
       by_cases h3:l.getD i 0<c
       . have hp:=yK (d:=l.getD i 0+1000000000-c) (c':=1) (show i<o.length by omega) hs (by omega);have hq:=drop_set (d:=l.getD i 0+1000000000-c) hdr;repeat((first|refine W.R ?_|refine W.c ?_|refine ap (by omega) ?_|refine⟨rfl,_,ew (by omega),?_⟩|refine⟨(rfl:(_:Nat)=_),_,rfl,by omega,?_⟩|refine⟨_,bi (by omega),?_⟩|refine⟨_,yN (by omega),?_⟩|refine⟨bt,_,yN (by omega),?_⟩|refine⟨bt,_,bi (by omega),?_⟩|refine xT (by omega) ?_|refine xF (by omega) ?_|refine⟨_,rfl,?_⟩|refine xr ?_);conv=>whnf)
         exact⟨⟨(i+1,1,o.set i (l.getD i 0+1000000000-c)),by dsimp only;omega,by dsimp only;omega,by dsimp only;rw[cO];exact ho,hd.set (by simp only[B9];omega),hp,hq⟩,
          Wk.tab [] ⟨aa,aa,aa,aa,aa,aa,aa,ab⟩ ⟨rfl,rfl,rfl,Ko (by omega) (by omega),ab⟩ rfl,by dsimp only;omega⟩
       . have hp:=yK (d:=l.getD i 0-c) (c':=0) (show i<o.length by omega) hs (by omega);have hq:=drop_set (d:=l.getD i 0-c) hdr;repeat((first|refine W.R ?_|refine W.c ?_|refine ap (by omega) ?_|refine⟨rfl,_,ew (by omega),?_⟩|refine⟨(rfl:(_:Nat)=_),_,rfl,by omega,?_⟩|refine⟨_,bi (by omega),?_⟩|refine⟨bt,_,bi (by omega),?_⟩|refine xT (by omega) ?_|refine xF (by omega) ?_|refine⟨_,rfl,?_⟩|refine xr ?_);conv=>whnf)
         exact⟨⟨(i+1,0,o.set i (l.getD i 0-c)),by dsimp only;omega,by dsimp only;omega,by dsimp only;rw[cO];exact ho,hd.set (by simp only[B9];omega),hp,hq⟩,
          Wk.tab [] ⟨aa,aa,aa,aa,aa,aa,aa,ab⟩ ⟨rfl,rfl,rfl,k9 (by omega) (by omega),ab⟩ rfl,by dsimp only;omega⟩
 . have hil:i=l.length:=by omega
   have hfin:nv B9 o=a-b:=by
    have hlt:=fk hd;rw[hil,aC (by omega),aC (ak _),aC (by omega)] at hs;have hc0:c=0:=by
     apply iM;intro hc1;have e1:c=1:=by omega
     rw[e1,iK] at hs;rw[ho] at hlt;omega
    rw[hc0,jR] at hs;omega
   by_cases hdum:True
   . by_cases hdum2:True
     . repeat((first|refine W.R ?_|refine W.c ?_|refine xF (by omega) ?_|refine xr ?_);conv=>whnf)
       refine⟨_,sr J (l:=o) ?_ ?_,?_⟩
       . rw[bL,aC (by simp;omega)]
       . omega
       repeat ((refine W.ret ?_;conv=>whnf))
       exact aJ bE (rZ hd hfin)
     . exact absurd trivial hdum2
   . exact absurd trivial hdum
theorem nr(a b:Nat):(a:Int).tdiv (b:Int)=((a/b:Nat):Int):=by
 rw[Int.tdiv_eq_ediv_of_nonneg (by omega)];rfl
theorem mn(a b:Nat):(a:Int).tmod (b:Int)=((a%b:Nat):Int):=by
 rw[Int.tmod_eq_emod_of_nonneg (by omega)];rfl
theorem UV{l o:List Nat}{k d r:Nat}(hd0:0<d)(hk:k<l.length)(ho:o.length=l.length)(hs:nv B9 (l.drop (k+1))=nv B9 (o.drop (k+1))*d+r)(hr:r<d)(hx:l.getD k 0<1000000000) :
 nv B9 (l.drop k)=nv B9 ((o.set k ((r*1000000000+l.getD k 0)/d)).drop k)*d+(r*1000000000+l.getD k 0)%d/\(r*1000000000+l.getD k 0)%d<d/\(r*1000000000+l.getD k 0)/d<1000000000:=by
 have e1:l.drop k=l.getD k 0::l.drop (k+1):=by
  rw[gJ hk,br,a6 hk];rfl
 have e2:=FM (x:=(r*1000000000+l.getD k 0)/d) (show k<o.length by omega);rw[e1,e2,iE,iE,hs];have hm:=nY (r*1000000000+l.getD k 0) d;refine⟨?_,iy _ hd0,?_⟩
 . generalize (r*1000000000+l.getD k 0)/d=q at *;generalize (r*1000000000+l.getD k 0)%d=r' at *;generalize nv B9 (o.drop (k+1))=N at *;generalize l.getD k 0=x at *;simp only[B9];rw[bP,bW,dZ,dD q d];omega
 . rw[mZ hd0];have:(r+1)*1000000000<=d*1000000000:=bU _ hr;rw[dD 1000000000 d];omega
theorem T7(J:Keep){a d:Nat}(hd0:0<d)(hd1:d<1000000000)(ha:ln a<2^44):C J 202 [aL a,.int .u32 d] (.tup [aL (a/d),aL (a%d)]):=by
 unfold ln at ha;obtain⟨l,hl0⟩:∃l,l=dg a:=⟨_,rfl⟩;have hol:Ok B9 l:=by rw[hl0];exact cM a
 have hvl:nv B9 l=a:=by rw[hl0];exact dH a
 show C J 202 [bE (dg a),_] _;rw[<-hl0] at ha ⊢;have la:(l.map u32).length=l.length:=by simp
 refine aH Tryz.func202 rfl rfl rfl ?_;repeat (first|((first|refine W.R ?_|refine W.c ?_|refine ap (by omega) ?_);conv=>whnf)|(refine⟨by show 4*_<=(281474976710656:Nat);omega,by unfold maxLen;omega,?_⟩;conv=>whnf)|((first|refine⟨_,rfl,?_⟩|refine xr ?_);conv=>whnf))
 refine W.loop (G:={ p:Nat×Nat×List Nat // p.1<=l.length/\p.2.1<d/\p.2.2.length=l.length/\Dg B9 p.2.2/\nv B9 (l.drop p.1)=nv B9 (p.2.2.drop p.1)*d+p.2.1 })
  (fun p=>aF [(1,.iv (.int .u32 (d:Int))),(2,.ptr 0 0),(4,.ptr 1 0),(5,.ptr 2 0),(6,.ref 3 0 l.length true),(7,.iv (.int .u64 (p.1.2.1:Int))),(8,.iv (.int .i64 ((p.1.1:Int)-1)))]
    [(0,.var (bE l)),(1,.var (.agg [.sl []])),(2,.var (.agg [.sl []])),(3,.arr 173 1 (p.1.2.2.map u32) false)] 20) (fun p=>p.1.1)
  ⟨(l.length,0,List.replicate l.length 0),by simp,by dsimp only;omega,by simp,Dg.replicate (by decide) _,by simp[nv]⟩
  (Wk.tab [(3,6)] ⟨aa,aa,aa,aa,⟨qG (by omega),rfl⟩,aa,⟨dm (by dsimp only;omega),rfl⟩,ab⟩ ⟨rfl,rfl,rfl,sY ?_,ab⟩ rfl) ?_
 . rw[la,wo];rfl
 rintro⟨⟨k,r,o⟩,hk,hr,ho,hd,hs⟩;dsimp only at hk hr ho hd hs;show W J _ _ (aF [(1,.iv (.int .u32 (d:Int))),(2,.ptr 0 0),(4,.ptr 1 0),(5,.ptr 2 0),(6,.ref 3 0 l.length true),(7,.iv (.int .u64 (r:Int))),(8,.iv (.int .i64 ((k:Int)-1)))]
  [(0,.var (bE l)),(1,.var (.agg [.sl []])),(2,.var (.agg [.sl []])),(3,.arr 173 1 (o.map u32) false)] 20) _
 have lo:(o.map u32).length=o.length:=by simp
 by_cases h:k=0
 . subst h;have e1:nv B9 o=a/d:=by
    simp only[bL,hvl] at hs;rw[hs,dD,E9 hd0,m4 hr,fA]
   have e2:r=a%d:=by
    simp only[bL,hvl] at hs;rw[hs,dD,Nk,fX hr]
   repeat (first|((first|refine W.R ?_|refine W.c ?_);conv=>whnf)|(refine⟨_,sr J (l:=o) (by rw[bL,aC (by simp;omega)]) (by omega),?_⟩;conv=>whnf)|((first|refine⟨_,kV J (n:=r) (by omega),?_⟩|refine xF (by omega) ?_|refine xr ?_);conv=>whnf))
   rw[rZ hd e1,e2];rfl
 . obtain⟨k,rfl⟩:∃j,k=j+1:=⟨k-1,by omega⟩;have hx:=gn hol.dg k;obtain⟨s1,s2,s3⟩:=UV hd0 (show k<l.length by omega) ho hs hr hx;obtain⟨q,hQ⟩:∃q,(r*1000000000+l.getD k 0)/d=q:=⟨_,rfl⟩;obtain⟨r',hR⟩:∃q,(r*1000000000+l.getD k 0)%d=q:=⟨_,rfl⟩;rw[hQ] at s1 s3;rw[hR] at s1 s2;have hq:IntKind.wrap .u64 (((r:Int)*1000000000+(l.getD k 0:Int)).tdiv (d:Int))=((q:Nat):Int):=by
    rw[show(r:Int)*1000000000+(l.getD k 0:Int)=((r*1000000000+l.getD k 0:Nat):Int) by omega,nr,hQ];exact eH (by omega)
   have hm:((r:Int)*1000000000+(l.getD k 0:Int)).tmod (d:Int)=((r':Nat):Int):=by
    rw[show(r:Int)*1000000000+(l.getD k 0:Int)=((r*1000000000+l.getD k 0:Nat):Int) by omega,mn,hR]
   repeat((first|refine W.R ?_|refine W.c ?_|refine⟨by omega,_,hq,?_⟩|refine⟨by omega,_,hm,?_⟩|refine ap (by omega) ?_|refine⟨rfl,_,eH (by omega),?_⟩|refine⟨_,_,LQ _,bi (by omega),rfl,?_⟩|refine⟨(rfl:(_:Nat)=_),_,LQ _,by omega,?_⟩|refine⟨bt,_,bi (by omega),?_⟩|refine⟨_,ew (by omega),?_⟩|refine⟨_,eH (by omega),?_⟩|refine xT (by omega) ?_|refine xr ?_);conv=>whnf)
   exact⟨⟨(k,r',o.set k q),by dsimp only;omega,s2,by dsimp only;rw[cO];exact ho,hd.set (by simp only[B9];omega),s1⟩,
    Wk.tab [] ⟨aa,aa,aa,aa,aa,aa,⟨dm (by dsimp only;omega),rfl⟩,ab⟩ ⟨rfl,rfl,rfl,k9 (by omega) (by omega),ab⟩ rfl,by dsimp only;omega⟩
theorem Vw{l:List Nat}{j d:Nat}(h:j<l.length):nv B9 (l.set j d)+B9^j*l.getD j 0=nv B9 l+B9^j*d:=by
 induction l generalizing j with
 |nil=>simp at h
 |cons x l ih=>
  cases j with
  |zero=>simp[nv];omega
  |succ j=>
   have:=ih (j:=j) (by simpa using h);simp only[Fa,iE,wq,cr];have e1:B9*(nv B9 (l.set j d)+B9^j*l.getD j 0)=B9*(nv B9 l+B9^j*d):=by rw[this]
   rw[bW,bW] at e1;rw[dD (B9^j) B9,dZ,dZ];omega
theorem UQ{o m:List Nat}{i k n x c r c' P:Nat}(hj:i+k<n)(hn:n<=o.length)(hs:nv B9 (o.take n)+B9^(i+k)*c=P+B9^i*(x*nv B9 (m.take k)))(he:c+(x*m.getD k 0+o.getD (i+k) 0)=r+1000000000*c') :
 nv B9 ((o.set (i+k) r).take n)+B9^(i+(k+1))*c'=P+B9^i*(x*nv B9 (m.take (k+1))):=by
 have e0:(o.set (i+k) r).take n=(o.take n).set (i+k) r:=by rw[List.take_set]
 have e1:=Vw (l:=o.take n) (d:=r) (show i+k<(o.take n).length by rw[cy];omega);have e2:(o.take n).getD (i+k) 0=o.getD (i+k) 0:=by
  rw[br,br,cX,ay hj]
 rw[e2] at e1;rw[e0,jS,<-lI,cr,dZ];have e3:B9^(i+k)*(c+(x*m.getD k 0+o.getD (i+k) 0))=B9^(i+k)*(r+B9*c'):=by rw[he]
 rw[bW,bW,bW] at e3;have e4:B9^i*(x*(nv B9 (m.take k)+B9^k*m.getD k 0))=B9^i*(x*nv B9 (m.take k))+B9^(i+k)*(x*m.getD k 0):=by
  rw[bW,bW,jq];congr 1;rw[dZ,wt x]
 rw[e4];omega
theorem Hg{x y:Nat}(hx:x<1000000000)(hy:y<1000000000):x*y<=999999998000000001 :=
 aY (iO (Fb hx) (Fb hy)) (by decide)
theorem l9(J:Keep){a b:Nat}(ha:ln a+ln b<2^44):C J 72 [aL a,aL b] (aL (a*b)):=by
 unfold ln at ha;obtain⟨l,hl0⟩:∃l,l=dg a:=⟨_,rfl⟩;obtain⟨m,hm0⟩:∃m,m=dg b:=⟨_,rfl⟩;have hol:Ok B9 l:=by rw[hl0];exact cM a
 have hom:Ok B9 m:=by rw[hm0];exact cM b
 have hvl:nv B9 l=a:=by rw[hl0];exact dH a
 have hvm:nv B9 m=b:=by rw[hm0];exact dH b
 show C J 72 [bE (dg a),bE (dg b)] _;rw[<-hl0,<-hm0] at ha ⊢;have la:(l.map u32).length=l.length:=by simp
 have lb:(m.map u32).length=m.length:=by simp
 refine aH Tryz.func72 rfl rfl rfl ?_;repeat (first|((first|refine W.R ?_|refine W.c ?_|refine ap (by omega) ?_|refine⟨rfl,_,zy _ _,?_⟩);conv=>whnf)|(refine⟨by show 4*_<=(281474976710656:Nat);omega,by unfold maxLen;omega,?_⟩;conv=>whnf)|(refine⟨_,rfl,?_⟩;conv=>whnf))
 refine W.loop (G:={ p:Nat×List Nat // p.1<=l.length/\p.2.length=l.length+m.length/\Dg B9 p.2/\nv B9 (p.2.take (p.1+m.length))=nv B9 (l.take p.1)*nv B9 m })
  (fun p=>aF [(2,.ptr 0 0),(3,.ptr 1 0),(4,.ptr 2 0),(5,.ref 3 0 (l.length+m.length) true),(20,.iv (.sl (l.map u32))),(21,.iv (.int .i64 (l.length:Int))),(22,.iv (.int .i64 (p.1.1:Int)))]
    [(0,.var (bE l)),(1,.var (bE m)),(2,.var (.agg [.sl []])),(3,.arr 173 1 (p.1.2.map u32) false)] 20) (fun p=>l.length-p.1.1)
  ⟨(0,List.replicate (l.length+m.length) 0),by simp,by simp,Dg.replicate (by decide) _,by simp[nv,wH]⟩
  (Wk.tab [(3,10)] ⟨aa,aa,aa,⟨qG (by omega),rfl⟩,aa,⟨dm (by omega),rfl⟩,aa,ab⟩ ⟨rfl,rfl,rfl,sY ?_,ab⟩ rfl) ?_
 . rw[la,lb,wo];rfl
 rintro⟨⟨i,o⟩,hi,ho,hd,hs⟩;dsimp only at hi ho hd hs;show W J _ _ (aF [(2,.ptr 0 0),(3,.ptr 1 0),(4,.ptr 2 0),(5,.ref 3 0 (l.length+m.length) true),(20,.iv (.sl (l.map u32))),(21,.iv (.int .i64 (l.length:Int))),(22,.iv (.int .i64 (i:Int)))]
  [(0,.var (bE l)),(1,.var (bE m)),(2,.var (.agg [.sl []])),(3,.arr 173 1 (o.map u32) false)] 20) _
 have lo:(o.map u32).length=o.length:=by simp
 by_cases h:i<l.length
 . have hx:=gn hol.dg i;repeat((first|refine W.R ?_|refine W.c ?_|refine⟨_,_,rfl,bi (by omega),rfl,?_⟩|refine xT (by omega) ?_|refine⟨_,rfl,?_⟩|refine xr ?_);conv=>whnf)
   refine W.loop (G:={ p:Nat×Nat×List Nat // p.1<=m.length/\p.2.1<1000000000/\p.2.2.length=l.length+m.length/\Dg B9 p.2.2/\nv B9 (p.2.2.take (i+m.length))+B9^(i+p.1)*p.2.1=nv B9 (l.take i)*nv B9 m+B9^i*(l.getD i 0*nv B9 (m.take p.1)) })
    (fun p=>aF [(2,.ptr 0 0),(3,.ptr 1 0),(4,.ptr 2 0),(5,.ref 3 0 (l.length+m.length) true),(6,.iv (.int .i64 (i:Int))),(7,.iv (.int .u32 (l.getD i 0:Int))),(8,.iv (.int .u64 (p.1.2.1:Int))),(20,.iv (.sl (l.map u32))),(21,.iv (.int .i64 (l.length:Int))),(22,.iv (.int .i64 (i:Int))),
      (28,.iv (.sl (m.map u32))),(29,.iv (.int .i64 (m.length:Int))),(30,.iv (.int .i64 (p.1.1:Int)))]
      [(0,.var (bE l)),(1,.var (bE m)),(2,.var (.agg [.sl []])),(3,.arr 173 1 (p.1.2.2.map u32) false)] 40) (fun p=>m.length-p.1.1)
    ⟨(0,0,o),by simp,by simp,ho,hd,by simp[nv,hs]⟩
    (Wk.tab [] ⟨aa,aa,aa,aa,aa,aa,aa,aa,aa,aa,aa,⟨dm (by omega),rfl⟩,aa,ab⟩ ⟨rfl,rfl,rfl,rfl,ab⟩ rfl) ?_
   clear lo;rintro⟨⟨k,c,o2⟩,hk,hc,ho2,hd2,hs2⟩;dsimp only at hk hc ho2 hd2 hs2;show W J _ _ (aF [(2,.ptr 0 0),(3,.ptr 1 0),(4,.ptr 2 0),(5,.ref 3 0 (l.length+m.length) true),(6,.iv (.int .i64 (i:Int))),(7,.iv (.int .u32 (l.getD i 0:Int))),(8,.iv (.int .u64 (c:Int))),(20,.iv (.sl (l.map u32))),(21,.iv (.int .i64 (l.length:Int))),(22,.iv (.int .i64 (i:Int))),
    (28,.iv (.sl (m.map u32))),(29,.iv (.int .i64 (m.length:Int))),(30,.iv (.int .i64 (k:Int)))]
    [(0,.var (bE l)),(1,.var (bE m)),(2,.var (.agg [.sl []])),(3,.arr 173 1 (o2.map u32) false)] 40) _
   have lo:(o2.map u32).length=o2.length:=by simp
   by_cases h2:k<m.length
   . have hy:=gn hom.dg k;have hov:=gn hd2 (0+(i+k));have hxy:=Hg hx hy;have hxyi:(l.getD i 0:Int)*(m.getD k 0:Int)=((l.getD i 0*m.getD k 0:Nat):Int):=rfl;obtain⟨q,hQ⟩:∃q,(c+(l.getD i 0*m.getD k 0+o2.getD (0+(i+k)) 0))/1000000000=q:=⟨_,rfl⟩;obtain⟨r,hR⟩:∃q,(c+(l.getD i 0*m.getD k 0+o2.getD (0+(i+k)) 0))%1000000000=q:=⟨_,rfl⟩;have hq:IntKind.wrap .u64 (((c:Int)+((l.getD i 0:Int)*(m.getD k 0:Int)+(o2.getD (0+(i+k)) 0:Int))).tdiv 1000000000)=((q:Nat):Int):=by
      rw[hxyi,show(c:Int)+(((l.getD i 0*m.getD k 0:Nat):Int)+(o2.getD (0+(i+k)) 0:Int))=((c+(l.getD i 0*m.getD k 0+o2.getD (0+(i+k)) 0):Nat):Int) by omega,y8,hQ];exact eH (by omega)
     have hm:((c:Int)+((l.getD i 0:Int)*(m.getD k 0:Int)+(o2.getD (0+(i+k)) 0:Int))).tmod 1000000000=((r:Nat):Int):=by
      rw[hxyi,show(c:Int)+(((l.getD i 0*m.getD k 0:Nat):Int)+(o2.getD (0+(i+k)) 0:Int))=((c+(l.getD i 0*m.getD k 0+o2.getD (0+(i+k)) 0):Nat):Int) by omega,vf,hR]
     have hz:o2.getD (0+(i+k)) 0=o2.getD (i+k) 0:=by rw[aU]
     have hp:=UQ (n:=i+m.length) (r:=r) (c':=q) (show i+k<i+m.length by omega) (by omega) hs2 (by omega);repeat((first|refine W.R ?_|refine W.c ?_|refine⟨by omega,_,hq,?_⟩|refine⟨by omega,_,hm,?_⟩|refine ap (by omega) ?_|refine⟨rfl,_,eH (by omega),?_⟩|refine⟨rfl,_,zy _ _,?_⟩|refine⟨_,_,rfl,bi (by omega),rfl,?_⟩|refine⟨_,bi (by omega),?_⟩|refine⟨bt,_,bi (by omega),?_⟩|refine⟨_,ew (by omega),?_⟩|refine⟨_,eH (by omega),?_⟩|refine xT (by omega) ?_|refine xr ?_|refine And.intro (by omega) ?_);conv=>whnf)
     exact⟨⟨(k+1,q,o2.set (i+k) r),by dsimp only;omega,by dsimp only;omega,by dsimp only;rw[cO];exact ho2,hd2.set (by simp only[B9];omega),hp⟩,
      Wk.tab [] ⟨aa,aa,aa,aa,aa,aa,aa,aa,aa,aa,aa,aa,aa,ab⟩ ⟨rfl,rfl,rfl,k9 (by omega) (by omega),ab⟩ rfl,by dsimp only;omega⟩
   . have hkm:k=m.length:=by omega
     have hp:nv B9 ((o2.set (i+m.length) c).take (i+1+m.length))=nv B9 (l.take (i+1))*nv B9 m:=by
      rw[show i+1+m.length=(i+m.length)+1 by omega,pG (by omega),l5];have e:(o2.take (i+m.length)).length=i+m.length:=by rw[cy];omega
      rw[e];rw[hkm,aC (ak m.length)] at hs2;rw[hs2,jS l i,bP,dZ]
     repeat((first|refine W.R ?_|refine W.c ?_|refine ap (by omega) ?_|refine⟨rfl,_,zy _ _,?_⟩|refine⟨bt,_,bi (by omega),?_⟩|refine⟨_,ew (by omega),?_⟩|refine xF (by omega) ?_|refine⟨_,rfl,?_⟩|refine xr ?_|refine And.intro (by omega) ?_);conv=>whnf)
     exact⟨⟨(i+1,o2.set (i+m.length) c),by dsimp only;omega,by dsimp only;rw[cO];exact ho2,hd2.set (by simp only[B9];omega),hp⟩,
      Wk.tab [] ⟨aa,aa,aa,aa,aa,aa,aa,ab⟩ ⟨rfl,rfl,rfl,k9 (by omega) (by omega),ab⟩ rfl,by dsimp only;omega⟩
 . have hil:i=l.length:=by omega
   have hfin:nv B9 o=a*b:=by
    rw[hil,aC (by omega),aC (ak _),hvl,hvm] at hs;exact hs
   repeat (first|((first|refine W.R ?_|refine W.c ?_);conv=>whnf)|(refine⟨_,sr J (l:=o) (by rw[bL,aC (by simp;omega)]) (by omega),?_⟩;conv=>whnf)|((first|refine xF (by omega) ?_|refine xr ?_);conv=>whnf))
   exact aJ bE (rZ hd hfin)
theorem Gn:∀{a b:List Nat},Dg B9 a->Dg B9 b->a.length=b.length->nv B9 a=nv B9 b->a=b
 | [],[],_,_,_,_=>rfl
 | [],_::_,_,_,hl,_=>by simp at hl
 |_::_,[],_,_,hl,_=>by simp at hl
 |d::a,e::b,ha,hb,hl,h=>by
  simp only[iE] at h;have h1:=ha d (by simp);have h2:=hb e (by simp);have h3:d=e:=by
   have:=aJ (· % B9) h;simpa[AH,fX h1,fX h2] using this
  subst h3;have h4:nv B9 a=nv B9 b:=by
   have:B9*nv B9 a=B9*nv B9 b:=by omega
   exact Nat.eq_of_mul_eq_mul_left (by decide) this
  rw[Gn (fun x hx=>ha x (by simp[hx])) (fun x hx=>hb x (by simp[hx])) (by simpa using hl) h4]
theorem yE(n x:Nat):∃l:List Nat,l.length=n/\Dg B9 l/\nv B9 l=x%B9^n:=by
 induction n generalizing x with
 |zero=>exact⟨[],rfl,Dg.nil _,by simp[nv,Nat.mod_one]⟩
 |succ n ih=>
  obtain⟨l,h1,h2,h3⟩:=ih (x/B9);refine⟨x%B9::l,by simp[h1],?_,?_⟩
  . intro d hd;rcases List.mem_cons.1 hd with rfl|hd
    . exact iy _ (by decide)
    . exact h2 d hd
  . rw[iE,h3,cr,dD (B9^n) B9,Nat.mod_mul]
noncomputable def fH(n x:Nat):List Nat:=(yE n x).choose
theorem oj(n x:Nat):(fH n x).length=n:=(yE n x).choose_spec.1
theorem uV(n x:Nat):Dg B9 (fH n x):=(yE n x).choose_spec.2.1
theorem uU(n x:Nat):nv B9 (fH n x)=x%B9^n:=(yE n x).choose_spec.2.2
theorem Dq{l:List Nat}{n x:Nat}(h:Dg B9 l)(hl:l.length=n)(hv:nv B9 l=x%B9^n):l=fH n x :=
 Gn h (uV n x) (by rw[hl,oj]) (by rw[hv,uU])
theorem JH{pre o post:List Nat}{i:Nat}(h:i<o.length):(pre++o++post).getD (pre.length+i) 0=o.getD i 0:=by
 rw[br,br,dX,List.getElem?_append_right (by omega),Fd,List.getElem?_append_left h]
theorem TG{pre o post:List Nat}{i d:Nat}(h:i<o.length):(pre++o++post).set (pre.length+i) d=pre++o.set i d++post:=by
 simp[h]
theorem oE{pre o post:List Nat}{i d:Nat}{x:Int}(h:i<o.length)(hx:x=(d:Int)):some (Bx.arr 173 1 (((pre++o++post).map u32).set (pre.length+i) (.int .u32 x)) false)=some (Bx.arr 173 1 ((pre++o.set i d++post).map u32) false):=by
 rw[xP hx,TG h]
theorem T5(J:Keep){pre mid post v:List Nat}(hm:Dg B9 mid)(hv:Dg B9 v)(hl:v.length<=mid.length)(hs0:(pre++mid++post).length<2^50) :
 be Tryz.prog J.I 204 173 1 pre.length mid.length ((pre++mid++post).map u32) [.sl (v.map u32)] ((pre++fH mid.length (nv B9 mid+nv B9 v)++post).map u32) (.bool (decide (B9^mid.length<=nv B9 mid+nv B9 v))):=by
 have lb:(v.map u32).length=v.length:=by simp
 have hs1:mid.length<2^50:=by simp at hs0;omega
 refine LO Tryz.func204 rfl rfl rfl ?_;repeat((first|refine W.R ?_|refine W.c ?_|refine⟨_,rfl,?_⟩);conv=>whnf)
 refine W.loop (G:={ p:Nat×Nat×List Nat // p.1<=mid.length/\p.2.1<=1/\p.2.2.length=mid.length/\Dg B9 p.2.2/\nv B9 (p.2.2.take p.1)+B9^p.1*p.2.1=nv B9 (mid.take p.1)+nv B9 (v.take p.1)/\p.2.2.drop p.1=mid.drop p.1 })
  (fun p=>aF [(0,.ref aK pre.length mid.length false),(1,.iv (.sl (v.map u32))),(5,.iv (.int .u32 (p.1.2.1:Int))),(9,.iv (.int .i64 (mid.length:Int))),(10,.iv (.int .i64 (p.1.1:Int)))]
    [(aK,.arr 173 1 ((pre++p.1.2.2++post).map u32) false)] 10) (fun p=>mid.length-p.1.1)
  ⟨(0,0,mid),by simp,by simp,rfl,hm,by simp[nv],rfl⟩
  (Wk.tab [] ⟨aa,aa,aa,aa,aa,ab⟩ ⟨rfl,ab⟩ rfl) ?_
 rintro⟨⟨i,c,o⟩,hi,hc,ho,hd,hs,hdr⟩;dsimp only at hi hc ho hd hs hdr;show W J _ _ (aF [(0,.ref aK pre.length mid.length false),(1,.iv (.sl (v.map u32))),(5,.iv (.int .u32 (c:Int))),(9,.iv (.int .i64 (mid.length:Int))),(10,.iv (.int .i64 (i:Int)))]
  [(aK,.arr 173 1 ((pre++o++post).map u32) false)] 10) _
 have lo:((pre++o++post).map u32).length=pre.length+o.length+post.length:=by simp;omega
 have lo2:(pre++o++post).length=pre.length+o.length+post.length:=by simp;omega
 by_cases h:i<mid.length
 . have hx:=gn hm i;have hox:(pre++o++post).getD (pre.length+i) 0=mid.getD i 0:=by rw[JH (by omega)];exact drop_getD hdr
   by_cases h2:i<v.length
   . have hy:=gn hv i;by_cases h3:1000000000<=mid.getD i 0+c+v.getD i 0
     . have hp:=oz (d:=mid.getD i 0+c+v.getD i 0-1000000000) (c':=1) (show i<o.length by omega) hs (by omega);have hq:=drop_set (d:=mid.getD i 0+c+v.getD i 0-1000000000) hdr;repeat((first|refine W.R ?_|refine W.c ?_|refine ap (by omega) ?_|refine⟨rfl,_,ew (by omega),?_⟩|refine⟨_,_,rfl,bi (by omega),rfl,?_⟩|refine⟨(rfl:(_:Nat)=_),_,rfl,by omega,?_⟩|refine⟨_,bi (by omega),?_⟩|refine⟨bt,_,bi (by omega),?_⟩|refine xT (by omega) ?_|refine⟨_,rfl,?_⟩|refine xr ?_);conv=>whnf)
       exact⟨⟨(i+1,1,o.set i (mid.getD i 0+c+v.getD i 0-1000000000)),by dsimp only;omega,by dsimp only;omega,by dsimp only;rw[cO];exact ho,hd.set (by simp only[B9];omega),hp,hq⟩,
        Wk.tab [] ⟨aa,aa,aa,aa,aa,ab⟩ ⟨oE (by omega) (by omega),ab⟩ rfl,by dsimp only;omega⟩
     . have hp:=oz (d:=mid.getD i 0+c+v.getD i 0) (c':=0) (show i<o.length by omega) hs (by omega);have hq:=drop_set (d:=mid.getD i 0+c+v.getD i 0) hdr;repeat((first|refine W.R ?_|refine W.c ?_|refine ap (by omega) ?_|refine⟨rfl,_,ew (by omega),?_⟩|refine⟨_,_,rfl,bi (by omega),rfl,?_⟩|refine⟨(rfl:(_:Nat)=_),_,rfl,by omega,?_⟩|refine⟨_,bi (by omega),?_⟩|refine⟨bt,_,bi (by omega),?_⟩|refine xT (by omega) ?_|refine xF (by omega) ?_|refine⟨_,rfl,?_⟩|refine xr ?_);conv=>whnf)
       exact⟨⟨(i+1,0,o.set i (mid.getD i 0+c+v.getD i 0)),by dsimp only;omega,by dsimp only;omega,by dsimp only;rw[cO];exact ho,hd.set (by simp only[B9];omega),hp,hq⟩,
        Wk.tab [] ⟨aa,aa,aa,aa,aa,ab⟩ ⟨oE (by omega) (by omega),ab⟩ rfl,by dsimp only;omega⟩
   . have hy:v.getD i 0=0:=by simp[Nat.not_lt.1 h2]
     by_cases h3:1000000000<=mid.getD i 0+c
     . have hp:=oz (d:=mid.getD i 0+c-1000000000) (c':=1) (show i<o.length by omega) hs (by omega);have hq:=drop_set (d:=mid.getD i 0+c-1000000000) hdr;repeat((first|refine W.R ?_|refine W.c ?_|refine ap (by omega) ?_|refine⟨rfl,_,ew (by omega),?_⟩|refine⟨(rfl:(_:Nat)=_),_,rfl,by omega,?_⟩|refine⟨_,bi (by omega),?_⟩|refine⟨bt,_,bi (by omega),?_⟩|refine xT (by omega) ?_|refine xF (by omega) ?_|refine⟨_,rfl,?_⟩|refine xr ?_);conv=>whnf)
       exact⟨⟨(i+1,1,o.set i (mid.getD i 0+c-1000000000)),by dsimp only;omega,by dsimp only;omega,by dsimp only;rw[cO];exact ho,hd.set (by simp only[B9];omega),hp,hq⟩,
        Wk.tab [] ⟨aa,aa,aa,aa,aa,ab⟩ ⟨oE (by omega) (by omega),ab⟩ rfl,by dsimp only;omega⟩
     . have hp:=oz (d:=mid.getD i 0+c) (c':=0) (show i<o.length by omega) hs (by omega);have hq:=drop_set (d:=mid.getD i 0+c) hdr;repeat((first|refine W.R ?_|refine W.c ?_|refine ap (by omega) ?_|refine⟨rfl,_,ew (by omega),?_⟩|refine⟨(rfl:(_:Nat)=_),_,rfl,by omega,?_⟩|refine⟨_,bi (by omega),?_⟩|refine⟨bt,_,bi (by omega),?_⟩|refine xT (by omega) ?_|refine xF (by omega) ?_|refine⟨_,rfl,?_⟩|refine xr ?_);conv=>whnf)
       exact⟨⟨(i+1,0,o.set i (mid.getD i 0+c)),by dsimp only;omega,by dsimp only;omega,by dsimp only;rw[cO];exact ho,hd.set (by simp only[B9];omega),hp,hq⟩,
        Wk.tab [] ⟨aa,aa,aa,aa,aa,ab⟩ ⟨oE (by omega) (by omega),ab⟩ rfl,by dsimp only;omega⟩
 . have hil:i=mid.length:=by omega
   have hlt:=fk hd;rw[ho] at hlt;rw[hil,aC (by omega),aC (ak _),aC (by omega)] at hs;have hpad:o=fH mid.length (nv B9 mid+nv B9 v):=Dq hd ho (by rw[<-hs,AH,fX hlt]);by_cases hc0:c=0
   . subst hc0;repeat((first|refine W.R ?_|refine W.c ?_|refine xF (by omega) ?_|refine⟨false,bne_eq_false_iff_eq.2 (by omega),?_⟩|refine xr ?_);conv=>whnf)
     refine⟨?_,?_,rfl⟩
     . refine aJ IV.bool (bl ?_).symm;omega
     . rw[<-hpad];rfl
   . have hc1:c=1:=by omega
     subst hc1;repeat((first|refine W.R ?_|refine W.c ?_|refine xF (by omega) ?_|refine⟨true,bne_iff_ne.2 (by omega),?_⟩|refine xr ?_);conv=>whnf)
     refine⟨?_,?_,rfl⟩
     . refine aJ IV.bool (aZ ?_).symm;omega
     . rw[<-hpad];rfl
theorem yx{mid v o:List Nat}{i c w x q r w' t:Nat}(hi:i<o.length)(hs:nv B9 (o.take i)+t*nv B9 (v.take i)=nv B9 (mid.take i)+B9^i*(c+w))(hC:c+t*v.getD i 0=r+1000000000*q)(hx:x+r+w=mid.getD i 0+1000000000*w') :
 nv B9 ((o.set i x).take (i+1))+t*nv B9 (v.take (i+1))=nv B9 (mid.take (i+1))+B9^(i+1)*(q+w'):=by
 rw[pG hi,jS v,jS mid,bW,wt t];have:=Ga (B:=B9) (A:=o.take i) (x:=x) (s:=t*v.getD i 0) (y:=mid.getD i 0) (c':=q+w') (by simp;omega) hs (by simp only[B9];omega);omega
theorem xO{v:List Nat}{i c q r t:Nat}(hs:B9^i*c<=t*nv B9 (v.take i))(hC:c+t*v.getD i 0=r+1000000000*q):B9^(i+1)*q<=t*nv B9 (v.take (i+1)):=by
 rw[jS v,bW,wt t,cr,dZ];have e:B9^i*(c+t*v.getD i 0)=B9^i*(r+B9*q):=by rw[hC]
 rw[bW,bW] at e;omega
theorem T6(J:Keep){pre mid post v:List Nat}{t:Nat}(ht:t<1000000000)(hm:Dg B9 mid)(hv:Dg B9 v)(hl:v.length+1<=mid.length)(hs0:(pre++mid++post).length<2^50) :
 be Tryz.prog J.I 203 173 1 pre.length mid.length ((pre++mid++post).map u32) [.sl (v.map u32),.int .u64 t] ((pre++fH mid.length (nv B9 mid+B9^mid.length-t*nv B9 v)++post).map u32) (.bool (decide (nv B9 mid<t*nv B9 v))):=by
 have lb:(v.map u32).length=v.length:=by simp
 have hs1:mid.length<2^50:=by simp at hs0;omega
 refine LO Tryz.func203 rfl rfl rfl ?_;repeat((first|refine W.R ?_|refine W.c ?_|refine⟨_,rfl,?_⟩);conv=>whnf)
 refine W.loop (G:={ p:Nat×Nat×Nat×List Nat // p.1<=mid.length/\p.2.1<1000000000/\p.2.2.1<=1/\p.2.2.2.length=mid.length/\Dg B9 p.2.2.2/\nv B9 (p.2.2.2.take p.1)+t*nv B9 (v.take p.1)=nv B9 (mid.take p.1)+B9^p.1*(p.2.1+p.2.2.1)/\B9^p.1*p.2.1<=t*nv B9 (v.take p.1)/\p.2.2.2.drop p.1=mid.drop p.1 })
  (fun p=>aF [(0,.ref aK pre.length mid.length false),(1,.iv (.sl (v.map u32))),(2,.iv (.int .u64 (t:Int))),(7,.iv (.int .u64 (p.1.2.1:Int))),(8,.iv (.int .i64 (p.1.2.2.1:Int))),(12,.iv (.int .i64 (mid.length:Int))),(13,.iv (.int .i64 (p.1.1:Int)))]
    [(aK,.arr 173 1 ((pre++p.1.2.2.2++post).map u32) false)] 10) (fun p=>mid.length-p.1.1)
  ⟨(0,0,0,mid),by simp,by simp,by simp,rfl,hm,by simp[nv],by simp,rfl⟩
  (Wk.tab [] ⟨aa,aa,aa,aa,aa,aa,aa,ab⟩ ⟨rfl,ab⟩ rfl) ?_
 rintro⟨⟨i,c,w,o⟩,hi,hc,hw,ho,hd,hs,hcs,hdr⟩;dsimp only at hi hc hw ho hd hs hcs hdr;show W J _ _ (aF [(0,.ref aK pre.length mid.length false),(1,.iv (.sl (v.map u32))),(2,.iv (.int .u64 (t:Int))),(7,.iv (.int .u64 (c:Int))),(8,.iv (.int .i64 (w:Int))),(12,.iv (.int .i64 (mid.length:Int))),(13,.iv (.int .i64 (i:Int)))]
  [(aK,.arr 173 1 ((pre++o++post).map u32) false)] 10) _
 have lo:((pre++o++post).map u32).length=pre.length+o.length+post.length:=by simp;omega
 have lo2:(pre++o++post).length=pre.length+o.length+post.length:=by simp;omega
 by_cases h:i<mid.length
 . have hx:=gn hm i;have hox:(pre++o++post).getD (pre.length+i) 0=mid.getD i 0:=by rw[JH (by omega)];exact drop_getD hdr
   have hy:=gn hv i;have hxy:=Hg ht hy;have hxyi:(t:Int)*(v.getD i 0:Int)=((t*v.getD i 0:Nat):Int):=rfl;obtain⟨q,hQ⟩:∃q,(c+t*v.getD i 0)/1000000000=q:=⟨_,rfl⟩;obtain⟨r,hR⟩:∃q,(c+t*v.getD i 0)%1000000000=q:=⟨_,rfl⟩;have hCC:c+t*v.getD i 0=r+1000000000*q:=by omega
   by_cases h2:i<v.length
   . have hq:IntKind.wrap .u64 (((c:Int)+(t:Int)*(v.getD i 0:Int)).tdiv 1000000000)=((q:Nat):Int):=by
      rw[hxyi,show(c:Int)+((t*v.getD i 0:Nat):Int)=((c+t*v.getD i 0:Nat):Int) by omega,y8,hQ];exact eH (by omega)
     have hm':((c:Int)+(t:Int)*(v.getD i 0:Int)).tmod 1000000000=((r:Nat):Int):=by
      rw[hxyi,show(c:Int)+((t*v.getD i 0:Nat):Int)=((c+t*v.getD i 0:Nat):Int) by omega,vf,hR]
     by_cases h3:mid.getD i 0<r+w
     . have hp:=yx (x:=mid.getD i 0+1000000000-r-w) (w':=1) (show i<o.length by omega) hs hCC (by omega);have hcq:=xO hcs hCC;have hdq:=drop_set (d:=mid.getD i 0+1000000000-r-w) hdr;repeat((first|refine W.R ?_|refine W.c ?_|refine⟨by omega,_,hq,?_⟩|refine⟨by omega,_,hm',?_⟩|refine ap (by omega) ?_|refine⟨rfl,_,eH (by omega),?_⟩|refine⟨_,_,rfl,bi (by omega),rfl,?_⟩|refine⟨(rfl:(_:Nat)=_),_,rfl,by omega,?_⟩|refine⟨_,bi (by omega),?_⟩|refine⟨bt,_,bi (by omega),?_⟩|refine⟨_,dv (by omega),?_⟩|refine⟨_,ew (by omega),?_⟩|refine⟨_,eH (by omega),?_⟩|refine xT (by omega) ?_|refine⟨_,rfl,?_⟩|refine xr ?_);conv=>whnf)
       exact⟨⟨(i+1,q,1,o.set i (mid.getD i 0+1000000000-r-w)),by dsimp only;omega,by dsimp only;omega,by dsimp only;omega,by dsimp only;rw[cO];exact ho,hd.set (by simp only[B9];omega),hp,hcq,hdq⟩,
        Wk.tab [] ⟨aa,aa,aa,aa,aa,aa,aa,ab⟩ ⟨oE (by omega) (by omega),ab⟩ rfl,by dsimp only;omega⟩
     . have hp:=yx (x:=mid.getD i 0-r-w) (w':=0) (show i<o.length by omega) hs hCC (by omega);have hcq:=xO hcs hCC;have hdq:=drop_set (d:=mid.getD i 0-r-w) hdr;repeat((first|refine W.R ?_|refine W.c ?_|refine⟨by omega,_,hq,?_⟩|refine⟨by omega,_,hm',?_⟩|refine ap (by omega) ?_|refine⟨rfl,_,eH (by omega),?_⟩|refine⟨_,_,rfl,bi (by omega),rfl,?_⟩|refine⟨(rfl:(_:Nat)=_),_,rfl,by omega,?_⟩|refine⟨_,bi (by omega),?_⟩|refine⟨bt,_,bi (by omega),?_⟩|refine⟨_,dv (by omega),?_⟩|refine⟨_,ew (by omega),?_⟩|refine⟨_,eH (by omega),?_⟩|refine xT (by omega) ?_|refine xF (by omega) ?_|refine⟨_,rfl,?_⟩|refine xr ?_);conv=>whnf)
       exact⟨⟨(i+1,q,0,o.set i (mid.getD i 0-r-w)),by dsimp only;omega,by dsimp only;omega,by dsimp only;omega,by dsimp only;rw[cO];exact ho,hd.set (by simp only[B9];omega),hp,hcq,hdq⟩,
        Wk.tab [] ⟨aa,aa,aa,aa,aa,aa,aa,ab⟩ ⟨oE (by omega) (by omega),ab⟩ rfl,by dsimp only;omega⟩
   . have hy0:v.getD i 0=0:=by simp[Nat.not_lt.1 h2]
     rw[hy0,jR,fA] at hQ hR;have hq:IntKind.wrap .u64 ((c:Int).tdiv 1000000000)=((q:Nat):Int):=by
      rw[y8,hQ];exact eH (by omega)
     have hm':(c:Int).tmod 1000000000=((r:Nat):Int):=by
      rw[vf,hR]
     by_cases h3:mid.getD i 0<r+w
     . have hp:=yx (x:=mid.getD i 0+1000000000-r-w) (w':=1) (show i<o.length by omega) hs hCC (by omega);have hcq:=xO hcs hCC;have hdq:=drop_set (d:=mid.getD i 0+1000000000-r-w) hdr;repeat((first|refine W.R ?_|refine W.c ?_|refine⟨by omega,_,hq,?_⟩|refine⟨by omega,_,hm',?_⟩|refine ap (by omega) ?_|refine⟨(rfl:(_:Nat)=_),_,rfl,by omega,?_⟩|refine⟨_,bi (by omega),?_⟩|refine⟨bt,_,bi (by omega),?_⟩|refine⟨_,dv (by omega),?_⟩|refine⟨_,ew (by omega),?_⟩|refine xT (by omega) ?_|refine xF (by omega) ?_|refine⟨_,rfl,?_⟩|refine xr ?_);conv=>whnf)
       exact⟨⟨(i+1,q,1,o.set i (mid.getD i 0+1000000000-r-w)),by dsimp only;omega,by dsimp only;omega,by dsimp only;omega,by dsimp only;rw[cO];exact ho,hd.set (by simp only[B9];omega),hp,hcq,hdq⟩,
        Wk.tab [] ⟨aa,aa,aa,aa,aa,aa,aa,ab⟩ ⟨oE (by omega) (by omega),ab⟩ rfl,by dsimp only;omega⟩
     . have hp:=yx (x:=mid.getD i 0-r-w) (w':=0) (show i<o.length by omega) hs hCC (by omega);have hcq:=xO hcs hCC;have hdq:=drop_set (d:=mid.getD i 0-r-w) hdr;repeat((first|refine W.R ?_|refine W.c ?_|refine⟨by omega,_,hq,?_⟩|refine⟨by omega,_,hm',?_⟩|refine ap (by omega) ?_|refine⟨(rfl:(_:Nat)=_),_,rfl,by omega,?_⟩|refine⟨_,bi (by omega),?_⟩|refine⟨bt,_,bi (by omega),?_⟩|refine⟨_,dv (by omega),?_⟩|refine⟨_,ew (by omega),?_⟩|refine xT (by omega) ?_|refine xF (by omega) ?_|refine⟨_,rfl,?_⟩|refine xr ?_);conv=>whnf)
       exact⟨⟨(i+1,q,0,o.set i (mid.getD i 0-r-w)),by dsimp only;omega,by dsimp only;omega,by dsimp only;omega,by dsimp only;rw[cO];exact ho,hd.set (by simp only[B9];omega),hp,hcq,hdq⟩,
        Wk.tab [] ⟨aa,aa,aa,aa,aa,aa,aa,ab⟩ ⟨oE (by omega) (by omega),ab⟩ rfl,by dsimp only;omega⟩
 . have hil:i=mid.length:=by omega
   have hlt:=fk hd;rw[ho] at hlt;rw[hil,aC (by omega),aC (ak _),aC (by omega)] at hs;rw[hil,aC (by omega)] at hcs;have hvlt:=fk hv;have htv:t*nv B9 v<B9^mid.length:=by
    have e1:t*nv B9 v<=B9*nv B9 v:=bU _ (nZ ht);have e2:B9*nv B9 v<B9*B9^v.length:=Fe hvlt (by decide);have e3:B9*B9^v.length<=B9^mid.length:=by rw[dD,<-cr];exact dz (by decide) hl
    omega
   have hc0:c=0:=by
    apply iM;intro hne;have:B9^mid.length*1<=B9^mid.length*c:=fK _ (by omega);omega
   rw[hc0,aU] at hs;by_cases hw0:w=0
   . rw[hw0,jR] at hs;have hpad:o=fH mid.length (nv B9 mid+B9^mid.length-t*nv B9 v):=Dq hd ho (by
      rw[show nv B9 mid+B9^mid.length-t*nv B9 v=nv B9 o+B9^mid.length by omega,EY,fX hlt])
     subst hw0;repeat((first|refine W.R ?_|refine W.c ?_|refine xF (by omega) ?_|refine⟨false,bne_eq_false_iff_eq.2 (by omega),?_⟩|refine xr ?_);conv=>whnf)
     refine⟨?_,?_,rfl⟩
     . refine aJ IV.bool (bl ?_).symm;omega
     . rw[<-hpad];rfl
   . have hw1:w=1:=by omega
     rw[hw1,iK] at hs;have hpad:o=fH mid.length (nv B9 mid+B9^mid.length-t*nv B9 v):=Dq hd ho (by
      rw[<-hs,tQ,fX hlt])
     subst hw1;repeat((first|refine W.R ?_|refine W.c ?_|refine xF (by omega) ?_|refine⟨true,bne_iff_ne.2 (by omega),?_⟩|refine xr ?_);conv=>whnf)
     refine⟨?_,?_,rfl⟩
     . refine aJ IV.bool (aZ ?_).symm;omega
     . rw[<-hpad];rfl
theorem VT{x n:Nat}(h1:B9^n<=x)(h2:x<B9^(n+1)):(dg x).length=n+1:=by
 have e1:=t8 (by decide) (cM x) (k:=n+1) (by rw[dH];exact h2);have e2:=fk (cM x).dg;rw[dH] at e2;apply Nat.le_antisymm e1;apply iM;intro hn;have:B9^(dg x).length<=B9^n:=dz (by decide) (by omega);omega
theorem Bp{m:List Nat}{n:Nat}(hl:m.length=n+1):nv B9 m=nv B9 (m.take n)+B9^n*m.getD n 0:=by
 have:=jS m n;rwa[aC (by omega)] at this
theorem RY{m:List Nat}{n:Nat}(hm:Ok B9 m)(hl:m.length=n+1):1<=m.getD n 0:=by
 have h1:=qI hm.nm (by intro e;rw[e] at hl;cases hl) (B:=B9);rw[hl,tQ,Bp hl] at h1;have h2:=fk (hm.dg.take n);rw[cy,hl,cB (by omega)] at h2;apply iM;intro h0;have e:m.getD n 0=0:=by omega
 rw[e,jR] at h1;omega
theorem WF{m:List Nat}{n s:Nat}(hm:Ok B9 m)(hl:m.length=n+1)(hs:s=1000000000/(m.getD n 0+1)) :
 1<=s/\s<1000000000/\B9^n<=nv B9 m*s/\nv B9 m*s<B9^(n+1):=by
 have ht:=RY hm hl;have ht2:=gn hm.dg n;have h1:1<=s:=by rw[hs];exact(Ff (by omega)).2 (by omega)
 have h2:s<1000000000:=by rw[hs];exact Nj (by omega) (by omega)
 have h3:=qI hm.nm (by intro e;rw[e] at hl;cases hl) (B:=B9);rw[hl,tQ] at h3;refine⟨h1,h2,aY h3 (AI _ h1),?_⟩;have h4:=fk (hm.dg.take n);rw[cy,hl,cB (by omega)] at h4;have h5:nv B9 m<B9^n*(m.getD n 0+1):=by rw[Bp hl,bW,iK];omega
 have h6:s*(m.getD n 0+1)<=B9:=by rw[hs];exact tT _ _
 have h7:nv B9 m*s<B9^n*(m.getD n 0+1)*s:=Nl h5 h1;have h8:B9^n*(m.getD n 0+1)*s<=B9^(n+1):=by
  rw[dZ,dD (m.getD n 0+1),cr];exact fK _ h6
 omega
theorem XH{a s Vz9 la n:Nat}{R:List Nat}{b:Nat}(ha:a<B9^la)(hb:B9^n<=b)(hs:1<=s)(hV:Vz9=b*s)(hR:nv B9 R=a*s)(hRl:R.length=la+1)(hn:n<=la):nv B9 (R.drop (la-n))<Vz9:=by
 have h1:=uc B9 R (la-n) (by omega);have h2:a*s<B9^la*s:=Nl ha hs;have h3:B9^la=B9^(la-n)*B9^n:=by rw[<-jq];congr 1;omega
 have h4:B9^n*s<=Vz9:=by rw[hV];exact bU _ hb
 apply Nat.lt_of_mul_lt_mul_left (a:=B9^(la-n));have h5:B9^(la-n)*(B9^n*s)<=B9^(la-n)*Vz9:=fK _ h4;rw[<-dZ,<-h3] at h5;omega
theorem Q6{R:List Nat}{k n Vz9:Nat}(hR:Dg B9 R)(hl:k+n+1<R.length)(hV:Vz9<B9^(n+1))(hlt:nv B9 (R.drop (k+1))<Vz9) :
 nv B9 (R.drop k)=nv B9 ((R.drop k).take (n+2))/\nv B9 (R.drop (k+(n+2)))=0/\nv B9 (R.drop k)<B9*Vz9/\
 R.getD (k+(n+1)) 0*1000000000+R.getD (k+n) 0=nv B9 (R.drop k)/B9^n:=by
 have e1:nv B9 (R.drop k)=R.getD k 0+B9*nv B9 (R.drop (k+1)):=by
  rw[TA B9 R k (by omega),br,a6 (by omega)];rfl
 have hd:=gn hR k;have h3:nv B9 (R.drop k)<B9*Vz9:=by
  have:B9*(nv B9 (R.drop (k+1))+1)<=B9*Vz9:=fK _ hlt;rw[bW] at this;simp only[B9] at this e1 ⊢;omega
 have h4:=uc B9 (R.drop k) (n+2) (by rw[mX];omega);rw[nU] at h4;have h5:nv B9 (R.drop (k+(n+2)))=0:=by
  apply iM;intro hne;have e:B9^(n+2)*1<=B9^(n+2)*nv B9 (R.drop (k+(n+2))):=fK _ (by omega);have e2:B9*Vz9<B9*B9^(n+1):=Fe hV (by decide);have e3:B9*B9^(n+1)=B9^(n+2):=by rw[dD B9 (B9^(n+1)),<-cr]
  omega
 rw[h5,jR,fA] at h4;refine⟨h4,h5,h3,?_⟩;have g1:(R.drop k).getD n 0=R.getD (k+n) 0:=by simp[br]
 have g2:(R.drop k).getD (n+1) 0=R.getD (k+(n+1)) 0:=by simp[br]
 have h6:=jS (R.drop k) (n+1);have h7:=jS (R.drop k) n;rw[g1] at h7;rw[g2,h7,<-h4,cr,dZ] at h6;have h8:=fk ((hR.drop k).take n);rw[cy,mX,cB (by omega)] at h8;have h9:nv B9 (R.drop k)=B9^n*(R.getD (k+(n+1)) 0*1000000000+R.getD (k+n) 0)+nv B9 ((R.drop k).take n):=by
  rw[h6,bW,dD (R.getD (k+(n+1)) 0) 1000000000];simp only[B9];omega
 rw[h9,E9 (gh (by decide)),m4 h8];exact(fA _).symm
theorem Rw{P Vz9 n vt:Nat}(hV0:0<Vz9)(vT:vt=Vz9/B9^n)(hv1:1<=vt)(hlt:P<B9*Vz9):P/Vz9<=min (P/B9^n/vt) 999999999:=by
 apply Nat.le_min.2;constructor
 . rw[AJ (by omega),AJ (gh (by decide))];have h1:vt*B9^n<=Vz9:=by rw[vT];exact tT _ _
   have h2:P/Vz9*Vz9<=P:=tT _ _;have h3:P/Vz9*(vt*B9^n)<=P/Vz9*Vz9:=fK _ h1;rw[dZ];omega
 . have:P/Vz9<B9:=(mZ hV0).2 hlt;simp only[B9] at this;omega
theorem Vn{R O part':List Nat}{k N Vz9 A:Nat}(hkR:k<=R.length)(hkO:k<O.length)(h0:nv B9 (R.drop (k+N))=0)(hp:nv B9 part'=nv B9 (R.drop k)%Vz9)(hA:nv B9 R+B9^(k+1)*(Vz9*nv B9 (O.drop (k+1)))=A) :
 nv B9 (R.take k++part'++R.drop (k+N))+B9^k*(Vz9*nv B9 ((O.set k (nv B9 (R.drop k)/Vz9)).drop k))=A/\nv B9 ((R.take k++part'++R.drop (k+N)).drop k)=nv B9 (R.drop k)%Vz9:=by
 have hl:(R.take k).length=k:=by rw[cy,cB hkR]
 have e1:(R.take k++part'++R.drop (k+N)).drop k=part'++R.drop (k+N):=by
  rw[dX,XW (by omega),pt (by omega),lM]
 have e2:nv B9 (part'++R.drop (k+N))=nv B9 (R.drop k)%Vz9:=by rw[nc,h0,jR,hp];exact fA _
 refine⟨?_,by rw[e1,e2]⟩;rw[dX,nc,hl,e2,FM hkO,iE];have h1:=uc B9 R k hkR;have h2:=nY (nv B9 (R.drop k)) Vz9;rw[<-hA,h1,cr];generalize nv B9 (R.drop k)/Vz9=q at *;generalize nv B9 (R.drop k)%Vz9=r at *;rw[<-h2,bW,bW,bW,dZ (B9^k) B9,wt Vz9 B9];omega
theorem yo(a b:Nat):oW (dg a) (dg b)=aN a b:=by unfold oW;rw[dH,dH]
theorem C3{a b:Nat}(h:a<b):aN a b = -1:=by unfold aN;rw[ay (by omega)]
theorem yp{a b:Nat}(h:b<=a):0<=aN a b:=by unfold aN;split<;>(try split)<;>omega
theorem ID(J:Keep){l:List Nat}{es:List IV}{x:Nat}(h:es=l.map u32)(hl:l.length<2^60)(hd:Dg B9 l)(hv:nv B9 l=x):C J 126 [.sl es] (aL x):=by
 rw[show aL x=bE (strip l) by rw[rZ hd hv]];exact sr J h hl
theorem GL(J:Keep){a b:Nat}(hb:0<b)(hab:a<b\/b<1000000000)(ha:ln a<2^44):C J 171 [aL a,aL b] (.tup [aL (a/b),aL (a%b)]):=by
 have ha':=ha;unfold ln at ha;have la:((dg a).map u32).length=(dg a).length:=by simp
 have lb:((dg b).map u32).length=(dg b).length:=by simp
 refine aH Tryz.func171 rfl rfl rfl ?_;by_cases h:a<b
 . have hc:=C3 h;rw[<-yo] at hc;repeat((first|refine W.R ?_|refine W.c ?_|refine⟨_,yj J (cM a) (cM b) (by omega),?_⟩|refine xT (by omega) ?_|refine xr ?_);conv=>whnf)
   rw[m4 h,fX h];show IV.tup [.agg [.sl []],aL a]=_;rw[show aL 0=.agg [.sl []] by rw[show aL 0=bE (dg 0) from rfl,qh];rfl]
 . have dK:b<1000000000:=by omega
   have hc:=yp (Nat.not_lt.1 h);rw[<-yo] at hc;have hd:dg b=[b]:=(vm ⟨og dK,by intro d hd;simp at hd;omega⟩ (by simp[nv])).symm;have hl:(dg b).length=1:=by rw[hd];rfl
   have he:(dg b).getD 0 0=b:=by rw[hd];rfl
   repeat((first|refine W.R ?_|refine W.c ?_|refine⟨_,yj J (cM a) (cM b) (by omega),?_⟩|refine⟨_,T7 J (a:=a) (d:=(dg b).getD 0 0) (by omega) (by omega) ha',?_⟩|refine⟨0,_,rfl,bi (by omega),rfl,?_⟩|refine xT (by omega) ?_|refine xF (by omega) ?_|refine⟨_,rfl,?_⟩|refine xr ?_);conv=>whnf)
   rw[he];rfl
theorem UC{x:List Nat}{N:Nat}(h:x.length<=N):splice (List.replicate N (u32 0)) 0 (List.take (Nat.min (x.map u32).length N) (x.map u32))=(x++List.replicate (N-x.length) 0).map u32:=by
 unfold splice;have e:Nat.min (x.map u32).length N=x.length:=by rw[bR];exact cB h
 rw[e,wh,lM,aC (by simp),aU,bR,List.drop_replicate,dE,wo]
theorem R0{x n:Nat}(hl:(dg x).length=n+1):(dg x).getD n 0=x/B9^n:=by
 have h1:=Bp hl;rw[dH] at h1;have h2:=fk ((cM x).dg.take n);rw[cy,hl,cB (by omega)] at h2;have h3:x/B9^n=(nv B9 ((dg x).take n)+B9^n*(dg x).getD n 0)/B9^n:=by rw[<-h1]
 rw[h3,Nn _ _ (gh (by decide)),m4 h2];exact(aU _).symm
theorem VX{a b:Nat}(h:a≠b):Nat.beq a b=false:=by
 cases hb:Nat.beq a b
 . rfl
 . exact absurd (av hb) h
theorem iC(a s:Nat):ln (a*s)<=ln a+ln s:=li (by
 rw[jq];exact Nat.mul_lt_mul'' (nu a) (nu s))
theorem RB(J:Keep){a b:Nat}(hab:b<=a)(hb:1000000000<=b)(ha:ln a<2^40):C J 171 [aL a,aL b] (.tup [aL (a/b),aL (a%b)]):=by
 have ha':=ha;unfold ln at ha;obtain⟨l,hl0⟩:∃l,l=dg a:=⟨_,rfl⟩;obtain⟨m,hm0⟩:∃m,m=dg b:=⟨_,rfl⟩;have hol:Ok B9 l:=by rw[hl0];exact cM a
 have hom:Ok B9 m:=by rw[hm0];exact cM b
 have hvl:nv B9 l=a:=by rw[hl0];exact dH a
 have hvm:nv B9 m=b:=by rw[hm0];exact dH b
 have hml:m.length<=l.length:=t8 (by decide) hom (by have:=fk hol.dg;omega);obtain⟨n,hn⟩:∃n,m.length=n+2:=by
  refine⟨m.length-2,?_⟩;have h9:=fk hom.dg;have h2:2<=m.length:=by
   apply iM;intro hh;have h8:B9^m.length<=B9^1:=dz (by decide) (by omega);rw[rB] at h8;have h7:B9=1000000000:=rfl;omega
  omega
 have hc:=yp hab;rw[<-yo] at hc;have la:((dg a).map u32).length=l.length:=by rw[hl0];simp
 have lb:((dg b).map u32).length=n+2:=by rw[<-hm0];simp[hn]
 have lb2:(dg b).length=n+2:=by rw[<-hm0];exact hn
 have hlen:l.length<2^40:=by rw[hl0];exact ha
 obtain⟨s,hs⟩:∃s,s=1000000000/(m.getD (n+1) 0+1):=⟨_,rfl⟩;obtain⟨hs1,hs2,hV1,hV2⟩:=WF hom hn hs;rw[hvm] at hV1 hV2;have vT:=gn hom.dg (n+1);have hvt2:(dg b).getD (n+1) 0<1000000000:=by rw[<-hm0];exact vT
 have hsc:IntKind.wrap .u32 ((1000000000:Int).tdiv (((dg b).getD (n+1) 0:Int)+1))=((s:Nat):Int):=by
  rw[<-hm0,show((m.getD (n+1) 0:Nat):Int)+1=((m.getD (n+1) 0+1:Nat):Int) by omega,show(1000000000:Int)=((1000000000:Nat):Int) from rfl,nr,<-hs];exact ew (by omega)
 have hls:ln s<=1:=li (by simp only[B9];omega);have hlb:ln b=n+2:=lb2;have hvl2:ln a=l.length:=by rw[hl0];rfl
 have lv:(dg (b*s)).length=n+2:=VT hV1 hV2;have lv2:((dg (b*s)).map u32).length=n+2:=by simp[lv]
 refine aH Tryz.func171 rfl rfl rfl ?_;repeat((first|refine W.R ?_|refine W.c ?_|refine⟨_,yj J (cM a) (cM b) (by omega),?_⟩|refine⟨by omega,_,hsc,?_⟩|refine⟨n+1,_,by omega,bi (by omega),rfl,?_⟩|refine ap (by omega) ?_|refine⟨rfl,_,ew (by omega),?_⟩|refine⟨_,eH (by omega),?_⟩|refine xF (by omega) ?_|refine⟨_,rfl,?_⟩|refine xr ?_);conv=>whnf)
 refine⟨_,kV J (n:=s) (by omega),?_⟩;conv=>whnf
 refine W.weak (Y':=aF [(2,.ptr 0 0),(3,.ptr 1 0),(4,.ptr 2 0),(5,.ptr 3 0),(6,.ptr 4 0)] [(0,.var (aL a)),(1,.var (aL b)),(2,.var (.agg [.sl []])),(3,.var (.agg [.sl []])),(4,.var (aL s))] 30)
  (Wk.tab [(4,26)] ⟨aa,aa,aa,aa,aa,ab⟩ ⟨rfl,rfl,rfl,rfl,rfl,ab⟩ rfl) ?_
 clear hsc vT hvt2 hc;refine W.RS ?_;conv=>whnf
 refine⟨_,l9 J (a:=b) (b:=s) (by omega),?_⟩;conv=>whnf
 refine W.RS ?_;conv=>whnf
 refine⟨_,rfl,?_⟩;conv=>whnf
 refine W.RS ?_;conv=>whnf
 refine⟨_,rfl,?_⟩;conv=>whnf
 refine⟨rfl,_,dv (by omega),?_⟩;conv=>whnf
 refine⟨rfl,_,kr _,?_⟩;conv=>whnf
 refine⟨by show 4*_<=(281474976710656:Nat);omega,by unfold maxLen;omega,?_⟩;conv=>whnf
 refine W.RS ?_;conv=>whnf
 refine⟨_,l9 J (a:=a) (b:=s) (by omega),?_⟩;conv=>whnf
 refine⟨bt,rfl,LS,?_,_,rfl,?_⟩
 . rw[AK];omega
 conv=>whnf
 refine W.RS ?_;conv=>whnf
 refine⟨_,rfl,?_⟩;conv=>whnf
 refine⟨rfl,_,dv (by omega),?_⟩;conv=>whnf
 refine⟨rfl,l.length-(n+1),by omega,?_⟩;refine⟨by show 4*_<=(281474976710656:Nat);omega,by unfold maxLen;omega,?_⟩;conv=>whnf
 refine W.S ?_;refine W.RS ?_;conv=>whnf
 refine⟨_,rfl,?_⟩;conv=>whnf
 refine⟨rfl,_,dv (by omega),?_⟩;conv=>whnf
 have hR0l:(dg (a*s)).length<=l.length+1:=by
  have h1:=iC a s;unfold ln at h1 hls hvl2;omega
 have hR0:nv B9 (dg (a*s)++List.replicate (l.length+1-(dg (a*s)).length) 0)=a*s:=by
  rw[nc,wH,dH];exact fA _
 have hR0len:(dg (a*s)++List.replicate (l.length+1-(dg (a*s)).length) 0).length=l.length+1:=by simp;omega
 have hini:=XH (n:=n+1) (la:=l.length) (Vz9:=b*s) (a:=a) (b:=b) (by have:=fk hol.dg;rwa[hvl] at this) (by
  have:=qI hom.nm (by intro e;rw[e] at hn;cases hn) (B:=B9);rwa[hn,hvm] at this) hs1 rfl hR0 hR0len (by omega)
 repeat (first|(refine W.S ?_)|(refine W.block ?_))
 refine W.loop (G:={ p:Nat×List Nat×List Nat // p.1<=l.length-(n+1)/\p.2.1.length=l.length+1/\Dg B9 p.2.1/\p.2.2.length=l.length-(n+1)/\Dg B9 p.2.2/\nv B9 p.2.1+B9^p.1*(b*s*nv B9 (p.2.2.drop p.1))=a*s/\nv B9 (p.2.1.drop p.1)<b*s })
  (fun p=>aF [(2,.ptr 0 0),(3,.ptr 1 0),(4,.ptr 2 0),(5,.ptr 3 0),(6,.ptr 4 0),(7,.iv (.sl ((dg (b*s)).map u32))),(8,.iv (.int .i64 ((n+2:Nat):Int))),(9,.ref 5 0 (l.length+1) true),(10,.ref 6 0 (l.length-(n+1)) true),(11,.iv (.int .i64 ((p.1.1:Int)-1)))]
    [(0,.var (aL a)),(1,.var (aL b)),(2,.var (.agg [.sl []])),(3,.var (.agg [.sl []])),(4,.var (aL s)),(5,.arr 173 1 (p.1.2.1.map u32) false),(6,.arr 173 1 (p.1.2.2.map u32) false)] 70) (fun p=>p.1.1)
  ⟨(l.length-(n+1),dg (a*s)++List.replicate (l.length+1-(dg (a*s)).length) 0,List.replicate (l.length-(n+1)) 0),ak _,hR0len,(cM _).dg.append (Dg.replicate (by decide) _),by simp,Dg.replicate (by decide) _,
   by dsimp only;rw[hR0,pt (by simp),Vx,jR,jR,fA],hini⟩
  (Wk.tab [(5,42),(6,54)] ⟨aa,aa,aa,aa,aa,aa,⟨dm (by omega),rfl⟩,⟨qG (by omega),rfl⟩,⟨qG (by omega),rfl⟩,aa,ab⟩
    ⟨rfl,rfl,rfl,rfl,rfl,sY ?_,sY ?_,ab⟩ rfl) ?_
 . rw[la];exact UC (by simpa using hR0l)
 . rw[wo];rfl
 rintro⟨⟨k,R,O⟩,hk,hRl,hRd,hOl,hOd,hA,hlt⟩;dsimp only at hk hRl hRd hOl hOd hA hlt;show W J _ _ (aF [(2,.ptr 0 0),(3,.ptr 1 0),(4,.ptr 2 0),(5,.ptr 3 0),(6,.ptr 4 0),(7,.iv (.sl ((dg (b*s)).map u32))),(8,.iv (.int .i64 ((n+2:Nat):Int))),(9,.ref 5 0 (l.length+1) true),(10,.ref 6 0 (l.length-(n+1)) true),(11,.iv (.int .i64 ((k:Int)-1)))]
  [(0,.var (aL a)),(1,.var (aL b)),(2,.var (.agg [.sl []])),(3,.var (.agg [.sl []])),(4,.var (aL s)),(5,.arr 173 1 (R.map u32) false),(6,.arr 173 1 (O.map u32) false)] 70) _
 clear hini hR0 hR0l hR0len;have lR:(R.map u32).length=R.length:=by simp
 have lO:(O.map u32).length=O.length:=by simp
 by_cases h:k=0
 . subst h;simp only[bL,tU,pq] at hA hlt;have hb0:0<b:=by omega
   have hbs:0<b*s:=n0 hb0 hs1;have e1:nv B9 O=a/b:=by
    have:a*s/(b*s)=nv B9 O:=by rw[<-hA,Nn _ _ hbs,m4 hlt,aU]
    rw[<-this,Nat.mul_div_mul_right _ _ hs1]
   have e2:nv B9 R=a%b*s:=by
    have:a*s%(b*s)=nv B9 R:=by rw[<-hA,AH,fX hlt]
    rw[<-this,Nat.mul_mod_mul_right]
   have h3:ln (a%b*s)<2^44:=by
    have h1:=iC (a%b) s;have h2:ln (a%b)<=l.length:=li (jP (Nat.mod_le _ _) (by have:=fk hol.dg;rwa[hvl] at this));omega
   repeat((first|refine W.R ?_|refine W.c ?_|refine⟨_,ID J (l:=R) (es:=List.take (l.length+1) (List.drop 0 (R.map u32))) (x:=a%b*s) (by rw[bL,aC (by omega)]) (by omega) hRd e2,?_⟩|refine⟨_,GL J (a:=a%b*s) (b:=s) hs1 (.inr hs2) h3,?_⟩|refine⟨_,ID J (l:=O) (es:=List.take (l.length-(n+1)) (List.drop 0 (O.map u32))) (x:=a/b) (by rw[bL,aC (by omega)]) (by omega) hOd e1,?_⟩|refine xF (by omega) ?_|refine xr ?_);conv=>whnf)
   rw[Nat.mul_div_cancel _ hs1];rfl
 . obtain⟨k,rfl⟩:∃j,k=j+1:=⟨k-1,by omega⟩;have hO:k<O.length:=by omega
   obtain⟨p1,p2,p3,p4⟩:=Q6 (n:=n+1) (k:=k) hRd (by omega) hV2 hlt;have hvt3:=R0 lv;have hVpos:0<b*s:=g7 (gh (by decide)) hV1;have hvt1:1<=(dg (b*s)).getD (n+1) 0:=by rw[hvt3];exact(Ff (gh (by decide))).2 hV1
   have hvt4:=gn (cM (b*s)).dg (n+1);have hgg:=Rw hVpos hvt3 hvt1 p3;obtain⟨P,hP⟩:∃P,nv B9 (R.drop k)=P:=⟨_,rfl⟩;obtain⟨gq,hgq0⟩:∃q,(R.getD (0+(k+(n+2))) 0*1000000000+R.getD (0+(k+(n+1))) 0)/(dg (b*s)).getD (n+1) 0=q:=⟨_,rfl⟩;have z1:R.getD (0+(k+(n+2))) 0=R.getD (k+(n+2)) 0:=by rw[aU]
   have z2:R.getD (0+(k+(n+1))) 0=R.getD (k+(n+1)) 0:=by rw[aU]
   have d1:=gn hRd (0+(k+(n+2)));have d2:=gn hRd (0+(k+(n+1)));have hgq1:gq<=R.getD (0+(k+(n+2))) 0*1000000000+R.getD (0+(k+(n+1))) 0:=by rw[<-hgq0];exact m5 _ _
   rw[hP] at p1 p3 p4 hgg;have hgq2:P/B9^(n+1)/(dg (b*s)).getD (n+1) 0=gq:=by rw[<-p4,<-hgq0,z1,z2]
   rw[hgq2] at hgg;have hgq:IntKind.wrap .u64 (((R.getD (0+(k+(n+2))) 0:Int)*1000000000+(R.getD (0+(k+(n+1))) 0:Int)).tdiv ((dg (b*s)).getD (n+1) 0:Int))=((gq:Nat):Int):=by
    rw[show(R.getD (0+(k+(n+2))) 0:Int)*1000000000+(R.getD (0+(k+(n+1))) 0:Int)=((R.getD (0+(k+(n+2))) 0*1000000000+R.getD (0+(k+(n+1))) 0:Nat):Int) by omega,nr,hgq0];exact eH (by omega)
   obtain⟨g,hg⟩:∃g,min gq 999999999=g:=⟨_,rfl⟩;rw[hg] at hgg;have hmin:(if(999999999:Int)<(gq:Int) then(999999999:Int) else(gq:Int))=(g:Int):=by rw[<-hg];split<;>omega
   have hg1:g<1000000000:=by omega
   clear hgq0 hgq1 hgq2 hvt3 p4;obtain⟨mid,hmid⟩:∃x,x=(R.drop k).take (n+3):=⟨_,rfl⟩;have hmidl:mid.length=n+3:=by rw[hmid,cy,mX];omega
   have hmidd:Dg B9 mid:=by rw[hmid];exact(hRd.drop k).take _
   have hmidv:nv B9 mid=P:=by rw[hmid];exact p1.symm
   have hprel:(R.take k).length=0+k:=by rw[cy];omega
   have hRe:R.take k++mid++R.drop (k+(n+3))=R:=by
    rw[hmid,dX,<-nU,jQ,jQ]
   have hsub:be Tryz.prog J.I 203 173 1 (0+k) (k+(n+2)+1-k) (R.map u32) [.sl ((dg (b*s)).map u32),.int .u64 g] ((R.take k++fH (n+3) (P+B9^(n+3)-g*(b*s))++R.drop (k+(n+3))).map u32) (.bool (decide (P<g*(b*s)))):=by
    have h:=T6 J (pre:=R.take k) (mid:=mid) (post:=R.drop (k+(n+3))) (v:=dg (b*s)) (t:=g) hg1 hmidd (cM _).dg (by omega) (by rw[hRe];omega);rw[hRe,hprel,hmidl,hmidv,dH] at h;rw[show k+(n+2)+1-k=n+3 by omega];exact h
   have hlenp:∀x:List Nat,x.length=n+3->(R.take k++x++R.drop (k+(n+3))).length=R.length:=fun x hx=>by
    rw[bF,bF,mX,hprel,hx];omega
   have hgive:∀part:List Nat,part.length=n+3->Dg B9 part->be Tryz.prog J.I 204 173 1 (0+k) (k+(n+2)+1-k) ((R.take k++part++R.drop (k+(n+3))).map u32) [.sl ((dg (b*s)).map u32)] ((R.take k++fH (n+3) (nv B9 part+b*s)++R.drop (k+(n+3))).map u32) (.bool (decide (B9^(n+3)<=nv B9 part+b*s))):=fun part h1 h2=>by
    have h:=T5 J (pre:=R.take k) (mid:=part) (post:=R.drop (k+(n+3))) (v:=dg (b*s)) h2 (cM _).dg (by omega) (by rw[hlenp part h1];omega);rw[hprel,h1,dH] at h;rw[show k+(n+2)+1-k=n+3 by omega];exact h
   have hgV:g*(b*s)<B9^(n+3):=by
    have e1:g*(b*s)<=B9*(b*s):=bU _ (nZ hg1);have e2:B9*(b*s)<B9*B9^(n+2):=Fe hV2 (by decide);have e3:B9*B9^(n+2)=B9^(n+3):=by rw[dD B9 (B9^(n+2)),<-cr]
    omega
   have hPN:P<B9^(n+3):=by
    have e2:B9*(b*s)<B9*B9^(n+2):=Fe hV2 (by decide);have e3:B9*B9^(n+2)=B9^(n+3):=by rw[dD B9 (B9^(n+2)),<-cr]
    omega
   have hqV:P/(b*s)*(b*s)<=P:=tT _ _;have hVN:b*s<B9^(n+3):=g7 hV2 (dz (by decide) (by omega));have hend:∀part':List Nat,part'.length=n+3->Dg B9 part'->nv B9 part'=P%(b*s)->∀q,q=P/(b*s)->
    (k<=l.length-(n+1)/\(R.take k++part'++R.drop (k+(n+3))).length=l.length+1/\Dg B9 (R.take k++part'++R.drop (k+(n+3)))/\(O.set k q).length=l.length-(n+1)/\Dg B9 (O.set k q)/\
      nv B9 (R.take k++part'++R.drop (k+(n+3)))+B9^k*(b*s*nv B9 ((O.set k q).drop k))=a*s/\nv B9 ((R.take k++part'++R.drop (k+(n+3))).drop k)<b*s):=by
    intro part' h1 h2 h3 q hq;obtain⟨o1,o2⟩:=Vn (part':=part') (N:=n+3) (A:=a*s) (Vz9:=b*s) (show k<=R.length by omega) hO p2 (by rw[h3,hP]) hA;rw[hP,<-hq] at o1;rw[hP] at o2;refine⟨by omega,?_,((hRd.take k).append h2).append (hRd.drop _),by rw[cO];exact hOl,hOd.set ?_,o1,by rw[o2];exact iy _ hVpos⟩
    . rw[bF,bF,mX,h1];omega
    . have:P/(b*s)<B9:=(mZ hVpos).2 p3;omega
   rw[show(((k+1:Nat):Int)-1)=(k:Int) by omega];clear hs hls hlb hvl2 ha' hs2 hV1 hV2 ha la lb lb2 hmidv hmidl hmidd hRe;repeat((first|refine W.R ?_|refine W.c ?_|refine⟨by omega,_,hgq,?_⟩|refine⟨(rfl:(_:Nat)=_),k+(n+2),zy _ _,by omega,?_⟩|refine⟨(rfl:(_:Nat)=_),k+(n+1),by omega,by omega,?_⟩|refine⟨n+1,_,by omega,bi (by omega),rfl,?_⟩|refine⟨(g:Int),hmin,?_⟩|refine⟨(rfl:(_:Nat)=_),k+(n+2)+1,by omega,k+(n+2)+1,by omega,k,rfl,by omega,by omega,by omega,.inr (by simp),false,VX (by omega),?_⟩|refine ap (by omega) ?_|refine⟨rfl,_,eH (by omega),?_⟩|refine⟨_,bi (by omega),?_⟩|refine⟨_,eH (by omega),?_⟩|refine xT (by omega) ?_|refine xr ?_);conv=>whnf)
   by_cases hlt2:P<g*(b*s)
   . rw[aZ hlt2] at hsub;refine⟨bt,_,_,hsub,by rw[bR,bR,hlenp _ (oj _ _)],?_⟩;conv=>whnf
     repeat (first|(refine W.RS ?_;conv=>whnf)|(refine W.block ?_)|(refine W.condT rfl ?_))
     refine W.loop (G:={ p:Bool×Nat×List Nat // p.2.2.length=n+3/\Dg B9 p.2.2/\(p.1=false->nv B9 p.2.2+p.2.1*(b*s)=P+B9^(n+3)/\P<p.2.1*(b*s)/\p.2.1<1000000000)/\(p.1=true->nv B9 p.2.2=P%(b*s)/\p.2.1=P/(b*s)) })
      (fun p=>aF [(2,.ptr 0 0),(3,.ptr 1 0),(4,.ptr 2 0),(5,.ptr 3 0),(6,.ptr 4 0),(7,.iv (.sl ((dg (b*s)).map u32))),(8,.iv (.int .i64 ((n+2:Nat):Int))),(9,.ref 5 0 (l.length+1) true),(10,.ref 6 0 (l.length-(n+1)) true),(11,.iv (.int .i64 (k:Int))),(13,.iv (.int .u64 (p.1.2.1:Int))),(14,.ref 5 (0+k) (k+(n+2)+1-k) false),(15,.iv (.bool p.1.1))]
        [(0,.var (aL a)),(1,.var (aL b)),(2,.var (.agg [.sl []])),(3,.var (.agg [.sl []])),(4,.var (aL s)),(5,.arr 173 1 ((R.take k++p.1.2.2++R.drop (k+(n+3))).map u32) false),(6,.arr 173 1 (O.map u32) false)] 300) (fun p=>bif p.1.1 then 0 else p.1.2.1)
      ⟨(false,g,fH (n+3) (P+B9^(n+3)-g*(b*s))),oj _ _,uV _ _,fun _=>⟨by
       dsimp only;rw[uU,fX (by omega)];omega,hlt2,hg1⟩,fun e=>by cases e⟩
      (Wk.tab [] ⟨aa,aa,aa,aa,aa,aa,aa,aa,aa,aa,aa,aa,aa,ab⟩ ⟨rfl,rfl,rfl,rfl,rfl,rfl,rfl,ab⟩ rfl) ?_
     rintro⟨⟨made,g',part⟩,hpl,hpd,hpf,hpt⟩;dsimp only at hpl hpd hpf hpt;show W J _ _ (aF [(2,.ptr 0 0),(3,.ptr 1 0),(4,.ptr 2 0),(5,.ptr 3 0),(6,.ptr 4 0),(7,.iv (.sl ((dg (b*s)).map u32))),(8,.iv (.int .i64 ((n+2:Nat):Int))),(9,.ref 5 0 (l.length+1) true),(10,.ref 6 0 (l.length-(n+1)) true),(11,.iv (.int .i64 (k:Int))),(13,.iv (.int .u64 (g':Int))),(14,.ref 5 (0+k) (k+(n+2)+1-k) false),(15,.iv (.bool made))]
      [(0,.var (aL a)),(1,.var (aL b)),(2,.var (.agg [.sl []])),(3,.var (.agg [.sl []])),(4,.var (aL s)),(5,.arr 173 1 ((R.take k++part++R.drop (k+(n+3))).map u32) false),(6,.arr 173 1 (O.map u32) false)] 300) _
     cases made with
     |true=>
      obtain⟨hv1,hq1⟩:=hpt rfl;have hq9:P/(b*s)<1000000000:=(mZ hVpos).2 (by simp only[B9] at p3;exact p3);repeat((first|refine W.R ?_|refine W.c ?_|refine ap (by omega) ?_|refine⟨(rfl:(_:Nat)=_),_,rfl,by omega,?_⟩|refine⟨bt,_,bi (by omega),?_⟩|refine⟨_,ew (by omega),?_⟩|refine⟨false,beq_eq_false_iff_ne.2 (by omega),?_⟩);conv=>whnf)
      have he:=hend part hpl hpd hv1 g' hq1;exact⟨⟨(k,R.take k++part++R.drop (k+(n+3)),O.set k g'),he⟩,
       Wk.tab [] ⟨aa,aa,aa,aa,aa,aa,aa,aa,aa,aa,ab⟩ ⟨rfl,rfl,rfl,rfl,rfl,rfl,k9 (by omega) (by omega),ab⟩ rfl,by dsimp only;omega⟩
     |false=>
      obtain⟨hv1,hl1,hg9⟩:=hpf rfl;have hg0:0<g':=by
       apply iM;intro hh;have:g'=0:=by omega
       rw[this,mW] at hl1;omega
      obtain⟨g',rfl⟩:∃j,g'=j+1:=⟨g'-1,by omega⟩;rw[bP,pq] at hv1 hl1;have hgi:=hgive part hpl hpd;have hgl:((R.take k++fH (n+3) (nv B9 part+b*s)++R.drop (k+(n+3))).map u32).length=((R.take k++part++R.drop (k+(n+3))).map u32).length:=by
       rw[bR,bR,hlenp _ (oj _ _),hlenp _ hpl]
      by_cases hmd:B9^(n+3)<=nv B9 part+b*s
      . rw[aZ hmd] at hgi;have hgood:nv B9 (fH (n+3) (nv B9 part+b*s))=P%(b*s)/\g'=P/(b*s):=by
         have e1:g'*(b*s)<=P:=by omega
         have e2:nv B9 (fH (n+3) (nv B9 part+b*s))=P-g'*(b*s):=by
          rw[uU,show nv B9 part+b*s=(P-g'*(b*s))+B9^(n+3) by omega,EY,fX (by omega)]
         have e3:g'=P/(b*s):=(Nat.div_eq_of_lt_le e1 (by rw[bP,pq];exact hl1)).symm;refine⟨?_,e3⟩;have e:=nY P (b*s);rw[<-e3,dD] at e;omega
        repeat((first|refine W.R ?_|refine W.c ?_|refine⟨bt,_,_,hgi,hgl,?_⟩|refine⟨rfl,_,eH (by omega),?_⟩|refine⟨_,rfl,?_⟩);conv=>whnf)
        refine⟨⟨(true,g',fH (n+3) (nv B9 part+b*s)),oj _ _,uV _ _,fun e=>(by cases e),fun _=>hgood⟩,
         Wk.tab [] ⟨aa,aa,aa,aa,aa,aa,aa,aa,aa,aa,⟨dm (by dsimp only;omega),rfl⟩,aa,aa,ab⟩ ⟨rfl,rfl,rfl,rfl,rfl,rfl,rfl,ab⟩ rfl,?_⟩
        show 0<g'+1;omega
      . rw[bl hmd] at hgi;have hgood:nv B9 (fH (n+3) (nv B9 part+b*s))+g'*(b*s)=P+B9^(n+3)/\P<g'*(b*s)/\g'<1000000000:=by
         have e2:nv B9 (fH (n+3) (nv B9 part+b*s))=nv B9 part+b*s:=by
          rw[uU,fX (by omega)]
         rw[e2];omega
        repeat((first|refine W.R ?_|refine W.c ?_|refine⟨bt,_,_,hgi,hgl,?_⟩|refine⟨rfl,_,eH (by omega),?_⟩|refine⟨_,rfl,?_⟩);conv=>whnf)
        refine⟨⟨(false,g',fH (n+3) (nv B9 part+b*s)),oj _ _,uV _ _,fun _=>hgood,fun e=>(by cases e)⟩,
         Wk.tab [] ⟨aa,aa,aa,aa,aa,aa,aa,aa,aa,aa,⟨dm (by dsimp only;omega),rfl⟩,aa,aa,ab⟩ ⟨rfl,rfl,rfl,rfl,rfl,rfl,rfl,ab⟩ rfl,?_⟩
        show g'<g'+1;omega
   . rw[bl hlt2] at hsub;have hq:g=P/(b*s):=by
      have e:=(AJ hVpos).2 (Nat.not_lt.1 hlt2);omega
     have hpv:nv B9 (fH (n+3) (P+B9^(n+3)-g*(b*s)))=P%(b*s):=by
      rw[uU,show P+B9^(n+3)-g*(b*s)=(P-g*(b*s))+B9^(n+3) by omega,EY,fX (by omega)];have e:=nY P (b*s);rw[<-hq,dD] at e;omega
     refine⟨bt,_,_,hsub,by rw[bR,bR,hlenp _ (oj _ _)],?_⟩;repeat (first|((first|refine W.R ?_|refine W.skip ?_|refine ap (by omega) ?_|refine⟨(rfl:(_:Nat)=_),_,rfl,by omega,?_⟩|refine⟨bt,_,bi (by omega),?_⟩|refine⟨_,ew (by omega),?_⟩);conv=>whnf)|(refine W.condF rfl ?_))
     have he:=hend _ (oj _ _) (uV _ _) hpv g hq;exact⟨⟨(k,R.take k++fH (n+3) (P+B9^(n+3)-g*(b*s))++R.drop (k+(n+3)),O.set k (g)),he⟩,
      Wk.tab [] ⟨aa,aa,aa,aa,aa,aa,aa,aa,aa,aa,ab⟩ ⟨rfl,rfl,rfl,rfl,rfl,rfl,k9 (by omega) (by omega),ab⟩ rfl,by dsimp only;omega⟩
theorem CX(J:Keep){a b:Nat}(hb:0<b)(ha:ln a<2^40):C J 171 [aL a,aL b] (.tup [aL (a/b),aL (a%b)]):=by
 by_cases h:a<b\/b<1000000000
 . exact GL J hb h (by omega)
 . exact RB J (by omega) (by omega) ha
theorem jX{a b:Nat}(h:a<=b):ln a<=ln b:=li (jP h (nu b))
theorem Dv{a:Nat}(h:ln a<=2):a<1000000000000000000:=by
 have h1:=nu a;have h2:B9^ln a<=B9^2:=dz (by decide) h;have h3:B9^2=1000000000000000000:=by decide
 omega
theorem JJ{a:Nat}(h:ln a=0):a=0:=by
 have h1:=nu a;rw[h,tU] at h1;omega
theorem KW{a:Nat}(h:0<a):0<ln a:=by
 apply iM;intro hh;have:=JJ (a:=a) (by omega);omega
theorem Uf(J:Keep)(hw:∀n,ln n<=2->C J 201 [aL n] (.int .u64 n)){a b:Nat}(ha:ln a<2^40)(hb:ln b<2^40):C J 169 [aL a,aL b] (aL (Nat.gcd a b)):=by
 refine aH Tryz.func169 rfl rfl rfl ?_;repeat((first|refine W.R ?_|refine W.c ?_);conv=>whnf)
 refine W.loop (G:={ p:Nat×Nat // Nat.gcd p.1 p.2=Nat.gcd a b/\ln p.1<2^40/\ln p.2<2^40 }) (fun p=>aF [(2,.ptr 0 0),(3,.ptr 1 0),(4,.ptr 2 0)] [(0,.var (aL p.1.1)),(1,.var (aL p.1.2)),(2,.var (.agg [.sl []]))] 10) (fun p=>p.1.2)
  ⟨(a,b),rfl,ha,hb⟩ (Wk.tab [] ⟨aa,aa,aa,ab⟩ ⟨rfl,rfl,rfl,ab⟩ rfl) ?_
 rintro⟨⟨x,y⟩,hg,hx,hy⟩;dsimp only at hg hx hy;show W J _ _ (aF [(2,.ptr 0 0),(3,.ptr 1 0),(4,.ptr 2 0)] [(0,.var (aL x)),(1,.var (aL y)),(2,.var (.agg [.sl []]))] 10) _;have lx:((dg x).map u32).length=ln x:=by simp[ln]
 have ly:((dg y).map u32).length=ln y:=by simp[ln]
 by_cases h0:y=0
 . have hly:ln y=0:=by subst h0;unfold ln;rw[qh];rfl
   have hz:((((dg y).map u32).length:Int)==0)=true:=by rw[ly,hly];rfl
   have hz2:=sw J ((dg y).map u32);rw[hz] at hz2;repeat((first|refine W.R ?_|refine W.c ?_|refine⟨_,hz2,?_⟩|refine⟨_,rfl,?_⟩);conv=>whnf)
   rw[<-hg,h0,Fg];rfl
 . have hlp:=KW (a:=y) (by omega);have hz:((((dg y).map u32).length:Int)==0)=false:=by rw[ly];exact beq_eq_false_iff_ne.2 (by omega)
   have hz2:=sw J ((dg y).map u32);rw[hz] at hz2;have hbig:C J 171 [aL x,aL y] (.tup [aL (x/y),aL (x%y)]):=CX J (by omega) hx;have hym:x%y<y:=iy _ (by omega);have hgn:Nat.gcd y (x%y)=Nat.gcd a b:=by rw[<-hg,rC x y,Fh y x,rC]
   have hlm:ln (x%y)<2^40:=jP (jX (nZ hym)) hy;by_cases h1:ln x<=2
   . by_cases h2:ln y<=2
     . have bx:=Dv h1;have bY:=Dv h2;repeat((first|refine W.R ?_|refine W.c ?_|refine⟨_,hz2,?_⟩|refine⟨_,hw x h1,?_⟩|refine⟨_,hw y h2,?_⟩|refine xT (by omega) ?_|refine⟨_,rfl,?_⟩|refine xr ?_|refine xB ?_);conv=>whnf)
       refine W.loop (G:={ p:Nat×Nat // Nat.gcd p.1 p.2=Nat.gcd a b/\p.1<1000000000000000000/\p.2<1000000000000000000 }) (fun p=>aF [(2,.ptr 0 0),(3,.ptr 1 0),(4,.ptr 2 0),(5,.iv (.int .u64 (p.1.1:Int))),(6,.iv (.int .u64 (p.1.2:Int)))] [(0,.var (aL x)),(1,.var (aL y)),(2,.var (.agg [.sl []]))] 40) (fun p=>p.1.2)
        ⟨(x,y),hg,bx,bY⟩ (Wk.tab [] ⟨aa,aa,aa,aa,aa,ab⟩ ⟨rfl,rfl,rfl,ab⟩ rfl) ?_
       rintro⟨⟨u,v⟩,hg2,hu,hv⟩;dsimp only at hg2 hu hv;show W J _ _ (aF [(2,.ptr 0 0),(3,.ptr 1 0),(4,.ptr 2 0),(5,.iv (.int .u64 (u:Int))),(6,.iv (.int .u64 (v:Int)))] [(0,.var (aL x)),(1,.var (aL y)),(2,.var (.agg [.sl []]))] 40) _;by_cases h3:v=0
       . subst h3;repeat((first|refine W.R ?_|refine W.c ?_|refine⟨_,kV J (n:=u) (by omega),?_⟩|refine⟨false,bne_eq_false_iff_eq.2 (by omega),?_⟩|refine xr ?_);conv=>whnf)
         rw[<-hg2,Fg];rfl
       . have hvm:u%v<v:=iy _ (by omega);have hm:=mn u v;obtain⟨r,hr⟩:∃r,u%v=r:=⟨_,rfl⟩;rw[hr] at hm hvm;repeat((first|refine W.R ?_|refine W.c ?_|refine⟨by omega,_,hm,?_⟩|refine⟨true,bne_iff_ne.2 (by omega),?_⟩|refine xr ?_);conv=>whnf)
         exact⟨⟨(v,r),by rw[<-hg2,<-hr,rC u v,Fh v u,rC],hv,by dsimp only;omega⟩,Wk.tab [] ⟨aa,aa,aa,aa,aa,ab⟩ ⟨rfl,rfl,rfl,ab⟩ rfl,hvm⟩
     . repeat((first|refine W.R ?_|refine W.c ?_|refine⟨_,hz2,?_⟩|refine⟨_,hbig,?_⟩|refine xT (by omega) ?_|refine xF (by omega) ?_|refine⟨_,rfl,?_⟩|refine xr ?_|refine xB ?_);conv=>whnf)
       exact⟨⟨(y,x%y),hgn,hy,hlm⟩,Wk.tab [] ⟨aa,aa,aa,ab⟩ ⟨rfl,rfl,rfl,ab⟩ rfl,hym⟩
   . repeat((first|refine W.R ?_|refine W.c ?_|refine⟨_,hz2,?_⟩|refine⟨_,hbig,?_⟩|refine xF (by omega) ?_|refine⟨_,rfl,?_⟩|refine xr ?_|refine xA ?_);conv=>whnf)
     exact⟨⟨(y,x%y),hgn,hy,hlm⟩,Wk.tab [] ⟨aa,aa,aa,ab⟩ ⟨rfl,rfl,rfl,ab⟩ rfl,hym⟩
theorem Lv{x y:Nat}(h:x=y):some (Bx.var (aL x))=some (Bx.var (aL y)):=by rw[h]
theorem qk:ln 1=1:=by
 have h1:=li (n:=1) (k:=1) (by decide);have h2:=KW (a:=1) (by omega);omega
theorem Dw(a k:Nat):ln (a^k)<=k*ln a+1:=by
 induction k with
 |zero=>rw[tU,qk];omega
 |succ k ih=>
  have h1:=li (n:=a^(k+1)) (k:=(k+1)*ln a+1) (by
   have e:∀k,a^(k+1)<B9^((k+1)*ln a+1):=fun k=>by
    rw[dD,cr B9,Nat.pow_mul];have h2:a^(k+1)<=(B9^ln a)^(k+1):=No (nZ (nu a)) _;have h3:0<(B9^ln a)^(k+1):=gh (gh (by decide));have h4:(B9^ln a)^(k+1)*2<=(B9^ln a)^(k+1)*B9:=fK _ (by decide);omega
   exact e k)
  exact h1
theorem J7(J:Keep){a n:Nat}(hn:n<2^30)(hl:(n+1)*ln a<2^40):C J 165 [aL a,.int .i64 n] (aL (a^n)):=by
 refine aH Tryz.func165 rfl rfl rfl ?_;repeat((first|refine W.R ?_|refine W.c ?_|refine⟨_,kV J (n:=1) (by omega),?_⟩);conv=>whnf)
 refine W.loop (G:={ p:Nat×Nat×Nat // p.1+p.2.1*p.2.2=n/\p.2.1<=n+1/\p.2.2<=n }) (fun p=>aF [(1,.iv (.int .i64 (p.1.2.2:Int))),(2,.ptr 0 0),(4,.ptr 1 0),(5,.ptr 2 0)] [(0,.var (aL (a^p.1.2.1))),(1,.var (.agg [.sl []])),(2,.var (aL (a^p.1.1)))] 10) (fun p=>p.1.2.2)
  ⟨(0,1,n),by dsimp only;omega,by dsimp only;omega,ak _⟩ (Wk.tab [(2,3)] ⟨aa,aa,aa,aa,ab⟩ ⟨Lv (by rw[rB]),rfl,Lv (by rw[tU]),ab⟩ rfl) ?_
 rintro⟨⟨u,w,m⟩,he,hw,hmn⟩;dsimp only at he hw hmn;show W J _ _ (aF [(1,.iv (.int .i64 (m:Int))),(2,.ptr 0 0),(4,.ptr 1 0),(5,.ptr 2 0)] [(0,.var (aL (a^w))),(1,.var (.agg [.sl []])),(2,.var (aL (a^u)))] 10) _;have hu:u<=n:=by omega
 have l1:ln (a^u)<=2^40+1:=by
  have h1:=Dw a u;have h2:u*ln a<=(n+1)*ln a:=bU _ (by omega);omega
 have l2:ln (a^w)<=2^40+1:=by
  have h1:=Dw a w;have h2:w*ln a<=(n+1)*ln a:=bU _ hw;omega
 have hm2:(m:Int).tmod 2=((m%2:Nat):Int):=mn m 2;have hq2:IntKind.wrap .i64 ((m:Int).tdiv 2)=((m/2:Nat):Int):=by
  rw[show(2:Int)=((2:Nat):Int) from rfl,nr];exact dv (by omega)
 obtain⟨q,hq⟩:∃q,m/2=q:=⟨_,rfl⟩;obtain⟨r,hr⟩:∃r,m%2=r:=⟨_,rfl⟩;rw[hq] at hq2;rw[hr] at hm2;have c1:C J 72 [aL (a^u),aL (a^w)] (aL (a^(u+w))):=by
  rw[jq];exact l9 J (by omega)
 have c2:C J 72 [aL (a^w),aL (a^w)] (aL (a^(w+w))):=by
  rw[jq];exact l9 J (by omega)
 have hww:w*m=2*(w*q)+w*r:=by
  have:m=2*q+r:=by omega
  rw[this,bW,wt]
 have hdd:(w+w)*q=2*(w*q):=by rw[<-Nat.two_mul,dZ]
 have hle:w*2<=w*m\/m<2:=by
  rcases fx m 2 with h|h
  . exact .inr h
  . exact .inl (fK _ h)
 by_cases h0:m=0
 . subst h0;repeat((first|refine W.R ?_|refine W.c ?_|refine xF (by omega) ?_|refine xr ?_);conv=>whnf)
   rw[show n=u by omega];rfl
 . by_cases h1:r=1
   . rw[h1,iK] at hww;by_cases h2:m=1
     . have hq0:q=0:=by omega
       rw[hq0,jR] at hww;repeat((first|refine W.R ?_|refine W.c ?_|refine⟨by omega,_,hm2,?_⟩|refine⟨_,c1,?_⟩|refine⟨by omega,_,hq2,?_⟩|refine xT (by omega) ?_|refine xF (by omega) ?_|refine xr ?_);conv=>whnf)
       exact⟨⟨(u+w,w,q),by dsimp only;rw[hq0,jR];omega,hw,by dsimp only;omega⟩,Wk.tab [] ⟨aa,aa,aa,aa,ab⟩ ⟨rfl,rfl,rfl,ab⟩ rfl,by dsimp only;omega⟩
     . repeat((first|refine W.R ?_|refine W.c ?_|refine⟨by omega,_,hm2,?_⟩|refine⟨_,c1,?_⟩|refine⟨_,c2,?_⟩|refine⟨by omega,_,hq2,?_⟩|refine xT (by omega) ?_|refine xr ?_);conv=>whnf)
       exact⟨⟨(u+w,w+w,q),by dsimp only;omega,by dsimp only;omega,by dsimp only;omega⟩,Wk.tab [] ⟨aa,aa,aa,aa,ab⟩ ⟨rfl,rfl,rfl,ab⟩ rfl,by dsimp only;omega⟩
   . have hr0:r=0:=by omega
     rw[hr0,jR] at hww;repeat((first|refine W.R ?_|refine W.c ?_|refine⟨by omega,_,hm2,?_⟩|refine⟨_,c2,?_⟩|refine⟨by omega,_,hq2,?_⟩|refine xT (by omega) ?_|refine xF (by omega) ?_|refine xr ?_);conv=>whnf)
     exact⟨⟨(u,w+w,q),by dsimp only;omega,by dsimp only;omega,by dsimp only;omega⟩,Wk.tab [] ⟨aa,aa,aa,aa,ab⟩ ⟨rfl,rfl,rfl,ab⟩ rfl,by dsimp only;omega⟩
theorem IE(J:Keep)(n:Nat):C J 47 [aL n] (.bool (decide (n=0))):=by
 have h:=sw J ((dg n).map u32);have e:((((dg n).map u32).length:Int)==0)=decide (n=0):=by
  rw[Bool.eq_iff_iff];simp only[bR,wu,dL];constructor
  . intro h0;exact JJ (a:=n) (by unfold ln;omega)
  . rintro rfl;rw[qh];rfl
 rw[e] at h;exact h
noncomputable abbrev sg(m:Bool)(n:Nat):IV:=.agg [.sl ((dg n).map u32),.bool m]
def sv(m:Bool)(n:Nat):Int:=if m then -(n:Int) else(n:Int)
noncomputable abbrev zd(z:Int):IV:=sg (decide (z<0)) z.natAbs
theorem ou(z:Int):sv (decide (z<0)) z.natAbs=z:=by
 unfold sv;by_cases h:z<0
 . simp[h];omega
 . simp[h];omega
theorem DL{m:Bool}{n:Nat}(h:m=true->n≠0):zd (sv m n)=sg m n:=by
 unfold sv;cases m with
 |true=>
  have:=h rfl;simp only[bD];have e1:decide (-(n:Int)<0)=true:=aZ (by omega);have e2:(-(n:Int)).natAbs=n:=by omega
  rw[zd,e1,e2]
 |false=>
  simp only[dx,bG];have e1:decide ((n:Int)<0)=false:=bl (by omega);rw[zd,e1,fc]
theorem Ox:zd (sv true 0)=sg false 0:=by
 have:sv true 0=sv false 0:=by simp[sv]
 rw[this];exact DL (by simp)
theorem gL(J:Keep)(m:Bool)(n:Nat):C J 141 [.bool m,aL n] (zd (sv m n)):=by
 refine aH Tryz.func141 rfl rfl rfl ?_;have hz:=IE J n;cases m with
 |false=>
  rw[DL (by simp)];repeat((first|refine W.RS ?_|refine W.ret ?_|refine xr ?_|refine xA ?_);conv=>whnf)
  rfl
 |true=>
  by_cases h0:n=0
  . subst h0;rw[Ox];repeat((first|refine W.RS ?_|refine W.ret ?_|refine⟨_,hz,?_⟩|refine⟨_,rfl,?_⟩|refine xr ?_|refine xB ?_);conv=>whnf)
    rfl
  . rw[bl h0] at hz;rw[DL (fun _=>h0)];repeat((first|refine W.RS ?_|refine W.ret ?_|refine⟨_,hz,?_⟩|refine⟨_,rfl,?_⟩|refine xr ?_|refine xB ?_);conv=>whnf)
    rfl
theorem Uq(J:Keep)(z:Int):C J 112 [zd z] (.int .i64 (aN z 0)):=by
 refine aH Tryz.func112 rfl rfl rfl ?_;have hz:=IE J z.natAbs;by_cases h0:z=0
 . subst h0;repeat((first|refine W.R ?_|refine W.c ?_|refine⟨_,hz,?_⟩);conv=>whnf)
   rfl
 . rw[bl (show ¬z.natAbs=0 by omega)] at hz;by_cases h1:z<0
   . rw[zd,aZ h1];repeat((first|refine W.R ?_|refine W.c ?_|refine⟨_,hz,?_⟩);conv=>whnf)
     simp[hG,aN,h1]
   . rw[zd,bl h1];repeat((first|refine W.R ?_|refine W.c ?_|refine⟨_,hz,?_⟩);conv=>whnf)
     simp[hG,aN,h1];omega
theorem J3(J:Keep){m m':Bool}{n n':Nat}(h:ln n+ln n'<2^44):C J 116 [sg m n,sg m' n'] (zd (sv m n*sv m' n')):=by
 refine aH Tryz.func116 rfl rfl rfl ?_;have hm:=l9 J h;cases m<;>cases m'
 . have e:sv false n*sv false n'=sv false (n*n'):=by simp[sv]
   rw[e];repeat((first|refine W.RS ?_|refine W.ret ?_|refine⟨_,hm,?_⟩|refine⟨_,gL J _ _,?_⟩|refine⟨_,rfl,?_⟩|refine xr ?_);conv=>whnf)
   rfl
 . have e:sv false n*sv true n'=sv true (n*n'):=by simp[sv,Fi]
   rw[e];repeat((first|refine W.RS ?_|refine W.ret ?_|refine⟨_,hm,?_⟩|refine⟨_,gL J _ _,?_⟩|refine⟨_,rfl,?_⟩|refine xr ?_);conv=>whnf)
   rfl
 . have e:sv true n*sv false n'=sv true (n*n'):=by simp[sv,kQ]
   rw[e];repeat((first|refine W.RS ?_|refine W.ret ?_|refine⟨_,hm,?_⟩|refine⟨_,gL J _ _,?_⟩|refine⟨_,rfl,?_⟩|refine xr ?_);conv=>whnf)
   rfl
 . have e:sv true n*sv true n'=sv false (n*n'):=by simp[sv,Fj]
   rw[e];repeat((first|refine W.RS ?_|refine W.ret ?_|refine⟨_,hm,?_⟩|refine⟨_,gL J _ _,?_⟩|refine⟨_,rfl,?_⟩|refine xr ?_);conv=>whnf)
   rfl
theorem IF(J:Keep){a b:Nat}(h:ln a<2^60):C J 73 [aL a,aL b] (.int .i64 (aN a b)):=by
 have:=yj J (cM a) (cM b) h;rwa[yo] at this
theorem Ui(J:Keep){m m':Bool}{n n':Nat}(h:ln n<2^44)(h':ln n'<2^44):C J 125 [sg m n,sg m' n'] (zd (sv m n+sv m' n')):=by
 refine aH Tryz.func125 rfl rfl rfl ?_;have hp:=JY J h h';have hc:=IF J (a:=n) (b:=n') (by omega);cases m<;>cases m'
 . have e:sv false n+sv false n'=sv false (n+n'):=by simp[sv]
   rw[e];repeat((first|refine W.R ?_|refine W.c ?_|refine⟨_,hp,?_⟩|refine⟨_,gL J _ _,?_⟩|refine⟨_,rfl,?_⟩|refine xr ?_);conv=>whnf)
   rfl
 . by_cases hlt:n<n'
   . have e:sv false n+sv true n'=sv true (n'-n):=by simp[sv];omega
     rw[e];rw[C3 hlt] at hc;have hl:=su J (nZ hlt) h';repeat((first|refine W.R ?_|refine W.c ?_|refine⟨_,hc,?_⟩|refine⟨_,hl,?_⟩|refine⟨_,gL J _ _,?_⟩|refine xT (by omega) ?_|refine⟨_,rfl,?_⟩|refine xr ?_);conv=>whnf)
     rfl
   . have e:sv false n+sv true n'=sv false (n-n'):=by simp[sv];omega
     rw[e];have hge:=yp (Nat.not_lt.1 hlt);have hl:=su J (Nat.not_lt.1 hlt) h;repeat((first|refine W.R ?_|refine W.c ?_|refine⟨_,hc,?_⟩|refine⟨_,hl,?_⟩|refine⟨_,gL J _ _,?_⟩|refine xF (by omega) ?_|refine⟨_,rfl,?_⟩|refine xr ?_);conv=>whnf)
     rfl
 . by_cases hlt:n<n'
   . have e:sv true n+sv false n'=sv false (n'-n):=by simp[sv];omega
     rw[e];rw[C3 hlt] at hc;have hl:=su J (nZ hlt) h';repeat((first|refine W.R ?_|refine W.c ?_|refine⟨_,hc,?_⟩|refine⟨_,hl,?_⟩|refine⟨_,gL J _ _,?_⟩|refine xT (by omega) ?_|refine⟨_,rfl,?_⟩|refine xr ?_);conv=>whnf)
     rfl
   . have e:sv true n+sv false n'=sv true (n-n'):=by simp[sv];omega
     rw[e];have hge:=yp (Nat.not_lt.1 hlt);have hl:=su J (Nat.not_lt.1 hlt) h;repeat((first|refine W.R ?_|refine W.c ?_|refine⟨_,hc,?_⟩|refine⟨_,hl,?_⟩|refine⟨_,gL J _ _,?_⟩|refine xF (by omega) ?_|refine⟨_,rfl,?_⟩|refine xr ?_);conv=>whnf)
     rfl
 . have e:sv true n+sv true n'=sv true (n+n'):=by simp[sv];omega
   rw[e];repeat((first|refine W.R ?_|refine W.c ?_|refine⟨_,hp,?_⟩|refine⟨_,gL J _ _,?_⟩|refine⟨_,rfl,?_⟩|refine xr ?_);conv=>whnf)
   rfl
noncomputable abbrev qd(z:Int)(d:Nat):IV:=.agg [.sl ((dg z.natAbs).map u32),.bool (decide (z<0)),.sl ((dg (d-1)).map u32)]
theorem Uk(J:Keep){x y:IV}{d:Nat}(hd:0<d)(h:ln (d-1)<2^44):C J 48 [.agg [x,y,.sl ((dg (d-1)).map u32)]] (aL d):=by
 refine aH Tryz.func48 rfl rfl rfl ?_;have h1:ln 1<2^44:=by rw[qk];omega
 have hp:=JY J h h1;rw[show d-1+1=d by omega] at hp;repeat((first|refine W.RS ?_|refine W.ret ?_|refine⟨_,kV J (n:=1) (by omega),?_⟩|refine⟨_,hp,?_⟩|refine xr ?_);conv=>whnf)
 rfl
structure Base(J:Keep):Prop where
 word:∀n,ln n<=2->C J 201 [aL n] (.int .u64 n)
noncomputable abbrev qr(q:Rat):IV:=qd q.num q.den
theorem pM{z:Int}{d:Nat}(hd:0<d):(mkRat z d).num=sv (decide (z<0)) (z.natAbs/Nat.gcd z.natAbs d):=by
 have h0:¬d=0:=by omega
 rw[mkRat,dif_neg h0,Rat.normalize_eq];show z/((Nat.gcd z.natAbs d:Nat):Int)=_;have hg:Nat.gcd z.natAbs d∣z.natAbs:=Nat.gcd_dvd_left _ _;generalize Nat.gcd z.natAbs d=g at hg;unfold sv;by_cases hz:z<0
 . obtain⟨n,rfl⟩:∃n:Nat,z = -(n:Int):=⟨z.natAbs,by omega⟩;have e:(-(n:Int)).natAbs=n:=by omega
   rw[e] at hg ⊢;rw[aZ hz,ay rfl,Int.neg_ediv_of_dvd (Int.natCast_dvd_natCast.2 hg)];rfl
 . obtain⟨n,rfl⟩:∃n:Nat,z=(n:Int):=⟨z.natAbs,by omega⟩;rw[bl hz,fc];rfl
theorem rT{z:Int}{d:Nat}(hd:0<d):(mkRat z d).den=d/Nat.gcd z.natAbs d:=by
 have h0:¬d=0:=by omega
 rw[mkRat,dif_neg h0,Rat.normalize_eq]
theorem CZ{J:Keep}(B:Base J){z:Int}{d:Nat}(hd:0<d)(hz:ln z.natAbs<2^40)(hl:ln d<2^40):C J 115 [zd z,aL d] (qr (mkRat z d)):=by
 refine aH Tryz.func115 rfl rfl rfl ?_;obtain⟨g,hg⟩:∃g,Nat.gcd z.natAbs d=g:=⟨_,rfl⟩;have hg0:0<g:=by rw[<-hg];exact Nat.gcd_pos_of_pos_right _ hd
 have hgd:g∣d:=by rw[<-hg];exact Nat.gcd_dvd_right _ _
 have hgn:g<=d:=Nat.le_of_dvd hd hgd;have hdg:1<=d/g:=(Ff hg0).2 hgn;have c1:=Uf J B.word hz hl;rw[hg] at c1;have c2:=Ue J g;have hnum:=pM (z:=z) hd;have hden:=rT (z:=z) hd;rw[hg] at hnum hden;have c5:C J 141 [.bool (decide (z<0)),aL (z.natAbs/g)] (zd (mkRat z d).num):=by rw[hnum];exact gL J _ _
 have c6:C J 166 [aL (d/g),aL 1] (aL ((mkRat z d).den-1)):=by
  rw[hden];exact su J hdg (jP (jX (m5 _ _)) (by omega))
 by_cases h1:g=1
 . rw[aZ h1] at c2;rw[h1,rD] at c5 c6;rw[h1] at c1 c2;repeat((first|refine W.R ?_|refine W.c ?_|refine⟨_,c1,?_⟩|refine⟨_,c2,?_⟩|refine⟨_,c5,?_⟩|refine⟨_,kV J (n:=1) (by omega),?_⟩|refine⟨_,c6,?_⟩|refine⟨_,rfl,?_⟩|refine xr ?_);conv=>whnf)
   rfl
 . rw[bl h1] at c2;have c3:=CX J (a:=z.natAbs) hg0 hz;have c4:=CX J (a:=d) hg0 hl;repeat((first|refine W.R ?_|refine W.c ?_|refine⟨_,c1,?_⟩|refine⟨_,c2,?_⟩|refine⟨_,c3,?_⟩|refine⟨_,c4,?_⟩|refine⟨_,c5,?_⟩|refine⟨_,kV J (n:=1) (by omega),?_⟩|refine⟨_,c6,?_⟩|refine⟨_,rfl,?_⟩|refine xr ?_);conv=>whnf)
   rfl
theorem J2(J:Keep){x y:Int}(h:ln x.natAbs+ln y.natAbs<2^44):C J 116 [zd x,zd y] (zd (x*y)):=by
 have:=J3 J (m:=decide (x<0)) (m':=decide (y<0)) h;rwa[ou,ou] at this
theorem J1(J:Keep){x:Int}{n:Nat}(h:ln x.natAbs+ln n<2^44):C J 116 [zd x,sg false n] (zd (x*(n:Int))):=by
 have:=J3 J (m:=decide (x<0)) (m':=false) h;rwa[ou] at this
theorem Uh(J:Keep){x y:Int}(h:ln x.natAbs<2^44)(h':ln y.natAbs<2^44):C J 125 [zd x,zd y] (zd (x+y)):=by
 have:=Ui J (m:=decide (x<0)) (m':=decide (y<0)) h h';rwa[ou,ou] at this
theorem Hh(a b:Nat):ln (a+b)<=ln a+ln b+1:=li (by
 have h1:=nu a;have h2:=nu b;have h3:B9^ln a<=B9^(ln a+ln b):=dz (by decide) (by omega);have h4:B9^ln b<=B9^(ln a+ln b):=dz (by decide) (by omega);have h5:B9^(ln a+ln b)*2<=B9^(ln a+ln b)*B9:=fK _ (by decide);rw[cr];omega)
noncomputable def al(q:Rat):Nat:=ln q.num.natAbs+ln q.den
theorem fh(q:Rat):0<q.den:=Fk q.den_nz
theorem mj(J:Keep){q:Rat}(h:al q<2^44):C J 48 [qr q] (aL q.den) :=
 Uk J (fh q) (jP (jX (Nat.sub_le _ _)) (by unfold al at h;omega))
theorem qq(J:Keep)(q:Rat):C J 52 [qr q] (.int .i64 (aN q.num 0)):=by
 refine aH Tryz.func52 rfl rfl rfl ?_;have h:=Uq J q.num;repeat((first|refine W.RS ?_|refine W.ret ?_|refine⟨_,h,?_⟩);conv=>whnf)
 rfl
theorem UU(z:Int):sv (!decide (z<0)) z.natAbs = -z:=by
 unfold sv;by_cases h:z<0
 . simp[h];omega
 . simp[h];omega
theorem K4(J:Keep)(q:Rat):C J 181 [qr q] (qr (-q)):=by
 refine aH Tryz.func181 rfl rfl rfl ?_;have h:C J 141 [.bool (!decide (q.num<0)),aL q.num.natAbs] (zd (-q).num):=by
  rw[Fm,<-UU];exact gL J _ _
 repeat((first|refine W.RS ?_|refine W.ret ?_|refine⟨_,h,?_⟩|refine⟨_,rfl,?_⟩|refine xr ?_);conv=>whnf)
 rfl
theorem ka{J:Keep}(B:Base J){a b:Rat}(ha:al a<2^38)(hb:al b<2^38):C J 55 [qr a,qr b] (qr (a*b)):=by
 refine aH Tryz.func55 rfl rfl rfl ?_;unfold al at ha hb;have c1:=J2 J (x:=a.num) (y:=b.num) (by omega);have c2:=mj J (q:=a) (by unfold al;omega);have c3:=mj J (q:=b) (by unfold al;omega);have c4:=l9 J (a:=a.den) (b:=b.den) (by omega);have h1:=iC a.num.natAbs b.num.natAbs;have h2:=iC a.den b.den;have c5:=CZ B (z:=a.num*b.num) (d:=a.den*b.den) (n0 (fh a) (fh b)) (by rw[fB];omega) (by omega);rw[<-wv] at c5;repeat((first|refine W.RS ?_|refine W.ret ?_|refine⟨_,c1,?_⟩|refine⟨_,c2,?_⟩|refine⟨_,c3,?_⟩|refine⟨_,c4,?_⟩|refine⟨_,c5,?_⟩|refine xr ?_);conv=>whnf)
 rfl
theorem mi{J:Keep}(B:Base J){a b:Rat}(ha:al a<2^38)(hb:al b<2^38):C J 71 [qr a,qr b] (qr (a+b)):=by
 refine aH Tryz.func71 rfl rfl rfl ?_;unfold al at ha hb;have c1:=J1 J (x:=a.num) (n:=b.den) (by omega);have c1':=J1 J (x:=b.num) (n:=a.den) (by omega);have c2:=mj J (q:=a) (by unfold al;omega);have c3:=mj J (q:=b) (by unfold al;omega);have c4:=l9 J (a:=a.den) (b:=b.den) (by omega);have h1:=iC a.num.natAbs b.den;have h1':=iC b.num.natAbs a.den;have h2:=iC a.den b.den;have e1:(a.num*(b.den:Int)).natAbs=a.num.natAbs*b.den:=by rw[fB,fc]
 have e1':(b.num*(a.den:Int)).natAbs=b.num.natAbs*a.den:=by rw[fB,fc]
 have c6:=Uh J (x:=a.num*(b.den:Int)) (y:=b.num*(a.den:Int)) (by rw[e1];omega) (by rw[e1'];omega);have c5:=CZ B (z:=a.num*(b.den:Int)+b.num*(a.den:Int)) (d:=a.den*b.den) (n0 (fh a) (fh b)) (by
  have h3:=Hh (a.num.natAbs*b.den) (b.num.natAbs*a.den);have h4:(a.num*(b.den:Int)+b.num*(a.den:Int)).natAbs<=a.num.natAbs*b.den+b.num.natAbs*a.den:=by
   rw[<-e1,<-e1'];exact Np _ _
  have h5:=jX h4;omega) (by omega)
 rw[<-Rat.add_def'] at c5;repeat((first|refine W.RS ?_|refine W.ret ?_|refine⟨_,c1,?_⟩|refine⟨_,c1',?_⟩|refine⟨_,c2,?_⟩|refine⟨_,c3,?_⟩|refine⟨_,c4,?_⟩|refine⟨_,c6,?_⟩|refine⟨_,c5,?_⟩|refine xr ?_);conv=>whnf)
 rfl
end Go.Proofs.Fl
namespace Go.Proofs.Fl
theorem Lu(a:Int):Go.IntKind.wrap .u64 a=a%18446744073709551616:=by
 show(let m:=a%(18446744073709551616:Int);if false&&decide (m>=(9223372036854775808:Int)) then m-(18446744073709551616:Int) else m)=_;simp
open Go.RowKit Go.Proofs.Dig
attribute [local irreducible] IntKind.wrap a7 be bq bw
theorem Jx(q:Rat):al (-q)=al q:=by
 unfold al;rw[Fm,ww,Rat.neg_den]
theorem qp{J:Keep}(B:Base J){a b:Rat}(ha:al a<2^38)(hb:al b<2^38):C J 136 [qr a,qr b] (qr (a-b)):=by
 refine aH Tryz.func136 rfl rfl rfl ?_;have c1:=K4 J b;have c2:=mi B ha (b := -b) (by rw[Jx];exact hb);rw[<-Fo] at c2;repeat((first|refine W.RS ?_|refine W.ret ?_|refine⟨_,c1,?_⟩|refine⟨_,c2,?_⟩|refine xr ?_);conv=>whnf)
 rfl
theorem Up{J:Keep}(B:Base J){a b:Rat}(hb0:b≠0)(ha:al a<2^38)(hb:al b<2^38):C J 85 [qr a,qr b] (qr (a/b)):=by
 refine aH Tryz.func85 rfl rfl rfl ?_;unfold al at ha hb;have hn0:b.num≠0:=fun e=>hb0 (Rat.num_eq_zero.1 e);have hn1:0<b.num.natAbs:=by omega
 have c0:=gL J (decide (b.num<0)) b.den;have hsv:sv (decide (b.num<0)) b.den=b.num.sign*(b.den:Int):=by
  unfold sv;by_cases h:b.num<0
  . rw[aZ h,m6 h];simp
  . rw[bl h,lN (by omega)];simp
 rw[hsv] at c0;have hna:(b.num.sign*(b.den:Int)).natAbs=b.den:=by
  rw[<-hsv];unfold sv;split<;>simp
 have c1:=J2 J (x:=a.num) (y:=b.num.sign*(b.den:Int)) (by rw[hna];omega);have c2:=mj J (q:=a) (by unfold al;omega);have c3:=mj J (q:=b) (by unfold al;omega);have c4:=l9 J (a:=a.den) (b:=b.num.natAbs) (by omega);have h1:=iC a.num.natAbs b.den;have h2:=iC a.den b.num.natAbs;have c5:=CZ B (z:=a.num*(b.num.sign*(b.den:Int))) (d:=a.den*b.num.natAbs) (n0 (fh a) hn1) (by rw[fB,hna];omega) (by omega);have e:mkRat (a.num*(b.num.sign*(b.den:Int))) (a.den*b.num.natAbs)=a/b:=by
  have hi:b⁻¹.num=b.num.sign*(b.den:Int)/\b⁻¹.den=b.num.natAbs:=by
   show(Rat.inv b).num=_/\(Rat.inv b).den=_;unfold Rat.inv;split
   . rename_i h;rw[m6 h];simp
   . split
     . rename_i h;rw[lN h];simp
     . omega
  rw[tV,<-hi.1,<-hi.2,wv]
 rw[e] at c5;repeat((first|refine W.RS ?_|refine W.ret ?_|refine⟨_,c0,?_⟩|refine⟨_,c1,?_⟩|refine⟨_,c2,?_⟩|refine⟨_,c3,?_⟩|refine⟨_,c4,?_⟩|refine⟨_,c5,?_⟩|refine xr ?_);conv=>whnf)
 rfl
theorem DB{J:Keep}(B:Base J){a b:Rat}(ha:al a<2^38)(hb:al b<2^38)(hb0:b≠0):C J 38 [qr a,qr b] (.tup [qr (a/b),.int .i64 0]):=by
 refine aH Tryz.func38 rfl rfl rfl ?_;have c1:=qq J b;have hn0:b.num≠0:=fun e=>hb0 (Rat.num_eq_zero.1 e);have hc:aN b.num 0≠0:=fun e=>hn0 (rV e);have c2:=Up B hb0 ha hb;repeat((first|refine W.R ?_|refine W.c ?_|refine⟨_,c1,?_⟩|refine⟨_,c2,?_⟩|refine xF (by omega) ?_|refine xr ?_);conv=>whnf)
 rfl
theorem um:qr 0=.agg [.sl [],.bool false,.sl []]:=by
 show IV.agg [.sl ((dg 0).map u32),.bool (decide ((0:Int)<0)),.sl ((dg 0).map u32)]=_;rw[qh];rfl
theorem Un(J:Keep)(z:Int):C J 79 [zd z] (qr (z:Rat)):=by
 refine aH Tryz.func79 rfl rfl rfl ?_;repeat((first|refine W.RS ?_|refine W.ret ?_);conv=>whnf)
 show IV.agg [.sl ((dg z.natAbs).map u32),.bool (decide (z<0)),.sl []]=IV.agg [.sl ((dg z.natAbs).map u32),.bool (decide (z<0)),.sl ((dg 0).map u32)];rw[qh];rfl
theorem Uj(J:Keep){n:Int}(h1 : -9223372036854775808<=n)(h2:n<=9223372036854775807):C J 80 [.int .i64 n] (zd n):=by
 refine aH Tryz.func80 rfl rfl rfl ?_;by_cases h:n<0
 . have hw:IntKind.wrap .u64 (0-IntKind.wrap .u64 n)=((n.natAbs:Nat):Int):=by
    rw[Lu,Lu];omega
   have c1:=kV J (n:=n.natAbs) (by omega);have c2:=gL J true n.natAbs;rw[show sv true n.natAbs=n by simp[sv];omega] at c2;repeat((first|refine W.R ?_|refine W.c ?_|refine⟨_,hw,?_⟩|refine⟨_,c1,?_⟩|refine⟨_,c2,?_⟩|refine xT (by omega) ?_|refine⟨_,rfl,?_⟩|refine xr ?_);conv=>whnf)
   rfl
 . have c1:=kV J (n:=n.natAbs) (by omega);have c2:=gL J false n.natAbs;rw[show sv false n.natAbs=n by simp[sv];omega] at c2;have hw:IntKind.wrap .u64 n=((n.natAbs:Nat):Int):=by rw[eH (by omega)];omega
   repeat((first|refine W.R ?_|refine W.c ?_|refine⟨_,hw,?_⟩|refine⟨_,c1,?_⟩|refine⟨_,c2,?_⟩|refine xF (by omega) ?_|refine xr ?_);conv=>whnf)
   rfl
theorem yP(J:Keep){n:Int}(h1 : -9223372036854775808<=n)(h2:n<=9223372036854775807):C J 36 [.int .i64 n] (qr (n:Rat)):=by
 refine aH Tryz.func36 rfl rfl rfl ?_;have c1:=Uj J h1 h2;have c2:=Un J n;repeat((first|refine W.RS ?_|refine W.ret ?_|refine⟨_,c1,?_⟩|refine⟨_,c2,?_⟩);conv=>whnf)
 rfl
end Go.Proofs.Fl
namespace Go.Proofs.Fl
open Go.RowKit Go.Proofs.Dig
attribute [local irreducible] IntKind.wrap a7 be bq bw
theorem yJ{n:Nat}(h:n<1000000000000000000000000000):ln n<=3:=li (by
 have:B9^3=1000000000000000000000000000:=by decide
 omega)
theorem Jy(z:Int):al (z:Rat)=ln z.natAbs+1:=by
 show ln z.natAbs+ln 1=_;rw[qk]
theorem K6{J:Keep}(B:Base J){n d:Int}(h1 : -9223372036854775808<=n)(h2:n<=9223372036854775807)(h3 : -9223372036854775808<=d)(h4:d<=9223372036854775807)(hd:d≠0):C J 17 [.int .i64 n,.int .i64 d] (.tup [qr ((n:Rat)/(d:Rat)),.int .i64 0]):=by
 refine aH Tryz.func17 rfl rfl rfl ?_;have c1:=yP J h1 h2;have c2:=yP J h3 h4;have l1:=yJ (n:=n.natAbs) (by omega);have l2:=yJ (n:=d.natAbs) (by omega);have hd0:(d:Rat)≠0:=fun e=>hd (by have:=aJ Rat.num e;exact this);have c3:=DB B (a:=(n:Rat)) (b:=(d:Rat)) (by rw[Jy];omega) (by rw[Jy];omega) hd0;repeat((first|refine W.RS ?_|refine W.ret ?_|refine⟨_,c1,?_⟩|refine⟨_,c2,?_⟩|refine⟨_,c3,?_⟩);conv=>whnf)
 rfl
theorem K7(J:Keep)(q:Rat):C J 138 [qr q] (qd (q.num.natAbs:Int) q.den):=by
 refine aH Tryz.func138 rfl rfl rfl ?_;have h:C J 141 [.bool false,aL q.num.natAbs] (zd (q.num.natAbs:Int)):=gL J false _;repeat((first|refine W.RS ?_|refine W.ret ?_|refine⟨_,h,?_⟩|refine xr ?_);conv=>whnf)
 rfl
end Go.Proofs.Fl
